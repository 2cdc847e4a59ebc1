import Derived.Test.YthaoldnmdbdiaaaGreatTb
/- Codes. -/
namespace Go.Cq
open Go.RowKit

structure CI where
  g : Option (Nat × Bool)
  d : Option Nat
  op : COp

structure St where
  ts : Ts
  h : Heap
  c : Nat

def wantedC (ts : Ts) : Option (Nat × Bool) → Option Bool
  | none => some true
  | some (t, want) => match look ts t with
    | some (.v (.one (.bool b))) => some (b == want)
    | some (.tup []) => some false
    | _ => none

def putD (d : Option Nat) (r : CVal) (ts : Ts) : Ts := match d with
  | some d => (d, r) :: ts
  | none => ts

/-- i: the number of a new block; c: the first one that a call may give. -/
def stepI (cl : CallF) (i c : Nat) (ci : CI) (ts : Ts) (h : Heap) : Option St := match wantedC ts ci.g with
  | some true => match ci.op.ev cl i c h ts with
    | some (r, h', c') => some ⟨putD ci.d r ts, h', c'⟩
    | none => none
  | some false => some ⟨putD ci.d (.tup []) ts, h, c⟩
  | none => none

def okI (P : Program) (nt : Nat) (ops : Array Oper) (ci : CI) (o : Oper) : Bool :=
  o.dst == ci.d && (match ci.d with | some d => decide (d < nt) | none => true) && ci.op.ok P o.op &&
  (match ci.g, o.guard with
    | none, none => true
    | some (t, want), some (j, want') => want == want' && ((ops[j]?).bind (·.dst)) == some t
    | _, _ => false)

def seqI (cl : CallF) : List CI → St → Option St
  | [], s => some s
  | ci :: l, s => match stepI cl s.c (s.c + 1) ci s.ts s.h with
    | some s' => seqI cl l s'
    | none => none

def okL (P : Program) (nt : Nat) (ops : Array Oper) : List CI → List Oper → Bool
  | [], [] => true
  | ci :: l, o :: l' => okI P nt ops ci o && okL P nt ops l l'
  | _, _ => false

/-- What holds along a function's code. -/
def Inv (nt : Nat) (K : Nat → Prop) (w0 : World) (A0 : Nat → Nd) (U0 : Nat → Prop) (c0 : Nat) (s : St) (a : Act) (w : World) : Prop :=
  ∃ A U, Sim A s.h U K w0 w ∧ TsOk A U s.ts a.tmps ∧ a.tmps.size = nt ∧ a.defers = [] ∧ (∀ id, s.c ≤ id → ¬ U id) ∧ Ext A0 A U0 ∧ (∀ id, U0 id → U id) ∧ (∀ id, U id → U0 id ∨ c0 ≤ id ∧ id < s.c) ∧ c0 ≤ s.c

section
variable {P : Program} {nt : Nat} {K : Nat → Prop} {w0 : World} {A0 : Nat → Nd} {U0 : Nat → Prop} {c0 : Nat} {cl : CallF} {ops : Array Oper}

theorem yielded_of {A : Nat → Nd} {U : Nat → Prop} {ts : Ts} {tmps : Array Value} (hts : TsOk A U ts tmps) {j t : Nat} {want b : Bool} (hj : ((ops[j]?).bind (·.dst)) = some t) (hw : wantedC ts (some (t, want)) = some b) : (yielded ops tmps j == some want) = b := by
  simp only [wantedC] at hw
  have hget : ∀ {x : CVal}, look ts t = some x → ∃ v, tmps[t]? = some v ∧ valOk A U x v := by
    intro x hx
    obtain ⟨h1, h2⟩ := hts t x hx
    refine ⟨tmps[t], Array.getElem?_eq_getElem h1, ?_⟩
    simpa [Array.getD, h1] using h2
  unfold yielded
  rw [hj]
  simp only [Option.bind_some]
  split at hw
  · rename_i b' hx
    obtain ⟨v, h1, h2⟩ := hget hx
    simp only [valOk, v1Ok, cvVal] at h2
    subst h2
    simp only [Option.some.injEq] at hw
    rw [h1]
    simpa using hw
  · rename_i hx
    obtain ⟨v, h1, us, h2, -, -⟩ := hget hx
    subst h2
    simp only [Option.some.injEq] at hw
    rw [h1]
    simpa using hw
  · simp at hw

theorem okI_parts {ci : CI} {o : Oper} (h : okI P nt ops ci o = true) : o.dst = ci.d ∧ (∀ d, ci.d = some d → d < nt) ∧ ci.op.ok P o.op = true ∧ (ci.g = none ∧ o.guard = none ∨ ∃ t want j, ci.g = some (t, want) ∧ o.guard = some (j, want) ∧ ((ops[j]?).bind (·.dst)) = some t) := by
  unfold okI at h
  simp only [Bool.and_eq_true, beq_iff_eq] at h
  obtain ⟨⟨⟨h1, h2⟩, h3⟩, h4⟩ := h
  refine ⟨h1, fun d hd => by rw [hd] at h2; simpa using h2, h3, ?_⟩
  split at h4
  · rename_i e1 e2; exact .inl ⟨e1, e2⟩
  · rename_i t want j want' e1 e2
    simp only [Bool.and_eq_true, beq_iff_eq] at h4
    obtain ⟨rfl, h5⟩ := h4
    exact .inr ⟨t, want, j, e1, e2, h5⟩
  · simp at h4

theorem wanted_of {A : Nat → Nd} {U : Nat → Prop} {ts : Ts} {tmps : Array Value} (hts : TsOk A U ts tmps) {ci : CI} {o : Oper} (h : ci.g = none ∧ o.guard = none ∨ ∃ t want j, ci.g = some (t, want) ∧ o.guard = some (j, want) ∧ ((ops[j]?).bind (·.dst)) = some t) {b : Bool} (hw : wantedC ts ci.g = some b) : Region.wanted o (yielded ops tmps) = b := by
  unfold Region.wanted
  rcases h with ⟨h1, h2⟩ | ⟨t, want, j, h1, h2, h3⟩
  · rw [h1] at hw
    simp only [wantedC, Option.some.injEq] at hw
    rw [h2]; exact hw
  · rw [h1] at hw
    rw [h2]
    exact yielded_of hts h3 hw

theorem put_size (a : Act) (d : Option Nat) (v : Value) : (a.put d v).tmps.size = a.tmps.size ∧ (a.put d v).defers = a.defers := by
  cases d <;> simp [Act.put]

theorem tsOk_put {A : Nat → Nd} {U : Nat → Prop} {ts : Ts} {a : Act} (hts : TsOk A U ts a.tmps) {d : Option Nat} (hd : ∀ t, d = some t → t < a.tmps.size) {r : CVal} {v : Value} (hv : valOk A U r v) : TsOk A U (putD d r ts) (a.put d v).tmps := by
  cases d with
  | none => exact hts
  | some d => exact hts.put (hd d rfl) hv

theorem undef_ok (A : Nat → Nd) (U : Nat → Prop) : valOk A U (.tup []) undef := ⟨#[], rfl, rfl, by simp⟩

/-- One operation, in its turn. -/
theorem stepI_sound (hcl : ClOk P cl) {k : Nat} {o : Oper} (ho : ops[k]? = some o) {ci : CI} (hok : okI P nt ops ci o = true) {s s' : St} {a : Act} {w : World} (hs : Inv nt K w0 A0 U0 c0 s a w) (hr : stepI cl s.c (s.c + 1) ci s.ts s.h = some s')
    {rest : List Nat} {Q : Exit → Act → World → Prop} (hn : ∀ a' w', Inv nt K w0 A0 U0 c0 s' a' w' → wpOps P ops Q rest a' w') : wpOps P ops Q (k :: rest) a w := by
  obtain ⟨A, U, s1, s2, s3, s4, s5, s6, s7, s8, s9⟩ := hs
  obtain ⟨o1, o2, o3, o4⟩ := okI_parts hok
  simp only [wpOps, ho]
  unfold stepI at hr
  split at hr
  · rename_i hw
    rw [wanted_of s2 o4 hw]
    simp only [if_true]
    split at hr
    · rename_i r h' c' he
      simp only [Option.some.injEq] at hr
      subst hr
      refine .inl (COp.sound (a := a) (o := o) hcl s1.start s2 (s5 _ (Nat.le_refl _)) (fun id hid => s5 id (by omega)) o3 he ?_).2
      intro v w' A' U' hp hv
      have hc' := (COp.sound (a := a) (o := o) (next := fun _ _ => True) (Q := Q) hcl s1.start s2 (s5 _ (Nat.le_refl _)) (fun id hid => s5 id (by omega)) o3 he (fun _ _ _ _ _ _ => trivial)).1
      refine hn _ _ ⟨A', U', s1.back hp.sim, ?_, by rw [(put_size _ _ _).1]; exact s3, by rw [(put_size _ _ _).2]; exact s4, ?_, s6.trans (fun id hid => hp.ext id (s7 id hid)) (fun _ h => h), fun id hid => hp.sub id (s7 id hid), ?_, by show c0 ≤ c'; omega⟩
      · rw [o1]
        exact tsOk_put (s2.ext hp.ext hp.sub) (fun t ht => by rw [s3]; exact o2 t ht) hv
      · intro id hid hU
        rcases hp.new id hU with h1 | h1 | h1
        · exact s5 id (by have : c' ≤ id := hid; omega) h1
        · have : c' ≤ id := hid
          omega
        · have : c' ≤ id := hid
          omega
      · intro id hU
        show U0 id ∨ c0 ≤ id ∧ id < c'
        rcases hp.new id hU with h1 | h1 | h1
        · rcases s8 id h1 with h2 | h2
          · exact .inl h2
          · exact .inr ⟨h2.1, by omega⟩
        · exact .inr ⟨by omega, by omega⟩
        · exact .inr ⟨by omega, h1.2⟩
    · simp at hr
  · rename_i hw
    rw [wanted_of s2 o4 hw]
    simp only [Bool.false_eq_true, if_false]
    simp only [Option.some.injEq] at hr
    subst hr
    refine hn _ _ ⟨A, U, s1, ?_, by rw [(put_size _ _ _).1]; exact s3, by rw [(put_size _ _ _).2]; exact s4, fun id hid => s5 id (by have : s.c + 1 ≤ id := hid; omega), s6, s7, fun id hU => ?_, by show c0 ≤ s.c + 1; omega⟩
    · rw [o1]
      exact tsOk_put s2 (fun t ht => by rw [s3]; exact o2 t ht) (undef_ok A U)
    · show U0 id ∨ c0 ≤ id ∧ id < s.c + 1
      rcases s8 id hU with h2 | h2
      · exact .inl h2
      · exact .inr ⟨h2.1, by omega⟩
  · simp at hr

theorem seqI_sound (hcl : ClOk P cl) {Q : Exit → Act → World → Prop} : ∀ {l : List CI} {os : List Oper} {k : Nat} {s s' : St} {a : Act} {w : World}, ops.toList.drop k = os → okL P nt ops l os = true → Inv nt K w0 A0 U0 c0 s a w → seqI cl l s = some s' →
    (∀ a' w', Inv nt K w0 A0 U0 c0 s' a' w' → Q .normal a' w') → wpOps P ops Q (List.range' k os.length) a w := by
  intro l
  induction l with
  | nil =>
    intro os k s s' a w hd hok hs hr hn
    cases os with
    | nil =>
      simp only [seqI, Option.some.injEq] at hr
      subst hr
      exact hn a w hs
    | cons o t => simp [okL] at hok
  | cons ci l ih =>
    intro os k s s' a w hd hok hs hr hn
    cases os with
    | nil => simp [okL] at hok
    | cons o t =>
      simp only [okL, Bool.and_eq_true] at hok
      simp only [seqI] at hr
      split at hr
      · rename_i s1 h1
        have ho : ops[k]? = some o := by
          have : (ops.toList.drop k)[0]? = some o := by rw [hd]; rfl
          simpa using this
        simp only [List.length_cons, List.range'_succ]
        refine stepI_sound hcl ho hok.1 hs h1 fun a' w' hs' => ih ?_ hok.2 hs' hr hn
        have := congrArg List.tail hd
        simpa [List.tail_drop] using this
      · simp at hr

end
end Go.Cq
/- What an operation reads, and of what kind it is. -/
namespace Go.Cq
open Go.RowKit

def Opd.reads : Opd → List Nat
  | .t s => [s]
  | .k _ => []

def oreads : Option Opd → List Nat
  | some x => x.reads
  | none => []

def preads : List Part → List Nat
  | [] => []
  | p :: l => p.x.reads ++ preads l

def lreads : List Opd → List Nat
  | [] => []
  | p :: l => p.reads ++ lreads l

def FOp.reads : FOp → List Nat
  | .mov x => x.reads
  | .pick c a b => c.reads ++ (a.reads ++ b.reads)
  | .load _ x => x.reads
  | .nilCheck x => x.reads
  | .bin _ x y => x.reads ++ y.reads
  | .binB _ x y => x.reads ++ y.reads
  | .cmpNil _ x => x.reads
  | .un _ x => x.reads
  | .conv _ x => x.reads
  | .fieldAddr x _ => x.reads
  | .idxAddr x i _ => x.reads ++ i.reads
  | .index x i => x.reads ++ i.reads
  | .lenS x => x.reads
  | .len x => x.reads
  | .sliceS x lo hi => x.reads ++ (oreads lo ++ oreads hi)
  | .sliceL x lo hi _ => x.reads ++ (oreads lo ++ oreads hi)

def NOp.reads : NOp → List Nat
  | .alloc _ => []
  | .box x => x.reads
  | .lit _ _ ps => preads ps
  | .mk _ _ x y => x.reads ++ y.reads

def MOp.reads : MOp → List Nat
  | .mk => []
  | .look _ _ _ _ x k => x.reads ++ k.reads
  | .set _ _ x k v => x.reads ++ (k.reads ++ v.reads)
  | .ent _ _ _ x k => x.reads ++ k.reads
  | .est x s v => x.reads ++ (s.reads ++ v.reads)
  | .rng x => x.reads
  | .ety x => x.reads

def COp.reads : COp → List Nat
  | .fl x => x.reads
  | .build _ ps => preads ps
  | .nw x => x.reads
  | .store _ x v => x.reads ++ v.reads
  | .app _ _ x y => x.reads ++ y.reads
  | .call _ args => lreads args
  | .callv x args => x.reads ++ lreads args
  | .ext t _ => [t]
  | .mkf _ caps => lreads caps
  | .cp t => [t]
  | .cpy _ x y => x.reads ++ y.reads
  | .bs x => x.reads
  | .eqA _ _ x y => x.reads ++ y.reads
  | .mm _ x y => x.reads ++ y.reads
  | .fld x _ _ => x.reads
  | .mop x => x.reads
  | .bad => []

inductive Kd where
  | pure | rd | new | eff
  deriving DecidableEq

def FOp.isRd : FOp → Bool
  | .load .. => true
  | .idxAddr .. => true
  | .sliceL .. => true
  | _ => false

def COp.kind : COp → Kd
  | .fl x => cond x.isRd .rd .pure
  | .nw _ => .new
  | .store .. => .eff
  | .app .. => .eff
  | .call .. => .eff
  | .callv .. => .eff
  | .cpy .. => .eff
  | .bs _ => .rd
  | .mop x => (match x with | .look .. => .rd | .ety _ => .rd | _ => .eff)
  | _ => .pure

/-! ### Only what is read counts -/

section
variable {ts ts' : Ts} {h : Heap}

def Agree (l : List Nat) (ts ts' : Ts) : Prop := ∀ t, t ∈ l → look ts' t = look ts t

theorem Agree.left {a b : List Nat} (h : Agree (a ++ b) ts ts') : Agree a ts ts' := fun t ht => h t (List.mem_append_left _ ht)
theorem Agree.right {a b : List Nat} (h : Agree (a ++ b) ts ts') : Agree b ts ts' := fun t ht => h t (List.mem_append_right _ ht)

theorem evO_cg {x : Opd} (h : Agree x.reads ts ts') : evO ts' x = evO ts x := by
  cases x with
  | t s => simp only [evO, h s (by simp [Opd.reads])]
  | k c => rfl

theorem ev1_cg {x : Opd} (h : Agree x.reads ts ts') : ev1 ts' x = ev1 ts x := by simp only [ev1, evO_cg h]
theorem evInt_cg {x : Opd} (h : Agree x.reads ts ts') : evInt ts' x = evInt ts x := by simp only [evInt, ev1_cg h]
theorem evBound_cg {x : Option Opd} {a b : Nat} (h : Agree (oreads x) ts ts') : evBound ts' x a b = evBound ts x a b := by
  cases x with
  | none => rfl
  | some y => simp only [evBound, evInt_cg (x := y) h]

theorem fillC_cg {ps : List Part} (h : Agree (preads ps) ts ts') : ∀ {cs : List CV}, fillC ts' ps cs = fillC ts ps cs := by
  induction ps with
  | nil => intro cs; rfl
  | cons p l ih => intro cs; simp only [fillC, evO_cg (x := p.x) h.left, ih h.right]

theorem fillB_cg {ps : List Part} (h : Agree (preads ps) ts ts') : ∀ {b : Blk}, fillB ts' ps b = fillB ts ps b := by
  induction ps with
  | nil => intro b; rfl
  | cons p l ih => intro b; simp only [fillB, evO_cg (x := p.x) h.left, ih h.right]

theorem evArgs_cg {xs : List Opd} (h : Agree (lreads xs) ts ts') : evArgs ts' xs = evArgs ts xs := by
  induction xs with
  | nil => rfl
  | cons x l ih => simp only [evArgs, evO_cg (x := x) h.left, ih h.right]

theorem evPtrs_cg {xs : List Opd} (h : Agree (lreads xs) ts ts') : evPtrs ts' xs = evPtrs ts xs := by
  induction xs with
  | nil => rfl
  | cons x l ih => simp only [evPtrs, ev1_cg (x := x) h.left, ih h.right]

theorem FOp.ev_cg {f : FOp} (hr : Agree f.reads ts ts') : f.ev h ts' = f.ev h ts := by
  cases f with
  | mov x => exact evO_cg hr
  | pick c a b => simp only [FOp.ev, ev1_cg (x := c) hr.left, evO_cg (x := a) hr.right.left, evO_cg (x := b) hr.right.right]
  | load n x => simp only [FOp.ev, ev1_cg (x := x) hr]
  | nilCheck x => simp only [FOp.ev, ev1_cg (x := x) hr]
  | bin op x y => simp only [FOp.ev, ev1_cg (x := x) hr.left, ev1_cg (x := y) hr.right]
  | binB op x y => simp only [FOp.ev, ev1_cg (x := x) hr.left, ev1_cg (x := y) hr.right]
  | cmpNil n x => simp only [FOp.ev, ev1_cg (x := x) hr]
  | un op x => simp only [FOp.ev, ev1_cg (x := x) hr]
  | conv k x => simp only [FOp.ev, ev1_cg (x := x) hr]
  | fieldAddr x o => simp only [FOp.ev, ev1_cg (x := x) hr]
  | idxAddr x i s => simp only [FOp.ev, ev1_cg (x := x) hr.left, evInt_cg (x := i) hr.right]
  | index x i => simp only [FOp.ev, ev1_cg (x := x) hr.left, evInt_cg (x := i) hr.right]
  | lenS x => simp only [FOp.ev, ev1_cg (x := x) hr]
  | len x => simp only [FOp.ev, ev1_cg (x := x) hr]
  | sliceS x lo hi => simp only [FOp.ev, ev1_cg (x := x) hr.left, evBound_cg (x := lo) hr.right.left, evBound_cg (x := hi) hr.right.right]
  | sliceL x lo hi s => simp only [FOp.ev, ev1_cg (x := x) hr.left, evBound_cg (x := lo) hr.right.left, evBound_cg (x := hi) hr.right.right]

theorem NOp.ev_cg {f : NOp} {i : Nat} (hr : Agree f.reads ts ts') : f.ev ts' i = f.ev ts i := by
  cases f with
  | alloc zs => rfl
  | box x => simp only [NOp.ev, evO_cg (x := x) hr]
  | lit zs n ps => simp only [NOp.ev, fillB_cg (ps := ps) hr]
  | mk zs b x y => simp only [NOp.ev, evInt_cg (x := x) hr.left, evInt_cg (x := y) hr.right]

theorem MOp.ev_cg {f : MOp} {i : Nat} (hr : Agree f.reads ts ts') : f.ev i h ts' = f.ev i h ts := by
  cases f with
  | mk => rfl
  | look ok ks b z x k => simp only [MOp.ev, doLook, ev1_cg (x := x) hr.left, evO_cg (x := k) hr.right]
  | set ks b x k v => simp only [MOp.ev, doMSet, ev1_cg (x := x) hr.left, evO_cg (x := k) hr.right.left, evO_cg (x := v) hr.right.right]
  | ent ks b z x k => simp only [MOp.ev, doMEnt, ev1_cg (x := x) hr.left, evO_cg (x := k) hr.right]
  | est x s v => simp only [MOp.ev, doMSt, ev1_cg (x := x) hr.left, evInt_cg (x := s) hr.right.left, evO_cg (x := v) hr.right.right]
  | rng x => simp only [MOp.ev, doRange, ev1_cg (x := x) hr]
  | ety x => simp only [MOp.ev, doEntry, ev1_cg (x := x) hr]

theorem COp.ev_cg {f : COp} {cl : CallF} {i c : Nat} (hr : Agree f.reads ts ts') : f.ev cl i c h ts' = f.ev cl i c h ts := by
  cases f with
  | fl x => simp only [COp.ev, FOp.ev_cg (f := x) hr]
  | build zs ps => simp only [COp.ev, fillC_cg (ps := ps) hr]
  | nw x => simp only [COp.ev, NOp.ev_cg (f := x) hr]
  | store n x v => simp only [COp.ev, doStore, ev1_cg (x := x) hr.left, evO_cg (x := v) hr.right]
  | app zs b x y => simp only [COp.ev, doAppend, yCells, ev1_cg (x := x) hr.left, ev1_cg (x := y) hr.right]
  | call g args => simp only [COp.ev, evArgs_cg (xs := args) hr]
  | callv x args => simp only [COp.ev, ev1_cg (x := x) hr.left, evArgs_cg (xs := args) hr.right]
  | ext t j => simp only [COp.ev, hr t (by simp [COp.reads])]
  | mkf g caps => simp only [COp.ev, evPtrs_cg (xs := caps) hr]
  | cp t => simp only [COp.ev, hr t (by simp [COp.reads])]
  | cpy s x y => simp only [COp.ev, doCopy, ev1_cg (x := x) hr.left, ev1_cg (x := y) hr.right]
  | bs x => simp only [COp.ev, b2s, ev1_cg (x := x) hr]
  | eqA n ks x y => simp only [COp.ev, evAgg, evO_cg (x := x) hr.left, evO_cg (x := y) hr.right]
  | mm m x y => simp only [COp.ev, ev1_cg (x := x) hr.left, ev1_cg (x := y) hr.right]
  | fld x o n => simp only [COp.ev, evAgg, evO_cg (x := x) hr]
  | mop x => simp only [COp.ev, MOp.ev_cg (f := x) hr]
  | bad => rfl

theorem FOp.ev_pure {f : FOp} (hf : f.isRd = false) (h h' : Heap) : f.ev h' ts = f.ev h ts := by
  cases f <;> first | rfl | simp [FOp.isRd] at hf

/-- An operation that neither reads nor changes blocks. -/
theorem COp.ev_pure {f : COp} (hk : f.kind = .pure) {cl : CallF} {i c : Nat} {r : CVal} {h1 : Heap} {c1 : Nat} (he : f.ev cl i c h ts = some (r, h1, c1)) : h1 = h ∧ c1 = c ∧ ∀ i2 c2 h2, f.ev cl i2 c2 h2 ts = some (r, h2, c2) := by
  cases f with
  | fl x =>
    have hf : x.isRd = false := by
      simp only [COp.kind] at hk
      cases hx : x.isRd with
      | true => simp [hx] at hk
      | false => rfl
    simp only [COp.ev] at he ⊢
    split at he
    · rename_i r' hx
      simp only [Option.some.injEq, Prod.mk.injEq] at he
      obtain ⟨rfl, rfl, rfl⟩ := he
      exact ⟨rfl, rfl, fun i2 c2 h2 => by rw [FOp.ev_pure hf h h2, hx]⟩
    · simp at he
  | build zs ps =>
    simp only [COp.ev] at he ⊢
    split at he
    · rename_i r' hx
      simp only [Option.some.injEq, Prod.mk.injEq] at he
      obtain ⟨rfl, rfl, rfl⟩ := he
      exact ⟨rfl, rfl, fun i2 c2 h2 => by first | rfl | (rw [hx])⟩
    · simp at he
  | ext t j =>
    simp only [COp.ev] at he ⊢
    split at he
    · rename_i l hl
      split at he
      · rename_i r' hx
        simp only [Option.some.injEq, Prod.mk.injEq] at he
        obtain ⟨rfl, rfl, rfl⟩ := he
        exact ⟨rfl, rfl, fun i2 c2 h2 => by first | rfl | (rw [hl]; simp only [hx])⟩
      · simp at he
    · simp at he
  | mkf g caps =>
    simp only [COp.ev] at he ⊢
    split at he
    · rename_i r' hx
      simp only [Option.some.injEq, Prod.mk.injEq] at he
      obtain ⟨rfl, rfl, rfl⟩ := he
      exact ⟨rfl, rfl, fun i2 c2 h2 => by first | rfl | (rw [hx])⟩
    · simp at he
  | cp t =>
    simp only [COp.ev] at he ⊢
    split at he
    · rename_i r' hx
      simp only [Option.some.injEq, Prod.mk.injEq] at he
      obtain ⟨rfl, rfl, rfl⟩ := he
      exact ⟨rfl, rfl, fun i2 c2 h2 => by first | rfl | (rw [hx])⟩
    · simp at he
  | eqA n ks x y =>
    simp only [COp.ev] at he ⊢
    split at he
    · rename_i p q h1 h2
      split at he
      · rename_i r' hx
        simp only [Option.some.injEq, Prod.mk.injEq] at he
        obtain ⟨rfl, rfl, rfl⟩ := he
        exact ⟨rfl, rfl, fun i2 c2 h2 => by simp only [*]⟩
      · simp at he
    · simp at he
  | mm m x y =>
    simp only [COp.ev] at he ⊢
    split at he
    · rename_i p q h1 h2
      split at he
      · rename_i r' hx
        simp only [Option.some.injEq, Prod.mk.injEq] at he
        obtain ⟨rfl, rfl, rfl⟩ := he
        exact ⟨rfl, rfl, fun i2 c2 h2 => by simp only [*]⟩
      · simp at he
    · simp at he
  | fld x o n =>
    simp only [COp.ev] at he ⊢
    split at he
    · rename_i p h1
      split at he
      · rename_i r' hx
        simp only [Option.some.injEq, Prod.mk.injEq] at he
        obtain ⟨rfl, rfl, rfl⟩ := he
        exact ⟨rfl, rfl, fun i2 c2 h2 => by simp only [*]⟩
      · simp at he
    · simp at he
  | bad => simp [COp.ev] at he
  | mop x => cases x <;> simp [COp.kind] at hk
  | _ => simp [COp.kind] at hk

/-- An operation that changes no block. -/
theorem COp.ev_rd {f : COp} (hk : f.kind = .rd) {cl : CallF} {i c : Nat} {r : CVal} {h1 : Heap} {c1 : Nat} (he : f.ev cl i c h ts = some (r, h1, c1)) : h1 = h ∧ c1 = c ∧ ∀ i2 c2, f.ev cl i2 c2 h ts = some (r, h, c2) := by
  cases f with
  | fl x =>
    simp only [COp.ev] at he ⊢
    split at he
    · rename_i r' hx
      simp only [Option.some.injEq, Prod.mk.injEq] at he
      obtain ⟨rfl, rfl, rfl⟩ := he
      exact ⟨rfl, rfl, fun i2 c2 => by first | rw [hx] | rfl⟩
    · simp at he
  | bs x =>
    simp only [COp.ev] at he ⊢
    split at he
    · rename_i r' hx
      simp only [Option.some.injEq, Prod.mk.injEq] at he
      obtain ⟨rfl, rfl, rfl⟩ := he
      exact ⟨rfl, rfl, fun i2 c2 => by first | rw [hx] | rfl⟩
    · simp at he
  | mop x => cases x with
    | look ok ks b z x k =>
      simp only [COp.ev, MOp.ev] at he ⊢
      cases hl : doLook ks b z x k h ts with
      | none => simp [hl] at he
      | some q =>
        simp only [hl, Option.some.injEq, Prod.mk.injEq] at he ⊢
        obtain ⟨rfl, rfl, rfl⟩ := he
        exact ⟨rfl, rfl, fun i2 c2 => by simp⟩
    | ety x =>
      simp only [COp.ev, MOp.ev] at he ⊢
      cases hl : doEntry x h ts with
      | none => simp [hl] at he
      | some q =>
        simp only [hl, Option.some.injEq, Prod.mk.injEq] at he ⊢
        obtain ⟨rfl, rfl, rfl⟩ := he
        exact ⟨rfl, rfl, fun i2 c2 => by simp⟩
    | _ => simp [COp.kind] at hk
  | _ => simp [COp.kind] at hk

theorem wantedC_cg {g : Option (Nat × Bool)} (h : ∀ t b, g = some (t, b) → look ts' t = look ts t) : wantedC ts' g = wantedC ts g := by
  cases g with
  | none => rfl
  | some p => obtain ⟨t, b⟩ := p; simp only [wantedC, h t b rfl]

end
end Go.Cq
/- Draw regions: in which order soever, the same comes out. -/
namespace Go.Cq
open Go.RowKit

/-- An operation of a draw region. anc: the operations that stand before it, a bit each; fl: those of them that make blocks; rs: reads that may come behind it. -/
structure RI where
  k : Nat
  ci : CI
  anc : Nat
  fl : List Nat
  rs : List Nat

/-- F: blocks that were made, and are not yet laid into the heap. -/
structure DS where
  ts : Ts
  h : Heap
  F : List (Nat × Blk)
  c : Nat

def lookF : List (Nat × Blk) → Nat → Option Blk
  | [], _ => none
  | (k, x) :: l, t => cond (Nat.beq k t) (some x) (lookF l t)

def fadd (base : Nat) (F : List (Nat × Blk)) : List Nat → Heap → Heap
  | [], h => h
  | k :: l, h => match lookF F (base + k) with
    | some b => (fadd base F l h).set (base + k) (some b)
    | none => fadd base F l h

def fall : List (Nat × Blk) → Heap → Heap
  | [], h => h
  | (k, b) :: l, h => (fall l h).set k (some b)

def findK : List RI → Nat → Option RI
  | [], _ => none
  | x :: l, k => cond (Nat.beq x.k k) (some x) (findK l k)

def dropF (base : Nat) (fl : List Nat) : List (Nat × Blk) → List (Nat × Blk)
  | [] => []
  | p :: l => cond (fl.any fun k => Nat.beq (base + k) p.1) (dropF base fl l) (p :: dropF base fl l)

/-- What an operation gives: the state behind it. -/
def stepD (cl : CallF) (base : Nat) (FL : List Nat) (x : RI) (s : DS) : Option DS := match wantedC s.ts x.ci.g with
  | some false => some { s with ts := putD x.ci.d (.tup []) s.ts }
  | some true => match x.ci.op.kind with
    | .new => match x.ci.op with
      | .nw y => match y.ev s.ts (base + x.k) with
        | some (b, r) => some { s with ts := putD x.ci.d (.v (.one r)) s.ts, F := (base + x.k, b) :: s.F }
        | none => none
      | _ => none
    | .eff => match x.ci.op.ev cl (base + x.k) s.c (fadd base s.F x.fl s.h) s.ts with
      | some (r, h', c') => if FL.all (fun k => Nat.testBit x.anc k || (h'.get (base + k)).isNone) then some ⟨putD x.ci.d r s.ts, h', dropF base x.fl s.F, c'⟩ else none
      | none => none
    | _ => match x.ci.op.ev cl (base + x.k) s.c (fadd base s.F x.fl s.h) s.ts with
      | some (r, _, _) => some { s with ts := putD x.ci.d r s.ts }
      | none => none
  | none => none

/-- A read that was done gives the same now. -/
def reOk (cl : CallF) (base : Nat) (s : DS) (x : RI) : Bool := match wantedC s.ts x.ci.g with
  | some false => true
  | some true => match x.ci.op.ev cl (base + x.k) s.c (fadd base s.F x.fl s.h) s.ts with
    | some (r, _, _) => match x.ci.d with
      | some d => (match look s.ts d with | some r' => decide (r = r') | none => false)
      | none => true
    | none => false
  | none => false

def reAll (cl : CallF) (base : Nat) (tab : List RI) (s : DS) : List Nat → Bool
  | [] => true
  | j :: l => (match findK tab j with | some y => reOk cl base s y | none => false) && reAll cl base tab s l

def drawI (cl : CallF) (base : Nat) (FL : List Nat) (tab : List RI) : List RI → DS → Option DS
  | [], s => some s
  | x :: l, s => match stepD cl base FL x s with
    | some s' => if reAll cl base tab s' x.rs then drawI cl base FL tab l s' else none
    | none => none

/-! ### What is looked at beforehand -/

def ciReads (ci : CI) : List Nat := match ci.g with
  | some (t, _) => t :: ci.op.reads
  | none => ci.op.reads

def notIn (d : Option Nat) (l : List Nat) : Bool := match d with
  | some d => !l.any (Nat.beq d)
  | none => true

def unlike (d e : Option Nat) : Bool := match d, e with
  | some d, some e => !Nat.beq d e
  | _, _ => true

def RI.kd (x : RI) : Kd := x.ci.op.kind

def indep (x y : RI) : Bool :=
  notIn x.ci.d (ciReads y.ci) && notIn y.ci.d (ciReads x.ci) && unlike x.ci.d y.ci.d && !y.fl.any (Nat.beq x.k) && !x.fl.any (Nat.beq y.k) &&
  (match x.kd, y.kd with
    | .eff, .eff => false
    | .eff, .rd => false
    | .rd, .eff => y.rs.any (Nat.beq x.k)
    | _, _ => true)

/-- y, that stands behind, leaves what x reads and gives. -/
def leaves (x y : RI) : Bool := notIn y.ci.d (ciReads x.ci) && unlike y.ci.d x.ci.d && !x.fl.any (Nat.beq y.k)

/-- x stands before y. RS: reads that are looked at again. -/
def pairOk (tab : List RI) (RS : List Nat) (x y : RI) : Bool :=
  !Nat.beq x.k y.k && (Nat.testBit y.anc x.k || indep x y) &&
  (!RS.any (Nat.beq x.k) || leaves x y) &&
  x.rs.all fun j => match findK tab j with | some z => leaves z y | none => false

def allPairs (tab : List RI) (RS : List Nat) : List RI → Bool
  | [] => true
  | x :: l => l.all (pairOk tab RS x) && allPairs tab RS l

/-- The bits of what stands before an operation. -/
def ancOf (tab : List RI) : List Edge → Nat
  | [] => 0
  | e :: l => cond (Region.binds .any e) (Nat.lor (Nat.lor (2 ^ e.on) (match findK tab e.on with | some y => y.anc | none => 0)) (ancOf tab l)) (ancOf tab l)

def oneOk (P : Program) (nt : Nat) (ops : Array Oper) (FL : List Nat) (tab : List RI) (x : RI) : Bool := match ops[x.k]? with
  | some o => (match x.kd with
      | .eff => FL.all fun k => !Nat.testBit x.anc k || x.fl.any (Nat.beq k)
      | .new => FL.any (Nat.beq x.k) && x.rs.isEmpty
      | .rd => x.rs.isEmpty && notIn x.ci.d (ciReads x.ci) && !x.fl.any (Nat.beq x.k)
      | .pure => x.rs.isEmpty) && okI P nt ops x.ci o && Nat.beq x.anc (ancOf tab o.after.toList) && o.after.toList.all (fun e => !Region.binds .any e || Nat.blt e.on x.k)
  | none => false

/-- All that an operation waits for stands before it. -/
def topo (ops : Array Oper) (done : List Nat) : List RI → Bool
  | [] => true
  | x :: l => (match ops[x.k]? with
    | some o => o.after.toList.all fun e => !Region.binds .any e || done.any (Nat.beq e.on)
    | none => false) && topo ops (x.k :: done) l

def dok (P : Program) (nt : Nat) (ops : Array Oper) (n : Nat) (FL : List Nat) (l : List RI) : Bool :=
  Nat.beq n ops.size && (List.range n).all (fun k => (findK l k).isSome) && l.all (oneOk P nt ops FL l) && allPairs l (l.flatMap (·.rs)) l && topo ops [] l

/-! ### Tables -/

theorem lookF_cons {k id : Nat} {x : Blk} {l : List (Nat × Blk)} : lookF ((k, x) :: l) id = if k = id then some x else lookF l id := by
  simp only [lookF]
  cases hb : Nat.beq k id with
  | true => have := Nat.eq_of_beq_eq_true hb; simp [this]
  | false => have := Nat.ne_of_beq_eq_false hb; simp [this]

theorem getM_fall {F : List (Nat × Blk)} {h : Heap} (id : Nat) : (fall F h).getM id = h.getM id := by
  induction F with
  | nil => rfl
  | cons p l ih => simp only [fall, Heap.getM_set]; exact ih

theorem getM_fadd {base : Nat} {F : List (Nat × Blk)} {fl : List Nat} {h : Heap} (id : Nat) : (fadd base F fl h).getM id = h.getM id := by
  induction fl with
  | nil => rfl
  | cons k l ih =>
    simp only [fadd]
    split
    · rw [Heap.getM_set]; exact ih
    · exact ih

theorem get_fall {F : List (Nat × Blk)} {h : Heap} (id : Nat) : (fall F h).get id = match lookF F id with | some b => some b | none => h.get id := by
  induction F with
  | nil => rfl
  | cons p l ih =>
    obtain ⟨k, b⟩ := p
    simp only [fall, Heap.get_set, lookF_cons]
    by_cases e : id = k
    · simp [e]
    · have : ¬ k = id := fun e' => e e'.symm
      simp only [e, this, if_false]; exact ih

theorem get_fadd {base : Nat} {F : List (Nat × Blk)} {fl : List Nat} {h : Heap} {id : Nat} {b : Blk} (hg : (fadd base F fl h).get id = some b) : (lookF F id = some b ∧ ∃ k, k ∈ fl ∧ id = base + k) ∨ h.get id = some b := by
  induction fl with
  | nil => exact .inr hg
  | cons k l ih =>
    simp only [fadd] at hg
    split at hg
    · rename_i b' hb
      rw [Heap.get_set] at hg
      split at hg
      · rename_i e
        simp only [Option.some.injEq] at hg
        subst hg; subst e
        exact .inl ⟨hb, k, by simp, rfl⟩
      · rcases ih hg with ⟨h1, k', h2, h3⟩ | h1
        · exact .inl ⟨h1, k', by simp [h2], h3⟩
        · exact .inr h1
    · rcases ih hg with ⟨h1, k', h2, h3⟩ | h1
      · exact .inl ⟨h1, k', by simp [h2], h3⟩
      · exact .inr h1

theorem fadd_cg {base : Nat} {F F' : List (Nat × Blk)} {fl : List Nat} {h : Heap} (hF : ∀ k, k ∈ fl → lookF F' (base + k) = lookF F (base + k)) : fadd base F' fl h = fadd base F fl h := by
  induction fl with
  | nil => rfl
  | cons k l ih => simp only [fadd, hF k (by simp), ih fun k hk => hF k (by simp [hk])]

theorem lookF_drop {base : Nat} {fl : List Nat} {F : List (Nat × Blk)} (id : Nat) : lookF (dropF base fl F) id = if ∃ k, k ∈ fl ∧ base + k = id then none else lookF F id := by
  induction F with
  | nil => simp [dropF, lookF]
  | cons p l ih =>
    obtain ⟨k, b⟩ := p
    simp only [dropF]
    cases hc : (fl.any fun k' => Nat.beq (base + k') k) with
    | true =>
      simp only [cond_true, ih, lookF_cons]
      rw [List.any_eq_true] at hc
      obtain ⟨k', h1, h2⟩ := hc
      have h2 := Nat.eq_of_beq_eq_true h2
      by_cases e : k = id
      · rw [if_pos ⟨k', h1, h2.trans e⟩, if_pos ⟨k', h1, h2.trans e⟩]
      · simp [e]
    | false =>
      simp only [cond_false, lookF_cons, ih]
      by_cases e : k = id
      · subst e
        have : ¬ ∃ k', k' ∈ fl ∧ base + k' = k := by
          rintro ⟨k', h1, h2⟩
          have : (fl.any fun k' => Nat.beq (base + k') k) = true := List.any_eq_true.2 ⟨k', h1, by simpa using h2⟩
          rw [this] at hc
          simp at hc
        simp [this]
      · simp [e]

theorem mem_dropF {base : Nat} {fl : List Nat} {F : List (Nat × Blk)} {p : Nat × Blk} (h : p ∈ dropF base fl F) : p ∈ F := by
  induction F with
  | nil => simp [dropF] at h
  | cons q l ih =>
    simp only [dropF] at h
    cases hc : (fl.any fun k => Nat.beq (base + k) q.1) with
    | true => rw [hc] at h; simp only [cond_true] at h; exact List.mem_cons_of_mem _ (ih h)
    | false =>
      rw [hc] at h
      simp only [cond_false, List.mem_cons] at h
      rcases h with rfl | h
      · simp
      · exact List.mem_cons_of_mem _ (ih h)

theorem dropF_not {base : Nat} {fl : List Nat} {F : List (Nat × Blk)} {p : Nat × Blk} (h : p ∈ dropF base fl F) : ∀ k, k ∈ fl → base + k ≠ p.1 := by
  induction F with
  | nil => simp [dropF] at h
  | cons q l ih =>
    simp only [dropF] at h
    cases hc : (fl.any fun k => Nat.beq (base + k) q.1) with
    | true => rw [hc] at h; simp only [cond_true] at h; exact ih h
    | false =>
      rw [hc] at h
      simp only [cond_false, List.mem_cons] at h
      rcases h with rfl | h
      · intro k hk e
        have : (fl.any fun k => Nat.beq (base + k) p.1) = true := List.any_eq_true.2 ⟨k, hk, by simpa using e⟩
        rw [this] at hc; simp at hc
      · exact ih h

theorem lookF_mem {F : List (Nat × Blk)} {id : Nat} {b : Blk} (h : lookF F id = some b) : (id, b) ∈ F := by
  induction F with
  | nil => simp [lookF] at h
  | cons p l ih =>
    obtain ⟨k, x⟩ := p
    rw [lookF_cons] at h
    split at h
    · rename_i e; simp only [Option.some.injEq] at h; subst h; subst e; simp
    · exact List.mem_cons_of_mem _ (ih h)

theorem findK_some {l : List RI} {k : Nat} {x : RI} (h : findK l k = some x) : x ∈ l ∧ x.k = k := by
  induction l with
  | nil => simp [findK] at h
  | cons y l ih =>
    simp only [findK] at h
    cases hb : Nat.beq y.k k with
    | true =>
      rw [hb] at h
      simp only [cond_true, Option.some.injEq] at h
      subst h
      exact ⟨by simp, Nat.eq_of_beq_eq_true hb⟩
    | false =>
      rw [hb] at h
      simp only [cond_false] at h
      exact ⟨List.mem_cons_of_mem _ (ih h).1, (ih h).2⟩

theorem look_putD {d : Option Nat} {r : CVal} {ts : Ts} (t : Nat) : look (putD d r ts) t = if d = some t then some r else look ts t := by
  cases d with
  | none => simp [putD]
  | some d =>
    simp only [putD, look]
    cases hb : Nat.beq d t with
    | true => have := Nat.eq_of_beq_eq_true hb; simp [this]
    | false => have := Nat.ne_of_beq_eq_false hb; simp [this]

theorem notIn_ne {d : Option Nat} {l : List Nat} (h : notIn d l = true) {t : Nat} (ht : t ∈ l) : d ≠ some t := by
  intro e
  subst e
  simp only [notIn, Bool.not_eq_true', List.any_eq_false] at h
  exact h t ht (by simp)

theorem unlike_ne {d e : Option Nat} (h : unlike d e = true) {t : Nat} (hd : d = some t) : e ≠ some t := by
  intro he
  subst hd; subst he
  simp [unlike] at h

theorem notAny {l : List Nat} {k : Nat} (h : (!l.any (Nat.beq k)) = true) : k ∉ l := by
  intro hk
  simp only [Bool.not_eq_true', List.any_eq_false] at h
  exact h k hk (by simp)

end Go.Cq
/- An operation that may come first comes first. -/
namespace Go.Cq
open Go.RowKit

variable {cl : CallF} {base : Nat} {FL : List Nat} {tab : List RI}

/-- u is s, with a result at d and a block in F more. -/
structure Plus (d : Option Nat) (r : CVal) (fb : Option (Nat × Blk)) (s u : DS) : Prop where
  ts : ∀ t, look u.ts t = if d = some t then some r else look s.ts t
  h : u.h = s.h
  c : u.c = s.c
  F : ∀ id, lookF u.F id = match fb with | some (k, b) => if k = id then some b else lookF s.F id | none => lookF s.F id

abbrev Eqv := Plus none .gone none

theorem Eqv.of {s u : DS} (h1 : ∀ t, look u.ts t = look s.ts t) (h2 : u.h = s.h) (h3 : u.c = s.c) (h4 : ∀ id, lookF u.F id = lookF s.F id) : Eqv s u := ⟨fun t => by simp [h1], h2, h3, h4⟩
theorem Eqv.refl (s : DS) : Eqv s s := Eqv.of (fun _ => rfl) rfl rfl (fun _ => rfl)
theorem Eqv.trans {s u v : DS} (h : Eqv s u) (k : Eqv u v) : Eqv s v := Eqv.of (fun t => by rw [k.ts, if_neg (by simp), h.ts, if_neg (by simp)]) (k.h.trans h.h) (k.c.trans h.c) (fun id => (k.F id).trans (h.F id))
theorem Eqv.symm {s u : DS} (h : Eqv s u) : Eqv u s := Eqv.of (fun t => by rw [h.ts, if_neg (by simp)]) h.h.symm h.c.symm (fun id => (h.F id).symm)

/-- What is asked of an operation x if d, and a block of number k, come ahead of it. -/
structure Apart (base : Nat) (d : Option Nat) (fb : Option (Nat × Blk)) (x : RI) : Prop where
  rd : ∀ t, t ∈ ciReads x.ci → d ≠ some t
  wr : ∀ t, x.ci.d = some t → d ≠ some t
  fl : ∀ k b, fb = some (k, b) → ∀ j, j ∈ x.fl → base + j ≠ k

theorem reads_op {ci : CI} {t : Nat} (h : t ∈ ci.op.reads) : t ∈ ciReads ci := by
  unfold ciReads
  split <;> simp [h]

theorem reads_g {ci : CI} {t : Nat} {b : Bool} (h : ci.g = some (t, b)) : t ∈ ciReads ci := by
  simp [ciReads, h]

section
variable {d : Option Nat} {r : CVal} {fb : Option (Nat × Blk)} {s u : DS} {x : RI}

theorem Plus.wanted (hp : Plus d r fb s u) (ha : ∀ t, t ∈ ciReads x.ci → d ≠ some t) : wantedC u.ts x.ci.g = wantedC s.ts x.ci.g :=
  wantedC_cg fun t b hg => by rw [hp.ts, if_neg (ha t (reads_g hg))]

theorem Plus.agree (hp : Plus d r fb s u) (ha : ∀ t, t ∈ ciReads x.ci → d ≠ some t) : Agree x.ci.op.reads s.ts u.ts :=
  fun t ht => by rw [hp.ts, if_neg (ha t (reads_op ht))]

theorem Plus.fadd (hp : Plus d r fb s u) (ha : ∀ k b, fb = some (k, b) → ∀ j, j ∈ x.fl → base + j ≠ k) : fadd base u.F x.fl u.h = fadd base s.F x.fl s.h := by
  rw [hp.h]
  refine fadd_cg fun j hj => ?_
  rw [hp.F]
  cases fb with
  | none => rfl
  | some p => obtain ⟨k, b⟩ := p; exact if_neg (fun e => ha k b rfl j hj e.symm)

theorem Plus.put (hp : Plus d r fb s u) {e : Option Nat} (ha : ∀ t, e = some t → d ≠ some t) (v : CVal) (t : Nat) : look (putD e v u.ts) t = if d = some t then some r else look (putD e v s.ts) t := by
  rw [look_putD, look_putD, hp.ts]
  by_cases h1 : e = some t
  · simp [h1, ha t h1]
  · simp [h1]

theorem stepD_plus (hp : Plus d r fb s u) (ha : Apart base d fb x) (ho : ∀ k b, fb = some (k, b) → base + x.k ≠ k) {s1 : DS} (hs : stepD cl base FL x s = some s1) : ∃ u1, stepD cl base FL x u = some u1 ∧ Plus d r fb s1 u1 := by
  have hag := hp.agree ha.rd
  have hfa := hp.fadd (base := base) (x := x) fun k b e => ha.fl k b e
  unfold stepD at hs ⊢
  rw [hp.wanted ha.rd]
  split at hs
  · simp only [Option.some.injEq] at hs
    subst hs
    exact ⟨_, rfl, hp.put ha.wr _, hp.h, hp.c, hp.F⟩
  · split at hs
    · rename_i hkd
      split at hs
      · rename_i y hy
        have hr : Agree y.reads s.ts u.ts := by rw [hy] at hag; exact hag
        split at hs
        · rename_i b cv he
          simp only [Option.some.injEq] at hs
          subst hs
          simp only [NOp.ev_cg hr, he]
          refine ⟨_, rfl, hp.put ha.wr _, hp.h, hp.c, fun id => ?_⟩
          simp only [lookF_cons, hp.F]
          cases fb with
          | none => rfl
          | some p =>
            obtain ⟨k, b'⟩ := p
            have := ho k b' rfl
            simp only
            by_cases h1 : base + x.k = id
            · by_cases h2 : k = id
              · exact absurd (h1.trans h2.symm) this
              · simp [h1, h2]
            · simp [h1]
        · simp at hs
      · simp at hs
    · rw [COp.ev_cg hag, hfa, hp.c]
      split at hs
      · rename_i rr h' c' he
        split at hs
        · rename_i hcl
          simp only [Option.some.injEq] at hs
          subst hs
          rw [if_pos hcl]
          refine ⟨_, rfl, hp.put ha.wr _, rfl, rfl, fun id => ?_⟩
          simp only [lookF_drop, hp.F]
          cases fb with
          | none => rfl
          | some p =>
            obtain ⟨k, b'⟩ := p
            have := ha.fl k b' rfl
            simp only
            by_cases h1 : ∃ j, j ∈ x.fl ∧ base + j = id
            · obtain ⟨j, hj, e⟩ := h1
              have : ¬ k = id := fun e' => this j hj (e.trans e'.symm)
              simp [this, show ∃ j, j ∈ x.fl ∧ base + j = id from ⟨j, hj, e⟩]
            · simp [h1]
        · simp at hs
      · simp at hs
    · rw [COp.ev_cg hag, hfa, hp.c]
      split at hs
      · simp only [Option.some.injEq] at hs
        subst hs
        exact ⟨_, rfl, hp.put ha.wr _, hp.h, rfl, hp.F⟩
      · simp at hs
  · simp at hs

theorem reOk_plus (hp : Plus d r fb s u) (ha : Apart base d fb x) : reOk cl base u x = reOk cl base s x := by
  unfold reOk
  rw [hp.wanted ha.rd, COp.ev_cg (hp.agree ha.rd), hp.fadd (base := base) (x := x) fun k b e => ha.fl k b e, hp.c]
  cases hd : x.ci.d with
  | none => rfl
  | some t =>
    have : look u.ts t = look s.ts t := by rw [hp.ts, if_neg (ha.wr t hd)]
    simp only [this]

theorem reAll_plus (hp : Plus d r fb s u) : ∀ {l : List Nat}, (∀ j, j ∈ l → ∀ z, findK tab j = some z → Apart base d fb z) → reAll cl base tab u l = reAll cl base tab s l := by
  intro l
  induction l with
  | nil => intro _; rfl
  | cons j l ih =>
    intro ha
    simp only [reAll]
    rw [ih fun j' hj' => ha j' (by simp [hj'])]
    cases hz : findK tab j with
    | none => rfl
    | some z => simp only [reOk_plus hp (ha j (by simp) z hz)]

theorem drawI_plus : ∀ {l : List RI} {s u s1 : DS}, Plus d r fb s u → (∀ x, x ∈ l → Apart base d fb x ∧ (∀ k b, fb = some (k, b) → base + x.k ≠ k) ∧ ∀ j, j ∈ x.rs → ∀ z, findK tab j = some z → Apart base d fb z) →
    drawI cl base FL tab l s = some s1 → ∃ u1, drawI cl base FL tab l u = some u1 ∧ Plus d r fb s1 u1 := by
  intro l
  induction l with
  | nil =>
    intro s u s1 hp _ hs
    simp only [drawI, Option.some.injEq] at hs ⊢
    subst hs
    exact ⟨u, rfl, hp⟩
  | cons x l ih =>
    intro s u s1 hp ha hs
    simp only [drawI] at hs ⊢
    split at hs
    · rename_i s2 h2
      split at hs
      · rename_i hre
        obtain ⟨u2, g1, g2⟩ := stepD_plus hp (ha x (by simp)).1 (ha x (by simp)).2.1 h2
        rw [g1]
        simp only
        rw [reAll_plus g2 (ha x (by simp)).2.2, if_pos hre]
        exact ih g2 (fun y hy => ha y (by simp [hy])) hs
      · simp at hs
    · simp at hs

theorem Apart.nil (x : RI) : Apart base none none x := ⟨fun _ _ => by simp, fun _ _ => by simp, fun _ _ h => by simp at h⟩

theorem drawI_eqv {l : List RI} {s u s1 : DS} (h : Eqv s u) (hs : drawI cl base FL tab l s = some s1) : ∃ u1, drawI cl base FL tab l u = some u1 ∧ Eqv s1 u1 :=
  drawI_plus h (fun x _ => ⟨Apart.nil x, fun _ _ e => by simp at e, fun _ _ z _ => Apart.nil z⟩) hs

/-! ### What operations leave -/

theorem stepD_ts {s1 : DS} (hs : stepD cl base FL x s = some s1) {t : Nat} (ht : x.ci.d ≠ some t) : look s1.ts t = look s.ts t := by
  unfold stepD at hs
  split at hs
  · simp only [Option.some.injEq] at hs; subst hs; rw [look_putD, if_neg ht]
  · split at hs
    · split at hs
      · split at hs
        · simp only [Option.some.injEq] at hs; subst hs; rw [look_putD, if_neg ht]
        · simp at hs
      · simp at hs
    · split at hs
      · split at hs
        · simp only [Option.some.injEq] at hs; subst hs; rw [look_putD, if_neg ht]
        · simp at hs
      · simp at hs
    · split at hs
      · simp only [Option.some.injEq] at hs; subst hs; rw [look_putD, if_neg ht]
      · simp at hs
  · simp at hs

theorem drawI_ts : ∀ {l : List RI} {s s1 : DS}, drawI cl base FL tab l s = some s1 → ∀ {t : Nat}, (∀ z, z ∈ l → z.ci.d ≠ some t) → look s1.ts t = look s.ts t := by
  intro l
  induction l with
  | nil => intro s s1 hs t _; simp only [drawI, Option.some.injEq] at hs; subst hs; rfl
  | cons x l ih =>
    intro s s1 hs t ht
    simp only [drawI] at hs
    split at hs
    · rename_i s2 h2
      split at hs
      · rw [ih hs fun z hz => ht z (by simp [hz]), stepD_ts h2 (ht x (by simp))]
      · simp at hs
    · simp at hs

theorem stepD_quiet {s1 : DS} (hk : x.kd ≠ .eff) (hs : stepD cl base FL x s = some s1) : s1.h = s.h ∧ s1.c = s.c ∧ ∀ id, base + x.k ≠ id → lookF s1.F id = lookF s.F id := by
  unfold stepD at hs
  split at hs
  · simp only [Option.some.injEq] at hs; subst hs; exact ⟨rfl, rfl, fun _ _ => rfl⟩
  · split at hs
    · split at hs
      · split at hs
        · simp only [Option.some.injEq] at hs; subst hs; exact ⟨rfl, rfl, fun id hid => by rw [lookF_cons, if_neg hid]⟩
        · simp at hs
      · simp at hs
    · rename_i hkd; exact absurd hkd hk
    · split at hs
      · simp only [Option.some.injEq] at hs; subst hs; exact ⟨rfl, rfl, fun _ _ => rfl⟩
      · simp at hs
  · simp at hs

theorem drawI_quiet : ∀ {l : List RI} {s s1 : DS}, (∀ z, z ∈ l → z.kd ≠ .eff) → drawI cl base FL tab l s = some s1 → s1.h = s.h ∧ s1.c = s.c ∧ ∀ id, (∀ z, z ∈ l → base + z.k ≠ id) → lookF s1.F id = lookF s.F id := by
  intro l
  induction l with
  | nil => intro s s1 _ hs; simp only [drawI, Option.some.injEq] at hs; subst hs; exact ⟨rfl, rfl, fun _ _ => rfl⟩
  | cons x l ih =>
    intro s s1 hk hs
    simp only [drawI] at hs
    split at hs
    · rename_i s2 h2
      split at hs
      · obtain ⟨g1, g2, g3⟩ := ih (fun z hz => hk z (by simp [hz])) hs
        obtain ⟨k1, k2, k3⟩ := stepD_quiet (hk x (by simp)) h2
        exact ⟨g1.trans k1, g2.trans k2, fun id hid => (g3 id fun z hz => hid z (by simp [hz])).trans (k3 id (hid x (by simp)))⟩
      · simp at hs
    · simp at hs

end

/-! ### Pairs -/

structure Leaves (base : Nat) (x y : RI) : Prop where
  rd : ∀ t, t ∈ ciReads x.ci → y.ci.d ≠ some t
  wr : ∀ t, x.ci.d = some t → y.ci.d ≠ some t
  fl : ∀ j, j ∈ x.fl → j ≠ y.k

theorem leaves_of {x y : RI} (h : leaves x y = true) : Leaves base x y := by
  unfold leaves at h
  simp only [Bool.and_eq_true] at h
  refine ⟨fun t ht => notIn_ne h.1.1 ht, fun t ht e => ?_, fun j hj e => notAny h.2 (e ▸ hj)⟩
  exact unlike_ne h.1.2 e ht

structure Indep (base : Nat) (x y : RI) : Prop where
  yx : ∀ t, t ∈ ciReads y.ci → x.ci.d ≠ some t
  xy : ∀ t, t ∈ ciReads x.ci → y.ci.d ≠ some t
  dd : ∀ t, x.ci.d = some t → y.ci.d ≠ some t
  yf : ∀ j, j ∈ y.fl → j ≠ x.k
  xf : ∀ j, j ∈ x.fl → j ≠ y.k
  e1 : y.kd = .eff ∨ y.kd = .rd → x.kd ≠ .eff
  e2 : x.kd = .rd → y.kd = .eff → x.k ∈ y.rs

theorem indep_of {x y : RI} (h : indep x y = true) : Indep base x y := by
  unfold indep at h
  simp only [Bool.and_eq_true] at h
  obtain ⟨⟨⟨⟨⟨h1, h2⟩, h3⟩, h4⟩, h5⟩, h6⟩ := h
  refine ⟨fun t ht => notIn_ne h1 ht, fun t ht => notIn_ne h2 ht, fun t ht => unlike_ne h3 ht, fun j hj e => notAny h4 (e ▸ hj), fun j hj e => notAny h5 (e ▸ hj), ?_, ?_⟩
  · rintro (e | e) e' <;> simp [e, e'] at h6
  · intro e e'
    simp only [e, e'] at h6
    obtain ⟨j, hj, hb⟩ := List.any_eq_true.1 h6
    have := Nat.eq_of_beq_eq_true hb
    rw [this]; exact hj

structure PairOk (base : Nat) (tab : List RI) (RS : List Nat) (x y : RI) : Prop where
  ne : x.k ≠ y.k
  ord : Nat.testBit y.anc x.k = true ∨ Indep base x y
  re : x.k ∈ RS → Leaves base x y
  rs : ∀ j, j ∈ x.rs → ∀ z, findK tab j = some z → Leaves base z y

theorem pairOk_of {RS : List Nat} {x y : RI} (h : pairOk tab RS x y = true) : PairOk base tab RS x y := by
  unfold pairOk at h
  simp only [Bool.and_eq_true, Bool.or_eq_true] at h
  obtain ⟨⟨⟨h1, h2⟩, h3⟩, h4⟩ := h
  refine ⟨fun e => by rw [e] at h1; simp at h1, h2.imp id indep_of, fun hx => ?_, fun j hj z hz => ?_⟩
  · rcases h3 with h3 | h3
    · exact absurd hx (notAny h3)
    · exact leaves_of h3
  · rw [List.all_eq_true] at h4
    have := h4 j hj
    rw [hz] at this
    exact leaves_of this

theorem allPairs_of {RS : List Nat} : ∀ {l : List RI}, allPairs tab RS l = true → l.Pairwise (PairOk base tab RS) := by
  intro l
  induction l with
  | nil => intro _; exact .nil
  | cons x l ih =>
    intro h
    simp only [allPairs, Bool.and_eq_true, List.all_eq_true] at h
    exact .cons (fun y hy => pairOk_of (h.1 y hy)) (ih h.2)

end Go.Cq
/- An operation of which nothing that is left comes ahead, at the front. -/
namespace Go.Cq
open Go.RowKit

variable {cl : CallF} {base : Nat} {FL : List Nat} {tab : List RI} {RS : List Nat}

/-- What a step that is not an effect adds. -/
theorem stepD_plain {i : RI} {s s1 : DS} (hk : i.kd ≠ .eff) (hs : stepD cl base FL i s = some s1) : ∃ r fb, Plus i.ci.d r fb s s1 ∧ (∀ k b, fb = some (k, b) → k = base + i.k) ∧
    ∀ u : DS, u.h = s.h → Agree (ciReads i.ci) s.ts u.ts → (∀ j, j ∈ i.fl → lookF u.F (base + j) = lookF s.F (base + j)) → u.c = s.c → ∃ u1, stepD cl base FL i u = some u1 ∧ Plus i.ci.d r fb u u1 := by
  have plus : ∀ (v : DS) (r : CVal), Plus i.ci.d r none v { v with ts := putD i.ci.d r v.ts } := fun v r => ⟨fun t => look_putD t, rfl, rfl, fun _ => rfl⟩
  have plus2 : ∀ (v : DS) (r : CVal) (b : Blk), Plus i.ci.d r (some (base + i.k, b)) v { v with ts := putD i.ci.d r v.ts, F := (base + i.k, b) :: v.F } := fun v r b => ⟨fun t => look_putD t, rfl, rfl, fun id => lookF_cons⟩
  have hw : ∀ u : DS, Agree (ciReads i.ci) s.ts u.ts → wantedC u.ts i.ci.g = wantedC s.ts i.ci.g := fun u hu => wantedC_cg fun t b hg => hu t (reads_g hg)
  unfold stepD at hs
  split at hs
  · rename_i hwf
    simp only [Option.some.injEq] at hs
    subst hs
    refine ⟨_, none, plus s _, by simp, fun u h1 h2 h3 h4 => ⟨_, ?_, plus u _⟩⟩
    unfold stepD; rw [hw u h2, hwf]
  · rename_i hwt
    split at hs
    · rename_i hkd
      split at hs
      · rename_i y hy
        split at hs
        · rename_i b cv he
          simp only [Option.some.injEq] at hs
          subst hs
          refine ⟨_, _, plus2 s _ b, fun k b' e => by simp only [Option.some.injEq, Prod.mk.injEq] at e; exact e.1.symm, fun u h1 h2 h3 h4 => ⟨_, ?_, plus2 u _ b⟩⟩
          have hr : Agree y.reads s.ts u.ts := fun t ht => h2 t (reads_op (by rw [hy]; exact ht))
          unfold stepD; rw [hw u h2, hwt]
          simp only [hkd]
          simp only [hy, NOp.ev_cg hr, he]
        · simp at hs
      · simp at hs
    · rename_i hkd; exact absurd hkd hk
    · rename_i hk1 hk2
      split at hs
      · rename_i rr h' c' he
        simp only [Option.some.injEq] at hs
        subst hs
        refine ⟨_, none, plus s _, by simp, fun u h1 h2 h3 h4 => ⟨_, ?_, plus u _⟩⟩
        have hr : Agree i.ci.op.reads s.ts u.ts := fun t ht => h2 t (reads_op ht)
        have hf : fadd base u.F i.fl u.h = fadd base s.F i.fl s.h := by rw [h1]; exact fadd_cg h3
        unfold stepD; rw [hw u h2, hwt]
        rw [COp.ev_cg hr, hf, h4, he]
        cases hkk : i.ci.op.kind with
        | new => exact (hk1 hkk).elim
        | eff => exact (hk2 hkk).elim
        | pure => rfl
        | rd => rfl
      · simp at hs
  · simp at hs

/-- A pure operation, wherever it stands. -/
theorem stepD_pure {i : RI} {s s1 : DS} (hk : i.kd = .pure ∨ i.kd = .new) (hs : stepD cl base FL i s = some s1) : ∃ r fb, Plus i.ci.d r fb s s1 ∧ (∀ k b, fb = some (k, b) → k = base + i.k) ∧
    ∀ u : DS, Agree (ciReads i.ci) s.ts u.ts → ∃ u1, stepD cl base FL i u = some u1 ∧ Plus i.ci.d r fb u u1 := by
  have plus : ∀ (v : DS) (r : CVal), Plus i.ci.d r none v { v with ts := putD i.ci.d r v.ts } := fun v r => ⟨fun t => look_putD t, rfl, rfl, fun _ => rfl⟩
  have plus2 : ∀ (v : DS) (r : CVal) (b : Blk), Plus i.ci.d r (some (base + i.k, b)) v { v with ts := putD i.ci.d r v.ts, F := (base + i.k, b) :: v.F } := fun v r b => ⟨fun t => look_putD t, rfl, rfl, fun id => lookF_cons⟩
  have hw : ∀ u : DS, Agree (ciReads i.ci) s.ts u.ts → wantedC u.ts i.ci.g = wantedC s.ts i.ci.g := fun u hu => wantedC_cg fun t b hg => hu t (reads_g hg)
  unfold stepD at hs
  split at hs
  · rename_i hwf
    simp only [Option.some.injEq] at hs
    subst hs
    refine ⟨_, none, plus s _, by simp, fun u h2 => ⟨_, ?_, plus u _⟩⟩
    unfold stepD; rw [hw u h2, hwf]
  · rename_i hwt
    split at hs
    · rename_i hkd
      split at hs
      · rename_i y hy
        split at hs
        · rename_i b cv he
          simp only [Option.some.injEq] at hs
          subst hs
          refine ⟨_, _, plus2 s _ b, fun k b' e => by simp only [Option.some.injEq, Prod.mk.injEq] at e; exact e.1.symm, fun u h2 => ⟨_, ?_, plus2 u _ b⟩⟩
          have hr : Agree y.reads s.ts u.ts := fun t ht => h2 t (reads_op (by rw [hy]; exact ht))
          unfold stepD; rw [hw u h2, hwt]
          simp only [hkd]
          simp only [hy, NOp.ev_cg hr, he]
        · simp at hs
      · simp at hs
    · rename_i hkd
      rcases hk with hk | hk
      · exact absurd (hk.symm.trans hkd) (by simp)
      · exact absurd (hk.symm.trans hkd) (by simp)
    · rename_i hk1 hk2
      split at hs
      · rename_i rr h' c' he
        simp only [Option.some.injEq] at hs
        subst hs
        refine ⟨_, none, plus s _, by simp, fun u h2 => ⟨_, ?_, plus u _⟩⟩
        have hr : Agree i.ci.op.reads s.ts u.ts := fun t ht => h2 t (reads_op ht)
        have hkp : i.ci.op.kind = .pure := by
          rcases hk with hk | hk
          · exact hk
          · exact absurd hk hk1
        unfold stepD; rw [hw u h2, hwt]
        simp only [hkp]
        rw [COp.ev_cg hr, (COp.ev_pure hkp he).2.2]
      · simp at hs
  · simp at hs

theorem drawI_append {l1 l2 : List RI} : ∀ {s s' : DS}, drawI cl base FL tab (l1 ++ l2) s = some s' → ∃ s1, drawI cl base FL tab l1 s = some s1 ∧ drawI cl base FL tab l2 s1 = some s' := by
  induction l1 with
  | nil => intro s s' h; exact ⟨s, rfl, h⟩
  | cons x l ih =>
    intro s s' h
    simp only [List.cons_append, drawI] at h ⊢
    split at h
    · split at h
      · rename_i h1 h2
        rw [if_pos h2]
        exact ih h
      · simp at h
    · simp at h

theorem drawI_join {l1 l2 : List RI} : ∀ {s s1 s' : DS}, drawI cl base FL tab l1 s = some s1 → drawI cl base FL tab l2 s1 = some s' → drawI cl base FL tab (l1 ++ l2) s = some s' := by
  induction l1 with
  | nil => intro s s1 s' h k; simp only [drawI, Option.some.injEq] at h; subst h; exact k
  | cons x l ih =>
    intro s s1 s' h k
    simp only [List.cons_append, drawI] at h ⊢
    split at h
    · split at h
      · rename_i h1 h2
        rw [if_pos h2]
        exact ih h k
      · simp at h
    · simp at h

/-- All but effects. -/
theorem front_plain {l1 l2 : List RI} {i : RI} {s s' : DS} (hk : i.kd ≠ .eff) (hin : ∀ x, x ∈ l1 → x.k ≠ i.k ∧ Indep base x i ∧ ∀ j, j ∈ x.rs → ∀ z, findK tab j = some z → Leaves base z i)
    (hs : drawI cl base FL tab (l1 ++ i :: l2) s = some s') : ∃ s1 s'', stepD cl base FL i s = some s1 ∧ drawI cl base FL tab (l1 ++ l2) s1 = some s'' ∧ Eqv s' s'' := by
  obtain ⟨se, h1, h2⟩ := drawI_append hs
  simp only [drawI] at h2
  split at h2
  case h_2 => simp at h2
  rename_i si hi
  split at h2
  case isFalse => simp at h2
  have hag : Agree (ciReads i.ci) s.ts se.ts := fun t ht => drawI_ts h1 fun z hz => (hin z hz).2.1.yx t ht
  have hag' : Agree (ciReads i.ci) se.ts s.ts := fun t ht => (hag t ht).symm
  have main : ∃ r fb, Plus i.ci.d r fb se si ∧ (∀ k b, fb = some (k, b) → k = base + i.k) ∧ ∃ u1, stepD cl base FL i s = some u1 ∧ Plus i.ci.d r fb s u1 := by
    rcases hkd : i.kd with _ | _ | _ | _
    · obtain ⟨r, fb, g1, g2, g3⟩ := stepD_pure (.inl hkd) hi
      exact ⟨r, fb, g1, g2, g3 s hag'⟩
    · obtain ⟨r, fb, g1, g2, g3⟩ := stepD_plain hk hi
      obtain ⟨q1, q2, q3⟩ := drawI_quiet (fun z hz => (hin z hz).2.1.e1 (.inr hkd)) h1
      exact ⟨r, fb, g1, g2, g3 s q1.symm hag' (fun j hj => (q3 (base + j) fun z hz e => (hin z hz).2.1.yf j hj (by omega)).symm) q2.symm⟩
    · obtain ⟨r, fb, g1, g2, g3⟩ := stepD_pure (.inr hkd) hi
      exact ⟨r, fb, g1, g2, g3 s hag'⟩
    · exact absurd hkd hk
  obtain ⟨r, fb, g1, g2, u1, g3, g4⟩ := main
  obtain ⟨ue, k1, k2⟩ := drawI_plus (l := l1) g4 (fun x hx => by
    obtain ⟨a0, a1, a2⟩ := hin x hx
    refine ⟨⟨a1.xy, fun t ht => a1.dd t ht, fun k b e j hj e' => ?_⟩, fun k b e e' => ?_, fun j hj z hz => ?_⟩
    · have := g2 k b e; exact a1.xf j hj (by omega)
    · have := g2 k b e; omega
    · have hl := a2 j hj z hz
      refine ⟨hl.rd, hl.wr, fun k b e j' hj' e' => ?_⟩
      have := g2 k b e
      exact hl.fl j' hj' (by omega)) h1
  have he : Eqv si ue := Eqv.of (fun t => (k2.ts t).trans (g1.ts t).symm) (k2.h.trans g1.h.symm) (k2.c.trans g1.c.symm) (fun id => (k2.F id).trans (g1.F id).symm)
  obtain ⟨s'', m1, m2⟩ := drawI_eqv he h2
  exact ⟨u1, s'', g3, drawI_join k1 m1, m2⟩

/-! ### Effects -/

/-- u is s, with an effect more. -/
structure PlusE (base : Nat) (i : RI) (r : CVal) (h : Heap) (c : Nat) (s u : DS) : Prop where
  ts : ∀ t, look u.ts t = if i.ci.d = some t then some r else look s.ts t
  h : u.h = h
  c : u.c = c
  F : ∀ id, lookF u.F id = if ∃ k, k ∈ i.fl ∧ base + k = id then none else lookF s.F id

theorem PlusE.eqv {i : RI} {r : CVal} {h : Heap} {c : Nat} {s u v : DS} (hu : PlusE base i r h c s u) (hv : PlusE base i r h c s v) : Eqv u v :=
  Eqv.of (fun t => (hv.ts t).trans (hu.ts t).symm) (hv.h.trans hu.h.symm) (hv.c.trans hu.c.symm) (fun id => (hv.F id).trans (hu.F id).symm)

/-- An effect, wherever it stands. -/
theorem stepD_eff {i : RI} {s s1 : DS} (hk : i.kd = .eff) (hs : stepD cl base FL i s = some s1) :
    (∃ r h c, PlusE base i r h c s s1 ∧ ∀ u : DS, u.h = s.h → Agree (ciReads i.ci) s.ts u.ts → (∀ j, j ∈ i.fl → lookF u.F (base + j) = lookF s.F (base + j)) → u.c = s.c → ∃ u1, stepD cl base FL i u = some u1 ∧ PlusE base i r h c u u1) ∨
    (∃ r, Plus i.ci.d r none s s1 ∧ ∀ u : DS, Agree (ciReads i.ci) s.ts u.ts → ∃ u1, stepD cl base FL i u = some u1 ∧ Plus i.ci.d r none u u1) := by
  have hw : ∀ u : DS, Agree (ciReads i.ci) s.ts u.ts → wantedC u.ts i.ci.g = wantedC s.ts i.ci.g := fun u hu => wantedC_cg fun t b hg => hu t (reads_g hg)
  have hk' : i.ci.op.kind = .eff := hk
  unfold stepD at hs
  split at hs
  · rename_i hwf
    simp only [Option.some.injEq] at hs
    subst hs
    refine .inr ⟨_, ⟨fun t => look_putD t, rfl, rfl, fun _ => rfl⟩, fun u h2 => ⟨{ u with ts := putD i.ci.d (.tup []) u.ts }, ?_, ⟨fun t => look_putD t, rfl, rfl, fun _ => rfl⟩⟩⟩
    unfold stepD; rw [hw u h2, hwf]
  · rename_i hwt
    simp only [hk'] at hs
    split at hs
    · rename_i rr h' c' he
      split at hs
      · rename_i hcl
        simp only [Option.some.injEq] at hs
        subst hs
        refine .inl ⟨rr, h', c', ⟨fun t => look_putD t, rfl, rfl, fun id => lookF_drop id⟩, fun u h1 h2 h3 h4 => ⟨⟨putD i.ci.d rr u.ts, h', dropF base i.fl u.F, c'⟩, ?_, ⟨fun t => look_putD t, rfl, rfl, fun id => lookF_drop id⟩⟩⟩
        have hr : Agree i.ci.op.reads s.ts u.ts := fun t ht => h2 t (reads_op ht)
        have hf : fadd base u.F i.fl u.h = fadd base s.F i.fl s.h := by rw [h1]; exact fadd_cg h3
        unfold stepD; rw [hw u h2, hwt]
        simp only [hk']
        rw [COp.ev_cg hr, hf, h4, he]
        simp only
        rw [if_pos hcl]
      · simp at hs
    · simp at hs
  · simp at hs

/-- A read that is looked at again, where the same is read and what is read from is the same. -/
theorem reOk_at {x : RI} {s u s1 : DS} (hkd : x.kd = .rd) (hre : reOk cl base u x = true) (ht : Agree (ciReads x.ci) s.ts u.ts) (hs : stepD cl base FL x s = some s1) (hd : ∀ t, x.ci.d = some t → look u.ts t = look s1.ts t)
    {v : DS} (hv : Agree (ciReads x.ci) s.ts v.ts) (hvh : v.h = u.h) (hvF : ∀ j, j ∈ x.fl → lookF v.F (base + j) = lookF u.F (base + j)) : ∃ r, Plus x.ci.d r none s s1 ∧ ∃ v1, stepD cl base FL x v = some v1 ∧ Plus x.ci.d r none v v1 := by
  have hkd' : x.ci.op.kind = .rd := hkd
  have hw : ∀ u : DS, Agree (ciReads x.ci) s.ts u.ts → wantedC u.ts x.ci.g = wantedC s.ts x.ci.g := fun u hu => wantedC_cg fun t b hg => hu t (reads_g hg)
  unfold reOk at hre
  rw [hw u ht] at hre
  unfold stepD at hs
  split at hs
  · rename_i hwf
    simp only [Option.some.injEq] at hs
    subst hs
    refine ⟨_, ⟨fun t => look_putD t, rfl, rfl, fun _ => rfl⟩, { v with ts := putD x.ci.d (.tup []) v.ts }, ?_, ⟨fun t => look_putD t, rfl, rfl, fun _ => rfl⟩⟩
    unfold stepD; rw [hw v hv, hwf]
  · rename_i hwt
    rw [hwt] at hre
    simp only [hkd'] at hs hre
    split at hs
    · rename_i r h1 c1 he
      simp only [Option.some.injEq] at hs
      subst hs
      split at hre
      · rename_i r' h2 c2 he'
        have hr : Agree x.ci.op.reads u.ts v.ts := fun t ht' => (hv t (reads_op ht')).trans (ht t (reads_op ht')).symm
        have hf : fadd base v.F x.fl v.h = fadd base u.F x.fl u.h := by rw [hvh]; exact fadd_cg hvF
        have hev : ∃ h3 c3, x.ci.op.ev cl (base + x.k) v.c (fadd base v.F x.fl v.h) v.ts = some (r', h3, c3) := by
          rw [COp.ev_cg hr, hf]
          exact ⟨_, _, (COp.ev_rd hkd' he').2.2 _ _⟩
        obtain ⟨h3, c3, hev⟩ := hev
        have hstep : stepD cl base FL x v = some { v with ts := putD x.ci.d r' v.ts } := by
          unfold stepD; rw [hw v hv, hwt]
          simp only [hkd', hev]
        have hrr : putD x.ci.d r s.ts = putD x.ci.d r' s.ts := by
          cases hxd : x.ci.d with
          | none => rfl
          | some t =>
            rw [hxd] at hre
            simp only at hre
            have hl := hd t hxd
            simp only [hxd, putD, look, Nat.beq_refl, cond_true] at hl
            rw [hl] at hre
            simp only [decide_eq_true_eq] at hre
            rw [hre]
        refine ⟨r', ?_, _, hstep, ⟨fun t => look_putD t, rfl, rfl, fun _ => rfl⟩⟩
        rw [hrr]
        exact ⟨fun t => look_putD t, rfl, rfl, fun _ => rfl⟩
      · simp at hre
    · simp at hs
  · simp at hs

/-- What stands ahead of an effect, run behind it. -/
theorem runE {i : RI} {r : CVal} {h' : Heap} {c' : Nat} {si : DS} : ∀ {l1 : List RI} {s u se : DS}, PlusE base i r h' c' s u → PlusE base i r h' c' se si → l1.Pairwise (PairOk base tab RS) →
    (∀ x, x ∈ l1 → x.kd ≠ .eff ∧ x.rs = [] ∧ x.k ≠ i.k ∧ Indep base x i ∧ (x.kd = .rd → x.k ∈ RS ∧ reOk cl base si x = true ∧ (∀ t, t ∈ ciReads x.ci → x.ci.d ≠ some t) ∧ x.k ∉ x.fl)) →
    drawI cl base FL tab l1 s = some se → ∃ ue, drawI cl base FL tab l1 u = some ue ∧ PlusE base i r h' c' se ue := by
  intro l1
  induction l1 with
  | nil => intro s u se hp hq _ _ hs; simp only [drawI, Option.some.injEq] at hs ⊢; subst hs; exact ⟨u, rfl, hp⟩
  | cons x l ih =>
    intro s u se hp hq hpw hx hs
    obtain ⟨hkd, hrs, hne, hin, hre⟩ := hx x (by simp)
    obtain ⟨hp1, hp2⟩ := List.pairwise_cons.1 hpw
    simp only [drawI, hrs, reAll, if_true] at hs ⊢
    split at hs
    case h_2 => simp at hs
    rename_i s1 h1
    have hag : Agree (ciReads x.ci) s.ts u.ts := fun t ht => by rw [hp.ts, if_neg (hin.xy t ht)]
    have hFu : ∀ j, j ∈ x.fl → lookF u.F (base + j) = if ∃ k, k ∈ i.fl ∧ base + k = base + j then none else lookF s.F (base + j) := fun j _ => hp.F _
    have main : ∃ rx fb, Plus x.ci.d rx fb s s1 ∧ (∀ k b, fb = some (k, b) → k = base + x.k) ∧ ∃ u1, stepD cl base FL x u = some u1 ∧ Plus x.ci.d rx fb u u1 := by
      rcases hkx : x.kd with _ | _ | _ | _
      · obtain ⟨rx, fb, g1, g2, g3⟩ := stepD_pure (.inl hkx) h1
        exact ⟨rx, fb, g1, g2, g3 u hag⟩
      · obtain ⟨hR, hok, hs1, hs2⟩ := hre hkx
        have hts : ∀ t, (∀ z, z ∈ l → z.ci.d ≠ some t) → i.ci.d ≠ some t → look si.ts t = look s1.ts t := fun t h2 h3 => by
          rw [hq.ts, if_neg h3]; exact drawI_ts hs h2
        have hq1 := stepD_quiet (by rw [hkx]; simp) h1
        obtain ⟨rx, g1, v1, g2, g3⟩ := reOk_at (s := s) (u := si) (v := u) hkx hok (fun t ht => by
            rw [hts t (fun z hz => ((hp1 z hz).re hR).rd t ht) (hin.xy t ht), stepD_ts h1 (hs1 t ht)]) h1
          (fun t ht => hts t (fun z hz => ((hp1 z hz).re hR).wr t ht) (hin.dd t ht)) hag (hp.h.trans hq.h.symm) (fun j hj => by
            rw [hp.F, hq.F]
            obtain ⟨-, -, q3⟩ := drawI_quiet (fun z hz => (hx z (by simp [hz])).1) hs
            have : lookF se.F (base + j) = lookF s1.F (base + j) := q3 _ fun z hz e => ((hp1 z hz).re hR).fl j hj (by omega)
            rw [this]
            rw [hq1.2.2 _ fun e => hs2 (by have : x.k = j := by omega
                                           rw [this]; exact hj)])
        exact ⟨rx, none, g1, by simp, v1, g2, g3⟩
      · obtain ⟨rx, fb, g1, g2, g3⟩ := stepD_pure (.inr hkx) h1
        exact ⟨rx, fb, g1, g2, g3 u hag⟩
      · exact absurd hkx hkd
    obtain ⟨rx, fb, g1, g2, u1, g3, g4⟩ := main
    rw [g3]
    refine ih (s := s1) (u := u1) ⟨fun t => ?_, g4.h.trans hp.h, g4.c.trans hp.c, fun id => ?_⟩ hq hp2 (fun y hy => hx y (by simp [hy])) hs
    · rw [g4.ts, g1.ts, hp.ts]
      by_cases e1 : x.ci.d = some t
      · simp [e1, hin.dd t e1]
      · simp [e1]
    · rw [g4.F, g1.F, hp.F]
      cases fb with
      | none => rfl
      | some p =>
        obtain ⟨k, b⟩ := p
        have hkk := g2 k b rfl
        simp only
        by_cases e1 : k = id
        · have : ¬ ∃ k', k' ∈ i.fl ∧ base + k' = id := by
            rintro ⟨k', h2, h3⟩
            exact hin.yf k' h2 (by omega)
          simp [e1, this]
        · simp [e1]

/-- An effect, at the front. -/
theorem front_eff {l1 l2 : List RI} {i : RI} {s s' : DS} (hk : i.kd = .eff) (hpw : l1.Pairwise (PairOk base tab RS))
    (hall : ∀ x, x ∈ l1 → x.kd ≠ .eff ∧ x.rs = [] ∧ x.k ≠ i.k ∧ Indep base x i ∧ (x.kd = .rd → findK tab x.k = some x ∧ x.k ∈ RS ∧ (∀ t, t ∈ ciReads x.ci → x.ci.d ≠ some t) ∧ x.k ∉ x.fl))
    (hs : drawI cl base FL tab (l1 ++ i :: l2) s = some s') : ∃ s1 s'', stepD cl base FL i s = some s1 ∧ drawI cl base FL tab (l1 ++ l2) s1 = some s'' ∧ Eqv s' s'' := by
  obtain ⟨se, h1, h2⟩ := drawI_append hs
  simp only [drawI] at h2
  split at h2
  case h_2 => simp at h2
  rename_i si hi
  split at h2
  case isFalse => simp at h2
  rename_i hre
  have hag : Agree (ciReads i.ci) se.ts s.ts := fun t ht => (drawI_ts h1 fun z hz => (hall z hz).2.2.2.1.yx t ht).symm
  obtain ⟨q1, q2, q3⟩ := drawI_quiet (fun z hz => (hall z hz).1) h1
  rcases stepD_eff hk hi with ⟨r, h', c', g1, g2⟩ | ⟨r, g1, g2⟩
  · obtain ⟨u1, g3, g4⟩ := g2 s q1.symm hag (fun j hj => (q3 (base + j) fun z hz e => (hall z hz).2.2.2.1.yf j hj (by omega)).symm) q2.symm
    have hre' : ∀ j, j ∈ i.rs → ∀ z, findK tab j = some z → reOk cl base si z = true := by
      have : ∀ l : List Nat, reAll cl base tab si l = true → ∀ j, j ∈ l → ∀ z, findK tab j = some z → reOk cl base si z = true := by
        intro l
        induction l with
        | nil => intro _ j hj; simp at hj
        | cons a l ih =>
          intro h j hj z hz
          simp only [reAll, Bool.and_eq_true] at h
          rcases List.mem_cons.1 hj with rfl | hj
          · rw [hz] at h; exact h.1
          · exact ih h.2 j hj z hz
      exact this i.rs hre
    obtain ⟨ue, k1, k2⟩ := runE (RS := RS) g4 g1 hpw (fun x hx => by
      obtain ⟨a1, a2, a3, a4, a5⟩ := hall x hx
      refine ⟨a1, a2, a3, a4, fun hrd => ?_⟩
      obtain ⟨b1, b2, b3, b4⟩ := a5 hrd
      exact ⟨b2, hre' x.k (a4.e2 hrd hk) x b1, b3, b4⟩) h1
    obtain ⟨s'', m1, m2⟩ := drawI_eqv (g1.eqv k2) h2
    exact ⟨u1, s'', g3, drawI_join k1 m1, m2⟩
  · obtain ⟨u1, g3, g4⟩ := g2 s hag
    obtain ⟨ue, k1, k2⟩ := drawI_plus (l := l1) g4 (fun x hx => by
      obtain ⟨a1, a2, a3, a4, a5⟩ := hall x hx
      refine ⟨⟨a4.xy, fun t ht => a4.dd t ht, fun k b e => by simp at e⟩, fun k b e => by simp at e, fun j hj => ?_⟩
      rw [a2] at hj; simp at hj) h1
    have he : Eqv si ue := Eqv.of (fun t => (k2.ts t).trans (g1.ts t).symm) (k2.h.trans g1.h.symm) (k2.c.trans g1.c.symm) (fun id => (k2.F id).trans (g1.F id).symm)
    obtain ⟨s'', m1, m2⟩ := drawI_eqv he h2
    exact ⟨u1, s'', g3, drawI_join k1 m1, m2⟩

end Go.Cq
/- Draw regions are right: any order that the machine takes gives what was reckoned. -/
namespace Go.Cq
open Go.RowKit

section
variable {P : Program} {nt : Nat} {K : Nat → Prop} {w0 : World} {A0 : Nat → Nd} {U0 : Nat → Prop} {c0 : Nat} {cl : CallF} {ops : Array Oper}
variable {base : Nat} {FL : List Nat} {tab : List RI} {RS : List Nat}

/-- A part of the heap was used; the rest is as it was. -/
theorem Sim.readd {A : Nat → Nd} {h hk : Heap} {U : Nat → Prop} {w w' : World} (hs : Sim A h U K w0 w) (hsub : ∀ id b, hk.get id = some b → h.get id = some b) (hsm : ∀ id, hk.getM id = h.getM id) {new : Nat → Prop} {A' : Nat → Nd} {h' : Heap} {U' : Nat → Prop}
    (hp : Post new A hk U w A' h' U' w') {H : Heap} (hH : ∀ id b, H.get id = some b → h'.get id = some b ∨ h.get id = some b ∧ hk.get id = none) (hHm : ∀ id, H.getM id = h'.getM id) : Sim A' H U' K w0 w' := by
  have hb := (hs.sub hsub (fun _ h => h) fun id x hx => (hsm id).symm.trans hx).back hp.sim
  have hout : ∀ {id b}, h.get id = some b → hk.get id = none → (A id).blk < w.heap.size ∧ ¬ Liv A hk (A id).blk ∧ A' id = A id := by
    intro id b h1 h2
    refine ⟨hs.lt h1, ?_, hp.ext id (hs.live id b h1).1⟩
    rintro (⟨id2, b2, h3, h4⟩ | ⟨id2, x2, h3, h4⟩)
    · have := hs.inj id2 id b2 b (hsub _ _ h3) h1 h4
      subst this
      rw [h3] at h2; simp at h2
    · rw [hsm] at h3
      obtain ⟨-, -, -, o, k4, k5⟩ := hs.maps id2 x2 h3
      obtain ⟨-, -, c, e, k6, -⟩ := hs.live id b h1
      rw [h4, k6] at k4
      simp only [Option.some.injEq] at k4
      exact k5.not_cells k4.symm
  have hin : ∀ {id b}, h'.get id = some b → w.heap.size ≤ (A' id).blk ∨ Liv A hk (A' id).blk := fun h1 => (hp.sim.live _ _ h1).2.1
  refine ⟨hb.os, hb.tape, hb.output, hb.size, hb.old, fun id b h1 => ?_, fun id id' b b' h1 h2 he => ?_, fun id x hx => hb.maps id x ((hHm id).symm.trans hx), fun id id' x x' hx hx' => hb.minj id id' x x' ((hHm id).symm.trans hx) ((hHm id').symm.trans hx')⟩
  · rcases hH id b h1 with h2 | ⟨h2, h3⟩
    · exact hb.live id b h2
    · obtain ⟨k1, k2, c, e, k3, k4⟩ := hs.live id b h2
      obtain ⟨m1, m2, m3⟩ := hout h2 h3
      rw [m3]
      refine ⟨hp.sub id k1, k2, c, e, ?_, k4.ext hp.ext hp.sub⟩
      rw [hp.sim.old _ m1 m2]; exact k3
  · rcases hH id b h1 with h3 | ⟨h3, h4⟩
    · rcases hH id' b' h2 with h5 | ⟨h5, h6⟩
      · exact hb.inj id id' b b' h3 h5 he
      · obtain ⟨m1, m2, m3⟩ := hout h5 h6
        rcases hin h3 with h7 | h7
        · rw [he, m3] at h7; omega
        · rw [he, m3] at h7; exact absurd h7 m2
    · obtain ⟨m1, m2, m3⟩ := hout h3 h4
      rcases hH id' b' h2 with h5 | ⟨h5, h6⟩
      · rcases hin h5 with h7 | h7
        · rw [← he, m3] at h7; omega
        · rw [← he, m3] at h7; exact absurd h7 m2
      · obtain ⟨-, -, n3⟩ := hout h5 h6
        rw [m3, n3] at he
        exact hs.inj id id' b b' h3 h5 he

/-- What holds along a draw region. pend: what is left to do. -/
structure DInv (nt : Nat) (K : Nat → Prop) (w0 : World) (A0 : Nat → Nd) (U0 : Nat → Prop) (c0 base n : Nat) (FL : List Nat) (pend : Nat → Prop) (s : DS) (a : Act) (w : World) : Prop where
  st : ∃ A U, Sim A (fall s.F s.h) U K w0 w ∧ TsOk A U s.ts a.tmps ∧ (∀ id, s.c ≤ id → ¬ U id) ∧ (∀ k, pend k → ¬ U (base + k)) ∧ Ext A0 A U0 ∧ (∀ id, U0 id → U id) ∧ (∀ id, U id → U0 id ∨ c0 ≤ id ∧ id < s.c)
  pn : ∀ k, pend k → k < n
  tm : a.tmps.size = nt
  df : a.defers = []
  lo : c0 ≤ base
  hi : base + n ≤ s.c
  F : ∀ p, p ∈ s.F → ∃ k, k ∈ FL ∧ p.1 = base + k
  H : ∀ p, p ∈ s.F → s.h.get p.1 = none

theorem fadd_sub {F : List (Nat × Blk)} {h : Heap} (hF : ∀ p, p ∈ F → h.get p.1 = none) {fl : List Nat} {id : Nat} {b : Blk} (hg : (fadd base F fl h).get id = some b) : (fall F h).get id = some b := by
  rw [get_fall]
  rcases get_fadd hg with ⟨h1, -⟩ | h1
  · rw [h1]
  · cases hl : lookF F id with
    | none => exact h1
    | some b' => rw [hF _ (lookF_mem hl)] at h1; simp at h1

/-- One operation that may come now. -/
theorem stepD_sound (hcl : ClOk P cl) {n : Nat} {pend : Nat → Prop} {x : RI} {o : Oper} (ho : ops[x.k]? = some o) (hok : okI P nt ops x.ci o = true) (hxn : x.k < n) (hpx : pend x.k)
    (heff : x.kd = .eff → ∀ k, k ∈ FL → Nat.testBit x.anc k = true → k ∈ x.fl) (hnew : x.kd = .new → x.k ∈ FL)
    {s s' : DS} {a : Act} {w : World} (hs : DInv nt K w0 A0 U0 c0 base n FL pend s a w) (hr : stepD cl base FL x s = some s')
    {Kn : Act → World → Prop} {Q : Exit → Act → World → Prop} (hn : ∀ a' w', DInv nt K w0 A0 U0 c0 base n FL (fun k => pend k ∧ k ≠ x.k) s' a' w' → Kn a' w') : wpOp P ops Q x.k Kn a w := by
  obtain ⟨⟨A, U, s1, s2, s5, s5', s6, s7, s8⟩, sn, s3, s4, slo, shi, sF, sH⟩ := hs
  obtain ⟨o1, o2, o3, o4⟩ := okI_parts hok
  unfold wpOp
  simp only [ho]
  unfold stepD at hr
  split at hr
  · rename_i hw
    rw [wanted_of s2 o4 hw]
    simp only [Bool.false_eq_true, if_false]
    simp only [Option.some.injEq] at hr
    subst hr
    refine hn _ _ ⟨⟨A, U, s1, ?_, s5, fun k hk => s5' k hk.1, s6, s7, s8⟩, fun k hk => sn k hk.1, by rw [(put_size _ _ _).1]; exact s3, by rw [(put_size _ _ _).2]; exact s4, slo, shi, sF, sH⟩
    rw [o1]
    exact tsOk_put s2 (fun t ht => by rw [s3]; exact o2 t ht) (undef_ok A U)
  · rename_i hw
    rw [wanted_of s2 o4 hw]
    simp only [if_true]
    refine .inl ?_
    have hiu : ¬ U (base + x.k) := s5' _ hpx
    -- what a right evaluation over a part of the heap gives
    have gen : ∀ {hk h' : Heap} {r : CVal} {c' : Nat} {F' : List (Nat × Blk)}, (∀ id b, hk.get id = some b → (fall s.F s.h).get id = some b) → (∀ id, hk.getM id = (fall s.F s.h).getM id) → x.ci.op.ev cl (base + x.k) s.c hk s.ts = some (r, h', c') →
        ∀ H : DS, H.ts = putD x.ci.d r s.ts → H.c = c' → (∀ id b, (fall H.F H.h).get id = some b → h'.get id = some b ∨ (fall s.F s.h).get id = some b ∧ hk.get id = none) → (∀ id, (fall H.F H.h).getM id = h'.getM id) →
        (∀ p, p ∈ H.F → ∃ k, k ∈ FL ∧ p.1 = base + k) → (∀ p, p ∈ H.F → H.h.get p.1 = none) → (∀ a' w', DInv nt K w0 A0 U0 c0 base n FL (fun k => pend k ∧ k ≠ x.k) H a' w' → Kn a' w') → Oper.wp P o a w Kn Q := by
      intro hk h' r c' F' hsub hsm he H e1 e2 e3 e3m e4 e5 hn
      have hst : Sim A hk U (Liv A hk) w w := (s1.sub hsub (fun _ h => h) fun id y hy => (hsm id).symm.trans hy).start
      have hcc := fun id (hid : s.c ≤ id) => s5 id hid
      have hle := (COp.sound (a := a) (o := o) (next := fun _ _ => True) (Q := Q) hcl hst s2 hiu hcc o3 he (fun _ _ _ _ _ _ => trivial)).1
      refine (COp.sound (a := a) (o := o) hcl hst s2 hiu hcc o3 he ?_).2
      intro v w' A' U' hp hv
      refine hn _ _ ⟨⟨A', U', s1.readd hsub hsm hp e3 e3m, ?_, ?_, ?_, s6.trans (fun id hid => hp.ext id (s7 id hid)) (fun _ h => h), fun id hid => hp.sub id (s7 id hid), ?_⟩, fun k hk => sn k hk.1, by rw [(put_size _ _ _).1]; exact s3, by rw [(put_size _ _ _).2]; exact s4, slo, by omega, e4, e5⟩
      · rw [o1, e1]
        exact tsOk_put (s2.ext hp.ext hp.sub) (fun t ht => by rw [s3]; exact o2 t ht) hv
      · intro id hid hU
        rcases hp.new id hU with h1 | h1 | h1
        · exact s5 id (by omega) h1
        · omega
        · omega
      · intro k hk hU
        have hkn := hk.2
        rcases hp.new _ hU with h1 | h1 | h1
        · exact s5' k hk.1 h1
        · omega
        · have := sn k hk.1; omega
      · intro id hU
        rcases hp.new id hU with h1 | h1 | h1
        · rcases s8 id h1 with h2 | h2
          · exact .inl h2
          · exact .inr ⟨h2.1, by omega⟩
        · exact .inr ⟨by omega, by omega⟩
        · exact .inr ⟨by omega, by omega⟩
    split at hr
    · rename_i hkd
      split at hr
      · rename_i y hy
        split at hr
        · rename_i b cv he
          simp only [Option.some.injEq] at hr
          subst hr
          refine gen (F' := []) (hk := fall s.F s.h) (h' := (fall s.F s.h).set (base + x.k) (some b)) (fun _ _ h => h) (fun _ => rfl) (by rw [hy]; simp only [COp.ev, he]) { s with ts := putD x.ci.d (.v (.one cv)) s.ts, F := (base + x.k, b) :: s.F } rfl rfl (fun id b' h => .inl h) (fun _ => rfl) (fun p hp => ?_) (fun p hp => ?_) hn
          · rcases List.mem_cons.1 hp with rfl | hp
            · exact ⟨x.k, hnew hkd, rfl⟩
            · exact sF p hp
          · rcases List.mem_cons.1 hp with rfl | hp
            · show s.h.get (base + x.k) = none
              cases hg : s.h.get (base + x.k) with
              | none => rfl
              | some b0 =>
                have : ∃ b1, (fall s.F s.h).get (base + x.k) = some b1 := by
                  rw [get_fall]
                  cases lookF s.F (base + x.k) with
                  | none => exact ⟨_, hg⟩
                  | some b1 => exact ⟨_, rfl⟩
                obtain ⟨b1, h1⟩ := this
                exact absurd (s1.live _ _ h1).1 hiu
            · exact sH p hp
        · simp at hr
      · simp at hr
    · rename_i hkd
      split at hr
      · rename_i r h' c' he
        split at hr
        · rename_i hall
          simp only [Option.some.injEq] at hr
          subst hr
          refine gen (F' := []) (fun _ _ h => fadd_sub sH h) (fun _ => by simp only [getM_fall, getM_fadd]) he _ rfl rfl (fun id b h => ?_) (fun _ => by simp only [getM_fall]) (fun p hp => sF p (mem_dropF hp)) (fun p hp => ?_) hn
          · rw [get_fall] at h
            cases hl : lookF (dropF base x.fl s.F) id with
            | none => rw [hl] at h; exact .inl h
            | some b1 =>
              rw [hl] at h
              simp only [Option.some.injEq] at h
              subst h
              have hl2 := hl
              rw [lookF_drop] at hl
              split at hl
              · simp at hl
              · rename_i hno
                refine .inr ⟨by rw [get_fall, hl], ?_⟩
                cases hg : (fadd base s.F x.fl s.h).get id with
                | none => rfl
                | some b2 =>
                  rcases get_fadd hg with ⟨-, k, hk, e⟩ | h1
                  · exact absurd ⟨k, hk, e.symm⟩ hno
                  · rw [sH _ (lookF_mem hl)] at h1; simp at h1
          · obtain ⟨k, hk, e⟩ := sF p (mem_dropF hp)
            rw [List.all_eq_true] at hall
            have := hall k hk
            rw [Bool.or_eq_true] at this
            rcases this with h1 | h1
            · exact absurd e.symm (dropF_not hp k (heff hkd k hk h1))
            · rw [e]; simpa using h1
        · simp at hr
      · simp at hr
    · rename_i hk1 hk2
      split at hr
      · rename_i r h1 c1 he
        simp only [Option.some.injEq] at hr
        subst hr
        have hq : h1 = fadd base s.F x.fl s.h ∧ c1 = s.c := by
          cases hkk : x.ci.op.kind with
          | new => exact (hk1 hkk).elim
          | eff => exact (hk2 hkk).elim
          | pure => exact ⟨(COp.ev_pure hkk he).1, (COp.ev_pure hkk he).2.1⟩
          | rd => exact ⟨(COp.ev_rd hkk he).1, (COp.ev_rd hkk he).2.1⟩
        obtain ⟨rfl, rfl⟩ := hq
        refine gen (F' := []) (fun _ _ h => fadd_sub sH h) (fun _ => by simp only [getM_fall, getM_fadd]) he { s with ts := putD x.ci.d r s.ts } rfl rfl (fun id b h => ?_) (fun _ => by simp only [getM_fall, getM_fadd]) sF sH hn
        cases hg : (fadd base s.F x.fl s.h).get id with
        | none => exact .inr ⟨h, rfl⟩
        | some b2 =>
          have := fadd_sub sH hg
          rw [this] at h
          simp only [Option.some.injEq] at h
          subst h
          exact .inl rfl
      · simp at hr
  · simp at hr

/-! ### The order -/

structure Good (P : Program) (nt : Nat) (ops : Array Oper) (FL : List Nat) (tab : List RI) (RS : List Nat) (x : RI) : Prop where
  one : oneOk P nt ops FL tab x = true

theorem testBit_or {a b i : Nat} (h : Nat.testBit (Nat.lor a b) i = true) : Nat.testBit a i = true ∨ Nat.testBit b i = true := by
  have : Nat.testBit (a ||| b) i = true := h
  rw [Nat.testBit_or, Bool.or_eq_true] at this
  exact this

/-- A bit of what stands before: something waited for, or before that. -/
theorem ancOf_bit {i : Nat} : ∀ {l : List Edge}, Nat.testBit (ancOf tab l) i = true → ∃ e, e ∈ l ∧ Region.binds .any e = true ∧ (i = e.on ∨ ∃ y, findK tab e.on = some y ∧ Nat.testBit y.anc i = true) := by
  intro l
  induction l with
  | nil => intro h; simp [ancOf] at h
  | cons e l ih =>
    intro h
    simp only [ancOf] at h
    cases hb : Region.binds .any e with
    | false =>
      rw [hb] at h
      obtain ⟨e', h1, h2⟩ := ih h
      exact ⟨e', by simp [h1], h2⟩
    | true =>
      rw [hb] at h
      simp only [cond_true] at h
      rcases testBit_or h with h1 | h1
      · rcases testBit_or h1 with h2 | h2
        · refine ⟨e, by simp, hb, .inl ?_⟩
          rw [Nat.testBit_two_pow] at h2
          simpa using (of_decide_eq_true h2).symm
        · refine ⟨e, by simp, hb, .inr ?_⟩
          split at h2
          · rename_i y hy; exact ⟨y, hy, h2⟩
          · simp at h2
      · obtain ⟨e', h1, h2⟩ := ih h1
        exact ⟨e', by simp [h1], h2⟩

structure OneOk (P : Program) (nt : Nat) (ops : Array Oper) (FL : List Nat) (tab : List RI) (x : RI) (o : Oper) : Prop where
  get : ops[x.k]? = some o
  ok : okI P nt ops x.ci o = true
  anc : x.anc = ancOf tab o.after.toList
  lt : ∀ e, e ∈ o.after.toList → Region.binds .any e = true → e.on < x.k
  eff : x.kd = .eff → ∀ k, k ∈ FL → Nat.testBit x.anc k = true → k ∈ x.fl
  new : x.kd = .new → x.k ∈ FL
  rs : x.kd ≠ .eff → x.rs = []
  rd : x.kd = .rd → (∀ t, t ∈ ciReads x.ci → x.ci.d ≠ some t) ∧ x.k ∉ x.fl

theorem oneOk_of {x : RI} (h : oneOk P nt ops FL tab x = true) : ∃ o, OneOk P nt ops FL tab x o := by
  unfold oneOk at h
  split at h
  case h_2 => simp at h
  rename_i o ho
  simp only [Bool.and_eq_true] at h
  obtain ⟨⟨⟨h1, h2⟩, h3⟩, h4⟩ := h
  refine ⟨o, ho, h2, Nat.eq_of_beq_eq_true h3, fun e he hb => ?_, fun hk k hk1 hk2 => ?_, fun hk => ?_, fun hk => ?_, fun hk => ?_⟩
  · rw [List.all_eq_true] at h4
    have := h4 e he
    rw [hb] at this
    simpa [Nat.blt_eq] using this
  · rw [hk] at h1
    simp only [List.all_eq_true] at h1
    have := h1 k hk1
    rw [hk2] at this
    simp only [Bool.not_true, Bool.false_or] at this
    obtain ⟨j, hj, hb⟩ := List.any_eq_true.1 this
    rw [Nat.eq_of_beq_eq_true hb]; exact hj
  · rw [hk] at h1
    simp only [Bool.and_eq_true] at h1
    obtain ⟨j, hj, hb⟩ := List.any_eq_true.1 h1.1
    rw [Nat.eq_of_beq_eq_true hb]; exact hj
  · cases hkk : x.kd with
    | eff => exact absurd hkk hk
    | new => rw [hkk] at h1; simp only [Bool.and_eq_true, List.isEmpty_iff] at h1; exact h1.2
    | rd => rw [hkk] at h1; simp only [Bool.and_eq_true, List.isEmpty_iff] at h1; exact h1.1.1
    | pure => rw [hkk] at h1; simpa using h1
  · rw [hk] at h1
    simp only [Bool.and_eq_true] at h1
    exact ⟨fun t ht => notIn_ne h1.1.2 ht, notAny h1.2⟩

/-- What is listed is closed below. -/
def Closed (ops : Array Oper) (D : Nat → Prop) : Prop := ∀ k o, ops[k]? = some o → D k → ∀ e, e ∈ o.after.toList → Region.binds .any e = true → D e.on

theorem anc_done (hone : ∀ x, x ∈ tab → ∃ o, OneOk P nt ops FL tab x o) {D : Nat → Prop} (hcl : Closed ops D) : ∀ (m : Nat) {x : RI} {o : Oper}, x.k < m → OneOk P nt ops FL tab x o → (∀ e, e ∈ o.after.toList → Region.binds .any e = true → D e.on) → ∀ i, Nat.testBit x.anc i = true → D i := by
  intro m
  induction m with
  | zero => intro x o h; omega
  | succ m ih =>
    intro x o hx ho hd i hi
    rw [ho.anc] at hi
    obtain ⟨e, h1, h2, h3⟩ := ancOf_bit hi
    rcases h3 with rfl | ⟨y, hy, h4⟩
    · exact hd e h1 h2
    · obtain ⟨m1, m2⟩ := findK_some hy
      obtain ⟨o', ho'⟩ := hone y m1
      have hlt := ho.lt e h1 h2
      exact ih (by omega) ho' (fun e' he' hb' => hcl y.k o' ho'.get (by rw [m2]; exact hd e h1 h2) e' he' hb') i h4

inductive Topo (ops : Array Oper) : (Nat → Prop) → List RI → Prop where
  | nil {D} : Topo ops D []
  | cons {D x l o} (ho : ops[x.k]? = some o) (h : ∀ e, e ∈ o.after.toList → Region.binds .any e = true → D e.on) (t : Topo ops (fun i => D i ∨ i = x.k) l) : Topo ops D (x :: l)

theorem Topo.mono {D D' : Nat → Prop} {l : List RI} (h : Topo ops D l) (hD : ∀ i, D i → D' i) : Topo ops D' l := by
  induction h generalizing D' with
  | nil => exact .nil
  | cons ho h t ih => exact .cons ho (fun e he hb => hD _ (h e he hb)) (ih fun i hi => hi.imp (hD i) id)

theorem Topo.remove {D : Nat → Prop} {l1 l2 : List RI} {i : RI} (h : Topo ops D (l1 ++ i :: l2)) : Topo ops (fun j => D j ∨ j = i.k) (l1 ++ l2) := by
  induction l1 generalizing D with
  | nil => cases h with | cons ho h t => exact t
  | cons x l ih =>
    cases h with
    | cons ho h t => exact .cons ho (fun e he hb => .inl (h e he hb)) ((ih t).mono fun j hj => by rcases hj with (hj | hj) | hj <;> simp [hj])

theorem topo_of : ∀ {l : List RI} {done : List Nat}, topo ops done l = true → Topo ops (· ∈ done) l := by
  intro l
  induction l with
  | nil => intro done _; exact .nil
  | cons x l ih =>
    intro done h
    simp only [topo, Bool.and_eq_true] at h
    split at h
    case h_2 => simp at h
    rename_i o ho
    refine .cons ho (fun e he hb => ?_) ((ih h.2).mono fun i hi => ?_)
    · have := List.all_eq_true.1 h.1 e he
      rw [hb] at this
      simp only [Bool.not_true, Bool.false_or] at this
      obtain ⟨j, hj, hb⟩ := List.any_eq_true.1 this
      rw [Nat.eq_of_beq_eq_true hb]; exact hj
    · rcases List.mem_cons.1 hi with rfl | hi
      · exact .inr rfl
      · exact .inl hi

/-- Any order. -/
theorem any_sound (hcl : ClOk P cl) {n : Nat} (hn : n = ops.size) (hone : ∀ x, x ∈ tab → ∃ o, OneOk P nt ops FL tab x o) {sf : DS} {Q : Exit → Act → World → Prop} (hQ : ∀ se a w, Eqv sf se → DInv nt K w0 A0 U0 c0 base n FL (fun _ => False) se a w → Q .normal a w) :
    ∀ (m : Nat) (l : List RI) (listed : Array Bool) (s s' : DS) (a : Act) (w : World), l.length = m → listed.size = n →
      (∀ x, x ∈ l → x ∈ tab ∧ findK tab x.k = some x ∧ listed.getD x.k true = false) → (∀ k, k < n → listed.getD k true = false → ∃ x, x ∈ l ∧ x.k = k) →
      (∀ x, x ∈ l → x.kd = .rd → ∀ y, y ∈ l → y.kd = .eff → x.k ∈ y.rs → x.k ∈ RS) →
      l.Pairwise (PairOk base tab RS) → Topo ops (fun i => listed.getD i false = true) l → Closed ops (fun i => listed.getD i false = true) →
      DInv nt K w0 A0 U0 c0 base n FL (fun k => ∃ x, x ∈ l ∧ x.k = k) s a w → drawI cl base FL tab l s = some s' → Eqv sf s' → wpAny P .any ops Q m listed a w := by
  intro m
  induction m with
  | zero =>
    intro l listed s s' a w hlen hsz hl1 hl2 hRS hpw htopo hclosed hs hr he
    have hl : l = [] := List.length_eq_zero_iff.1 hlen
    subst hl
    simp only [drawI, Option.some.injEq] at hr
    subst hr
    refine ⟨?_, hQ _ _ _ he ?_⟩
    · rw [List.eq_nil_iff_forall_not_mem]
      intro k hk
      obtain ⟨h1, o, h2, -⟩ := mem_ready.1 hk
      have hlt : k < n := by rw [hn]; exact (Array.getElem?_eq_some_iff.1 h2).1
      obtain ⟨x, hx, -⟩ := hl2 k hlt h1
      simp at hx
    · obtain ⟨A, U, s1, s2, s5, s5', rest⟩ := hs.st
      exact ⟨⟨A, U, s1, s2, s5, fun k h => h.elim, rest⟩, fun k h => h.elim, hs.tm, hs.df, hs.lo, hs.hi, hs.F, hs.H⟩
  | succ m ih =>
    intro l listed s s' a w hlen hsz hl1 hl2 hRS hpw htopo hclosed hs hr he
    have hget : ∀ k, k < n → listed.getD k true = listed.getD k false := fun k hk => by
      have : k < listed.size := by omega
      simp [Array.getD, this]
    refine ⟨fun hnil => ?_, fun k hk => ?_⟩
    · -- the first one is ready
      cases l with
      | nil => simp at hlen
      | cons x l =>
        obtain ⟨h1, h1', h2⟩ := hl1 x (by simp)
        cases htopo with
        | cons ho h t =>
          have : x.k ∈ Region.ready .any ops listed := mem_ready.2 ⟨h2, _, ho, fun e he hb => h e (by simpa using he) hb⟩
          rw [hnil] at this
          simp at this
    · obtain ⟨h1, o, h2, h3⟩ := mem_ready.1 hk
      have hkn : k < n := by rw [hn]; exact (Array.getElem?_eq_some_iff.1 h2).1
      obtain ⟨i, hi, rfl⟩ := hl2 k hkn h1
      obtain ⟨hit, -, -⟩ := hl1 i hi
      obtain ⟨o', oo⟩ := hone i hit
      have : o' = o := by have := oo.get; rw [h2] at this; simpa using this.symm
      subst this
      have hdone : ∀ e, e ∈ o'.after.toList → Region.binds .any e = true → listed.getD e.on false = true := fun e he hb => h3 e (by simpa using he) hb
      have hanc := anc_done hone hclosed (i.k + 1) (Nat.lt_succ_self _) oo hdone
      obtain ⟨l1, l2, rfl⟩ := List.append_of_mem hi
      have hpw' := List.pairwise_append.1 hpw
      have hpi : ∀ x, x ∈ l1 → PairOk base tab RS x i := fun x hx => hpw'.2.2 x hx i (by simp)
      have hin : ∀ x, x ∈ l1 → Indep base x i := fun x hx => by
        rcases (hpi x hx).ord with h | h
        · have h5 := hanc x.k h
          have h6 := (hl1 x (by simp [hx])).2.2
          have hxn : x.k < n := hs.pn _ ⟨x, by simp [hx], rfl⟩
          rw [hget _ hxn, h5] at h6
          simp at h6
        · exact h
      have hfront : ∃ s1 s'', stepD cl base FL i s = some s1 ∧ drawI cl base FL tab (l1 ++ l2) s1 = some s'' ∧ Eqv s' s'' := by
        by_cases hkd : i.kd = .eff
        · refine front_eff (RS := RS) hkd hpw'.1 (fun x hx => ?_) hr
          have hx1 := (hin x hx).e1 (.inl hkd)
          obtain ⟨ox, oox⟩ := hone x (hl1 x (by simp [hx])).1
          refine ⟨hx1, oox.rs hx1, (hpi x hx).ne, hin x hx, fun hrd => ⟨(hl1 x (by simp [hx])).2.1, ?_, (oox.rd hrd).1, (oox.rd hrd).2⟩⟩
          exact hRS x (by simp [hx]) hrd i (by simp) hkd ((hin x hx).e2 hrd hkd)
        · exact front_plain hkd (fun x hx => ⟨(hpi x hx).ne, hin x hx, (hpi x hx).rs⟩) hr
      obtain ⟨s1, s'', f1, f2, f3⟩ := hfront
      have hne2 : ∀ y, y ∈ l1 ++ l2 → y.k ≠ i.k := fun y hy => by
        rcases List.mem_append.1 hy with hy | hy
        · exact (hpi y hy).ne
        · exact fun e => (List.pairwise_cons.1 hpw'.2.1).1 y hy |>.ne e.symm
      refine stepD_sound hcl h2 oo.ok hkn ⟨i, by simp, rfl⟩ oo.eff oo.new hs f1 fun a' w' hs' => ?_
      refine ih (l1 ++ l2) _ s1 s'' a' w' (by simp at hlen ⊢; omega) (by simpa using hsz) (fun x hx => ?_) (fun j hj hjl => ?_) (fun x hx hk1 y hy hk2 hxy => ?_) ?_ ?_ ?_ ?_ f2 (he.trans f3)
      · have hx' : x ∈ l1 ++ i :: l2 := by rcases List.mem_append.1 hx with h | h <;> simp [h]
        refine ⟨(hl1 x hx').1, (hl1 x hx').2.1, ?_⟩
        rw [getD_set_ne true (hne2 x hx).symm]
        exact (hl1 x hx').2.2
      · by_cases hji : i.k = j
        · subst hji
          exfalso
          have : i.k < listed.size := by omega
          simp [Array.getD, this] at hjl
        · rw [getD_set_ne true hji] at hjl
          obtain ⟨x, hx, rfl⟩ := hl2 j hj hjl
          refine ⟨x, ?_, rfl⟩
          rcases List.mem_append.1 hx with h | h
          · simp [h]
          · rcases List.mem_cons.1 h with rfl | h
            · exact absurd rfl hji
            · simp [h]
      · exact hRS x (by rcases List.mem_append.1 hx with h | h <;> simp [h]) hk1 y (by rcases List.mem_append.1 hy with h | h <;> simp [h]) hk2 hxy
      · exact hpw.sublist (List.Sublist.append (List.Sublist.refl l1) (List.sublist_cons_self i l2))
      · refine htopo.remove.mono fun j hj => ?_
        rcases hj with hj | rfl
        · exact getD_set_true hj
        · have : i.k < listed.size := by omega
          simp [Array.getD, this]
      · intro k o2 ho2 hD e he hb
        by_cases hki : i.k = k
        · subst hki
          have : o2 = o' := by rw [h2] at ho2; simpa using ho2.symm
          subst this
          exact getD_set_true (hdone e he hb)
        · rw [getD_set_ne false hki] at hD
          exact getD_set_true (hclosed k o2 ho2 hD e he hb)
      · obtain ⟨A, U, q1, q2, q5, q5', rest⟩ := hs'.st
        have hpend : ∀ k, (∃ x, x ∈ l1 ++ l2 ∧ x.k = k) → (∃ x, x ∈ l1 ++ i :: l2 ∧ x.k = k) ∧ k ≠ i.k := by
          rintro k ⟨x, hx, rfl⟩
          exact ⟨⟨x, by rcases List.mem_append.1 hx with h | h <;> simp [h], rfl⟩, hne2 x hx⟩
        exact ⟨⟨A, U, q1, q2, q5, fun k hk => q5' k (hpend k hk), rest⟩, fun k hk => hs'.pn k (hpend k hk), hs'.tm, hs'.df, hs'.lo, hs'.hi, hs'.F, hs'.H⟩

/-- What is asked of a draw region holds. -/
theorem draw_sound (hm : P.follows .mixedOrders = true) (hcl : ClOk P cl) {n : Nat} {l : List RI} (hd : dok P nt ops n FL l = true) {s : St} {s' : DS} {a : Act} {w : World} {id : Nat} {Q : Exit → Act → World → Prop}
    (hs : Inv nt K w0 A0 U0 c0 s a w) (hr : drawI cl s.c FL l l ⟨s.ts, s.h, [], s.c + n⟩ = some s') (hn : ∀ a' w', Inv nt K w0 A0 U0 c0 ⟨s'.ts, fall s'.F s'.h, s'.c⟩ a' w' → Q .normal a' w') : (Code.region id ops true).wp P Q a w := by
  unfold dok at hd
  simp only [Bool.and_eq_true] at hd
  obtain ⟨⟨⟨⟨d1, d2⟩, d3⟩, d4⟩, d5⟩ := hd
  have hn' := Nat.eq_of_beq_eq_true d1
  have hone : ∀ x, x ∈ l → ∃ o, OneOk P nt ops FL l x o := fun x hx => oneOk_of (List.all_eq_true.1 d3 x hx)
  have hpw := allPairs_of (base := s.c) d4
  have hfind : ∀ x, x ∈ l → findK l x.k = some x := by
    have : ∀ (l : List RI), l.Pairwise (fun x y => x.k ≠ y.k) → ∀ x, x ∈ l → findK l x.k = some x := by
      intro l
      induction l with
      | nil => intro _ x hx; simp at hx
      | cons y l ih =>
        intro hp x hx
        obtain ⟨p1, p2⟩ := List.pairwise_cons.1 hp
        simp only [findK]
        rcases List.mem_cons.1 hx with rfl | hx
        · simp
        · have hne := p1 x hx
          cases hb : Nat.beq y.k x.k with
          | true => exact absurd (Nat.eq_of_beq_eq_true hb) hne
          | false => exact ih p2 x hx
    exact this l (hpw.imp fun h => h.ne)
  refine wp_region_any hm ?_
  obtain ⟨A, U, s1, s2, s3, s4, s5, s6, s7, s8, s9⟩ := hs
  refine any_sound (base := s.c) (nt := nt) (K := K) (w0 := w0) (A0 := A0) (U0 := U0) (c0 := c0) (FL := FL) (tab := l) (RS := l.flatMap (·.rs)) (sf := s') hcl rfl hone ?_ ops.size l (Array.replicate ops.size false) ⟨s.ts, s.h, [], s.c + n⟩ s' _ _ ?_ (by simp) ?_ ?_ ?_ hpw ((topo_of d5).mono fun i hi => by simp at hi) ?_ ?_ hr (Eqv.refl s')
  · intro se a w he hi
    obtain ⟨A, U, q1, q2, q5, -, q6, q7, q8⟩ := hi.st
    refine hn _ _ ⟨A, U, q1.sub (fun id b hb => ?_) (fun _ h => h) (fun id x hx => ?_), fun t x hx => q2 t x ?_, hi.tm, hi.df, fun id hid => q5 id (by rw [he.c]; exact hid), q6, q7, fun id hid => ?_, ?_⟩
    · simp only [get_fall] at hb ⊢
      rw [he.F, he.h]; exact hb
    · simp only [getM_fall] at hx ⊢
      rw [he.h]; exact hx
    · rw [he.ts, if_neg (by simp)]; exact hx
    · have := q8 id hid
      rw [he.c] at this; exact this
    · have h1 := hi.lo
      have h2 := hi.hi
      rw [he.c] at h2
      show c0 ≤ s'.c
      omega
  · -- as many as there are
    have h1 : l.map (·.k) |>.Nodup := by
      rw [List.nodup_iff_pairwise_ne, List.pairwise_map]
      exact hpw.imp fun h => h.ne
    have h2 : ∀ k, k ∈ l.map (·.k) ↔ k ∈ List.range ops.size := by
      intro k
      rw [List.mem_map, List.mem_range]
      constructor
      · rintro ⟨x, hx, rfl⟩
        obtain ⟨o, oo⟩ := hone x hx
        exact (Array.getElem?_eq_some_iff.1 oo.get).1
      · intro hk
        have := List.all_eq_true.1 d2 k (List.mem_range.2 (by omega))
        obtain ⟨x, hx⟩ := Option.isSome_iff_exists.1 this
        exact ⟨x, (findK_some hx).1, (findK_some hx).2⟩
    have h3 := (List.perm_ext_iff_of_nodup h1 List.nodup_range).2 h2
    have := h3.length_eq
    simpa using this
  · intro x hx
    refine ⟨hx, hfind x hx, ?_⟩
    obtain ⟨o, oo⟩ := hone x hx
    have := (Array.getElem?_eq_some_iff.1 oo.get).1
    simp [Array.getD, this]
  · intro k hk _
    have := List.all_eq_true.1 d2 k (List.mem_range.2 (by omega))
    obtain ⟨x, hx⟩ := Option.isSome_iff_exists.1 this
    exact ⟨x, findK_some hx⟩
  · intro x hx _ y hy _ hxy
    exact List.mem_flatMap.2 ⟨y, hy, hxy⟩
  · intro k o ho hD
    have hlt := (Array.getElem?_eq_some_iff.1 ho).1
    simp [Array.getD, hlt] at hD
  · refine ⟨⟨A, U, ⟨s1.os, s1.tape, s1.output, s1.size, s1.old, s1.live, s1.inj, s1.maps, s1.minj⟩, s2, fun id hid => s5 id (by have : s.c + n ≤ id := hid; omega), fun k _ => s5 _ (by omega), s6, s7, fun id hU => ?_⟩, ?_, s3, s4, s9, ?_, by simp, by simp⟩
    · rcases s8 id hU with h | h
      · exact .inl h
      · exact .inr ⟨h.1, by show id < s.c + n; omega⟩
    · rintro k ⟨x, hx, rfl⟩
      obtain ⟨o, oo⟩ := hone x hx
      exact (Array.getElem?_eq_some_iff.1 oo.get).1
    · show s.c + ops.size ≤ s.c + n
      omega

end
end Go.Cq
/- Codes and functions. -/
namespace Go.Cq
open Go.RowKit
open Go.Tq (pSize pAgg)

inductive CC where
  | skip
  | reg (l : List CI) (keep : Option (List Nat))
  | draw (n : Nat) (FL : List Nat) (l : List RI) (keep : Option (List Nat))
  | seq (a b : CC)
  | cond (x : Opd) (a b : CC)
  | blk (id : Nat) (a : CC)
  | loop (a : CC)
  | exit (id : Nat)
  | ret

inductive X where
  | nrm
  | ex (id : Nat)
  | ret

def X.toExit : X → Exit
  | .nrm => .normal
  | .ex id => .exit id
  | .ret => .ret

def St.keep (s : St) : Option (List Nat) → St
  | some k => { s with ts := prune k s.ts }
  | none => s

def ex (cl : CallF) : Nat → CC → St → Option (X × St)
  | 0, _, _ => none
  | f + 1, cc, s => match cc with
    | .skip => some (.nrm, s)
    | .reg l k => match seqI cl l s with
      | some s' => some (.nrm, s'.keep k)
      | none => none
    | .draw n FL l k => match drawI cl s.c FL l l ⟨s.ts, s.h, [], s.c + n⟩ with
      | some s' => some (.nrm, St.keep ⟨s'.ts, fall s'.F s'.h, s'.c⟩ k)
      | none => none
    | .seq a b => match ex cl f a s with
      | some (.nrm, s') => ex cl f b s'
      | r => r
    | .cond x a b => match ev1 s.ts x with
      | some (.bool true) => ex cl f a s
      | some (.bool false) => ex cl f b s
      | _ => none
    | .blk id a => match ex cl f a s with
      | some (.ex j, s') => if j = id then some (.nrm, s') else some (.ex j, s')
      | r => r
    | .loop a => match ex cl f a s with
      | some (.nrm, s') => ex cl f (.loop a) s'
      | r => r
    | .exit id => some (.ex id, s)
    | .ret => some (.ret, s)

/-- Two codes that say the same. -/
def okC (P : Program) (nt : Nat) : Code → CC → Bool
  | .skip, .skip => true
  | .region _ ops false, .reg l _ => okL P nt ops l ops.toList
  | .region _ ops true, .draw n FL l _ => dok P nt ops n FL l
  | .seq a b, .seq a' b' => okC P nt a a' && okC P nt b b'
  | .cond x a b, .cond x' a' b' => okOpd x' x && okC P nt a a' && okC P nt b b'
  | .block id a, .blk id' a' => id == id' && okC P nt a a'
  | .loop a, .loop a' => okC P nt a a'
  | .exit id, .exit id' => id == id'
  | .ret, .ret => true
  | _, _ => false

section
variable {P : Program} {nt : Nat} {K : Nat → Prop} {w0 : World} {A0 : Nat → Nd} {U0 : Nat → Prop} {c0 : Nat} {cl : CallF} {ops : Array Oper}

/-- A loop from where its body begins. -/
def roundwp (P : Program) (c : Code) (Q : Exit → Act → World → Prop) (a : Act) (w : World) : Prop :=
  ∀ (b : Frame) (k : List Item) (cs : List Frame), ∃ e a' w', Q e a' w' ∧ Arrives P (lone (b.at a (.code c :: .inLoop c :: k)) cs w) b k cs e a' w'

theorem wp_of_round {c : Code} {Q : Exit → Act → World → Prop} {a : Act} {w : World} (h : roundwp P c Q a w) : (Code.loop c).wp P Q a w := by
  intro b k cs
  obtain ⟨e, a', w', q, r⟩ := h b k cs
  exact ⟨e, a', w', q, .of_steps (.one step_loop) r⟩

theorem round_of {c : Code} {Q : Exit → Act → World → Prop} {a : Act} {w : World} (h : c.wp P (Exit.then (roundwp P c Q) Q) a w) : roundwp P c Q a w := by
  intro b k cs
  obtain ⟨e, a₁, w₁, hq, harr⟩ := h b (.inLoop c :: k) cs
  cases e with
  | normal =>
    obtain ⟨e₂, a₂, w₂, hq₂, harr₂⟩ := hq b k cs
    exact ⟨e₂, a₂, w₂, hq₂, .of_steps (Steps.trans harr (.one step_inLoop)) harr₂⟩
  | exit id => exact ⟨_, a₁, w₁, hq, .pass (x := .inLoop c) rfl (fun _ _ => .inl (by simp)) harr⟩
  | goto l => exact ⟨_, a₁, w₁, hq, .pass (x := .inLoop c) rfl (fun _ _ => .inl (by simp)) harr⟩
  | ret => exact ⟨_, a₁, w₁, hq, .pass (x := .inLoop c) rfl (fun _ _ => .inl (by simp)) harr⟩
  | panic ch => exact ⟨_, a₁, w₁, hq, .pass (x := .inLoop c) rfl (fun _ _ => .inl (by simp)) harr⟩
  | outgrown => exact ⟨_, a₁, w₁, hq, .pass (x := .inLoop c) rfl (fun _ _ => .inl (by simp)) harr⟩

def CW (P : Program) (c : Code) (Q : Exit → Act → World → Prop) (a : Act) (w : World) : Prop := match c with
  | .loop b => roundwp P b Q a w
  | c => c.wp P Q a w

theorem CW.wp {c : Code} {Q : Exit → Act → World → Prop} {a : Act} {w : World} (h : CW P c Q a w) : c.wp P Q a w := by
  cases c <;> first | exact h | exact wp_of_round h

theorem Inv.keep {s : St} {a : Act} {w : World} (h : Inv nt K w0 A0 U0 c0 s a w) (k : Option (List Nat)) : Inv nt K w0 A0 U0 c0 (s.keep k) a w := by
  cases k with
  | none => exact h
  | some k =>
    obtain ⟨A, U, s1, s2, rest⟩ := h
    exact ⟨A, U, s1, s2.prune k, rest⟩

theorem ex_sound (hm : P.follows .mixedOrders = true) (hcl : ClOk P cl) : ∀ {f : Nat} {cc : CC} {c : Code} {s s' : St} {x : X} {a : Act} {w : World} {Q : Exit → Act → World → Prop}, okC P nt c cc = true → Inv nt K w0 A0 U0 c0 s a w → ex cl f cc s = some (x, s') →
    (∀ a' w', Inv nt K w0 A0 U0 c0 s' a' w' → Q x.toExit a' w') → CW P c Q a w := by
  intro f
  induction f with
  | zero => intro cc c s s' x a w Q hok hs hr; simp [ex] at hr
  | succ f ih =>
    intro cc c s s' x a w Q hok hs hr hn
    unfold okC at hok
    split at hok
    · simp only [ex, Option.some.injEq, Prod.mk.injEq] at hr
      obtain ⟨rfl, rfl⟩ := hr
      exact wp_skip (hn a w hs)
    · rename_i id ops l k
      simp only [ex] at hr
      split at hr
      · rename_i s1 h1
        simp only [Option.some.injEq, Prod.mk.injEq] at hr
        obtain ⟨rfl, rfl⟩ := hr
        refine wp_region ?_
        have := seqI_sound (k := 0) (os := ops.toList) (Q := Q) hcl (by simp) hok hs h1 fun a' w' hs' => hn a' w' (hs'.keep k)
        rw [List.range_eq_range']
        simpa using this
      · simp at hr
    · rename_i id ops n FL l k
      simp only [ex] at hr
      split at hr
      · rename_i s1 h1
        simp only [Option.some.injEq, Prod.mk.injEq] at hr
        obtain ⟨rfl, rfl⟩ := hr
        exact draw_sound hm hcl hok hs h1 fun a' w' hs' => hn a' w' (hs'.keep k)
      · simp at hr
    · rename_i c1 c2 b1 b2
      simp only [Bool.and_eq_true] at hok
      simp only [ex] at hr
      split at hr
      · rename_i s1 h1
        refine wp_seq ?_
        refine (ih hok.1 hs h1 (Q := Exit.then (c2.wp P Q) Q) fun a' w' hs' => ?_).wp
        exact (ih hok.2 hs' hr hn).wp
      · rename_i hne
        refine wp_seq ?_
        refine (ih hok.1 hs hr (Q := Exit.then (c2.wp P Q) Q) fun a' w' hs' => ?_).wp
        cases x with
        | nrm => exact (hne s' hr).elim
        | ex id => exact hn a' w' hs'
        | ret => exact hn a' w' hs'
    · rename_i y c1 c2 y' b1 b2
      simp only [Bool.and_eq_true] at hok
      obtain ⟨A, U, s1, s2, -⟩ := id hs
      simp only [ex] at hr
      split at hr
      · rename_i he
        exact wp_cond_true (ev1_sound s2 hok.1.1 he) (ih hok.1.2 hs hr hn).wp
      · rename_i he
        exact wp_cond_false (ev1_sound s2 hok.1.1 he) (ih hok.2 hs hr hn).wp
      · simp at hr
    · rename_i id c1 id' b1
      simp only [Bool.and_eq_true, beq_iff_eq] at hok
      obtain ⟨rfl, hok⟩ := hok
      simp only [ex] at hr
      refine wp_block ?_
      split at hr
      · rename_i j s1 h1
        refine (ih hok hs h1 (Q := Exit.inBlock id Q) fun a' w' hs' => ?_).wp
        split at hr
        · rename_i e
          subst e
          simp only [Option.some.injEq, Prod.mk.injEq] at hr
          obtain ⟨rfl, rfl⟩ := hr
          simp only [X.toExit, Exit.inBlock, if_true]
          exact hn a' w' hs'
        · rename_i e
          simp only [Option.some.injEq, Prod.mk.injEq] at hr
          obtain ⟨rfl, rfl⟩ := hr
          simp only [X.toExit, Exit.inBlock, e, if_false]
          exact hn a' w' hs'
      · rename_i hne
        refine (ih hok hs hr (Q := Exit.inBlock id Q) fun a' w' hs' => ?_).wp
        cases x with
        | nrm => exact hn a' w' hs'
        | ex j => exact (hne j s' hr).elim
        | ret => exact hn a' w' hs'
    · rename_i c1 b1
      simp only [ex] at hr
      refine round_of ?_
      split at hr
      · rename_i s1 h1
        refine (ih hok hs h1 (Q := Exit.then (roundwp P c1 Q) Q) fun a' w' hs' => ?_).wp
        exact ih (c := .loop c1) (by unfold okC; exact hok) hs' hr hn
      · rename_i hne
        refine (ih hok hs hr (Q := Exit.then (roundwp P c1 Q) Q) fun a' w' hs' => ?_).wp
        cases x with
        | nrm => exact (hne s' hr).elim
        | ex j => exact hn a' w' hs'
        | ret => exact hn a' w' hs'
    · rename_i id id'
      simp only [beq_iff_eq] at hok
      subst hok
      simp only [ex, Option.some.injEq, Prod.mk.injEq] at hr
      obtain ⟨rfl, rfl⟩ := hr
      exact wp_exit (hn a w hs)
    · simp only [ex, Option.some.injEq, Prod.mk.injEq] at hr
      obtain ⟨rfl, rfl⟩ := hr
      exact wp_ret (hn a w hs)
    · simp at hok

end
end Go.Cq
/- Functions: the evaluator of a program's calls. -/
namespace Go.Cq
open Go.RowKit
open Go.Tq (pSize pAgg)

/-- Where a result is. -/
inductive RR where
  | t (t : Nat)
  | c (t : Nat) (n : Option Nat)

structure CFn where
  nt : Nat
  code : CC
  res : List RR

def resV (h : Heap) (ts : Ts) : List RR → Option (List V1)
  | [] => some []
  | .t t :: l => match look ts t with
    | some (.v x) => match resV h ts l with
      | some r => some (x :: r)
      | none => none
    | _ => none
  | .c t n :: l => match FOp.ev h ts (.load n (.t t)) with
    | some x => match resV h ts l with
      | some r => some (x :: r)
      | none => none
    | none => none

def pack : List V1 → CVal
  | [x] => .v x
  | l => .tup l

def init (args : List V1) : Nat → Ts
  | j => match args with
    | [] => []
    | x :: l => (j, .v x) :: init l (j + 1)

def runF (FT : Nat → Option CFn) : Nat → CallF
  | 0 => fun _ _ _ _ => none
  | f + 1 => fun g args h c => match FT g with
    | some fn => if args.length ≤ fn.nt then match ex (runF FT f) f fn.code ⟨init args 0, h, c⟩ with
        | some (.nrm, s) => (match resV s.h s.ts fn.res with | some l => if c ≤ s.c then some (pack l, s.h, s.c) else none | none => none)
        | some (.ret, s) => (match resV s.h s.ts fn.res with | some l => if c ≤ s.c then some (pack l, s.h, s.c) else none | none => none)
        | _ => none
      else none
    | none => none

def okRes (P : Program) : List ResultVar → List RR → Bool
  | [], [] => true
  | .tmp t :: l, .t t' :: l' => t == t' && okRes P l l'
  | .cell t ty :: l, .c t' n :: l' => t == t' && (match n with
    | none => pAgg P ty == some false
    | some n => pAgg P ty == some true && pSize P ty == some n && n != 0) && okRes P l l'
  | _, _ => false

def okFn (P : Program) (F : Func) (fn : CFn) : Bool :=
  F.ntmps == fn.nt && okRes P F.results.toList fn.res && (F.name != "runtime.NumGoroutine") && (match F.body with | some c => okC P fn.nt c fn.code | none => false)

section
variable {P : Program} {A : Nat → Nd} {U K : Nat → Prop} {w w0 : World} {h : Heap}

theorem init_look {args : List V1} : ∀ {j t : Nat} {x : CVal}, look (init args j) t = some x → j ≤ t ∧ ∃ y, args[t - j]? = some y ∧ x = .v y := by
  induction args with
  | nil => intro j t x hx; simp [init, look] at hx
  | cons y l ih =>
    intro j t x hx
    simp only [init, look] at hx
    cases hb : Nat.beq j t with
    | true =>
      have := Nat.eq_of_beq_eq_true hb
      subst this
      simp only [hb, cond_true, Option.some.injEq] at hx
      exact ⟨Nat.le_refl _, y, by simp, hx.symm⟩
    | false =>
      have hne := Nat.ne_of_beq_eq_false hb
      simp only [hb, cond_false] at hx
      obtain ⟨h1, z, h2, h3⟩ := ih hx
      refine ⟨by omega, z, ?_, h3⟩
      have : t - j = (t - (j + 1)) + 1 := by omega
      rw [this, List.getElem?_cons_succ]; exact h2

def resOne (tmps : Array Value) : ResultVar → Sem Value
  | .tmp t => pure (tmps.getD t undef)
  | .cell a t => do loadVar t (← asAddr (tmps.getD a undef))

theorem res_sound (hs : Sim A h U K w0 w) {ts : Ts} {tmps : Array Value} (hts : TsOk A U ts tmps) : ∀ {rs : List ResultVar} {l : List RR} {vs : List V1}, okRes P rs l = true → resV h ts l = some vs →
    ∃ us : List Value, (rs.mapM (resOne tmps)).run P w = .ok us w ∧ us.length = vs.length ∧ ∀ (j : Nat) x, vs[j]? = some x → ∃ u, us[j]? = some u ∧ v1Ok A U x u := by
  intro rs
  induction rs with
  | nil =>
    intro l vs hok hr
    cases l with
    | nil => simp only [resV, Option.some.injEq] at hr; subst hr; exact ⟨[], by simp, rfl, by simp⟩
    | cons x t => simp [okRes] at hok
  | cons r rs ih =>
    intro l vs hok hr
    have fin : ∀ {x : V1} {l' : List RR} {v : Value}, (resOne tmps r).run P w = .ok v w → v1Ok A U x v → okRes P rs l' = true → (match resV h ts l' with | some r => some (x :: r) | none => none) = some vs →
        ∃ us : List Value, ((r :: rs).mapM (resOne tmps)).run P w = .ok us w ∧ us.length = vs.length ∧ ∀ (j : Nat) x, vs[j]? = some x → ∃ u, us[j]? = some u ∧ v1Ok A U x u := by
      intro x l' v hv hx hok' hm
      split at hm
      · rename_i r' hr'
        simp only [Option.some.injEq] at hm
        subst hm
        obtain ⟨us, g1, g2, g3⟩ := ih hok' hr'
        refine ⟨v :: us, ?_, by simp [g2], fun j y hj => ?_⟩
        · rw [List.mapM_cons, Sem.run_bind, hv]
          simp only [Result.andThen]
          rw [Sem.run_bind, g1]
          rfl
        · cases j with
          | zero => simp only [List.getElem?_cons_zero, Option.some.injEq] at hj; subst hj; exact ⟨v, rfl, hx⟩
          | succ j => simpa using g3 j y (by simpa using hj)
      · simp at hm
    cases l with
    | nil => cases r <;> simp [okRes] at hok
    | cons y l' =>
      cases r with
      | tmp t => cases y with
        | c t' n => simp [okRes] at hok
        | t t' =>
          simp only [okRes, Bool.and_eq_true, beq_iff_eq] at hok
          obtain ⟨rfl, hok⟩ := hok
          simp only [resV] at hr
          split at hr
          · rename_i x hx
            exact fin rfl (hts _ _ hx).2 hok hr
          · simp at hr
      | cell t ty => cases y with
        | t t' => simp [okRes] at hok
        | c t' n =>
          simp only [okRes, Bool.and_eq_true, beq_iff_eq] at hok
          obtain ⟨⟨rfl, h1⟩, hok⟩ := hok
          simp only [resV] at hr
          split at hr
          · rename_i x hx
            let o : Oper := { (default : Oper) with op := .load ty (.tmp t) }
            have hg : Gives P ⟨tmps, []⟩ o w A U x := by
              refine FOp.sound (a := ⟨tmps, []⟩) (o := o) hs hts (f := .load n (.t t)) ?_ hx
              cases n with
              | none => simp only [FOp.ok, o, okOpd, beq_self_eq_true, Bool.true_and]; exact h1
              | some n => simp only [FOp.ok, o, okOpd, beq_self_eq_true, Bool.true_and]; exact h1
            obtain ⟨v, g1, g2⟩ := hg
            refine fin (v := v) ?_ g2 hok hr
            simp only [FOp.ev] at hx
            split at hx
            · rename_i id off he
              have hp := ev1_sound (a := ⟨tmps, []⟩) hts (y := .tmp t) (by simp [okOpd]) he
              have hp2 : tmps.getD t undef = .pointer (some (addrOf A id off)) := hp.2
              have e1 : (Act.eval ⟨tmps, []⟩ (.tmp t)) = .pointer (some (addrOf A id off)) := hp2
              simp only [execOp, o] at g1
              rw [Sem.run_bind] at g1
              rw [e1] at g1
              simp only [Instr.loadAt, Instr.sureAddr, pure_bind] at g1
              simp only [resOne, hp2, asAddr, pure_bind]
              cases hl : (loadVar ty (addrOf A id off)).run P w with
              | ok v' w' =>
                rw [hl] at g1
                simp [Result.andThen] at g1
                rw [g1.1, g1.2]
              | halt e w' =>
                rw [hl] at g1
                simp [Result.andThen] at g1
            · simp at hx
          · simp at hr

theorem results_run (hs : Sim A h U K w0 w) {ts : Ts} {tmps : Array Value} (hts : TsOk A U ts tmps) {F : Func} {l : List RR} {vs : List V1} (hok : okRes P F.results.toList l = true) (hr : resV h ts l = some vs) :
    ∃ v, (results F tmps).run P w = .ok v w ∧ valOk A U (pack vs) v := by
  obtain ⟨us, g1, g2, g3⟩ := res_sound (P := P) hs hts hok hr
  have e : results F tmps = (do let vs ← F.results.toList.mapM (resOne tmps); pure (if h : vs.toArray.size = 1 then vs.toArray[0] else .tuple vs.toArray)) := by
    unfold results
    refine Eq.trans (b := (do let vs ← F.results.mapM (resOne tmps); pure (if h : vs.size = 1 then vs[0] else .tuple vs))) ?_ ?_
    · congr 1
    · rw [Array.mapM_eq_mapM_toList, bind_map_left]
  rw [e, Sem.run_bind, g1]
  simp only [Result.andThen, Sem.run_pure]
  match vs, us, g2, g3 with
  | [x], [u], _, g3 =>
    refine ⟨u, by simp, ?_⟩
    obtain ⟨u', h1, h2⟩ := g3 0 x rfl
    simp only [List.getElem?_cons_zero, Option.some.injEq] at h1
    subst h1
    exact h2
  | [], [], _, _ => exact ⟨.tuple #[], by simp, #[], rfl, rfl, by simp⟩
  | x :: y :: l, u :: v :: m, g2, g3 =>
    refine ⟨.tuple (u :: v :: m).toArray, by simp, (u :: v :: m).toArray, rfl, by simpa using g2, fun j z hj => ?_⟩
    obtain ⟨u', h1, h2⟩ := g3 j z hj
    exact ⟨u', by simpa using h1, h2⟩

def FTOk (P : Program) (FT : Nat → Option CFn) : Prop := ∀ g fn, FT g = some fn → ∃ F, P.funcs[g]? = some F ∧ okFn P F fn = true

theorem runF_ok {FT : Nat → Option CFn} (hm : P.follows .mixedOrders = true) (hft : FTOk P FT) : ∀ f, ClOk P (runF FT f) := by
  intro f
  induction f with
  | zero => intro g args h c r h' c' hr; simp [runF] at hr
  | succ f ih =>
    intro g args h c r h' c' hr
    simp only [runF] at hr
    split at hr
    · rename_i fn hfn
      obtain ⟨F, hF, hokF⟩ := hft g fn hfn
      unfold okFn at hokF
      simp only [Bool.and_eq_true, beq_iff_eq] at hokF
      obtain ⟨⟨⟨k1, k2⟩, k3⟩, k4⟩ := hokF
      split at k4
      · rename_i code hcode
        split at hr
        · rename_i hle
          have main : ∀ (x : X) (s : St), ex (runF FT f) f fn.code ⟨init args 0, h, c⟩ = some (x, s) → (x = .nrm ∨ x = .ret) → (match resV s.h s.ts fn.res with | some l => if c ≤ s.c then some (pack l, s.h, s.c) else none | none => none) = some (r, h', c') → FOk P g args h c r h' c' := by
            intro x s hx hxr hres
            split at hres
            · rename_i vs hvs
              split at hres
              case isFalse => simp at hres
              rename_i hcc
              simp only [Option.some.injEq, Prod.mk.injEq] at hres
              obtain ⟨rfl, rfl, rfl⟩ := hres
              have body : ∀ A U w (as : Array Value), Sim A h U (Liv A h) w w → (∀ id, c ≤ id → ¬ U id) → as.size = args.length → (∀ (j : Nat) x, args[j]? = some x → ∃ v, as[j]? = some v ∧ v1Ok A U x v) →
                  ∀ Q : Exit → Act → World → Prop, (∀ a' w', Inv fn.nt (Liv A h) w A U c s a' w' → Q x.toExit a' w') → CW P code Q { tmps := as ++ Array.replicate (F.ntmps - as.size) undef, defers := [] } w := by
                intro A U w as hs hc hsz has Q hQ
                refine ex_sound (K := Liv A h) (w0 := w) (A0 := A) (U0 := U) (c0 := c) hm ih k4 ⟨A, U, hs, fun t y hy => ?_, ?_, rfl, hc, Ext.refl A U, fun _ h => h, fun id h => .inl h, Nat.le_refl _⟩ hx hQ
                · obtain ⟨-, z, h1, rfl⟩ := init_look hy
                  rw [Nat.sub_zero] at h1
                  have hlt : t < as.size := by rw [hsz]; exact (List.getElem?_eq_some_iff.1 h1).1
                  obtain ⟨v, f1, f2⟩ := has t z h1
                  refine ⟨by simp; omega, ?_⟩
                  have : (as ++ Array.replicate (F.ntmps - as.size) undef).getD t undef = v := by
                    rw [Array.getD_eq_getD_getElem?, Array.getElem?_append_left hlt, f1]; rfl
                  rw [this]; exact f2
                · simp only [Array.size_append, Array.size_replicate]
                  rw [k1, hsz]; omega
              refine ⟨⟨F, hF, by simpa using k3, by rw [hcode]; rfl⟩, hcc, ?_⟩
              · intro A U w as hs hc hsz has
                refine calls_of_wp hF hcode (body A U w as hs hc hsz has _ ?_).wp
                rintro a' w' ⟨A', U', s1, s2, s3, s4, s5, s6, s7, s8, s9⟩
                obtain ⟨v, v1, v2⟩ := results_run (P := P) s1 s2 k2 hvs
                have hfin : bodyPost P F (fun e w' => ∃ v A' U', e = .returned v ∧ Post (fun id => c ≤ id ∧ id < s.c) A h U w A' s.h U' w' ∧ valOk A' U' (pack vs) v) .ret a' w' :=
                  ⟨s4, v, v1, v, A', U', rfl, ⟨s1, s6, s7, s8⟩, v2⟩
                rcases hxr with rfl | rfl <;> exact hfin
            · simp at hres
          split at hr
          · rename_i s hx; exact main .nrm s hx (.inl rfl) hr
          · rename_i s hx; exact main .ret s hx (.inr rfl) hr
          · simp at hr
        · simp at hr
      · simp at k4
    · simp at hr

end
end Go.Cq
/- Codes that step through maps: what comes out in every order. -/
namespace Go.Cq
open Go.RowKit
open Go.Tq (pSize pAgg)

inductive MC where
  | base (c : CC)
  | nxt (d t : Nat) (l : List CI) (keep : Option (List Nat))
  | seq (a b : MC)
  | cond (x : Opd) (a b : MC)
  | blk (id : Nat) (a : MC)
  | loop (a : MC)

def bindAll (g : X × St → Option (List (X × St))) : List (X × St) → Option (List (X × St))
  | [] => some []
  | p :: l => match g p, bindAll g l with
    | some a, some b => some (a ++ b)
    | _, _ => none

theorem mem_bindAll {g : X × St → Option (List (X × St))} : ∀ {l m : List (X × St)}, bindAll g l = some m → ∀ p, p ∈ l → ∃ k, g p = some k ∧ ∀ q, q ∈ k → q ∈ m := by
  intro l
  induction l with
  | nil => intro m _ p hp; simp at hp
  | cons q l ih =>
    intro m h p hp
    simp only [bindAll] at h
    split at h
    · rename_i a b h1 h2
      simp only [Option.some.injEq] at h
      subst h
      rcases List.mem_cons.1 hp with rfl | hp
      · exact ⟨a, h1, fun q hq => List.mem_append_left _ hq⟩
      · obtain ⟨k, k1, k2⟩ := ih h2 p hp
        exact ⟨k, k1, fun q hq => List.mem_append_right _ (k2 q hq)⟩
    · simp at h

def exN (cl : CallF) : Nat → MC → St → Option (List (X × St))
  | 0, _, _ => none
  | f + 1, mc, s => match mc with
    | .base c => (ex cl f c s).map fun p => [p]
    | .nxt d t l k => match doNext (.t t) s.h s.ts with
      | some outs => bindAll (fun p => (seqI cl l p.2).map fun s' => [(.nrm, s'.keep k)]) (outs.map fun q => (.nrm, ⟨(d, q.1) :: s.ts, q.2, s.c + 1⟩))
      | none => none
    | .seq a b => match exN cl f a s with
      | some l => bindAll (fun p => match p.1 with | .nrm => exN cl f b p.2 | _ => some [p]) l
      | none => none
    | .cond x a b => match ev1 s.ts x with
      | some (.bool true) => exN cl f a s
      | some (.bool false) => exN cl f b s
      | _ => none
    | .blk id a => match exN cl f a s with
      | some l => some (l.map fun p => match p.1 with | .ex j => if j = id then (.nrm, p.2) else p | _ => p)
      | none => none
    | .loop a => match exN cl f a s with
      | some l => bindAll (fun p => match p.1 with | .nrm => exN cl f (.loop a) p.2 | _ => some [p]) l
      | none => none

def okM (P : Program) (nt : Nat) : Code → MC → Bool
  | .region _ ops false, .nxt d t l _ => match ops.toList with
    | o :: os => (match o.op with | .next (.tmp t') false => t == t' | _ => false) && o.dst == some d && decide (d < nt) && o.guard.isNone && okL P nt ops l os
    | [] => false
  | .seq a b, .seq a' b' => okM P nt a a' && okM P nt b b'
  | .cond x a b, .cond x' a' b' => okOpd x' x && okM P nt a a' && okM P nt b b'
  | .block id a, .blk id' a' => id == id' && okM P nt a a'
  | .loop a, .loop a' => okM P nt a a'
  | c, .base b => okC P nt c b
  | _, _ => false

section
variable {P : Program} {nt : Nat} {K : Nat → Prop} {w0 : World} {A0 : Nat → Nd} {U0 : Nat → Prop} {c0 : Nat} {cl : CallF} {ops : Array Oper}

/-- A step through a map, in its turn. -/
theorem nxt_sound {k : Nat} {o : Oper} (ho : ops[k]? = some o) {d t : Nat} (hop : o.op = .next (.tmp t) false) (hd : o.dst = some d) (hdn : d < nt) (hg : o.guard = none) {s : St} {a : Act} {w : World} (hs : Inv nt K w0 A0 U0 c0 s a w) {outs : List (CVal × Heap)} (hr : doNext (.t t) s.h s.ts = some outs)
    {rest : List Nat} {Q : Exit → Act → World → Prop} (hn : ∀ q, q ∈ outs → ∀ a' w', Inv nt K w0 A0 U0 c0 ⟨(d, q.1) :: s.ts, q.2, s.c + 1⟩ a' w' → wpOps P ops Q rest a' w') : wpOps P ops Q (k :: rest) a w := by
  obtain ⟨A, U, s1, s2, s3, s4, s5, s6, s7, s8, s9⟩ := hs
  simp only [wpOps, ho]
  have hw : Region.wanted o (yielded ops a.tmps) = true := by unfold Region.wanted; rw [hg]
  rw [hw]
  simp only [if_true]
  obtain ⟨r, h', hm, v, w', e1, e2, e3⟩ := next_sound (P := P) s1 s2 hop (x := .t t) (by simp [okOpd]) hr
  refine .inl ?_
  unfold Oper.wp
  rw [e1]
  refine hn _ hm _ _ ⟨A, U, e2, ?_, by rw [(put_size _ _ _).1]; exact s3, by rw [(put_size _ _ _).2]; exact s4, fun id hid => s5 id (by have : s.c + 1 ≤ id := hid; omega), s6, s7, fun id hU => ?_, by show c0 ≤ s.c + 1; omega⟩
  · rw [hd]
    exact tsOk_put (d := some d) s2 (fun t ht => by simp only [Option.some.injEq] at ht; subst ht; rw [s3]; exact hdn) e3
  · show U0 id ∨ c0 ≤ id ∧ id < s.c + 1
    rcases s8 id hU with h2 | h2
    · exact .inl h2
    · exact .inr ⟨h2.1, by omega⟩

theorem exN_sound (hm : P.follows .mixedOrders = true) (hcl : ClOk P cl) : ∀ {f : Nat} {mc : MC} {c : Code} {s : St} {l : List (X × St)} {a : Act} {w : World} {Q : Exit → Act → World → Prop}, okM P nt c mc = true → Inv nt K w0 A0 U0 c0 s a w → exN cl f mc s = some l →
    (∀ p, p ∈ l → ∀ a' w', Inv nt K w0 A0 U0 c0 p.2 a' w' → Q p.1.toExit a' w') → CW P c Q a w := by
  intro f
  induction f with
  | zero => intro mc c s l a w Q _ _ hr; simp [exN] at hr
  | succ f ih =>
    intro mc c s l a w Q hok hs hr hn
    unfold okM at hok
    split at hok
    · rename_i id ops d t l' k
      split at hok
      · rename_i o os hops
        simp only [Bool.and_eq_true, beq_iff_eq, decide_eq_true_eq] at hok
        obtain ⟨⟨⟨⟨h1, h2⟩, h3⟩, h4⟩, h5⟩ := hok
        have hop : o.op = .next (.tmp t) false := by
          split at h1
          · rename_i t' e; simp only [beq_iff_eq] at h1; subst h1; exact e
          · simp at h1
        simp only [exN] at hr
        split at hr
        · rename_i outs hout
          refine wp_region ?_
          have hsz : ops.size = os.length + 1 := by rw [← Array.length_toList, hops]; rfl
          have h0 : ops[0]? = some o := by rw [← Array.getElem?_toList, hops]; rfl
          rw [List.range_eq_range', hsz, List.range'_succ]
          refine nxt_sound h0 hop h2 h3 (by simpa using h4) hs hout fun q hq a' w' hs' => ?_
          obtain ⟨m, m1, m2⟩ := mem_bindAll hr (.nrm, ⟨(d, q.1) :: s.ts, q.2, s.c + 1⟩) (List.mem_map.2 ⟨q, hq, rfl⟩)
          simp only [Option.map_eq_some_iff] at m1
          obtain ⟨s', m3, rfl⟩ := m1
          refine seqI_sound (k := 1) (os := os) (Q := Q) hcl (by rw [hops]; rfl) h5 hs' m3 fun a2 w2 hs2 => ?_
          exact hn _ (m2 _ (List.mem_singleton.2 rfl)) a2 w2 (hs2.keep k)
        · simp at hr
      · simp at hok
    · rename_i c1 c2 b1 b2
      simp only [Bool.and_eq_true] at hok
      simp only [exN] at hr
      split at hr
      · rename_i l1 h1
        refine wp_seq ?_
        refine (ih hok.1 hs h1 (Q := Exit.then (c2.wp P Q) Q) fun p hp a' w' hs' => ?_).wp
        obtain ⟨m, m1, m2⟩ := mem_bindAll hr p hp
        obtain ⟨x, s'⟩ := p
        cases x with
        | nrm => exact (ih hok.2 hs' m1 fun p hp => hn p (m2 p hp)).wp
        | ex id => simp only [Option.some.injEq] at m1; subst m1; exact hn _ (m2 _ (List.mem_singleton.2 rfl)) a' w' hs'
        | ret => simp only [Option.some.injEq] at m1; subst m1; exact hn _ (m2 _ (List.mem_singleton.2 rfl)) a' w' hs'
      · simp at hr
    · rename_i y c1 c2 y' b1 b2
      simp only [Bool.and_eq_true] at hok
      obtain ⟨A, U, s1, s2, -⟩ := id hs
      simp only [exN] at hr
      split at hr
      · rename_i he
        exact wp_cond_true (ev1_sound s2 hok.1.1 he) (ih hok.1.2 hs hr hn).wp
      · rename_i he
        exact wp_cond_false (ev1_sound s2 hok.1.1 he) (ih hok.2 hs hr hn).wp
      · simp at hr
    · rename_i id c1 id' b1
      simp only [Bool.and_eq_true, beq_iff_eq] at hok
      obtain ⟨rfl, hok⟩ := hok
      simp only [exN] at hr
      refine wp_block ?_
      split at hr
      · rename_i l1 h1
        simp only [Option.some.injEq] at hr
        subst hr
        refine (ih hok hs h1 (Q := Exit.inBlock id Q) fun p hp a' w' hs' => ?_).wp
        have hq := hn _ (List.mem_map.2 ⟨p, hp, rfl⟩) a' w'
        obtain ⟨x, s'⟩ := p
        cases x with
        | nrm => exact hq hs'
        | ex j =>
          simp only at hq
          by_cases e : j = id
          · subst e
            rw [if_pos rfl] at hq
            simp only [X.toExit, Exit.inBlock, if_true]
            exact hq hs'
          · rw [if_neg e] at hq
            simp only [X.toExit, Exit.inBlock, e, if_false]
            exact hq hs'
        | ret => exact hq hs'
      · simp at hr
    · rename_i c1 b1
      simp only [exN] at hr
      refine round_of ?_
      split at hr
      · rename_i l1 h1
        refine (ih hok hs h1 (Q := Exit.then (roundwp P c1 Q) Q) fun p hp a' w' hs' => ?_).wp
        obtain ⟨m, m1, m2⟩ := mem_bindAll hr p hp
        obtain ⟨x, s'⟩ := p
        cases x with
        | nrm => exact ih (c := .loop c1) (by unfold okM; exact hok) hs' m1 fun p hp => hn p (m2 p hp)
        | ex j => simp only [Option.some.injEq] at m1; subst m1; exact hn _ (m2 _ (List.mem_singleton.2 rfl)) a' w' hs'
        | ret => simp only [Option.some.injEq] at m1; subst m1; exact hn _ (m2 _ (List.mem_singleton.2 rfl)) a' w' hs'
      · simp at hr
    · simp only [exN, Option.map_eq_some_iff] at hr
      obtain ⟨p, h1, rfl⟩ := hr
      exact ex_sound hm hcl hok hs h1 fun a' w' hs' => hn p (List.mem_singleton.2 rfl) a' w' hs'
    · simp at hok

end

/-! ### Heaps that hold what another one holds -/

namespace Tr
variable {α : Type}

def eqb (eq : α → α → Bool) : Tr α → Tr α → Bool
  | .lf, .lf => true
  | .nd v l r, .nd v' l' r' => (match v, v' with
    | none, none => true
    | some x, some y => eq x y
    | _, _ => false) && (l.eqb eq l' && r.eqb eq r')
  | _, _ => false

theorem eqb_eq {eq : α → α → Bool} (he : ∀ x y, eq x y = true → x = y) : ∀ {t t' : Tr α}, t.eqb eq t' = true → t = t' := by
  intro t
  induction t with
  | lf => intro t' h; cases t' with
    | lf => rfl
    | nd v l r => simp [eqb] at h
  | nd v l r ihl ihr =>
    intro t' h
    cases t' with
    | lf => simp [eqb] at h
    | nd v' l' r' =>
      simp only [eqb, Bool.and_eq_true] at h
      obtain ⟨h1, h2, h3⟩ := h
      rw [ihl h2, ihr h3]
      cases v <;> cases v' <;> simp at h1
      · rfl
      · rw [he _ _ h1]

def sub (eq : α → α → Bool) : Tr α → Tr α → Bool
  | .lf, _ => true
  | .nd v l r, .lf => (match v with
    | none => true
    | some _ => false) && (l.sub eq .lf && r.sub eq .lf)
  | .nd v l r, .nd v' l' r' => (match v, v' with
    | none, _ => true
    | some x, some y => eq x y
    | some _, none => false) && (l.sub eq l' && r.sub eq r')

theorem sub_get {eq : α → α → Bool} (he : ∀ x y, eq x y = true → x = y) : ∀ {t t' : Tr α}, t.sub eq t' = true → ∀ k x, t.get k = some x → t'.get k = some x := by
  intro t
  induction t with
  | lf => intro t' _ k x h; simp [get] at h
  | nd v l r ihl ihr =>
    intro t' h k x hk
    cases t' with
    | lf =>
      simp only [sub, Bool.and_eq_true] at h
      obtain ⟨h1, h2, h3⟩ := h
      simp only [get] at hk
      cases hz : Nat.beq k 0 with
      | true => rw [hz] at hk; simp only [cond_true] at hk; subst hk; simp at h1
      | false =>
        rw [hz] at hk
        simp only [cond_false] at hk
        cases hm : Nat.beq (k % 2) 0 with
        | true => rw [hm] at hk; have := ihl h2 _ _ hk; simp [get] at this
        | false => rw [hm] at hk; have := ihr h3 _ _ hk; simp [get] at this
    | nd v' l' r' =>
      simp only [sub, Bool.and_eq_true] at h
      obtain ⟨h1, h2, h3⟩ := h
      simp only [get] at hk ⊢
      cases hz : Nat.beq k 0 with
      | true =>
        rw [hz] at hk
        simp only [cond_true] at hk ⊢
        subst hk
        cases v' with
        | none => simp at h1
        | some y => simp only at h1; rw [he _ _ h1]
      | false =>
        rw [hz] at hk
        simp only [cond_false] at hk ⊢
        cases hm : Nat.beq (k % 2) 0 with
        | true => rw [hm] at hk; exact ihl h2 _ _ hk
        | false => rw [hm] at hk; exact ihr h3 _ _ hk
end Tr

def eqBlk (x y : Blk) : Bool := Nat.beq x.sz y.sz && (Nat.beq x.n y.n && ((x.tight == y.tight) && (decide (x.zs = y.zs) && x.cs.eqb (fun a b => decide (a = b)) y.cs)))

theorem eqBlk_eq {x y : Blk} (h : eqBlk x y = true) : x = y := by
  simp only [eqBlk, Bool.and_eq_true, beq_iff_eq, decide_eq_true_eq] at h
  obtain ⟨h1, h2, h3, h4, h5⟩ := h
  have := Nat.eq_of_beq_eq_true h1
  have := Nat.eq_of_beq_eq_true h2
  have := Tr.eqb_eq (fun a b h => by simpa using h) h5
  cases x; cases y
  simp_all

def subH (h h' : Heap) : Bool := h.b.sub eqBlk h'.b && h.m.sub (fun a b => decide (a = b)) h'.m

theorem subH_get {h h' : Heap} (hh : subH h h' = true) : (∀ id b, h.get id = some b → h'.get id = some b) ∧ ∀ id x, h.getM id = some x → h'.getM id = some x := by
  simp only [subH, Bool.and_eq_true] at hh
  exact ⟨fun id b hb => Tr.sub_get (fun _ _ h => eqBlk_eq h) hh.1 id b hb, fun id x hx => Tr.sub_get (fun a b h => by simpa using h) hh.2 id x hx⟩

/-! ### Functions -/

structure MFn where
  nt : Nat
  code : MC
  res : List RR

/-- All that comes out is the same, and no old block was touched. -/
def allOne (res : List RR) (h : Heap) (c : Nat) (vs : List V1) : List (X × St) → Nat → Option Nat
  | [], m => some m
  | p :: l, m => match (match p.1 with | .ex _ => none | _ => resV p.2.h p.2.ts res) with
    | some us => if decide (us = vs) && (Nat.ble c p.2.c && subH h p.2.h) then allOne res h c vs l (Nat.max m p.2.c) else none
    | none => none

theorem allOne_le {res : List RR} {h : Heap} {c : Nat} {vs : List V1} : ∀ {l : List (X × St)} {m m' : Nat}, allOne res h c vs l m = some m' → m ≤ m' := by
  intro l
  induction l with
  | nil => intro m m' hr; simp only [allOne, Option.some.injEq] at hr; omega
  | cons p l ih =>
    intro m m' hr
    simp only [allOne] at hr
    split at hr
    · split at hr
      · exact Nat.le_trans (Nat.le_max_left _ _) (ih hr)
      · simp at hr
    · simp at hr

theorem allOne_all {res : List RR} {h : Heap} {c : Nat} {vs : List V1} : ∀ {l : List (X × St)} {m m' : Nat}, allOne res h c vs l m = some m' → ∀ p, p ∈ l → (p.1 = .nrm ∨ p.1 = .ret) ∧ resV p.2.h p.2.ts res = some vs ∧ c ≤ p.2.c ∧ subH h p.2.h = true ∧ p.2.c ≤ m' := by
  intro l
  induction l with
  | nil => intro m m' _ p hp; simp at hp
  | cons q l ih =>
    intro m m' hr p hp
    simp only [allOne] at hr
    split at hr
    · rename_i us hu
      split at hr
      · rename_i hc
        simp only [Bool.and_eq_true, decide_eq_true_eq] at hc
        obtain ⟨rfl, h1, h2⟩ := hc
        rcases List.mem_cons.1 hp with rfl | hp
        · have h3 := allOne_le hr
          have h4 : p.2.c ≤ Nat.max m p.2.c := Nat.le_max_right _ _
          have h5 : (p.1 = .nrm ∨ p.1 = .ret) ∧ resV p.2.h p.2.ts res = some us := by
            split at hu
            · simp at hu
            · rename_i hx
              refine ⟨?_, hu⟩
              cases hp1 : p.1 with
              | nrm => exact .inl rfl
              | ret => exact .inr rfl
              | ex id => exact (hx id hp1).elim
          exact ⟨h5.1, h5.2, Nat.le_of_ble_eq_true h1, h2, Nat.le_trans h4 h3⟩
        · exact ih hr p hp
      · simp at hr
    · simp at hr

def okMFn (P : Program) (F : Func) (fn : MFn) : Bool :=
  F.ntmps == fn.nt && okRes P F.results.toList fn.res && (F.name != "runtime.NumGoroutine") && (match F.body with | some c => okM P fn.nt c fn.code | none => false)

/-- A function of either kind. -/
inductive GFn where
  | c (fn : CFn)
  | m (fn : MFn)

def okG (P : Program) (F : Func) : GFn → Bool
  | .c fn => okFn P F fn
  | .m fn => okMFn P F fn

def runC (cl : CallF) (f : Nat) (fn : CFn) : List V1 → Heap → Nat → Option (CVal × Heap × Nat) := fun args h c =>
  if args.length ≤ fn.nt then match ex cl f fn.code ⟨init args 0, h, c⟩ with
    | some (.nrm, s) => (match resV s.h s.ts fn.res with | some l => if c ≤ s.c then some (pack l, s.h, s.c) else none | none => none)
    | some (.ret, s) => (match resV s.h s.ts fn.res with | some l => if c ≤ s.c then some (pack l, s.h, s.c) else none | none => none)
    | _ => none
  else none

def runM (cl : CallF) (f : Nat) (fn : MFn) : List V1 → Heap → Nat → Option (CVal × Heap × Nat) := fun args h c =>
  if args.length ≤ fn.nt then match exN cl f fn.code ⟨init args 0, h, c⟩ with
    | some (p :: l) => match resV p.2.h p.2.ts fn.res with
      | some vs => match allOne fn.res h c vs (p :: l) c with
        | some m => some (pack vs, h, m)
        | none => none
      | none => none
    | _ => none
  else none

def runG (FT : Nat → Option GFn) : Nat → CallF
  | 0 => fun _ _ _ _ => none
  | f + 1 => fun g args h c => match FT g with
    | some (.c fn) => runC (runG FT f) f fn args h c
    | some (.m fn) => runM (runG FT f) f fn args h c
    | none => none

def GTOk (P : Program) (FT : Nat → Option GFn) : Prop := ∀ g fn, FT g = some fn → ∃ F, P.funcs[g]? = some F ∧ okG P F fn = true

section
variable {P : Program} {cl : CallF}

theorem init_inv {nt : Nat} {ntmps : Nat} (k1 : ntmps = nt) {args : List V1} (hle : args.length ≤ nt) {h : Heap} {c : Nat} {A : Nat → Nd} {U : Nat → Prop} {w : World} {as : Array Value} (hs : Sim A h U (Liv A h) w w) (hc : ∀ id, c ≤ id → ¬ U id) (hsz : as.size = args.length)
    (has : ∀ (j : Nat) x, args[j]? = some x → ∃ v, as[j]? = some v ∧ v1Ok A U x v) : Inv nt (Liv A h) w A U c ⟨init args 0, h, c⟩ { tmps := as ++ Array.replicate (ntmps - as.size) undef, defers := [] } w := by
  refine ⟨A, U, hs, fun t y hy => ?_, ?_, rfl, hc, Ext.refl A U, fun _ h => h, fun id h => .inl h, Nat.le_refl _⟩
  · obtain ⟨-, z, h1, rfl⟩ := init_look hy
    rw [Nat.sub_zero] at h1
    have hlt : t < as.size := by rw [hsz]; exact (List.getElem?_eq_some_iff.1 h1).1
    obtain ⟨v, f1, f2⟩ := has t z h1
    refine ⟨by simp; omega, ?_⟩
    have : (as ++ Array.replicate (ntmps - as.size) undef).getD t undef = v := by
      rw [Array.getD_eq_getD_getElem?, Array.getElem?_append_left hlt, f1]; rfl
    rw [this]; exact f2
  · simp only [Array.size_append, Array.size_replicate]
    rw [k1, hsz]; omega

theorem runC_ok (hm : P.follows .mixedOrders = true) (hcl : ClOk P cl) {g : Nat} {F : Func} (hF : P.funcs[g]? = some F) {fn : CFn} (hok : okFn P F fn = true) {f : Nat} {args : List V1} {h : Heap} {c : Nat} {r : CVal} {h' : Heap} {c' : Nat} (hr : runC cl f fn args h c = some (r, h', c')) : FOk P g args h c r h' c' := by
  unfold okFn at hok
  simp only [Bool.and_eq_true, beq_iff_eq] at hok
  obtain ⟨⟨⟨k1, k2⟩, k3⟩, k4⟩ := hok
  split at k4
  · rename_i code hcode
    unfold runC at hr
    split at hr
    · rename_i hle
      have main : ∀ (x : X) (s : St), ex cl f fn.code ⟨init args 0, h, c⟩ = some (x, s) → (x = .nrm ∨ x = .ret) → (match resV s.h s.ts fn.res with | some l => if c ≤ s.c then some (pack l, s.h, s.c) else none | none => none) = some (r, h', c') → FOk P g args h c r h' c' := by
        intro x s hx hxr hres
        split at hres
        · rename_i vs hvs
          split at hres
          case isFalse => simp at hres
          rename_i hcc
          simp only [Option.some.injEq, Prod.mk.injEq] at hres
          obtain ⟨rfl, rfl, rfl⟩ := hres
          refine ⟨⟨F, hF, by simpa using k3, by rw [hcode]; rfl⟩, hcc, ?_⟩
          intro A U w as hs hc hsz has
          refine calls_of_wp hF hcode (ex_sound hm hcl k4 (init_inv k1 hle hs hc hsz has) hx ?_).wp
          rintro a' w' ⟨A', U', s1, s2, s3, s4, s5, s6, s7, s8, s9⟩
          obtain ⟨v, v1, v2⟩ := results_run (P := P) s1 s2 k2 hvs
          have hfin : bodyPost P F (fun e w' => ∃ v A' U', e = .returned v ∧ Post (fun id => c ≤ id ∧ id < s.c) A h U w A' s.h U' w' ∧ valOk A' U' (pack vs) v) .ret a' w' :=
            ⟨s4, v, v1, v, A', U', rfl, ⟨s1, s6, s7, s8⟩, v2⟩
          rcases hxr with rfl | rfl <;> exact hfin
        · simp at hres
      split at hr
      · rename_i s hx; exact main .nrm s hx (.inl rfl) hr
      · rename_i s hx; exact main .ret s hx (.inr rfl) hr
      · simp at hr
    · simp at hr
  · simp at k4

theorem runM_ok (hm : P.follows .mixedOrders = true) (hcl : ClOk P cl) {g : Nat} {F : Func} (hF : P.funcs[g]? = some F) {fn : MFn} (hok : okMFn P F fn = true) {f : Nat} {args : List V1} {h : Heap} {c : Nat} {r : CVal} {h' : Heap} {c' : Nat} (hr : runM cl f fn args h c = some (r, h', c')) : FOk P g args h c r h' c' := by
  unfold okMFn at hok
  simp only [Bool.and_eq_true, beq_iff_eq] at hok
  obtain ⟨⟨⟨k1, k2⟩, k3⟩, k4⟩ := hok
  split at k4
  · rename_i code hcode
    unfold runM at hr
    split at hr
    · rename_i hle
      split at hr
      · rename_i p l hx
        split at hr
        · rename_i vs hvs
          split at hr
          · rename_i m hall
            simp only [Option.some.injEq, Prod.mk.injEq] at hr
            obtain ⟨rfl, rfl, rfl⟩ := hr
            refine ⟨⟨F, hF, by simpa using k3, by rw [hcode]; rfl⟩, allOne_le hall, ?_⟩
            intro A U w as hs hc hsz has
            refine calls_of_wp hF hcode (exN_sound hm hcl k4 (init_inv k1 hle hs hc hsz has) hx ?_).wp
            rintro q hq a' w' ⟨A', U', s1, s2, s3, s4, s5, s6, s7, s8, s9⟩
            obtain ⟨e1, e2, e3, e4, e5⟩ := allOne_all hall q hq
            obtain ⟨v, v1, v2⟩ := results_run (P := P) s1 s2 k2 e2
            obtain ⟨q1, q2⟩ := subH_get e4
            have hfin : bodyPost P F (fun e w' => ∃ v A' U', e = .returned v ∧ Post (fun id => c ≤ id ∧ id < m) A h U w A' h U' w' ∧ valOk A' U' (pack vs) v) .ret a' w' :=
              ⟨s4, v, v1, v, A', U', rfl, ⟨s1.sub q1 (fun _ h => h) q2, s6, s7, fun id hid => (s8 id hid).imp_right fun hh => ⟨hh.1, by omega⟩⟩, v2⟩
            rcases e1 with e1 | e1 <;> rw [e1] <;> exact hfin
          · simp at hr
        · simp at hr
      · simp at hr
    · simp at hr
  · simp at k4

theorem runG_ok {FT : Nat → Option GFn} (hm : P.follows .mixedOrders = true) (hft : GTOk P FT) : ∀ f, ClOk P (runG FT f) := by
  intro f
  induction f with
  | zero => intro g args h c r h' c' hr; simp [runG] at hr
  | succ f ih =>
    intro g args h c r h' c' hr
    simp only [runG] at hr
    split at hr
    · rename_i fn hfn
      obtain ⟨F, hF, hok⟩ := hft g _ hfn
      exact runC_ok hm ih hF hok hr
    · rename_i fn hfn
      obtain ⟨F, hF, hok⟩ := hft g _ hfn
      exact runM_ok hm ih hF hok hr
    · simp at hr

end
end Go.Cq
/- The evaluator once more, shaped so that the kernel reckons it fast. -/
namespace Go.Cq.Z
open Go.RowKit
open Go.Cq (Opd CV CVal V1 Ts Tr Blk Heap FOp NOp COp MOp LK Part CallF CI St RI DS CC X MC RR CFn MFn GFn MO putD pack init)

/-- A step for the kernel: what comes next is not reckoned within what stands. -/
def tick {β : Type} (x : β) : β := x

/-! ### Tables -/

noncomputable def look (ts : Ts) (t : Nat) : Option CVal := List.rec (motive := fun _ => Option CVal) none (fun p _ ih => Prod.rec (motive := fun _ => Option CVal) (fun k x => Bool.rec (motive := fun _ => Option CVal) ih (some x) (Nat.beq k t)) p) ts

theorem look_eq : look = Cq.look := by
  funext ts t
  induction ts with
  | nil => rfl
  | cons p l ih =>
    obtain ⟨k, x⟩ := p
    show Bool.rec (motive := fun _ => Option CVal) (look l t) (some x) (Nat.beq k t) = cond (Nat.beq k t) (some x) (Cq.look l t)
    rw [ih]; cases Nat.beq k t <;> rfl

section
variable {α : Type}

noncomputable def get (t : Tr α) : Nat → Option α := Tr.rec (motive := fun _ => Nat → Option α) (fun _ => none) (fun v _ _ gl gr k => Bool.rec (motive := fun _ => Option α) (Bool.rec (motive := fun _ => Option α) (gr (Nat.div k 2)) (gl (Nat.div k 2)) (Nat.beq (Nat.mod k 2) 0)) v (Nat.beq k 0)) t

theorem get_eq : (get : Tr α → Nat → Option α) = Tr.get := by
  funext t k
  induction t generalizing k with
  | lf => rfl
  | nd v l r ihl ihr =>
    show Bool.rec (motive := fun _ => Option α) (Bool.rec (motive := fun _ => Option α) (get r (Nat.div k 2)) (get l (Nat.div k 2)) (Nat.beq (Nat.mod k 2) 0)) v (Nat.beq k 0) = cond (Nat.beq k 0) v (cond (Nat.beq (k % 2) 0) (l.get (k / 2)) (r.get (k / 2)))
    rw [ihl, ihr]
    show _ = cond (Nat.beq k 0) v (cond (Nat.beq (Nat.mod k 2) 0) (l.get (Nat.div k 2)) (r.get (Nat.div k 2)))
    cases Nat.beq k 0 <;> cases Nat.beq (Nat.mod k 2) 0 <;> rfl

variable {β : Type}

noncomputable def sing (o : Option α) (f : Nat) : Nat → (Tr α → β) → β := Nat.rec (motive := fun _ => Nat → (Tr α → β) → β) (fun _ K => K .lf) (fun _ ih k K => Bool.rec (motive := fun _ => β) (Bool.rec (motive := fun _ => β) (ih (Nat.div k 2) fun r => K (.nd none .lf r)) (ih (Nat.div k 2) fun l => K (.nd none l .lf)) (Nat.beq (Nat.mod k 2) 0)) (K (.nd o .lf .lf)) (Nat.beq k 0)) f

theorem sing_eq (o : Option α) (f k : Nat) (K : Tr α → β) : sing o f k K = K (Tr.sing o f k) := by
  induction f generalizing k K with
  | zero => rfl
  | succ f ih =>
    show Bool.rec (motive := fun _ => β) (Bool.rec (motive := fun _ => β) (sing o f (Nat.div k 2) fun r => K (.nd none .lf r)) (sing o f (Nat.div k 2) fun l => K (.nd none l .lf)) (Nat.beq (Nat.mod k 2) 0)) (K (.nd o .lf .lf)) (Nat.beq k 0) = K (cond (Nat.beq k 0) (.nd o .lf .lf) (cond (Nat.beq (Nat.mod k 2) 0) (.nd none (Tr.sing o f (Nat.div k 2)) .lf) (.nd none .lf (Tr.sing o f (Nat.div k 2)))))
    rw [ih, ih]
    cases Nat.beq k 0 <;> cases Nat.beq (Nat.mod k 2) 0 <;> rfl

/-- A table is changed, and all of it is reckoned. -/
noncomputable def set (t : Tr α) (o : Option α) : Nat → (Tr α → β) → β := Tr.rec (motive := fun _ => Nat → (Tr α → β) → β) (fun k K => sing o (Nat.succ k) k K) (fun v l r pl pr k K => Bool.rec (motive := fun _ => β) (Bool.rec (motive := fun _ => β) (pr (Nat.div k 2) fun r' => K (.nd v l r')) (pl (Nat.div k 2) fun l' => K (.nd v l' r)) (Nat.beq (Nat.mod k 2) 0)) (K (.nd o l r)) (Nat.beq k 0)) t

theorem set_eq (t : Tr α) (o : Option α) (k : Nat) (K : Tr α → β) : set t o k K = K (t.set k o) := by
  induction t generalizing k K with
  | lf => exact sing_eq o (k + 1) k K
  | nd v l r ihl ihr =>
    show Bool.rec (motive := fun _ => β) (Bool.rec (motive := fun _ => β) (set r o (Nat.div k 2) fun r' => K (.nd v l r')) (set l o (Nat.div k 2) fun l' => K (.nd v l' r)) (Nat.beq (Nat.mod k 2) 0)) (K (.nd o l r)) (Nat.beq k 0) = K (cond (Nat.beq k 0) (.nd o l r) (cond (Nat.beq (Nat.mod k 2) 0) (.nd v (l.set (Nat.div k 2) o) r) (.nd v l (r.set (Nat.div k 2) o))))
    rw [ihl, ihr]
    cases Nat.beq k 0 <;> cases Nat.beq (Nat.mod k 2) 0 <;> rfl

/-- A number is reckoned. -/
noncomputable def fNat (n : Nat) (K : Nat → β) : β := Nat.rec (motive := fun _ => β) (K 0) (fun m _ => K (Nat.succ m)) n

theorem fNat_eq (n : Nat) (K : Nat → β) : fNat n K = K n := by cases n <;> rfl

noncomputable def setL (l : List α) : Nat → Tr α → (Tr α → β) → β := List.rec (motive := fun _ => Nat → Tr α → (Tr α → β) → β) (fun _ t K => K t) (fun x _ ih k t K => set t (some x) k fun t' => ih (Nat.succ k) t' K) l

theorem setL_eq (l : List α) (k : Nat) (t : Tr α) (K : Tr α → β) : setL l k t K = K (t.setL k l) := by
  induction l generalizing k t K with
  | nil => rfl
  | cons x l ih =>
    show set t (some x) k (fun t' => setL l (Nat.succ k) t' K) = _
    rw [set_eq, ih]; rfl

end

noncomputable def hget (h : Heap) (id : Nat) : Option Blk := Heap.rec (motive := fun _ => Option Blk) (fun b _ => get b id) h
noncomputable def hset {β : Type} (h : Heap) (id : Nat) (o : Option Blk) (K : Heap → β) : β := Heap.rec (motive := fun _ => β) (fun b m => set b o id fun b' => K ⟨b', m⟩) h
noncomputable def hgetM (h : Heap) (id : Nat) : Option MO := Heap.rec (motive := fun _ => Option MO) (fun _ m => get m id) h
noncomputable def hsetM {β : Type} (h : Heap) (id : Nat) (o : Option MO) (K : Heap → β) : β := Heap.rec (motive := fun _ => β) (fun b m => set m o id fun m' => K ⟨b, m'⟩) h

theorem hget_eq : hget = Heap.get := by funext h id; cases h; show get _ _ = _; rw [get_eq]; rfl
theorem hset_eq {β : Type} (h : Heap) (id : Nat) (o : Option Blk) (K : Heap → β) : hset h id o K = K (h.set id o) := by cases h; show set _ _ _ _ = _; rw [set_eq]; rfl
theorem hgetM_eq : hgetM = Heap.getM := by funext h id; cases h; show get _ _ = _; rw [get_eq]; rfl
theorem hsetM_eq {β : Type} (h : Heap) (id : Nat) (o : Option MO) (K : Heap → β) : hsetM h id o K = K (h.setM id o) := by cases h; show set _ _ _ _ = _; rw [set_eq]; rfl

/-! ### Cells -/

section
variable {β : Type}
noncomputable def onPtr (c : CV) (K : Nat → Nat → β) (d : β) : β := CV.rec (motive := fun _ => β) (fun _ => d) (fun _ _ => d) (fun _ => d) d K (fun _ => d) (fun _ _ _ _ => d) (fun _ _ => d) d (fun _ => d) d c
noncomputable def onSl (c : CV) (K : Nat → Nat → Nat → Option Nat → β) (N : Nat → β) (d : β) : β := CV.rec (motive := fun _ => β) (fun _ => d) (fun _ _ => d) (fun _ => d) d (fun _ _ => d) N K (fun _ _ => d) d (fun _ => d) d c
noncomputable def onInt (c : CV) (K : IntKind → Int → β) (d : β) : β := CV.rec (motive := fun _ => β) (fun _ => d) K (fun _ => d) d (fun _ _ => d) (fun _ => d) (fun _ _ _ _ => d) (fun _ _ => d) d (fun _ => d) d c
noncomputable def onBool (c : CV) (K : Bool → β) (d : β) : β := CV.rec (motive := fun _ => β) K (fun _ _ => d) (fun _ => d) d (fun _ _ => d) (fun _ => d) (fun _ _ _ _ => d) (fun _ _ => d) d (fun _ => d) d c
noncomputable def onStr (c : CV) (K : List UInt8 → β) (d : β) : β := CV.rec (motive := fun _ => β) (fun _ => d) (fun _ _ => d) K d (fun _ _ => d) (fun _ => d) (fun _ _ _ _ => d) (fun _ _ => d) d (fun _ => d) d c
noncomputable def onFn (c : CV) (K : FuncId → List (Nat × Nat) → β) (d : β) : β := CV.rec (motive := fun _ => β) (fun _ => d) (fun _ _ => d) (fun _ => d) d (fun _ _ => d) (fun _ => d) (fun _ _ _ _ => d) K d (fun _ => d) d c
noncomputable def onMp (c : CV) (K : Nat → β) (d : β) : β := CV.rec (motive := fun _ => β) (fun _ => d) (fun _ _ => d) (fun _ => d) d (fun _ _ => d) (fun _ => d) (fun _ _ _ _ => d) (fun _ _ => d) d K d c
noncomputable def onOpt {α : Type} (o : Option α) (K : α → β) (d : β) : β := Option.rec (motive := fun _ => β) d K o
end

noncomputable def evO (ts : Ts) (x : Opd) : Option V1 := Opd.rec (motive := fun _ => Option V1) (fun s => Option.rec (motive := fun _ => Option V1) none (fun v => CVal.rec (motive := fun _ => Option V1) (fun x => some x) (fun _ => none) none v) (look ts s)) (fun c => some (.one c)) x

theorem evO_eq : evO = Cq.evO := by
  funext ts x
  cases x with
  | t s =>
    show Option.rec (motive := fun _ => Option V1) none (fun v => CVal.rec (motive := fun _ => Option V1) (fun x => some x) (fun _ => none) none v) (look ts s) = _
    rw [look_eq]
    simp only [Cq.evO]
    cases Cq.look ts s with
    | none => rfl
    | some v => cases v <;> rfl
  | k c => rfl

noncomputable def ev1 (ts : Ts) (x : Opd) : Option CV := Opd.rec (motive := fun _ => Option CV) (fun s => Option.rec (motive := fun _ => Option CV) none (fun v => CVal.rec (motive := fun _ => Option CV) (fun x => V1.rec (motive := fun _ => Option CV) (fun c => some c) (fun _ => none) x) (fun _ => none) none v) (look ts s)) (fun c => some c) x

theorem ev1_eq : ev1 = Cq.ev1 := by
  funext ts x
  cases x with
  | t s =>
    show Option.rec (motive := fun _ => Option CV) none (fun v => CVal.rec (motive := fun _ => Option CV) (fun x => V1.rec (motive := fun _ => Option CV) (fun c => some c) (fun _ => none) x) (fun _ => none) none v) (look ts s) = _
    rw [look_eq]
    simp only [Cq.ev1, Cq.evO]
    cases Cq.look ts s with
    | none => rfl
    | some v => cases v with
      | v x => cases x <;> rfl
      | tup l => rfl
      | gone => rfl
  | k c => rfl

noncomputable def evInt (ts : Ts) (x : Opd) : Option Int := onOpt (ev1 ts x) (fun c => onInt c (fun _ n => some n) none) none

theorem evInt_eq : evInt = Cq.evInt := by
  funext ts x
  simp only [evInt, ev1_eq, Cq.evInt]
  cases Cq.ev1 ts x with
  | none => rfl
  | some c => cases c <;> rfl

/-! ### Blocks -/

noncomputable def bget (b : Blk) (o : Nat) : Option CV := Blk.rec (motive := fun _ => Option CV) (fun sz n _ zs cs => Bool.rec (motive := fun _ => Option CV) none (Option.rec (motive := fun _ => Option CV) (zs[Nat.mod o sz]?) (fun c => some c) (get cs o)) (Nat.blt o n)) b

theorem bget_eq : bget = Blk.get := by
  funext b o
  obtain ⟨sz, n, t, zs, cs⟩ := b
  show Bool.rec (motive := fun _ => Option CV) none (Option.rec (motive := fun _ => Option CV) (zs[Nat.mod o sz]?) (fun c => some c) (get cs o)) (Nat.blt o n) = _
  simp only [Blk.get, get_eq]
  cases Nat.blt o n
  · rfl
  · cases cs.get o <;> rfl

noncomputable def getN (b : Blk) (n : Nat) : Nat → Option (List CV) := Nat.rec (motive := fun _ => Nat → Option (List CV)) (fun _ => some []) (fun _ ih o => Option.rec (motive := fun _ => Option (List CV)) none (fun c => Option.rec (motive := fun _ => Option (List CV)) none (fun l => some (c :: l)) (ih (Nat.succ o))) (bget b o)) n

theorem getN_eq (b : Blk) (n o : Nat) : getN b n o = b.getN o n := by
  induction n generalizing o with
  | zero => rfl
  | succ n ih =>
    show Option.rec (motive := fun _ => Option (List CV)) none (fun c => Option.rec (motive := fun _ => Option (List CV)) none (fun l => some (c :: l)) (getN b n (Nat.succ o))) (bget b o) = _
    rw [ih, bget_eq]
    simp only [Blk.getN]
    cases b.get o with
    | none => rfl
    | some c => show Option.rec (motive := fun _ => Option (List CV)) none (fun l => some (c :: l)) (b.getN (o + 1) n) = _; cases b.getN (o + 1) n <;> rfl

noncomputable def bput {β : Type} (b : Blk) (o : Nat) (l : List CV) (K : Blk → β) : β := Blk.rec (motive := fun _ => β) (fun sz n t zs cs => setL l o cs fun cs' => K ⟨sz, n, t, zs, cs'⟩) b

theorem bput_eq {β : Type} (b : Blk) (o : Nat) (l : List CV) (K : Blk → β) : bput b o l K = K (b.put o l) := by
  obtain ⟨sz, n, t, zs, cs⟩ := b
  show setL l o cs (fun cs' => K ⟨sz, n, t, zs, cs'⟩) = _
  rw [setL_eq]; rfl

/-! ### Numbers -/

noncomputable def nAdd (m n : Nat) (slow : Option CV) : Option CV := Bool.rec (motive := fun _ => Option CV) slow (some (.int .i64 (.ofNat (Nat.add m n)))) (Nat.blt (Nat.add m n) 9223372036854775808)
noncomputable def nSub (m n : Nat) (slow : Option CV) : Option CV := Bool.rec (motive := fun _ => Option CV) slow (Bool.rec (motive := fun _ => Option CV) slow (some (.int .i64 (.ofNat (Nat.sub m n)))) (Nat.blt m 9223372036854775808)) (Nat.ble n m)
def nEql (m n : Nat) (_ : Option CV) : Option CV := some (.bool (Nat.beq m n))
noncomputable def nNeq (m n : Nat) (_ : Option CV) : Option CV := some (.bool (Bool.rec (motive := fun _ => Bool) true false (Nat.beq m n)))
def nLss (m n : Nat) (_ : Option CV) : Option CV := some (.bool (Nat.blt m n))
def nLeq (m n : Nat) (_ : Option CV) : Option CV := some (.bool (Nat.ble m n))
def nGtr (m n : Nat) (_ : Option CV) : Option CV := some (.bool (Nat.blt n m))
def nGeq (m n : Nat) (_ : Option CV) : Option CV := some (.bool (Nat.ble n m))
def nSlow (_ _ : Nat) (slow : Option CV) : Option CV := slow

/-- Of two numbers that are not below zero. -/
noncomputable def natOp (op : BinOp) : Nat → Nat → Option CV → Option CV := match op with
  | .add => nAdd
  | .sub => nSub
  | .eql => nEql
  | .neq => nNeq
  | .lss => nLss
  | .leq => nLeq
  | .gtr => nGtr
  | .geq => nGeq
  | _ => nSlow

theorem blt_dec (m n : Nat) : Nat.blt m n = decide (m < n) := by
  rw [Bool.eq_iff_iff, Nat.blt_eq, decide_eq_true_iff]
theorem ble_dec (m n : Nat) : Nat.ble m n = decide (m ≤ n) := by
  rw [Bool.eq_iff_iff, Nat.ble_eq, decide_eq_true_iff]
theorem beq_dec (m n : Nat) : Nat.beq m n = decide (m = n) := by
  rw [Bool.eq_iff_iff, Nat.beq_eq, decide_eq_true_iff]

theorem wrap64 {x : Int} (h1 : -9223372036854775808 ≤ x) (h2 : x ≤ 9223372036854775807) : IntKind.wrap .i64 x = x := by
  have e : IntKind.wrap .i64 x = if x % 18446744073709551616 ≥ 9223372036854775808 then x % 18446744073709551616 - 18446744073709551616 else x % 18446744073709551616 := by
    simp only [IntKind.wrap, IntKind.bits, IntKind.signed]
    simp
  rw [e]
  split <;> omega

theorem natOp_eq (op : BinOp) (m n : Nat) : natOp op m n (Cq.binCV op (.int .i64 (.ofNat m)) (.int .i64 (.ofNat n))) = Cq.binCV op (.int .i64 (.ofNat m)) (.int .i64 (.ofNat n)) := by
  cases op
  case add =>
    simp only [natOp, nAdd]
    cases hb : Nat.blt (Nat.add m n) 9223372036854775808 with
    | false => rfl
    | true =>
      rw [Nat.blt_eq] at hb
      have hb : m + n < 9223372036854775808 := hb
      simp only [Cq.binCV, Tq.binPV, if_true, Option.bind_some, Cq.ofPV]
      rw [wrap64 (by simp; omega) (by simp; omega)]
      rfl
  case sub =>
    simp only [natOp, nSub]
    cases hb : Nat.ble n m with
    | false => rfl
    | true => cases hc : Nat.blt m 9223372036854775808 with
      | false => rfl
      | true =>
        have hb := Nat.le_of_ble_eq_true hb
        rw [Nat.blt_eq] at hc
        simp only [Cq.binCV, Tq.binPV, if_true, Option.bind_some, Cq.ofPV]
        rw [wrap64 (by simp; omega) (by simp; omega)]
        show some (CV.int .i64 (Int.ofNat (m - n))) = _
        congr 2
        simp; omega
  all_goals first
    | rfl
    | (simp only [natOp, nEql, nNeq, nLss, nLeq, nGtr, nGeq, Cq.binCV, Tq.binPV, if_true, Option.bind_some, Cq.ofPV, blt_dec, ble_dec, beq_dec]; simp; done)
    | (simp only [natOp, nEql, nNeq, Cq.binCV, Tq.binPV, if_true, Option.bind_some, Cq.ofPV, beq_dec]; cases hd : decide (m = n) <;> simp_all <;> omega)

def isI64 (k : IntKind) : Bool := match k with
  | .i64 => true
  | _ => false

theorem isI64_eq {k : IntKind} (h : isI64 k = true) : k = .i64 := by cases k <;> simp_all [isI64]

noncomputable def binF (op : BinOp) (a b : CV) : Option CV := onInt a (fun k m => onInt b (fun k' n => Bool.rec (motive := fun _ => Option CV) (Cq.binCV op a b) (Bool.rec (motive := fun _ => Option CV) (Cq.binCV op a b) (Int.rec (motive := fun _ => Option CV) (fun m => Int.rec (motive := fun _ => Option CV) (fun n => natOp op m n (Cq.binCV op a b)) (fun _ => Cq.binCV op a b) n) (fun _ => Cq.binCV op a b) m) (isI64 k')) (isI64 k)) (Cq.binCV op a b)) (Cq.binCV op a b)

theorem binF_eq : binF = Cq.binCV := by
  funext op a b
  cases a <;> try rfl
  cases b <;> try rfl
  rename_i k m k' n
  show Bool.rec (motive := fun _ => Option CV) _ (Bool.rec (motive := fun _ => Option CV) _ (Int.rec (motive := fun _ => Option CV) (fun m' => Int.rec (motive := fun _ => Option CV) (fun n' => natOp op m' n' _) (fun _ => _) n) (fun _ => _) m) (isI64 k')) (isI64 k) = _
  cases h1 : isI64 k with
  | false => rfl
  | true => cases h2 : isI64 k' with
    | false => rfl
    | true =>
      have := isI64_eq h1
      have := isI64_eq h2
      subst_vars
      cases m <;> try rfl
      cases n <;> try rfl
      exact natOp_eq op _ _

/-! ### Operations that change nothing -/

noncomputable def some1 (r : CV) : Option V1 := some (.one r)

noncomputable def fMov (x : Opd) (_ : Heap) (ts : Ts) : Option V1 := evO ts x
noncomputable def fPick (c a b : Opd) (_ : Heap) (ts : Ts) : Option V1 := onOpt (ev1 ts c) (fun v => onBool v (fun t => Bool.rec (motive := fun _ => Option V1) (evO ts b) (evO ts a) t) none) none
noncomputable def fLoad1 (x : Opd) (h : Heap) (ts : Ts) : Option V1 := onOpt (ev1 ts x) (fun c => onPtr c (fun id off => onOpt (hget h id) (fun b => onOpt (bget b off) some1 none) none) none) none
noncomputable def fLoadN (n : Nat) (x : Opd) (h : Heap) (ts : Ts) : Option V1 := onOpt (ev1 ts x) (fun c => onPtr c (fun id off => onOpt (hget h id) (fun b => onOpt (getN b n off) (fun l => some (.agg l)) none) none) none) none
noncomputable def fLoad (n : Option Nat) (x : Opd) : Heap → Ts → Option V1 := Option.rec (motive := fun _ => Heap → Ts → Option V1) (fLoad1 x) (fun n => fLoadN n x) n
noncomputable def fNil (x : Opd) (_ : Heap) (ts : Ts) : Option V1 := onOpt (ev1 ts x) (fun c => onPtr c (fun _ _ => some (.one c)) none) none
noncomputable def fBin (op : BinOp) (x y : Opd) (_ : Heap) (ts : Ts) : Option V1 := onOpt (ev1 ts x) (fun a => onOpt (ev1 ts y) (fun b => onOpt (binF op a b) some1 none) none) none
noncomputable def fBinB (neg : Bool) (x y : Opd) (_ : Heap) (ts : Ts) : Option V1 := onOpt (ev1 ts x) (fun a => onOpt (ev1 ts y) (fun b => onBool a (fun p => onBool b (fun q => some1 (.bool (if neg then !(p == q) else p == q))) none) none) none) none
noncomputable def fCmpNil (neg : Bool) (x : Opd) (_ : Heap) (ts : Ts) : Option V1 := onOpt (ev1 ts x) (fun a => onSl a (fun _ _ _ _ => some1 (.bool neg)) (fun _ => some1 (.bool (!neg))) none) none
noncomputable def fUn (op : UnOp) (x : Opd) (_ : Heap) (ts : Ts) : Option V1 := onOpt (ev1 ts x) (fun a => onOpt (Cq.unCV op a) some1 none) none
noncomputable def fConv (k : IntKind) (x : Opd) (_ : Heap) (ts : Ts) : Option V1 := onOpt (ev1 ts x) (fun a => onInt a (fun _ n => some1 (.int k (k.wrap n))) none) none
noncomputable def fField (x : Opd) (off : Nat) (_ : Heap) (ts : Ts) : Option V1 := onOpt (ev1 ts x) (fun a => onPtr a (fun id o => some1 (.ptr id (Nat.add o off))) none) none
noncomputable def bsz (b : Blk) : Nat := Blk.rec (motive := fun _ => Nat) (fun sz _ _ _ _ => sz) b
noncomputable def fIdx (x i : Opd) (sz : Nat) (h : Heap) (ts : Ts) : Option V1 := onOpt (ev1 ts x) (fun a => onSl a (fun id i0 ln _ => onOpt (evInt ts i) (fun n => Int.rec (motive := fun _ => Option V1) (fun m => Bool.rec (motive := fun _ => Option V1) none (onOpt (hget h id) (fun b => Bool.rec (motive := fun _ => Option V1) none (some1 (.ptr id (Nat.mul (Nat.add i0 m) sz))) (Nat.beq (bsz b) sz)) none) (Nat.blt m ln)) (fun _ => none) n) none) (fun _ => none) none) none
noncomputable def fIndex (x i : Opd) (_ : Heap) (ts : Ts) : Option V1 := onOpt (ev1 ts x) (fun a => onStr a (fun s => onOpt (evInt ts i) (fun n => if 0 ≤ n then (s[n.toNat]?).map fun b => .one (.int .u8 b.toNat) else none) none) none) none
noncomputable def fLenS (x : Opd) (_ : Heap) (ts : Ts) : Option V1 := onOpt (ev1 ts x) (fun a => onStr a (fun s => some1 (.int .i64 (.ofNat (List.length s)))) none) none
noncomputable def fLen (x : Opd) (_ : Heap) (ts : Ts) : Option V1 := onOpt (ev1 ts x) (fun a => onSl a (fun _ _ ln _ => some1 (.int .i64 (.ofNat ln))) (fun _ => some1 (.int .i64 0)) none) none

noncomputable def evBound (ts : Ts) (x : Option Opd) (dflt lim : Nat) : Option Nat := match x with
  | none => some dflt
  | some y => match evInt ts y with
    | some n => if 0 ≤ n ∧ n ≤ lim then some n.toNat else none
    | none => none

theorem evBound_eq : evBound = Cq.evBound := by
  funext ts x d l
  cases x with
  | none => rfl
  | some y => simp only [evBound, Cq.evBound, evInt_eq] <;> rfl

noncomputable def fSliceS (x : Opd) (lo hi : Option Opd) (_ : Heap) (ts : Ts) : Option V1 := match ev1 ts x with
  | some (.str s) => match evBound ts hi s.length s.length with
    | some h => (evBound ts lo 0 h).map fun l => .one (.str ((s.drop l).take (h - l)))
    | none => none
  | _ => none
noncomputable def fSliceL (x : Opd) (lo hi : Option Opd) (sz : Nat) (h : Heap) (ts : Ts) : Option V1 := match ev1 ts x with
  | some (.sl id i0 ln lim) => match hget h id with
    | some b => if b.sz = sz then match evBound ts hi ln ln with
      | some h => (evBound ts lo 0 h).map fun l => .one (.sl id (i0 + l) (h - l) (lim.map (· - l)))
      | none => none
      else none
    | none => none
  | some (.nils z) => match evBound ts hi 0 0 with
    | some h => (evBound ts lo 0 h).map fun _ => .one (.nils z)
    | none => none
  | _ => none

noncomputable def fev (f : FOp) : Heap → Ts → Option V1 := match f with
  | .mov x => fMov x
  | .pick c a b => fPick c a b
  | .load n x => fLoad n x
  | .nilCheck x => fNil x
  | .bin op x y => fBin op x y
  | .binB neg x y => fBinB neg x y
  | .cmpNil neg x => fCmpNil neg x
  | .un op x => fUn op x
  | .conv k x => fConv k x
  | .fieldAddr x off => fField x off
  | .idxAddr x i sz => fIdx x i sz
  | .index x i => fIndex x i
  | .lenS x => fLenS x
  | .len x => fLen x
  | .sliceS x lo hi => fSliceS x lo hi
  | .sliceL x lo hi sz => fSliceL x lo hi sz

theorem map_one (o : Option CV) : onOpt o some1 none = o.map V1.one := by cases o <;> rfl

theorem fev_eq (f : FOp) (h : Heap) (ts : Ts) : fev f h ts = f.ev h ts := by
  cases f with
  | mov x => simp only [fev, fMov, evO_eq, FOp.ev]
  | pick c a b =>
    simp only [fev, fPick, ev1_eq, evO_eq, FOp.ev]
    cases Cq.ev1 ts c with
    | none => rfl
    | some v => cases v <;> try rfl
                rename_i t; cases t <;> rfl
  | load n x =>
    cases n with
    | none =>
      show fLoad1 x h ts = _
      simp only [fLoad1, ev1_eq, hget_eq, bget_eq, FOp.ev, map_one]
      cases Cq.ev1 ts x with
      | none => rfl
      | some v => cases v <;> try rfl
                  rename_i id off
                  show onOpt (h.get id) _ _ = match h.get id with | some b => _ | none => _
                  cases h.get id <;> rfl
    | some n =>
      show fLoadN n x h ts = _
      simp only [fLoadN, ev1_eq, hget_eq, getN_eq, FOp.ev]
      cases Cq.ev1 ts x with
      | none => rfl
      | some v => cases v <;> try rfl
                  rename_i id off
                  show onOpt (h.get id) _ _ = match h.get id with | some b => _ | none => _
                  cases h.get id with
                  | none => rfl
                  | some b => show onOpt (b.getN off n) _ _ = (b.getN off n).map _; cases b.getN off n <;> rfl
  | nilCheck x =>
    simp only [fev, fNil, ev1_eq, FOp.ev]
    cases Cq.ev1 ts x with
    | none => rfl
    | some v => cases v <;> rfl
  | bin op x y =>
    simp only [fev, fBin, ev1_eq, binF_eq, FOp.ev, map_one]
    cases Cq.ev1 ts x with
    | none => rfl
    | some v => cases Cq.ev1 ts y <;> rfl
  | binB neg x y =>
    simp only [fev, fBinB, ev1_eq, FOp.ev]
    cases Cq.ev1 ts x with
    | none => rfl
    | some v => cases Cq.ev1 ts y with
      | none => cases v <;> rfl
      | some u => cases v <;> cases u <;> rfl
  | cmpNil neg x =>
    simp only [fev, fCmpNil, ev1_eq, FOp.ev]
    cases Cq.ev1 ts x with
    | none => rfl
    | some v => cases v <;> rfl
  | un op x =>
    simp only [fev, fUn, ev1_eq, FOp.ev, map_one]
    cases Cq.ev1 ts x <;> rfl
  | conv k x =>
    simp only [fev, fConv, ev1_eq, FOp.ev]
    cases Cq.ev1 ts x with
    | none => rfl
    | some v => cases v <;> rfl
  | fieldAddr x off =>
    simp only [fev, fField, ev1_eq, FOp.ev]
    cases Cq.ev1 ts x with
    | none => rfl
    | some v => cases v <;> rfl
  | idxAddr x i sz =>
    simp only [fev, fIdx, ev1_eq, evInt_eq, hget_eq, FOp.ev]
    cases Cq.ev1 ts x with
    | none => rfl
    | some v => cases v <;> try rfl
                rename_i id i0 ln lim
                cases Cq.evInt ts i with
                | none => rfl
                | some n => cases n with
                  | negSucc m =>
                    show none = match h.get id with | some b => _ | none => _
                    cases h.get id with
                    | none => rfl
                    | some b => simp
                  | ofNat m =>
                    show Bool.rec (motive := fun _ => Option V1) none (onOpt (h.get id) (fun b => Bool.rec (motive := fun _ => Option V1) none (some1 (.ptr id (Nat.mul (Nat.add i0 m) sz))) (Nat.beq (bsz b) sz)) none) (Nat.blt m ln) = match h.get id with | some b => _ | none => _
                    cases h.get id with
                    | none => cases Nat.blt m ln <;> rfl
                    | some b =>
                      simp only [onOpt, blt_dec, beq_dec]
                      have e1 : (0 : Int) ≤ Int.ofNat m := Int.natCast_nonneg m
                      have e2 : (Int.ofNat m < (ln : Int)) ↔ m < ln := by simp
                      have e3 : bsz b = b.sz := rfl
                      rw [e3]
                      by_cases h1 : m < ln
                      · by_cases h2 : b.sz = sz
                        · rw [if_pos ⟨e1, e2.2 h1, h2⟩, decide_eq_true h1, decide_eq_true h2]; rfl
                        · rw [if_neg (fun hh => h2 hh.2.2), decide_eq_true h1, decide_eq_false h2]
                      · rw [if_neg (fun hh => h1 (e2.1 hh.2.1)), decide_eq_false h1]
  | index x i =>
    simp only [fev, fIndex, ev1_eq, evInt_eq, FOp.ev]
    cases Cq.ev1 ts x with
    | none => rfl
    | some v => cases Cq.evInt ts i with
      | none => cases v <;> rfl
      | some n => cases v <;> rfl
  | lenS x =>
    simp only [fev, fLenS, ev1_eq, FOp.ev]
    cases Cq.ev1 ts x with
    | none => rfl
    | some v => cases v <;> rfl
  | len x =>
    simp only [fev, fLen, ev1_eq, FOp.ev]
    cases Cq.ev1 ts x with
    | none => rfl
    | some v => cases v <;> rfl
  | sliceS x lo hi => simp only [fev, fSliceS, ev1_eq, evBound_eq, FOp.ev] <;> rfl
  | sliceL x lo hi sz => simp only [fev, fSliceL, ev1_eq, evBound_eq, hget_eq, FOp.ev] <;> rfl

/-! ### Blocks that are made and changed -/

noncomputable def vcells (v : V1) : List CV := V1.rec (motive := fun _ => List CV) (fun c => [c]) (fun l => l) v

theorem vcells_eq : vcells = V1.cells := by funext v; cases v <;> rfl

def fillC (ts : Ts) (ps : List Part) : List CV → Option (List CV) := Cq.fillC ts ps

noncomputable def fillB {β : Type} (ts : Ts) (ps : List Part) : Blk → (Blk → β) → β → β := List.rec (motive := fun _ => Blk → (Blk → β) → β → β) (fun b K _ => K b) (fun p _ ih b K d => onOpt (evO ts p.x) (fun r => Bool.rec (motive := fun _ => β) d (Bool.rec (motive := fun _ => β) d (bput b p.off (vcells r) fun b' => ih b' K d) (Nat.ble (Nat.add p.off p.size) b.n)) (Nat.beq (List.length (vcells r)) p.size)) d) ps

theorem fillB_eq {β : Type} (ts : Ts) (ps : List Part) (b : Blk) (K : Blk → β) (d : β) : fillB ts ps b K d = match Cq.fillB ts ps b with | some b' => K b' | none => d := by
  induction ps generalizing b with
  | nil => rfl
  | cons p l ih =>
    show onOpt (evO ts p.x) (fun r => Bool.rec (motive := fun _ => β) d (Bool.rec (motive := fun _ => β) d (bput b p.off (vcells r) fun b' => fillB ts l b' K d) (Nat.ble (Nat.add p.off p.size) b.n)) (Nat.beq (List.length (vcells r)) p.size)) d = _
    simp only [evO_eq, vcells_eq, bput_eq, ih, Cq.fillB, beq_dec, ble_dec]
    cases Cq.evO ts p.x with
    | none => rfl
    | some r =>
      show Bool.rec (motive := fun _ => β) d (Bool.rec (motive := fun _ => β) d _ (decide (p.off + p.size ≤ b.n))) (decide (r.cells.length = p.size)) = _
      by_cases h1 : r.cells.length = p.size
      · by_cases h2 : p.off + p.size ≤ b.n
        · simp only [h1, h2, and_self, if_true, decide_true]
        · simp only [h1, h2, and_false, if_false, decide_true, decide_false]
      · simp only [h1, false_and, if_false, decide_false]

/-- What an operation gives: what it computes, the heap, the first free number. -/
abbrev R3 := Option (CVal × Heap × Nat)

def give (r : CVal) (h : Heap) (c : Nat) : R3 := some (r, h, c)

section
variable {β : Type}
noncomputable def bAlloc (zs : List CV) (i : Nat) (_ : Ts) (K : Blk → CV → β) (_ : β) : β := K ⟨List.length zs, List.length zs, true, zs, .lf⟩ (.ptr i 0)
noncomputable def bBox (x : Opd) (i : Nat) (ts : Ts) (K : Blk → CV → β) (d : β) : β := onOpt (evO ts x) (fun r => K ⟨List.length (vcells r), List.length (vcells r), true, vcells r, .lf⟩ (.ptr i 0)) d
noncomputable def bLit (zs : List CV) (len : Nat) (ps : List Part) (i : Nat) (ts : Ts) (K : Blk → CV → β) (d : β) : β := fillB ts ps ⟨List.length zs, Nat.mul len (List.length zs), true, zs, .lf⟩ (fun b => K b (.sl i 0 len none)) d
noncomputable def bMk (zs : List CV) (bytes : Nat) (x y : Opd) (i : Nat) (ts : Ts) (K : Blk → CV → β) (d : β) : β := match evInt ts x, evInt ts y with
  | some n, some k => if 0 ≤ n ∧ n ≤ k ∧ (bytes : Int) * k ≤ 281474976710656 ∧ k ≤ 9223372036854775807 then fNat k.toNat fun kk => fNat n.toNat fun nn => K ⟨zs.length, kk * zs.length, true, zs, .lf⟩ (.sl i 0 nn none) else d
  | _, _ => d

noncomputable def newB (x : NOp) : Nat → Ts → (Blk → CV → β) → β → β := match x with
  | .alloc zs => bAlloc zs
  | .box x => bBox x
  | .lit zs len ps => bLit zs len ps
  | .mk zs bytes x y => bMk zs bytes x y

theorem newB_eq (x : NOp) (i : Nat) (ts : Ts) (K : Blk → CV → β) (d : β) : newB x i ts K d = match x.ev ts i with | some (b, r) => K b r | none => d := by
  cases x with
  | alloc zs => rfl
  | box x =>
    simp only [newB, bBox, evO_eq, vcells_eq, NOp.ev]
    cases Cq.evO ts x <;> rfl
  | lit zs len ps =>
    simp only [newB, bLit, fillB_eq, NOp.ev]
    show (match Cq.fillB ts ps ⟨zs.length, len * zs.length, true, zs, .lf⟩ with | some b' => _ | none => _) = _
    cases Cq.fillB ts ps ⟨zs.length, len * zs.length, true, zs, .lf⟩ <;> rfl
  | mk zs bytes x y =>
    simp only [newB, bMk, evInt_eq, fNat_eq, NOp.ev]
    cases Cq.evInt ts x with
    | none => rfl
    | some n => cases Cq.evInt ts y with
      | none => rfl
      | some k => simp only; split <;> rfl
end

noncomputable def zNew (x : NOp) (i c : Nat) (h : Heap) (ts : Ts) : R3 := newB x i ts (fun b r => hset h i (some b) fun h' => give (.v (.one r)) h' c) none

theorem zNew_eq (x : NOp) (cl : CallF) (i c : Nat) (h : Heap) (ts : Ts) : zNew x i c h ts = (COp.nw x).ev cl i c h ts := by
  simp only [COp.ev, zNew, newB_eq, hset_eq, give] <;> rfl

noncomputable def zStore (n : Nat) (x v : Opd) (_ : Nat) (c : Nat) (h : Heap) (ts : Ts) : R3 := onOpt (ev1 ts x) (fun a => onPtr a (fun id off => onOpt (evO ts v) (fun r => onOpt (hget h id) (fun b => Bool.rec (motive := fun _ => R3) none (Bool.rec (motive := fun _ => R3) none (bput b off (vcells r) fun b' => hset h id (some b') fun h' => give .gone h' c) (Nat.ble (Nat.add off n) (Blk.n b))) (Nat.beq (List.length (vcells r)) n)) none) none) none) none

theorem zStore_eq (n : Nat) (x v : Opd) (cl : CallF) (i c : Nat) (h : Heap) (ts : Ts) : zStore n x v i c h ts = (COp.store n x v).ev cl i c h ts := by
  simp only [COp.ev, zStore, Cq.doStore, ev1_eq, evO_eq, hget_eq, vcells_eq, bput_eq, hset_eq, give, beq_dec, ble_dec]
  cases Cq.ev1 ts x with
  | none => rfl
  | some a => cases a with
    | ptr id off => cases Cq.evO ts v with
      | none => rfl
      | some r =>
        show onOpt (h.get id) (fun b => Bool.rec (motive := fun _ => R3) none (Bool.rec (motive := fun _ => R3) none _ (decide (off + n ≤ b.n))) (decide (r.cells.length = n))) none = _
        cases hg : h.get id with
        | none => simp only [onOpt, hg]
        | some b =>
          simp only [onOpt, hg]
          by_cases h1 : r.cells.length = n
          · by_cases h2 : off + n ≤ b.n
            · simp only [h1, h2, and_self, if_true, decide_true]
            · simp only [h1, h2, and_false, if_false, decide_true, decide_false]
          · simp only [h1, false_and, if_false, decide_false]
    | _ => cases Cq.evO ts v <;> rfl

noncomputable def yCells (h : Heap) (ts : Ts) (sz : Nat) (y : Opd) : Option (List CV × Nat) := match ev1 ts y with
  | some (.nils _) => some ([], 0)
  | some (.sl id i ln _) => match hget h id with
    | some b => if b.sz = sz then (getN b (ln * sz) (i * sz)).map fun l => (l, ln) else none
    | none => none
  | _ => none

theorem yCells_eq : yCells = Cq.yCells := by
  funext h ts sz y
  simp only [yCells, Cq.yCells, ev1_eq, hget_eq, getN_eq] <;> rfl

noncomputable def blkOf (sz : Nat) (l : List CV) (K : Blk → R3) : R3 := setL l 0 .lf fun t => K ⟨sz, l.length, false, [], t⟩

theorem blkOf_eq (sz : Nat) (l : List CV) (K : Blk → R3) : blkOf sz l K = K (Cq.blkOf sz l) := by unfold blkOf; rw [setL_eq]; rfl

noncomputable def zApp (zs : List CV) (bytes : Nat) (x y : Opd) (i c : Nat) (h : Heap) (ts : Ts) : R3 := match yCells h ts zs.length y with
  | some (l, n) => match ev1 ts x with
    | some (.nils z) => if n = 0 then give (.v (.one (.nils z))) h c else if n * bytes ≤ 140737488355328 ∧ n ≤ 140737488355328 then blkOf zs.length l fun b' => hset h i (some b') fun h' => give (.v (.one (.sl i 0 n none))) h' c else none
    | some (.sl id j ln lim) => match hget h id with
      | some b => if b.sz = zs.length ∧ zs.length ≠ 0 ∧ (ln + n) * bytes ≤ 140737488355328 ∧ ln + n ≤ 140737488355328 then match getN b (ln * zs.length) (j * zs.length) with
          | some l0 => match lim with
            | none => if (j + ln + n) * zs.length ≤ b.n then bput b ((j + ln) * zs.length) l fun b' => hset h id (some b') fun h' => give (.v (.one (.sl id j (ln + n) none))) h' c
              else if b.tight then blkOf zs.length (l0 ++ l) fun b' => hset h i (some b') fun h' => give (.v (.one (.sl i 0 (ln + n) none))) h' c
              else if ln + n = 0 then none else blkOf zs.length (l0 ++ l) fun b' => hset h id none fun h1 => hset h1 i (some b') fun h' => give (.v (.one (.sl i 0 (ln + n) none))) h' c
            | some k => if k < ln + n then blkOf zs.length (l0 ++ l) fun b' => hset h i (some b') fun h' => give (.v (.one (.sl i 0 (ln + n) none))) h' c
              else if (j + ln + n) * zs.length ≤ b.n then bput b ((j + ln) * zs.length) l fun b' => hset h id (some b') fun h' => give (.v (.one (.sl id j (ln + n) (some k)))) h' c else none
          | none => none
        else none
      | none => none
    | _ => none
  | none => none

theorem zApp_eq (zs : List CV) (bytes : Nat) (x y : Opd) (cl : CallF) (i c : Nat) (h : Heap) (ts : Ts) : zApp zs bytes x y i c h ts = (COp.app zs bytes x y).ev cl i c h ts := by
  simp only [COp.ev, zApp, Cq.doAppend, yCells_eq, ev1_eq, hget_eq, getN_eq, blkOf_eq, bput_eq, hset_eq, give]
  cases Cq.yCells h ts zs.length y with
  | none => rfl
  | some p =>
    obtain ⟨l, n⟩ := p
    cases Cq.ev1 ts x with
    | none => rfl
    | some a => cases a with
      | nils z => simp only; (repeat' first | rfl | split)
      | sl id j ln lim =>
        simp only
        cases h.get id with
        | none => rfl
        | some b =>
          simp only
          split
          · cases b.getN (j * zs.length) (ln * zs.length) with
            | none => rfl
            | some l0 => cases lim with
              | none => simp only; (repeat' first | rfl | split)
              | some k => simp only; (repeat' first | rfl | split)
          · rfl
      | _ => rfl

noncomputable def zCpy (sz : Nat) (x y : Opd) (_ c : Nat) (h : Heap) (ts : Ts) : R3 := match ev1 ts x, ev1 ts y with
  | some (.sl id i dln _), some (.sl id2 j sln _) => match hget h id, hget h id2 with
    | some b, some b2 => if b.sz = sz ∧ b2.sz = sz ∧ Nat.min sln dln ≠ 0 ∧ (i + Nat.min sln dln) * sz ≤ b.n then match getN b2 (Nat.min sln dln * sz) (j * sz) with
        | some l => bput b (i * sz) l fun b' => hset h id (some b') fun h' => give (.v (.one (.int .i64 (Nat.min sln dln)))) h' c
        | none => none
      else none
    | _, _ => none
  | _, _ => none

theorem zCpy_eq (sz : Nat) (x y : Opd) (cl : CallF) (i c : Nat) (h : Heap) (ts : Ts) : zCpy sz x y i c h ts = (COp.cpy sz x y).ev cl i c h ts := by
  simp only [COp.ev, zCpy, Cq.doCopy, ev1_eq, hget_eq, getN_eq, bput_eq, hset_eq, give]
  cases Cq.ev1 ts x with
  | none => rfl
  | some a => cases Cq.ev1 ts y with
    | none => cases a <;> rfl
    | some b => cases a <;> cases b <;> try rfl
                rename_i id i dln lim id2 j sln lim2
                simp only
                cases h.get id with
                | none => rfl
                | some b => cases h.get id2 with
                  | none => rfl
                  | some b2 =>
                    simp only
                    split
                    · cases b2.getN (j * sz) (Nat.min sln dln * sz) <;> rfl
                    · rfl

/-! ### Calls and the rest -/

noncomputable def evArgs (ts : Ts) (l : List Opd) : Option (List V1) := List.rec (motive := fun _ => Option (List V1)) (some []) (fun x _ ih => onOpt (evO ts x) (fun r => onOpt ih (fun rs => some (r :: rs)) none) none) l

theorem evArgs_eq : evArgs = Cq.evArgs := by
  funext ts l
  induction l with
  | nil => rfl
  | cons x l ih =>
    show onOpt (evO ts x) (fun r => onOpt (evArgs ts l) (fun rs => some (r :: rs)) none) none = _
    rw [ih, evO_eq]
    simp only [Cq.evArgs]
    cases Cq.evO ts x with
    | none => rfl
    | some r => show onOpt (Cq.evArgs ts l) _ _ = match Cq.evArgs ts l with | some rs => _ | none => _; cases Cq.evArgs ts l <;> rfl

noncomputable def zFl (x : FOp) (_ : CallF) (_ c : Nat) (h : Heap) (ts : Ts) : R3 := onOpt (fev x h ts) (fun r => give (.v r) h c) none
def zBuild (zs : List CV) (ps : List Part) (_ : CallF) (_ c : Nat) (h : Heap) (ts : Ts) : R3 := match Cq.fillC ts ps zs with
    | some cs => some (.v (.agg cs), h, c)
    | none => none
noncomputable def zCall (f : FuncId) (args : List Opd) (cl : CallF) (_ c : Nat) (h : Heap) (ts : Ts) : R3 := onOpt (evArgs ts args) (fun l => tick (cl f l h c)) none
noncomputable def zCallv (x : Opd) (args : List Opd) (cl : CallF) (_ c : Nat) (h : Heap) (ts : Ts) : R3 := match ev1 ts x, evArgs ts args with
    | some (.fn f caps), some l => cl f (l ++ caps.map fun p => .one (.ptr p.1 p.2)) h c
    | _, _ => none
noncomputable def zExt (t j : Nat) (_ : CallF) (_ c : Nat) (h : Heap) (ts : Ts) : R3 := match look ts t with
    | some (.tup l) => match l[j]? with
      | some r => some (.v r, h, c)
      | none => none
    | _ => none
noncomputable def zCp (t : Nat) (_ : CallF) (_ c : Nat) (h : Heap) (ts : Ts) : R3 := onOpt (look ts t) (fun r => give r h c) none

noncomputable def zev (f : COp) : CallF → Nat → Nat → Heap → Ts → R3 := match f with
  | .fl x => zFl x
  | .build zs ps => zBuild zs ps
  | .nw x => fun _ => zNew x
  | .store n x v => fun _ => zStore n x v
  | .app zs b x y => fun _ => zApp zs b x y
  | .call f args => zCall f args
  | .callv x args => zCallv x args
  | .ext t j => zExt t j
  | .mkf f caps => fun cl i c h ts => (COp.mkf f caps).ev cl i c h ts
  | .cp t => zCp t
  | .cpy sz x y => fun _ => zCpy sz x y
  | .bs x => fun cl i c h ts => (COp.bs x).ev cl i c h ts
  | .eqA neg ks x y => fun cl i c h ts => (COp.eqA neg ks x y).ev cl i c h ts
  | .mm mx x y => fun cl i c h ts => (COp.mm mx x y).ev cl i c h ts
  | .fld x off n => fun cl i c h ts => (COp.fld x off n).ev cl i c h ts
  | .mop x => fun cl i c h ts => (COp.mop x).ev cl i c h ts
  | .bad => fun _ _ _ _ _ => none

theorem zev_eq (f : COp) (cl : CallF) (i c : Nat) (h : Heap) (ts : Ts) : zev f cl i c h ts = f.ev cl i c h ts := by
  cases f with
  | fl x => simp only [zev, zFl, fev_eq, COp.ev]; cases x.ev h ts <;> rfl
  | build zs ps => rfl
  | nw x => exact zNew_eq x cl i c h ts
  | store n x v => exact zStore_eq n x v cl i c h ts
  | app zs b x y => exact zApp_eq zs b x y cl i c h ts
  | call f args => simp only [zev, zCall, evArgs_eq, COp.ev]; cases Cq.evArgs ts args <;> rfl
  | callv x args => simp only [zev, zCallv, ev1_eq, evArgs_eq, COp.ev] <;> rfl
  | ext t j => simp only [zev, zExt, look_eq, COp.ev] <;> rfl
  | cp t => simp only [zev, zCp, look_eq, COp.ev]; cases Cq.look ts t <;> rfl
  | cpy sz x y => exact zCpy_eq sz x y cl i c h ts
  | _ => rfl

/-! ### Sequences -/

noncomputable def want1 (ts : Ts) (t : Nat) (want : Bool) : Option Bool := match look ts t with
  | some (.v (.one (.bool b))) => some (b == want)
  | some (.tup []) => some false
  | _ => none

noncomputable def want (ts : Ts) (g : Option (Nat × Bool)) : Option Bool := Option.rec (motive := fun _ => Option Bool) (some true) (fun p => Prod.rec (motive := fun _ => Option Bool) (fun t w => want1 ts t w) p) g

theorem want_eq : want = Cq.wantedC := by
  funext ts g
  cases g with
  | none => rfl
  | some p =>
    obtain ⟨t, w⟩ := p
    show want1 ts t w = _
    simp only [want1, Cq.wantedC, look_eq] <;> rfl

noncomputable def zput {β : Type} (d : Option Nat) (r : CVal) (ts : Ts) (K : Ts → β) : β := Option.rec (motive := fun _ => β) (K ts) (fun d => K ((d, r) :: ts)) d

theorem zput_eq {β : Type} (d : Option Nat) (r : CVal) (ts : Ts) (K : Ts → β) : zput d r ts K = K (putD d r ts) := by cases d <;> rfl

/-- One operation, and then the next ones. -/
noncomputable def zstep {β : Type} (cl : CallF) (ci : CI) (ts : Ts) (h : Heap) (c : Nat) (K : Ts → Heap → Nat → β) (e : β) : β := CI.rec (motive := fun _ => β) (fun g d op => onOpt (want ts g) (fun w => fNat (Nat.add c 1) fun c1 => Bool.rec (motive := fun _ => β) (zput d (.tup []) ts fun ts' => K ts' h c1) (onOpt (zev op cl c c1 h ts) (fun p => Prod.rec (motive := fun _ => β) (fun r q => Prod.rec (motive := fun _ => β) (fun h' c' => zput d r ts fun ts' => K ts' h' c') q) p) e) w) e) ci

theorem zstep_eq {β : Type} (cl : CallF) (ci : CI) (ts : Ts) (h : Heap) (c : Nat) (K : Ts → Heap → Nat → β) (e : β) : zstep cl ci ts h c K e = match Cq.stepI cl c (c + 1) ci ts h with | some s => K s.ts s.h s.c | none => e := by
  obtain ⟨g, d, op⟩ := ci
  show onOpt (want ts g) (fun w => fNat (Nat.add c 1) fun c1 => Bool.rec (motive := fun _ => β) (zput d (.tup []) ts fun ts' => K ts' h c1) (onOpt (zev op cl c c1 h ts) (fun p => Prod.rec (motive := fun _ => β) (fun r q => Prod.rec (motive := fun _ => β) (fun h' c' => zput d r ts fun ts' => K ts' h' c') q) p) e) w) e = _
  simp only [want_eq, fNat_eq, zput_eq, zev_eq, Cq.stepI]
  cases Cq.wantedC ts g with
  | none => rfl
  | some w => cases w with
    | false => rfl
    | true =>
      show onOpt (op.ev cl c (c + 1) h ts) _ _ = _
      cases op.ev cl c (c + 1) h ts with
      | none => rfl
      | some p => obtain ⟨r, h', c'⟩ := p; rfl

noncomputable def zseq {β : Type} (cl : CallF) (l : List CI) : Ts → Heap → Nat → (Ts → Heap → Nat → β) → β → β := List.rec (motive := fun _ => Ts → Heap → Nat → (Ts → Heap → Nat → β) → β → β) (fun ts h c K _ => K ts h c) (fun ci _ ih ts h c K e => zstep cl ci ts h c (fun ts' h' c' => tick (ih ts' h' c' K e)) e) l

theorem zseq_eq {β : Type} (cl : CallF) (l : List CI) (ts : Ts) (h : Heap) (c : Nat) (K : Ts → Heap → Nat → β) (e : β) : zseq cl l ts h c K e = match Cq.seqI cl l ⟨ts, h, c⟩ with | some s => K s.ts s.h s.c | none => e := by
  induction l generalizing ts h c with
  | nil => rfl
  | cons ci l ih =>
    show zstep cl ci ts h c (fun ts' h' c' => tick (zseq cl l ts' h' c' K e)) e = _
    simp only [zstep_eq, tick, Cq.seqI]
    cases Cq.stepI cl c (c + 1) ci ts h with
    | none => rfl
    | some s => exact ih s.ts s.h s.c

/-! ### Draw regions -/

noncomputable def lookF (F : List (Nat × Blk)) (k : Nat) : Option Blk := List.rec (motive := fun _ => Option Blk) none (fun p _ ih => Prod.rec (motive := fun _ => Option Blk) (fun j x => Bool.rec (motive := fun _ => Option Blk) ih (some x) (Nat.beq j k)) p) F

theorem lookF_eq : lookF = Cq.lookF := by
  funext F k
  induction F with
  | nil => rfl
  | cons p l ih =>
    obtain ⟨j, x⟩ := p
    show Bool.rec (motive := fun _ => Option Blk) (lookF l k) (some x) (Nat.beq j k) = cond (Nat.beq j k) (some x) (Cq.lookF l k)
    rw [ih]; cases Nat.beq j k <;> rfl

noncomputable def fadd {β : Type} (base : Nat) (F : List (Nat × Blk)) (h : Heap) (fl : List Nat) : (Heap → β) → β := List.rec (motive := fun _ => (Heap → β) → β) (fun K => K h) (fun k _ ih K => onOpt (lookF F (Nat.add base k)) (fun b => ih fun h1 => hset h1 (Nat.add base k) (some b) K) (ih K)) fl

theorem fadd_eq {β : Type} (base : Nat) (F : List (Nat × Blk)) (h : Heap) (fl : List Nat) (K : Heap → β) : fadd base F h fl K = K (Cq.fadd base F fl h) := by
  induction fl generalizing K with
  | nil => rfl
  | cons k l ih =>
    show onOpt (lookF F (Nat.add base k)) (fun b => fadd base F h l fun h1 => hset h1 (Nat.add base k) (some b) K) (fadd base F h l K) = _
    simp only [ih, lookF_eq, hset_eq, Cq.fadd]
    show onOpt (Cq.lookF F (base + k)) _ _ = K (match Cq.lookF F (base + k) with | some b => _ | none => _)
    cases Cq.lookF F (base + k) <;> rfl

noncomputable def fall {β : Type} (h : Heap) (F : List (Nat × Blk)) : (Heap → β) → β := List.rec (motive := fun _ => (Heap → β) → β) (fun K => K h) (fun p _ ih K => Prod.rec (motive := fun _ => β) (fun k b => ih fun h1 => hset h1 k (some b) K) p) F

theorem fall_eq {β : Type} (h : Heap) (F : List (Nat × Blk)) (K : Heap → β) : fall h F K = K (Cq.fall F h) := by
  induction F generalizing K with
  | nil => rfl
  | cons p l ih =>
    obtain ⟨k, b⟩ := p
    show (fall h l fun h1 => hset h1 k (some b) K) = _
    rw [ih, hset_eq]; rfl

noncomputable def findK (l : List RI) (k : Nat) : Option RI := List.rec (motive := fun _ => Option RI) none (fun x _ ih => Bool.rec (motive := fun _ => Option RI) ih (some x) (Nat.beq x.k k)) l

theorem findK_eq : findK = Cq.findK := by
  funext l k
  induction l with
  | nil => rfl
  | cons x l ih =>
    show Bool.rec (motive := fun _ => Option RI) (findK l k) (some x) (Nat.beq x.k k) = cond (Nat.beq x.k k) (some x) (Cq.findK l k)
    rw [ih]; cases Nat.beq x.k k <;> rfl

noncomputable def dropF {β : Type} (base : Nat) (fl : List Nat) (F : List (Nat × Blk)) : (List (Nat × Blk) → β) → β := List.rec (motive := fun _ => (List (Nat × Blk) → β) → β) (fun K => K []) (fun p _ ih K => Bool.rec (motive := fun _ => β) (ih fun l => K (p :: l)) (ih K) (fl.any fun k => Nat.beq (base + k) p.1)) F

theorem dropF_eq {β : Type} (base : Nat) (fl : List Nat) (F : List (Nat × Blk)) (K : List (Nat × Blk) → β) : dropF base fl F K = K (Cq.dropF base fl F) := by
  induction F generalizing K with
  | nil => rfl
  | cons p l ih =>
    show Bool.rec (motive := fun _ => β) (dropF base fl l fun l => K (p :: l)) (dropF base fl l K) (fl.any fun k => Nat.beq (base + k) p.1) = K (cond (fl.any fun k => Nat.beq (base + k) p.1) (Cq.dropF base fl l) (p :: Cq.dropF base fl l))
    rw [ih, ih]
    cases fl.any fun k => Nat.beq (base + k) p.1 <;> rfl

section
variable {β : Type}

/-- Of each kind: an operation of a draw region. -/
noncomputable def dNew (_cl : CallF) (base k c : Nat) (_fl _FL : List Nat) (_anc : Nat) (d : Option Nat) (op : COp) (ts : Ts) (h : Heap) (F : List (Nat × Blk)) (K : DS → β) (e : β) : β := match op with
  | .nw y => newB y (base + k) ts (fun b r => zput d (.v (.one r)) ts fun ts' => K ⟨ts', h, (base + k, b) :: F, c⟩) e
  | _ => e
noncomputable def dEff (cl : CallF) (base k c : Nat) (fl FL : List Nat) (anc : Nat) (d : Option Nat) (op : COp) (ts : Ts) (h : Heap) (F : List (Nat × Blk)) (K : DS → β) (e : β) : β :=
  fadd base F h fl fun hh => onOpt (zev op cl (base + k) c hh ts) (fun p => Prod.rec (motive := fun _ => β) (fun r q => Prod.rec (motive := fun _ => β) (fun h' c' => Bool.rec (motive := fun _ => β) e (dropF base fl F fun F' => zput d r ts fun ts' => K ⟨ts', h', F', c'⟩) (FL.all fun k => Nat.testBit anc k || (hget h' (base + k)).isNone)) q) p) e
noncomputable def dRd (cl : CallF) (base k c : Nat) (fl _FL : List Nat) (_anc : Nat) (d : Option Nat) (op : COp) (ts : Ts) (h : Heap) (F : List (Nat × Blk)) (K : DS → β) (e : β) : β :=
  fadd base F h fl fun hh => onOpt (zev op cl (base + k) c hh ts) (fun p => Prod.rec (motive := fun _ => β) (fun r _ => zput d r ts fun ts' => K ⟨ts', h, F, c⟩) p) e
noncomputable def dPure (cl : CallF) (base k c : Nat) (_fl _FL : List Nat) (_anc : Nat) (d : Option Nat) (op : COp) (ts : Ts) (h : Heap) (F : List (Nat × Blk)) (K : DS → β) (e : β) : β :=
  onOpt (zev op cl (base + k) c h ts) (fun p => Prod.rec (motive := fun _ => β) (fun r _ => zput d r ts fun ts' => K ⟨ts', h, F, c⟩) p) e

noncomputable def dKind (kd : Cq.Kd) : CallF → Nat → Nat → Nat → List Nat → List Nat → Nat → Option Nat → COp → Ts → Heap → List (Nat × Blk) → (DS → β) → β → β := match kd with
  | .new => dNew
  | .eff => dEff
  | .rd => dRd
  | .pure => dPure

noncomputable def zstepD (cl : CallF) (base : Nat) (FL : List Nat) (x : RI) (s : DS) (K : DS → β) (e : β) : β := RI.rec (motive := fun _ => β) (fun k ci anc fl _ => CI.rec (motive := fun _ => β) (fun g d op => DS.rec (motive := fun _ => β) (fun ts h F c => onOpt (want ts g) (fun w => Bool.rec (motive := fun _ => β) (zput d (.tup []) ts fun ts' => K ⟨ts', h, F, c⟩) (dKind op.kind cl base k c fl FL anc d op ts h F K e) w) e) s) ci) x

theorem zstepD_eq (cl : CallF) (base : Nat) (FL : List Nat) (x : RI) (s : DS) (K : DS → β) (e : β) : zstepD cl base FL x s K e = match Cq.stepD cl base FL x s with | some s' => K s' | none => e := by
  obtain ⟨k, ⟨g, d, op⟩, anc, fl, rs⟩ := x
  obtain ⟨ts, h, F, c⟩ := s
  show onOpt (want ts g) (fun w => Bool.rec (motive := fun _ => β) (zput d (.tup []) ts fun ts' => K ⟨ts', h, F, c⟩) (dKind op.kind cl base k c fl FL anc d op ts h F K e) w) e = _
  simp only [want_eq, zput_eq, Cq.stepD]
  cases Cq.wantedC ts g with
  | none => rfl
  | some w => cases w with
    | false => rfl
    | true =>
      show dKind op.kind cl base k c fl FL anc d op ts h F K e = _
      cases hk : op.kind with
      | new =>
        simp only [dKind, dNew, newB_eq, zput_eq]
        cases op <;> try rfl
        rename_i y
        simp only
        cases y.ev ts (base + k) <;> rfl
      | eff =>
        simp only [dKind, dEff, fadd_eq, dropF_eq, zput_eq, zev_eq, hget_eq]
        cases op.ev cl (base + k) c (Cq.fadd base F fl h) ts with
        | none => rfl
        | some p =>
          obtain ⟨r, h', c'⟩ := p
          show Bool.rec (motive := fun _ => β) e (K ⟨putD d r ts, h', Cq.dropF base fl F, c'⟩) (FL.all fun k => Nat.testBit anc k || (h'.get (base + k)).isNone) = _
          simp only
          cases FL.all fun k => Nat.testBit anc k || (h'.get (base + k)).isNone <;> rfl
      | rd =>
        simp only [dKind, dRd, fadd_eq, zput_eq, zev_eq]
        cases op.ev cl (base + k) c (Cq.fadd base F fl h) ts with
        | none => rfl
        | some p => obtain ⟨r, h', c'⟩ := p; rfl
      | pure =>
        simp only [dKind, dPure, zput_eq, zev_eq]
        cases h1 : op.ev cl (base + k) c h ts with
        | none =>
          have : op.ev cl (base + k) c (Cq.fadd base F fl h) ts = none := by
            cases h2 : op.ev cl (base + k) c (Cq.fadd base F fl h) ts with
            | none => rfl
            | some p =>
              obtain ⟨r, h', c'⟩ := p
              have := (COp.ev_pure hk h2).2.2 (base + k) c h
              rw [h1] at this
              simp at this
          rw [this]; rfl
        | some p =>
          obtain ⟨r, h', c'⟩ := p
          have := (COp.ev_pure hk h1).2.2 (base + k) c (Cq.fadd base F fl h)
          rw [this]; rfl

noncomputable def reOk (cl : CallF) (base : Nat) (s : DS) (x : RI) : Bool := match want s.ts x.ci.g with
  | some false => true
  | some true => fadd base s.F s.h x.fl fun hh => match zev x.ci.op cl (base + x.k) s.c hh s.ts with
    | some (r, _, _) => match x.ci.d with
      | some d => (match look s.ts d with | some r' => decide (r = r') | none => false)
      | none => true
    | none => false
  | none => false

theorem reOk_eq : reOk = Cq.reOk := by
  funext cl base s x
  simp only [reOk, Cq.reOk, want_eq, fadd_eq, zev_eq, look_eq] <;> rfl

noncomputable def reAll (cl : CallF) (base : Nat) (tab : List RI) (s : DS) (l : List Nat) : Bool := List.rec (motive := fun _ => Bool) true (fun j _ ih => onOpt (findK tab j) (fun y => Bool.rec (motive := fun _ => Bool) false ih (reOk cl base s y)) false) l

theorem reAll_eq : reAll = Cq.reAll := by
  funext cl base tab s l
  induction l with
  | nil => rfl
  | cons j l ih =>
    show onOpt (findK tab j) (fun y => Bool.rec (motive := fun _ => Bool) false (reAll cl base tab s l) (reOk cl base s y)) false = _
    rw [ih, findK_eq, reOk_eq]
    simp only [Cq.reAll]
    cases Cq.findK tab j with
    | none => rfl
    | some y => show Bool.rec (motive := fun _ => Bool) false (Cq.reAll cl base tab s l) (Cq.reOk cl base s y) = (Cq.reOk cl base s y && Cq.reAll cl base tab s l); cases Cq.reOk cl base s y <;> rfl

noncomputable def zdraw (cl : CallF) (base : Nat) (FL : List Nat) (tab : List RI) (l : List RI) : DS → (DS → β) → β → β := List.rec (motive := fun _ => DS → (DS → β) → β → β) (fun s K _ => K s) (fun x _ ih s K e => zstepD cl base FL x s (fun s' => Bool.rec (motive := fun _ => β) e (tick (ih s' K e)) (reAll cl base tab s' x.rs)) e) l

theorem zdraw_eq (cl : CallF) (base : Nat) (FL : List Nat) (tab : List RI) (l : List RI) (s : DS) (K : DS → β) (e : β) : zdraw cl base FL tab l s K e = match Cq.drawI cl base FL tab l s with | some s' => K s' | none => e := by
  induction l generalizing s with
  | nil => rfl
  | cons x l ih =>
    show zstepD cl base FL x s (fun s' => Bool.rec (motive := fun _ => β) e (tick (zdraw cl base FL tab l s' K e)) (reAll cl base tab s' x.rs)) e = _
    simp only [zstepD_eq, tick, reAll_eq, Cq.drawI, ih]
    cases Cq.stepD cl base FL x s with
    | none => rfl
    | some s' =>
      simp only
      cases Cq.reAll cl base tab s' x.rs <;> rfl

end

/-! ### Codes -/

noncomputable def zprune {β : Type} (ts : Ts) (keep : List Nat) : (Ts → β) → β := List.rec (motive := fun _ => (Ts → β) → β) (fun K => K []) (fun k _ ih K => ih fun l => onOpt (look ts k) (fun x => K ((k, x) :: l)) (K l)) keep

theorem zprune_eq {β : Type} (ts : Ts) (keep : List Nat) (K : Ts → β) : zprune ts keep K = K (Cq.prune keep ts) := by
  induction keep generalizing K with
  | nil => rfl
  | cons k l ih =>
    show (zprune ts l fun l => onOpt (look ts k) (fun x => K ((k, x) :: l)) (K l)) = _
    simp only [ih, look_eq, Cq.prune, List.filterMap_cons]
    cases Cq.look ts k <;> rfl

noncomputable def zkeep {β : Type} (k : Option (List Nat)) (ts : Ts) (K : Ts → β) : β := Option.rec (motive := fun _ => β) (K ts) (fun k => zprune ts k K) k

theorem zkeep_eq {β : Type} (k : Option (List Nat)) (s : St) (K : Ts → β) : zkeep k s.ts K = K (s.keep k).ts := by
  cases k with
  | none => rfl
  | some k => exact zprune_eq s.ts k K

/-- What a code gives. -/
abbrev RX := Option (X × St)
def out (x : X) (ts : Ts) (h : Heap) (c : Nat) : RX := some (x, ⟨ts, h, c⟩)
noncomputable def onRX (r : RX) (N : Ts → Heap → Nat → RX) (E : Nat → St → RX) : RX := Option.rec (motive := fun _ => RX) none (fun p => Prod.rec (motive := fun _ => RX) (fun x s => X.rec (motive := fun _ => RX) (St.rec (motive := fun _ => RX) (fun ts h c => N ts h c) s) (fun id => E id s) (some (.ret, s)) x) p) r

noncomputable def cReg (cl : CallF) (l : List CI) (k : Option (List Nat)) (ts : Ts) (h : Heap) (c : Nat) : RX := zseq cl l ts h c (fun ts' h' c' => zkeep k ts' fun ts'' => out .nrm ts'' h' c') none
noncomputable def cDraw (cl : CallF) (n : Nat) (FL : List Nat) (l : List RI) (k : Option (List Nat)) (ts : Ts) (h : Heap) (c : Nat) : RX := fNat (Nat.add c n) fun c1 => zdraw cl c FL l l ⟨ts, h, [], c1⟩ (fun s => DS.rec (motive := fun _ => RX) (fun ts' h' F c' => fall h' F fun h'' => zkeep k ts' fun ts'' => out .nrm ts'' h'' c') s) none
noncomputable def cSeq (ih : CC → Ts → Heap → Nat → RX) (a b : CC) (ts : Ts) (h : Heap) (c : Nat) : RX := onRX (ih a ts h c) (fun ts' h' c' => tick (ih b ts' h' c')) (fun id s => some (.ex id, s))
noncomputable def cCond (ih : CC → Ts → Heap → Nat → RX) (x : Opd) (a b : CC) (ts : Ts) (h : Heap) (c : Nat) : RX := onOpt (ev1 ts x) (fun v => onBool v (fun t => Bool.rec (motive := fun _ => RX) (tick (ih b ts h c)) (tick (ih a ts h c)) t) none) none
noncomputable def cBlk (ih : CC → Ts → Heap → Nat → RX) (id : Nat) (a : CC) (ts : Ts) (h : Heap) (c : Nat) : RX := onRX (ih a ts h c) (out .nrm) (fun j s => Bool.rec (motive := fun _ => RX) (some (.ex j, s)) (some (.nrm, s)) (Nat.beq j id))
noncomputable def cLoop (ih : CC → Ts → Heap → Nat → RX) (a : CC) (ts : Ts) (h : Heap) (c : Nat) : RX := onRX (ih a ts h c) (fun ts' h' c' => tick (ih (.loop a) ts' h' c')) (fun id s => some (.ex id, s))

noncomputable def cc (cl : CallF) (ih : CC → Ts → Heap → Nat → RX) (x : CC) : Ts → Heap → Nat → RX := match x with
  | .skip => out .nrm
  | .reg l k => cReg cl l k
  | .draw n FL l k => cDraw cl n FL l k
  | .seq a b => cSeq ih a b
  | .cond x a b => cCond ih x a b
  | .blk id a => cBlk ih id a
  | .loop a => cLoop ih a
  | .exit id => out (.ex id)
  | .ret => out .ret

noncomputable def ex (cl : CallF) (f : Nat) : CC → Ts → Heap → Nat → RX := Nat.rec (motive := fun _ => CC → Ts → Heap → Nat → RX) (fun _ _ _ _ => none) (fun _ ih x => cc cl ih x) f

theorem ex_eq (cl : CallF) : ∀ (f : Nat) (x : CC) (ts : Ts) (h : Heap) (c : Nat), ex cl f x ts h c = Cq.ex cl f x ⟨ts, h, c⟩ := by
  intro f
  induction f with
  | zero => intro x ts h c; rfl
  | succ f ih =>
    intro x ts h c
    show cc cl (ex cl f) x ts h c = _
    cases x with
    | skip => rfl
    | exit id => rfl
    | ret => rfl
    | reg l k =>
      simp only [cc, cReg, zseq_eq, Cq.ex]
      cases Cq.seqI cl l ⟨ts, h, c⟩ with
      | none => rfl
      | some s => simp only [zkeep_eq, out]; cases k <;> rfl
    | draw n FL l k =>
      simp only [cc, cDraw, fNat_eq, zdraw_eq, Cq.ex]
      show (match Cq.drawI cl c FL l l ⟨ts, h, [], c + n⟩ with | some s' => _ | none => _) = _
      cases Cq.drawI cl c FL l l ⟨ts, h, [], c + n⟩ with
      | none => rfl
      | some s =>
        obtain ⟨ts', h', F, c'⟩ := s
        show (fall h' F fun h'' => zkeep k ts' fun ts'' => out .nrm ts'' h'' c') = _
        rw [fall_eq]
        have := zkeep_eq k ⟨ts', Cq.fall F h', c'⟩ (fun ts'' => out .nrm ts'' (Cq.fall F h') c')
        rw [this]
        cases k <;> rfl
    | seq a b =>
      simp only [cc, cSeq, ih, tick, Cq.ex]
      cases Cq.ex cl f a ⟨ts, h, c⟩ with
      | none => rfl
      | some p => obtain ⟨x, ts', h', c'⟩ := p; cases x <;> rfl
    | cond x a b =>
      simp only [cc, cCond, ih, tick, ev1_eq, Cq.ex]
      cases Cq.ev1 ts x with
      | none => rfl
      | some v => cases v <;> try rfl
                  rename_i t; cases t <;> rfl
    | blk id a =>
      simp only [cc, cBlk, ih, Cq.ex]
      cases Cq.ex cl f a ⟨ts, h, c⟩ with
      | none => rfl
      | some p =>
        obtain ⟨x, ts', h', c'⟩ := p
        cases x with
        | nrm => rfl
        | ret => rfl
        | ex j =>
          show Bool.rec (motive := fun _ => RX) (some (.ex j, _)) (some (.nrm, _)) (Nat.beq j id) = if j = id then _ else _
          rw [beq_dec]
          by_cases e : j = id <;> simp [e]
    | loop a =>
      simp only [cc, cLoop, ih, tick, Cq.ex]
      cases Cq.ex cl f a ⟨ts, h, c⟩ with
      | none => rfl
      | some p => obtain ⟨x, ts', h', c'⟩ := p; cases x <;> rfl

/-! ### Codes that step through maps -/

abbrev RL := Option (List (X × St))

noncomputable def bindAll (g : X × St → RL) (l : List (X × St)) : RL := List.rec (motive := fun _ => RL) (some []) (fun p _ ih => onOpt (g p) (fun a => onOpt ih (fun b => some (a ++ b)) none) none) l

theorem bindAll_eq : bindAll = Cq.bindAll := by
  funext g l
  induction l with
  | nil => rfl
  | cons p l ih =>
    show onOpt (g p) (fun a => onOpt (bindAll g l) (fun b => some (a ++ b)) none) none = _
    rw [ih]
    simp only [Cq.bindAll]
    cases g p with
    | none => rfl
    | some a => show onOpt (Cq.bindAll g l) _ _ = _; cases Cq.bindAll g l <;> rfl

noncomputable def mBase (cl : CallF) (f : Nat) (x : CC) (s : St) : RL := St.rec (motive := fun _ => RL) (fun ts h c => onOpt (ex cl f x ts h c) (fun p => some [p]) none) s
noncomputable def mNxt (cl : CallF) (d t : Nat) (l : List CI) (k : Option (List Nat)) (s : St) : RL := match Cq.doNext (.t t) s.h s.ts with
  | some outs => bindAll (fun p => zseq cl l p.2.ts p.2.h p.2.c (fun ts h c => zkeep k ts fun ts' => some [(.nrm, ⟨ts', h, c⟩)]) none) (outs.map fun q => (.nrm, ⟨(d, q.1) :: s.ts, q.2, s.c + 1⟩))
  | none => none
noncomputable def mSeq (ih : MC → St → RL) (a b : MC) (s : St) : RL := onOpt (ih a s) (fun l => bindAll (fun p => match p.1 with | .nrm => tick (ih b p.2) | _ => some [p]) l) none
noncomputable def mCond (ih : MC → St → RL) (x : Opd) (a b : MC) (s : St) : RL := onOpt (ev1 s.ts x) (fun v => onBool v (fun t => Bool.rec (motive := fun _ => RL) (tick (ih b s)) (tick (ih a s)) t) none) none
noncomputable def mBlk (ih : MC → St → RL) (id : Nat) (a : MC) (s : St) : RL := onOpt (ih a s) (fun l => some (l.map fun p => match p.1 with | .ex j => if j = id then (.nrm, p.2) else p | _ => p)) none
noncomputable def mLoop (ih : MC → St → RL) (a : MC) (s : St) : RL := onOpt (ih a s) (fun l => bindAll (fun p => match p.1 with | .nrm => tick (ih (.loop a) p.2) | _ => some [p]) l) none

noncomputable def mc (cl : CallF) (f : Nat) (ih : MC → St → RL) (x : MC) : St → RL := match x with
  | .base c => mBase cl f c
  | .nxt d t l k => mNxt cl d t l k
  | .seq a b => mSeq ih a b
  | .cond x a b => mCond ih x a b
  | .blk id a => mBlk ih id a
  | .loop a => mLoop ih a

noncomputable def exN (cl : CallF) (f : Nat) : MC → St → RL := Nat.rec (motive := fun _ => MC → St → RL) (fun _ _ => none) (fun f ih x => mc cl f ih x) f

theorem exN_eq (cl : CallF) : ∀ (f : Nat) (x : MC) (s : St), exN cl f x s = Cq.exN cl f x s := by
  intro f
  induction f with
  | zero => intro x s; rfl
  | succ f ih =>
    intro x s
    show mc cl f (exN cl f) x s = _
    cases x with
    | base b =>
      obtain ⟨ts, h, c⟩ := s
      show onOpt (ex cl f b ts h c) (fun p => some [p]) none = _
      rw [ex_eq]
      simp only [Cq.exN]
      cases Cq.ex cl f b ⟨ts, h, c⟩ <;> rfl
    | nxt d t l k =>
      simp only [mc, mNxt, Cq.exN, bindAll_eq, zseq_eq]
      cases Cq.doNext (.t t) s.h s.ts with
      | none => rfl
      | some outs =>
        simp only
        congr 1
        funext p
        obtain ⟨x, ts', h', c'⟩ := p
        simp only
        cases Cq.seqI cl l ⟨ts', h', c'⟩ with
        | none => rfl
        | some s' => simp only [zkeep_eq]; cases k <;> rfl
    | seq a b =>
      simp only [mc, mSeq, Cq.exN, bindAll_eq, ih, tick]
      cases Cq.exN cl f a s <;> rfl
    | cond x a b =>
      simp only [mc, mCond, ih, tick, ev1_eq, Cq.exN]
      cases Cq.ev1 s.ts x with
      | none => rfl
      | some v => cases v <;> try rfl
                  rename_i t; cases t <;> rfl
    | blk id a =>
      simp only [mc, mBlk, Cq.exN, ih]
      cases Cq.exN cl f a s <;> rfl
    | loop a =>
      simp only [mc, mLoop, Cq.exN, bindAll_eq, ih, tick]
      cases Cq.exN cl f a s <;> rfl

/-! ### Functions -/

noncomputable def resV (h : Heap) (ts : Ts) (l : List RR) : Option (List V1) := List.rec (motive := fun _ => Option (List V1)) (some []) (fun r _ ih => RR.rec (motive := fun _ => Option (List V1)) (fun t => match look ts t with
    | some (.v x) => onOpt ih (fun l => some (x :: l)) none
    | _ => none) (fun t n => onOpt (fev (.load n (.t t)) h ts) (fun x => onOpt ih (fun l => some (x :: l)) none) none) r) l

theorem resV_eq : resV = Cq.resV := by
  funext h ts l
  induction l with
  | nil => rfl
  | cons r l ih => cases r with
    | t t =>
      show (match look ts t with | some (.v x) => onOpt (resV h ts l) (fun l => some (x :: l)) none | _ => none) = _
      rw [ih, look_eq]
      simp only [Cq.resV]
      cases Cq.look ts t with
      | none => rfl
      | some v => cases v <;> try rfl
                  simp only
                  cases Cq.resV h ts l <;> rfl
    | c t n =>
      show onOpt (fev (.load n (.t t)) h ts) (fun x => onOpt (resV h ts l) (fun l => some (x :: l)) none) none = _
      rw [ih, fev_eq]
      simp only [Cq.resV]
      cases FOp.ev h ts (.load n (.t t)) with
      | none => rfl
      | some x => show onOpt (Cq.resV h ts l) _ _ = _; cases Cq.resV h ts l <;> rfl

noncomputable def done (fnres : List RR) (c : Nat) (ts : Ts) (h : Heap) (c' : Nat) : R3 := onOpt (resV h ts fnres) (fun l => Bool.rec (motive := fun _ => R3) none (some (pack l, h, c')) (Nat.ble c c')) none

noncomputable def runC (cl : CallF) (f : Nat) (fn : CFn) (args : List V1) (h : Heap) (c : Nat) : R3 := CFn.rec (motive := fun _ => R3) (fun nt code res => Bool.rec (motive := fun _ => R3) none (onOpt (ex cl f code (init args 0) h c) (fun p => Prod.rec (motive := fun _ => R3) (fun x s => St.rec (motive := fun _ => R3) (fun ts' h' c' => X.rec (motive := fun _ => R3) (done res c ts' h' c') (fun _ => none) (done res c ts' h' c') x) s) p) none) (Nat.ble (List.length args) nt)) fn

theorem runC_eq : runC = Cq.runC := by
  funext cl f fn args h c
  obtain ⟨nt, code, res⟩ := fn
  show Bool.rec (motive := fun _ => R3) none (onOpt (ex cl f code (init args 0) h c) (fun p => Prod.rec (motive := fun _ => R3) (fun x s => St.rec (motive := fun _ => R3) (fun ts' h' c' => X.rec (motive := fun _ => R3) (done res c ts' h' c') (fun _ => none) (done res c ts' h' c') x) s) p) none) (Nat.ble (List.length args) nt) = _
  have dn : ∀ ts' h' c', done res c ts' h' c' = match Cq.resV h' ts' res with | some l => if c ≤ c' then some (pack l, h', c') else none | none => none := by
    intro ts' h' c'
    simp only [done, resV_eq, ble_dec]
    cases Cq.resV h' ts' res with
    | none => rfl
    | some l =>
      show Bool.rec (motive := fun _ => R3) none (some (pack l, h', c')) (decide (c ≤ c')) = _
      by_cases hc : c ≤ c' <;> simp [hc]
  simp only [ex_eq, ble_dec, dn, Cq.runC]
  by_cases hl : args.length ≤ nt
  · rw [if_pos hl, decide_eq_true hl]
    show onOpt (Cq.ex cl f code ⟨init args 0, h, c⟩) _ _ = _
    cases Cq.ex cl f code ⟨init args 0, h, c⟩ with
    | none => rfl
    | some p => obtain ⟨x, ts', h', c'⟩ := p; cases x <;> rfl
  · rw [if_neg hl, decide_eq_false hl]

noncomputable def runM (cl : CallF) (f : Nat) (fn : MFn) : List V1 → Heap → Nat → R3 := fun args h c =>
  if args.length ≤ fn.nt then match exN cl f fn.code ⟨init args 0, h, c⟩ with
    | some (p :: l) => match resV p.2.h p.2.ts fn.res with
      | some vs => match Cq.allOne fn.res h c vs (p :: l) c with
        | some m => some (pack vs, h, m)
        | none => none
      | none => none
    | _ => none
  else none

theorem runM_eq : runM = Cq.runM := by
  funext cl f fn args h c
  simp only [runM, Cq.runM, exN_eq, resV_eq] <;> rfl

noncomputable def runG (FT : Nat → Option GFn) (f : Nat) : CallF := Nat.rec (motive := fun _ => CallF) (fun _ _ _ _ => none) (fun f ih g args h c => onOpt (FT g) (fun q => GFn.rec (motive := fun _ => R3) (fun fn => runC ih f fn args h c) (fun fn => runM ih f fn args h c) q) none) f

theorem runG_eq (FT : Nat → Option GFn) (f : Nat) : runG FT f = Cq.runG FT f := by
  induction f with
  | zero => rfl
  | succ f ih =>
    funext g args h c
    show onOpt (FT g) (fun q => GFn.rec (motive := fun _ => R3) (fun fn => runC (runG FT f) f fn args h c) (fun fn => runM (runG FT f) f fn args h c) q) none = _
    simp only [ih, runC_eq, runM_eq, Cq.runG]
    cases FT g with
    | none => rfl
    | some q => cases q <;> rfl

end Go.Cq.Z
/- From a run of the evaluator to a call of the machine: what was there stays. -/
namespace Go.Cq
open Go.ChangeShapes Go.WideShapes Go.ChangeAt Go.RowKit

/-- Nothing that was there has changed. -/
structure Old (w w' : World) : Prop where
  os : w'.os = w.os
  output : w'.output = w.output
  size : w.heap.size ≤ w'.heap.size
  old : ∀ i : Nat, i < w.heap.size → w'.heap[i]? = w.heap[i]?

theorem Old.kept {w w' : World} (h : Old w w') (may : MemPlace → Prop) : w.keptBut w' may := by
  refine ⟨h.os, h.output, fun i hi => ?_⟩
  rw [h.old i hi]
  cases w.heap[i]? with
  | none => rfl
  | some o => cases o with
    | cells c t fr => exact ⟨rfl, rfl, rfl, fun _ _ => rfl⟩
    | map es clock => exact .inr ⟨rfl, rfl⟩
    | _ => rfl

theorem Old.frozen {w w' : World} (h : Old w w') {a : Addr} (ha : a.block < w.heap.size) : w'.frozen? a = w.frozen? a := by
  unfold World.frozen?
  rw [h.old _ ha]

section
variable {H : Type} {enc : TypeId × Value → H} {P : Program}

theorem post_of_old {f : Func} {s : ChangeSpec} {apart fresh handsOn again : Bool} {W W' : World} {args : Array Value} {v : Value} {ds gs : List (DataW H)} {before pa pv : List MemPlace}
    (hW : DataW.Whole enc P f.params.toList s.vars apart W args.toList ds gs before)
    (hres : ∀ (b : Nat) (sp : Nat → Bool) (hd : Bool), DataW.TrodAll enc P W' b sp hd f.resultTypes.toList (v.resultList f.resultTypes.size) (s.fn H (ds ++ gs)).results [])
    (hargs : ∀ sp : Nat → Bool, (∀ p ∈ before, sp p.block = true) → DataW.TrodAll enc P W' 0 sp true f.params.toList args.toList (s.fn H (ds ++ gs)).args pa)
    (hvars : ∀ sp : Nat → Bool, (∀ p ∈ before, sp p.block = true) → DataW.TrodVars enc P W' sp s.vars (s.fn H (ds ++ gs)).vars pv)
    (hps : before = pa ++ pv) (ho : Old W W')
    (hok : ∀ (j : Nat) (t : TypeId) (r : Value), f.resultTypes[j]? = some t → (v.resultList f.resultTypes.size)[j]? = some r → Value.okWide P W' .any 0 t r) :
    s.post enc P f apart fresh handsOn again W args v W' := by
  have hold : ∀ p ∈ before, (fun b => decide (b < W.heap.size)) p.block = true := fun p hp => by simpa using hW.lt p hp
  have hlt : ∀ p ∈ before, p.block < W.heap.size := fun p hp => hW.lt p hp
  refine ⟨ds, gs, before, [], pa, pv, hW, hres _ _ _, hargs _ hold, hvars _ hold, World.keptBut_mono (fun p hp => ⟨hp, ?_⟩) (ho.kept (· ∈ before)), fun _ => ?_⟩
  · rw [hps, List.mem_append] at hp
    exact Or.inr hp
  · obtain ⟨_, _, _, _, _, hz, hn⟩ := hW
    refine ⟨hok, _, _, ([] ++ pa) ++ pv, ⟨[] ++ pa, pv, trodAll_append (hargs _ (fun _ _ => rfl)) (hres _ _ _), hvars _ (fun _ _ => rfl), rfl, ?_, ?_⟩, ?_⟩
    · intro b off hp
      have hm : MemPlace.cell b off ∈ before := by rw [hps]; simpa using hp
      rw [ho.frozen (hlt _ hm)]
      exact hz b off hm
    · intro ha
      have := hn ha
      rw [hps] at this
      simpa using this
    · intro p hp _
      rw [hps]
      simpa using hp
end

/-! ### A table of functions -/

def AllOk (P : Program) : List (Nat × GFn) → Prop
  | [] => True
  | p :: l => (∃ F, P.funcs[p.1]? = some F ∧ okG P F p.2 = true) ∧ AllOk P l

theorem AllOk.append {P : Program} : ∀ {l m : List (Nat × GFn)}, AllOk P l → AllOk P m → AllOk P (l ++ m)
  | [], _, _, h => h
  | _ :: _, _, h1, h2 => ⟨h1.1, h1.2.append h2⟩

theorem AllOk.mem {P : Program} : ∀ {l : List (Nat × GFn)}, AllOk P l → ∀ p, p ∈ l → ∃ F, P.funcs[p.1]? = some F ∧ okG P F p.2 = true
  | [], _, p, hp => by simp at hp
  | q :: l, h, p, hp => by
    rcases List.mem_cons.1 hp with rfl | hp
    · exact h.1
    · exact h.2.mem p hp

def tabOf (t : Tr GFn) : List (Nat × GFn) → Tr GFn
  | [] => t
  | p :: l => tabOf (t.set p.1 (some p.2)) l

theorem tabOf_mem {l : List (Nat × GFn)} : ∀ {t : Tr GFn} {k : Nat} {fn : GFn}, (tabOf t l).get k = some fn → (k, fn) ∈ l ∨ t.get k = some fn := by
  induction l with
  | nil => intro t k fn h; exact .inr h
  | cons p l ih =>
    intro t k fn h
    have h : (tabOf (t.set p.1 (some p.2)) l).get k = some fn := h
    rcases ih h with h | h
    · exact .inl (List.mem_cons_of_mem _ h)
    · rw [Tr.get_set] at h
      split at h
      · rename_i e
        simp only [Option.some.injEq] at h
        subst h; subst e
        exact .inl List.mem_cons_self
      · exact .inr h

theorem gtOk_of {P : Program} {T : Tr GFn} {l : List (Nat × GFn)} (hT : tabOf .lf l = T) (hl : AllOk P l) : GTOk P (Z.get T) := by
  intro g fn h
  rw [Z.get_eq, ← hT] at h
  rcases tabOf_mem h with h | h
  · exact hl.mem (g, fn) h
  · simp [Tr.get] at h

/-- The evaluator answered 'true'. -/
def yes (r : Option (CVal × Heap × Nat)) : Bool := match r with
  | some (.v (.one (.bool b)), _, _) => b
  | _ => false

theorem yes_some {r : Option (CVal × Heap × Nat)} (h : yes r = true) : ∃ h' c', r = some (.v (.one (.bool true)), h', c') := by
  unfold yes at h
  split at h
  · subst h; exact ⟨_, _, rfl⟩
  · simp at h

def noHeap : Heap := ⟨.lf, .lf⟩

theorem sim_none (w : World) (A : Nat → Nd) (U : Nat → Prop) : Sim A noHeap U (Liv A noHeap) w w where
  os := rfl
  tape := rfl
  output := rfl
  size := Nat.le_refl _
  old _ _ _ := rfl
  live id b hb := by simp [noHeap, Heap.get, Tr.get] at hb
  inj id id' b b' hb := by simp [noHeap, Heap.get, Tr.get] at hb
  maps id x hx := by simp [noHeap, Heap.getM, Tr.get] at hx
  minj id id' x x' hx := by simp [noHeap, Heap.getM, Tr.get] at hx

theorem old_of_sim {A A' : Nat → Nd} {h' : Heap} {U U' : Nat → Prop} {w w' : World} {new : Nat → Prop} (hp : Post new A noHeap U w A' h' U' w') : Old w w' :=
  ⟨hp.sim.os, hp.sim.output, hp.sim.size, fun i hi => hp.sim.old i hi (by
    rintro (⟨id, b, hb, -⟩ | ⟨id, x, hx, -⟩)
    · simp [noHeap, Heap.get, Tr.get] at hb
    · simp [noHeap, Heap.getM, Tr.get] at hx)⟩

/-- A call without arguments that the evaluator answers with 'true'. -/
theorem calls_yes {P : Program} (hm : P.follows .mixedOrders = true) {FT : Nat → Option GFn} (hft : GTOk P FT) {f g : Nat} (hy : yes (Z.runG FT f g [] noHeap 0) = true) (w : World) : Calls P g #[] w fun e w' => e = .returned (.bool true) ∧ Old w w' := by
  obtain ⟨h', c', hr⟩ := yes_some hy
  rw [Z.runG_eq] at hr
  have := (runG_ok hm hft f _ _ _ _ _ _ _ hr).2.2 (fun _ => ⟨0, 0, 0, 0⟩) (fun _ => False) w #[] (sim_none w _ _) (fun _ _ h => h) rfl (by simp)
  refine this.mono ?_
  rintro e w' ⟨v, A', U', rfl, hp, hv⟩
  exact ⟨by rw [show v = .bool true from hv], old_of_sim hp⟩

end Go.Cq
/- Laws whose arguments are rows of bytes. -/
namespace Go.Cq
open Go.ChangeShapes Go.WideShapes Go.ChangeAt Go.RowKit

section
variable {H : Type} {enc : TypeId × Value → H} {P : Program}

/-- A row of bytes that came in: what it is, and that it reads behind as before. -/
theorem bytes_arg {t e : TypeId} (ht : P.underlying t = some (.slice e)) (he : P.underlying e = some (.int .u8)) (hc : P.cellsOf e = 1) {W : World} {v : Value} {d : DataW H} {p : List MemPlace} {base : Nat}
    (hval : Value.okWide P W .any base t v) (h0 : DataW.Trod enc P W 0 (fun _ => true) true t v d p) :
    (∀ W' : World, Old W W' → ∀ sp : Nat → Bool, (∀ q ∈ p, sp q.block = true) → DataW.Trod enc P W' 0 sp true t v d p) ∧
      (v = .slice none 0 0 ∨ ∃ b off len cap, v = .slice (some ⟨b, off, none⟩) len cap ∧ len ≤ cap) := by
  obtain ⟨fuel, hf⟩ := h0
  have hcell : v = .slice none 0 0 ∨ ∃ a len cap, v = .slice (some a) len cap ∧ len ≤ cap ∧ a.spot = none := by
    unfold Value.okWide at hval
    rw [ht] at hval
    simp only [Cell.okWide, ht, Cell.ok] at hval
    cases v with
    | slice a len cap => cases a with
      | none => cases len <;> cases cap <;> first | exact .inl rfl | exact hval.elim
      | some a => exact .inr ⟨a, len, cap, rfl, hval.1, hval.2.2.2.1⟩
    | _ => exact hval.elim
  rcases hcell with rfl | ⟨a, len, cap, rfl, hl, hs⟩
  · rcases open_ints ht he hc hf with ⟨-, hx⟩ | ⟨a, len, cap, zs, h1, -⟩
    · simp only [Prod.mk.injEq] at hx
      obtain ⟨rfl, rfl⟩ := hx
      exact ⟨fun W' _ sp _ => shut_slice_nil ht, .inl rfl⟩
    · simp [Value.cells] at h1
  · rcases open_ints ht he hc hf with ⟨h1, -⟩ | ⟨a', len', cap', zs, h1, h2, h3, h4, h5, h6, h7, h8⟩
    · simp [Value.cells] at h1
    · simp only [Value.cells, List.cons.injEq, Value.slice.injEq, Option.some.injEq, and_true] at h1
      obtain ⟨rfl, rfl, rfl⟩ := h1
      obtain ⟨b, off, sp0⟩ := a
      simp only at hs
      subst hs
      simp only [Prod.mk.injEq] at h6
      obtain ⟨rfl, rfl⟩ := h6
      simp only [if_true] at h5
      refine ⟨fun W' ho sp hsp => ⟨0 + 2, ?_⟩, .inr ⟨b, off, len, cap, rfl, hl⟩⟩
      have hzs : zs.length = if sp b then cap else len := by
        by_cases hz : zs.length = 0
        · have : cap = 0 := by omega
          have : len = 0 := by omega
          split <;> omega
        · have hm : (MemPlace.cell b off) ∈ MemPlace.row ⟨b, off, none⟩ zs.length := by
            unfold MemPlace.row
            exact List.mem_map.2 ⟨0, List.mem_range.2 (by omega), by simp⟩
          have := hsp _ hm
          simp only [MemPlace.block] at this
          rw [this, if_pos rfl]; exact h5
      refine shut_ints 0 ht he hc h2 hl h4 hzs (fun i hi => ?_) h8
      have h7' := h7 i hi
      rw [add_plain] at h7' ⊢
      have hb : b < W.heap.size := by
        cases hbk : W.heap[b]? with
        | none => simp [World.cell?, hbk] at h7'
        | some o => exact (Array.getElem?_eq_some_iff.1 hbk).1
      have : W'.cell? ⟨b, off + i, none⟩ = W.cell? ⟨b, off + i, none⟩ := by
        unfold World.cell?
        rw [ho.old b hb]
      rw [this]; exact h7'

end

/-- What the evaluator is given for a row of bytes of which it asks the length alone. -/
def lenV (id : Nat) (v : Value) : CV := match v with
  | .slice (some _) len _ => .sl id 0 len none
  | _ => .nils 1

def lenNd (v : Value) : Nd := match v with
  | .slice (some a) _ cap => ⟨a.block, a.off, cap, 1⟩
  | _ => ⟨0, 0, 0, 0⟩

theorem lenV_ok {A : Nat → Nd} {U : Nat → Prop} {id : Nat} {v : Value} (hA : A id = lenNd v) (hU : U id) (hv : v = .slice none 0 0 ∨ ∃ b off len cap, v = .slice (some ⟨b, off, none⟩) len cap ∧ len ≤ cap) : cvVal A U (lenV id v) v := by
  rcases hv with rfl | ⟨b, off, len, cap, rfl, hl⟩
  · rfl
  · simp only [lenV, cvVal, hA, lenNd]
    exact ⟨hU, off, cap, rfl, by simp, by simp, hl, fun _ => by simp⟩

/-- A call with one row of bytes. -/
theorem calls_yes1 {P : Program} (hm : P.follows .mixedOrders = true) {FT : Nat → Option GFn} (hft : GTOk P FT) {f g : Nat} {v : Value} (hv : v = .slice none 0 0 ∨ ∃ b off len cap, v = .slice (some ⟨b, off, none⟩) len cap ∧ len ≤ cap)
    (hy : yes (runG FT f g [.one (lenV 0 v)] noHeap 1) = true) (w : World) : Calls P g #[v] w fun e w' => e = .returned (.bool true) ∧ Old w w' := by
  obtain ⟨h', c', hr⟩ := yes_some hy
  have := (runG_ok hm hft f _ _ _ _ _ _ _ hr).2.2 (fun _ => lenNd v) (fun id => id = 0) w #[v] (sim_none w _ _) (fun id h => by omega) rfl (fun j x hj => by
    match j with
    | 0 => simp only [List.getElem?_cons_zero, Option.some.injEq] at hj; subst hj; exact ⟨v, rfl, lenV_ok rfl rfl hv⟩
    | j + 1 => simp at hj)
  refine this.mono ?_
  rintro e w' ⟨u, A', U', rfl, hp, hv⟩
  exact ⟨by rw [show u = .bool true from hv], old_of_sim hp⟩

/-- A call with two rows of bytes. -/
theorem calls_yes2 {P : Program} (hm : P.follows .mixedOrders = true) {FT : Nat → Option GFn} (hft : GTOk P FT) {f g : Nat} {v u : Value} (hv : v = .slice none 0 0 ∨ ∃ b off len cap, v = .slice (some ⟨b, off, none⟩) len cap ∧ len ≤ cap) (hu : u = .slice none 0 0 ∨ ∃ b off len cap, u = .slice (some ⟨b, off, none⟩) len cap ∧ len ≤ cap)
    (hy : yes (runG FT f g [.one (lenV 0 v), .one (lenV 1 u)] noHeap 2) = true) (w : World) : Calls P g #[v, u] w fun e w' => e = .returned (.bool true) ∧ Old w w' := by
  obtain ⟨h', c', hr⟩ := yes_some hy
  have := (runG_ok hm hft f _ _ _ _ _ _ _ hr).2.2 (fun id => if id = 0 then lenNd v else lenNd u) (fun id => id = 0 ∨ id = 1) w #[v, u] (sim_none w _ _) (fun id h => by omega) rfl (fun j x hj => by
    match j with
    | 0 => simp only [List.getElem?_cons_zero, Option.some.injEq] at hj; subst hj; exact ⟨v, rfl, lenV_ok rfl (.inl rfl) hv⟩
    | 1 => simp only [List.getElem?_cons_succ, List.getElem?_cons_zero, Option.some.injEq] at hj; subst hj; exact ⟨u, rfl, lenV_ok rfl (.inr rfl) hu⟩
    | j + 2 => simp at hj)
  refine this.mono ?_
  rintro e w' ⟨z, A', U', rfl, hp, hv⟩
  exact ⟨by rw [show z = .bool true from hv], old_of_sim hp⟩

/-! ### The head of a function, by hand -/

/-- What a code's end tells: a result that is 'true'. -/
def yesX (res : List RR) (c : Nat) (r : Option (X × St)) : Bool := match r with
  | some (.ex _, _) => false
  | some (_, s) => (match resV s.h s.ts res with
    | some [.one (.bool b)] => b && Nat.ble c s.c
    | _ => false)
  | none => false

theorem yes_of_head {FT : Nat → Option GFn} {f g : Nat} {fn : CFn} (hg : FT g = some (.c fn)) {args : List V1} (hn : args.length ≤ fn.nt) {h : Heap} {c : Nat} (hy : yesX fn.res c (ex (runG FT f) f fn.code ⟨init args 0, h, c⟩) = true) : yes (runG FT (f + 1) g args h c) = true := by
  simp only [runG, hg, runC, if_pos hn]
  generalize ex (runG FT f) f fn.code ⟨init args 0, h, c⟩ = r at hy
  have main : ∀ s : St, (match resV s.h s.ts fn.res with | some [.one (.bool b)] => b && Nat.ble c s.c | _ => false) = true → yes (match resV s.h s.ts fn.res with | some l => if c ≤ s.c then some (pack l, s.h, s.c) else none | none => none) = true := by
    intro s hs
    split at hs
    · rename_i b hb
      simp only [Bool.and_eq_true] at hs
      obtain ⟨rfl, h2⟩ := hs
      rw [hb]
      simp only [if_pos (Nat.le_of_ble_eq_true h2)]
      rfl
    · simp at hs
  cases r with
  | none => simp [yesX] at hy
  | some p =>
    obtain ⟨x, s⟩ := p
    cases x with
    | nrm => exact main s hy
    | ret => exact main s hy
    | ex id => simp [yesX] at hy

def CC.lft : CC → CC
  | .seq a _ => a
  | c => c

def CC.rgt : CC → CC
  | .seq _ b => b
  | c => c

/-- A test, and what comes behind it. -/
def tailX (cl : CallF) (f : Nat) (C REST : CC) (s : St) : Option (X × St) := match ex cl f C s with
  | some (.nrm, s') => ex cl (f + 1) REST s'
  | r => r

noncomputable def Z.tailX (cl : CallF) (f : Nat) (C REST : CC) (s : St) : Z.RX := Z.onRX (Z.ex cl f C s.ts s.h s.c) (fun ts h c => Z.ex cl (f + 1) REST ts h c) (fun id s => some (.ex id, s))

theorem Z.tailX_eq (cl : CallF) (f : Nat) (C REST : CC) (s : St) : Z.tailX cl f C REST s = Cq.tailX cl f C REST s := by
  simp only [Z.tailX, Cq.tailX, Z.ex_eq]
  cases Cq.ex cl f C s with
  | none => rfl
  | some p => obtain ⟨x, ts, h, c⟩ := p; cases x <;> rfl

/-- The lengths are looked at first. -/
theorem head2 {cl : CallF} {f : Nat} {R0 R1 C REST : CC} {s0 s1 s2 : St} (h0 : ex cl (f + 2) R0 s0 = some (.nrm, s1)) (h1 : ex cl f R1 s1 = some (.nrm, s2)) : ex cl (f + 3) (.seq R0 (.seq (.seq R1 C) REST)) s0 = tailX cl f C REST s2 := by
  have e1 : ex cl (f + 3) (.seq R0 (.seq (.seq R1 C) REST)) s0 = match ex cl (f + 2) R0 s0 with
      | some (.nrm, s') => ex cl (f + 2) (.seq (.seq R1 C) REST) s'
      | r => r := rfl
  have e2 : ∀ s, ex cl (f + 2) (.seq (.seq R1 C) REST) s = match ex cl (f + 1) (.seq R1 C) s with
      | some (.nrm, s') => ex cl (f + 1) REST s'
      | r => r := fun s => rfl
  have e3 : ex cl (f + 1) (.seq R1 C) s1 = match ex cl f R1 s1 with
      | some (.nrm, s') => ex cl f C s'
      | r => r := rfl
  rw [e1, h0]
  simp only
  rw [e2, e3, h1]
  rfl

end Go.Cq
