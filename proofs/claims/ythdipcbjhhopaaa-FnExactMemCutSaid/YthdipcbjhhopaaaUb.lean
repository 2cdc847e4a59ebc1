import Derived.Test.YthdipcbjhhopaaaUa
namespace Go.Qm
open Go.Cq Go.Cq.D Go.RowKit Go.Proofs
set_option maxRecDepth 10000
theorem cutA_eq {l : List Area} {fr mn : Int} : cutA l fr mn = scutA l fr mn := by
 unfold cutA scutA
 cases h : (areasOk l && areaOk ⟨fr, mn, false, false⟩) with
 | false => rfl
 | true =>
  simp only [Bool.and_eq_true] at h
  rw [areasOk_cut h.1 h.2]
  simp
def MemOkC : Prop := ∀ (b1 b2 b3 b4 b5 : Bool) (m : Mem), m.fits 1048576 → CallV Try.prog 34 [aM b1 b2 b3 b4 b5 m] (.v (.one (dB (memOk m))))
set_option maxHeartbeats 1000000 in
theorem memCut_ok (hc : MemOkC) (b1 b2 b3 b4 b5 : Bool) (m : Mem) (who fr mn : Int) (h : m.fits 1048576) : CallV Try.prog 25 [aM b1 b2 b3 b4 b5 m, .one (dI who), .one (dI fr), .one (dI mn)] (.tup [oM (memCut scutA m who fr mn).1, .one (dI (memCut scutA m who fr mn).2)]) := by
 refine callX_of hmix Try.func25 ok25 ?_
 (conv=>whnf)<;>repeat' first|(refine cond_t ?_;conv=>whnf)|(refine cond_f ?_;conv=>whnf)
 refine op_callV [.pass] rfl rfl rfl (hc b1 b2 b3 b4 b5 m h) rfl ?_
 (conv=>whnf)<;>repeat' first|(refine cond_t ?_;conv=>whnf)|(refine cond_f ?_;conv=>whnf)
 refine CondP.mk (fun h1 => ?_) (fun h1 => ?_) <;> rw [h1] <;> (conv=>whnf)<;>repeat' first|(refine cond_t ?_;conv=>whnf)|(refine cond_f ?_;conv=>whnf)
 ·refine ⟨?_, rfl⟩
  have h1 : memOk m = false := by simpa using h1
  simp [memCut, h1, oM, mem0, dI]
 have h1 : memOk m = true := by simpa using h1
 refine op_callV [.pass, .pass] rfl rfl rfl (live_ok b1 b2 b3 b4 b5 m who (by have := h.sp; omega)) rfl ?_
 (conv=>whnf)<;>repeat' first|(refine cond_t ?_;conv=>whnf)|(refine cond_f ?_;conv=>whnf)
 refine CondP.mk (fun h2 => ?_) (fun h2 => ?_) <;> rw [h2] <;> (conv=>whnf)<;>repeat' first|(refine cond_t ?_;conv=>whnf)|(refine cond_f ?_;conv=>whnf)
 ·refine ⟨?_, rfl⟩
  have h2 : liveOf m.sp who = false := by simpa using h2
  simp [memCut, h2, oM, mem0, dI]
 have h2 : liveOf m.sp who = true := by simpa using h2
 obtain ⟨i, rfl, hi, hlv⟩ := liveOf_iff h2
 obtain ⟨ha, hal, hsl⟩ := memOk_ar h1 hi hlv
 have har : arOf m i = m.sp[i].ar := by simp [arOf, hi]
 refine op_callV [.pass] rfl rfl rfl (cloneMem_ok b1 b2 b3 b4 b5 m h) rfl ?_
 (conv=>whnf)<;>repeat' first|(refine cond_t ?_;conv=>whnf)|(refine cond_f ?_;conv=>whnf)
 refine op_idx_ro (k := i) rfl rfl (by simpa using hi) ?_
 (conv=>whnf)<;>repeat' first|(refine cond_t ?_;conv=>whnf)|(refine cond_f ?_;conv=>whnf)
 refine op_load_rp rfl (r := .one (.ro b5 4 (m.sp[i].ar.map rA))) (by simp [loadRp, rP, hi]) ?_
 (conv=>whnf)<;>repeat' first|(refine cond_t ?_;conv=>whnf)|(refine cond_f ?_;conv=>whnf)
 refine op_callV [.pass, .pass, .pass] rfl rfl rfl (areasCut_ok b5 m.sp[i].ar fr mn (by omega)) rfl ?_
 (conv=>whnf)<;>repeat' first|(refine cond_t ?_;conv=>whnf)|(refine cond_f ?_;conv=>whnf)
 rw [cutA_eq]
 simp only [List.drop_zero, List.take_length]
 cases hcu : scutA m.sp[i].ar fr mn with
 | none =>
  refine CondP.mk (fun c1 => ?_) (fun c1 => ?_) <;> (conv=>whnf)<;>repeat' first|(refine cond_t ?_;conv=>whnf)|(refine cond_f ?_;conv=>whnf)
  ·refine ⟨?_, rfl⟩
   simp [memCut, h1, h2, har, hcu, cutM, oM, dI]
  ·simp at c1
 | some l =>
  refine CondP.mk (fun c1 => ?_) (fun c1 => ?_) <;> (conv=>whnf)<;>repeat' first|(refine cond_t ?_;conv=>whnf)|(refine cond_f ?_;conv=>whnf)
  ·simp at c1
  ·refine op_idx_s0 (k := i) rfl rfl rfl (by simpa using hi) ?_
   (conv=>whnf)<;>repeat' first|(refine cond_t ?_;conv=>whnf)|(refine cond_f ?_;conv=>whnf)
   simp only [Option.getD_some]
   refine op_store_any rfl rfl rfl rfl rfl (by simp [wrN, wr1, DV.cells, hi]; rfl) ?_
   (conv=>whnf)<;>repeat' first|(refine cond_t ?_;conv=>whnf)|(refine cond_f ?_;conv=>whnf)
   refine op_close (i := i) (k := 1) (g' := 4) (lo := 0) (len := l.length) (es2 := (setAr m i l).sp.map rP) (ov2 := []) rfl (cell_ov (by simp [hi]; rfl) (by simp [rP]) (by simp only [ovGet, if_true]; rfl)) rfl rfl (by rw [List.drop_zero, take_map_len]; exact setAr_rows hi) (by simp only [ovErase, if_true]; rfl) ?_
   (conv=>whnf)<;>repeat' first|(refine cond_t ?_;conv=>whnf)|(refine cond_f ?_;conv=>whnf)
   obtain ⟨h3, h4⟩ := scutA_some hcu
   have hb := areaOk_iff.1 h3
   simp only at hb
   obtain ⟨f, rfl⟩ := Int.eq_ofNat_of_zero_le hb.1
   obtain ⟨g, rfl⟩ := Int.eq_ofNat_of_zero_le (show 0 ≤ mn by omega)
   have hls : LsOk (setAr m i l) i f 0 := memOk_ls h1 hi hlv
   refine loop_at (fun t : Nat => [(1, .v (.one (dI i))), (2, .v (.one (dI f))), (3, .v (.one (dI g))), (8, .v (.one (.ptr 1 0 0))), (10, .v (.one (.ptr 2 0 0))), (13, .v (.one (dI ((f + t : Nat) : Int))))]) (fun t => [(2, bO (loseTo (setAr m i l) i f t)), (1, bO mem0)]) (fun _ => 3)
    (fun t => t ≤ g) (fun t => g - t) 0 (by omega) rfl (by rw [List.drop_zero, List.take_of_length_le (by simp [setAr])]; rfl) rfl fun t ht => ?_
   have hlt := loseTo_ok hls (t := t) (by omega)
   (conv=>whnf)<;>repeat' first|(refine cond_t ?_;conv=>whnf)|(refine cond_f ?_;conv=>whnf)
   rw [wrap64 (x := (f : Int) + g) (by omega) (by omega)]
   refine CondP.mk (fun c2 => ?_) (fun c2 => ?_) <;> (conv=>whnf)<;>repeat' first|(refine cond_t ?_;conv=>whnf)|(refine cond_f ?_;conv=>whnf)
   ·have c2 : t < g := by simp at c2; omega
    have hi' := hlt.hi
    have hj : f + t < (loseTo (setAr m i l) i f t).sp[i].sl.length := by rw [hlt.sl]; omega
    have hok := hlt.ok (by omega) (Nat.le_refl _) hlt.hi hj
    refine op_idx_s0 (k := i) rfl rfl rfl (by simpa using hi') ?_
    (conv=>whnf)<;>repeat' first|(refine cond_t ?_;conv=>whnf)|(refine cond_f ?_;conv=>whnf)
    have hg : ((loseTo (setAr m i l) i f t).sp.map rP)[i]? = some (rP (loseTo (setAr m i l) i f t).sp[i]) := by simp [hi']
    refine ld_own (i := i) (k := 2) (sz' := 4) (es' := (loseTo (setAr m i l) i f t).sp[i].sl.map rL) (loseTo (setAr m i l) i f t).sp[i].sl.length rfl rfl rfl (cell_es hg rfl rfl rfl) rfl (by simp) ?_
    (conv=>whnf)<;>repeat' first|(refine cond_t ?_;conv=>whnf)|(refine cond_f ?_;conv=>whnf)
    refine op_idx_s0 (k := f + t) rfl rfl rfl hj ?_
    (conv=>whnf)<;>repeat' first|(refine cond_t ?_;conv=>whnf)|(refine cond_f ?_;conv=>whnf)
    refine op_callD [.pass, .pass] [2, 3, 4] rfl rfl rfl rfl (forget_ok (loseTo (setAr m i l) i f t) ((loseTo (setAr m i l) i f t).sp.map rP).length i (loseTo (setAr m i l) i f t).sp[i].sl.length ((loseTo (setAr m i l) i f t).sp.map rP) (loseTo (setAr m i l) i f t).sp[i].sl (f + t) hj hok.1 hok.2) (fun res H3 hp => ?_)
    obtain ⟨rfl, rfl⟩ := hp
    refine ⟨rfl, rfl, _, (putB_box rfl rfl (by rfl) rfl).trans ((putB_ov rfl rfl (by rfl) rfl).trans ((putB_ov rfl rfl (by simp) rfl).trans rfl)), ?_⟩
    (conv=>whnf)<;>repeat' first|(refine cond_t ?_;conv=>whnf)|(refine cond_f ?_;conv=>whnf)
    refine op_close (i := i) (k := 2) (g' := 4) (lo := 0) (len := (loseTo (setAr m i l) i f t).sp[i].sl.length) (es2 := (setSlot (loseTo (setAr m i l) i f t).sp i (f + t) slot0).map rP) (ov2 := []) rfl (cell_ov hg (by simp [rP]) (by simp only [ovGet, if_true]; rfl)) rfl rfl (by rw [List.drop_zero, List.take_of_length_le (by simp), ← map_set]; exact setSlot_rows hi') (by simp only [ovErase, if_true]; rfl) ?_
    (conv=>whnf)<;>repeat' first|(refine cond_t ?_;conv=>whnf)|(refine cond_f ?_;conv=>whnf)
    have hbd : ((loseTo (setAr m i l) i f t).sp[i]?.bind fun s => s.sl[f + t]?) = some (loseTo (setAr m i l) i f t).sp[i].sl[f + t] := by simp [hi', hj]
    have htk : ((setSlot (loseTo (setAr m i l) i f t).sp i (f + t) slot0).map rP).take (loseTo (setAr m i l) i f t).sp.length = (setSlot (loseTo (setAr m i l) i f t).sp i (f + t) slot0).map rP := List.take_of_length_le (by simp [setSlot])
    refine ⟨t + 1, by omega, by omega, ?_, ?_, rfl⟩
    ·rw [wrap64 (x := ((f + t : Nat) : Int) + 1) (by omega) (by omega), show ((f + t : Nat) : Int) + 1 = ((f + (t + 1) : Nat) : Int) by omega]; rfl
    ·simp only [loseTo, loseM, hbd]
     simp [bO, loseR, dI, htk]
   ·have c2 : t = g := by simp at c2; omega
    subst c2
    refine ⟨?_, rfl⟩
    simp [memCut, h1, h2, har, hcu, cutM, oM, dI]
end Go.Qm
namespace Go.Qm
open Go.Cq Go.Cq.D Go.RowKit Go.Proofs
set_option maxRecDepth 10000
theorem goesOn_mark {α : Type} {f : Int → α → Option Int} {g : Int → α → α} {w : α → Nat} (hf : ∀ k a, f k (g k a) = some (k + w a)) : ∀ {l : List α} {k : Int}, goesOn f k (markL g w k l) = some (posP w k l l.length) := by
 intro l
 induction l with
 | nil => intro k; rfl
 | cons a l ih =>
  intro k
  simp only [markL, markP, List.length_cons, goesOn, hf, posP]
  exact ih
theorem posP_wts : ∀ {l : List Space} {k : Int}, posP Space.wt k l l.length = k + wts l := by
 intro l
 induction l with
 | nil => intro k; simp [posP, wts]
 | cons a l ih => intro k; simp only [posP, List.length_cons, wts, ih]; omega
theorem goesOn_c {α : Type} {f : Int → α → Option Int} {g : Int → α → α} {w : α → Nat} {c : Nat} (hw : ∀ a, w a = c) (hf : ∀ k a, f k (g k a) = some (k + w a)) {l : List α} {k : Int} : goesOn f k (markL g w k l) = some (k + c * l.length) := by
 rw [goesOn_mark hf, posP_const hw (Nat.le_refl _)]
theorem hPages_g {k : Int} {p : Pages} : hPages k (gPages k p) = some (k + p.wt) := by
 unfold hPages gPages
 simp only
 rw [goesOn_c (w := w1c) (c := 1) (fun _ => rfl) (fun k a => by simp [hStr, gStr, w1c])]
 simp only [Option.bind_some]
 rw [show k + ((1 : Nat) : Int) * (p.tx.length : Int) = k + p.tx.length by omega, goesOn_c (w := w1c) (c := 1) (fun _ => rfl) (fun k a => by simp [hInt, gInt, w1c])]
 simp only [Pages.wt, Option.some.injEq]
 omega
theorem hSpace_g {k : Int} {s : Space} : hSpace k (gSpace k s) = some (k + s.wt) := by
 unfold hSpace gSpace
 simp only [if_true]
 rw [goesOn_c (w := w4c) (c := 4) (fun _ => rfl) (fun k a => by simp [hArea, gArea, w4c])]
 simp only [Option.bind_some]
 rw [show k + 1 + ((4 : Nat) : Int) * (s.ar.length : Int) = k + 1 + 4 * s.ar.length by omega, goesOn_c (w := w4c) (c := 4) (fun _ => rfl) (fun k a => by simp [hSlot, gSlot, w4c])]
 simp only [Space.wt, Option.some.injEq]
 omega
theorem hMem_g {k : Int} {m : Mem} : hMem k (gMem k m) = some (k + m.wt) := by
 unfold hMem gMem
 rw [hPages_g]
 simp only [Option.bind_some]
 rw [hPages_g]
 simp only [Option.bind_some]
 have hw : ∀ k (s : Space), (gSpace k s).wt = s.wt := fun k s => by simp [Space.wt, gSpace, markL_len]
 rw [goesOn_mark (f := hSpace) (g := gSpace) (w := Space.wt) (fun k s => hSpace_g), posP_wts]
 simp only [Mem.wt, Option.some.injEq]
 omega
theorem gMem_wt {k : Int} {m : Mem} : (gMem k m).fits 1048576 ↔ m.fits 1048576 := by
 have hl : ∀ {l : List Space} {k : Int} {n : Nat}, spFits n (markL gSpace Space.wt k l) ↔ spFits n l := by
  intro l
  induction l with
  | nil => intro k n; exact ⟨fun _ s hs => by simp at hs, fun _ s hs => by simp [markL, markP] at hs⟩
  | cons a l ih =>
   intro k n
   have := ih (k := k + a.wt) (n := n)
   simp only [spFits, markL, markP, List.length_cons, List.mem_cons, forall_eq_or_imp] at this ⊢
   rw [this]
   simp [gSpace, markL_len]
 constructor
 ·intro h
  exact ⟨by simpa [gMem, gPages, markL_len] using h.rt, by simpa [gMem, gPages, markL_len] using h.rr, by simpa [gMem, gPages, markL_len] using h.st, by simpa [gMem, gPages, markL_len] using h.sr, by simpa [gMem, markL_len] using h.sp, hl.1 h.ss⟩
 ·intro h
  exact ⟨by simpa [gMem, gPages, markL_len] using h.rt, by simpa [gMem, gPages, markL_len] using h.rr, by simpa [gMem, gPages, markL_len] using h.st, by simpa [gMem, gPages, markL_len] using h.sr, by simpa [gMem, markL_len] using h.sp, hl.2 h.ss⟩
theorem wts_mark {l : List Space} : ∀ {k : Int}, wts (markL gSpace Space.wt k l) = wts l := by
 induction l with
 | nil => intro k; rfl
 | cons a l ih =>
  intro k
  have e : markL gSpace Space.wt k (a :: l) = gSpace k a :: markL gSpace Space.wt (k + a.wt) l := rfl
  rw [e, wts, wts, ih]
  simp [Space.wt, gSpace, markL_len]
theorem gMem_wt' {k : Int} {m : Mem} : (gMem k m).wt = m.wt := by
 simp [gMem, Mem.wt, gPages, Pages.wt, markL_len, wts_mark]
theorem szPages_ge {left : Int} {p : Pages} (h0 : 0 ≤ left) (h : 0 ≤ szPages left p) : szPages left p ≤ left - p.wt := by
 unfold szPages at h ⊢
 split at h
 ·omega
 ·rename_i e
  rw [if_neg e]
  have h1 := less_le h
  have h2 : szStrs left p.tx ≤ left - p.tx.length := by
   unfold szStrs at e ⊢
   split at e
   ·omega
   ·rename_i e2
    rw [if_neg e2]
    exact (lessAll_bd (f := fun x (s : Str) => x - s.length) (l := p.tx) (left := left - p.tx.length) (fun x a _ _ _ => by omega) (by omega)).2
  unfold Pages.wt
  omega
theorem szSpace_ge {left : Int} {s : Space} (h : 0 ≤ szSpace left s) : szSpace left s = left - s.ar.length - s.sl.length ∧ (s.ar.length + s.sl.length : Int) ≤ left := by
 unfold szSpace at h ⊢
 split at h
 ·omega
 ·rename_i e
  rw [if_neg e]
  have h1 := less_le h
  have h2 := less_le (show 0 ≤ less left s.ar.length by omega)
  omega
theorem lessAll_ge : ∀ {l : List Space} {left : Int}, 0 ≤ left → 0 ≤ lessAll szSpace left l → (wts l : Int) ≤ l.length + 4 * (left - lessAll szSpace left l) ∧ ∀ s, s ∈ l → (s.ar.length + s.sl.length : Int) ≤ left := by
 intro l
 induction l with
 | nil => intro left _ _; simp [wts, lessAll]
 | cons a l ih =>
  intro left h0 h
  simp only [lessAll] at h ⊢
  split at h
  ·omega
  ·rename_i e
   rw [if_neg e]
   have h1 := szSpace_ge (left := left) (s := a) (by omega)
   obtain ⟨h2, h3⟩ := ih (left := szSpace left a) (by omega) h
   refine ⟨?_, fun s hs => ?_⟩
   ·simp only [wts, Space.wt, List.length_cons]
    omega
   ·rcases List.mem_cons.1 hs with rfl | hs
    ·exact h1.2
    ·have := h3 s hs; omega
theorem szMem_ge {left : Int} {m : Mem} (h0 : 0 ≤ left) (h : 0 ≤ szMem left m) (hl : left ≤ 1048576) : m.fits 1048576 ∧ m.wt ≤ 8388608 := by
 unfold szMem at h
 split at h
 ·omega
 ·rename_i e1
  split at h
  ·omega
  ·rename_i e2
   have h1 := szPages_ge h0 (show 0 ≤ szPages left m.ram by omega)
   have h2 := szPages_ge (show 0 ≤ szPages left m.ram by omega) (show 0 ≤ szPages (szPages left m.ram) m.swp by omega)
   unfold szSpaces at h
   split at h
   ·omega
   ·rename_i e3
    obtain ⟨h3, h4⟩ := lessAll_ge (l := m.sp) (left := szPages (szPages left m.ram) m.swp - m.sp.length) (by omega) h
    simp only [Pages.wt] at h1 h2
    refine ⟨⟨by omega, by omega, by omega, by omega, by omega, fun s hs => ?_⟩, ?_⟩
    ·have := h4 s hs; omega
    ·simp only [Mem.wt, Pages.wt]; omega
theorem loseM_small {m : Mem} {i j : Nat} : (loseM m i j).sp.length = m.sp.length ∧ ∀ n, spFits n m.sp → spFits n (loseM m i j).sp := by
 unfold loseM
 split
 ·exact ⟨rfl, fun _ h => h⟩
 ·refine ⟨by simp [setSlot], fun n h s hs => ?_⟩
  obtain ⟨q, hq, rfl⟩ := List.getElem_of_mem hs
  simp only [setSlot, List.length_modify] at hq
  have := h _ (List.getElem_mem hq)
  simp only [setSlot, List.getElem_modify]
  split
  ·simpa using this
  ·exact this
theorem loseTo_small {m : Mem} {i fr : Nat} : ∀ {t : Nat}, (loseTo m i fr t).sp.length = m.sp.length ∧ ∀ n, spFits n m.sp → spFits n (loseTo m i fr t).sp := by
 intro t
 induction t with
 | zero => exact ⟨rfl, fun _ h => h⟩
 | succ t ih => exact ⟨loseM_small.1.trans ih.1, fun n h => loseM_small.2 n (ih.2 n h)⟩
theorem memOk_small {m : Mem} (h : memOk m = true) : m.fits 16 := by
 simp only [memOk, Bool.and_eq_true, decide_eq_true_eq] at h
 obtain ⟨⟨⟨⟨⟨⟨⟨⟨h1, h2⟩, h3⟩, h4⟩, h5⟩, h6⟩, h7⟩, h8⟩, h9⟩ := h
 simp only [pagesOk, Bool.and_eq_true, decide_eq_true_eq] at h1 h2
 refine ⟨by omega, by omega, by omega, by omega, by omega, fun s hs => ?_⟩
 have hs := List.all_eq_true.1 h7 s hs
 simp only [Bool.and_eq_true] at hs
 have hso := hs.1
 unfold spaceOk at hso
 split at hso
 ·simp only [Bool.and_eq_true, decide_eq_true_eq] at hso
  have := hso.1
  simp only [areasOk, Bool.and_eq_true, decide_eq_true_eq] at this
  omega
 ·simp only [Bool.and_eq_true, decide_eq_true_eq] at hso
  omega
theorem memCut_small {m : Mem} {who fr mn : Int} : (memCut scutA m who fr mn).1.fits 16 := by
 unfold memCut
 split
 ·rename_i h
  simp only [Bool.and_eq_true] at h
  obtain ⟨h1, h2⟩ := h
  obtain ⟨i, rfl, hi, hlv⟩ := liveOf_iff h2
  have hs := memOk_small h1
  cases hc : scutA (arOf m (i : Int).toNat) fr mn with
  | none => exact hs
  | some l =>
   simp only [cutM]
   obtain ⟨h3, h4⟩ := scutA_some hc
   have hb := areaOk_iff.1 h3
   simp only at hb
   obtain ⟨f, rfl⟩ := Int.eq_ofNat_of_zero_le hb.1
   obtain ⟨g, rfl⟩ := Int.eq_ofNat_of_zero_le (show 0 ≤ mn by omega)
   simp only [Int.toNat_natCast]
   have hls := loseTo_ok (memOk_ls (l := l) (fr := f) h1 hi hlv) (t := g) (by omega)
   obtain ⟨k1, k2⟩ := loseTo_small (m := setAr m i l) (i := i) (fr := f) (t := g)
   have hl6 : l.length ≤ 6 := by simp only [areasOk, Bool.and_eq_true, decide_eq_true_eq] at h4; exact h4.2
   refine ⟨by rw [hls.ram.tx]; omega, by rw [hls.ram.rf]; omega, by rw [hls.swp.tx]; omega, by rw [hls.swp.rf]; omega, ?_, k2 16 fun s hs' => ?_⟩
   ·rw [k1]; simpa [setAr] using hs.sp
   ·obtain ⟨q, hq, rfl⟩ := List.getElem_of_mem hs'
    simp only [setAr, List.length_modify] at hq
    have := hs.ss _ (List.getElem_mem hq)
    simp only [setAr, List.getElem_modify]
    split
    ·exact ⟨by simp only; omega, this.2⟩
    ·exact this
 ·exact ⟨by simp [mem0], by simp [mem0], by simp [mem0], by simp [mem0], by simp [mem0], fun s hs => by simp [mem0] at hs⟩
theorem small_wt {m : Mem} (h : m.fits 16) : m.wt ≤ 100000 := by
 have hw : ∀ {l : List Space}, spFits 16 l → wts l ≤ 129 * l.length := by
  intro l
  induction l with
  | nil => intro _; simp [wts]
  | cons s l ih =>
   intro hs
   have h1 := ih fun x hx => hs x (List.mem_cons_of_mem _ hx)
   have h2 := hs s (List.mem_cons_self ..)
   simp only [wts, Space.wt, List.length_cons]
   omega
 have := hw h.ss
 have h1 := h.rt; have h2 := h.rr; have h3 := h.st; have h4 := h.sr; have h5 := h.sp
 simp only [Mem.wt, Pages.wt]
 omega
end Go.Qm
namespace Go.Qm
open Go.Cq Go.Cq.D Go.RowKit Go.Proofs
set_option maxRecDepth 10000
set_option maxHeartbeats 4000000 in
theorem lawMemCut_ok (hc : MemOkC) (b1 b2 b3 b4 b5 : Bool) (m : Mem) (who fr mn : Int) (hw : m.inW) : CallV Try.prog 3 [aM b1 b2 b3 b4 b5 m, .one (dI who), .one (dI fr), .one (dI mn)] (.v (.one (dB true))) := by
 refine callX_of hmix Try.func3 ok3 ?_
 (conv=>whnf)<;>repeat' first|(refine cond_t ?_;conv=>whnf)|(refine cond_f ?_;conv=>whnf)
 refine op_callV [.pass, .pass] rfl rfl rfl (szMem_ok b1 b2 b3 b4 b5 m 1048576 (by omega) (by omega) hw) rfl ?_
 (conv=>whnf)<;>repeat' first|(refine cond_t ?_;conv=>whnf)|(refine cond_f ?_;conv=>whnf)
 refine CondP.mk (fun h1 => ?_) (fun h1 => ?_) <;> (conv=>whnf)<;>repeat' first|(refine cond_t ?_;conv=>whnf)|(refine cond_f ?_;conv=>whnf)
 ·exact ⟨rfl, rfl⟩
 have h1 : 0 ≤ szMem 1048576 m := by simpa using h1
 obtain ⟨hf, hwt⟩ := szMem_ge (by omega) h1 (by omega)
 refine op_callV [.pass] rfl rfl rfl (toMem_ok b1 b2 b3 b4 b5 m hf) rfl ?_
 (conv=>whnf)<;>repeat' first|(refine cond_t ?_;conv=>whnf)|(refine cond_f ?_;conv=>whnf)
 refine op_callV [.give, .pass, .pass, .pass] rfl rfl rfl (by simpa [oM, dI] using lmemCut_ok m who fr mn hf hw) rfl ?_
 (conv=>whnf)<;>repeat' first|(refine cond_t ?_;conv=>whnf)|(refine cond_f ?_;conv=>whnf)
 generalize hr : memCut scutA m who fr mn = r
 have hsm : r.1.fits 16 := by rw [← hr]; exact memCut_small
 refine op_callV [.pass] rfl rfl rfl (toMem_ok b1 b2 b3 b4 b5 m hf) rfl ?_
 (conv=>whnf)<;>repeat' first|(refine cond_t ?_;conv=>whnf)|(refine cond_f ?_;conv=>whnf)
 simp only [List.drop_zero, List.take_length]
 have heq : CallV Try.prog 26 [aM true true true true true r.1, aM true true true true true r.1] (.v (.one (dB true))) := by
  simpa using eqMem_ok true true true true true true true true true true r.1 r.1 (hsm.mono (by decide))
 refine op_callV (cas := [aM true true true true true m, .one (dI who), .one (dI fr), .one (dI mn)]) [.lend, .pass, .pass, .pass] rfl (by show some [DV.agg [DC.ro true 1 (List.take _ (List.drop 0 _)), DC.ro true 1 (List.take _ (List.drop 0 _)), DC.ro true 1 (List.take _ (List.drop 0 _)), DC.ro true 1 (List.take _ (List.drop 0 _)), DC.ro true 3 (List.take _ (List.drop 0 _)), _], _, _, _] = _; simp only [List.drop_zero, List.take_length]; rfl) rfl (memCut_ok hc true true true true true m who fr mn hf) rfl ?_
 (conv=>whnf)<;>repeat' first|(refine cond_t ?_;conv=>whnf)|(refine cond_f ?_;conv=>whnf)
 simp only [hr, List.drop_zero, List.take_length]
 refine op_callV (cas := [aM true true true true true r.1, aM true true true true true r.1]) [.lend, .lend] rfl (by show some [DV.agg [DC.ro true 1 (List.take _ (List.drop 0 _)), DC.ro true 1 (List.take _ (List.drop 0 _)), DC.ro true 1 (List.take _ (List.drop 0 _)), DC.ro true 1 (List.take _ (List.drop 0 _)), DC.ro true 3 (List.take _ (List.drop 0 _)), _], DV.agg [DC.ro true 1 (List.take _ (List.drop 0 _)), DC.ro true 1 (List.take _ (List.drop 0 _)), DC.ro true 1 (List.take _ (List.drop 0 _)), DC.ro true 1 (List.take _ (List.drop 0 _)), DC.ro true 3 (List.take _ (List.drop 0 _)), _]] = _; simp only [List.drop_zero, List.take_length]; rfl) rfl heq rfl ?_
 (conv=>whnf)<;>repeat' first|(refine cond_t ?_;conv=>whnf)|(refine cond_f ?_;conv=>whnf)
 refine CondP.mk (fun h => by simp at h) (fun _ => ?_)
 (conv=>whnf)<;>repeat' first|(refine cond_t ?_;conv=>whnf)|(refine cond_f ?_;conv=>whnf)
 refine op_callV [.pass] rfl rfl rfl (toMem_ok b1 b2 b3 b4 b5 m hf) rfl ?_
 (conv=>whnf)<;>repeat' first|(refine cond_t ?_;conv=>whnf)|(refine cond_f ?_;conv=>whnf)
 have heq2 : CallV Try.prog 26 [aM true true true true true m, aM true true true true true m] (.v (.one (dB true))) := by
  simpa using eqMem_ok true true true true true true true true true true m m (hf.mono (by decide))
 simp only [List.drop_zero, List.take_length]
 refine op_callV (cas := [aM true true true true true m, aM true true true true true m]) [.lend, .lend] rfl (by show some [DV.agg [DC.ro true 1 (List.take _ (List.drop 0 _)), DC.ro true 1 (List.take _ (List.drop 0 _)), DC.ro true 1 (List.take _ (List.drop 0 _)), DC.ro true 1 (List.take _ (List.drop 0 _)), DC.ro true 3 (List.take _ (List.drop 0 _)), _], DV.agg [DC.ro true 1 (List.take _ (List.drop 0 _)), DC.ro true 1 (List.take _ (List.drop 0 _)), DC.ro true 1 (List.take _ (List.drop 0 _)), DC.ro true 1 (List.take _ (List.drop 0 _)), DC.ro true 3 (List.take _ (List.drop 0 _)), _]] = _; simp only [List.drop_zero, List.take_length]; rfl) rfl heq2 rfl ?_
 (conv=>whnf)<;>repeat' first|(refine cond_t ?_;conv=>whnf)|(refine cond_f ?_;conv=>whnf)
 simp only [List.drop_zero, List.take_length]
 simp only [List.length_map]
 refine op_callD [.pass, .pass] [24, 25, 26, 27, 28] rfl rfl rfl rfl (markMem_ok m 1 hf (by omega) (by omega)) fun res H3 hp => ?_
 obtain ⟨rfl, rfl⟩ := hp
 refine ⟨rfl, rfl, _, (putB_arr rfl rfl (by simp [gMem, gPages, markL_len])).trans ((putB_arr rfl rfl (by simp [gMem, gPages, markL_len])).trans ((putB_arr rfl rfl (by simp [gMem, gPages, markL_len])).trans ((putB_arr rfl rfl (by simp [gMem, gPages, markL_len])).trans ((putB_arr rfl rfl (by simp [gMem, gPages, markL_len])).trans rfl)))), ?_⟩
 (conv=>whnf)<;>repeat' first|(refine cond_t ?_;conv=>whnf)|(refine cond_f ?_;conv=>whnf)
 simp only [List.drop_zero, List.take_length]
 refine op_callV (cas := [aM true true true true true r.1, aM true true true true true r.1]) [.lend, .lend] rfl (by show some [DV.agg [DC.ro true 1 (List.take _ (List.drop 0 _)), DC.ro true 1 (List.take _ (List.drop 0 _)), DC.ro true 1 (List.take _ (List.drop 0 _)), DC.ro true 1 (List.take _ (List.drop 0 _)), DC.ro true 3 (List.take _ (List.drop 0 _)), _], DV.agg [DC.ro true 1 (List.take _ (List.drop 0 _)), DC.ro true 1 (List.take _ (List.drop 0 _)), DC.ro true 1 (List.take _ (List.drop 0 _)), DC.ro true 1 (List.take _ (List.drop 0 _)), DC.ro true 3 (List.take _ (List.drop 0 _)), _]] = _; simp only [List.drop_zero, List.take_length]; rfl) rfl heq rfl ?_
 (conv=>whnf)<;>repeat' first|(refine cond_t ?_;conv=>whnf)|(refine cond_f ?_;conv=>whnf)
 refine CondP.mk (fun h => by simp at h) (fun _ => ?_)
 (conv=>whnf)<;>repeat' first|(refine cond_t ?_;conv=>whnf)|(refine cond_f ?_;conv=>whnf)
 simp only [List.drop_zero, List.take_length]
 simp only [List.length_map]
 have hwr := small_wt hsm
 refine op_callD [.pass, .pass] [24, 25, 26, 27, 28] rfl rfl rfl rfl (markMem_ok r.1 1 (hsm.mono (by decide)) (by omega) (by omega)) fun res H3 hp => ?_
 obtain ⟨rfl, rfl⟩ := hp
 refine ⟨rfl, rfl, _, (putB_arr rfl rfl (by simp [gMem, gPages, markL_len])).trans ((putB_arr rfl rfl (by simp [gMem, gPages, markL_len])).trans ((putB_arr rfl rfl (by simp [gMem, gPages, markL_len])).trans ((putB_arr rfl rfl (by simp [gMem, gPages, markL_len])).trans ((putB_arr rfl rfl (by simp [gMem, gPages, markL_len])).trans rfl)))), ?_⟩
 (conv=>whnf)<;>repeat' first|(refine cond_t ?_;conv=>whnf)|(refine cond_f ?_;conv=>whnf)
 have e1 : List.take r.1.ram.tx.length (List.map rS (gMem 1 r.1).ram.tx) = List.map rS (gMem 1 r.1).ram.tx := List.take_of_length_le (by simp [gMem, gPages, markL_len])
 have e2 : List.take r.1.ram.rf.length (List.map rI (gMem 1 r.1).ram.rf) = List.map rI (gMem 1 r.1).ram.rf := List.take_of_length_le (by simp [gMem, gPages, markL_len])
 have e3 : List.take r.1.swp.tx.length (List.map rS (gMem 1 r.1).swp.tx) = List.map rS (gMem 1 r.1).swp.tx := List.take_of_length_le (by simp [gMem, gPages, markL_len])
 have e4 : List.take r.1.swp.rf.length (List.map rI (gMem 1 r.1).swp.rf) = List.map rI (gMem 1 r.1).swp.rf := List.take_of_length_le (by simp [gMem, gPages, markL_len])
 have e5 : List.take r.1.sp.length (List.map rP (gMem 1 r.1).sp) = List.map rP (gMem 1 r.1).sp := List.take_of_length_le (by simp [gMem, gPages, markL_len])
 simp only [List.drop_zero, List.take_length, e1, e2, e3, e4, e5]
 generalize hg : gMem 1 r.1 = g at *
 have hgf : g.fits 1048576 := by rw [← hg]; exact gMem_wt.2 (hsm.mono (by decide))
 have hgw : g.wt = r.1.wt := by rw [← hg]; exact gMem_wt'
 have hheld : CallV Try.prog 28 [aM true true true true true g, .one (dI 1)] (.v (.one (dI (1 + r.1.wt)))) := by
  have := heldMem_ok true true true true true g 1 hgf (by omega) (by omega)
  rw [← hg, hMem_g] at this
  rw [← hg]
  exact this
 have ehd : r.1.hd = g.hd := by rw [← hg]; rfl
 simp only [ehd]
 refine op_callV (cas := [aM true true true true true g, .one (dI 1)]) [.lend, .pass] rfl (by show some [DV.agg [DC.ro true 1 (List.take _ (List.drop 0 _)), DC.ro true 1 (List.take _ (List.drop 0 _)), DC.ro true 1 (List.take _ (List.drop 0 _)), DC.ro true 1 (List.take _ (List.drop 0 _)), DC.ro true 3 (List.take _ (List.drop 0 _)), _], _] = _; simp only [List.drop_zero, List.take_length]; rfl) rfl hheld rfl ?_
 (conv=>whnf)<;>repeat' first|(refine cond_t ?_;conv=>whnf)|(refine cond_f ?_;conv=>whnf)
 refine CondP.mk (fun h => by simp at h) (fun _ => ?_)
 (conv=>whnf)<;>repeat' first|(refine cond_t ?_;conv=>whnf)|(refine cond_f ?_;conv=>whnf)
 refine op_callV [.pass] rfl rfl rfl (toMem_ok b1 b2 b3 b4 b5 m hf) rfl ?_
 (conv=>whnf)<;>repeat' first|(refine cond_t ?_;conv=>whnf)|(refine cond_f ?_;conv=>whnf)
 simp only [List.drop_zero, List.take_length]
 refine op_callV (cas := [aM true true true true true m, .one (dI who), .one (dI fr), .one (dI mn)]) [.lend, .pass, .pass, .pass] rfl (by show some [DV.agg [DC.ro true 1 (List.take _ (List.drop 0 _)), DC.ro true 1 (List.take _ (List.drop 0 _)), DC.ro true 1 (List.take _ (List.drop 0 _)), DC.ro true 1 (List.take _ (List.drop 0 _)), DC.ro true 3 (List.take _ (List.drop 0 _)), _], _, _, _] = _; simp only [List.drop_zero, List.take_length]; rfl) rfl (memCut_ok hc true true true true true m who fr mn hf) rfl ?_
 (conv=>whnf)<;>repeat' first|(refine cond_t ?_;conv=>whnf)|(refine cond_f ?_;conv=>whnf)
 simp only [hr, List.drop_zero, List.take_length]
 refine op_callV (cas := [aM true true true true true r.1, aM true true true true true r.1]) [.lend, .lend] rfl (by show some [DV.agg [DC.ro true 1 (List.take _ (List.drop 0 _)), DC.ro true 1 (List.take _ (List.drop 0 _)), DC.ro true 1 (List.take _ (List.drop 0 _)), DC.ro true 1 (List.take _ (List.drop 0 _)), DC.ro true 3 (List.take _ (List.drop 0 _)), _], DV.agg [DC.ro true 1 (List.take _ (List.drop 0 _)), DC.ro true 1 (List.take _ (List.drop 0 _)), DC.ro true 1 (List.take _ (List.drop 0 _)), DC.ro true 1 (List.take _ (List.drop 0 _)), DC.ro true 3 (List.take _ (List.drop 0 _)), _]] = _; simp only [List.drop_zero, List.take_length, aM, ehd, dI]) rfl heq rfl ?_
 (conv=>whnf)<;>repeat' first|(refine cond_t ?_;conv=>whnf)|(refine cond_f ?_;conv=>whnf)
 refine CondP.mk (fun h => by simp at h) (fun _ => ?_)
 (conv=>whnf)<;>repeat' first|(refine cond_t ?_;conv=>whnf)|(refine cond_f ?_;conv=>whnf)
 simp only [List.drop_zero, List.take_length]
 refine op_callV (cas := [aM true true true true true g, .one (dI 1)]) [.lend, .pass] rfl (by show some [DV.agg [DC.ro true 1 (List.take _ (List.drop 0 _)), DC.ro true 1 (List.take _ (List.drop 0 _)), DC.ro true 1 (List.take _ (List.drop 0 _)), DC.ro true 1 (List.take _ (List.drop 0 _)), DC.ro true 3 (List.take _ (List.drop 0 _)), _], _] = _; simp only [List.drop_zero, List.take_length]; rfl) rfl hheld rfl ?_
 (conv=>whnf)<;>repeat' first|(refine cond_t ?_;conv=>whnf)|(refine cond_f ?_;conv=>whnf)
 refine CondP.mk (fun h => by simp at h) (fun _ => ?_)
 (conv=>whnf)<;>repeat' first|(refine cond_t ?_;conv=>whnf)|(refine cond_f ?_;conv=>whnf)
 exact ⟨rfl, rfl⟩
end Go.Qm
namespace Go.Qm
open Go.Cq Go.Cq.D Go.RowKit Go.Proofs
set_option maxRecDepth 10000
theorem fin_M {b r : Bool} {ts : DTs} (hl : lookT ts 2 = some (.v (.one (.sc (.bool b))))) (hr : r = b) : (X.ret = .nrm ∨ X.ret = .ret) ∧ lookT ts 2 = some (.v (.one (.sc (.bool r)))) := ⟨.inr rfl, by rw [hr]; exact hl⟩
set_option maxHeartbeats 4000000 in
theorem memOk_ok : MemOkC := by
 intro b1 b2 b3 b4 b5 m h
 refine callG_of hmix Try.func34 ok34 (Nat.le_of_ble_eq_true rfl) rfl rfl (fun U0 h0 c0 hU0 => ?_)
 have hf := h.mono (n' := 4611686018427387904) (by decide)
 refine wm_seq ?_
 refine wm_base (wc_base gT_stab ?_)
 (conv=>whnf)<;>repeat' first|(refine cond_t ?_;conv=>whnf)|(refine cond_f ?_;conv=>whnf)
 refine wm_seq ?_
 refine wm_base (wc_base gT_stab ?_)
 (conv=>whnf)<;>repeat' first|(refine cond_t ?_;conv=>whnf)|(refine cond_f ?_;conv=>whnf)
 refine op_callV [.pass] rfl rfl rfl (pagesOk_ok b1 b2 m.ram hf.rt hf.rr) rfl ?_
 (conv=>whnf)<;>repeat' first|(refine cond_t ?_;conv=>whnf)|(refine cond_f ?_;conv=>whnf)
 refine CondP.mk (fun h1 => ?_) (fun h1 => ?_) <;> rw [h1] <;> (conv=>whnf)<;>repeat' first|(refine cond_t ?_;conv=>whnf)|(refine cond_f ?_;conv=>whnf)
 ·exact fin_M rfl (by rw [memOk_head rfl, show pagesOk m.ram = false by simpa using h1]; simp)
 refine CondP.mk (fun h3 => ?_) (fun h3 => ?_) <;> rw [h3] <;> (conv=>whnf)<;>repeat' first|(refine cond_t ?_;conv=>whnf)|(refine cond_f ?_;conv=>whnf)
 ·exact fin_M rfl (by rw [memOk_head rfl, show decide (m.ram.rf.length = 12) = false by simp at h3 ⊢; omega]; simp)
 refine op_callV [.pass] rfl rfl rfl (pagesOk_ok b3 b4 m.swp hf.st hf.sr) rfl ?_
 (conv=>whnf)<;>repeat' first|(refine cond_t ?_;conv=>whnf)|(refine cond_f ?_;conv=>whnf)
 refine CondP.mk (fun h2 => ?_) (fun h2 => ?_) <;> rw [h2] <;> (conv=>whnf)<;>repeat' first|(refine cond_t ?_;conv=>whnf)|(refine cond_f ?_;conv=>whnf)
 ·exact fin_M rfl (by rw [memOk_head rfl, show pagesOk m.swp = false by simpa using h2]; simp)
 refine CondP.mk (fun h4 => ?_) (fun h4 => ?_) <;> rw [h4] <;> (conv=>whnf)<;>repeat' first|(refine cond_t ?_;conv=>whnf)|(refine cond_f ?_;conv=>whnf)
 ·exact fin_M rfl (by rw [memOk_head rfl, show decide (m.swp.rf.length = 12) = false by simp at h4 ⊢; omega]; simp)
 refine CondP.mk (fun h5 => ?_) (fun h5 => ?_) <;> rw [h5] <;> (conv=>whnf)<;>repeat' first|(refine cond_t ?_;conv=>whnf)|(refine cond_f ?_;conv=>whnf)
 ·exact fin_M rfl (by rw [memOk_head rfl, show decide (m.sp.length = 5) = false by simp at h5 ⊢; omega]; simp)
 refine op_callV [.pass, .pass, .pass] rfl rfl rfl (in_ok _ _ _) rfl ?_
 (conv=>whnf)<;>repeat' first|(refine cond_t ?_;conv=>whnf)|(refine cond_f ?_;conv=>whnf)
 refine CondP.mk (fun h6 => ?_) (fun h6 => ?_) <;> (conv=>whnf)<;>repeat' first|(refine cond_t ?_;conv=>whnf)|(refine cond_f ?_;conv=>whnf)
 ·exact fin_M rfl (by rw [memOk_head rfl, show inB m.hd 0 11 = false by simpa using h6]; simp)
 have hl1 : m.ram.rf.length = 12 := by simp at h3; omega
 have hl2 : m.swp.rf.length = 12 := by simp at h4; omega
 have hl5 : m.sp.length = 5 := by simp at h5; omega
 have hd := memOk_head (m := m) (b := true) (by simp at h1 h2 h6; simp [h1, h2, hl1, hl2, hl5, h6])
 rw [Bool.true_and] at hd
 refine wm_seq (wm_base (wc_reg (sg_mk0 fun mid => ?_)))
 refine sg_ds [⟨none, some 3, .cp 54⟩] [] rfl rfl (GT_stab ..) ?_
 (conv=>whnf)<;>repeat' first|(refine cond_t ?_;conv=>whnf)|(refine cond_f ?_;conv=>whnf)
 refine sg_nil ⟨GT_stab .., ?_⟩
 (conv=>whnf)<;>repeat' first|(refine cond_t ?_;conv=>whnf)|(refine cond_f ?_;conv=>whnf)
 refine wm_seq (wm_base (wc_seq (wc_base (GT_stab ..) ?_)))
 (conv=>whnf)<;>repeat' first|(refine cond_t ?_;conv=>whnf)|(refine cond_f ?_;conv=>whnf)
 refine wc_blk ?_
 refine wc_loop (fun q : Nat × Tl => [(1, .v (.one (.ptr 0 0 0))), (3, .v (.one (.sc (.mp mid)))), (56, .v (.one (.ro b5 3 (m.sp.map rP)))), (57, .v (.one (dI (m.sp.map rP).length))), (58, .v (.one (dI q.1)))]) (fun _ => [(0, bM b1 b2 b3 b4 b5 m)]) (fun _ => 1) (fun q => GT c0 mid q.2)
  (fun q => q.1 ≤ m.sp.length ∧ Tells m q.2 q.1 0 ∧ ∀ j (hj : j < m.sp.length), j < q.1 → spOk m.sp[j] = true) (fun q => m.sp.length - q.1) (0, []) ⟨by omega, Tells.zero m, by omega⟩ rfl rfl rfl rfl fun q hq => ?_
 obtain ⟨i, L⟩ := q
 obtain ⟨hi1, hi2, hi3⟩ := hq
 simp only at hi1 hi2 hi3
 refine wc_seq (wc_base (GT_stab ..) ?_)
 (conv=>whnf)<;>repeat' first|(refine cond_t ?_;conv=>whnf)|(refine cond_f ?_;conv=>whnf)
 refine wc_seq (wc_base (GT_stab ..) ?_)
 (conv=>whnf)<;>repeat' first|(refine cond_t ?_;conv=>whnf)|(refine cond_f ?_;conv=>whnf)
 refine CondP.mk (fun h7 => ?_) (fun h7 => ?_) <;> (conv=>whnf)<;>repeat' first|(refine cond_t ?_;conv=>whnf)|(refine cond_f ?_;conv=>whnf)
 ·have hlt : i < m.sp.length := by simp at h7; omega
  have hs := hf.ss _ (List.getElem_mem hlt)
  refine wc_seq (wc_blk (wc_seq (wc_base (GT_stab ..) ?_)))
  (conv=>whnf)<;>repeat' first|(refine cond_t ?_;conv=>whnf)|(refine cond_f ?_;conv=>whnf)
  refine op_idx_ro (k := i) rfl rfl (by simpa using hlt) ?_
  (conv=>whnf)<;>repeat' first|(refine cond_t ?_;conv=>whnf)|(refine cond_f ?_;conv=>whnf)
  refine op_load_rp rfl (ldP hlt) ?_
  (conv=>whnf)<;>repeat' first|(refine cond_t ?_;conv=>whnf)|(refine cond_f ?_;conv=>whnf)
  have no : spOk m.sp[i] = false → memOk m = false := fun e => by
   have : m.sp.all spOk = false := by
    rw [List.all_eq_false]
    exact ⟨_, List.getElem_mem hlt, by simp [e]⟩
   rw [hd, this]; rfl
  refine wc_seq (wc_base (GT_stab ..) ?_)
  (conv=>whnf)<;>repeat' first|(refine cond_t ?_;conv=>whnf)|(refine cond_f ?_;conv=>whnf)
  refine CondP.mk (fun h8 => ?_) (fun h8 => ?_) <;> (conv=>whnf)<;>repeat' first|(refine cond_t ?_;conv=>whnf)|(refine cond_f ?_;conv=>whnf)
  ·-- a dead one
   have hlv : m.sp[i].lv = false := by simpa using h8
   refine CondP.mk (fun h9 => ?_) (fun h9 => ?_) <;> rw [h9] <;> (conv=>whnf)<;>repeat' first|(refine cond_t ?_;conv=>whnf)|(refine cond_f ?_;conv=>whnf)
   ·refine fin_M rfl (no ?_)
    have : ¬ m.sp[i].ar.length = 0 := by simp at h9; omega
    simp [spOk, spaceOk, hlv, this]
   refine CondP.mk (fun ha => ?_) (fun ha => ?_) <;> (conv=>whnf)<;>repeat' first|(refine cond_t ?_;conv=>whnf)|(refine cond_f ?_;conv=>whnf)
   ·refine fin_M rfl (no ?_)
    have : ¬ m.sp[i].sl.length = 0 := by simp at ha; omega
    simp [spOk, spaceOk, hlv, this]
   ·have e1 : m.sp[i].ar.length = 0 := by simpa using h9
    have e2 : m.sp[i].sl.length = 0 := by simpa using ha
    refine wc_base (GT_stab ..) ?_
    (conv=>whnf)<;>repeat' first|(refine cond_t ?_;conv=>whnf)|(refine cond_f ?_;conv=>whnf)
    refine ⟨(i + 1, L), by simp only; omega, ⟨by simp only; omega, hi2.dead hlt e2, fun j hj hji => ?_⟩, ?_, rfl, rfl, rfl⟩
    ·by_cases e : j = i
     ·subst e
      simp only [spOk, spaceOk, hlv, e1, e2, decide_true, Bool.and_true, Bool.true_and, if_false, Bool.false_eq_true]
      rw [List.length_eq_zero_iff.1 e2]; rfl
     ·exact hi3 j hj (by simp only at hji; omega)
    ·simp only [up hlt (by omega)]; rfl
  have hlv : m.sp[i].lv = true := by simpa using h8
  refine wc_seq (wc_base (GT_stab ..) ?_)
  (conv=>whnf)<;>repeat' first|(refine cond_t ?_;conv=>whnf)|(refine cond_f ?_;conv=>whnf)
  refine op_callV [.pass] rfl rfl rfl (areasOk_ok b5 m.sp[i].ar hs.1) rfl ?_
  (conv=>whnf)<;>repeat' first|(refine cond_t ?_;conv=>whnf)|(refine cond_f ?_;conv=>whnf)
  refine CondP.mk (fun h9 => ?_) (fun h9 => ?_) <;> rw [h9] <;> (conv=>whnf)<;>repeat' first|(refine cond_t ?_;conv=>whnf)|(refine cond_f ?_;conv=>whnf)
  ·refine fin_M rfl (no ?_)
   simp [spOk, spaceOk, hlv, show areasOk m.sp[i].ar = false by simpa using h9]
  have h9 : areasOk m.sp[i].ar = true := by simpa using h9
  refine CondP.mk (fun ha => ?_) (fun ha => ?_) <;> (conv=>whnf)<;>repeat' first|(refine cond_t ?_;conv=>whnf)|(refine cond_f ?_;conv=>whnf)
  ·refine fin_M rfl (no ?_)
   have : ¬ m.sp[i].sl.length = 16 := by simp at ha; omega
   simp [spOk, spaceOk, hlv, this]
  have ha : m.sp[i].sl.length = 16 := by simp at ha; omega
  have hat : ∀ page : Int, areasAt m.sp[i].ar page = areaAt m.sp[i].ar page := fun page => by rw [areasAt, h9, if_pos rfl]
  refine wc_seq (wc_base (GT_stab ..) ?_)
  (conv=>whnf)<;>repeat' first|(refine cond_t ?_;conv=>whnf)|(refine cond_f ?_;conv=>whnf)
  refine wc_blk ?_
  refine wc_loop (fun q : Nat × Tl => [(1, .v (.one (.ptr 0 0 0))), (3, .v (.one (.sc (.mp mid)))), (5, .v (.one (.ptr 1 0 0))), (56, .v (.one (.ro b5 3 (m.sp.map rP)))), (57, .v (.one (dI (m.sp.map rP).length))), (58, .v (.one (dI i))), (86, .v (.one (.ro b5 4 (m.sp[i].sl.map rL)))), (87, .v (.one (dI (m.sp[i].sl.map rL).length))), (88, .v (.one (dI q.1)))])
   (fun _ => [(1, .box [dB m.sp[i].lv, .ro b5 4 (m.sp[i].ar.map rA), .ro b5 4 (m.sp[i].sl.map rL)]), (0, bM b1 b2 b3 b4 b5 m)]) (fun _ => 2) (fun q => GT c0 mid q.2)
   (fun q => q.1 ≤ m.sp[i].sl.length ∧ Tells m q.2 i q.1 ∧ ∀ j (hj : j < m.sp[i].sl.length), j < q.1 → slotOk m.sp[i].ar j m.sp[i].sl[j] = true ∧ plOk m.sp[i].sl[j] = true) (fun q => m.sp[i].sl.length - q.1) (0, L) ⟨by omega, hi2, by omega⟩ rfl rfl rfl rfl fun q hq => ?_
  obtain ⟨j, L⟩ := q
  obtain ⟨hj1, hj2, hj3⟩ := hq
  simp only at hj1 hj2 hj3
  refine wc_seq (wc_base (GT_stab ..) ?_)
  (conv=>whnf)<;>repeat' first|(refine cond_t ?_;conv=>whnf)|(refine cond_f ?_;conv=>whnf)
  refine wc_seq (wc_base (GT_stab ..) ?_)
  (conv=>whnf)<;>repeat' first|(refine cond_t ?_;conv=>whnf)|(refine cond_f ?_;conv=>whnf)
  refine CondP.mk (fun hb => ?_) (fun hb => ?_) <;> (conv=>whnf)<;>repeat' first|(refine cond_t ?_;conv=>whnf)|(refine cond_f ?_;conv=>whnf)
  ·have hlj : j < m.sp[i].sl.length := by simpa using hb
   have nos : (slotOk m.sp[i].ar j m.sp[i].sl[j] = false ∨ plOk m.sp[i].sl[j] = false) → memOk m = false := fun e => by
    cases hm : memOk m with
    | false => rfl
    | true =>
     rcases e with e | e
     ·rw [memOk_slot hm hlt hlj hlv] at e; simp at e
     ·have := List.all_eq_true.1 (memOk_sp hm hlt).2 _ (List.getElem_mem hlj)
      rw [this] at e; simp at e
   refine wc_seq (wc_blk (wc_seq (wc_base (GT_stab ..) ?_)))
   (conv=>whnf)<;>repeat' first|(refine cond_t ?_;conv=>whnf)|(refine cond_f ?_;conv=>whnf)
   refine op_idx_ro (k := j) rfl rfl (by simpa using hlj) ?_
   (conv=>whnf)<;>repeat' first|(refine cond_t ?_;conv=>whnf)|(refine cond_f ?_;conv=>whnf)
   refine op_load_rp rfl (ldL hlj) ?_
   (conv=>whnf)<;>repeat' first|(refine cond_t ?_;conv=>whnf)|(refine cond_f ?_;conv=>whnf)
   refine wc_seqJ (fun ts H n γ => ∃ v : Bool, ts = [(1, .v (.one (.ptr 0 0 0))), (3, .v (.one (.sc (.mp mid)))), (5, .v (.one (.ptr 1 0 0))), (6, .v (.one (dI j))), (7, .v (.one (.ptr 2 0 0))), (56, .v (.one (.ro b5 3 (m.sp.map rP)))), (57, .v (.one (dI (m.sp.map rP).length))), (58, .v (.one (dI i))), (86, .v (.one (.ro b5 4 (m.sp[i].sl.map rL)))), (87, .v (.one (dI (m.sp[i].sl.map rL).length))), (88, .v (.one (dI j))), (134, .v (.one (dB v)))] ∧
    H = [(2, .box [dI m.sp[i].sl[j].kd, dI m.sp[i].sl[j].pl, dB m.sp[i].sl[j].ow, dB m.sp[i].sl[j].us]), (1, .box [dB m.sp[i].lv, .ro b5 4 (m.sp[i].ar.map rA), .ro b5 4 (m.sp[i].sl.map rL)]), (0, bM b1 b2 b3 b4 b5 m)] ∧ n = 3 ∧ γ = GT c0 mid L ∧ slotOk m.sp[i].ar j m.sp[i].sl[j] = true ∧ plOk m.sp[i].sl[j] = true ∧ ¬ m.sp[i].sl[j].kd = 0) (wc_blk (wc_seq (wc_base (GT_stab ..) ?_))) ?_
   rotate_left
   ·rintro ts H n γ ⟨v, rfl, rfl, rfl, rfl, hs1, hs2, hs3⟩
    refine wc_seq (wc_base (GT_stab ..) ?_)
    (conv=>whnf)<;>repeat' first|(refine cond_t ?_;conv=>whnf)|(refine cond_f ?_;conv=>whnf)
    refine wc_tellL hU0 rfl rfl rfl rfl (fun p hp => by have := hj2.len p hp; omega) ?_
    (conv=>whnf)<;>repeat' first|(refine cond_t ?_;conv=>whnf)|(refine cond_f ?_;conv=>whnf)
    refine op_callV [.pass, .pass] rfl rfl rfl (shared_ok b5 b5 m.sp[i] j hs.1) rfl ?_
    (conv=>whnf)<;>repeat' first|(refine cond_t ?_;conv=>whnf)|(refine cond_f ?_;conv=>whnf)
    simp only [hat]
    refine op_lit rfl rfl rfl ?_
    (conv=>whnf)<;>repeat' first|(refine cond_t ?_;conv=>whnf)|(refine cond_f ?_;conv=>whnf)
    refine ⟨⟨(m.sp[i].sl[j].kd, m.sp[i].sl[j].pl), (m.sp[i].sl[j].ow, shOf m.sp[i].ar (areaAt m.sp[i].ar (j : Int))), _, rfl, rfl, rfl, rfl, ⟨rfl, rfl, rfl, rfl⟩, ?_⟩⟩
    (conv=>whnf)<;>repeat' first|(refine cond_t ?_;conv=>whnf)|(refine cond_f ?_;conv=>whnf)
    refine wc_base (GT_stab ..) ?_
    (conv=>whnf)<;>repeat' first|(refine cond_t ?_;conv=>whnf)|(refine cond_f ?_;conv=>whnf)
    refine ⟨(j + 1, addT (m.sp[i].sl[j].kd, m.sp[i].sl[j].pl) (m.sp[i].sl[j].ow, shOf m.sp[i].ar (areaAt m.sp[i].ar (j : Int))) L), by simp only; omega, ⟨by simp only; omega, hj2.add hlt hlj, fun j' hj' hjj => ?_⟩, ?_, rfl, rfl, rfl⟩
    ·by_cases e : j' = j
     ·subst e; exact ⟨hs1, hs2⟩
     ·exact hj3 j' hj' (by simp only at hjj; omega)
    ·simp only [up hlj (by omega)]; rfl
   (conv=>whnf)<;>repeat' first|(refine cond_t ?_;conv=>whnf)|(refine cond_f ?_;conv=>whnf)
   have e0 : (m.sp[i].sl[j].kd == 0 && (m.sp[i].sl[j].pl == 0 && (m.sp[i].sl[j].ow == false && (m.sp[i].sl[j].us == false && true)))) = decide (m.sp[i].sl[j] = slot0) := by
    rcases m.sp[i].sl[j] with ⟨k, p, o, u⟩
    rw [Bool.eq_iff_iff]
    simp [slot0]
   refine CondP.mk (fun hk => ?_) (fun hk => ?_) <;> rw [hk] <;> (conv=>whnf)<;>repeat' first|(refine cond_t ?_;conv=>whnf)|(refine cond_f ?_;conv=>whnf)
   ·have hk : m.sp[i].sl[j].kd = 0 := by simpa using hk
    refine wc_base (GT_stab ..) ?_
    (conv=>whnf)<;>repeat' first|(refine cond_t ?_;conv=>whnf)|(refine cond_f ?_;conv=>whnf)
    refine op_eqA rfl rfl rfl rfl rfl ?_
    (conv=>whnf)<;>repeat' first|(refine cond_t ?_;conv=>whnf)|(refine cond_f ?_;conv=>whnf)
    refine CondP.mk (fun h4 => ?_) (fun h4 => ?_) <;> (conv=>whnf)<;>repeat' first|(refine cond_t ?_;conv=>whnf)|(refine cond_f ?_;conv=>whnf)
    ·refine fin_M rfl (nos (.inl ?_))
     rw [e0] at h4
     rw [slotOk, if_pos hk]
     simpa using h4
    ·rw [e0] at h4
     have h4 : m.sp[i].sl[j] = slot0 := by simpa using h4
     refine wc_base (GT_stab ..) ?_
     (conv=>whnf)<;>repeat' first|(refine cond_t ?_;conv=>whnf)|(refine cond_f ?_;conv=>whnf)
     refine ⟨(j + 1, L), by simp only; omega, ⟨by simp only; omega, hj2.skip hlt hlj hk, fun j' hj' hjj => ?_⟩, ?_, rfl, rfl, rfl⟩
     ·by_cases e : j' = j
      ·subst e; exact ⟨by rw [slotOk, if_pos hk]; simpa using h4, by simp [plOk, hk]⟩
      ·exact hj3 j' hj' (by simp only at hjj; omega)
     ·simp only [up hlj (by omega)]; rfl
   have hk : ¬ m.sp[i].sl[j].kd = 0 := by simpa using hk
   refine op_callV [.pass, .pass] rfl rfl rfl (areasAt_ok b5 m.sp[i].ar j hs.1) rfl ?_
   (conv=>whnf)<;>repeat' first|(refine cond_t ?_;conv=>whnf)|(refine cond_f ?_;conv=>whnf)
   rw [hat]
   refine wc_cond rfl (fun hp => ?_) (fun hp => ?_)
   ·have hp : areaAt m.sp[i].ar j < 0 := by simpa using hp
    refine wc_base (GT_stab ..) ?_
    (conv=>whnf)<;>repeat' first|(refine cond_t ?_;conv=>whnf)|(refine cond_f ?_;conv=>whnf)
    refine op_eqA rfl rfl rfl rfl rfl ?_
    (conv=>whnf)<;>repeat' first|(refine cond_t ?_;conv=>whnf)|(refine cond_f ?_;conv=>whnf)
    refine CondP.mk (fun h4 => ?_) (fun h4 => ?_) <;> (conv=>whnf)<;>repeat' first|(refine cond_t ?_;conv=>whnf)|(refine cond_f ?_;conv=>whnf)
    ·refine fin_M rfl (nos (.inl ?_))
     rw [slotOk, if_neg hk, show decide (0 ≤ areaAt m.sp[i].ar (j : Int)) = false by simp; omega]; rfl
    ·exfalso
     rw [e0] at h4
     have h4 : m.sp[i].sl[j] = slot0 := by simpa using h4
     exact hk (by rw [h4]; rfl)
   have hp : 0 ≤ areaAt m.sp[i].ar j := by simp at hp; omega
   have hpb : decide (areaAt m.sp[i].ar (j : Int) < 0) = false := by simp; omega
   refine wc_seqJ (fun ts H n γ => ∃ v : Bool, ts = [(1, .v (.one (.ptr 0 0 0))), (3, .v (.one (.sc (.mp mid)))), (5, .v (.one (.ptr 1 0 0))), (6, .v (.one (dI j))), (7, .v (.one (.ptr 2 0 0))), (56, .v (.one (.ro b5 3 (m.sp.map rP)))), (57, .v (.one (dI (m.sp.map rP).length))), (58, .v (.one (dI i))), (86, .v (.one (.ro b5 4 (m.sp[i].sl.map rL)))), (87, .v (.one (dI (m.sp[i].sl.map rL).length))), (88, .v (.one (dI j))), (107, .v (.one (dB v)))] ∧
    H = [(2, .box [dI m.sp[i].sl[j].kd, dI m.sp[i].sl[j].pl, dB m.sp[i].sl[j].ow, dB m.sp[i].sl[j].us]), (1, .box [dB m.sp[i].lv, .ro b5 4 (m.sp[i].ar.map rA), .ro b5 4 (m.sp[i].sl.map rL)]), (0, bM b1 b2 b3 b4 b5 m)] ∧ n = 3 ∧ γ = GT c0 mid L ∧ (v = true → memOk m = false) ∧ (v = false → inB m.sp[i].sl[j].kd 1 2 = true ∧ plOk m.sp[i].sl[j] = true)) ?_ ?_
   ·refine wc_base (GT_stab ..) ?_
    (conv=>whnf)<;>repeat' first|(refine cond_t ?_;conv=>whnf)|(refine cond_f ?_;conv=>whnf)
    have noh : ∀ {p : Pages}, (m.sp[i].sl[j].kd = 1 ∧ p = m.ram ∨ m.sp[i].sl[j].kd = 2 ∧ p = m.swp) → (inB m.sp[i].sl[j].pl 0 (p.rf.length - 1) && decide (0 < p.rf[m.sp[i].sl[j].pl.toNat]?.getD 0)) = false → memOk m = false := fun {p} hp hh => by
     cases hm : memOk m with
     | false => rfl
     | true =>
      exfalso
      obtain ⟨k1, k2⟩ := has_of hm (List.getElem_mem hlt) (List.getElem_mem hlj)
      rcases hp with ⟨e, rfl⟩ | ⟨e, rfl⟩
      ·obtain ⟨q1, q2⟩ := k1 e
       rw [hl1, show ((12 : Nat) : Int) - 1 = 11 from rfl, q1] at hh
       simp at hh
       omega
      ·obtain ⟨q1, q2⟩ := k2 e
       rw [hl2, show ((12 : Nat) : Int) - 1 = 11 from rfl, q1] at hh
       simp at hh
       omega
    have nin : (!inB m.sp[i].sl[j].kd 1 2) = true → memOk m = false := fun e => nos (.inl (by rw [slotOk, if_neg hk, show inB m.sp[i].sl[j].kd 1 2 = false by simpa using e]; simp))
    refine CondP.mk (fun c1 => ?_) (fun c1 => ?_) <;> rw [c1] <;> (conv=>whnf)<;>repeat' first|(refine cond_t ?_;conv=>whnf)|(refine cond_f ?_;conv=>whnf)
    ·have c1 : m.sp[i].sl[j].kd = 1 := by simpa using c1
     refine op_callV [.pass, .pass] rfl rfl rfl (has_ok b1 b2 m.ram m.sp[i].sl[j].pl (by omega)) rfl ?_
     (conv=>whnf)<;>repeat' first|(refine cond_t ?_;conv=>whnf)|(refine cond_f ?_;conv=>whnf)
     refine CondP.mk (fun hh => ?_) (fun hh => ?_) <;> (conv=>whnf)<;>repeat' first|(refine cond_t ?_;conv=>whnf)|(refine cond_f ?_;conv=>whnf)
     ·exact ⟨_, rfl, rfl, rfl, rfl, fun _ => noh (.inl ⟨c1, rfl⟩) (by simpa only [Bool.not_eq_true'] using hh), fun e => by rw [hh] at e; simp at e⟩
     ·refine CondP.mk (fun c2 => ?_) (fun c2 => ?_) <;> rw [c2] <;> (conv=>whnf)<;>repeat' first|(refine cond_t ?_;conv=>whnf)|(refine cond_f ?_;conv=>whnf)
      ·simp at c2; omega
      ·refine op_callV [.pass, .pass, .pass] rfl rfl rfl (in_ok _ _ _) rfl ?_
       (conv=>whnf)<;>repeat' first|(refine cond_t ?_;conv=>whnf)|(refine cond_f ?_;conv=>whnf)
       refine ⟨_, rfl, rfl, rfl, rfl, nin, fun e => ⟨by simpa using e, ?_⟩⟩
       rw [hl1, show ((12 : Nat) : Int) - 1 = 11 from rfl] at hh
       simp only [Bool.not_eq_false', Bool.and_eq_true] at hh
       rw [plOk, hh.1, Bool.or_true]
    ·have c1 : ¬ m.sp[i].sl[j].kd = 1 := by simpa using c1
     refine CondP.mk (fun c2 => ?_) (fun c2 => ?_) <;> rw [c2] <;> (conv=>whnf)<;>repeat' first|(refine cond_t ?_;conv=>whnf)|(refine cond_f ?_;conv=>whnf)
     ·have c2 : m.sp[i].sl[j].kd = 2 := by simpa using c2
      refine op_callV [.pass, .pass] rfl rfl rfl (has_ok b3 b4 m.swp m.sp[i].sl[j].pl (by omega)) rfl ?_
      (conv=>whnf)<;>repeat' first|(refine cond_t ?_;conv=>whnf)|(refine cond_f ?_;conv=>whnf)
      refine CondP.mk (fun hh => ?_) (fun hh => ?_) <;> (conv=>whnf)<;>repeat' first|(refine cond_t ?_;conv=>whnf)|(refine cond_f ?_;conv=>whnf)
      ·exact ⟨_, rfl, rfl, rfl, rfl, fun _ => noh (.inr ⟨c2, rfl⟩) (by simpa only [Bool.not_eq_true'] using hh), fun e => by rw [hh] at e; simp at e⟩
      ·refine op_callV [.pass, .pass, .pass] rfl rfl rfl (in_ok _ _ _) rfl ?_
       (conv=>whnf)<;>repeat' first|(refine cond_t ?_;conv=>whnf)|(refine cond_f ?_;conv=>whnf)
       refine ⟨_, rfl, rfl, rfl, rfl, nin, fun e => ⟨by simpa using e, ?_⟩⟩
       rw [hl2, show ((12 : Nat) : Int) - 1 = 11 from rfl] at hh
       simp only [Bool.not_eq_false', Bool.and_eq_true] at hh
       rw [plOk, hh.1, Bool.or_true]
     ·have c2 : ¬ m.sp[i].sl[j].kd = 2 := by simpa using c2
      refine op_callV [.pass, .pass, .pass] rfl rfl rfl (in_ok _ _ _) rfl ?_
      (conv=>whnf)<;>repeat' first|(refine cond_t ?_;conv=>whnf)|(refine cond_f ?_;conv=>whnf)
      refine ⟨_, rfl, rfl, rfl, rfl, nin, fun e => ⟨by simpa using e, ?_⟩⟩
      simp only [Bool.not_eq_false', inB, Bool.and_eq_true, decide_eq_true_eq] at e
      omega
   ·rintro ts H n γ ⟨v, rfl, rfl, rfl, rfl, hv1, hv2⟩
    refine wc_base (GT_stab ..) ?_
    (conv=>whnf)<;>repeat' first|(refine cond_t ?_;conv=>whnf)|(refine cond_f ?_;conv=>whnf)
    refine CondP.mk (fun hv => ?_) (fun hv => ?_) <;> rw [hv] <;> (conv=>whnf)<;>repeat' first|(refine cond_t ?_;conv=>whnf)|(refine cond_f ?_;conv=>whnf)
    ·exact fin_M rfl (hv1 hv)
    obtain ⟨hin, hpl⟩ := hv2 hv
    refine op_callV [.pass, .pass] rfl rfl rfl (shared_ok b5 b5 m.sp[i] j hs.1) rfl ?_
    (conv=>whnf)<;>repeat' first|(refine cond_t ?_;conv=>whnf)|(refine cond_f ?_;conv=>whnf)
    rw [hat]
    refine CondP.mk (fun hsh => ?_) (fun hsh => ?_) <;> rw [hsh] <;> (conv=>whnf)<;>repeat' first|(refine cond_t ?_;conv=>whnf)|(refine cond_f ?_;conv=>whnf)
    ·refine CondP.mk (fun how => ?_) (fun how => ?_) <;> (conv=>whnf)<;>repeat' first|(refine cond_t ?_;conv=>whnf)|(refine cond_f ?_;conv=>whnf)
     ·refine fin_M rfl (nos (.inl ?_))
      rw [slotOk, if_neg hk, hsh]
      have : m.sp[i].sl[j].ow = false := by simpa using how
      simp [this]
     ·refine ⟨_, rfl, rfl, rfl, rfl, ?_, hpl, hk⟩
      have : m.sp[i].sl[j].ow = true := by simpa using how
      rw [slotOk, if_neg hk, hin, this]
      simp [hp]
    ·refine ⟨_, rfl, rfl, rfl, rfl, ?_, hpl, hk⟩
     rw [slotOk, if_neg hk, hin, hsh]
     simp [hp]
  ·have hje : j = m.sp[i].sl.length := by
                       have : ¬ j < m.sp[i].sl.length := by simpa using hb
                       omega
   refine wc_base (GT_stab ..) ?_
   (conv=>whnf)<;>repeat' first|(refine cond_t ?_;conv=>whnf)|(refine cond_f ?_;conv=>whnf)
   refine ⟨(i + 1, L), by simp only; omega, ⟨by simp only; omega, hj2.next hlt hje.symm (by omega), fun i' hi' hii => ?_⟩, ?_, rfl, rfl, rfl⟩
   ·by_cases e : i' = i
    ·subst e
     have h1 : slotsFrom m.sp[i'].ar 0 m.sp[i'].sl = true := slotsFrom_of fun j' x hx => by
      obtain ⟨hj', rfl⟩ := List.getElem?_eq_some_iff.1 hx
      rw [Nat.zero_add]
      exact (hj3 j' hj' (by omega)).1
     have h2 : m.sp[i'].sl.all plOk = true := List.all_eq_true.2 fun x hx => by
      obtain ⟨j', hj', rfl⟩ := List.getElem_of_mem hx
      exact (hj3 j' hj' (by omega)).2
     rw [spOk, spaceOk, if_pos hlv, h9, ha, h1, h2]; rfl
    ·exact hi3 i' hi' (by simp only at hii; omega)
   ·simp only [up hlt (by omega)]; rfl
 ·have hie : i = m.sp.length := by simp at h7; omega
  have hall : m.sp.all spOk = true := List.all_eq_true.2 fun x hx => by
   obtain ⟨j', hj', rfl⟩ := List.getElem_of_mem hx
   exact hi3 j' hj' (by omega)
  rw [hall, Bool.true_and] at hd
  have htell : ∀ {kd pl : Int}, kd ≠ 0 → lookL L (kd, pl) = tel kd pl m.sp := fun hk => hi2.all hie hk
  refine wm_seq (wm_seq (wm_base (wc_reg (sg_mk2 fun oid => ?_))))
  refine sg_dn 2 (G1_stab ..) rfl ?_
  (conv=>whnf)<;>repeat' first|(refine cond_t ?_;conv=>whnf)|(refine cond_f ?_;conv=>whnf)
  refine sg_set (p := m.ram) rfl rfl (by simp) ?_
  refine sg_dn 2 (G1_stab ..) rfl ?_
  (conv=>whnf)<;>repeat' first|(refine cond_t ?_;conv=>whnf)|(refine cond_f ?_;conv=>whnf)
  refine sg_set (p := m.swp) rfl rfl (by simp) ?_
  refine sg_dn 1 (G1_stab ..) rfl ?_
  (conv=>whnf)<;>repeat' first|(refine cond_t ?_;conv=>whnf)|(refine cond_f ?_;conv=>whnf)
  refine sg_rng rfl fun iid => ?_
  refine sg_nil ⟨G2_stab .., ?_⟩
  (conv=>whnf)<;>repeat' first|(refine cond_t ?_;conv=>whnf)|(refine cond_f ?_;conv=>whnf)
  let refJ : Nat → Bool := fun j => if j = 0 then refsOk 1 m.sp 0 m.ram.rf else refsOk 2 m.sp 0 m.swp.rf
  refine wm_blk ?_
  refine wm_loop (fun _ : List Nat => [(3, .v (.one (.sc (.mp mid)))), (169, .v (.one (.sc (.ptr iid 0))))]) (fun _ => []) (fun _ => 0) (fun seen => G2 c0 mid oid iid L [(1, m.ram), (2, m.swp)] seen)
   (fun seen => (seen = [] ∨ seen = [0] ∨ seen = [1] ∨ seen = [0, 1] ∨ seen = [1, 0]) ∧ ∀ j, j ∈ seen → refJ j = true) (fun seen => 2 - seen.length) [] ⟨.inl rfl, by simp⟩ rfl rfl rfl rfl fun seen hseen => ?_
  obtain ⟨hs1, hs2⟩ := hseen
  refine wm_seq (wm_nxt rfl rfl (fun hend => ⟨G2_stab .., ?_⟩) (fun j hj hjn => ⟨G2_stab .., ?_⟩))
  ·(conv=>whnf)<;>repeat' first|(refine cond_t ?_;conv=>whnf)|(refine cond_f ?_;conv=>whnf)
   refine wm_base (wc_seq (wc_base (G2_stab ..) ?_))
   (conv=>whnf)<;>repeat' first|(refine cond_t ?_;conv=>whnf)|(refine cond_f ?_;conv=>whnf)
   refine wm_base (wc_base (G2_stab ..) ?_)
   (conv=>whnf)<;>repeat' first|(refine cond_t ?_;conv=>whnf)|(refine cond_f ?_;conv=>whnf)
   refine fin_M rfl ?_
   have r0 := hs2 0 (hend 0 (by simp))
   have r1 := hs2 1 (hend 1 (by simp))
   simp only [refJ, if_true] at r0 r1
   rw [if_neg (by decide)] at r1
   rw [hd, r0, r1]; rfl
  ·(conv=>whnf)<;>repeat' first|(refine cond_t ?_;conv=>whnf)|(refine cond_f ?_;conv=>whnf)
   obtain ⟨kd, pg, hp, hkd, hrl, href⟩ : ∃ (kd : Int) (pg : Pages), [((1 : Int), m.ram), (2, m.swp)][j]? = some (kd, pg) ∧ kd ≠ 0 ∧ pg.rf.length = 12 ∧ refsOk kd m.sp 0 pg.rf = refJ j := by
    match j, hj with
    | 0, _ => exact ⟨1, m.ram, rfl, by decide, hl1, rfl⟩
    | 1, _ => exact ⟨2, m.swp, rfl, by decide, hl2, rfl⟩
   have hno : refsOk kd m.sp 0 pg.rf = false → memOk m = false := fun e => by
    rw [hd]
    match j, hj with
    | 0, _ => rw [href] at e; simp only [refJ, if_true] at e; rw [e]; rfl
    | 1, _ => rw [href] at e; simp only [refJ] at e; rw [if_neg (by decide)] at e; rw [e]; simp
   refine wm_base (wc_seq (wc_base (G2_stab ..) ?_))
   (conv=>whnf)<;>repeat' first|(refine cond_t ?_;conv=>whnf)|(refine cond_f ?_;conv=>whnf)
   refine wc_blk (wc_seq (wc_reg (sg_ety rfl hp ?_)))
   refine sg_dn 5 (G2_stab ..) rfl ?_
   (conv=>whnf)<;>repeat' first|(refine cond_t ?_;conv=>whnf)|(refine cond_f ?_;conv=>whnf)
   refine sg_nil ⟨G2_stab .., ?_⟩
   (conv=>whnf)<;>repeat' first|(refine cond_t ?_;conv=>whnf)|(refine cond_f ?_;conv=>whnf)
   refine wc_seq (wc_base (G2_stab ..) ?_)
   (conv=>whnf)<;>repeat' first|(refine cond_t ?_;conv=>whnf)|(refine cond_f ?_;conv=>whnf)
   refine wc_blk ?_
   refine wc_loop (fun a : Nat => [(3, .v (.one (.sc (.mp mid)))), (9, .v (.one (dI kd))), (169, .v (.one (.sc (.ptr iid 0)))), (176, .v (.one (.ro true 1 (pg.rf.map rI)))), (177, .v (.one (dI (pg.rf.map rI).length))), (178, .v (.one (dI a)))]) (fun _ => []) (fun _ => 0) (fun _ => G2 c0 mid oid iid L [(1, m.ram), (2, m.swp)] (seen ++ [j]))
    (fun a => a ≤ pg.rf.length ∧ refsOk kd m.sp 0 pg.rf = refsOk kd m.sp a (pg.rf.drop a)) (fun a => pg.rf.length - a) 0 ⟨by omega, by simp⟩ rfl rfl rfl rfl fun a ha => ?_
   obtain ⟨ha1, ha2⟩ := ha
   refine wc_seq (wc_base (G2_stab ..) ?_)
   (conv=>whnf)<;>repeat' first|(refine cond_t ?_;conv=>whnf)|(refine cond_f ?_;conv=>whnf)
   refine wc_seq (wc_base (G2_stab ..) ?_)
   (conv=>whnf)<;>repeat' first|(refine cond_t ?_;conv=>whnf)|(refine cond_f ?_;conv=>whnf)
   refine CondP.mk (fun hb => ?_) (fun hb => ?_) <;> (conv=>whnf)<;>repeat' first|(refine cond_t ?_;conv=>whnf)|(refine cond_f ?_;conv=>whnf)
   ·have hla : a < pg.rf.length := by simpa using hb
    rw [refsOk_step hla] at ha2
    have no2 : refOk kd m.sp a pg.rf[a] = false → memOk m = false := fun e => hno (by rw [ha2, e]; rfl)
    refine wc_seq (wc_blk (wc_seq (wc_base (G2_stab ..) ?_)))
    (conv=>whnf)<;>repeat' first|(refine cond_t ?_;conv=>whnf)|(refine cond_f ?_;conv=>whnf)
    refine op_idx_ro (k := a) rfl rfl (by simpa using hla) ?_
    (conv=>whnf)<;>repeat' first|(refine cond_t ?_;conv=>whnf)|(refine cond_f ?_;conv=>whnf)
    refine op_load_rp rfl (r := .one (dI pg.rf[a])) (by simp [loadRp, rI, hla, eI, PV.dc, dI]) ?_
    (conv=>whnf)<;>repeat' first|(refine cond_t ?_;conv=>whnf)|(refine cond_f ?_;conv=>whnf)
    refine wc_seq (wc_reg (sg_dn 4 (G2_stab ..) rfl ?_))
    (conv=>whnf)<;>repeat' first|(refine cond_t ?_;conv=>whnf)|(refine cond_f ?_;conv=>whnf)
    refine sg_look (k := (kd, (a : Int))) rfl rfl ?_
    rw [htell hkd]
    refine sg_dn 1 (G2_stab ..) rfl ?_
    (conv=>whnf)<;>repeat' first|(refine cond_t ?_;conv=>whnf)|(refine cond_f ?_;conv=>whnf)
    refine sg_nil ⟨G2_stab .., ?_⟩
    (conv=>whnf)<;>repeat' first|(refine cond_t ?_;conv=>whnf)|(refine cond_f ?_;conv=>whnf)
    have hrefT : refOk kd m.sp a pg.rf[a] = (decide (((tel kd (a : Int) m.sp).length : Int) = pg.rf[a]) && alone (tel kd (a : Int) m.sp)) := rfl
    have hTl : (tel kd (a : Int) m.sp).length ≤ 4611686018427387904 := by
     have := tel_len (kd := kd) (pl := (a : Int)) (n := 16) (l := m.sp) fun s hs => by
      have := List.all_eq_true.1 hall s hs
      simp only [spOk, Bool.and_eq_true] at this
      exact spaceOk_len this.1
     omega
    generalize tel kd (a : Int) m.sp = T at *
    refine wc_base (G2_stab ..) ?_
    (conv=>whnf)<;>repeat' first|(refine cond_t ?_;conv=>whnf)|(refine cond_f ?_;conv=>whnf)
    refine CondP.mk (fun h8 => ?_) (fun h8 => ?_) <;> (conv=>whnf)<;>repeat' first|(refine cond_t ?_;conv=>whnf)|(refine cond_f ?_;conv=>whnf)
    ·refine fin_M rfl (no2 ?_)
     rw [hrefT, show decide ((T.length : Int) = pg.rf[a]) = false by simpa using h8]; rfl
    have hlen : (T.length : Int) = pg.rf[a] := by simpa using h8
    have bad : ∀ {x y : Nat}, x < T.length → y < T.length → pairOkT T x y = false → memOk m = false := fun hx hy e => no2 (by rw [hrefT, alone_not hx hy e]; simp)
    refine loop_at (fun x : Nat => [(3, .v (.one (.sc (.mp mid)))), (9, .v (.one (dI kd))), (13, .v (.one (.ro true 2 (T.map rT)))), (169, .v (.one (.sc (.ptr iid 0)))), (176, .v (.one (.ro true 1 (pg.rf.map rI)))), (177, .v (.one (dI (pg.rf.map rI).length))), (178, .v (.one (dI a))), (192, .v (.one (.ro true 2 (T.map rT)))), (193, .v (.one (dI (T.map rT).length))), (194, .v (.one (dI x)))]) (fun _ => []) (fun _ => 0) (fun x => x ≤ T.length ∧ ∀ x' y', x' < x → y' < T.length → pairOkT T x' y' = true) (fun x => T.length - x) 0 ⟨by omega, by omega⟩ rfl rfl rfl fun x hx => ?_
    obtain ⟨hx1, hx2⟩ := hx
    (conv=>whnf)<;>repeat' first|(refine cond_t ?_;conv=>whnf)|(refine cond_f ?_;conv=>whnf)
    refine CondP.mk (fun h9 => ?_) (fun h9 => ?_) <;> (conv=>whnf)<;>repeat' first|(refine cond_t ?_;conv=>whnf)|(refine cond_f ?_;conv=>whnf)
    ·have hlx : x < T.length := by simpa using h9
     refine op_idx_ro (k := x) rfl rfl (by simpa using hlx) ?_
     (conv=>whnf)<;>repeat' first|(refine cond_t ?_;conv=>whnf)|(refine cond_f ?_;conv=>whnf)
     refine op_load_rp rfl (r := .agg [dB T[x].1, dB T[x].2]) (by simp [loadRp, rT, hlx, eB, PV.dc, dB]) ?_
     (conv=>whnf)<;>repeat' first|(refine cond_t ?_;conv=>whnf)|(refine cond_f ?_;conv=>whnf)
     refine loop_at (fun y : Nat => [(3, .v (.one (.sc (.mp mid)))), (9, .v (.one (dI kd))), (13, .v (.one (.ro true 2 (T.map rT)))), (14, .v (.one (dI x))), (15, .v (.one (.ptr 0 0 0))), (169, .v (.one (.sc (.ptr iid 0)))), (176, .v (.one (.ro true 1 (pg.rf.map rI)))), (177, .v (.one (dI (pg.rf.map rI).length))), (178, .v (.one (dI a))), (192, .v (.one (.ro true 2 (T.map rT)))), (193, .v (.one (dI (T.map rT).length))), (194, .v (.one (dI x))), (199, .v (.one (.ro true 2 (T.map rT)))), (200, .v (.one (dI (T.map rT).length))), (201, .v (.one (dI y)))]) (fun _ => [(0, .box [dB T[x].1, dB T[x].2])]) (fun _ => 1) (fun y => y ≤ T.length ∧ ∀ y', y' < y → pairOkT T x y' = true) (fun y => T.length - y) 0 ⟨by omega, by omega⟩ rfl rfl rfl fun y hy => ?_
     obtain ⟨hy1, hy2⟩ := hy
     (conv=>whnf)<;>repeat' first|(refine cond_t ?_;conv=>whnf)|(refine cond_f ?_;conv=>whnf)
     refine CondP.mk (fun hc => ?_) (fun hc => ?_) <;> (conv=>whnf)<;>repeat' first|(refine cond_t ?_;conv=>whnf)|(refine cond_f ?_;conv=>whnf)
     ·have hly : y < T.length := by simpa using hc
      refine op_idx_ro (k := y) rfl rfl (by simpa using hly) ?_
      (conv=>whnf)<;>repeat' first|(refine cond_t ?_;conv=>whnf)|(refine cond_f ?_;conv=>whnf)
      refine op_load_rp rfl (r := .agg [dB T[y].1, dB T[y].2]) (by simp [loadRp, rT, hly, eB, PV.dc, dB]) ?_
      (conv=>whnf)<;>repeat' first|(refine cond_t ?_;conv=>whnf)|(refine cond_f ?_;conv=>whnf)
      have pe : pairOkT T x y = (decide (x = y) || !(T[x].1 && !(T[x].2 && T[y].2))) := by simp [pairOkT, hlx, hly]
      have nexty : pairOkT T x y = true → ∀ y', y' < y + 1 → pairOkT T x y' = true := fun e y' hy' => by
       by_cases e2 : y' = y
       ·subst e2; exact e
       ·exact hy2 y' (by omega)
      refine CondP.mk (fun d1 => ?_) (fun d1 => ?_) <;> rw [d1] <;> (conv=>whnf)<;>repeat' first|(refine cond_t ?_;conv=>whnf)|(refine cond_f ?_;conv=>whnf)
      ·have d1 : ¬ x = y := by simp at d1; omega
       refine CondP.mk (fun d2 => ?_) (fun d2 => ?_) <;> rw [d2] <;> (conv=>whnf)<;>repeat' first|(refine cond_t ?_;conv=>whnf)|(refine cond_f ?_;conv=>whnf)
       ·refine CondP.mk (fun d3 => ?_) (fun d3 => ?_) <;> rw [d3] <;> (conv=>whnf)<;>repeat' first|(refine cond_t ?_;conv=>whnf)|(refine cond_f ?_;conv=>whnf)
        ·refine CondP.mk (fun d4 => ?_) (fun d4 => ?_) <;> (conv=>whnf)<;>repeat' first|(refine cond_t ?_;conv=>whnf)|(refine cond_f ?_;conv=>whnf)
         ·exact fin_M rfl (bad hlx hly (by rw [pe, d2, d3, show T[y].2 = false by simpa using d4]; simp [d1]))
         ·refine ⟨y + 1, by omega, ⟨by omega, nexty (by rw [pe, d2, d3, show T[y].2 = true by simpa using d4]; simp)⟩, ?_, rfl, rfl⟩
          rw [up hly hTl]; rfl
        ·exact fin_M rfl (bad hlx hly (by rw [pe, d2, d3]; simp [d1]))
       ·refine ⟨y + 1, by omega, ⟨by omega, nexty (by rw [pe, d2]; simp)⟩, ?_, rfl, rfl⟩
        rw [up hly hTl]; rfl
      ·have d1 : x = y := by simp at d1; omega
       refine ⟨y + 1, by omega, ⟨by omega, nexty (by rw [pe]; simp [d1])⟩, ?_, rfl, rfl⟩
       rw [up hly hTl]; rfl
     ·have hye : y = T.length := by
                     have : ¬ y < T.length := by simpa using hc
                     omega
      refine ⟨x + 1, by omega, ⟨by omega, fun x' y' hx' hy' => ?_⟩, ?_, rfl, rfl⟩
      ·by_cases e : x' = x
       ·subst e; exact hy2 y' (by omega)
       ·exact hx2 x' y' (by omega) hy'
      ·rw [up hlx hTl]; rfl
    ·have hxe : x = T.length := by
                    have : ¬ x < T.length := by simpa using h9
                    omega
     have hal : alone T = true := alone_of fun x' y' hx' hy' => hx2 x' y' (by omega) hy'
     refine wc_base (G2_stab ..) ?_
     (conv=>whnf)<;>repeat' first|(refine cond_t ?_;conv=>whnf)|(refine cond_f ?_;conv=>whnf)
     refine ⟨a + 1, by omega, ⟨by omega, ?_⟩, ?_, rfl, rfl, rfl⟩
     ·rw [ha2, hrefT, hal, decide_eq_true hlen]; rfl
     ·rw [up hla (by omega)]; rfl
   ·have hae : a = pg.rf.length := by
                     have : ¬ a < pg.rf.length := by simpa using hb
                     omega
    subst hae
    rw [List.drop_length] at ha2
    simp only [refsOk] at ha2
    refine ⟨seen ++ [j], [3, 169], ?_, ⟨?_, fun j' hj' => ?_⟩, rfl, rfl, rfl, rfl⟩
    ·simp only [List.length_append, List.length_cons, List.length_nil]
     rcases hs1 with rfl | rfl | rfl | rfl | rfl <;> simp at hjn ⊢
     all_goals (simp at hj; omega)
    ·simp only [List.length_cons, List.length_nil] at hj
     have : j = 0 ∨ j = 1 := by omega
     rcases hs1 with rfl | rfl | rfl | rfl | rfl <;> rcases this with rfl | rfl <;> simp at hjn ⊢
    ·rcases List.mem_append.1 hj' with hj' | hj'
     ·exact hs2 j' hj'
     ·simp only [List.mem_singleton] at hj'
      subst hj'
      rw [← href, ha2]
end Go.Qm
namespace Go.Qm
open Go.Cq Go.Cq.D Go.RowKit Go.Proofs Go.ChangeShapes Go.WideShapes Go.ChangeAt
set_option maxRecDepth 10000
section
variable {H : Type} {enc : TypeId × Value → H} {W : World} {sp : Nat → Bool} {held : Bool}
theorem c3 : Try.prog.cellsOf 3 = 1 := by kernel_rfl
theorem c4 : Try.prog.cellsOf 4 = 1 := by kernel_rfl
theorem c9 : Try.prog.cellsOf 9 = 1 := by kernel_rfl
theorem c22 : Try.prog.cellsOf 22 = 1 := by kernel_rfl
theorem c23 : Try.prog.cellsOf 23 = 1 := by kernel_rfl
theorem c25 : Try.prog.cellsOf 25 = 2 := by kernel_rfl
theorem c26 : Try.prog.cellsOf 26 = 1 := by kernel_rfl
theorem c28 : Try.prog.cellsOf 28 = 6 := by kernel_rfl
theorem c77 : Try.prog.cellsOf 77 = 4 := by kernel_rfl
theorem c150 : Try.prog.cellsOf 150 = 1 := by kernel_rfl
theorem c151 : Try.prog.cellsOf 151 = 1 := by kernel_rfl
theorem c153 : Try.prog.cellsOf 153 = 3 := by kernel_rfl
theorem c198 : Try.prog.cellsOf 198 = 4 := by kernel_rfl
abbrev HasB (W : World) : Prop := ∃ (B : Nat) (c : Array Value) (e : TypeId) (fr : Nat × Nat), W.heap[B]? = some (.cells c e fr)
instance : Inhabited Area := ⟨⟨0, 0, false, false⟩⟩
instance : Inhabited Slot := ⟨⟨0, 0, false, false⟩⟩
instance : Inhabited Space := ⟨⟨false, [], []⟩⟩
theorem ev_int {n : Nat} {c : Value} {x : DataW H × List MemPlace} (h : DataW.trod enc Try.prog W 0 sp held n 3 [c] = some x) : ∃ k : Int, c = .int .i64 k := by
 obtain ⟨k, h1, -, -⟩ := DataW.trod_int Try.underlying3 h
 simp only [List.cons.injEq, and_true] at h1
 exact ⟨k, h1⟩
theorem ev_bool {n : Nat} {c : Value} {x : DataW H × List MemPlace} (h : DataW.trod enc Try.prog W 0 sp held n 4 [c] = some x) : ∃ k : Bool, c = .bool k := by
 obtain ⟨k, h1, -⟩ := DataW.trod_bool Try.underlying4 h
 simp only [List.cons.injEq, and_true] at h1
 exact ⟨k, h1⟩
theorem fld {fs : Array Field} {xs : List (DataW H × List MemPlace)} {n : Nat} {cs : List Value} (h1 : xs.length = fs.size) (h2 : ∀ (i : Nat) (f : Field), fs[i]? = some f → DataW.trod enc Try.prog W 0 sp held n f.type ((cs.drop f.offset).take (Try.prog.cellsOf f.type)) = xs[i]?)
  (i : Nat) {t off m : Nat} (hf : (fs[i]?).map (fun f => (f.type, f.offset)) = some (t, off)) (hm : Try.prog.cellsOf t = m) : ∃ y, DataW.trod enc Try.prog W 0 sp held n t ((cs.drop off).take m) = some y := by
 simp only [Option.map_eq_some_iff, Prod.mk.injEq] at hf
 obtain ⟨f, hf, rfl, rfl⟩ := hf
 have hlt := (Array.getElem?_eq_some_iff.1 hf).1
 rw [← hm]
 exact ⟨_, (h2 i f hf).trans (List.getElem?_eq_getElem (by omega))⟩
theorem one_cell {cs : List Value} (h : cs.length = 1) : ∃ a, cs = [a] := by
 match cs, h with
 | [a], _ => exact ⟨a, rfl⟩
theorem three_cells {cs : List Value} (h : cs.length = 3) : ∃ a b c, cs = [a, b, c] := by
 match cs, h with
 | [a, b, c], _ => exact ⟨a, b, c, rfl⟩
theorem four_cells {cs : List Value} (h : cs.length = 4) : ∃ a b c d, cs = [a, b, c, d] := by
 match cs, h with
 | [a, b, c, d], _ => exact ⟨a, b, c, d, rfl⟩
theorem six_cells {cs : List Value} (h : cs.length = 6) : ∃ a b c d e f, cs = [a, b, c, d, e, f] := by
 match cs, h with
 | [a, b, c, d, e, f], _ => exact ⟨a, b, c, d, e, f, rfl⟩
theorem el_four {t : TypeId} {fs : Array Field} (hu : Try.prog.underlying t = some (.struct fs)) {n1 n2 n3 n4 : String} {e1 e2 e3 e4 : Bool} {g1 g2 g3 g4 p1 p2 p3 p4 : String} {o1 o2 o3 o4 : Nat}
  (hfs : fs = #[⟨n1, 3, 0, e1, g1, p1, o1⟩, ⟨n2, 3, 1, e2, g2, p2, o2⟩, ⟨n3, 4, 2, e3, g3, p3, o3⟩, ⟨n4, 4, 3, e4, g4, p4, o4⟩]) {n : Nat} {cs : List Value} {x : DataW H × List MemPlace} (hl : cs.length = 4) (h : DataW.trod enc Try.prog W 0 sp held n t cs = some x) :
  ∃ (a b : Int) (c d : Bool), cs = [.int .i64 a, .int .i64 b, .bool c, .bool d] := by
 obtain ⟨a, b, c, d, rfl⟩ := four_cells hl
 subst hfs
 obtain ⟨xs, m, -, -, -, h1, h2⟩ := DataW.trod_struct hu h
 obtain ⟨y0, k0⟩ := fld h1 h2 0 (t := 3) (off := 0) rfl c3
 obtain ⟨y1, k1⟩ := fld h1 h2 1 (t := 3) (off := 1) rfl c3
 obtain ⟨y2, k2⟩ := fld h1 h2 2 (t := 4) (off := 2) rfl c4
 obtain ⟨y3, k3⟩ := fld h1 h2 3 (t := 4) (off := 3) rfl c4
 obtain ⟨i, rfl⟩ := ev_int k0
 obtain ⟨j, rfl⟩ := ev_int k1
 obtain ⟨p, rfl⟩ := ev_bool k2
 obtain ⟨q, rfl⟩ := ev_bool k3
 exact ⟨i, j, p, q, rfl⟩
theorem row_four {a b : Int} {c d : Bool} : ∀ (k : Nat) p, ([eI a, eI b, eB c, eB d] : List PV)[k]? = some p → ∃ v, ([.int .i64 a, .int .i64 b, .bool c, .bool d] : List Value)[k]? = some v ∧ WV W p v := by
 intro k p hp
 match k, hp with
 | 0, hp => simp only [List.getElem?_cons_zero, Option.some.injEq] at hp; subst hp; exact ⟨_, rfl, .int⟩
 | 1, hp => simp only [List.getElem?_cons_succ, List.getElem?_cons_zero, Option.some.injEq] at hp; subst hp; exact ⟨_, rfl, .int⟩
 | 2, hp => simp only [List.getElem?_cons_succ, List.getElem?_cons_zero, Option.some.injEq] at hp; subst hp; exact ⟨_, rfl, .bool⟩
 | 3, hp => simp only [List.getElem?_cons_succ, List.getElem?_cons_zero, Option.some.injEq] at hp; subst hp; exact ⟨_, rfl, .bool⟩
 | k + 4, hp => simp at hp
theorem areas_of (hB : HasB W) {v : Value} {n : Nat} {x : DataW H × List MemPlace} (h : DataW.trod enc Try.prog W 0 (fun _ => true) held n 150 [v] = some x) : ∃ l : List Area, l.length ≤ maxLen ∧ WV W (.sl 4 (l.map rA)) v := by
 obtain ⟨l, h1, -, h2⟩ := row_of (row := rA) (good := fun _ => True) Try.underlying150 c77 (by decide) (fun n cs x _ hl h => by
  obtain ⟨a, b, c, d, rfl⟩ := el_four Try.underlying77 rfl hl h
  exact ⟨⟨a, b, c, d⟩, rfl, trivial, row_four⟩) hB h
 exact ⟨l, h1, h2⟩
theorem slots_of (hB : HasB W) {v : Value} {n : Nat} {x : DataW H × List MemPlace} (h : DataW.trod enc Try.prog W 0 (fun _ => true) held n 151 [v] = some x) : ∃ l : List Slot, l.length ≤ maxLen ∧ WV W (.sl 4 (l.map rL)) v := by
 obtain ⟨l, h1, -, h2⟩ := row_of (row := rL) (good := fun _ => True) Try.underlying151 c198 (by decide) (fun n cs x _ hl h => by
  obtain ⟨a, b, c, d, rfl⟩ := el_four Try.underlying198 rfl hl h
  exact ⟨⟨a, b, c, d⟩, rfl, trivial, row_four⟩) hB h
 exact ⟨l, h1, h2⟩
theorem ints_of (hB : HasB W) {v : Value} {n : Nat} {x : DataW H × List MemPlace} (h : DataW.trod enc Try.prog W 0 (fun _ => true) held n 23 [v] = some x) : ∃ l : List Int, l.length ≤ maxLen ∧ WV W (.sl 1 (l.map rI)) v := by
 obtain ⟨l, h1, -, h2⟩ := row_of (row := rI) (good := fun _ => True) Try.underlying23 c3 (by decide) (fun n cs x _ hl h => by
  obtain ⟨c, rfl⟩ := one_cell hl
  obtain ⟨k, rfl⟩ := ev_int h
  refine ⟨k, rfl, trivial, fun j p hp => ?_⟩
  match j, hp with
  | 0, hp => simp only [rI, List.getElem?_cons_zero, Option.some.injEq] at hp; subst hp; exact ⟨_, rfl, .int⟩
  | j + 1, hp => simp [rI] at hp) hB h
 exact ⟨l, h1, h2⟩
theorem strs_of (hB : HasB W) {v : Value} {n : Nat} {x : DataW H × List MemPlace} (h : DataW.trod enc Try.prog W 0 (fun _ => true) held n 22 [v] = some x) : ∃ l : List Str, l.length ≤ maxLen ∧ (∀ s, s ∈ l → s.length ≤ maxLen) ∧ WV W (.sl 1 (l.map rS)) v := by
 refine row_of (row := rS) (good := fun s => s.length ≤ maxLen) Try.underlying22 c9 (by decide) (fun n cs x _ hl h => ?_) hB h
 obtain ⟨s, rfl, -, hs⟩ := DataW.trod_string Try.underlying9 h
 refine ⟨s.data.toList, rfl, hs, fun j p hp => ?_⟩
 match j, hp with
 | 0, hp => simp only [rS, List.getElem?_cons_zero, Option.some.injEq] at hp; subst hp; exact ⟨_, rfl, .str⟩
 | j + 1, hp => simp [rS] at hp
theorem spaces_of (hB : HasB W) {v : Value} {n : Nat} {x : DataW H × List MemPlace} (h : DataW.trod enc Try.prog W 0 (fun _ => true) held n 26 [v] = some x) : ∃ l : List Space, l.length ≤ maxLen ∧ (∀ s, s ∈ l → s.ar.length ≤ maxLen ∧ s.sl.length ≤ maxLen) ∧ WV W (.sl 3 (l.map rP)) v := by
 refine row_of (row := rP) (good := fun s => s.ar.length ≤ maxLen ∧ s.sl.length ≤ maxLen) Try.underlying26 c153 (by decide) (fun n cs x hB hl h => ?_) hB h
 obtain ⟨a, b, c, rfl⟩ := three_cells hl
 obtain ⟨xs, m, -, -, -, h1, h2⟩ := DataW.trod_struct Try.underlying153 h
 obtain ⟨y0, k0⟩ := fld h1 h2 0 (t := 4) (off := 0) rfl c4
 obtain ⟨y1, k1⟩ := fld h1 h2 1 (t := 150) (off := 1) rfl c150
 obtain ⟨y2, k2⟩ := fld h1 h2 2 (t := 151) (off := 2) rfl c151
 obtain ⟨p, rfl⟩ := ev_bool k0
 obtain ⟨ar, a1, a2⟩ := areas_of hB k1
 obtain ⟨sl, s1, s2⟩ := slots_of hB k2
 refine ⟨⟨p, ar, sl⟩, rfl, ⟨a1, s1⟩, fun j q hq => ?_⟩
 match j, hq with
 | 0, hq => simp only [rP, List.getElem?_cons_zero, Option.some.injEq] at hq; subst hq; exact ⟨_, rfl, .bool⟩
 | 1, hq => simp only [rP, List.getElem?_cons_succ, List.getElem?_cons_zero, Option.some.injEq] at hq; subst hq; exact ⟨_, rfl, a2⟩
 | 2, hq => simp only [rP, List.getElem?_cons_succ, List.getElem?_cons_zero, Option.some.injEq] at hq; subst hq; exact ⟨_, rfl, s2⟩
 | j + 3, hq => simp [rP] at hq
theorem pages_of {b1 b2 : Value} (hB : HasB W) {n : Nat} {x : DataW H × List MemPlace} (h : DataW.trod enc Try.prog W 0 (fun _ => true) held n 25 [b1, b2] = some x) :
  ∃ p : Pages, p.tx.length ≤ maxLen ∧ p.rf.length ≤ maxLen ∧ (∀ s, s ∈ p.tx → s.length ≤ maxLen) ∧ WV W (.sl 1 (p.tx.map rS)) b1 ∧ WV W (.sl 1 (p.rf.map rI)) b2 := by
 obtain ⟨xs, m, -, -, -, h1, h2⟩ := DataW.trod_struct Try.underlying25 h
 obtain ⟨y0, k0⟩ := fld h1 h2 0 (t := 22) (off := 0) rfl c22
 obtain ⟨y1, k1⟩ := fld h1 h2 1 (t := 23) (off := 1) rfl c23
 obtain ⟨tx, t1, t2, t3⟩ := strs_of hB k0
 obtain ⟨rf, r1, r2⟩ := ints_of hB k1
 exact ⟨⟨tx, rf⟩, t1, r1, t2, t3, r2⟩
theorem mem_arg {base : Nat} {v : Value} {d : DataW H} {p : List MemPlace} (hval : Value.okWide Try.prog W .any base 28 v) (h0 : DataW.Trod enc Try.prog W 0 (fun _ => true) held 28 v d p) : ∃ m : Mem, m.inW ∧ WDV W (aM true true true true true m) v := by
 unfold Value.okWide at hval
 rw [Try.underlying28] at hval
 obtain ⟨cs, rfl, hsz, hrow⟩ := hval
 rw [c28] at hsz
 obtain ⟨fuel, h⟩ := h0
 obtain ⟨a0, a1, a2, a3, a4, a5, hcs⟩ := six_cells (cs := cs.toList) (by simpa using hsz)
 obtain rfl : cs = #[a0, a1, a2, a3, a4, a5] := by rw [← Array.toArray_toList (xs := cs), hcs]
 have h : DataW.trod enc Try.prog W 0 (fun _ => true) held fuel 28 [a0, a1, a2, a3, a4, a5] = some (d, p) := h
 obtain ⟨xs, m, -, -, -, h1, h2⟩ := DataW.trod_struct Try.underlying28 h
 obtain ⟨y0, k0⟩ := fld h1 h2 0 (t := 25) (off := 0) rfl c25
 obtain ⟨y1, k1⟩ := fld h1 h2 1 (t := 25) (off := 2) rfl c25
 obtain ⟨y2, k2⟩ := fld h1 h2 2 (t := 26) (off := 4) rfl c26
 obtain ⟨y3, k3⟩ := fld h1 h2 3 (t := 3) (off := 5) rfl c3
 have hb : ∀ (i : Nat) (u : Value), (#[a0, a1, a2, a3, a4, a5] : Array Value)[i]? = some u → (∃ (ad : Addr) (len cap : Nat), u = Value.slice (some ad) len cap) → HasB W := by
  rintro i u hi ⟨ad, len, cap, rfl⟩
  obtain ⟨ts, -, -, hall⟩ := hrow
  obtain ⟨t, -, ht⟩ := hall i _ hi
  exact hasB ht
 by_cases hB : HasB W
 ·obtain ⟨ram, r1, r2, r3, r4, r5⟩ := pages_of hB k0
  obtain ⟨swp, s1, s2, s3, s4, s5⟩ := pages_of hB k1
  obtain ⟨sps, p1, p2, p3⟩ := spaces_of hB k2
  obtain ⟨hd, rfl⟩ := ev_int k3
  refine ⟨⟨ram, swp, sps, hd⟩, ⟨⟨r1, r2, s1, s2, p1, p2⟩, r3, s3⟩, _, rfl, rfl, fun j q hq => ?_⟩
  match j, hq with
  | 0, hq => simp only [List.getElem?_cons_zero, Option.some.injEq] at hq; subst hq; exact ⟨rfl, _, rfl, r4⟩
  | 1, hq => simp only [List.getElem?_cons_succ, List.getElem?_cons_zero, Option.some.injEq] at hq; subst hq; exact ⟨rfl, _, rfl, r5⟩
  | 2, hq => simp only [List.getElem?_cons_succ, List.getElem?_cons_zero, Option.some.injEq] at hq; subst hq; exact ⟨rfl, _, rfl, s4⟩
  | 3, hq => simp only [List.getElem?_cons_succ, List.getElem?_cons_zero, Option.some.injEq] at hq; subst hq; exact ⟨rfl, _, rfl, s5⟩
  | 4, hq => simp only [List.getElem?_cons_succ, List.getElem?_cons_zero, Option.some.injEq] at hq; subst hq; exact ⟨rfl, _, rfl, p3⟩
  | 5, hq => simp only [List.getElem?_cons_succ, List.getElem?_cons_zero, Option.some.injEq] at hq; subst hq; exact ⟨rfl, _, rfl, .int⟩
  | j + 6, hq => simp at hq
 ·have nil : ∀ {t e : TypeId} {n : Nat} {u : Value} {x : DataW H × List MemPlace} (i : Nat), Try.prog.underlying t = some (.slice e) → DataW.trod enc Try.prog W 0 (fun _ => true) held n t [u] = some x → (#[a0, a1, a2, a3, a4, a5] : Array Value)[i]? = some u → u = .slice none 0 0 := by
   intro t e n u x i ht h hi
   rcases DataW.trod_slice ht h with ⟨q, -⟩ | ⟨ad, len, cap, _, _, _, -, q, -⟩
   ·simpa using q
   ·simp only [List.cons.injEq, and_true] at q
    exact absurd (hb i u hi ⟨ad, len, cap, q⟩) hB
  have pg : ∀ {b1 b2 : Value} {n : Nat} {x : DataW H × List MemPlace} (i j : Nat), DataW.trod enc Try.prog W 0 (fun _ => true) held n 25 [b1, b2] = some x → (#[a0, a1, a2, a3, a4, a5] : Array Value)[i]? = some b1 → (#[a0, a1, a2, a3, a4, a5] : Array Value)[j]? = some b2 → b1 = .slice none 0 0 ∧ b2 = .slice none 0 0 := by
   intro b1 b2 n x i j h hi hj
   obtain ⟨xs, m, -, -, -, h1, h2⟩ := DataW.trod_struct Try.underlying25 h
   obtain ⟨y0, k0⟩ := fld h1 h2 0 (t := 22) (off := 0) rfl c22
   obtain ⟨y1, k1⟩ := fld h1 h2 1 (t := 23) (off := 1) rfl c23
   exact ⟨nil i Try.underlying22 k0 hi, nil j Try.underlying23 k1 hj⟩
  obtain ⟨rfl, rfl⟩ := pg 0 1 k0 rfl rfl
  obtain ⟨rfl, rfl⟩ := pg 2 3 k1 rfl rfl
  obtain rfl := nil 4 Try.underlying26 k2 rfl
  obtain ⟨hd, rfl⟩ := ev_int k3
  refine ⟨⟨⟨[], []⟩, ⟨[], []⟩, [], hd⟩, ⟨⟨Nat.zero_le _, Nat.zero_le _, Nat.zero_le _, Nat.zero_le _, Nat.zero_le _, fun s hs => by simp at hs⟩, fun s hs => by simp at hs, fun s hs => by simp at hs⟩, _, rfl, rfl, fun j q hq => ?_⟩
  match j, hq with
  | 0, hq => simp only [List.getElem?_cons_zero, Option.some.injEq] at hq; subst hq; exact ⟨rfl, _, rfl, .nil⟩
  | 1, hq => simp only [List.getElem?_cons_succ, List.getElem?_cons_zero, Option.some.injEq] at hq; subst hq; exact ⟨rfl, _, rfl, .nil⟩
  | 2, hq => simp only [List.getElem?_cons_succ, List.getElem?_cons_zero, Option.some.injEq] at hq; subst hq; exact ⟨rfl, _, rfl, .nil⟩
  | 3, hq => simp only [List.getElem?_cons_succ, List.getElem?_cons_zero, Option.some.injEq] at hq; subst hq; exact ⟨rfl, _, rfl, .nil⟩
  | 4, hq => simp only [List.getElem?_cons_succ, List.getElem?_cons_zero, Option.some.injEq] at hq; subst hq; exact ⟨rfl, _, rfl, .nil⟩
  | 5, hq => simp only [List.getElem?_cons_succ, List.getElem?_cons_zero, Option.some.injEq] at hq; subst hq; exact ⟨rfl, _, rfl, .int⟩
  | j + 6, hq => simp at hq
theorem int_arg {base : Nat} {v : Value} {d : DataW H} {p : List MemPlace} (hval : Value.okWide Try.prog W .any base 3 v) (h0 : DataW.Trod enc Try.prog W 0 (fun _ => true) held 3 v d p) : ∃ n : Int, WDV W (.one (dI n)) v := by
 obtain ⟨n, rfl, -⟩ := open_int Try.underlying3 hval h0
 exact ⟨n, rfl, .int⟩
theorem laidOut : laidOutB Try.prog = true := by kernel_rfl
theorem rec28 : Try.prog.readableRec 28 = true := by kernel_rfl
theorem in28 : InBook Try.prog 28 28 := ⟨of_decide_eq_true (by kernel_rfl), book_self 28⟩
theorem in3 : InBook Try.prog 28 3 := ⟨of_decide_eq_true (by kernel_rfl), List.contains_iff_mem.1 (by kernel_rfl)⟩
theorem K28 : Kids Try.prog (InBook Try.prog 28) := kids_book laidOut rec28
end
end Go.Qm
