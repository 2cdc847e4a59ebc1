import Derived.Test.YthdipcbjhhopaaaOa
import Derived.Test.YthdipcbjhhopaaaOb
import Derived.Test.YthdipcbjhhopaaaOc
import Derived.Test.YthdipcbjhhopaaaOd
import Derived.ChangeBook
import Derived.WalkKit
import Derived.ProofKit
import Derived.OpenShut
import Derived.JoinedOf
namespace Go.Qm
open Go.Cq Go.Cq.D Go.RowKit Go.Proofs
set_option maxRecDepth 10000
theorem hmix : Try.prog.follows .mixedOrders = true := by decide +kernel
theorem in_ok (a b c : Int) : CallV Try.prog 77 [.one (dI a), .one (dI b), .one (dI c)] (.v (.one (dB (inB a b c)))) := by
 refine callX_of hmix Try.func77 ok77 ?_
 (conv=>whnf)<;>repeat' first|(refine cond_t ?_;conv=>whnf)|(refine cond_f ?_;conv=>whnf)
 refine CondP.mk (fun h => ?_) (fun h => ?_) <;> rw [h] <;> (conv=>whnf)<;>repeat' first|(refine cond_t ?_;conv=>whnf)|(refine cond_f ?_;conv=>whnf)
 ·refine ⟨?_, rfl⟩; simp only [inB] at h ⊢; rw [h]; rfl
 ·refine ⟨?_, rfl⟩; simp only [inB] at h ⊢; rw [h]; rfl
theorem lin_ok (a b c : Int) : CallV Try.prog 87 [.one (dI a), .one (dI b), .one (dI c)] (.v (.one (dB (inB a b c)))) := by
 refine callX_of hmix Try.func87 ok87 ?_
 (conv=>whnf)<;>repeat' first|(refine cond_t ?_;conv=>whnf)|(refine cond_f ?_;conv=>whnf)
 refine CondP.mk (fun h => ?_) (fun h => ?_) <;> rw [h] <;> (conv=>whnf)<;>repeat' first|(refine cond_t ?_;conv=>whnf)|(refine cond_f ?_;conv=>whnf)
 ·refine ⟨?_, rfl⟩; simp only [inB] at h ⊢; rw [h]; rfl
 ·refine ⟨?_, rfl⟩; simp only [inB] at h ⊢; rw [h]; rfl
theorem end_ok (a : Area) : CallV Try.prog 98 [.agg [dI a.fr, dI a.mn, dB a.wr, dB a.sh]] (.v (.one (dI (IntKind.wrap .i64 (a.fr + a.mn))))) := by
 refine callX_of hmix Try.func98 ok98 ?_
 (conv=>whnf)<;>repeat' first|(refine cond_t ?_;conv=>whnf)|(refine cond_f ?_;conv=>whnf)
 exact ⟨rfl, rfl⟩
theorem areaOk_ok (a : Area) : CallV Try.prog 130 [.agg [dI a.fr, dI a.mn, dB a.wr, dB a.sh]] (.v (.one (dB (areaOk a)))) := by
 refine callX_of hmix Try.func130 ok130 ?_
 (conv=>whnf)<;>repeat' first|(refine cond_t ?_;conv=>whnf)|(refine cond_f ?_;conv=>whnf)
 refine op_callV [.pass, .pass, .pass] rfl rfl rfl (in_ok _ _ _) rfl ?_
 (conv=>whnf)<;>repeat' first|(refine cond_t ?_;conv=>whnf)|(refine cond_f ?_;conv=>whnf)
 refine CondP.mk (fun h => ?_) (fun h => ?_) <;> rw [h] <;> (conv=>whnf)<;>repeat' first|(refine cond_t ?_;conv=>whnf)|(refine cond_f ?_;conv=>whnf)
 ·refine op_callV [.pass, .pass, .pass] rfl rfl rfl (in_ok _ _ _) rfl ?_
  (conv=>whnf)<;>repeat' first|(refine cond_t ?_;conv=>whnf)|(refine cond_f ?_;conv=>whnf)
  refine ⟨?_, rfl⟩
  have hw : IntKind.wrap .i64 (16 - a.fr) = 16 - a.fr := by
   simp only [inB, Bool.and_eq_true, decide_eq_true_eq] at h
   exact wrap64 (by omega) (by omega)
  rw [areaOk, h, Bool.true_and]
  show DT.v (.one (dB (inB a.mn 1 (IntKind.wrap .i64 (16 - a.fr))))) = _
  rw [hw]
 ·refine ⟨?_, rfl⟩
  rw [areaOk, h]; rfl
theorem lareaOk_ok (a : Area) : CallV Try.prog 162 [.agg [dI a.fr, dI a.mn, dB a.wr, dB a.sh]] (.v (.one (dB (areaOk a)))) := by
 refine callX_of hmix Try.func162 ok162 ?_
 (conv=>whnf)<;>repeat' first|(refine cond_t ?_;conv=>whnf)|(refine cond_f ?_;conv=>whnf)
 refine op_callV [.pass, .pass, .pass] rfl rfl rfl (lin_ok _ _ _) rfl ?_
 (conv=>whnf)<;>repeat' first|(refine cond_t ?_;conv=>whnf)|(refine cond_f ?_;conv=>whnf)
 refine CondP.mk (fun h => ?_) (fun h => ?_) <;> rw [h] <;> (conv=>whnf)<;>repeat' first|(refine cond_t ?_;conv=>whnf)|(refine cond_f ?_;conv=>whnf)
 ·refine op_callV [.pass, .pass, .pass] rfl rfl rfl (lin_ok _ _ _) rfl ?_
  (conv=>whnf)<;>repeat' first|(refine cond_t ?_;conv=>whnf)|(refine cond_f ?_;conv=>whnf)
  refine ⟨?_, rfl⟩
  have hw : IntKind.wrap .i64 (16 - a.fr) = 16 - a.fr := by
   simp only [inB, Bool.and_eq_true, decide_eq_true_eq] at h
   exact wrap64 (by omega) (by omega)
  rw [areaOk, h, Bool.true_and]
  show DT.v (.one (dB (inB a.mn 1 (IntKind.wrap .i64 (16 - a.fr))))) = _
  rw [hw]
 ·refine ⟨?_, rfl⟩
  rw [areaOk, h]; rfl
theorem has_ok (b1 b2 : Bool) (p : Pages) (k : Int) (hl : p.rf.length ≤ 9223372036854775807) : CallV Try.prog 84 [.agg [.ro b1 1 (p.tx.map rS), .ro b2 1 (p.rf.map rI)], .one (dI k)] (.v (.one (dB (inB k 0 (p.rf.length - 1) && decide (0 < p.rf[k.toNat]?.getD 0))))) := by
 refine callX_of hmix Try.func84 ok84 ?_
 (conv=>whnf)<;>repeat' first|(refine cond_t ?_;conv=>whnf)|(refine cond_f ?_;conv=>whnf)
 refine op_callV [.pass, .pass, .pass] rfl rfl rfl (in_ok _ _ _) rfl ?_
 (conv=>whnf)<;>repeat' first|(refine cond_t ?_;conv=>whnf)|(refine cond_f ?_;conv=>whnf)
 have hw : IntKind.wrap .i64 ((p.rf.map rI).length - 1) = p.rf.length - 1 := by
  rw [List.length_map]; exact wrap64 (by omega) (by omega)
 refine CondP.mk (fun h => ?_) (fun h => ?_) <;> rw [h] <;> (conv=>whnf)<;>repeat' first|(refine cond_t ?_;conv=>whnf)|(refine cond_f ?_;conv=>whnf)
 ·have h' := h
  rw [show IntKind.wrap .i64 _ = _ from hw] at h'
  have hk := h'
  simp only [inB, Bool.and_eq_true, decide_eq_true_eq] at hk
  refine op_idx_ro (k := k.toNat) rfl (by show some k = _; congr 1; omega) (by simp; omega) ?_
  (conv=>whnf)<;>repeat' first|(refine cond_t ?_;conv=>whnf)|(refine cond_f ?_;conv=>whnf)
  have hlt : k.toNat < p.rf.length := by omega
  refine op_load_rp rfl (r := .one (dI (p.rf[k.toNat]?.getD 0))) (by simp [loadRp, rI, hlt, eI, PV.dc, dI]) ?_
  (conv=>whnf)<;>repeat' first|(refine cond_t ?_;conv=>whnf)|(refine cond_f ?_;conv=>whnf)
  refine ⟨?_, rfl⟩
  rw [h']; rfl
 ·rw [show IntKind.wrap .i64 _ = _ from hw] at h
  refine ⟨?_, rfl⟩
  rw [h]; rfl
end Go.Qm
namespace Go.Qm
open Go.Cq Go.Cq.D Go.RowKit Go.Proofs
set_option maxRecDepth 10000
theorem up {n i : Nat} (h : i < n) (hn : n ≤ 4611686018427387904) : IntKind.wrap .i64 ((i : Int) + 1) = ((i + 1 : Nat) : Int) := wrap64 (by omega) (by omega)
theorem pagesGo_step {ts : List Str} {ns : List Int} {i : Nat} (h1 : i < ts.length) (h2 : i < ns.length) : pagesGo (ts.drop i) (ns.drop i) = (pageOk ts[i] ns[i] && pagesGo (ts.drop (i + 1)) (ns.drop (i + 1))) := by
 rw [List.drop_eq_getElem_cons h1, List.drop_eq_getElem_cons h2, pagesGo]
theorem pagesOk_ok (b1 b2 : Bool) (p : Pages) (h1 : p.tx.length ≤ 4611686018427387904) (h2 : p.rf.length ≤ 4611686018427387904) : CallV Try.prog 82 [.agg [.ro b1 1 (p.tx.map rS), .ro b2 1 (p.rf.map rI)]] (.v (.one (dB (pagesOk p)))) := by
 refine callX_of hmix Try.func82 ok82 ?_
 (conv=>whnf)<;>repeat' first|(refine cond_t ?_;conv=>whnf)|(refine cond_f ?_;conv=>whnf)
 refine CondP.mk (fun h => ?_) (fun h => ?_) <;> rw [h] <;> (conv=>whnf)<;>repeat' first|(refine cond_t ?_;conv=>whnf)|(refine cond_f ?_;conv=>whnf)
 ·refine ⟨?_, rfl⟩
  have : ¬ p.tx.length = p.rf.length := by simp at h; omega
  simp [pagesOk, this, dB]
 ·have hl : p.tx.length = p.rf.length := by simp at h; omega
  refine op_callV [.pass, .pass, .pass] rfl rfl rfl (in_ok _ _ _) rfl ?_
  (conv=>whnf)<;>repeat' first|(refine cond_t ?_;conv=>whnf)|(refine cond_f ?_;conv=>whnf)
  refine CondP.mk (fun h => ?_) (fun h => ?_) <;> (conv=>whnf)<;>repeat' first|(refine cond_t ?_;conv=>whnf)|(refine cond_f ?_;conv=>whnf)
  ·refine ⟨?_, rfl⟩
   have h : inB p.tx.length 1 12 = false := by simpa using h
   simp [pagesOk, h, dB]
  ·have hb : inB p.tx.length 1 12 = true := by simpa using h
   refine loop_at (fun i : Nat => [(1, .v (.one (.ptr 0 0 0))), (21, .v (.one (.ro b2 1 (p.rf.map rI)))), (22, .v (.one (dI (p.rf.map rI).length))), (23, .v (.one (dI i)))]) (fun _ => [(0, .box [.ro b1 1 (p.tx.map rS), .ro b2 1 (p.rf.map rI)])]) (fun _ => 1)
    (fun i => i ≤ p.rf.length ∧ pagesOk p = pagesGo (p.tx.drop i) (p.rf.drop i)) (fun i => p.rf.length - i) 0 ⟨by omega, by simp [pagesOk, hl, hl ▸ hb]⟩ rfl rfl rfl fun i hi => ?_
   (conv=>whnf)<;>repeat' first|(refine cond_t ?_;conv=>whnf)|(refine cond_f ?_;conv=>whnf)
   refine CondP.mk (fun h => ?_) (fun h => ?_) <;> (conv=>whnf)<;>repeat' first|(refine cond_t ?_;conv=>whnf)|(refine cond_f ?_;conv=>whnf)
   ·have hi2 : i < p.rf.length := by simpa using h
    have hi1 : i < p.tx.length := by omega
    refine op_idx_ro (k := i) rfl rfl (by simpa using hi2) ?_
    (conv=>whnf)<;>repeat' first|(refine cond_t ?_;conv=>whnf)|(refine cond_f ?_;conv=>whnf)
    refine op_load_rp rfl (r := .one (dI p.rf[i])) (by simp [loadRp, rI, hi2, eI, dI]) ?_
    (conv=>whnf)<;>repeat' first|(refine cond_t ?_;conv=>whnf)|(refine cond_f ?_;conv=>whnf)
    refine CondP.mk (fun h0 => ?_) (fun h0 => ?_) <;> (conv=>whnf)<;>repeat' first|(refine cond_t ?_;conv=>whnf)|(refine cond_f ?_;conv=>whnf)
    all_goals
     refine op_callV [.pass, .pass, .pass] rfl rfl rfl (in_ok _ _ _) rfl ?_
     (conv=>whnf)<;>repeat' first|(refine cond_t ?_;conv=>whnf)|(refine cond_f ?_;conv=>whnf)
     refine CondP.mk (fun h9 => ?_) (fun h9 => ?_) <;> rw [h9] <;> (conv=>whnf)<;>repeat' first|(refine cond_t ?_;conv=>whnf)|(refine cond_f ?_;conv=>whnf)
    ·refine ⟨?_, rfl⟩
     have h9 : inB p.rf[i] 0 99 = false := by simpa using h9
     rw [hi.2, pagesGo_step hi1 hi2, pageOk, h9]; rfl
    ·have h9 : inB p.rf[i] 0 99 = true := by simpa using h9
     refine op_idx_ro (k := i) rfl rfl (by simpa using hi1) ?_
     (conv=>whnf)<;>repeat' first|(refine cond_t ?_;conv=>whnf)|(refine cond_f ?_;conv=>whnf)
     refine op_load_rp rfl (r := .one (.sc (.str p.tx[i]))) (by simp [loadRp, rS, hi1, eS]) ?_
     (conv=>whnf)<;>repeat' first|(refine cond_t ?_;conv=>whnf)|(refine cond_f ?_;conv=>whnf)
     refine CondP.mk (fun h8 => ?_) (fun h8 => ?_) <;> (conv=>whnf)<;>repeat' first|(refine cond_t ?_;conv=>whnf)|(refine cond_f ?_;conv=>whnf)
     ·refine ⟨?_, rfl⟩
      rw [hi.2, pagesGo_step hi1 hi2, pageOk, h9]
      simp at h0 h8
      simp [h0, h8, dB]
     ·refine ⟨i + 1, by omega, ⟨by omega, ?_⟩, ?_, rfl, rfl⟩
      ·rw [hi.2, pagesGo_step hi1 hi2, pageOk, h9]
       simp at h0 h8
       simp [h0, h8]
      ·rw [← up hi2 h2]; rfl
    ·refine ⟨?_, rfl⟩
     have h9 : inB p.rf[i] 0 99 = false := by simpa using h9
     rw [hi.2, pagesGo_step hi1 hi2, pageOk, h9]; rfl
    ·have h9 : inB p.rf[i] 0 99 = true := by simpa using h9
     refine op_idx_ro (k := i) rfl rfl (by simpa using hi1) ?_
     (conv=>whnf)<;>repeat' first|(refine cond_t ?_;conv=>whnf)|(refine cond_f ?_;conv=>whnf)
     refine op_load_rp rfl (r := .one (.sc (.str p.tx[i]))) (by simp [loadRp, rS, hi1, eS]) ?_
     (conv=>whnf)<;>repeat' first|(refine cond_t ?_;conv=>whnf)|(refine cond_f ?_;conv=>whnf)
     refine CondP.mk (fun h8 => ?_) (fun h8 => ?_) <;> (conv=>whnf)<;>repeat' first|(refine cond_t ?_;conv=>whnf)|(refine cond_f ?_;conv=>whnf)
     ·refine ⟨?_, rfl⟩
      rw [hi.2, pagesGo_step hi1 hi2, pageOk, h9]
      simp at h0 h8
      simp [h0, h8, dB]
     ·refine ⟨i + 1, by omega, ⟨by omega, ?_⟩, ?_, rfl, rfl⟩
      ·rw [hi.2, pagesGo_step hi1 hi2, pageOk, h9]
       simp at h0 h8
       simp [h0, h8]
      ·rw [← up hi2 h2]; rfl
   ·refine ⟨?_, rfl⟩
    have : i = p.rf.length := by
                   have : ¬ i < p.rf.length := by simpa using h
                   omega
    subst this
    have := hi.2
    rw [List.drop_eq_nil_of_le (by omega), pagesGo] at this
    rw [this]; rfl
    all_goals simp
end Go.Qm
namespace Go.Qm
open Go.Cq Go.Cq.D Go.RowKit Go.Proofs
set_option maxRecDepth 10000
def aA (a : Area) : List DC := [dI a.fr, dI a.mn, dB a.wr, dB a.sh]
theorem ldA {b : Bool} {l : List Area} {i : Nat} (h : i < l.length) : (loadRp b (l.map rA) i 0 4).map DV.agg = some (.agg (aA l[i])) := by
 simp [loadRp, rA, h, eI, eB, aA, dI, dB]
theorem ix {i : Nat} {n : Nat} (h : i < n) (hn : n ≤ 4611686018427387904) (hi : i ≠ 0) : some (IntKind.wrap .i64 ((i : Int) - 1)) = some (((i - 1 : Nat) : Nat) : Int) := by
 rw [wrap64 (by omega) (by omega)]
 congr 1; omega
theorem endw {a : Area} (h : areaOk a = true) : IntKind.wrap .i64 (a.fr + a.mn) = a.fr + a.mn := by
 have := areaOk_iff.1 h
 exact wrap64 (by omega) (by omega)
set_option maxHeartbeats 2000000 in
theorem areasOk_ok (b : Bool) (l : List Area) (hl : l.length ≤ 4611686018427387904) : CallV Try.prog 83 [.one (.ro b 4 (l.map rA))] (.v (.one (dB (areasOk l)))) := by
 refine callX_of hmix Try.func83 ok83 ?_
 (conv=>whnf)<;>repeat' first|(refine cond_t ?_;conv=>whnf)|(refine cond_f ?_;conv=>whnf)
 refine loop_at (fun i : Nat => [(0, .v (.one (.ro b 4 (l.map rA)))), (5, .v (.one (.ro b 4 (l.map rA)))), (6, .v (.one (dI (l.map rA).length))), (7, .v (.one (dI i)))]) (fun _ => []) (fun _ => 0)
  (fun i => i ≤ l.length ∧ areasOk l = (areasAfter l i && decide (l.length ≤ 6)) ∧ ∀ j (hj : j < l.length), j < i → areaOk l[j] = true) (fun i => l.length - i) 0 ⟨by omega, rfl, by omega⟩ rfl rfl rfl fun i hi => ?_
 obtain ⟨hi1, hi2, hi3⟩ := hi
 (conv=>whnf)<;>repeat' first|(refine cond_t ?_;conv=>whnf)|(refine cond_f ?_;conv=>whnf)
 refine CondP.mk (fun h => ?_) (fun h => ?_) <;> (conv=>whnf)<;>repeat' first|(refine cond_t ?_;conv=>whnf)|(refine cond_f ?_;conv=>whnf)
 ·have hlt : i < l.length := by simpa using h
  refine op_idx_ro (k := i) rfl rfl (by simpa using hlt) ?_
  (conv=>whnf)<;>repeat' first|(refine cond_t ?_;conv=>whnf)|(refine cond_f ?_;conv=>whnf)
  refine op_load_rp rfl (r := .agg (aA l[i])) (ldA hlt) ?_
  (conv=>whnf)<;>repeat' first|(refine cond_t ?_;conv=>whnf)|(refine cond_f ?_;conv=>whnf)
  refine op_callV [.pass] rfl rfl rfl (areaOk_ok l[i]) rfl ?_
  (conv=>whnf)<;>repeat' first|(refine cond_t ?_;conv=>whnf)|(refine cond_f ?_;conv=>whnf)
  have fin : areaOk l[i] = false → DT.v (DV.one (DC.sc (.bool false))) = .v (.one (dB (areasOk l))) := fun e => by
   rw [hi2, areasAfter_step hlt, e]; rfl
  refine CondP.mk (fun h1 => ?_) (fun h1 => ?_) <;> rw [h1] <;> (conv=>whnf)<;>repeat' first|(refine cond_t ?_;conv=>whnf)|(refine cond_f ?_;conv=>whnf)
  ·exact ⟨fin (by simpa using h1), rfl⟩
  ·have ho : areaOk l[i] = true := by simpa using h1
   have hstep : decide (0 < (i : Int)) = false ∨ prevOk l i l[i] = true → areasOk l = (areasAfter l (i + 1) && decide (l.length ≤ 6)) := fun e => by
    rw [hi2, areasAfter_step hlt, ho]
    rcases e with e | e
    ·have : i = 0 := by simp at e; omega
     simp [this]
    ·rw [e]; simp
   have hall : ∀ j (hj : j < l.length), j < i + 1 → areaOk l[j] = true := fun j hj h2 => by
    by_cases e : j = i
    ·subst e; exact ho
    ·exact hi3 j hj (by omega)
   refine CondP.mk (fun h2 => ?_) (fun h2 => ?_) <;> rw [h2] <;> (conv=>whnf)<;>repeat' first|(refine cond_t ?_;conv=>whnf)|(refine cond_f ?_;conv=>whnf)
   ·have hi0 : i ≠ 0 := by simp at h2; omega
    have hlt' : i - 1 < l.length := by omega
    refine op_idx_ro (k := i - 1) rfl (ix hlt hl hi0) (by simpa using hlt') ?_
    (conv=>whnf)<;>repeat' first|(refine cond_t ?_;conv=>whnf)|(refine cond_f ?_;conv=>whnf)
    refine op_load_rp rfl (r := .agg (aA l[i - 1])) (ldA hlt') ?_
    (conv=>whnf)<;>repeat' first|(refine cond_t ?_;conv=>whnf)|(refine cond_f ?_;conv=>whnf)
    refine op_callV [.pass] rfl rfl rfl (end_ok l[i - 1]) rfl ?_
    (conv=>whnf)<;>repeat' first|(refine cond_t ?_;conv=>whnf)|(refine cond_f ?_;conv=>whnf)
    have he := endw (hi3 (i - 1) hlt' (by omega))
    rw [he]
    refine CondP.mk (fun h3 => ?_) (fun h3 => ?_) <;> (conv=>whnf)<;>repeat' first|(refine cond_t ?_;conv=>whnf)|(refine cond_f ?_;conv=>whnf)
    ·refine ⟨?_, rfl⟩
     rw [hi2, areasAfter_step hlt, ho, prevOk, List.getElem?_eq_getElem hlt']
     have : ¬ l[i - 1].fr + l[i - 1].mn ≤ l[i].fr := by simpa using h3
     simp [this, hi0, dB]
    ·refine ⟨i + 1, by omega, ⟨by omega, hstep (.inr ?_), hall⟩, ?_, rfl, rfl⟩
     ·rw [prevOk, List.getElem?_eq_getElem hlt']; simpa using h3
     ·rw [← up hlt hl]; rfl
   ·refine ⟨i + 1, by omega, ⟨by omega, hstep (.inl h2), hall⟩, ?_, rfl, rfl⟩
    rw [← up hlt hl]; rfl
 ·refine ⟨?_, rfl⟩
  have : i = l.length := by
               have : ¬ i < l.length := by simpa using h
               omega
  subst this
  rw [hi2, areasAfter, List.drop_length]
  simp [areasFrom, dB]
  omega
end Go.Qm
namespace Go.Qm
open Go.Cq Go.Cq.D Go.RowKit Go.Proofs
set_option maxRecDepth 10000
theorem eqIntS_ok (b1 b2 : Bool) (l1 l2 : List Int) (hb : l1.length ≤ 4611686018427387904) : CallV Try.prog 132 [.one (.ro b1 1 (l1.map rI)), .one (.ro b2 1 (l2.map rI))] (.v (.one (dB (decide (l1 = l2))))) := by
 refine callX_of hmix Try.func132 ok132 ?_
 (conv=>whnf)<;>repeat' first|(refine cond_t ?_;conv=>whnf)|(refine cond_f ?_;conv=>whnf)
 refine CondP.mk (fun h => ?_) (fun h => ?_) <;> (conv=>whnf)<;>repeat' first|(refine cond_t ?_;conv=>whnf)|(refine cond_f ?_;conv=>whnf)
 ·have : l1 ≠ l2 := fun e => by subst e; simp at h
  refine ⟨?_, rfl⟩
  rw [decide_eq_false this]; rfl
 ·have hl : l1.length = l2.length := by
   have : (l1.length : Int) = l2.length := by simpa using h
   omega
  refine loop_at (fun i : Nat => [(0, .v (.one (.ro b1 1 (l1.map rI)))), (1, .v (.one (.ro b2 1 (l2.map rI)))), (5, .v (.one (dI i)))]) (fun _ => []) (fun _ => 0) (fun i => i ≤ l1.length ∧ l1.take i = l2.take i) (fun i => l1.length - i) 0 ⟨by omega, rfl⟩ rfl rfl rfl fun i hi => ?_
  (conv=>whnf)<;>repeat' first|(refine cond_t ?_;conv=>whnf)|(refine cond_f ?_;conv=>whnf)
  refine CondP.mk (fun h => ?_) (fun h => ?_) <;> (conv=>whnf)<;>repeat' first|(refine cond_t ?_;conv=>whnf)|(refine cond_f ?_;conv=>whnf)
  ·have hi1 : i < l1.length := by simpa using h
   have hi2 : i < l2.length := by omega
   refine op_idx_ro (k := i) rfl rfl (by simpa using hi1) ?_
   (conv=>whnf)<;>repeat' first|(refine cond_t ?_;conv=>whnf)|(refine cond_f ?_;conv=>whnf)
   refine op_load_rp rfl (r := .one (dI l1[i])) (by simp [loadRp, hi1, rI, eI, dI]) ?_
   (conv=>whnf)<;>repeat' first|(refine cond_t ?_;conv=>whnf)|(refine cond_f ?_;conv=>whnf)
   refine op_idx_ro (k := i) rfl rfl (by simpa using hi2) ?_
   (conv=>whnf)<;>repeat' first|(refine cond_t ?_;conv=>whnf)|(refine cond_f ?_;conv=>whnf)
   refine op_load_rp rfl (r := .one (dI l2[i])) (by simp [loadRp, hi2, rI, eI, dI]) ?_
   (conv=>whnf)<;>repeat' first|(refine cond_t ?_;conv=>whnf)|(refine cond_f ?_;conv=>whnf)
   refine CondP.mk (fun h => ?_) (fun h => ?_) <;> (conv=>whnf)<;>repeat' first|(refine cond_t ?_;conv=>whnf)|(refine cond_f ?_;conv=>whnf)
   ·have : l1 ≠ l2 := fun e => by subst e; simp at h
    refine ⟨?_, rfl⟩
    rw [decide_eq_false this]; rfl
   ·have he : l1[i] = l2[i] := by simpa using h
    refine ⟨i + 1, by omega, ⟨by omega, ?_⟩, ?_, rfl, rfl⟩
    ·rw [List.take_succ_eq_append_getElem hi1, List.take_succ_eq_append_getElem hi2, hi.2, he]
    ·rw [← up hi1 hb]; rfl
  ·have : i = l1.length := by
                 have : ¬ i < l1.length := by simpa using h
                 omega
   have e : l1 = l2 := by
    have := hi.2
    rw [List.take_of_length_le (by omega), List.take_of_length_le (by omega)] at this
    exact this
   refine ⟨?_, rfl⟩
   rw [decide_eq_true e]; rfl
theorem eqStringS_ok (b1 b2 : Bool) (l1 l2 : List Str) (hb : l1.length ≤ 4611686018427387904) : CallV Try.prog 131 [.one (.ro b1 1 (l1.map rS)), .one (.ro b2 1 (l2.map rS))] (.v (.one (dB (decide (l1 = l2))))) := by
 refine callX_of hmix Try.func131 ok131 ?_
 (conv=>whnf)<;>repeat' first|(refine cond_t ?_;conv=>whnf)|(refine cond_f ?_;conv=>whnf)
 refine CondP.mk (fun h => ?_) (fun h => ?_) <;> (conv=>whnf)<;>repeat' first|(refine cond_t ?_;conv=>whnf)|(refine cond_f ?_;conv=>whnf)
 ·have : l1 ≠ l2 := fun e => by subst e; simp at h
  refine ⟨?_, rfl⟩
  rw [decide_eq_false this]; rfl
 ·have hl : l1.length = l2.length := by
   have : (l1.length : Int) = l2.length := by simpa using h
   omega
  refine loop_at (fun i : Nat => [(0, .v (.one (.ro b1 1 (l1.map rS)))), (1, .v (.one (.ro b2 1 (l2.map rS)))), (5, .v (.one (dI i)))]) (fun _ => []) (fun _ => 0) (fun i => i ≤ l1.length ∧ l1.take i = l2.take i) (fun i => l1.length - i) 0 ⟨by omega, rfl⟩ rfl rfl rfl fun i hi => ?_
  (conv=>whnf)<;>repeat' first|(refine cond_t ?_;conv=>whnf)|(refine cond_f ?_;conv=>whnf)
  refine CondP.mk (fun h => ?_) (fun h => ?_) <;> (conv=>whnf)<;>repeat' first|(refine cond_t ?_;conv=>whnf)|(refine cond_f ?_;conv=>whnf)
  ·have hi1 : i < l1.length := by simpa using h
   have hi2 : i < l2.length := by omega
   refine op_idx_ro (k := i) rfl rfl (by simpa using hi1) ?_
   (conv=>whnf)<;>repeat' first|(refine cond_t ?_;conv=>whnf)|(refine cond_f ?_;conv=>whnf)
   refine op_load_rp rfl (r := .one (.sc (.str l1[i]))) (by simp [loadRp, hi1, rS, eS]) ?_
   (conv=>whnf)<;>repeat' first|(refine cond_t ?_;conv=>whnf)|(refine cond_f ?_;conv=>whnf)
   refine op_idx_ro (k := i) rfl rfl (by simpa using hi2) ?_
   (conv=>whnf)<;>repeat' first|(refine cond_t ?_;conv=>whnf)|(refine cond_f ?_;conv=>whnf)
   refine op_load_rp rfl (r := .one (.sc (.str l2[i]))) (by simp [loadRp, hi2, rS, eS]) ?_
   (conv=>whnf)<;>repeat' first|(refine cond_t ?_;conv=>whnf)|(refine cond_f ?_;conv=>whnf)
   refine CondP.mk (fun h => ?_) (fun h => ?_) <;> (conv=>whnf)<;>repeat' first|(refine cond_t ?_;conv=>whnf)|(refine cond_f ?_;conv=>whnf)
   ·have : l1 ≠ l2 := fun e => by subst e; simp at h
    refine ⟨?_, rfl⟩
    rw [decide_eq_false this]; rfl
   ·have he : l1[i] = l2[i] := by simpa using h
    refine ⟨i + 1, by omega, ⟨by omega, ?_⟩, ?_, rfl, rfl⟩
    ·rw [List.take_succ_eq_append_getElem hi1, List.take_succ_eq_append_getElem hi2, hi.2, he]
    ·rw [← up hi1 hb]; rfl
  ·have : i = l1.length := by
                 have : ¬ i < l1.length := by simpa using h
                 omega
   have e : l1 = l2 := by
    have := hi.2
    rw [List.take_of_length_le (by omega), List.take_of_length_le (by omega)] at this
    exact this
   refine ⟨?_, rfl⟩
   rw [decide_eq_true e]; rfl
theorem fin_ne {α : Type} [DecidableEq α] {a b : α} (h : a ≠ b) : DT.v (DV.one (DC.sc (.bool false))) = .v (.one (dB (decide (a = b)))) ∧ ([] : DH) = [] := by
 rw [decide_eq_false h]; exact ⟨rfl, rfl⟩
theorem fin_eq {α : Type} [DecidableEq α] {a b : α} (h : a = b) : DT.v (DV.one (DC.sc (.bool true))) = .v (.one (dB (decide (a = b)))) ∧ ([] : DH) = [] := by
 rw [decide_eq_true h]; exact ⟨rfl, rfl⟩
theorem eqArea_ok (a b : Area) : CallV Try.prog 183 [.agg [dI a.fr, dI a.mn, dB a.wr, dB a.sh], .agg [dI b.fr, dI b.mn, dB b.wr, dB b.sh]] (.v (.one (dB (decide (a = b))))) := by
 refine callX_of hmix Try.func183 ok183 ?_
 (conv=>whnf)<;>repeat' first|(refine cond_t ?_;conv=>whnf)|(refine cond_f ?_;conv=>whnf)
 refine CondP.mk (fun h1 => ?_) (fun h1 => ?_) <;> (conv=>whnf)<;>repeat' first|(refine cond_t ?_;conv=>whnf)|(refine cond_f ?_;conv=>whnf)
 ·exact fin_ne fun e => by subst e; simp at h1
 refine CondP.mk (fun h2 => ?_) (fun h2 => ?_) <;> (conv=>whnf)<;>repeat' first|(refine cond_t ?_;conv=>whnf)|(refine cond_f ?_;conv=>whnf)
 ·exact fin_ne fun e => by subst e; simp at h2
 refine CondP.mk (fun h3 => ?_) (fun h3 => ?_) <;> (conv=>whnf)<;>repeat' first|(refine cond_t ?_;conv=>whnf)|(refine cond_f ?_;conv=>whnf)
 ·exact fin_ne fun e => by subst e; simp at h3
 refine CondP.mk (fun h4 => ?_) (fun h4 => ?_) <;> (conv=>whnf)<;>repeat' first|(refine cond_t ?_;conv=>whnf)|(refine cond_f ?_;conv=>whnf)
 ·exact fin_ne fun e => by subst e; simp at h4
 refine fin_eq ?_
 cases a; cases b; simp_all
theorem eqSlot_ok (a b : Slot) : CallV Try.prog 184 [.agg [dI a.kd, dI a.pl, dB a.ow, dB a.us], .agg [dI b.kd, dI b.pl, dB b.ow, dB b.us]] (.v (.one (dB (decide (a = b))))) := by
 refine callX_of hmix Try.func184 ok184 ?_
 (conv=>whnf)<;>repeat' first|(refine cond_t ?_;conv=>whnf)|(refine cond_f ?_;conv=>whnf)
 refine CondP.mk (fun h1 => ?_) (fun h1 => ?_) <;> (conv=>whnf)<;>repeat' first|(refine cond_t ?_;conv=>whnf)|(refine cond_f ?_;conv=>whnf)
 ·exact fin_ne fun e => by subst e; simp at h1
 refine CondP.mk (fun h2 => ?_) (fun h2 => ?_) <;> (conv=>whnf)<;>repeat' first|(refine cond_t ?_;conv=>whnf)|(refine cond_f ?_;conv=>whnf)
 ·exact fin_ne fun e => by subst e; simp at h2
 refine CondP.mk (fun h3 => ?_) (fun h3 => ?_) <;> (conv=>whnf)<;>repeat' first|(refine cond_t ?_;conv=>whnf)|(refine cond_f ?_;conv=>whnf)
 ·exact fin_ne fun e => by subst e; simp at h3
 refine CondP.mk (fun h4 => ?_) (fun h4 => ?_) <;> (conv=>whnf)<;>repeat' first|(refine cond_t ?_;conv=>whnf)|(refine cond_f ?_;conv=>whnf)
 ·exact fin_ne fun e => by subst e; simp at h4
 refine fin_eq ?_
 cases a; cases b; simp_all
end Go.Qm
namespace Go.Qm
open Go.Cq Go.Cq.D Go.RowKit Go.Proofs
set_option maxRecDepth 10000
def aL (a : Slot) : List DC := [dI a.kd, dI a.pl, dB a.ow, dB a.us]
def aP (b : Bool) (s : Space) : List DC := [dB s.lv, .ro b 4 (s.ar.map rA), .ro b 4 (s.sl.map rL)]
theorem ldL {b : Bool} {l : List Slot} {i : Nat} (h : i < l.length) : (loadRp b (l.map rL) i 0 4).map DV.agg = some (.agg (aL l[i])) := by
 simp [loadRp, rL, h, eI, eB, aL, dI, dB]
theorem ldP {b : Bool} {l : List Space} {i : Nat} (h : i < l.length) : (loadRp b (l.map rP) i 0 3).map DV.agg = some (.agg (aP b l[i])) := by
 simp [loadRp, rP, h, eB, aP, dB]
theorem eqAreaS_ok (b1 b2 : Bool) (l1 l2 : List Area) (hb : l1.length ≤ 4611686018427387904) : CallV Try.prog 167 [.one (.ro b1 4 (l1.map rA)), .one (.ro b2 4 (l2.map rA))] (.v (.one (dB (decide (l1 = l2))))) := by
 refine callX_of hmix Try.func167 ok167 ?_
 (conv=>whnf)<;>repeat' first|(refine cond_t ?_;conv=>whnf)|(refine cond_f ?_;conv=>whnf)
 refine CondP.mk (fun h => ?_) (fun h => ?_) <;> (conv=>whnf)<;>repeat' first|(refine cond_t ?_;conv=>whnf)|(refine cond_f ?_;conv=>whnf)
 ·exact fin_ne fun e => by subst e; simp at h
 ·have hl : l1.length = l2.length := by
   have : (l1.length : Int) = l2.length := by simpa using h
   omega
  refine loop_at (fun i : Nat => [(0, .v (.one (.ro b1 4 (l1.map rA)))), (1, .v (.one (.ro b2 4 (l2.map rA)))), (5, .v (.one (dI i)))]) (fun _ => []) (fun _ => 0) (fun i => i ≤ l1.length ∧ l1.take i = l2.take i) (fun i => l1.length - i) 0 ⟨by omega, rfl⟩ rfl rfl rfl fun i hi => ?_
  (conv=>whnf)<;>repeat' first|(refine cond_t ?_;conv=>whnf)|(refine cond_f ?_;conv=>whnf)
  refine CondP.mk (fun h => ?_) (fun h => ?_) <;> (conv=>whnf)<;>repeat' first|(refine cond_t ?_;conv=>whnf)|(refine cond_f ?_;conv=>whnf)
  ·have hi1 : i < l1.length := by simpa using h
   have hi2 : i < l2.length := by omega
   refine op_idx_ro (k := i) rfl rfl (by simpa using hi1) ?_
   (conv=>whnf)<;>repeat' first|(refine cond_t ?_;conv=>whnf)|(refine cond_f ?_;conv=>whnf)
   refine op_load_rp rfl (ldA hi1) ?_
   (conv=>whnf)<;>repeat' first|(refine cond_t ?_;conv=>whnf)|(refine cond_f ?_;conv=>whnf)
   refine op_idx_ro (k := i) rfl rfl (by simpa using hi2) ?_
   (conv=>whnf)<;>repeat' first|(refine cond_t ?_;conv=>whnf)|(refine cond_f ?_;conv=>whnf)
   refine op_load_rp rfl (ldA hi2) ?_
   (conv=>whnf)<;>repeat' first|(refine cond_t ?_;conv=>whnf)|(refine cond_f ?_;conv=>whnf)
   refine op_callV [.pass, .pass] rfl rfl rfl (eqArea_ok l1[i] l2[i]) rfl ?_
   (conv=>whnf)<;>repeat' first|(refine cond_t ?_;conv=>whnf)|(refine cond_f ?_;conv=>whnf)
   refine CondP.mk (fun h => ?_) (fun h => ?_) <;> (conv=>whnf)<;>repeat' first|(refine cond_t ?_;conv=>whnf)|(refine cond_f ?_;conv=>whnf)
   ·exact fin_ne fun e => by subst e; simp at h
   ·have he : l1[i] = l2[i] := by simpa using h
    refine ⟨i + 1, by omega, ⟨by omega, ?_⟩, ?_, rfl, rfl⟩
    ·rw [List.take_succ_eq_append_getElem hi1, List.take_succ_eq_append_getElem hi2, hi.2, he]
    ·rw [← up hi1 hb]; rfl
  ·have : i = l1.length := by
                 have : ¬ i < l1.length := by simpa using h
                 omega
   refine fin_eq ?_
   have := hi.2
   rw [List.take_of_length_le (by omega), List.take_of_length_le (by omega)] at this
   exact this
theorem eqSlotS_ok (b1 b2 : Bool) (l1 l2 : List Slot) (hb : l1.length ≤ 4611686018427387904) : CallV Try.prog 168 [.one (.ro b1 4 (l1.map rL)), .one (.ro b2 4 (l2.map rL))] (.v (.one (dB (decide (l1 = l2))))) := by
 refine callX_of hmix Try.func168 ok168 ?_
 (conv=>whnf)<;>repeat' first|(refine cond_t ?_;conv=>whnf)|(refine cond_f ?_;conv=>whnf)
 refine CondP.mk (fun h => ?_) (fun h => ?_) <;> (conv=>whnf)<;>repeat' first|(refine cond_t ?_;conv=>whnf)|(refine cond_f ?_;conv=>whnf)
 ·exact fin_ne fun e => by subst e; simp at h
 ·have hl : l1.length = l2.length := by
   have : (l1.length : Int) = l2.length := by simpa using h
   omega
  refine loop_at (fun i : Nat => [(0, .v (.one (.ro b1 4 (l1.map rL)))), (1, .v (.one (.ro b2 4 (l2.map rL)))), (5, .v (.one (dI i)))]) (fun _ => []) (fun _ => 0) (fun i => i ≤ l1.length ∧ l1.take i = l2.take i) (fun i => l1.length - i) 0 ⟨by omega, rfl⟩ rfl rfl rfl fun i hi => ?_
  (conv=>whnf)<;>repeat' first|(refine cond_t ?_;conv=>whnf)|(refine cond_f ?_;conv=>whnf)
  refine CondP.mk (fun h => ?_) (fun h => ?_) <;> (conv=>whnf)<;>repeat' first|(refine cond_t ?_;conv=>whnf)|(refine cond_f ?_;conv=>whnf)
  ·have hi1 : i < l1.length := by simpa using h
   have hi2 : i < l2.length := by omega
   refine op_idx_ro (k := i) rfl rfl (by simpa using hi1) ?_
   (conv=>whnf)<;>repeat' first|(refine cond_t ?_;conv=>whnf)|(refine cond_f ?_;conv=>whnf)
   refine op_load_rp rfl (ldL hi1) ?_
   (conv=>whnf)<;>repeat' first|(refine cond_t ?_;conv=>whnf)|(refine cond_f ?_;conv=>whnf)
   refine op_idx_ro (k := i) rfl rfl (by simpa using hi2) ?_
   (conv=>whnf)<;>repeat' first|(refine cond_t ?_;conv=>whnf)|(refine cond_f ?_;conv=>whnf)
   refine op_load_rp rfl (ldL hi2) ?_
   (conv=>whnf)<;>repeat' first|(refine cond_t ?_;conv=>whnf)|(refine cond_f ?_;conv=>whnf)
   refine op_callV [.pass, .pass] rfl rfl rfl (eqSlot_ok l1[i] l2[i]) rfl ?_
   (conv=>whnf)<;>repeat' first|(refine cond_t ?_;conv=>whnf)|(refine cond_f ?_;conv=>whnf)
   refine CondP.mk (fun h => ?_) (fun h => ?_) <;> (conv=>whnf)<;>repeat' first|(refine cond_t ?_;conv=>whnf)|(refine cond_f ?_;conv=>whnf)
   ·exact fin_ne fun e => by subst e; simp at h
   ·have he : l1[i] = l2[i] := by simpa using h
    refine ⟨i + 1, by omega, ⟨by omega, ?_⟩, ?_, rfl, rfl⟩
    ·rw [List.take_succ_eq_append_getElem hi1, List.take_succ_eq_append_getElem hi2, hi.2, he]
    ·rw [← up hi1 hb]; rfl
  ·have : i = l1.length := by
                 have : ¬ i < l1.length := by simpa using h
                 omega
   refine fin_eq ?_
   have := hi.2
   rw [List.take_of_length_le (by omega), List.take_of_length_le (by omega)] at this
   exact this
theorem eqSpace_ok (b1 b2 b3 b4 : Bool) (x y : Space) (h1 : x.ar.length ≤ 4611686018427387904) (h2 : x.sl.length ≤ 4611686018427387904) : CallV Try.prog 133 [.agg [dB x.lv, .ro b1 4 (x.ar.map rA), .ro b2 4 (x.sl.map rL)], .agg [dB y.lv, .ro b3 4 (y.ar.map rA), .ro b4 4 (y.sl.map rL)]] (.v (.one (dB (decide (x = y))))) := by
 refine callX_of hmix Try.func133 ok133 ?_
 (conv=>whnf)<;>repeat' first|(refine cond_t ?_;conv=>whnf)|(refine cond_f ?_;conv=>whnf)
 refine CondP.mk (fun h1 => ?_) (fun h1 => ?_) <;> (conv=>whnf)<;>repeat' first|(refine cond_t ?_;conv=>whnf)|(refine cond_f ?_;conv=>whnf)
 ·exact fin_ne fun e => by subst e; simp at h1
 refine op_callV [.pass, .pass] rfl rfl rfl (eqAreaS_ok _ _ x.ar y.ar (by assumption)) rfl ?_
 (conv=>whnf)<;>repeat' first|(refine cond_t ?_;conv=>whnf)|(refine cond_f ?_;conv=>whnf)
 refine CondP.mk (fun h2 => ?_) (fun h2 => ?_) <;> (conv=>whnf)<;>repeat' first|(refine cond_t ?_;conv=>whnf)|(refine cond_f ?_;conv=>whnf)
 ·exact fin_ne fun e => by subst e; simp at h2
 refine op_callV [.pass, .pass] rfl rfl rfl (eqSlotS_ok _ _ x.sl y.sl (by assumption)) rfl ?_
 (conv=>whnf)<;>repeat' first|(refine cond_t ?_;conv=>whnf)|(refine cond_f ?_;conv=>whnf)
 refine CondP.mk (fun h3 => ?_) (fun h3 => ?_) <;> (conv=>whnf)<;>repeat' first|(refine cond_t ?_;conv=>whnf)|(refine cond_f ?_;conv=>whnf)
 ·exact fin_ne fun e => by subst e; simp at h3
 refine fin_eq ?_
 cases x; cases y; simp_all
def spFits (n : Nat) (l : List Space) : Prop := ∀ s, s ∈ l → s.ar.length ≤ n ∧ s.sl.length ≤ n
theorem eqSpaceS_ok (b1 b2 : Bool) (l1 l2 : List Space) (hb : l1.length ≤ 4611686018427387904) (hs : spFits 4611686018427387904 l1) : CallV Try.prog 68 [.one (.ro b1 3 (l1.map rP)), .one (.ro b2 3 (l2.map rP))] (.v (.one (dB (decide (l1 = l2))))) := by
 refine callX_of hmix Try.func68 ok68 ?_
 (conv=>whnf)<;>repeat' first|(refine cond_t ?_;conv=>whnf)|(refine cond_f ?_;conv=>whnf)
 refine CondP.mk (fun h => ?_) (fun h => ?_) <;> (conv=>whnf)<;>repeat' first|(refine cond_t ?_;conv=>whnf)|(refine cond_f ?_;conv=>whnf)
 ·exact fin_ne fun e => by subst e; simp at h
 ·have hl : l1.length = l2.length := by
   have : (l1.length : Int) = l2.length := by simpa using h
   omega
  refine loop_at (fun i : Nat => [(0, .v (.one (.ro b1 3 (l1.map rP)))), (1, .v (.one (.ro b2 3 (l2.map rP)))), (5, .v (.one (dI i)))]) (fun _ => []) (fun _ => 0) (fun i => i ≤ l1.length ∧ l1.take i = l2.take i) (fun i => l1.length - i) 0 ⟨by omega, rfl⟩ rfl rfl rfl fun i hi => ?_
  (conv=>whnf)<;>repeat' first|(refine cond_t ?_;conv=>whnf)|(refine cond_f ?_;conv=>whnf)
  refine CondP.mk (fun h => ?_) (fun h => ?_) <;> (conv=>whnf)<;>repeat' first|(refine cond_t ?_;conv=>whnf)|(refine cond_f ?_;conv=>whnf)
  ·have hi1 : i < l1.length := by simpa using h
   have hi2 : i < l2.length := by omega
   refine op_idx_ro (k := i) rfl rfl (by simpa using hi1) ?_
   (conv=>whnf)<;>repeat' first|(refine cond_t ?_;conv=>whnf)|(refine cond_f ?_;conv=>whnf)
   refine op_load_rp rfl (ldP hi1) ?_
   (conv=>whnf)<;>repeat' first|(refine cond_t ?_;conv=>whnf)|(refine cond_f ?_;conv=>whnf)
   refine op_idx_ro (k := i) rfl rfl (by simpa using hi2) ?_
   (conv=>whnf)<;>repeat' first|(refine cond_t ?_;conv=>whnf)|(refine cond_f ?_;conv=>whnf)
   refine op_load_rp rfl (ldP hi2) ?_
   (conv=>whnf)<;>repeat' first|(refine cond_t ?_;conv=>whnf)|(refine cond_f ?_;conv=>whnf)
   refine op_callV [.pass, .pass] rfl rfl rfl (eqSpace_ok _ _ _ _ l1[i] l2[i] (hs _ (List.getElem_mem hi1)).1 (hs _ (List.getElem_mem hi1)).2) rfl ?_
   (conv=>whnf)<;>repeat' first|(refine cond_t ?_;conv=>whnf)|(refine cond_f ?_;conv=>whnf)
   refine CondP.mk (fun h => ?_) (fun h => ?_) <;> (conv=>whnf)<;>repeat' first|(refine cond_t ?_;conv=>whnf)|(refine cond_f ?_;conv=>whnf)
   ·exact fin_ne fun e => by subst e; simp at h
   ·have he : l1[i] = l2[i] := by simpa using h
    refine ⟨i + 1, by omega, ⟨by omega, ?_⟩, ?_, rfl, rfl⟩
    ·rw [List.take_succ_eq_append_getElem hi1, List.take_succ_eq_append_getElem hi2, hi.2, he]
    ·rw [← up hi1 hb]; rfl
  ·have : i = l1.length := by
                 have : ¬ i < l1.length := by simpa using h
                 omega
   refine fin_eq ?_
   have := hi.2
   rw [List.take_of_length_le (by omega), List.take_of_length_le (by omega)] at this
   exact this
theorem eqPages_ok (b1 b2 b3 b4 : Bool) (x y : Pages) (h1 : x.tx.length ≤ 4611686018427387904) (h2 : x.rf.length ≤ 4611686018427387904) : CallV Try.prog 67 [.agg [.ro b1 1 (x.tx.map rS), .ro b2 1 (x.rf.map rI)], .agg [.ro b3 1 (y.tx.map rS), .ro b4 1 (y.rf.map rI)]] (.v (.one (dB (decide (x = y))))) := by
 refine callX_of hmix Try.func67 ok67 ?_
 (conv=>whnf)<;>repeat' first|(refine cond_t ?_;conv=>whnf)|(refine cond_f ?_;conv=>whnf)
 refine op_callV [.pass, .pass] rfl rfl rfl (eqStringS_ok _ _ x.tx y.tx h1) rfl ?_
 (conv=>whnf)<;>repeat' first|(refine cond_t ?_;conv=>whnf)|(refine cond_f ?_;conv=>whnf)
 refine CondP.mk (fun h2 => ?_) (fun h2 => ?_) <;> (conv=>whnf)<;>repeat' first|(refine cond_t ?_;conv=>whnf)|(refine cond_f ?_;conv=>whnf)
 ·exact fin_ne fun e => by subst e; simp at h2
 refine op_callV [.pass, .pass] rfl rfl rfl (eqIntS_ok _ _ x.rf y.rf (by assumption)) rfl ?_
 (conv=>whnf)<;>repeat' first|(refine cond_t ?_;conv=>whnf)|(refine cond_f ?_;conv=>whnf)
 refine CondP.mk (fun h3 => ?_) (fun h3 => ?_) <;> (conv=>whnf)<;>repeat' first|(refine cond_t ?_;conv=>whnf)|(refine cond_f ?_;conv=>whnf)
 ·exact fin_ne fun e => by subst e; simp at h3
 refine fin_eq ?_
 cases x; cases y; simp_all
structure Mem.fits (n : Nat) (m : Mem) : Prop where
 rt : m.ram.tx.length ≤ n
 rr : m.ram.rf.length ≤ n
 st : m.swp.tx.length ≤ n
 sr : m.swp.rf.length ≤ n
 sp : m.sp.length ≤ n
 ss : spFits n m.sp
def aM (b1 b2 b3 b4 b5 : Bool) (m : Mem) : DV := .agg [.ro b1 1 (m.ram.tx.map rS), .ro b2 1 (m.ram.rf.map rI), .ro b3 1 (m.swp.tx.map rS), .ro b4 1 (m.swp.rf.map rI), .ro b5 3 (m.sp.map rP), dI m.hd]
theorem eqMem_ok (b1 b2 b3 b4 b5 c1 c2 c3 c4 c5 : Bool) (x y : Mem) (h : x.fits 4611686018427387904) : CallV Try.prog 26 [aM b1 b2 b3 b4 b5 x, aM c1 c2 c3 c4 c5 y] (.v (.one (dB (decide (x = y))))) := by
 refine callX_of hmix Try.func26 ok26 ?_
 (conv=>whnf)<;>repeat' first|(refine cond_t ?_;conv=>whnf)|(refine cond_f ?_;conv=>whnf)
 refine op_callV [.pass, .pass] rfl rfl rfl (eqPages_ok _ _ _ _ x.ram y.ram h.rt h.rr) rfl ?_
 (conv=>whnf)<;>repeat' first|(refine cond_t ?_;conv=>whnf)|(refine cond_f ?_;conv=>whnf)
 refine CondP.mk (fun h2 => ?_) (fun h2 => ?_) <;> (conv=>whnf)<;>repeat' first|(refine cond_t ?_;conv=>whnf)|(refine cond_f ?_;conv=>whnf)
 ·exact fin_ne fun e => by subst e; simp at h2
 refine op_callV [.pass, .pass] rfl rfl rfl (eqPages_ok _ _ _ _ x.swp y.swp h.st h.sr) rfl ?_
 (conv=>whnf)<;>repeat' first|(refine cond_t ?_;conv=>whnf)|(refine cond_f ?_;conv=>whnf)
 refine CondP.mk (fun h3 => ?_) (fun h3 => ?_) <;> (conv=>whnf)<;>repeat' first|(refine cond_t ?_;conv=>whnf)|(refine cond_f ?_;conv=>whnf)
 ·exact fin_ne fun e => by subst e; simp at h3
 refine op_callV [.pass, .pass] rfl rfl rfl (eqSpaceS_ok _ _ x.sp y.sp h.sp h.ss) rfl ?_
 (conv=>whnf)<;>repeat' first|(refine cond_t ?_;conv=>whnf)|(refine cond_f ?_;conv=>whnf)
 refine CondP.mk (fun h4 => ?_) (fun h4 => ?_) <;> (conv=>whnf)<;>repeat' first|(refine cond_t ?_;conv=>whnf)|(refine cond_f ?_;conv=>whnf)
 ·exact fin_ne fun e => by subst e; simp at h4
 refine CondP.mk (fun h5 => ?_) (fun h5 => ?_) <;> (conv=>whnf)<;>repeat' first|(refine cond_t ?_;conv=>whnf)|(refine cond_f ?_;conv=>whnf)
 ·exact fin_ne fun e => by subst e; simp at h5
 refine fin_eq ?_
 cases x; cases y; simp_all
end Go.Qm
namespace Go.Qm
open Go.Cq Go.Cq.D Go.RowKit Go.Proofs
set_option maxRecDepth 10000
def less (left : Int) (n : Nat) : Int := if left - n < 0 then -1 else left - n
def lessAll {α : Type} (f : Int → α → Int) : Int → List α → Int
 | left, [] => left
 | left, a :: l => if f left a < 0 then -1 else lessAll f (f left a) l
def szStrs (left : Int) (l : List Str) : Int := if left - l.length < 0 then -1 else lessAll (fun x (s : Str) => x - s.length) (left - l.length) l
def szPages (left : Int) (p : Pages) : Int := if szStrs left p.tx < 0 then -1 else less (szStrs left p.tx) p.rf.length
def szSpace (left : Int) (s : Space) : Int := if less left s.ar.length < 0 then -1 else less (less left s.ar.length) s.sl.length
def szSpaces (left : Int) (l : List Space) : Int := if left - l.length < 0 then -1 else lessAll szSpace (left - l.length) l
def szMem (left : Int) (m : Mem) : Int := if szPages left m.ram < 0 then -1 else if szPages (szPages left m.ram) m.swp < 0 then -1 else szSpaces (szPages (szPages left m.ram) m.swp) m.sp
theorem lessAll_step {α : Type} {f : Int → α → Int} {left : Int} {l : List α} {i : Nat} (h : i < l.length) : lessAll f left (l.drop i) = if f left l[i] < 0 then -1 else lessAll f (f left l[i]) (l.drop (i + 1)) := by
 rw [List.drop_eq_getElem_cons h, lessAll]
theorem less_le {left : Int} {n : Nat} (h : 0 ≤ less left n) : less left n = left - n ∧ (n : Int) ≤ left := by
 unfold less at h ⊢
 split <;> rename_i e
 ·rw [if_pos e] at h; omega
 ·omega
theorem less_bd {left : Int} {n : Nat} (h : -1 ≤ left) : -1 ≤ less left n ∧ less left n ≤ left := by
 unfold less; split <;> omega
theorem lessAll_bd {α : Type} {f : Int → α → Int} : ∀ {l : List α} {left : Int}, (∀ x a, a ∈ l → 0 ≤ x → 0 ≤ f x a → f x a ≤ x) → 0 ≤ left → -1 ≤ lessAll f left l ∧ lessAll f left l ≤ left := by
 intro l
 induction l with
 | nil => intro left _ h; simp only [lessAll]; omega
 | cons a l ih =>
  intro left hf h
  simp only [lessAll]
  split
  ·omega
  ·rename_i e
   have := ih (fun x b hb => hf x b (List.mem_cons_of_mem _ hb)) (left := f left a) (by omega)
   have := hf left a (List.mem_cons_self ..) h (by omega)
   omega
theorem szSpace_bd {left : Int} {s : Space} (h : 0 ≤ left) : -1 ≤ szSpace left s ∧ szSpace left s ≤ left := by
 unfold szSpace
 split
 ·omega
 ·have h1 := less_bd (n := s.ar.length) (left := left) (by omega)
  have h2 := less_bd (n := s.sl.length) (left := less left s.ar.length) (by omega)
  omega
theorem szStrs_bd {left : Int} {l : List Str} (h : 0 ≤ left) : -1 ≤ szStrs left l ∧ szStrs left l ≤ left := by
 unfold szStrs
 split
 ·omega
 ·have := lessAll_bd (f := fun x (s : Str) => x - s.length) (l := l) (left := left - l.length) (fun x a _ _ _ => by omega) (by omega)
  omega
theorem szPages_bd {left : Int} {p : Pages} (h : 0 ≤ left) : -1 ≤ szPages left p ∧ szPages left p ≤ left := by
 unfold szPages
 have h1 := szStrs_bd (l := p.tx) h
 split
 ·omega
 ·have h2 := less_bd (n := p.rf.length) (left := szStrs left p.tx) (by omega)
  omega
theorem szSpaces_bd {left : Int} {l : List Space} (h : 0 ≤ left) : -1 ≤ szSpaces left l ∧ szSpaces left l ≤ left := by
 unfold szSpaces
 split
 ·omega
 ·have := lessAll_bd (f := szSpace) (l := l) (left := left - l.length) (fun x a _ h1 _ => (szSpace_bd h1).2) (by omega)
  omega
theorem w_less {left : Int} {n : Nat} (h : 0 ≤ left) (h2 : left ≤ 4611686018427387904) (hn : n ≤ 9223372036854775807) : IntKind.wrap .i64 (left - n) = left - n := wrap64 (by omega) (by omega)
theorem szIntS_ok (b : Bool) (l : List Int) (left : Int) (h0 : 0 ≤ left) (hx : left ≤ 4611686018427387904) (hl : l.length ≤ 9223372036854775807) : CallV Try.prog 121 [.one (.ro b 1 (l.map rI)), .one (dI left)] (.v (.one (dI (less left l.length)))) := by
 refine callX_of hmix Try.func121 ok121 ?_
 (conv=>whnf)<;>repeat' first|(refine cond_t ?_;conv=>whnf)|(refine cond_f ?_;conv=>whnf)
 have e : IntKind.wrap .i64 (left - (l.map rI).length) = left - l.length := by rw [List.length_map]; exact w_less h0 hx hl
 rw [e]
 refine CondP.mk (fun h => ?_) (fun h => ?_) <;> (conv=>whnf)<;>repeat' first|(refine cond_t ?_;conv=>whnf)|(refine cond_f ?_;conv=>whnf)
 ·refine ⟨?_, rfl⟩
  have : left - l.length < 0 := by simpa using h
  rw [less, if_pos this]; rfl
 ·refine ⟨?_, rfl⟩
  have : ¬ left - l.length < 0 := by simpa using h
  rw [less, if_neg this]; rfl
theorem szAreaS_ok (b : Bool) (l : List Area) (left : Int) (h0 : 0 ≤ left) (hx : left ≤ 4611686018427387904) (hl : l.length ≤ 9223372036854775807) : CallV Try.prog 160 [.one (.ro b 4 (l.map rA)), .one (dI left)] (.v (.one (dI (less left l.length)))) := by
 refine callX_of hmix Try.func160 ok160 ?_
 (conv=>whnf)<;>repeat' first|(refine cond_t ?_;conv=>whnf)|(refine cond_f ?_;conv=>whnf)
 have e : IntKind.wrap .i64 (left - (l.map rA).length) = left - l.length := by rw [List.length_map]; exact w_less h0 hx hl
 rw [e]
 refine CondP.mk (fun h => ?_) (fun h => ?_) <;> (conv=>whnf)<;>repeat' first|(refine cond_t ?_;conv=>whnf)|(refine cond_f ?_;conv=>whnf)
 ·refine ⟨?_, rfl⟩
  have : left - l.length < 0 := by simpa using h
  rw [less, if_pos this]; rfl
 ·refine ⟨?_, rfl⟩
  have : ¬ left - l.length < 0 := by simpa using h
  rw [less, if_neg this]; rfl
theorem szSlotS_ok (b : Bool) (l : List Slot) (left : Int) (h0 : 0 ≤ left) (hx : left ≤ 4611686018427387904) (hl : l.length ≤ 9223372036854775807) : CallV Try.prog 161 [.one (.ro b 4 (l.map rL)), .one (dI left)] (.v (.one (dI (less left l.length)))) := by
 refine callX_of hmix Try.func161 ok161 ?_
 (conv=>whnf)<;>repeat' first|(refine cond_t ?_;conv=>whnf)|(refine cond_f ?_;conv=>whnf)
 have e : IntKind.wrap .i64 (left - (l.map rL).length) = left - l.length := by rw [List.length_map]; exact w_less h0 hx hl
 rw [e]
 refine CondP.mk (fun h => ?_) (fun h => ?_) <;> (conv=>whnf)<;>repeat' first|(refine cond_t ?_;conv=>whnf)|(refine cond_f ?_;conv=>whnf)
 ·refine ⟨?_, rfl⟩
  have : left - l.length < 0 := by simpa using h
  rw [less, if_pos this]; rfl
 ·refine ⟨?_, rfl⟩
  have : ¬ left - l.length < 0 := by simpa using h
  rw [less, if_neg this]; rfl
theorem szStringS_ok (b : Bool) (l : List Str) (left : Int) (h0 : 0 ≤ left) (hx : left ≤ 4611686018427387904) (hl : l.length ≤ 9223372036854775807) (hs : ∀ s, s ∈ l → s.length ≤ 9223372036854775807) : CallV Try.prog 120 [.one (.ro b 1 (l.map rS)), .one (dI left)] (.v (.one (dI (szStrs left l)))) := by
 refine callX_of hmix Try.func120 ok120 ?_
 (conv=>whnf)<;>repeat' first|(refine cond_t ?_;conv=>whnf)|(refine cond_f ?_;conv=>whnf)
 have e : IntKind.wrap .i64 (left - (l.map rS).length) = left - l.length := by rw [List.length_map]; exact w_less h0 hx hl
 rw [e]
 refine CondP.mk (fun h => ?_) (fun h => ?_) <;> (conv=>whnf)<;>repeat' first|(refine cond_t ?_;conv=>whnf)|(refine cond_f ?_;conv=>whnf)
 ·refine ⟨?_, rfl⟩
  have : left - l.length < 0 := by simpa using h
  rw [szStrs, if_pos this]; rfl
 ·have hge : ¬ left - l.length < 0 := by simpa using h
  refine loop_at (fun p : Nat × Int => [(0, .v (.one (.ro b 1 (l.map rS)))), (1, .v (.one (dI p.2))), (5, .v (.one (dI p.1)))]) (fun _ => []) (fun _ => 0)
   (fun p => p.1 ≤ l.length ∧ 0 ≤ p.2 ∧ p.2 ≤ left ∧ szStrs left l = lessAll (fun x (s : Str) => x - s.length) p.2 (l.drop p.1)) (fun p => l.length - p.1) (0, left - l.length) ⟨by omega, by omega, by omega, by rw [szStrs, if_neg hge]; rfl⟩ rfl rfl rfl fun p hi => ?_
  obtain ⟨i, x⟩ := p
  obtain ⟨hi1, hi2, hi3, hi4⟩ := hi
  (conv=>whnf)<;>repeat' first|(refine cond_t ?_;conv=>whnf)|(refine cond_f ?_;conv=>whnf)
  refine CondP.mk (fun h => ?_) (fun h => ?_) <;> (conv=>whnf)<;>repeat' first|(refine cond_t ?_;conv=>whnf)|(refine cond_f ?_;conv=>whnf)
  ·have hlt : i < l.length := by simpa using h
   refine op_idx_ro (k := i) rfl rfl (by simpa using hlt) ?_
   (conv=>whnf)<;>repeat' first|(refine cond_t ?_;conv=>whnf)|(refine cond_f ?_;conv=>whnf)
   refine op_load_rp rfl (r := .one (.sc (.str l[i]))) (by simp [loadRp, rS, hlt, eS]) ?_
   (conv=>whnf)<;>repeat' first|(refine cond_t ?_;conv=>whnf)|(refine cond_f ?_;conv=>whnf)
   have e : IntKind.wrap .i64 (x - l[i].length) = x - l[i].length := w_less hi2 (by simp only at hi3; omega) (hs _ (List.getElem_mem hlt))
   rw [e]
   refine CondP.mk (fun h => ?_) (fun h => ?_) <;> (conv=>whnf)<;>repeat' first|(refine cond_t ?_;conv=>whnf)|(refine cond_f ?_;conv=>whnf)
   ·have h : x - l[i].length < 0 := by simpa using h
    refine ⟨?_, rfl⟩
    rw [hi4, lessAll_step hlt, if_pos h]; rfl
   ·have h : ¬ x - l[i].length < 0 := by simpa using h
    refine ⟨(i + 1, x - l[i].length), by simp only; omega, ⟨by simp only; omega, by simp only; omega, by simp only at hi3 ⊢; omega, ?_⟩, ?_, rfl, rfl⟩
    ·rw [hi4, lessAll_step hlt, if_neg h]
    ·show _ = _
     rw [← up hlt (by omega)]; rfl
  ·refine ⟨?_, rfl⟩
   have : i = l.length := by
                have : ¬ i < l.length := by simpa using h
                simp only at hi1
                omega
   subst this
   rw [hi4, List.drop_length]; rfl
theorem szPages_ok (b1 b2 : Bool) (p : Pages) (left : Int) (h0 : 0 ≤ left) (hx : left ≤ 4611686018427387904) (h1 : p.tx.length ≤ 9223372036854775807) (h2 : p.rf.length ≤ 9223372036854775807) (hs : ∀ s, s ∈ p.tx → s.length ≤ 9223372036854775807) : CallV Try.prog 56 [.agg [.ro b1 1 (p.tx.map rS), .ro b2 1 (p.rf.map rI)], .one (dI left)] (.v (.one (dI (szPages left p)))) := by
 refine callX_of hmix Try.func56 ok56 ?_
 (conv=>whnf)<;>repeat' first|(refine cond_t ?_;conv=>whnf)|(refine cond_f ?_;conv=>whnf)
 refine op_callV [.pass, .pass] rfl rfl rfl (szStringS_ok _ p.tx left h0 hx h1 hs) rfl ?_
 (conv=>whnf)<;>repeat' first|(refine cond_t ?_;conv=>whnf)|(refine cond_f ?_;conv=>whnf)
 have hb := szStrs_bd (l := p.tx) h0
 refine CondP.mk (fun h => ?_) (fun h => ?_) <;> (conv=>whnf)<;>repeat' first|(refine cond_t ?_;conv=>whnf)|(refine cond_f ?_;conv=>whnf)
 ·have h : szStrs left p.tx < 0 := by simpa using h
  refine ⟨?_, rfl⟩
  rw [szPages, if_pos h]; rfl
 ·have h : ¬ szStrs left p.tx < 0 := by simpa using h
  refine op_callV [.pass, .pass] rfl rfl rfl (szIntS_ok _ p.rf (szStrs left p.tx) (by omega) (by omega) h2) rfl ?_
  (conv=>whnf)<;>repeat' first|(refine cond_t ?_;conv=>whnf)|(refine cond_f ?_;conv=>whnf)
  refine CondP.mk (fun h3 => ?_) (fun h3 => ?_) <;> (conv=>whnf)<;>repeat' first|(refine cond_t ?_;conv=>whnf)|(refine cond_f ?_;conv=>whnf)
  ·have h3 : less (szStrs left p.tx) p.rf.length < 0 := by simpa using h3
   have hb2 := less_bd (n := p.rf.length) (left := szStrs left p.tx) (by omega)
   refine ⟨?_, rfl⟩
   rw [szPages, if_neg h]
   rw [show less (szStrs left p.tx) p.rf.length = -1 by omega]; rfl
  ·refine ⟨?_, rfl⟩
   rw [szPages, if_neg h]; rfl
theorem szSpace_ok (b : Bool) (s : Space) (left : Int) (h0 : 0 ≤ left) (hx : left ≤ 4611686018427387904) (h1 : s.ar.length ≤ 9223372036854775807) (h2 : s.sl.length ≤ 9223372036854775807) : CallV Try.prog 122 [.agg (aP b s), .one (dI left)] (.v (.one (dI (szSpace left s)))) := by
 refine callX_of hmix Try.func122 ok122 ?_
 (conv=>whnf)<;>repeat' first|(refine cond_t ?_;conv=>whnf)|(refine cond_f ?_;conv=>whnf)
 refine op_callV [.pass, .pass] rfl rfl rfl (szAreaS_ok _ s.ar left h0 hx h1) rfl ?_
 (conv=>whnf)<;>repeat' first|(refine cond_t ?_;conv=>whnf)|(refine cond_f ?_;conv=>whnf)
 have hb := less_bd (n := s.ar.length) (left := left) (by omega)
 refine CondP.mk (fun h => ?_) (fun h => ?_) <;> (conv=>whnf)<;>repeat' first|(refine cond_t ?_;conv=>whnf)|(refine cond_f ?_;conv=>whnf)
 ·have h : less left s.ar.length < 0 := by simpa using h
  refine ⟨?_, rfl⟩
  rw [szSpace, if_pos h]; rfl
 ·have h : ¬ less left s.ar.length < 0 := by simpa using h
  refine op_callV [.pass, .pass] rfl rfl rfl (szSlotS_ok _ s.sl (less left s.ar.length) (by omega) (by omega) h2) rfl ?_
  (conv=>whnf)<;>repeat' first|(refine cond_t ?_;conv=>whnf)|(refine cond_f ?_;conv=>whnf)
  refine CondP.mk (fun h3 => ?_) (fun h3 => ?_) <;> (conv=>whnf)<;>repeat' first|(refine cond_t ?_;conv=>whnf)|(refine cond_f ?_;conv=>whnf)
  ·have h3 : less (less left s.ar.length) s.sl.length < 0 := by simpa using h3
   have hb2 := less_bd (n := s.sl.length) (left := less left s.ar.length) (by omega)
   refine ⟨?_, rfl⟩
   rw [szSpace, if_neg h]
   rw [show less (less left s.ar.length) s.sl.length = -1 by omega]; rfl
  ·refine ⟨?_, rfl⟩
   rw [szSpace, if_neg h]; rfl
theorem szSpaceS_ok (b : Bool) (l : List Space) (left : Int) (h0 : 0 ≤ left) (hx : left ≤ 4611686018427387904) (hl : l.length ≤ 9223372036854775807) (hs : spFits 9223372036854775807 l) : CallV Try.prog 57 [.one (.ro b 3 (l.map rP)), .one (dI left)] (.v (.one (dI (szSpaces left l)))) := by
 refine callX_of hmix Try.func57 ok57 ?_
 (conv=>whnf)<;>repeat' first|(refine cond_t ?_;conv=>whnf)|(refine cond_f ?_;conv=>whnf)
 have e : IntKind.wrap .i64 (left - (l.map rP).length) = left - l.length := by rw [List.length_map]; exact w_less h0 hx hl
 rw [e]
 refine CondP.mk (fun h => ?_) (fun h => ?_) <;> (conv=>whnf)<;>repeat' first|(refine cond_t ?_;conv=>whnf)|(refine cond_f ?_;conv=>whnf)
 ·refine ⟨?_, rfl⟩
  have : left - l.length < 0 := by simpa using h
  rw [szSpaces, if_pos this]; rfl
 ·have hge : ¬ left - l.length < 0 := by simpa using h
  refine loop_at (fun p : Nat × Int => [(0, .v (.one (.ro b 3 (l.map rP)))), (1, .v (.one (dI p.2))), (5, .v (.one (dI p.1)))]) (fun _ => []) (fun _ => 0)
   (fun p => p.1 ≤ l.length ∧ 0 ≤ p.2 ∧ p.2 ≤ left ∧ szSpaces left l = lessAll szSpace p.2 (l.drop p.1)) (fun p => l.length - p.1) (0, left - l.length) ⟨by omega, by omega, by omega, by rw [szSpaces, if_neg hge]; rfl⟩ rfl rfl rfl fun p hi => ?_
  obtain ⟨i, x⟩ := p
  obtain ⟨hi1, hi2, hi3, hi4⟩ := hi
  simp only at hi1 hi2 hi3 hi4
  (conv=>whnf)<;>repeat' first|(refine cond_t ?_;conv=>whnf)|(refine cond_f ?_;conv=>whnf)
  refine CondP.mk (fun h => ?_) (fun h => ?_) <;> (conv=>whnf)<;>repeat' first|(refine cond_t ?_;conv=>whnf)|(refine cond_f ?_;conv=>whnf)
  ·have hlt : i < l.length := by simpa using h
   refine op_idx_ro (k := i) rfl rfl (by simpa using hlt) ?_
   (conv=>whnf)<;>repeat' first|(refine cond_t ?_;conv=>whnf)|(refine cond_f ?_;conv=>whnf)
   refine op_load_rp rfl (ldP hlt) ?_
   (conv=>whnf)<;>repeat' first|(refine cond_t ?_;conv=>whnf)|(refine cond_f ?_;conv=>whnf)
   refine op_callV [.pass, .pass] rfl rfl rfl (szSpace_ok b l[i] x hi2 (by omega) (hs _ (List.getElem_mem hlt)).1 (hs _ (List.getElem_mem hlt)).2) rfl ?_
   (conv=>whnf)<;>repeat' first|(refine cond_t ?_;conv=>whnf)|(refine cond_f ?_;conv=>whnf)
   have hb := szSpace_bd (s := l[i]) hi2
   refine CondP.mk (fun h => ?_) (fun h => ?_) <;> (conv=>whnf)<;>repeat' first|(refine cond_t ?_;conv=>whnf)|(refine cond_f ?_;conv=>whnf)
   ·have h : szSpace x l[i] < 0 := by simpa using h
    refine ⟨?_, rfl⟩
    rw [hi4, lessAll_step hlt, if_pos h]; rfl
   ·have h : ¬ szSpace x l[i] < 0 := by simpa using h
    refine ⟨(i + 1, szSpace x l[i]), by simp only; omega, ⟨by simp only; omega, by simp only; omega, by simp only; omega, ?_⟩, ?_, rfl, rfl⟩
    ·rw [hi4, lessAll_step hlt, if_neg h]
    ·show _ = _
     rw [← up hlt (by omega)]; rfl
  ·refine ⟨?_, rfl⟩
   have : i = l.length := by
                have : ¬ i < l.length := by simpa using h
                omega
   subst this
   rw [hi4, List.drop_length]; rfl
structure Mem.inW (m : Mem) : Prop where
 fit : m.fits 9223372036854775807
 rs : ∀ s, s ∈ m.ram.tx → s.length ≤ 9223372036854775807
 ss : ∀ s, s ∈ m.swp.tx → s.length ≤ 9223372036854775807
theorem szMem_ok (b1 b2 b3 b4 b5 : Bool) (m : Mem) (left : Int) (h0 : 0 ≤ left) (hx : left ≤ 4611686018427387904) (h : m.inW) : CallV Try.prog 22 [aM b1 b2 b3 b4 b5 m, .one (dI left)] (.v (.one (dI (szMem left m)))) := by
 refine callX_of hmix Try.func22 ok22 ?_
 (conv=>whnf)<;>repeat' first|(refine cond_t ?_;conv=>whnf)|(refine cond_f ?_;conv=>whnf)
 refine op_callV [.pass, .pass] rfl rfl rfl (szPages_ok _ _ m.ram left h0 hx h.fit.rt h.fit.rr h.rs) rfl ?_
 (conv=>whnf)<;>repeat' first|(refine cond_t ?_;conv=>whnf)|(refine cond_f ?_;conv=>whnf)
 have hb := szPages_bd (p := m.ram) h0
 refine CondP.mk (fun h1 => ?_) (fun h1 => ?_) <;> (conv=>whnf)<;>repeat' first|(refine cond_t ?_;conv=>whnf)|(refine cond_f ?_;conv=>whnf)
 ·have h1 : szPages left m.ram < 0 := by simpa using h1
  refine ⟨?_, rfl⟩
  rw [szMem, if_pos h1]; rfl
 have h1 : ¬ szPages left m.ram < 0 := by simpa using h1
 have hb2 := szPages_bd (p := m.swp) (left := szPages left m.ram) (by omega)
 refine op_callV [.pass, .pass] rfl rfl rfl (szPages_ok _ _ m.swp (szPages left m.ram) (by omega) (by omega) h.fit.st h.fit.sr h.ss) rfl ?_
 (conv=>whnf)<;>repeat' first|(refine cond_t ?_;conv=>whnf)|(refine cond_f ?_;conv=>whnf)
 refine CondP.mk (fun h2 => ?_) (fun h2 => ?_) <;> (conv=>whnf)<;>repeat' first|(refine cond_t ?_;conv=>whnf)|(refine cond_f ?_;conv=>whnf)
 ·have h2 : szPages (szPages left m.ram) m.swp < 0 := by simpa using h2
  refine ⟨?_, rfl⟩
  rw [szMem, if_neg h1, if_pos h2]; rfl
 have h2 : ¬ szPages (szPages left m.ram) m.swp < 0 := by simpa using h2
 have hb3 := szSpaces_bd (l := m.sp) (left := szPages (szPages left m.ram) m.swp) (by omega)
 refine op_callV [.pass, .pass] rfl rfl rfl (szSpaceS_ok _ m.sp (szPages (szPages left m.ram) m.swp) (by omega) (by omega) h.fit.sp h.fit.ss) rfl ?_
 (conv=>whnf)<;>repeat' first|(refine cond_t ?_;conv=>whnf)|(refine cond_f ?_;conv=>whnf)
 refine CondP.mk (fun h3 => ?_) (fun h3 => ?_) <;> (conv=>whnf)<;>repeat' first|(refine cond_t ?_;conv=>whnf)|(refine cond_f ?_;conv=>whnf)
 ·have h3 : szSpaces (szPages (szPages left m.ram) m.swp) m.sp < 0 := by simpa using h3
  refine ⟨?_, rfl⟩
  rw [szMem, if_neg h1, if_neg h2, show szSpaces (szPages (szPages left m.ram) m.swp) m.sp = -1 by omega]; rfl
 ·refine ⟨?_, rfl⟩
  rw [szMem, if_neg h1, if_neg h2]; rfl
end Go.Qm
namespace Go.Qm
open Go.Cq Go.Cq.D Go.RowKit Go.Proofs
set_option maxRecDepth 10000
def fillTo {α : Type} (f : α → List PV) (z : List PV) (l : List α) (i : Nat) : List (List PV) := (l.take i).map f ++ List.replicate (l.length - i) z
theorem fill_len {α : Type} {f : α → List PV} {z : List PV} {l : List α} {i : Nat} (h : i ≤ l.length) : (fillTo f z l i).length = l.length := by
 simp [fillTo]; omega
theorem fill_zero {α : Type} {f : α → List PV} {z : List PV} {l : List α} : fillTo f z l 0 = List.replicate l.length z := by simp [fillTo]
theorem fill_all {α : Type} {f : α → List PV} {z : List PV} {l : List α} : fillTo f z l l.length = l.map f := by simp [fillTo]
theorem fill_get {α : Type} {f : α → List PV} {z : List PV} {l : List α} {i : Nat} (h : i < l.length) : (fillTo f z l i)[i]? = some z := by
 simp [fillTo, List.getElem?_append, Nat.min_eq_left (Nat.le_of_lt h), List.getElem?_replicate]; omega
theorem fill_modify {α : Type} {f : α → List PV} {z : List PV} {l : List α} {i : Nat} {g : List PV → List PV} (h : i < l.length) (hg : g z = f l[i]) : (fillTo f z l i).modify i g = fillTo f z l (i + 1) := by
 refine List.ext_getElem? fun j => ?_
 rw [List.getElem?_modify]
 by_cases e : i = j
 ·subst e
  rw [fill_get h]
  simp [fillTo, List.getElem?_append, Nat.min_eq_left (show i + 1 ≤ l.length from h), hg, List.getElem?_take, h]
 ·simp only [fillTo, List.getElem?_append, List.length_map, List.length_take, List.getElem?_map, List.getElem?_take, List.getElem?_replicate, if_neg e, Nat.min_eq_left (show i + 1 ≤ l.length from h), Nat.min_eq_left (Nat.le_of_lt h)]
  rcases Nat.lt_trichotomy j i with h1 | h1 | h1
  ·simp [h1, show j < i + 1 by omega]
  ·omega
  ·simp [show ¬ j < i by omega, show ¬ j < i + 1 by omega]
   by_cases h2 : j - i < l.length - i
   ·rw [if_pos h2, if_pos (by omega)]
   ·rw [if_neg h2, if_neg (by omega)]
theorem fill_set {α : Type} {f : α → List PV} {z : List PV} {l : List α} {i : Nat} (h : i < l.length) : (fillTo f z l i).set i (f l[i]) = fillTo f z l (i + 1) := by
 rw [← fill_modify h (g := fun _ => f l[i]) rfl]
 refine List.ext_getElem? fun j => ?_
 rw [List.getElem?_modify, List.getElem?_set]
 by_cases e : i = j
 ·subst e; rw [fill_get h, if_pos rfl, if_pos (by rw [fill_len (Nat.le_of_lt h)]; exact h)]; simp
 ·simp [e]
theorem fill_next {α : Type} {f : α → List PV} {z : List PV} {l : List α} {i : Nat} {g : List PV → List PV} (h : i < l.length) (hg : g z = f l[i]) : (((fillTo f z l i).modify (0 + i) g).drop 0).take (fillTo f z l i).length = fillTo f z l (i + 1) := by
 rw [Nat.zero_add, fill_modify h hg, List.drop_zero, fill_len (Nat.le_of_lt h), ← fill_len (f := f) (z := z) (show i + 1 ≤ l.length from h), List.take_length]
theorem fill_next2 {α : Type} {f : α → List PV} {z : List PV} {l : List α} {i : Nat} (h : i < l.length) : (((fillTo f z l i).set (0 + i) (f l[i])).drop 0).take (fillTo f z l i).length = fillTo f z l (i + 1) := by
 rw [Nat.zero_add, fill_set h, List.drop_zero, fill_len (Nat.le_of_lt h), ← fill_len (f := f) (z := z) (show i + 1 ≤ l.length from h), List.take_length]
theorem fill_row {α : Type} {f : α → List PV} {z : List PV} {l : List α} {i n : Nat} (hz : z.length = n) (hf : ∀ a, (f a).length = n) : ∀ (j : Nat) row, (fillTo f z l i)[j]? = some row → row.length = n := by
 intro j row h
 have := List.mem_of_getElem? h
 simp only [fillTo, List.mem_append, List.mem_map, List.mem_replicate] at this
 rcases this with ⟨a, -, rfl⟩ | ⟨-, rfl⟩
 ·exact hf a
 ·exact hz
theorem toIntS_ok (b : Bool) (l : List Int) (hl : l.length ≤ 1048576) : CallV Try.prog 127 [.one (.ro b 1 (l.map rI))] (.v (.one (.own 1 (l.map rI)))) := by
 refine callX_of hmix Try.func127 ok127 ?_
 (conv=>whnf)<;>repeat' first|(refine cond_t ?_;conv=>whnf)|(refine cond_f ?_;conv=>whnf)
 have hl' : (l.map rI).length ≤ 1048576 := by rw [List.length_map]; exact hl
 refine op_mk rfl rfl rfl rfl (Nat.le_refl _) (by omega) (by omega) ?_
 (conv=>whnf)<;>repeat' first|(refine cond_t ?_;conv=>whnf)|(refine cond_f ?_;conv=>whnf)
 refine loop_at (fun i : Nat => [(0, .v (.one (.ro b 1 (l.map rI)))), (3, .v (.one (.own 1 (fillTo rI [.sc (.int .i64 0)] l i)))), (4, .v (.one (dI i)))]) (fun _ => []) (fun _ => 0)
  (fun i => i ≤ l.length) (fun i => l.length - i) 0 (by omega) (by rw [fill_zero, ← List.length_map (f := rI)]; simp [dI]) rfl rfl fun i hi => ?_
 (conv=>whnf)<;>repeat' first|(refine cond_t ?_;conv=>whnf)|(refine cond_f ?_;conv=>whnf)
 refine CondP.mk (fun h => ?_) (fun h => ?_) <;> (conv=>whnf)<;>repeat' first|(refine cond_t ?_;conv=>whnf)|(refine cond_f ?_;conv=>whnf)
 ·have hlt : i < l.length := by simpa using h
  refine op_idx_ro (k := i) rfl rfl (by simpa using hlt) ?_
  (conv=>whnf)<;>repeat' first|(refine cond_t ?_;conv=>whnf)|(refine cond_f ?_;conv=>whnf)
  refine op_load_rp rfl (r := .one (dI l[i])) (by simp [loadRp, hlt, rI, eI, dI]) ?_
  (conv=>whnf)<;>repeat' first|(refine cond_t ?_;conv=>whnf)|(refine cond_f ?_;conv=>whnf)
  refine op_idx_sl (k := i) rfl rfl rfl (by rw [fill_len hi]; exact hlt) ?_
  (conv=>whnf)<;>repeat' first|(refine cond_t ?_;conv=>whnf)|(refine cond_f ?_;conv=>whnf)
  refine op_store_arr1 rfl rfl rfl (by rw [fill_len hi]; simpa using hlt) (by decide) ?_
  (conv=>whnf)<;>repeat' first|(refine cond_t ?_;conv=>whnf)|(refine cond_f ?_;conv=>whnf)
  refine ⟨i + 1, by omega, by omega, ?_, rfl, rfl⟩
  rw [← up hlt (by omega), ← fill_next hlt (f := rI) (z := [.sc (.int .i64 0)]) (g := fun x => x.set 0 _) rfl]; rfl
 ·have : i = l.length := by
               have : ¬ i < l.length := by simpa using h
               omega
  subst this
  refine ⟨?_, rfl⟩
  simp [fill_all, List.take_of_length_le]
theorem toStringS_ok (b : Bool) (l : List Str) (hl : l.length ≤ 1048576) : CallV Try.prog 126 [.one (.ro b 1 (l.map rS))] (.v (.one (.own 1 (l.map rS)))) := by
 refine callX_of hmix Try.func126 ok126 ?_
 (conv=>whnf)<;>repeat' first|(refine cond_t ?_;conv=>whnf)|(refine cond_f ?_;conv=>whnf)
 have hl' : (l.map rS).length ≤ 1048576 := by rw [List.length_map]; exact hl
 refine op_mk rfl rfl rfl rfl (Nat.le_refl _) (by omega) (by omega) ?_
 (conv=>whnf)<;>repeat' first|(refine cond_t ?_;conv=>whnf)|(refine cond_f ?_;conv=>whnf)
 refine loop_at (fun i : Nat => [(0, .v (.one (.ro b 1 (l.map rS)))), (3, .v (.one (.own 1 (fillTo rS [.sc (.str [])] l i)))), (4, .v (.one (dI i)))]) (fun _ => []) (fun _ => 0)
  (fun i => i ≤ l.length) (fun i => l.length - i) 0 (by omega) (by rw [fill_zero, ← List.length_map (f := rS)]; simp [dI]) rfl rfl fun i hi => ?_
 (conv=>whnf)<;>repeat' first|(refine cond_t ?_;conv=>whnf)|(refine cond_f ?_;conv=>whnf)
 refine CondP.mk (fun h => ?_) (fun h => ?_) <;> (conv=>whnf)<;>repeat' first|(refine cond_t ?_;conv=>whnf)|(refine cond_f ?_;conv=>whnf)
 ·have hlt : i < l.length := by simpa using h
  refine op_idx_ro (k := i) rfl rfl (by simpa using hlt) ?_
  (conv=>whnf)<;>repeat' first|(refine cond_t ?_;conv=>whnf)|(refine cond_f ?_;conv=>whnf)
  refine op_load_rp rfl (r := .one (.sc (.str l[i]))) (by simp [loadRp, hlt, rS, eS]) ?_
  (conv=>whnf)<;>repeat' first|(refine cond_t ?_;conv=>whnf)|(refine cond_f ?_;conv=>whnf)
  refine op_idx_sl (k := i) rfl rfl rfl (by rw [fill_len hi]; exact hlt) ?_
  (conv=>whnf)<;>repeat' first|(refine cond_t ?_;conv=>whnf)|(refine cond_f ?_;conv=>whnf)
  refine op_store_arr1 rfl rfl rfl (by rw [fill_len hi]; simpa using hlt) (by decide) ?_
  (conv=>whnf)<;>repeat' first|(refine cond_t ?_;conv=>whnf)|(refine cond_f ?_;conv=>whnf)
  refine ⟨i + 1, by omega, by omega, ?_, rfl, rfl⟩
  rw [← up hlt (by omega), ← fill_next hlt (f := rS) (z := [.sc (.str [])]) (g := fun x => x.set 0 _) rfl]; rfl
 ·have : i = l.length := by
               have : ¬ i < l.length := by simpa using h
               omega
  subst this
  refine ⟨?_, rfl⟩
  simp [fill_all, List.take_of_length_le]
theorem toArea_ok (a : Area) : CallV Try.prog 51 [.agg (aA a)] (.v (.agg (aA a))) := by
 refine callX_of hmix Try.func51 ok51 ?_
 (conv=>whnf)<;>repeat' first|(refine cond_t ?_;conv=>whnf)|(refine cond_f ?_;conv=>whnf)
 exact ⟨rfl, rfl⟩
theorem toSlot_ok (a : Slot) : CallV Try.prog 182 [.agg (aL a)] (.v (.agg (aL a))) := by
 refine callX_of hmix Try.func182 ok182 ?_
 (conv=>whnf)<;>repeat' first|(refine cond_t ?_;conv=>whnf)|(refine cond_f ?_;conv=>whnf)
 exact ⟨rfl, rfl⟩
theorem toAreaS_ok (b : Bool) (l : List Area) (hl : l.length ≤ 1048576) : CallV Try.prog 165 [.one (.ro b 4 (l.map rA))] (.v (.one (.own 4 (l.map rA)))) := by
 refine callX_of hmix Try.func165 ok165 ?_
 (conv=>whnf)<;>repeat' first|(refine cond_t ?_;conv=>whnf)|(refine cond_f ?_;conv=>whnf)
 have hl' : (l.map rA).length ≤ 1048576 := by rw [List.length_map]; exact hl
 refine op_mk rfl rfl rfl rfl (Nat.le_refl _) (by omega) (by omega) ?_
 (conv=>whnf)<;>repeat' first|(refine cond_t ?_;conv=>whnf)|(refine cond_f ?_;conv=>whnf)
 refine loop_at (fun i : Nat => [(0, .v (.one (.ro b 4 (l.map rA)))), (3, .v (.one (.own 4 (fillTo rA [.sc (.int .i64 0), .sc (.int .i64 0), .sc (.bool false), .sc (.bool false)] l i)))), (4, .v (.one (dI i)))]) (fun _ => []) (fun _ => 0)
  (fun i => i ≤ l.length) (fun i => l.length - i) 0 (by omega) (by rw [fill_zero, ← List.length_map (f := rA)]; simp [dI]) rfl rfl fun i hi => ?_
 (conv=>whnf)<;>repeat' first|(refine cond_t ?_;conv=>whnf)|(refine cond_f ?_;conv=>whnf)
 refine CondP.mk (fun h => ?_) (fun h => ?_) <;> (conv=>whnf)<;>repeat' first|(refine cond_t ?_;conv=>whnf)|(refine cond_f ?_;conv=>whnf)
 ·have hlt : i < l.length := by simpa using h
  refine op_idx_ro (k := i) rfl rfl (by simpa using hlt) ?_
  (conv=>whnf)<;>repeat' first|(refine cond_t ?_;conv=>whnf)|(refine cond_f ?_;conv=>whnf)
  refine op_load_rp rfl (ldA hlt) ?_
  (conv=>whnf)<;>repeat' first|(refine cond_t ?_;conv=>whnf)|(refine cond_f ?_;conv=>whnf)
  refine op_callV [.pass] rfl rfl rfl (toArea_ok l[i]) rfl ?_
  (conv=>whnf)<;>repeat' first|(refine cond_t ?_;conv=>whnf)|(refine cond_f ?_;conv=>whnf)
  refine op_idx_sl (k := i) rfl rfl rfl (by rw [fill_len hi]; exact hlt) ?_
  (conv=>whnf)<;>repeat' first|(refine cond_t ?_;conv=>whnf)|(refine cond_f ?_;conv=>whnf)
  refine op_store_arr (row' := rA l[i]) rfl rfl rfl (by rw [fill_len hi, Nat.zero_add]; exact hlt) (fill_row (f := rA) (z := [.sc (.int .i64 0), .sc (.int .i64 0), .sc (.bool false), .sc (.bool false)]) (n := 4) rfl (fun _ => rfl) _) (scRow_A _) rfl rfl rfl ?_
  (conv=>whnf)<;>repeat' first|(refine cond_t ?_;conv=>whnf)|(refine cond_f ?_;conv=>whnf)
  refine ⟨i + 1, by omega, by omega, ?_, rfl, rfl⟩
  rw [← up hlt (by omega), ← fill_next2 hlt (f := rA) (z := [.sc (.int .i64 0), .sc (.int .i64 0), .sc (.bool false), .sc (.bool false)])]; rfl
 ·have : i = l.length := by
               have : ¬ i < l.length := by simpa using h
               omega
  subst this
  refine ⟨?_, rfl⟩
  simp [fill_all, List.take_of_length_le]
theorem toSlotS_ok (b : Bool) (l : List Slot) (hl : l.length ≤ 1048576) : CallV Try.prog 166 [.one (.ro b 4 (l.map rL))] (.v (.one (.own 4 (l.map rL)))) := by
 refine callX_of hmix Try.func166 ok166 ?_
 (conv=>whnf)<;>repeat' first|(refine cond_t ?_;conv=>whnf)|(refine cond_f ?_;conv=>whnf)
 have hl' : (l.map rL).length ≤ 1048576 := by rw [List.length_map]; exact hl
 refine op_mk rfl rfl rfl rfl (Nat.le_refl _) (by omega) (by omega) ?_
 (conv=>whnf)<;>repeat' first|(refine cond_t ?_;conv=>whnf)|(refine cond_f ?_;conv=>whnf)
 refine loop_at (fun i : Nat => [(0, .v (.one (.ro b 4 (l.map rL)))), (3, .v (.one (.own 4 (fillTo rL [.sc (.int .i64 0), .sc (.int .i64 0), .sc (.bool false), .sc (.bool false)] l i)))), (4, .v (.one (dI i)))]) (fun _ => []) (fun _ => 0)
  (fun i => i ≤ l.length) (fun i => l.length - i) 0 (by omega) (by rw [fill_zero, ← List.length_map (f := rL)]; simp [dI]) rfl rfl fun i hi => ?_
 (conv=>whnf)<;>repeat' first|(refine cond_t ?_;conv=>whnf)|(refine cond_f ?_;conv=>whnf)
 refine CondP.mk (fun h => ?_) (fun h => ?_) <;> (conv=>whnf)<;>repeat' first|(refine cond_t ?_;conv=>whnf)|(refine cond_f ?_;conv=>whnf)
 ·have hlt : i < l.length := by simpa using h
  refine op_idx_ro (k := i) rfl rfl (by simpa using hlt) ?_
  (conv=>whnf)<;>repeat' first|(refine cond_t ?_;conv=>whnf)|(refine cond_f ?_;conv=>whnf)
  refine op_load_rp rfl (ldL hlt) ?_
  (conv=>whnf)<;>repeat' first|(refine cond_t ?_;conv=>whnf)|(refine cond_f ?_;conv=>whnf)
  refine op_callV [.pass] rfl rfl rfl (toSlot_ok l[i]) rfl ?_
  (conv=>whnf)<;>repeat' first|(refine cond_t ?_;conv=>whnf)|(refine cond_f ?_;conv=>whnf)
  refine op_idx_sl (k := i) rfl rfl rfl (by rw [fill_len hi]; exact hlt) ?_
  (conv=>whnf)<;>repeat' first|(refine cond_t ?_;conv=>whnf)|(refine cond_f ?_;conv=>whnf)
  refine op_store_arr (row' := rL l[i]) rfl rfl rfl (by rw [fill_len hi, Nat.zero_add]; exact hlt) (fill_row (f := rL) (z := [.sc (.int .i64 0), .sc (.int .i64 0), .sc (.bool false), .sc (.bool false)]) (n := 4) rfl (fun _ => rfl) _) (scRow_L _) rfl rfl rfl ?_
  (conv=>whnf)<;>repeat' first|(refine cond_t ?_;conv=>whnf)|(refine cond_f ?_;conv=>whnf)
  refine ⟨i + 1, by omega, by omega, ?_, rfl, rfl⟩
  rw [← up hlt (by omega), ← fill_next2 hlt (f := rL) (z := [.sc (.int .i64 0), .sc (.int .i64 0), .sc (.bool false), .sc (.bool false)])]; rfl
 ·have : i = l.length := by
               have : ¬ i < l.length := by simpa using h
               omega
  subst this
  refine ⟨?_, rfl⟩
  simp [fill_all, List.take_of_length_le]
end Go.Qm
namespace Go.Qm
open Go.Cq Go.Cq.D Go.RowKit Go.Proofs
set_option maxRecDepth 10000
theorem toPages_ok (b1 b2 : Bool) (p : Pages) (h1 : p.tx.length ≤ 1048576) (h2 : p.rf.length ≤ 1048576) : CallV Try.prog 61 [.agg [.ro b1 1 (p.tx.map rS), .ro b2 1 (p.rf.map rI)]] (.v (.agg [.own 1 (p.tx.map rS), .own 1 (p.rf.map rI)])) := by
 refine callX_of hmix Try.func61 ok61 ?_
 (conv=>whnf)<;>repeat' first|(refine cond_t ?_;conv=>whnf)|(refine cond_f ?_;conv=>whnf)
 refine op_callV [.pass] rfl rfl rfl (toStringS_ok _ p.tx h1) rfl ?_
 (conv=>whnf)<;>repeat' first|(refine cond_t ?_;conv=>whnf)|(refine cond_f ?_;conv=>whnf)
 refine op_callV [.pass] rfl rfl rfl (toIntS_ok _ p.rf h2) rfl ?_
 (conv=>whnf)<;>repeat' first|(refine cond_t ?_;conv=>whnf)|(refine cond_f ?_;conv=>whnf)
 refine ⟨?_, rfl⟩
 simp
def oP (s : Space) : DV := .agg [dB s.lv, .own 4 (s.ar.map rA), .own 4 (s.sl.map rL)]
theorem toSpace_ok (b : Bool) (s : Space) (h1 : s.ar.length ≤ 1048576) (h2 : s.sl.length ≤ 1048576) : CallV Try.prog 128 [.agg (aP b s)] (.v (oP s)) := by
 refine callX_of hmix Try.func128 ok128 ?_
 (conv=>whnf)<;>repeat' first|(refine cond_t ?_;conv=>whnf)|(refine cond_f ?_;conv=>whnf)
 refine op_callV [.pass] rfl rfl rfl (toAreaS_ok _ s.ar h1) rfl ?_
 (conv=>whnf)<;>repeat' first|(refine cond_t ?_;conv=>whnf)|(refine cond_f ?_;conv=>whnf)
 refine op_callV [.pass] rfl rfl rfl (toSlotS_ok _ s.sl h2) rfl ?_
 (conv=>whnf)<;>repeat' first|(refine cond_t ?_;conv=>whnf)|(refine cond_f ?_;conv=>whnf)
 refine ⟨?_, rfl⟩
 simp [oP, dB]
theorem modify3 {x y z : PV} {es : List (List PV)} {i : Nat} (h : ∀ row, es[i]? = some row → row.length = 3) : ((es.modify i (·.set 0 x)).modify i (·.set 2 z)).modify i (·.set 1 y) = es.set i [x, y, z] := by
 refine List.ext_getElem? fun j => ?_
 simp only [List.getElem?_modify, List.getElem?_set]
 by_cases e : i = j
 ·subst e
  cases hr : es[i]? with
  | none => simp [List.getElem?_eq_none_iff.1 hr]
  | some row =>
   have := h row hr
   obtain ⟨hi, -⟩ := List.getElem?_eq_some_iff.1 hr
   match row, this with
   | [_, _, _], _ => simp [hi]
 ·simp [e]
theorem toSpaceS_ok (b : Bool) (l : List Space) (hl : l.length ≤ 1048576) (hs : spFits 1048576 l) : CallV Try.prog 62 [.one (.ro b 3 (l.map rP))] (.v (.one (.own 3 (l.map rP)))) := by
 refine callX_of hmix Try.func62 ok62 ?_
 (conv=>whnf)<;>repeat' first|(refine cond_t ?_;conv=>whnf)|(refine cond_f ?_;conv=>whnf)
 have hl' : (l.map rP).length ≤ 1048576 := by rw [List.length_map]; exact hl
 refine op_mk rfl rfl rfl rfl (Nat.le_refl _) (by omega) (by omega) ?_
 (conv=>whnf)<;>repeat' first|(refine cond_t ?_;conv=>whnf)|(refine cond_f ?_;conv=>whnf)
 refine loop_at (fun i : Nat => [(0, .v (.one (.ro b 3 (l.map rP)))), (3, .v (.one (.own 3 (fillTo rP [.sc (.bool false), .sl 4 [], .sl 4 []] l i)))), (4, .v (.one (dI i)))]) (fun _ => []) (fun _ => 0)
  (fun i => i ≤ l.length) (fun i => l.length - i) 0 (by omega) (by rw [fill_zero, ← List.length_map (f := rP)]; simp [dI]) rfl rfl fun i hi => ?_
 (conv=>whnf)<;>repeat' first|(refine cond_t ?_;conv=>whnf)|(refine cond_f ?_;conv=>whnf)
 refine CondP.mk (fun h => ?_) (fun h => ?_) <;> (conv=>whnf)<;>repeat' first|(refine cond_t ?_;conv=>whnf)|(refine cond_f ?_;conv=>whnf)
 ·have hlt : i < l.length := by simpa using h
  refine op_idx_ro (k := i) rfl rfl (by simpa using hlt) ?_
  (conv=>whnf)<;>repeat' first|(refine cond_t ?_;conv=>whnf)|(refine cond_f ?_;conv=>whnf)
  refine op_load_rp rfl (ldP hlt) ?_
  (conv=>whnf)<;>repeat' first|(refine cond_t ?_;conv=>whnf)|(refine cond_f ?_;conv=>whnf)
  refine op_callV [.pass] rfl rfl rfl (toSpace_ok b l[i] (hs _ (List.getElem_mem hlt)).1 (hs _ (List.getElem_mem hlt)).2) rfl ?_
  (conv=>whnf)<;>repeat' first|(refine cond_t ?_;conv=>whnf)|(refine cond_f ?_;conv=>whnf)
  refine op_idx_sl (k := i) rfl rfl rfl (by rw [fill_len hi]; exact hlt) ?_
  (conv=>whnf)<;>repeat' first|(refine cond_t ?_;conv=>whnf)|(refine cond_f ?_;conv=>whnf)
  have hfl : i < (fillTo rP [.sc (.bool false), .sl 4 [], .sl 4 []] l i).length := by rw [fill_len hi]; exact hlt
  refine op_store_any rfl rfl rfl rfl rfl (by simp [wrN, wr1, DV.cells, hfl, dB]; rfl) ?_
  (conv=>whnf)<;>repeat' first|(refine cond_t ?_;conv=>whnf)|(refine cond_f ?_;conv=>whnf)
  have h0 := fill_get (f := rP) (z := [.sc (.bool false), .sl 4 [], .sl 4 []]) hlt
  refine op_close (i := i) (k := 2) (g' := 2) (lo := 0) (len := l[i].sl.length) (ov2 := [(i, 1, .sl 1 0 l[i].ar.length)]) rfl (cell_ov (mod_get h0) (by simp) (by simp only [ovGet, if_true]; rfl)) rfl rfl rfl (by simp only [ovErase, if_true]; rfl) ?_
  (conv=>whnf)<;>repeat' first|(refine cond_t ?_;conv=>whnf)|(refine cond_f ?_;conv=>whnf)
  refine op_close (i := i) (k := 1) (g' := 1) (lo := 0) (len := l[i].ar.length) (ov2 := []) rfl (cell_ov (mod_get (mod_get h0)) (by simp) (by simp only [ovGet, if_true]; rfl)) rfl rfl rfl (by simp only [ovErase, if_true]; rfl) ?_
  (conv=>whnf)<;>repeat' first|(refine cond_t ?_;conv=>whnf)|(refine cond_f ?_;conv=>whnf)
  refine ⟨i + 1, by omega, by omega, ?_, rfl, rfl⟩
  rw [← up hlt (by omega), ← fill_next2 hlt (f := rP) (z := [.sc (.bool false), .sl 4 [], .sl 4 []])]
  simp only [take_map_len, List.drop_zero, Nat.zero_add, rP, ← modify3 (fill_row (f := rP) (z := [.sc (.bool false), .sl 4 [], .sl 4 []]) (n := 3) rfl (fun _ => rfl) i)]
  rfl
 ·have : i = l.length := by
               have : ¬ i < l.length := by simpa using h
               omega
  subst this
  refine ⟨?_, rfl⟩
  simp [fill_all, List.take_of_length_le]
def oM (m : Mem) : DV := .agg [.own 1 (m.ram.tx.map rS), .own 1 (m.ram.rf.map rI), .own 1 (m.swp.tx.map rS), .own 1 (m.swp.rf.map rI), .own 3 (m.sp.map rP), dI m.hd]
theorem toMem_ok (b1 b2 b3 b4 b5 : Bool) (m : Mem) (h : m.fits 1048576) : CallV Try.prog 24 [aM b1 b2 b3 b4 b5 m] (.v (oM m)) := by
 refine callX_of hmix Try.func24 ok24 ?_
 (conv=>whnf)<;>repeat' first|(refine cond_t ?_;conv=>whnf)|(refine cond_f ?_;conv=>whnf)
 refine op_callV [.pass] rfl rfl rfl (toPages_ok _ _ m.ram h.rt h.rr) rfl ?_
 (conv=>whnf)<;>repeat' first|(refine cond_t ?_;conv=>whnf)|(refine cond_f ?_;conv=>whnf)
 refine op_callV [.pass] rfl rfl rfl (toPages_ok _ _ m.swp h.st h.sr) rfl ?_
 (conv=>whnf)<;>repeat' first|(refine cond_t ?_;conv=>whnf)|(refine cond_f ?_;conv=>whnf)
 refine op_callV [.pass] rfl rfl rfl (toSpaceS_ok _ m.sp h.sp h.ss) rfl ?_
 (conv=>whnf)<;>repeat' first|(refine cond_t ?_;conv=>whnf)|(refine cond_f ?_;conv=>whnf)
 refine ⟨?_, rfl⟩
 simp [oM, dI]
end Go.Qm
namespace Go.Qm
open Go.Cq Go.Cq.D Go.RowKit Go.Proofs
set_option maxRecDepth 10000
def digit (k : Int) : UInt8 := u8Of (IntKind.wrap .i64 (48 + k.tmod 10))
def mkGo : Nat → Int → Str → Str
 | 0, _, out => out
 | n + 1, k, out => if 0 < k then mkGo n (k.tdiv 10) (digit k :: out) else out
def mkText (k : Int) : Str := if k ≤ 0 then [109, 48] else 109 :: mkGo k.toNat k []
theorem mkGo_more {n : Nat} : ∀ {m : Nat} {k : Int} {out : Str}, k.toNat ≤ n → n ≤ m → mkGo m k out = mkGo n k out := by
 induction n with
 | zero =>
  intro m k out h1 h2
  cases m with
  | zero => rfl
  | succ m => simp only [mkGo]; rw [if_neg (by omega)]
 | succ n ih =>
  intro m k out h1 h2
  cases m with
  | zero => omega
  | succ m =>
   simp only [mkGo]
   split
   ·rename_i h
    have : k.tdiv 10 < k := by rw [Int.tdiv_eq_ediv_of_nonneg (by omega)]; omega
    exact ih (by omega) (by omega)
   ·rfl
theorem quo10 {k : Int} (h1 : 0 < k) (h2 : k ≤ 9223372036854775807) : IntKind.wrap .i64 (k.tdiv 10) = k.tdiv 10 := by
 have := Int.tdiv_eq_ediv_of_nonneg (a := k) (b := 10) (by omega)
 exact wrap64 (by omega) (by omega)
theorem markText_ok (k : Int) (hk : k ≤ 4611686018427387904) : CallV Try.prog 169 [.one (dI k)] (.v (.one (.sc (.str (mkText k))))) := by
 refine callX_of hmix Try.func169 ok169 ?_
 (conv=>whnf)<;>repeat' first|(refine cond_t ?_;conv=>whnf)|(refine cond_f ?_;conv=>whnf)
 refine CondP.mk (fun h => ?_) (fun h => ?_) <;> (conv=>whnf)<;>repeat' first|(refine cond_t ?_;conv=>whnf)|(refine cond_f ?_;conv=>whnf)
 ·refine ⟨?_, rfl⟩
  rw [mkText, if_pos (by simpa using h)]
 ·have hk0 : 0 < k := by simpa using h
  refine loop_at (fun p : Int × Str => [(0, .v (.one (dI p.1))), (3, .v (.one (.sc (.str p.2))))]) (fun _ => []) (fun _ => 0)
   (fun p => 0 ≤ p.1 ∧ p.1 ≤ k ∧ mkText k = 109 :: mkGo p.1.toNat p.1 p.2 ∧ p.2.length + p.1.toNat ≤ k.toNat) (fun p => p.1.toNat) (k, []) ⟨by omega, Int.le_refl _, by rw [mkText, if_neg (by omega)], by simp⟩ rfl rfl rfl fun p hi => ?_
  obtain ⟨i, x⟩ := p
  obtain ⟨hi1, hi2, hi3, hi4⟩ := hi
  simp only at hi1 hi2 hi3 hi4
  (conv=>whnf)<;>repeat' first|(refine cond_t ?_;conv=>whnf)|(refine cond_f ?_;conv=>whnf)
  refine CondP.mk (fun h => ?_) (fun h => ?_) <;> (conv=>whnf)<;>repeat' first|(refine cond_t ?_;conv=>whnf)|(refine cond_f ?_;conv=>whnf)
  ·have hi : 0 < i := by simpa using h
   have hd := Int.tdiv_eq_ediv_of_nonneg (a := i) (b := 10) (by omega)
   refine op_fl rfl ?_
   (conv=>whnf)<;>repeat' first|(refine cond_t ?_;conv=>whnf)|(refine cond_f ?_;conv=>whnf)
   refine op_lit rfl rfl rfl ?_
   (conv=>whnf)<;>repeat' first|(refine cond_t ?_;conv=>whnf)|(refine cond_f ?_;conv=>whnf)
   refine op_bs_sl (bs := [digit i]) rfl rfl (by simp only [List.map_cons, List.map_nil, digit, encB_u8Of]; rfl) ?_
   (conv=>whnf)<;>repeat' first|(refine cond_t ?_;conv=>whnf)|(refine cond_f ?_;conv=>whnf)
   refine op_cat (l := [digit i]) (m := x) rfl rfl (by simp only [List.length_cons, List.length_nil]; omega) ?_
   (conv=>whnf)<;>repeat' first|(refine cond_t ?_;conv=>whnf)|(refine cond_f ?_;conv=>whnf)
   refine op_fl rfl ?_
   (conv=>whnf)<;>repeat' first|(refine cond_t ?_;conv=>whnf)|(refine cond_f ?_;conv=>whnf)
   refine ⟨(i.tdiv 10, digit i :: x), by simp only; omega, ⟨by simp only; omega, by simp only; omega, ?_, ?_⟩, ?_, rfl, rfl⟩
   ·rw [hi3]
    congr 1
    obtain ⟨n, hn⟩ : ∃ n, i.toNat = n + 1 := ⟨i.toNat - 1, by omega⟩
    rw [hn, mkGo, if_pos hi]
    exact mkGo_more (Nat.le_refl _) (by omega)
   ·simp only [List.length_cons]; omega
   ·have : IntKind.wrap .i64 (i.tdiv 10) = i.tdiv 10 := quo10 hi (by omega)
    simp [dI, this]
  ·refine op_cat (l := [109]) (m := x) rfl rfl (by simp only [List.length_cons, List.length_nil]; omega) ?_
   (conv=>whnf)<;>repeat' first|(refine cond_t ?_;conv=>whnf)|(refine cond_f ?_;conv=>whnf)
   refine ⟨?_, rfl⟩
   have : i = 0 := by
             have : ¬ 0 < i := by simpa using h
             omega
   subst this
   rw [hi3]; rfl
def goesOn {α : Type} (f : Int → α → Option Int) : Int → List α → Option Int
 | k, [] => some k
 | k, a :: l => match f k a with
  | some k' => goesOn f k' l
  | none => none
def orM (o : Option Int) : Int := o.getD (-1)
def hStr (k : Int) (s : Str) : Option Int := if s = mkText k then some (k + 1) else none
def hInt (k : Int) (n : Int) : Option Int := if n = k then some (k + 1) else none
def m3 (k : Int) : Bool := decide (k % 3 = 0)
def hArea (k : Int) (a : Area) : Option Int := if a.fr = k ∧ a.mn = k + 1 ∧ a.wr = m3 (k + 2) ∧ a.sh = m3 (k + 3) then some (k + 4) else none
def hSlot (k : Int) (a : Slot) : Option Int := if a.kd = k ∧ a.pl = k + 1 ∧ a.ow = m3 (k + 2) ∧ a.us = m3 (k + 3) then some (k + 4) else none
def hSpace (k : Int) (s : Space) : Option Int := if s.lv = m3 k then (goesOn hArea (k + 1) s.ar).bind fun k => goesOn hSlot k s.sl else none
def hPages (k : Int) (p : Pages) : Option Int := (goesOn hStr k p.tx).bind fun k => goesOn hInt k p.rf
def hMem (k : Int) (m : Mem) : Option Int := (hPages k m.ram).bind fun k => (hPages k m.swp).bind fun k => goesOn hSpace k m.sp
theorem goesOn_step {α : Type} {f : Int → α → Option Int} {k : Int} {l : List α} {i : Nat} (h : i < l.length) : goesOn f k (l.drop i) = match f k l[i] with
  | some k' => goesOn f k' (l.drop (i + 1))
  | none => none := by
 rw [List.drop_eq_getElem_cons h, goesOn]
theorem tmod3 {k : Int} (h : 0 ≤ k) : (k.tmod 3 = 0) = (k % 3 = 0) := by rw [Int.tmod_eq_emod_of_nonneg h]
theorem upk {k : Int} {i : Nat} (h : k + i ≤ 4611686018427387904) (h0 : 0 ≤ k) : IntKind.wrap .i64 (k + i + 1) = k + ((i + 1 : Nat) : Int) := by
 rw [wrap64 (by omega) (by omega)]; omega
theorem heldStringS_ok (b : Bool) (l : List Str) (k : Int) (hl : l.length ≤ 1048576) (h0 : 0 ≤ k) (hk : k ≤ 1073741824) : CallV Try.prog 138 [.one (.ro b 1 (l.map rS)), .one (dI k)] (.v (.one (dI (orM (goesOn hStr k l))))) := by
 refine callX_of hmix Try.func138 ok138 ?_
 (conv=>whnf)<;>repeat' first|(refine cond_t ?_;conv=>whnf)|(refine cond_f ?_;conv=>whnf)
 refine loop_at (fun i : Nat => [(0, .v (.one (.ro b 1 (l.map rS)))), (1, .v (.one (dI (k + i)))), (5, .v (.one (dI i)))]) (fun _ => []) (fun _ => 0)
  (fun i => i ≤ l.length ∧ goesOn hStr k l = goesOn hStr (k + i) (l.drop i)) (fun i => l.length - i) 0 ⟨by omega, by simp⟩ (by simp [dI]) rfl rfl fun i hi => ?_
 obtain ⟨hi1, hi2⟩ := hi
 (conv=>whnf)<;>repeat' first|(refine cond_t ?_;conv=>whnf)|(refine cond_f ?_;conv=>whnf)
 refine CondP.mk (fun h => ?_) (fun h => ?_) <;> (conv=>whnf)<;>repeat' first|(refine cond_t ?_;conv=>whnf)|(refine cond_f ?_;conv=>whnf)
 ·have hlt : i < l.length := by simpa using h
  refine op_idx_ro (k := i) rfl rfl (by simpa using hlt) ?_
  (conv=>whnf)<;>repeat' first|(refine cond_t ?_;conv=>whnf)|(refine cond_f ?_;conv=>whnf)
  refine op_load_rp rfl (r := .one (.sc (.str l[i]))) (by simp [loadRp, rS, hlt, eS]) ?_
  (conv=>whnf)<;>repeat' first|(refine cond_t ?_;conv=>whnf)|(refine cond_f ?_;conv=>whnf)
  refine op_callV [.pass] rfl rfl rfl (markText_ok (k + i) (by omega)) rfl ?_
  (conv=>whnf)<;>repeat' first|(refine cond_t ?_;conv=>whnf)|(refine cond_f ?_;conv=>whnf)
  refine CondP.mk (fun h1 => ?_) (fun h1 => ?_) <;> (conv=>whnf)<;>repeat' first|(refine cond_t ?_;conv=>whnf)|(refine cond_f ?_;conv=>whnf)
  ·have h1 : ¬ l[i] = mkText (k + i) := by simpa using h1
   refine ⟨?_, rfl⟩
   rw [hi2, goesOn_step hlt, hStr, if_neg h1]; rfl
  ·have h1 : l[i] = mkText (k + i) := by simpa using h1
   refine ⟨i + 1, by omega, ⟨by omega, ?_⟩, ?_, rfl, rfl⟩
   ·rw [hi2, goesOn_step hlt, hStr, if_pos h1]
    show goesOn hStr (k + i + 1) _ = _
    rw [show k + (i : Int) + 1 = k + ((i + 1 : Nat) : Int) by omega]
   ·rw [up hlt (by omega), upk (i := i) (by omega) h0]; rfl
 ·have : i = l.length := by
               have : ¬ i < l.length := by simpa using h
               omega
  subst this
  refine ⟨?_, rfl⟩
  rw [hi2, List.drop_length]; rfl
theorem heldIntS_ok (b : Bool) (l : List Int) (k : Int) (hl : l.length ≤ 1048576) (h0 : 0 ≤ k) (hk : k ≤ 1073741824) : CallV Try.prog 139 [.one (.ro b 1 (l.map rI)), .one (dI k)] (.v (.one (dI (orM (goesOn hInt k l))))) := by
 refine callX_of hmix Try.func139 ok139 ?_
 (conv=>whnf)<;>repeat' first|(refine cond_t ?_;conv=>whnf)|(refine cond_f ?_;conv=>whnf)
 refine loop_at (fun i : Nat => [(0, .v (.one (.ro b 1 (l.map rI)))), (1, .v (.one (dI (k + i)))), (5, .v (.one (dI i)))]) (fun _ => []) (fun _ => 0)
  (fun i => i ≤ l.length ∧ goesOn hInt k l = goesOn hInt (k + i) (l.drop i)) (fun i => l.length - i) 0 ⟨by omega, by simp⟩ (by simp [dI]) rfl rfl fun i hi => ?_
 obtain ⟨hi1, hi2⟩ := hi
 (conv=>whnf)<;>repeat' first|(refine cond_t ?_;conv=>whnf)|(refine cond_f ?_;conv=>whnf)
 refine CondP.mk (fun h => ?_) (fun h => ?_) <;> (conv=>whnf)<;>repeat' first|(refine cond_t ?_;conv=>whnf)|(refine cond_f ?_;conv=>whnf)
 ·have hlt : i < l.length := by simpa using h
  refine op_idx_ro (k := i) rfl rfl (by simpa using hlt) ?_
  (conv=>whnf)<;>repeat' first|(refine cond_t ?_;conv=>whnf)|(refine cond_f ?_;conv=>whnf)
  refine op_load_rp rfl (r := .one (dI l[i])) (by simp [loadRp, rI, hlt, eI, dI]) ?_
  (conv=>whnf)<;>repeat' first|(refine cond_t ?_;conv=>whnf)|(refine cond_f ?_;conv=>whnf)
  refine CondP.mk (fun h1 => ?_) (fun h1 => ?_) <;> (conv=>whnf)<;>repeat' first|(refine cond_t ?_;conv=>whnf)|(refine cond_f ?_;conv=>whnf)
  ·have h1 : ¬ l[i] = k + i := by simpa using h1
   refine ⟨?_, rfl⟩
   rw [hi2, goesOn_step hlt, hInt, if_neg h1]; rfl
  ·have h1 : l[i] = k + i := by simpa using h1
   refine ⟨i + 1, by omega, ⟨by omega, ?_⟩, ?_, rfl, rfl⟩
   ·rw [hi2, goesOn_step hlt, hInt, if_pos h1]
    show goesOn hInt (k + i + 1) _ = _
    rw [show k + (i : Int) + 1 = k + ((i + 1 : Nat) : Int) by omega]
   ·rw [up hlt (by omega), upk (i := i) (by omega) h0]; rfl
 ·have : i = l.length := by
               have : ¬ i < l.length := by simpa using h
               omega
  subst this
  refine ⟨?_, rfl⟩
  rw [hi2, List.drop_length]; rfl
theorem w1 {k : Int} (h0 : 0 ≤ k) (h : k ≤ 4611686018427387904) : IntKind.wrap .i64 (k + 1) = k + 1 := wrap64 (by omega) (by omega)
theorem heldAreaS_ok (b : Bool) (l : List Area) (k : Int) (hl : l.length ≤ 1048576) (h0 : 0 ≤ k) (hk : k ≤ 1073741824) : CallV Try.prog 140 [.one (.ro b 4 (l.map rA)), .one (dI k)] (.v (.one (dI (orM (goesOn hArea k l))))) := by
 refine callX_of hmix Try.func140 ok140 ?_
 (conv=>whnf)<;>repeat' first|(refine cond_t ?_;conv=>whnf)|(refine cond_f ?_;conv=>whnf)
 refine loop_at (fun i : Nat => [(0, .v (.one (.ro b 4 (l.map rA)))), (1, .v (.one (dI (k + 4 * i)))), (5, .v (.one (dI i)))]) (fun _ => []) (fun _ => 0)
  (fun i => i ≤ l.length ∧ goesOn hArea k l = goesOn hArea (k + 4 * i) (l.drop i)) (fun i => l.length - i) 0 ⟨by omega, by simp⟩ (by simp [dI]) rfl rfl fun i hi => ?_
 obtain ⟨hi1, hi2⟩ := hi
 (conv=>whnf)<;>repeat' first|(refine cond_t ?_;conv=>whnf)|(refine cond_f ?_;conv=>whnf)
 refine CondP.mk (fun h => ?_) (fun h => ?_) <;> (conv=>whnf)<;>repeat' first|(refine cond_t ?_;conv=>whnf)|(refine cond_f ?_;conv=>whnf)
 ·have hlt : i < l.length := by simpa using h
  generalize hq : k + 4 * (i : Int) = q at hi2 ⊢
  have no : ¬ (l[i].fr = q ∧ l[i].mn = q + 1 ∧ l[i].wr = m3 (q + 2) ∧ l[i].sh = m3 (q + 3)) → DT.v (.one (.sc (.int .i64 (-1)))) = .v (.one (dI (orM (goesOn hArea k l)))) ∧ ([] : DH) = [] := fun e => ⟨by rw [hi2, goesOn_step hlt, hArea, if_neg e]; rfl, rfl⟩
  refine op_idx_ro (k := i) rfl rfl (by simpa using hlt) ?_
  (conv=>whnf)<;>repeat' first|(refine cond_t ?_;conv=>whnf)|(refine cond_f ?_;conv=>whnf)
  refine op_load_rp rfl (r := .one (dI l[i].fr)) (by simp [loadRp, rA, hlt, eI, dI]) ?_
  (conv=>whnf)<;>repeat' first|(refine cond_t ?_;conv=>whnf)|(refine cond_f ?_;conv=>whnf)
  refine CondP.mk (fun h1 => ?_) (fun h1 => ?_) <;> (conv=>whnf)<;>repeat' first|(refine cond_t ?_;conv=>whnf)|(refine cond_f ?_;conv=>whnf)
  ·have h1 : ¬ l[i].fr = q := by simpa using h1
   exact no fun e => h1 e.1
  have h1 : l[i].fr = q := by simpa using h1
  rw [w1 (k := q) (by omega) (by omega)]
  refine op_idx_ro (k := i) rfl rfl (by simpa using hlt) ?_
  (conv=>whnf)<;>repeat' first|(refine cond_t ?_;conv=>whnf)|(refine cond_f ?_;conv=>whnf)
  refine op_load_rp rfl (r := .one (dI l[i].mn)) (by simp [loadRp, rA, hlt, eI, dI]) ?_
  (conv=>whnf)<;>repeat' first|(refine cond_t ?_;conv=>whnf)|(refine cond_f ?_;conv=>whnf)
  refine CondP.mk (fun h2 => ?_) (fun h2 => ?_) <;> (conv=>whnf)<;>repeat' first|(refine cond_t ?_;conv=>whnf)|(refine cond_f ?_;conv=>whnf)
  ·have h2 : ¬ l[i].mn = q + 1 := by simpa using h2
   exact no fun e => h2 e.2.1
  have h2 : l[i].mn = q + 1 := by simpa using h2
  rw [w1 (k := q + 1) (by omega) (by omega), show q + 1 + 1 = q + 2 by omega]
  refine op_idx_ro (k := i) rfl rfl (by simpa using hlt) ?_
  (conv=>whnf)<;>repeat' first|(refine cond_t ?_;conv=>whnf)|(refine cond_f ?_;conv=>whnf)
  refine op_load_rp rfl (r := .one (dB l[i].wr)) (by simp [loadRp, rA, hlt, eB, dB]) ?_
  (conv=>whnf)<;>repeat' first|(refine cond_t ?_;conv=>whnf)|(refine cond_f ?_;conv=>whnf)
  refine op_fl rfl ?_
  (conv=>whnf)<;>repeat' first|(refine cond_t ?_;conv=>whnf)|(refine cond_f ?_;conv=>whnf)
  have e3 : decide ((q + 2).tmod 3 = 0) = m3 (q + 2) := by rw [m3]; congr 1; exact tmod3 (by omega)
  refine CondP.mk (fun h3 => ?_) (fun h3 => ?_) <;> (conv=>whnf)<;>repeat' first|(refine cond_t ?_;conv=>whnf)|(refine cond_f ?_;conv=>whnf)
  ·have h3 : ¬ l[i].wr = decide ((q + 2).tmod 3 = 0) := by simpa using h3
   exact no fun e => h3 (e.2.2.1.trans e3.symm)
  have h3 : l[i].wr = decide ((q + 2).tmod 3 = 0) := by simpa using h3
  rw [w1 (k := q + 2) (by omega) (by omega), show q + 2 + 1 = q + 3 by omega]
  refine op_idx_ro (k := i) rfl rfl (by simpa using hlt) ?_
  (conv=>whnf)<;>repeat' first|(refine cond_t ?_;conv=>whnf)|(refine cond_f ?_;conv=>whnf)
  refine op_load_rp rfl (r := .one (dB l[i].sh)) (by simp [loadRp, rA, hlt, eB, dB]) ?_
  (conv=>whnf)<;>repeat' first|(refine cond_t ?_;conv=>whnf)|(refine cond_f ?_;conv=>whnf)
  refine op_fl rfl ?_
  (conv=>whnf)<;>repeat' first|(refine cond_t ?_;conv=>whnf)|(refine cond_f ?_;conv=>whnf)
  have e4 : decide ((q + 3).tmod 3 = 0) = m3 (q + 3) := by rw [m3]; congr 1; exact tmod3 (by omega)
  refine CondP.mk (fun h4 => ?_) (fun h4 => ?_) <;> (conv=>whnf)<;>repeat' first|(refine cond_t ?_;conv=>whnf)|(refine cond_f ?_;conv=>whnf)
  ·have h4 : ¬ l[i].sh = decide ((q + 3).tmod 3 = 0) := by simpa using h4
   exact no fun e => h4 (e.2.2.2.trans e4.symm)
  have h4 : l[i].sh = decide ((q + 3).tmod 3 = 0) := by simpa using h4
  refine ⟨i + 1, by omega, ⟨by omega, ?_⟩, ?_, rfl, rfl⟩
  ·rw [hi2, goesOn_step hlt, hArea, if_pos ⟨h1, h2, h3.trans e3, h4.trans e4⟩]
   show goesOn hArea (q + 4) _ = _
   rw [show q + 4 = k + 4 * ((i + 1 : Nat) : Int) by omega]
  ·rw [w1 (k := q + 3) (by omega) (by omega), up hlt (by omega), show q + 3 + 1 = k + 4 * ((i + 1 : Nat) : Int) by omega]; rfl
 ·have : i = l.length := by
               have : ¬ i < l.length := by simpa using h
               omega
  subst this
  refine ⟨?_, rfl⟩
  rw [hi2, List.drop_length]; rfl
theorem heldSlotS_ok (b : Bool) (l : List Slot) (k : Int) (hl : l.length ≤ 1048576) (h0 : 0 ≤ k) (hk : k ≤ 1073741824) : CallV Try.prog 141 [.one (.ro b 4 (l.map rL)), .one (dI k)] (.v (.one (dI (orM (goesOn hSlot k l))))) := by
 refine callX_of hmix Try.func141 ok141 ?_
 (conv=>whnf)<;>repeat' first|(refine cond_t ?_;conv=>whnf)|(refine cond_f ?_;conv=>whnf)
 refine loop_at (fun i : Nat => [(0, .v (.one (.ro b 4 (l.map rL)))), (1, .v (.one (dI (k + 4 * i)))), (5, .v (.one (dI i)))]) (fun _ => []) (fun _ => 0)
  (fun i => i ≤ l.length ∧ goesOn hSlot k l = goesOn hSlot (k + 4 * i) (l.drop i)) (fun i => l.length - i) 0 ⟨by omega, by simp⟩ (by simp [dI]) rfl rfl fun i hi => ?_
 obtain ⟨hi1, hi2⟩ := hi
 (conv=>whnf)<;>repeat' first|(refine cond_t ?_;conv=>whnf)|(refine cond_f ?_;conv=>whnf)
 refine CondP.mk (fun h => ?_) (fun h => ?_) <;> (conv=>whnf)<;>repeat' first|(refine cond_t ?_;conv=>whnf)|(refine cond_f ?_;conv=>whnf)
 ·have hlt : i < l.length := by simpa using h
  generalize hq : k + 4 * (i : Int) = q at hi2 ⊢
  have no : ¬ (l[i].kd = q ∧ l[i].pl = q + 1 ∧ l[i].ow = m3 (q + 2) ∧ l[i].us = m3 (q + 3)) → DT.v (.one (.sc (.int .i64 (-1)))) = .v (.one (dI (orM (goesOn hSlot k l)))) ∧ ([] : DH) = [] := fun e => ⟨by rw [hi2, goesOn_step hlt, hSlot, if_neg e]; rfl, rfl⟩
  refine op_idx_ro (k := i) rfl rfl (by simpa using hlt) ?_
  (conv=>whnf)<;>repeat' first|(refine cond_t ?_;conv=>whnf)|(refine cond_f ?_;conv=>whnf)
  refine op_load_rp rfl (r := .one (dI l[i].kd)) (by simp [loadRp, rL, hlt, eI, dI]) ?_
  (conv=>whnf)<;>repeat' first|(refine cond_t ?_;conv=>whnf)|(refine cond_f ?_;conv=>whnf)
  refine CondP.mk (fun h1 => ?_) (fun h1 => ?_) <;> (conv=>whnf)<;>repeat' first|(refine cond_t ?_;conv=>whnf)|(refine cond_f ?_;conv=>whnf)
  ·have h1 : ¬ l[i].kd = q := by simpa using h1
   exact no fun e => h1 e.1
  have h1 : l[i].kd = q := by simpa using h1
  rw [w1 (k := q) (by omega) (by omega)]
  refine op_idx_ro (k := i) rfl rfl (by simpa using hlt) ?_
  (conv=>whnf)<;>repeat' first|(refine cond_t ?_;conv=>whnf)|(refine cond_f ?_;conv=>whnf)
  refine op_load_rp rfl (r := .one (dI l[i].pl)) (by simp [loadRp, rL, hlt, eI, dI]) ?_
  (conv=>whnf)<;>repeat' first|(refine cond_t ?_;conv=>whnf)|(refine cond_f ?_;conv=>whnf)
  refine CondP.mk (fun h2 => ?_) (fun h2 => ?_) <;> (conv=>whnf)<;>repeat' first|(refine cond_t ?_;conv=>whnf)|(refine cond_f ?_;conv=>whnf)
  ·have h2 : ¬ l[i].pl = q + 1 := by simpa using h2
   exact no fun e => h2 e.2.1
  have h2 : l[i].pl = q + 1 := by simpa using h2
  rw [w1 (k := q + 1) (by omega) (by omega), show q + 1 + 1 = q + 2 by omega]
  refine op_idx_ro (k := i) rfl rfl (by simpa using hlt) ?_
  (conv=>whnf)<;>repeat' first|(refine cond_t ?_;conv=>whnf)|(refine cond_f ?_;conv=>whnf)
  refine op_load_rp rfl (r := .one (dB l[i].ow)) (by simp [loadRp, rL, hlt, eB, dB]) ?_
  (conv=>whnf)<;>repeat' first|(refine cond_t ?_;conv=>whnf)|(refine cond_f ?_;conv=>whnf)
  refine op_fl rfl ?_
  (conv=>whnf)<;>repeat' first|(refine cond_t ?_;conv=>whnf)|(refine cond_f ?_;conv=>whnf)
  have e3 : decide ((q + 2).tmod 3 = 0) = m3 (q + 2) := by rw [m3]; congr 1; exact tmod3 (by omega)
  refine CondP.mk (fun h3 => ?_) (fun h3 => ?_) <;> (conv=>whnf)<;>repeat' first|(refine cond_t ?_;conv=>whnf)|(refine cond_f ?_;conv=>whnf)
  ·have h3 : ¬ l[i].ow = decide ((q + 2).tmod 3 = 0) := by simpa using h3
   exact no fun e => h3 (e.2.2.1.trans e3.symm)
  have h3 : l[i].ow = decide ((q + 2).tmod 3 = 0) := by simpa using h3
  rw [w1 (k := q + 2) (by omega) (by omega), show q + 2 + 1 = q + 3 by omega]
  refine op_idx_ro (k := i) rfl rfl (by simpa using hlt) ?_
  (conv=>whnf)<;>repeat' first|(refine cond_t ?_;conv=>whnf)|(refine cond_f ?_;conv=>whnf)
  refine op_load_rp rfl (r := .one (dB l[i].us)) (by simp [loadRp, rL, hlt, eB, dB]) ?_
  (conv=>whnf)<;>repeat' first|(refine cond_t ?_;conv=>whnf)|(refine cond_f ?_;conv=>whnf)
  refine op_fl rfl ?_
  (conv=>whnf)<;>repeat' first|(refine cond_t ?_;conv=>whnf)|(refine cond_f ?_;conv=>whnf)
  have e4 : decide ((q + 3).tmod 3 = 0) = m3 (q + 3) := by rw [m3]; congr 1; exact tmod3 (by omega)
  refine CondP.mk (fun h4 => ?_) (fun h4 => ?_) <;> (conv=>whnf)<;>repeat' first|(refine cond_t ?_;conv=>whnf)|(refine cond_f ?_;conv=>whnf)
  ·have h4 : ¬ l[i].us = decide ((q + 3).tmod 3 = 0) := by simpa using h4
   exact no fun e => h4 (e.2.2.2.trans e4.symm)
  have h4 : l[i].us = decide ((q + 3).tmod 3 = 0) := by simpa using h4
  refine ⟨i + 1, by omega, ⟨by omega, ?_⟩, ?_, rfl, rfl⟩
  ·rw [hi2, goesOn_step hlt, hSlot, if_pos ⟨h1, h2, h3.trans e3, h4.trans e4⟩]
   show goesOn hSlot (q + 4) _ = _
   rw [show q + 4 = k + 4 * ((i + 1 : Nat) : Int) by omega]
  ·rw [w1 (k := q + 3) (by omega) (by omega), up hlt (by omega), show q + 3 + 1 = k + 4 * ((i + 1 : Nat) : Int) by omega]; rfl
 ·have : i = l.length := by
               have : ¬ i < l.length := by simpa using h
               omega
  subst this
  refine ⟨?_, rfl⟩
  rw [hi2, List.drop_length]; rfl
end Go.Qm
namespace Go.Qm
open Go.Cq Go.Cq.D Go.RowKit Go.Proofs
set_option maxRecDepth 10000
def Space.wt (s : Space) : Nat := 1 + 4 * s.ar.length + 4 * s.sl.length
def wts : List Space → Nat
 | [] => 0
 | s :: l => s.wt + wts l
def Pages.wt (p : Pages) : Nat := p.tx.length + p.rf.length
def Mem.wt (m : Mem) : Nat := m.ram.wt + m.swp.wt + wts m.sp
theorem goesOn_val {α : Type} {f : Int → α → Option Int} {c : Nat} (hf : ∀ k a k', f k a = some k' → k' = k + c) : ∀ {l : List α} {k k' : Int}, goesOn f k l = some k' → k' = k + c * l.length := by
 intro l
 induction l with
 | nil => intro k k' h; simp only [goesOn, Option.some.injEq] at h; simp [h]
 | cons a l ih =>
  intro k k' h
  simp only [goesOn] at h
  split at h
  ·rename_i k1 h1
   have e1 := hf _ _ _ h1
   have e2 := ih h
   rw [e2, e1, List.length_cons, Int.natCast_add, Int.mul_add]
   omega
  ·simp at h
theorem hStr_val {k : Int} {a : Str} {k' : Int} (h : hStr k a = some k') : k' = k + (1 : Nat) := by
 unfold hStr at h; split at h <;> simp at h; omega
theorem hInt_val {k : Int} {a : Int} {k' : Int} (h : hInt k a = some k') : k' = k + (1 : Nat) := by
 unfold hInt at h; split at h <;> simp at h; omega
theorem hArea_val {k : Int} {a : Area} {k' : Int} (h : hArea k a = some k') : k' = k + (4 : Nat) := by
 unfold hArea at h; split at h <;> simp at h; omega
theorem hSlot_val {k : Int} {a : Slot} {k' : Int} (h : hSlot k a = some k') : k' = k + (4 : Nat) := by
 unfold hSlot at h; split at h <;> simp at h; omega
theorem hSpace_val {k : Int} {s : Space} {k' : Int} (h : hSpace k s = some k') : k' = k + s.wt := by
 unfold hSpace at h
 split at h
 ·cases h1 : goesOn hArea (k + 1) s.ar with
  | none => rw [h1] at h; simp at h
  | some k1 =>
   rw [h1] at h
   have e1 := goesOn_val (fun _ _ _ => hArea_val) h1
   have e2 := goesOn_val (fun _ _ _ => hSlot_val) (show goesOn hSlot k1 s.sl = some k' from h)
   unfold Space.wt
   omega
 ·simp at h
theorem heldPages_ok (b1 b2 : Bool) (p : Pages) (k : Int) (h1 : p.tx.length ≤ 1048576) (h2 : p.rf.length ≤ 1048576) (h0 : 0 ≤ k) (hk : k + p.wt ≤ 1073741824) : CallV Try.prog 71 [.agg [.ro b1 1 (p.tx.map rS), .ro b2 1 (p.rf.map rI)], .one (dI k)] (.v (.one (dI (orM (hPages k p))))) := by
 refine callX_of hmix Try.func71 ok71 ?_
 unfold Pages.wt at hk
 (conv=>whnf)<;>repeat' first|(refine cond_t ?_;conv=>whnf)|(refine cond_f ?_;conv=>whnf)
 refine op_callV [.pass, .pass] rfl rfl rfl (heldStringS_ok b1 p.tx k h1 h0 (by omega)) rfl ?_
 (conv=>whnf)<;>repeat' first|(refine cond_t ?_;conv=>whnf)|(refine cond_f ?_;conv=>whnf)
 cases e : goesOn hStr k p.tx with
 | none =>
  (conv=>whnf)<;>repeat' first|(refine cond_t ?_;conv=>whnf)|(refine cond_f ?_;conv=>whnf)
  exact ⟨by rw [hPages, e]; rfl, rfl⟩
 | some k1 =>
  have e1 := goesOn_val (fun _ _ _ => hStr_val) e
  (conv=>whnf)<;>repeat' first|(refine cond_t ?_;conv=>whnf)|(refine cond_f ?_;conv=>whnf)
  refine CondP.mk (fun h' => ?_) (fun h' => ?_) <;> (conv=>whnf)<;>repeat' first|(refine cond_t ?_;conv=>whnf)|(refine cond_f ?_;conv=>whnf)
  ·have h' : k1 < 0 := of_decide_eq_true h'
   omega
  refine op_callV [.pass, .pass] rfl rfl rfl (heldIntS_ok b2 p.rf k1 h2 (by omega) (by omega)) rfl ?_
  (conv=>whnf)<;>repeat' first|(refine cond_t ?_;conv=>whnf)|(refine cond_f ?_;conv=>whnf)
  cases e2 : goesOn hInt k1 p.rf with
  | none =>
   (conv=>whnf)<;>repeat' first|(refine cond_t ?_;conv=>whnf)|(refine cond_f ?_;conv=>whnf)
   exact ⟨by rw [hPages, e]; simp [e2, orM, dI], rfl⟩
  | some k2 =>
   have e3 := goesOn_val (fun _ _ _ => hInt_val) e2
   (conv=>whnf)<;>repeat' first|(refine cond_t ?_;conv=>whnf)|(refine cond_f ?_;conv=>whnf)
   refine CondP.mk (fun h' => ?_) (fun h' => ?_) <;> (conv=>whnf)<;>repeat' first|(refine cond_t ?_;conv=>whnf)|(refine cond_f ?_;conv=>whnf)
   ·have h' : k2 < 0 := of_decide_eq_true h'
    omega
   exact ⟨by rw [hPages, e]; simp [e2, orM, dI], rfl⟩
theorem wts_drop {l : List Space} {i : Nat} (h : i < l.length) : wts (l.drop i) = l[i].wt + wts (l.drop (i + 1)) := by
 rw [List.drop_eq_getElem_cons h, wts]
theorem heldSpaceS_ok (b : Bool) (l : List Space) (k : Int) (hl : l.length ≤ 1048576) (hs : spFits 1048576 l) (h0 : 0 ≤ k) (hk : k + wts l ≤ 1073741824) : CallV Try.prog 72 [.one (.ro b 3 (l.map rP)), .one (dI k)] (.v (.one (dI (orM (goesOn hSpace k l))))) := by
 refine callX_of hmix Try.func72 ok72 ?_
 (conv=>whnf)<;>repeat' first|(refine cond_t ?_;conv=>whnf)|(refine cond_f ?_;conv=>whnf)
 refine loop_at (fun p : Nat × Int => [(0, .v (.one (.ro b 3 (l.map rP)))), (1, .v (.one (dI p.2))), (5, .v (.one (dI p.1)))]) (fun _ => []) (fun _ => 0)
  (fun p => p.1 ≤ l.length ∧ 0 ≤ p.2 ∧ p.2 + wts (l.drop p.1) ≤ 1073741824 ∧ goesOn hSpace k l = goesOn hSpace p.2 (l.drop p.1)) (fun p => l.length - p.1) (0, k) ⟨by omega, h0, by simpa using hk, by simp⟩ rfl rfl rfl fun p hi => ?_
 obtain ⟨i, q⟩ := p
 obtain ⟨hi1, hi2, hi3, hi4⟩ := hi
 simp only at hi1 hi2 hi3 hi4
 (conv=>whnf)<;>repeat' first|(refine cond_t ?_;conv=>whnf)|(refine cond_f ?_;conv=>whnf)
 refine CondP.mk (fun h => ?_) (fun h => ?_) <;> (conv=>whnf)<;>repeat' first|(refine cond_t ?_;conv=>whnf)|(refine cond_f ?_;conv=>whnf)
 ·have hlt : i < l.length := by simpa using h
  rw [wts_drop hlt] at hi3
  unfold Space.wt at hi3
  have no : hSpace q l[i] = none → DT.v (.one (.sc (.int .i64 (-1)))) = .v (.one (dI (orM (goesOn hSpace k l)))) ∧ ([] : DH) = [] := fun e => ⟨by rw [hi4, goesOn_step hlt, e]; rfl, rfl⟩
  refine op_idx_ro (k := i) rfl rfl (by simpa using hlt) ?_
  (conv=>whnf)<;>repeat' first|(refine cond_t ?_;conv=>whnf)|(refine cond_f ?_;conv=>whnf)
  refine op_load_rp rfl (r := .one (dB l[i].lv)) (by simp [loadRp, rP, hlt, eB, dB]) ?_
  (conv=>whnf)<;>repeat' first|(refine cond_t ?_;conv=>whnf)|(refine cond_f ?_;conv=>whnf)
  refine op_fl rfl ?_
  (conv=>whnf)<;>repeat' first|(refine cond_t ?_;conv=>whnf)|(refine cond_f ?_;conv=>whnf)
  have e3 : decide (q.tmod 3 = 0) = m3 q := by rw [m3]; congr 1; exact tmod3 (by omega)
  refine CondP.mk (fun h1 => ?_) (fun h1 => ?_) <;> (conv=>whnf)<;>repeat' first|(refine cond_t ?_;conv=>whnf)|(refine cond_f ?_;conv=>whnf)
  ·have h1 : ¬ l[i].lv = decide (q.tmod 3 = 0) := by simpa using h1
   exact no (by rw [hSpace, if_neg fun e => h1 (e.trans e3.symm)])
  have h1 : l[i].lv = decide (q.tmod 3 = 0) := by simpa using h1
  rw [w1 (k := q) (by omega) (by omega)]
  refine op_idx_ro (k := i) rfl rfl (by simpa using hlt) ?_
  (conv=>whnf)<;>repeat' first|(refine cond_t ?_;conv=>whnf)|(refine cond_f ?_;conv=>whnf)
  refine op_load_rp rfl (r := .one (.ro b 4 (l[i].ar.map rA))) (by simp [loadRp, rP, hlt]) ?_
  (conv=>whnf)<;>repeat' first|(refine cond_t ?_;conv=>whnf)|(refine cond_f ?_;conv=>whnf)
  have hs' := hs _ (List.getElem_mem hlt)
  refine op_callV [.pass, .pass] rfl rfl rfl (heldAreaS_ok b l[i].ar (q + 1) hs'.1 (by omega) (by omega)) rfl ?_
  (conv=>whnf)<;>repeat' first|(refine cond_t ?_;conv=>whnf)|(refine cond_f ?_;conv=>whnf)
  cases e : goesOn hArea (q + 1) l[i].ar with
  | none =>
   (conv=>whnf)<;>repeat' first|(refine cond_t ?_;conv=>whnf)|(refine cond_f ?_;conv=>whnf)
   exact no (by rw [hSpace, if_pos (h1.trans e3), e]; rfl)
  | some k1 =>
   have e1 := goesOn_val (fun _ _ _ => hArea_val) e
   (conv=>whnf)<;>repeat' first|(refine cond_t ?_;conv=>whnf)|(refine cond_f ?_;conv=>whnf)
   refine CondP.mk (fun h' => ?_) (fun h' => ?_) <;> (conv=>whnf)<;>repeat' first|(refine cond_t ?_;conv=>whnf)|(refine cond_f ?_;conv=>whnf)
   ·have h' : k1 < 0 := of_decide_eq_true h'
    omega
   refine op_idx_ro (k := i) rfl rfl (by simpa using hlt) ?_
   (conv=>whnf)<;>repeat' first|(refine cond_t ?_;conv=>whnf)|(refine cond_f ?_;conv=>whnf)
   refine op_load_rp rfl (r := .one (.ro b 4 (l[i].sl.map rL))) (by simp [loadRp, rP, hlt]) ?_
   (conv=>whnf)<;>repeat' first|(refine cond_t ?_;conv=>whnf)|(refine cond_f ?_;conv=>whnf)
   refine op_callV [.pass, .pass] rfl rfl rfl (heldSlotS_ok b l[i].sl k1 hs'.2 (by omega) (by omega)) rfl ?_
   (conv=>whnf)<;>repeat' first|(refine cond_t ?_;conv=>whnf)|(refine cond_f ?_;conv=>whnf)
   cases e2 : goesOn hSlot k1 l[i].sl with
   | none =>
    (conv=>whnf)<;>repeat' first|(refine cond_t ?_;conv=>whnf)|(refine cond_f ?_;conv=>whnf)
    exact no (by rw [hSpace, if_pos (h1.trans e3), e]; exact e2)
   | some k2 =>
    have e4 := goesOn_val (fun _ _ _ => hSlot_val) e2
    (conv=>whnf)<;>repeat' first|(refine cond_t ?_;conv=>whnf)|(refine cond_f ?_;conv=>whnf)
    refine CondP.mk (fun h' => ?_) (fun h' => ?_) <;> (conv=>whnf)<;>repeat' first|(refine cond_t ?_;conv=>whnf)|(refine cond_f ?_;conv=>whnf)
    ·have h' : k2 < 0 := of_decide_eq_true h'
     omega
    have e5 : hSpace q l[i] = some k2 := by rw [hSpace, if_pos (h1.trans e3), e]; exact e2
    refine ⟨(i + 1, k2), by simp only; omega, ⟨by simp only; omega, by simp only; omega, by simp only; omega, ?_⟩, ?_, rfl, rfl⟩
    ·rw [hi4, goesOn_step hlt, e5]
    ·rw [up hlt (by omega)]; rfl
 ·have : i = l.length := by
               have : ¬ i < l.length := by simpa using h
               omega
  subst this
  refine ⟨?_, rfl⟩
  rw [hi4, List.drop_length]; rfl
theorem hPages_val {k : Int} {p : Pages} {k' : Int} (h : hPages k p = some k') : k' = k + p.wt := by
 unfold hPages at h
 cases h1 : goesOn hStr k p.tx with
 | none => rw [h1] at h; simp at h
 | some k1 =>
  rw [h1] at h
  have e1 := goesOn_val (fun _ _ _ => hStr_val) h1
  have e2 := goesOn_val (fun _ _ _ => hInt_val) (show goesOn hInt k1 p.rf = some k' from h)
  unfold Pages.wt
  omega
theorem goesOn_wts : ∀ {l : List Space} {k k' : Int}, goesOn hSpace k l = some k' → k' = k + wts l := by
 intro l
 induction l with
 | nil => intro k k' h; simp only [goesOn, Option.some.injEq] at h; simp [h, wts]
 | cons a l ih =>
  intro k k' h
  simp only [goesOn] at h
  split at h
  ·rename_i k1 h1
   have e1 := hSpace_val h1
   have e2 := ih h
   simp only [wts]
   omega
  ·simp at h
theorem heldMem_ok (b1 b2 b3 b4 b5 : Bool) (m : Mem) (k : Int) (h : m.fits 1048576) (h0 : 0 ≤ k) (hk : k + m.wt ≤ 1073741824) : CallV Try.prog 28 [aM b1 b2 b3 b4 b5 m, .one (dI k)] (.v (.one (dI (orM (hMem k m))))) := by
 refine callX_of hmix Try.func28 ok28 ?_
 unfold Mem.wt at hk
 (conv=>whnf)<;>repeat' first|(refine cond_t ?_;conv=>whnf)|(refine cond_f ?_;conv=>whnf)
 refine op_callV [.pass, .pass] rfl rfl rfl (heldPages_ok b1 b2 m.ram k h.rt h.rr h0 (by omega)) rfl ?_
 (conv=>whnf)<;>repeat' first|(refine cond_t ?_;conv=>whnf)|(refine cond_f ?_;conv=>whnf)
 cases e : hPages k m.ram with
 | none =>
  (conv=>whnf)<;>repeat' first|(refine cond_t ?_;conv=>whnf)|(refine cond_f ?_;conv=>whnf)
  exact ⟨by rw [hMem, e]; rfl, rfl⟩
 | some k1 =>
  have e1 := hPages_val e
  (conv=>whnf)<;>repeat' first|(refine cond_t ?_;conv=>whnf)|(refine cond_f ?_;conv=>whnf)
  refine CondP.mk (fun h' => ?_) (fun h' => ?_) <;> (conv=>whnf)<;>repeat' first|(refine cond_t ?_;conv=>whnf)|(refine cond_f ?_;conv=>whnf)
  ·have h' : k1 < 0 := of_decide_eq_true h'
   omega
  refine op_callV [.pass, .pass] rfl rfl rfl (heldPages_ok b3 b4 m.swp k1 h.st h.sr (by omega) (by omega)) rfl ?_
  (conv=>whnf)<;>repeat' first|(refine cond_t ?_;conv=>whnf)|(refine cond_f ?_;conv=>whnf)
  cases e2 : hPages k1 m.swp with
  | none =>
   (conv=>whnf)<;>repeat' first|(refine cond_t ?_;conv=>whnf)|(refine cond_f ?_;conv=>whnf)
   exact ⟨by rw [hMem, e]; simp [e2, orM, dI], rfl⟩
  | some k2 =>
   have e3 := hPages_val e2
   (conv=>whnf)<;>repeat' first|(refine cond_t ?_;conv=>whnf)|(refine cond_f ?_;conv=>whnf)
   refine CondP.mk (fun h' => ?_) (fun h' => ?_) <;> (conv=>whnf)<;>repeat' first|(refine cond_t ?_;conv=>whnf)|(refine cond_f ?_;conv=>whnf)
   ·have h' : k2 < 0 := of_decide_eq_true h'
    omega
   refine op_callV [.pass, .pass] rfl rfl rfl (heldSpaceS_ok b5 m.sp k2 h.sp h.ss (by omega) (by omega)) rfl ?_
   (conv=>whnf)<;>repeat' first|(refine cond_t ?_;conv=>whnf)|(refine cond_f ?_;conv=>whnf)
   cases e4 : goesOn hSpace k2 m.sp with
   | none =>
    (conv=>whnf)<;>repeat' first|(refine cond_t ?_;conv=>whnf)|(refine cond_f ?_;conv=>whnf)
    exact ⟨by rw [hMem, e]; simp [e2, e4, orM, dI], rfl⟩
   | some k3 =>
    have e5 := goesOn_wts e4
    (conv=>whnf)<;>repeat' first|(refine cond_t ?_;conv=>whnf)|(refine cond_f ?_;conv=>whnf)
    refine CondP.mk (fun h' => ?_) (fun h' => ?_) <;> (conv=>whnf)<;>repeat' first|(refine cond_t ?_;conv=>whnf)|(refine cond_f ?_;conv=>whnf)
    ·have h' : k3 < 0 := of_decide_eq_true h'
     omega
    exact ⟨by rw [hMem, e]; simp [e2, e4, orM, dI], rfl⟩
end Go.Qm
namespace Go.Qm
open Go.Cq Go.Cq.D Go.RowKit Go.Proofs
set_option maxRecDepth 10000
def markP {α : Type} (g : Int → α → α) (w : α → Nat) : Int → List α → Nat → List α
 | _, l, 0 => l
 | _, [], _ + 1 => []
 | k, a :: l, i + 1 => g k a :: markP g w (k + w a) l i
def posP {α : Type} (w : α → Nat) : Int → List α → Nat → Int
 | k, _, 0 => k
 | k, [], _ + 1 => k
 | k, a :: l, i + 1 => posP w (k + w a) l i
def markL {α : Type} (g : Int → α → α) (w : α → Nat) (k : Int) (l : List α) : List α := markP g w k l l.length
theorem markP_zero {α : Type} {g : Int → α → α} {w : α → Nat} {l : List α} {k : Int} : markP g w k l 0 = l := by cases l <;> rfl
theorem markP_len {α : Type} {g : Int → α → α} {w : α → Nat} : ∀ {l : List α} {k : Int} {i : Nat}, (markP g w k l i).length = l.length := by
 intro l
 induction l with
 | nil => intro k i; cases i <;> rfl
 | cons a l ih => intro k i; cases i with
  | zero => rfl
  | succ i => simp only [markP, List.length_cons, ih]
theorem markP_get {α : Type} {g : Int → α → α} {w : α → Nat} : ∀ {l : List α} {k : Int} {i : Nat} (h : i < l.length), (markP g w k l i)[i]? = some l[i] := by
 intro l
 induction l with
 | nil => intro k i h; simp at h
 | cons a l ih => intro k i h; cases i with
  | zero => rfl
  | succ i => simp only [markP, List.getElem?_cons_succ, List.getElem_cons_succ]; exact ih (by simpa using h)
theorem markP_set {α : Type} {g : Int → α → α} {w : α → Nat} : ∀ {l : List α} {k : Int} {i : Nat} (h : i < l.length), (markP g w k l i).set i (g (posP w k l i) l[i]) = markP g w k l (i + 1) := by
 intro l
 induction l with
 | nil => intro k i h; simp at h
 | cons a l ih => intro k i h; cases i with
  | zero => simp [markP, posP]
  | succ i => simp only [markP, posP, List.set_cons_succ, List.getElem_cons_succ]; congr 1; exact ih (by simpa using h)
theorem posP_step {α : Type} {w : α → Nat} : ∀ {l : List α} {k : Int} {i : Nat} (h : i < l.length), posP w k l (i + 1) = posP w k l i + w l[i] := by
 intro l
 induction l with
 | nil => intro k i h; simp at h
 | cons a l ih => intro k i h; cases i with
  | zero => simp [posP]
  | succ i => rw [posP, ih (by simpa using h)]; rfl
theorem posP_const {α : Type} {w : α → Nat} {c : Nat} (hw : ∀ a, w a = c) : ∀ {l : List α} {k : Int} {i : Nat} (h : i ≤ l.length), posP w k l i = k + c * i := by
 intro l
 induction l with
 | nil => intro k i h; simp at h; subst h; simp [posP]
 | cons a l ih => intro k i h; cases i with
  | zero => simp [posP]
  | succ i => rw [posP, ih (by simpa using h), hw]; simp only [Int.natCast_add, Int.mul_add]; omega
def gStr (k : Int) (_ : Str) : Str := mkText k
def gInt (k : Int) (_ : Int) : Int := k
def gArea (k : Int) (_ : Area) : Area := ⟨k, k + 1, m3 (k + 2), m3 (k + 3)⟩
def gSlot (k : Int) (_ : Slot) : Slot := ⟨k, k + 1, m3 (k + 2), m3 (k + 3)⟩
def w1c {α : Type} (_ : α) : Nat := 1
def w4c {α : Type} (_ : α) : Nat := 4
def gSpace (k : Int) (s : Space) : Space := ⟨m3 k, markL gArea w4c (k + 1) s.ar, markL gSlot w4c (k + 1 + 4 * s.ar.length) s.sl⟩
def gPages (k : Int) (p : Pages) : Pages := ⟨markL gStr w1c k p.tx, markL gInt w1c (k + p.tx.length) p.rf⟩
def gMem (k : Int) (m : Mem) : Mem := ⟨gPages k m.ram, gPages (k + m.ram.wt) m.swp, markL gSpace Space.wt (k + m.ram.wt + m.swp.wt) m.sp, m.hd⟩
theorem modify_set {es : List (List PV)} {i : Nat} {row : List PV} {f : List PV → List PV} (h : es[i]? = some row) : es.modify i f = es.set i (f row) := by
 refine List.ext_getElem? fun j => ?_
 rw [List.getElem?_modify, List.getElem?_set]
 by_cases e : i = j
 ·subst e
  obtain ⟨hi, e⟩ := List.getElem?_eq_some_iff.1 h
  rw [h, if_pos rfl, if_pos hi]; simp
 ·rw [if_neg e]; cases es[j]? <;> simp [e]
theorem map_get {α : Type} {f : α → List PV} {l : List α} {i : Nat} {a : α} (h : l[i]? = some a) : (l.map f)[i]? = some (f a) := by simp [h]
theorem markIntS_ok (l : List Int) (k : Int) (hl : l.length ≤ 1048576) (h0 : 0 ≤ k) (hk : k ≤ 1073741824) : CallD Try.prog 135 [.one (.sl 0 0 l.length), .one (dI k)] [(0, .arr 1 (l.map rI) [])] 1 fun x H' => x = .v (.one (dI (k + l.length))) ∧ H' = [(0, .arr 1 ((markL gInt w1c k l).map rI) [])] := by
 refine callX_of hmix Try.func135 ok135 ?_
 (conv=>whnf)<;>repeat' first|(refine cond_t ?_;conv=>whnf)|(refine cond_f ?_;conv=>whnf)
 refine loop_at (fun i : Nat => [(0, .v (.one (.sl 0 0 l.length))), (1, .v (.one (dI (k + i)))), (5, .v (.one (dI i)))]) (fun i => [(0, .arr 1 ((markP gInt w1c k l i).map rI) [])]) (fun _ => 1)
  (fun i => i ≤ l.length) (fun i => l.length - i) 0 (by omega) (by simp [dI]) (by simp only [markP_zero]) rfl fun i hi => ?_
 (conv=>whnf)<;>repeat' first|(refine cond_t ?_;conv=>whnf)|(refine cond_f ?_;conv=>whnf)
 refine CondP.mk (fun h => ?_) (fun h => ?_) <;> (conv=>whnf)<;>repeat' first|(refine cond_t ?_;conv=>whnf)|(refine cond_f ?_;conv=>whnf)
 ·have hlt : i < l.length := by simpa using h
  have hg := map_get (f := rI) (markP_get (g := gInt) (w := w1c) (k := k) hlt)
  refine op_idx_sl (k := i) rfl rfl rfl hlt ?_
  (conv=>whnf)<;>repeat' first|(refine cond_t ?_;conv=>whnf)|(refine cond_f ?_;conv=>whnf)
  refine op_store_arr1 rfl rfl rfl (by simp [markP_len]; exact hlt) (by decide) ?_
  (conv=>whnf)<;>repeat' first|(refine cond_t ?_;conv=>whnf)|(refine cond_f ?_;conv=>whnf)
  refine ⟨i + 1, by omega, by omega, ?_, ?_, rfl⟩
  ·rw [up hlt (by omega), upk (i := i) (by omega) h0]; rfl
  ·rw [← markP_set hlt, posP_const (w := w1c) (c := 1) (fun _ => rfl) (by omega), ← map_set, Nat.zero_add, modify_set hg]
   simp [rI, eI, gInt]
 ·have : i = l.length := by
               have : ¬ i < l.length := by simpa using h
               omega
  subst this
  exact ⟨rfl, rfl⟩
theorem markStringS_ok (l : List Str) (k : Int) (hl : l.length ≤ 1048576) (h0 : 0 ≤ k) (hk : k ≤ 1073741824) : CallD Try.prog 134 [.one (.sl 0 0 l.length), .one (dI k)] [(0, .arr 1 (l.map rS) [])] 1 fun x H' => x = .v (.one (dI (k + l.length))) ∧ H' = [(0, .arr 1 ((markL gStr w1c k l).map rS) [])] := by
 refine callX_of hmix Try.func134 ok134 ?_
 (conv=>whnf)<;>repeat' first|(refine cond_t ?_;conv=>whnf)|(refine cond_f ?_;conv=>whnf)
 refine loop_at (fun i : Nat => [(0, .v (.one (.sl 0 0 l.length))), (1, .v (.one (dI (k + i)))), (5, .v (.one (dI i)))]) (fun i => [(0, .arr 1 ((markP gStr w1c k l i).map rS) [])]) (fun _ => 1)
  (fun i => i ≤ l.length) (fun i => l.length - i) 0 (by omega) (by simp [dI]) (by simp only [markP_zero]) rfl fun i hi => ?_
 (conv=>whnf)<;>repeat' first|(refine cond_t ?_;conv=>whnf)|(refine cond_f ?_;conv=>whnf)
 refine CondP.mk (fun h => ?_) (fun h => ?_) <;> (conv=>whnf)<;>repeat' first|(refine cond_t ?_;conv=>whnf)|(refine cond_f ?_;conv=>whnf)
 ·have hlt : i < l.length := by simpa using h
  have hg := map_get (f := rS) (markP_get (g := gStr) (w := w1c) (k := k) hlt)
  refine op_callV [.pass] rfl rfl rfl (markText_ok (k + i) (by omega)) rfl ?_
  (conv=>whnf)<;>repeat' first|(refine cond_t ?_;conv=>whnf)|(refine cond_f ?_;conv=>whnf)
  refine op_idx_sl (k := i) rfl rfl rfl hlt ?_
  (conv=>whnf)<;>repeat' first|(refine cond_t ?_;conv=>whnf)|(refine cond_f ?_;conv=>whnf)
  refine op_store_arr1 rfl rfl rfl (by simp [markP_len]; exact hlt) (by decide) ?_
  (conv=>whnf)<;>repeat' first|(refine cond_t ?_;conv=>whnf)|(refine cond_f ?_;conv=>whnf)
  refine ⟨i + 1, by omega, by omega, ?_, ?_, rfl⟩
  ·rw [up hlt (by omega), upk (i := i) (by omega) h0]; rfl
  ·rw [← markP_set hlt, posP_const (w := w1c) (c := 1) (fun _ => rfl) (by omega), ← map_set, Nat.zero_add, modify_set hg]
   simp [rS, eS, gStr]
 ·have : i = l.length := by
               have : ¬ i < l.length := by simpa using h
               omega
  subst this
  exact ⟨rfl, rfl⟩
theorem row_len4 {α : Type} {f : α → List PV} (hf : ∀ a, (f a).length = 4) {l : List α} {i : Nat} : ∀ row, (l.map f)[i]? = some row → row.length = 4 := by
 intro row h
 obtain ⟨a, -, rfl⟩ := List.mem_map.1 (List.mem_of_getElem? h)
 exact hf a
set_option maxHeartbeats 1000000 in
theorem markAreaS_ok (l : List Area) (k : Int) (hl : l.length ≤ 1048576) (h0 : 0 ≤ k) (hk : k ≤ 1073741824) : CallD Try.prog 136 [.one (.sl 0 0 l.length), .one (dI k)] [(0, .arr 4 (l.map rA) [])] 1 fun x H' => x = .v (.one (dI (k + 4 * l.length))) ∧ H' = [(0, .arr 4 ((markL gArea w4c k l).map rA) [])] := by
 refine callX_of hmix Try.func136 ok136 ?_
 (conv=>whnf)<;>repeat' first|(refine cond_t ?_;conv=>whnf)|(refine cond_f ?_;conv=>whnf)
 refine loop_at (fun i : Nat => [(0, .v (.one (.sl 0 0 l.length))), (1, .v (.one (dI (k + 4 * i)))), (5, .v (.one (dI i)))]) (fun i => [(0, .arr 4 ((markP gArea w4c k l i).map rA) [])]) (fun _ => 1)
  (fun i => i ≤ l.length) (fun i => l.length - i) 0 (by omega) (by simp [dI]) (by simp only [markP_zero]) rfl fun i hi => ?_
 (conv=>whnf)<;>repeat' first|(refine cond_t ?_;conv=>whnf)|(refine cond_f ?_;conv=>whnf)
 refine CondP.mk (fun h => ?_) (fun h => ?_) <;> (conv=>whnf)<;>repeat' first|(refine cond_t ?_;conv=>whnf)|(refine cond_f ?_;conv=>whnf)
 ·have hlt : i < l.length := by simpa using h
  have hg := map_get (f := rA) (markP_get (g := gArea) (w := w4c) (k := k) hlt)
  have hlen : 0 + i < ((markP gArea w4c k l i).map rA).length := by simp [markP_len]; exact hlt
  generalize hq : k + 4 * (i : Int) = q
  have hq0 : 0 ≤ q ∧ q ≤ 2147483648 := by omega
  refine op_idx_sl (k := i) rfl rfl rfl hlt ?_
  (conv=>whnf)<;>repeat' first|(refine cond_t ?_;conv=>whnf)|(refine cond_f ?_;conv=>whnf)
  refine op_store_arr1 rfl rfl rfl hlen (by decide) ?_
  (conv=>whnf)<;>repeat' first|(refine cond_t ?_;conv=>whnf)|(refine cond_f ?_;conv=>whnf)
  rw [w1 (k := q) (by omega) (by omega)]
  refine op_idx_sl (k := i) rfl rfl rfl hlt ?_
  (conv=>whnf)<;>repeat' first|(refine cond_t ?_;conv=>whnf)|(refine cond_f ?_;conv=>whnf)
  refine op_store_arr1 rfl rfl rfl (by rw [List.length_modify]; exact hlen) (by decide) ?_
  (conv=>whnf)<;>repeat' first|(refine cond_t ?_;conv=>whnf)|(refine cond_f ?_;conv=>whnf)
  rw [w1 (k := q + 1) (by omega) (by omega), show q + 1 + 1 = q + 2 by omega]
  refine op_fl rfl ?_
  (conv=>whnf)<;>repeat' first|(refine cond_t ?_;conv=>whnf)|(refine cond_f ?_;conv=>whnf)
  refine op_idx_sl (k := i) rfl rfl rfl hlt ?_
  (conv=>whnf)<;>repeat' first|(refine cond_t ?_;conv=>whnf)|(refine cond_f ?_;conv=>whnf)
  refine op_store_arr1 rfl rfl rfl (by rw [List.length_modify, List.length_modify]; exact hlen) (by decide) ?_
  (conv=>whnf)<;>repeat' first|(refine cond_t ?_;conv=>whnf)|(refine cond_f ?_;conv=>whnf)
  rw [w1 (k := q + 2) (by omega) (by omega), show q + 2 + 1 = q + 3 by omega]
  refine op_fl rfl ?_
  (conv=>whnf)<;>repeat' first|(refine cond_t ?_;conv=>whnf)|(refine cond_f ?_;conv=>whnf)
  refine op_idx_sl (k := i) rfl rfl rfl hlt ?_
  (conv=>whnf)<;>repeat' first|(refine cond_t ?_;conv=>whnf)|(refine cond_f ?_;conv=>whnf)
  refine op_store_arr1 rfl rfl rfl (by rw [List.length_modify, List.length_modify, List.length_modify]; exact hlen) (by decide) ?_
  (conv=>whnf)<;>repeat' first|(refine cond_t ?_;conv=>whnf)|(refine cond_f ?_;conv=>whnf)
  refine ⟨i + 1, by omega, by omega, ?_, ?_, rfl⟩
  ·rw [w1 (k := q + 3) (by omega) (by omega), up hlt (by omega), show q + 3 + 1 = k + 4 * ((i + 1 : Nat) : Int) by omega]; rfl
  ·have e3 : decide ((q + 2).tmod 3 = 0) = m3 (q + 2) := by rw [m3]; congr 1; exact tmod3 (by omega)
   have e4 : decide ((q + 3).tmod 3 = 0) = m3 (q + 3) := by rw [m3]; congr 1; exact tmod3 (by omega)
   rw [← markP_set hlt, posP_const (w := w4c) (c := 4) (fun _ => rfl) (by omega), ← map_set, Nat.zero_add, e3, e4]
   have hq' : k + ((4 : Nat) : Int) * (i : Int) = q := hq
   rw [hq', modify_set (mod_get (mod_get (mod_get hg))), modify_set (mod_get (mod_get hg)), modify_set (mod_get hg), modify_set hg]
   simp [rA, eI, eB, gArea]
 ·have : i = l.length := by
               have : ¬ i < l.length := by simpa using h
               omega
  subst this
  exact ⟨rfl, rfl⟩
set_option maxHeartbeats 1000000 in
theorem markSlotS_ok (l : List Slot) (k : Int) (hl : l.length ≤ 1048576) (h0 : 0 ≤ k) (hk : k ≤ 1073741824) : CallD Try.prog 137 [.one (.sl 0 0 l.length), .one (dI k)] [(0, .arr 4 (l.map rL) [])] 1 fun x H' => x = .v (.one (dI (k + 4 * l.length))) ∧ H' = [(0, .arr 4 ((markL gSlot w4c k l).map rL) [])] := by
 refine callX_of hmix Try.func137 ok137 ?_
 (conv=>whnf)<;>repeat' first|(refine cond_t ?_;conv=>whnf)|(refine cond_f ?_;conv=>whnf)
 refine loop_at (fun i : Nat => [(0, .v (.one (.sl 0 0 l.length))), (1, .v (.one (dI (k + 4 * i)))), (5, .v (.one (dI i)))]) (fun i => [(0, .arr 4 ((markP gSlot w4c k l i).map rL) [])]) (fun _ => 1)
  (fun i => i ≤ l.length) (fun i => l.length - i) 0 (by omega) (by simp [dI]) (by simp only [markP_zero]) rfl fun i hi => ?_
 (conv=>whnf)<;>repeat' first|(refine cond_t ?_;conv=>whnf)|(refine cond_f ?_;conv=>whnf)
 refine CondP.mk (fun h => ?_) (fun h => ?_) <;> (conv=>whnf)<;>repeat' first|(refine cond_t ?_;conv=>whnf)|(refine cond_f ?_;conv=>whnf)
 ·have hlt : i < l.length := by simpa using h
  have hg := map_get (f := rL) (markP_get (g := gSlot) (w := w4c) (k := k) hlt)
  have hlen : 0 + i < ((markP gSlot w4c k l i).map rL).length := by simp [markP_len]; exact hlt
  generalize hq : k + 4 * (i : Int) = q
  have hq0 : 0 ≤ q ∧ q ≤ 2147483648 := by omega
  refine op_idx_sl (k := i) rfl rfl rfl hlt ?_
  (conv=>whnf)<;>repeat' first|(refine cond_t ?_;conv=>whnf)|(refine cond_f ?_;conv=>whnf)
  refine op_store_arr1 rfl rfl rfl hlen (by decide) ?_
  (conv=>whnf)<;>repeat' first|(refine cond_t ?_;conv=>whnf)|(refine cond_f ?_;conv=>whnf)
  rw [w1 (k := q) (by omega) (by omega)]
  refine op_idx_sl (k := i) rfl rfl rfl hlt ?_
  (conv=>whnf)<;>repeat' first|(refine cond_t ?_;conv=>whnf)|(refine cond_f ?_;conv=>whnf)
  refine op_store_arr1 rfl rfl rfl (by rw [List.length_modify]; exact hlen) (by decide) ?_
  (conv=>whnf)<;>repeat' first|(refine cond_t ?_;conv=>whnf)|(refine cond_f ?_;conv=>whnf)
  rw [w1 (k := q + 1) (by omega) (by omega), show q + 1 + 1 = q + 2 by omega]
  refine op_fl rfl ?_
  (conv=>whnf)<;>repeat' first|(refine cond_t ?_;conv=>whnf)|(refine cond_f ?_;conv=>whnf)
  refine op_idx_sl (k := i) rfl rfl rfl hlt ?_
  (conv=>whnf)<;>repeat' first|(refine cond_t ?_;conv=>whnf)|(refine cond_f ?_;conv=>whnf)
  refine op_store_arr1 rfl rfl rfl (by rw [List.length_modify, List.length_modify]; exact hlen) (by decide) ?_
  (conv=>whnf)<;>repeat' first|(refine cond_t ?_;conv=>whnf)|(refine cond_f ?_;conv=>whnf)
  rw [w1 (k := q + 2) (by omega) (by omega), show q + 2 + 1 = q + 3 by omega]
  refine op_fl rfl ?_
  (conv=>whnf)<;>repeat' first|(refine cond_t ?_;conv=>whnf)|(refine cond_f ?_;conv=>whnf)
  refine op_idx_sl (k := i) rfl rfl rfl hlt ?_
  (conv=>whnf)<;>repeat' first|(refine cond_t ?_;conv=>whnf)|(refine cond_f ?_;conv=>whnf)
  refine op_store_arr1 rfl rfl rfl (by rw [List.length_modify, List.length_modify, List.length_modify]; exact hlen) (by decide) ?_
  (conv=>whnf)<;>repeat' first|(refine cond_t ?_;conv=>whnf)|(refine cond_f ?_;conv=>whnf)
  refine ⟨i + 1, by omega, by omega, ?_, ?_, rfl⟩
  ·rw [w1 (k := q + 3) (by omega) (by omega), up hlt (by omega), show q + 3 + 1 = k + 4 * ((i + 1 : Nat) : Int) by omega]; rfl
  ·have e3 : decide ((q + 2).tmod 3 = 0) = m3 (q + 2) := by rw [m3]; congr 1; exact tmod3 (by omega)
   have e4 : decide ((q + 3).tmod 3 = 0) = m3 (q + 3) := by rw [m3]; congr 1; exact tmod3 (by omega)
   rw [← markP_set hlt, posP_const (w := w4c) (c := 4) (fun _ => rfl) (by omega), ← map_set, Nat.zero_add, e3, e4]
   have hq' : k + ((4 : Nat) : Int) * (i : Int) = q := hq
   rw [hq', modify_set (mod_get (mod_get (mod_get hg))), modify_set (mod_get (mod_get hg)), modify_set (mod_get hg), modify_set hg]
   simp [rL, eI, eB, gSlot]
 ·have : i = l.length := by
               have : ¬ i < l.length := by simpa using h
               omega
  subst this
  exact ⟨rfl, rfl⟩
end Go.Qm
namespace Go.Qm
open Go.Cq Go.Cq.D Go.RowKit Go.Proofs
set_option maxRecDepth 10000
@[simp] theorem markL_len {α : Type} {g : Int → α → α} {w : α → Nat} {l : List α} {k : Int} : (markL g w k l).length = l.length := markP_len
theorem markPages_ok (p : Pages) (k : Int) (h1 : p.tx.length ≤ 1048576) (h2 : p.rf.length ≤ 1048576) (h0 : 0 ≤ k) (hk : k + p.wt ≤ 1073741824) : CallD Try.prog 69 [.agg [.sl 0 0 p.tx.length, .sl 1 0 p.rf.length], .one (dI k)] [(0, .arr 1 (p.tx.map rS) []), (1, .arr 1 (p.rf.map rI) [])] 2
  fun x H' => x = .v (.one (dI (k + p.wt))) ∧ H' = [(0, .arr 1 ((gPages k p).tx.map rS) []), (1, .arr 1 ((gPages k p).rf.map rI) [])] := by
 refine callX_of hmix Try.func69 ok69 ?_
 have hw : p.wt = p.tx.length + p.rf.length := rfl
 (conv=>whnf)<;>repeat' first|(refine cond_t ?_;conv=>whnf)|(refine cond_f ?_;conv=>whnf)
 refine op_callD [.pass, .pass] [0] rfl rfl rfl rfl (markStringS_ok p.tx k h1 h0 (by omega)) fun res H3 hp => ?_
 obtain ⟨rfl, rfl⟩ := hp
 refine ⟨rfl, rfl, _, (putB_arr rfl rfl (by simp)).trans rfl, ?_⟩
 (conv=>whnf)<;>repeat' first|(refine cond_t ?_;conv=>whnf)|(refine cond_f ?_;conv=>whnf)
 refine op_callD [.pass, .pass] [1] rfl rfl rfl rfl (markIntS_ok p.rf (k + p.tx.length) h2 (by omega) (by omega)) fun res H3 hp => ?_
 obtain ⟨rfl, rfl⟩ := hp
 refine ⟨rfl, rfl, _, (putB_arr rfl rfl (by simp)).trans rfl, ?_⟩
 (conv=>whnf)<;>repeat' first|(refine cond_t ?_;conv=>whnf)|(refine cond_f ?_;conv=>whnf)
 refine ⟨?_, rfl⟩
 rw [hw]
 simp only [dI, Int.natCast_add]
 rw [Int.add_assoc]
set_option maxHeartbeats 1000000 in
theorem markSpaceS_ok (l : List Space) (k : Int) (hl : l.length ≤ 1048576) (hs : spFits 1048576 l) (h0 : 0 ≤ k) (hk : k + wts l ≤ 1073741824) : CallD Try.prog 70 [.one (.sl 0 0 l.length), .one (dI k)] [(0, .arr 3 (l.map rP) [])] 1 fun x H' => x = .v (.one (dI (k + wts l))) ∧ H' = [(0, .arr 3 ((markL gSpace Space.wt k l).map rP) [])] := by
 refine callX_of hmix Try.func70 ok70 ?_
 (conv=>whnf)<;>repeat' first|(refine cond_t ?_;conv=>whnf)|(refine cond_f ?_;conv=>whnf)
 refine loop_at (fun i : Nat => [(0, .v (.one (.sl 0 0 l.length))), (1, .v (.one (dI (posP Space.wt k l i)))), (5, .v (.one (dI i)))]) (fun i => [(0, .arr 3 ((markP gSpace Space.wt k l i).map rP) [])]) (fun _ => 1)
  (fun i => i ≤ l.length ∧ 0 ≤ posP Space.wt k l i ∧ posP Space.wt k l i + wts (l.drop i) = k + wts l) (fun i => l.length - i) 0 ⟨by omega, by cases l <;> exact h0, by cases l <;> rfl⟩ (by cases l <;> simp [dI, posP]) (by simp only [markP_zero]) rfl fun i hi => ?_
 obtain ⟨hi1, hi2, hi3⟩ := hi
 (conv=>whnf)<;>repeat' first|(refine cond_t ?_;conv=>whnf)|(refine cond_f ?_;conv=>whnf)
 refine CondP.mk (fun h => ?_) (fun h => ?_) <;> (conv=>whnf)<;>repeat' first|(refine cond_t ?_;conv=>whnf)|(refine cond_f ?_;conv=>whnf)
 ·have hlt : i < l.length := by simpa using h
  have hg := map_get (f := rP) (markP_get (g := gSpace) (w := Space.wt) (k := k) hlt)
  have hlen : i < ((markP gSpace Space.wt k l i).map rP).length := by simp [markP_len]; exact hlt
  generalize hq : posP Space.wt k l i = q at hi2 hi3 ⊢
  rw [wts_drop hlt] at hi3
  have hw : l[i].wt = 1 + 4 * l[i].ar.length + 4 * l[i].sl.length := rfl
  have hs' := hs _ (List.getElem_mem hlt)
  refine op_fl rfl ?_
  (conv=>whnf)<;>repeat' first|(refine cond_t ?_;conv=>whnf)|(refine cond_f ?_;conv=>whnf)
  refine op_idx_s0 (k := i) rfl rfl rfl hlt ?_
  (conv=>whnf)<;>repeat' first|(refine cond_t ?_;conv=>whnf)|(refine cond_f ?_;conv=>whnf)
  refine op_store_arr1 rfl rfl rfl hlen (by decide) ?_
  (conv=>whnf)<;>repeat' first|(refine cond_t ?_;conv=>whnf)|(refine cond_f ?_;conv=>whnf)
  rw [w1 (k := q) (by omega) (by omega)]
  refine op_idx_s0 (k := i) rfl rfl rfl hlt ?_
  (conv=>whnf)<;>repeat' first|(refine cond_t ?_;conv=>whnf)|(refine cond_f ?_;conv=>whnf)
  refine ld_own (i := i) (k := 1) (sz' := 4) (es' := l[i].ar.map rA) l[i].ar.length rfl rfl rfl (cell_es (mod_get hg) rfl rfl rfl) rfl (by simp) ?_
  (conv=>whnf)<;>repeat' first|(refine cond_t ?_;conv=>whnf)|(refine cond_f ?_;conv=>whnf)
  refine op_callD [.pass, .pass] [1] rfl rfl rfl rfl (markAreaS_ok l[i].ar (q + 1) hs'.1 (by omega) (by omega)) fun res H3 hp => ?_
  obtain ⟨rfl, rfl⟩ := hp
  refine ⟨rfl, rfl, _, (putB_arr rfl rfl (by simp)).trans rfl, ?_⟩
  (conv=>whnf)<;>repeat' first|(refine cond_t ?_;conv=>whnf)|(refine cond_f ?_;conv=>whnf)
  refine op_close (i := i) (k := 1) (g' := 1) (lo := 0) (len := l[i].ar.length) (ov2 := []) rfl (cell_ov (mod_get hg) (by simp [rP]) (by simp only [ovGet, if_true]; rfl)) rfl rfl rfl (by simp only [ovErase, if_true]; rfl) ?_
  (conv=>whnf)<;>repeat' first|(refine cond_t ?_;conv=>whnf)|(refine cond_f ?_;conv=>whnf)
  refine op_idx_s0 (k := i) rfl rfl rfl hlt ?_
  (conv=>whnf)<;>repeat' first|(refine cond_t ?_;conv=>whnf)|(refine cond_f ?_;conv=>whnf)
  refine ld_own (i := i) (k := 2) (sz' := 4) (es' := l[i].sl.map rL) l[i].sl.length rfl rfl rfl (cell_es (mod_get (mod_get hg)) rfl rfl rfl) rfl (by simp) ?_
  (conv=>whnf)<;>repeat' first|(refine cond_t ?_;conv=>whnf)|(refine cond_f ?_;conv=>whnf)
  refine op_callD [.pass, .pass] [1] rfl rfl rfl rfl (markSlotS_ok l[i].sl (q + 1 + 4 * l[i].ar.length) hs'.2 (by omega) (by omega)) fun res H3 hp => ?_
  obtain ⟨rfl, rfl⟩ := hp
  refine ⟨rfl, rfl, _, (putB_arr rfl rfl (by simp)).trans rfl, ?_⟩
  (conv=>whnf)<;>repeat' first|(refine cond_t ?_;conv=>whnf)|(refine cond_f ?_;conv=>whnf)
  refine op_close (i := i) (k := 2) (g' := 1) (lo := 0) (len := l[i].sl.length) (ov2 := []) rfl (cell_ov (mod_get (mod_get hg)) (by simp [rP]) (by simp only [ovGet, if_true]; rfl)) rfl rfl rfl (by simp only [ovErase, if_true]; rfl) ?_
  (conv=>whnf)<;>repeat' first|(refine cond_t ?_;conv=>whnf)|(refine cond_f ?_;conv=>whnf)
  have hp : posP Space.wt k l (i + 1) = q + l[i].wt := by rw [posP_step hlt, hq]
  refine ⟨i + 1, by omega, ⟨by omega, by omega, by omega⟩, ?_, ?_, rfl⟩
  ·rw [up hlt (by omega), hp, show q + 1 + 4 * (l[i].ar.length : Int) + 4 * l[i].sl.length = q + l[i].wt by omega]; rfl
  ·have e3 : decide (q.tmod 3 = 0) = m3 q := by rw [m3]; congr 1; exact tmod3 (by omega)
   rw [← markP_set hlt, hq, ← map_set, e3, List.drop_zero, List.drop_zero, List.take_of_length_le (by simp), List.take_of_length_le (by simp), modify_set (mod_get (mod_get hg)), modify_set (mod_get hg), modify_set hg]
   simp [rP, eB, gSpace]
 ·have : i = l.length := by
               have : ¬ i < l.length := by simpa using h
               omega
  subst this
  refine ⟨?_, rfl⟩
  rw [List.drop_length] at hi3
  simp only [wts] at hi3
  simp only [dI]
  rw [← hi3]; simp
theorem markMem_ok (m : Mem) (k : Int) (h : m.fits 1048576) (h0 : 0 ≤ k) (hk : k + m.wt ≤ 1073741824) : CallD Try.prog 27 [.agg [.sl 0 0 m.ram.tx.length, .sl 1 0 m.ram.rf.length, .sl 2 0 m.swp.tx.length, .sl 3 0 m.swp.rf.length, .sl 4 0 m.sp.length, dI m.hd], .one (dI k)]
  [(0, .arr 1 (m.ram.tx.map rS) []), (1, .arr 1 (m.ram.rf.map rI) []), (2, .arr 1 (m.swp.tx.map rS) []), (3, .arr 1 (m.swp.rf.map rI) []), (4, .arr 3 (m.sp.map rP) [])] 5
  fun x H' => x = .v (.one (dI (k + m.wt))) ∧ H' = [(0, .arr 1 ((gMem k m).ram.tx.map rS) []), (1, .arr 1 ((gMem k m).ram.rf.map rI) []), (2, .arr 1 ((gMem k m).swp.tx.map rS) []), (3, .arr 1 ((gMem k m).swp.rf.map rI) []), (4, .arr 3 ((gMem k m).sp.map rP) [])] := by
 refine callX_of hmix Try.func27 ok27 ?_
 have hw : m.wt = m.ram.wt + m.swp.wt + wts m.sp := rfl
 (conv=>whnf)<;>repeat' first|(refine cond_t ?_;conv=>whnf)|(refine cond_f ?_;conv=>whnf)
 refine op_callD [.pass, .pass] [0, 1] rfl rfl rfl rfl (markPages_ok m.ram k h.rt h.rr h0 (by omega)) fun res H3 hp => ?_
 obtain ⟨rfl, rfl⟩ := hp
 refine ⟨rfl, rfl, _, (putB_arr rfl rfl (by simp [gPages])).trans ((putB_arr rfl rfl (by simp [gPages])).trans rfl), ?_⟩
 (conv=>whnf)<;>repeat' first|(refine cond_t ?_;conv=>whnf)|(refine cond_f ?_;conv=>whnf)
 refine op_callD [.pass, .pass] [2, 3] rfl rfl rfl rfl (markPages_ok m.swp (k + m.ram.wt) h.st h.sr (by omega) (by omega)) fun res H3 hp => ?_
 obtain ⟨rfl, rfl⟩ := hp
 refine ⟨rfl, rfl, _, (putB_arr rfl rfl (by simp [gPages])).trans ((putB_arr rfl rfl (by simp [gPages])).trans rfl), ?_⟩
 (conv=>whnf)<;>repeat' first|(refine cond_t ?_;conv=>whnf)|(refine cond_f ?_;conv=>whnf)
 refine op_callD [.pass, .pass] [4] rfl rfl rfl rfl (markSpaceS_ok m.sp (k + m.ram.wt + m.swp.wt) h.sp h.ss (by omega) (by omega)) fun res H3 hp => ?_
 obtain ⟨rfl, rfl⟩ := hp
 refine ⟨rfl, rfl, _, (putB_arr rfl rfl (by simp)).trans rfl, ?_⟩
 (conv=>whnf)<;>repeat' first|(refine cond_t ?_;conv=>whnf)|(refine cond_f ?_;conv=>whnf)
 refine ⟨?_, rfl⟩
 rw [hw]
 simp only [dI, Int.natCast_add]
 rw [Int.add_assoc, Int.add_assoc, Int.add_assoc]
end Go.Qm
namespace Go.Qm
open Go.Cq Go.Cq.D Go.RowKit Go.Proofs
set_option maxRecDepth 10000
theorem cloneA_ok (b : Bool) (l : List Area) (hl : l.length ≤ 1048576) : CallV Try.prog 101 [.one (.ro b 4 (l.map rA))] (.v (.one (.own 4 (l.map rA)))) := by
 refine callX_of hmix Try.func101 ok101 ?_
 have hl' : (l.map rA).length ≤ 1048576 := by rw [List.length_map]; exact hl
 (conv=>whnf)<;>repeat' first|(refine cond_t ?_;conv=>whnf)|(refine cond_f ?_;conv=>whnf)
 refine op_nil_ro rfl fun v hv => ?_
 (conv=>whnf)<;>repeat' first|(refine cond_t ?_;conv=>whnf)|(refine cond_f ?_;conv=>whnf)
 refine CondP.mk (fun h => ?_) (fun h => ?_)
 ·subst h
  have e := hv rfl
  rw [e]
  (conv=>whnf)<;>repeat' first|(refine cond_t ?_;conv=>whnf)|(refine cond_f ?_;conv=>whnf)
  exact ⟨rfl, rfl⟩
 ·subst h
  (conv=>whnf)<;>repeat' first|(refine cond_t ?_;conv=>whnf)|(refine cond_f ?_;conv=>whnf)
  refine op_lit rfl rfl rfl ?_
  (conv=>whnf)<;>repeat' first|(refine cond_t ?_;conv=>whnf)|(refine cond_f ?_;conv=>whnf)
  refine op_app_ro rfl rfl rfl rfl (scRows scRow_A l) rfl (by omega) (by omega) ?_
  (conv=>whnf)<;>repeat' first|(refine cond_t ?_;conv=>whnf)|(refine cond_f ?_;conv=>whnf)
  refine ⟨?_, rfl⟩
  simp
theorem cloneL_ok (b : Bool) (l : List Slot) (hl : l.length ≤ 1048576) : CallV Try.prog 102 [.one (.ro b 4 (l.map rL))] (.v (.one (.own 4 (l.map rL)))) := by
 refine callX_of hmix Try.func102 ok102 ?_
 have hl' : (l.map rL).length ≤ 1048576 := by rw [List.length_map]; exact hl
 (conv=>whnf)<;>repeat' first|(refine cond_t ?_;conv=>whnf)|(refine cond_f ?_;conv=>whnf)
 refine op_nil_ro rfl fun v hv => ?_
 (conv=>whnf)<;>repeat' first|(refine cond_t ?_;conv=>whnf)|(refine cond_f ?_;conv=>whnf)
 refine CondP.mk (fun h => ?_) (fun h => ?_)
 ·subst h
  have e := hv rfl
  rw [e]
  (conv=>whnf)<;>repeat' first|(refine cond_t ?_;conv=>whnf)|(refine cond_f ?_;conv=>whnf)
  exact ⟨rfl, rfl⟩
 ·subst h
  (conv=>whnf)<;>repeat' first|(refine cond_t ?_;conv=>whnf)|(refine cond_f ?_;conv=>whnf)
  refine op_lit rfl rfl rfl ?_
  (conv=>whnf)<;>repeat' first|(refine cond_t ?_;conv=>whnf)|(refine cond_f ?_;conv=>whnf)
  refine op_app_ro rfl rfl rfl rfl (scRows scRow_L l) rfl (by omega) (by omega) ?_
  (conv=>whnf)<;>repeat' first|(refine cond_t ?_;conv=>whnf)|(refine cond_f ?_;conv=>whnf)
  refine ⟨?_, rfl⟩
  simp
theorem clonePages_ok (b1 b2 : Bool) (p : Pages) (h1 : p.tx.length ≤ 1048576) (h2 : p.rf.length ≤ 1048576) : CallV Try.prog 129 [.agg [.ro b1 1 (p.tx.map rS), .ro b2 1 (p.rf.map rI)]] (.v (.agg [.own 1 (p.tx.map rS), .own 1 (p.rf.map rI)])) := by
 refine callX_of hmix Try.func129 ok129 ?_
 have h1' : (p.tx.map rS).length ≤ 1048576 := by rw [List.length_map]; exact h1
 have h2' : (p.rf.map rI).length ≤ 1048576 := by rw [List.length_map]; exact h2
 (conv=>whnf)<;>repeat' first|(refine cond_t ?_;conv=>whnf)|(refine cond_f ?_;conv=>whnf)
 refine op_lit rfl rfl rfl ?_
 (conv=>whnf)<;>repeat' first|(refine cond_t ?_;conv=>whnf)|(refine cond_f ?_;conv=>whnf)
 refine op_app_ro rfl rfl rfl rfl (scRows scRow_S p.tx) rfl (by omega) (by omega) ?_
 (conv=>whnf)<;>repeat' first|(refine cond_t ?_;conv=>whnf)|(refine cond_f ?_;conv=>whnf)
 refine op_lit rfl rfl rfl ?_
 (conv=>whnf)<;>repeat' first|(refine cond_t ?_;conv=>whnf)|(refine cond_f ?_;conv=>whnf)
 refine op_app_ro rfl rfl rfl rfl (scRows scRow_I p.rf) rfl (by omega) (by omega) ?_
 (conv=>whnf)<;>repeat' first|(refine cond_t ?_;conv=>whnf)|(refine cond_f ?_;conv=>whnf)
 refine ⟨?_, rfl⟩
 simp
theorem l1Copy_ok (b1 b2 : Bool) (p : Pages) (h1 : p.tx.length ≤ 1048576) (h2 : p.rf.length ≤ 1048576) : CallV Try.prog 125 [.agg [.ro b1 1 (p.tx.map rS), .ro b2 1 (p.rf.map rI)]] (.v (.agg [.own 1 (p.tx.map rS), .own 1 (p.rf.map rI)])) := by
 refine callX_of hmix Try.func125 ok125 ?_
 have h1' : (p.tx.map rS).length ≤ 1048576 := by rw [List.length_map]; exact h1
 have h2' : (p.rf.map rI).length ≤ 1048576 := by rw [List.length_map]; exact h2
 (conv=>whnf)<;>repeat' first|(refine cond_t ?_;conv=>whnf)|(refine cond_f ?_;conv=>whnf)
 refine op_lit rfl rfl rfl ?_
 (conv=>whnf)<;>repeat' first|(refine cond_t ?_;conv=>whnf)|(refine cond_f ?_;conv=>whnf)
 refine op_app_ro rfl rfl rfl rfl (scRows scRow_S p.tx) rfl (by omega) (by omega) ?_
 (conv=>whnf)<;>repeat' first|(refine cond_t ?_;conv=>whnf)|(refine cond_f ?_;conv=>whnf)
 refine op_lit rfl rfl rfl ?_
 (conv=>whnf)<;>repeat' first|(refine cond_t ?_;conv=>whnf)|(refine cond_f ?_;conv=>whnf)
 refine op_app_ro rfl rfl rfl rfl (scRows scRow_I p.rf) rfl (by omega) (by omega) ?_
 (conv=>whnf)<;>repeat' first|(refine cond_t ?_;conv=>whnf)|(refine cond_f ?_;conv=>whnf)
 refine ⟨?_, rfl⟩
 simp
set_option maxHeartbeats 1000000 in
theorem cloneMem_ok (b1 b2 b3 b4 b5 : Bool) (m : Mem) (h : m.fits 1048576) : CallV Try.prog 64 [aM b1 b2 b3 b4 b5 m] (.v (oM m)) := by
 refine callX_of hmix Try.func64 ok64 ?_
 (conv=>whnf)<;>repeat' first|(refine cond_t ?_;conv=>whnf)|(refine cond_f ?_;conv=>whnf)
 refine op_callV [.pass] rfl rfl rfl (clonePages_ok _ _ m.ram h.rt h.rr) rfl ?_
 (conv=>whnf)<;>repeat' first|(refine cond_t ?_;conv=>whnf)|(refine cond_f ?_;conv=>whnf)
 refine op_callV [.pass] rfl rfl rfl (clonePages_ok _ _ m.swp h.st h.sr) rfl ?_
 (conv=>whnf)<;>repeat' first|(refine cond_t ?_;conv=>whnf)|(refine cond_f ?_;conv=>whnf)
 refine loop_at (fun i : Nat => [(2, .v (.one (.ptr 1 0 0))), (3, .v (.one (.ptr 6 0 0))), (16, .v (.one (.ro b5 3 (m.sp.map rP)))), (17, .v (.one (dI (m.sp.map rP).length))), (18, .v (.one (dI i)))])
  (fun i => [(6, .box [.own 1 (m.ram.tx.map rS), .own 1 (m.ram.rf.map rI), .own 1 (m.swp.tx.map rS), .own 1 (m.swp.rf.map rI), .own 3 ((m.sp.take i).map rP), dI m.hd]), (1, .box [.own 1 [], .own 1 [], .own 1 [], .own 1 [], .own 3 [], dI 0])]) (fun _ => 7)
  (fun i => i ≤ m.sp.length) (fun i => m.sp.length - i) 0 (by omega) rfl (by simp [dI]) rfl fun i hi => ?_
 (conv=>whnf)<;>repeat' first|(refine cond_t ?_;conv=>whnf)|(refine cond_f ?_;conv=>whnf)
 refine CondP.mk (fun h1 => ?_) (fun h1 => ?_) <;> (conv=>whnf)<;>repeat' first|(refine cond_t ?_;conv=>whnf)|(refine cond_f ?_;conv=>whnf)
 ·have hlt : i < m.sp.length := by simpa using h1
  have hs := h.ss _ (List.getElem_mem hlt)
  have hz : ((m.sp.take i).map rP).length = i := by rw [List.length_map, List.length_take]; omega
  refine op_idx_ro (k := i) rfl rfl (by simpa using hlt) ?_
  (conv=>whnf)<;>repeat' first|(refine cond_t ?_;conv=>whnf)|(refine cond_f ?_;conv=>whnf)
  refine op_load_rp rfl (ldP hlt) ?_
  (conv=>whnf)<;>repeat' first|(refine cond_t ?_;conv=>whnf)|(refine cond_f ?_;conv=>whnf)
  refine op_callV [.pass] rfl rfl rfl (cloneA_ok _ m.sp[i].ar hs.1) rfl ?_
  (conv=>whnf)<;>repeat' first|(refine cond_t ?_;conv=>whnf)|(refine cond_f ?_;conv=>whnf)
  refine op_callV [.pass] rfl rfl rfl (cloneL_ok _ m.sp[i].sl hs.2) rfl ?_
  (conv=>whnf)<;>repeat' first|(refine cond_t ?_;conv=>whnf)|(refine cond_f ?_;conv=>whnf)
  refine op_lit rfl rfl rfl ?_
  (conv=>whnf)<;>repeat' first|(refine cond_t ?_;conv=>whnf)|(refine cond_f ?_;conv=>whnf)
  refine op_app_mv [28, 31, 32] [.h 11 0 1, .h 11 0 2] 1 (sz := 3) rfl rfl rfl rfl rfl rfl rfl rfl (by rw [hz]; have := h.sp; omega) (by rw [hz]; have := h.sp; omega) ?_
  (conv=>whnf)<;>repeat' first|(refine cond_t ?_;conv=>whnf)|(refine cond_f ?_;conv=>whnf)
  refine ⟨i + 1, by omega, by omega, ?_, ?_, rfl⟩
  ·rw [up hlt (by have := h.sp; omega)]; rfl
  ·simp only [List.map_take, List.take_succ_eq_append_getElem (show i < (m.sp.map rP).length by simpa using hlt)]
   simp [rP, eB, dI, List.replicate, List.take_of_length_le]
 ·have : i = m.sp.length := by
                 have : ¬ i < m.sp.length := by simpa using h1
                 omega
  subst this
  refine ⟨?_, rfl⟩
  simp [oM, dI]
end Go.Qm
namespace Go.Qm
open Go.Cq Go.Cq.D Go.RowKit Go.Proofs
set_option maxRecDepth 10000
set_option maxHeartbeats 1000000 in
theorem l3Copy_ok (b1 b2 b3 b4 b5 : Bool) (m : Mem) (h : m.fits 1048576) : CallV Try.prog 60 [aM b1 b2 b3 b4 b5 m] (.v (oM m)) := by
 refine callX_of hmix Try.func60 ok60 ?_
 (conv=>whnf)<;>repeat' first|(refine cond_t ?_;conv=>whnf)|(refine cond_f ?_;conv=>whnf)
 refine op_callV [.pass] rfl rfl rfl (l1Copy_ok _ _ m.ram h.rt h.rr) rfl ?_
 (conv=>whnf)<;>repeat' first|(refine cond_t ?_;conv=>whnf)|(refine cond_f ?_;conv=>whnf)
 refine op_callV [.pass] rfl rfl rfl (l1Copy_ok _ _ m.swp h.st h.sr) rfl ?_
 (conv=>whnf)<;>repeat' first|(refine cond_t ?_;conv=>whnf)|(refine cond_f ?_;conv=>whnf)
 refine op_lit rfl rfl rfl ?_
 (conv=>whnf)<;>repeat' first|(refine cond_t ?_;conv=>whnf)|(refine cond_f ?_;conv=>whnf)
 refine loop_at (fun i : Nat => [(1, .v (.one (.ptr 0 0 0))), (2, .v (.one (.ptr 1 0 0))), (3, .v (.one (.ptr 7 0 0))), (4, .v (.one (dI i)))])
  (fun i => [(7, .box [.own 1 (m.ram.tx.map rS), .own 1 (m.ram.rf.map rI), .own 1 (m.swp.tx.map rS), .own 1 (m.swp.rf.map rI), .own 3 ((m.sp.take i).map rP), dI m.hd]), (1, .box [.own 1 [], .own 1 [], .own 1 [], .own 1 [], .own 3 [], dI 0]), (0, .box [.ro b1 1 (m.ram.tx.map rS), .ro b2 1 (m.ram.rf.map rI), .ro b3 1 (m.swp.tx.map rS), .ro b4 1 (m.swp.rf.map rI), .ro b5 3 (m.sp.map rP), dI m.hd])]) (fun _ => 8)
  (fun i => i ≤ m.sp.length) (fun i => m.sp.length - i) 0 (by omega) rfl (by simp [dI]) rfl fun i hi => ?_
 (conv=>whnf)<;>repeat' first|(refine cond_t ?_;conv=>whnf)|(refine cond_f ?_;conv=>whnf)
 refine CondP.mk (fun h1 => ?_) (fun h1 => ?_) <;> (conv=>whnf)<;>repeat' first|(refine cond_t ?_;conv=>whnf)|(refine cond_f ?_;conv=>whnf)
 ·have hlt : i < m.sp.length := by simpa using h1
  have hs := h.ss _ (List.getElem_mem hlt)
  have hz : ((m.sp.take i).map rP).length = i := by rw [List.length_map, List.length_take]; omega
  have hz1 : (m.sp[i].ar.map rA).length ≤ 1048576 := by rw [List.length_map]; exact hs.1
  have hz2 : (m.sp[i].sl.map rL).length ≤ 1048576 := by rw [List.length_map]; exact hs.2
  refine op_idx_ro (k := i) rfl rfl (by simpa using hlt) ?_
  (conv=>whnf)<;>repeat' first|(refine cond_t ?_;conv=>whnf)|(refine cond_f ?_;conv=>whnf)
  refine op_load_rp rfl (ldP hlt) ?_
  (conv=>whnf)<;>repeat' first|(refine cond_t ?_;conv=>whnf)|(refine cond_f ?_;conv=>whnf)
  refine op_lit rfl rfl rfl ?_
  (conv=>whnf)<;>repeat' first|(refine cond_t ?_;conv=>whnf)|(refine cond_f ?_;conv=>whnf)
  refine op_app_ro rfl rfl rfl rfl (scRows scRow_A _) rfl (by omega) (by omega) ?_
  (conv=>whnf)<;>repeat' first|(refine cond_t ?_;conv=>whnf)|(refine cond_f ?_;conv=>whnf)
  refine op_lit rfl rfl rfl ?_
  (conv=>whnf)<;>repeat' first|(refine cond_t ?_;conv=>whnf)|(refine cond_f ?_;conv=>whnf)
  refine op_app_ro rfl rfl rfl rfl (scRows scRow_L _) rfl (by omega) (by omega) ?_
  (conv=>whnf)<;>repeat' first|(refine cond_t ?_;conv=>whnf)|(refine cond_f ?_;conv=>whnf)
  refine op_lit rfl rfl rfl ?_
  (conv=>whnf)<;>repeat' first|(refine cond_t ?_;conv=>whnf)|(refine cond_f ?_;conv=>whnf)
  refine op_app_mv [] [.h 12 0 1, .h 12 0 2] 1 (sz := 3) rfl rfl rfl rfl rfl rfl rfl rfl (by rw [hz]; have := h.sp; omega) (by rw [hz]; have := h.sp; omega) ?_
  (conv=>whnf)<;>repeat' first|(refine cond_t ?_;conv=>whnf)|(refine cond_f ?_;conv=>whnf)
  refine ⟨i + 1, by omega, by omega, ?_, ?_, rfl⟩
  ·rw [up hlt (by have := h.sp; omega)]; rfl
  ·simp only [List.map_take, List.take_succ_eq_append_getElem (show i < (m.sp.map rP).length by simpa using hlt)]
   simp [rP, eB, dI, List.replicate, List.take_of_length_le]
 ·have : i = m.sp.length := by
                 have : ¬ i < m.sp.length := by simpa using h1
                 omega
  subst this
  refine ⟨?_, rfl⟩
  simp [oM, dI]
end Go.Qm
namespace Go.Qm
open Go.Cq Go.Cq.D Go.RowKit Go.Proofs
set_option maxRecDepth 10000
theorem okAt {l : List Area} (h : ∀ a, a ∈ l → areaOk a = true) {i : Nat} (hi : i < l.length) : areaOk l[i] = true := h _ (List.getElem_mem hi)
set_option maxHeartbeats 1000000 in
theorem l2At_ok (b : Bool) (l : List Area) (page : Int) (hl : l.length ≤ 4611686018427387904) (ho : ∀ a, a ∈ l → areaOk a = true) : CallV Try.prog 146 [.one (.ro b 4 (l.map rA)), .one (dI page)] (.v (.one (dI (areaAt l page)))) := by
 refine callX_of hmix Try.func146 ok146 ?_
 (conv=>whnf)<;>repeat' first|(refine cond_t ?_;conv=>whnf)|(refine cond_f ?_;conv=>whnf)
 refine loop_at (fun i : Nat => [(0, .v (.one (.ro b 4 (l.map rA)))), (1, .v (.one (dI page))), (5, .v (.one (dI i)))]) (fun _ => []) (fun _ => 0)
  (fun i => i ≤ l.length ∧ areaAt l page = atFrom page (l.drop i) i) (fun i => l.length - i) 0 ⟨by omega, rfl⟩ rfl rfl rfl fun i hi => ?_
 obtain ⟨hi1, hi2⟩ := hi
 (conv=>whnf)<;>repeat' first|(refine cond_t ?_;conv=>whnf)|(refine cond_f ?_;conv=>whnf)
 refine CondP.mk (fun h => ?_) (fun h => ?_) <;> (conv=>whnf)<;>repeat' first|(refine cond_t ?_;conv=>whnf)|(refine cond_f ?_;conv=>whnf)
 ·have hlt : i < l.length := by simpa using h
  have hok := areaOk_iff.1 (okAt ho hlt)
  refine op_idx_ro (k := i) rfl rfl (by simpa using hlt) ?_
  (conv=>whnf)<;>repeat' first|(refine cond_t ?_;conv=>whnf)|(refine cond_f ?_;conv=>whnf)
  refine op_load_rp rfl (r := .one (dI l[i].fr)) (by simp [loadRp, rA, hlt, eI, dI]) ?_
  (conv=>whnf)<;>repeat' first|(refine cond_t ?_;conv=>whnf)|(refine cond_f ?_;conv=>whnf)
  refine op_idx_ro (k := i) rfl rfl (by simpa using hlt) ?_
  (conv=>whnf)<;>repeat' first|(refine cond_t ?_;conv=>whnf)|(refine cond_f ?_;conv=>whnf)
  refine op_load_rp rfl (r := .one (dI l[i].fr)) (by simp [loadRp, rA, hlt, eI, dI]) ?_
  (conv=>whnf)<;>repeat' first|(refine cond_t ?_;conv=>whnf)|(refine cond_f ?_;conv=>whnf)
  refine op_idx_ro (k := i) rfl rfl (by simpa using hlt) ?_
  (conv=>whnf)<;>repeat' first|(refine cond_t ?_;conv=>whnf)|(refine cond_f ?_;conv=>whnf)
  refine op_load_rp rfl (r := .one (dI l[i].mn)) (by simp [loadRp, rA, hlt, eI, dI]) ?_
  (conv=>whnf)<;>repeat' first|(refine cond_t ?_;conv=>whnf)|(refine cond_f ?_;conv=>whnf)
  refine op_callV [.pass, .pass, .pass] rfl rfl rfl (lin_ok _ _ _) rfl ?_
  (conv=>whnf)<;>repeat' first|(refine cond_t ?_;conv=>whnf)|(refine cond_f ?_;conv=>whnf)
  have e1 : IntKind.wrap .i64 (l[i].fr + l[i].mn) = l[i].fr + l[i].mn := wrap64 (by omega) (by omega)
  have e2 : IntKind.wrap .i64 (l[i].fr + l[i].mn - 1) = l[i].fr + l[i].mn - 1 := wrap64 (by omega) (by omega)
  refine CondP.mk (fun h1 => ?_) (fun h1 => ?_) <;> (conv=>whnf)<;>repeat' first|(refine cond_t ?_;conv=>whnf)|(refine cond_f ?_;conv=>whnf)
  ·refine ⟨?_, rfl⟩
   rw [e1, e2] at h1
   have : l[i].fr ≤ page ∧ page < l[i].fr + l[i].mn := by simp only [inB, Bool.and_eq_true, decide_eq_true_eq] at h1; omega
   rw [hi2, atFrom_step hlt, if_pos this]; rfl
  ·refine ⟨i + 1, by omega, ⟨by omega, ?_⟩, ?_, rfl, rfl⟩
   ·rw [e1, e2] at h1
    have : ¬ (l[i].fr ≤ page ∧ page < l[i].fr + l[i].mn) := by
     intro ⟨k1, k2⟩
     have : inB page l[i].fr (l[i].fr + l[i].mn - 1) = true := by simp only [inB, Bool.and_eq_true, decide_eq_true_eq]; omega
     rw [this] at h1; simp at h1
    rw [hi2, atFrom_step hlt, if_neg this]
   ·rw [← up hlt hl]; rfl
 ·refine ⟨?_, rfl⟩
  have : i = l.length := by
               have : ¬ i < l.length := by simpa using h
               omega
  subst this
  rw [hi2, List.drop_length]; rfl
theorem atFn_ok (a : Area) (page : Int) (ho : areaOk a = true) : CallB Try.prog 97 [.agg (aA a), .one (.ptr 0 0 0)] [dI page] (.v (.one (dB (decide (a.fr ≤ page) && decide (page < a.fr + a.mn))))) [dI page] := by
 refine callX_of hmix Try.func97 ok97 ?_
 (conv=>whnf)<;>repeat' first|(refine cond_t ?_;conv=>whnf)|(refine cond_f ?_;conv=>whnf)
 refine CondP.mk (fun h => ?_) (fun h => ?_) <;> rw [h] <;> (conv=>whnf)<;>repeat' first|(refine cond_t ?_;conv=>whnf)|(refine cond_f ?_;conv=>whnf)
 ·refine op_callV [.pass] rfl rfl rfl (end_ok a) rfl ?_
  (conv=>whnf)<;>repeat' first|(refine cond_t ?_;conv=>whnf)|(refine cond_f ?_;conv=>whnf)
  rw [endw ho]
  exact ⟨rfl, rfl⟩
 ·exact ⟨rfl, rfl⟩
set_option maxHeartbeats 1000000 in
theorem indexArea_ok (b : Bool) (l : List Area) (page : Int) (hl : l.length ≤ 4611686018427387904) (ho : ∀ a, a ∈ l → areaOk a = true) :
  CallB Try.prog 96 [.one (.ro b 4 (l.map rA)), .one (.fn 97 [(0, 0, 0)])] [dI page] (.v (.one (dI (areaAt l page)))) [dI page] := by
 refine callX_of hmix Try.func96 ok96 ?_
 (conv=>whnf)<;>repeat' first|(refine cond_t ?_;conv=>whnf)|(refine cond_f ?_;conv=>whnf)
 refine loop_at (fun i : Nat => [(0, .v (.one (.ro b 4 (l.map rA)))), (1, .v (.one (.fn 97 [(0, 0, 0)]))), (7, .v (.one (dI (l.map rA).length))), (8, .v (.one (dI i)))]) (fun _ => [(0, .box [dI page])]) (fun _ => 1)
  (fun i => i ≤ l.length ∧ areaAt l page = atFrom page (l.drop i) i) (fun i => l.length - i) 0 ⟨by omega, rfl⟩ rfl rfl rfl fun i hi => ?_
 obtain ⟨hi1, hi2⟩ := hi
 (conv=>whnf)<;>repeat' first|(refine cond_t ?_;conv=>whnf)|(refine cond_f ?_;conv=>whnf)
 refine CondP.mk (fun h => ?_) (fun h => ?_) <;> (conv=>whnf)<;>repeat' first|(refine cond_t ?_;conv=>whnf)|(refine cond_f ?_;conv=>whnf)
 ·have hlt : i < l.length := by simpa using h
  refine op_idx_ro (k := i) rfl rfl (by simpa using hlt) ?_
  (conv=>whnf)<;>repeat' first|(refine cond_t ?_;conv=>whnf)|(refine cond_f ?_;conv=>whnf)
  refine op_load_rp rfl (r := .agg (aA l[i])) (ldA hlt) ?_
  (conv=>whnf)<;>repeat' first|(refine cond_t ?_;conv=>whnf)|(refine cond_f ?_;conv=>whnf)
  refine op_callvD [.pass, .pass] [0] rfl rfl rfl rfl rfl (atFn_ok l[i] page (okAt ho hlt)) fun res H3 hp => ?_
  obtain ⟨rfl, rfl⟩ := hp
  refine ⟨rfl, rfl, _, rfl, ?_⟩
  (conv=>whnf)<;>repeat' first|(refine cond_t ?_;conv=>whnf)|(refine cond_f ?_;conv=>whnf)
  refine CondP.mk (fun h1 => ?_) (fun h1 => ?_) <;> (conv=>whnf)<;>repeat' first|(refine cond_t ?_;conv=>whnf)|(refine cond_f ?_;conv=>whnf)
  ·refine ⟨?_, rfl⟩
   have : l[i].fr ≤ page ∧ page < l[i].fr + l[i].mn := by simpa using h1
   rw [hi2, atFrom_step hlt, if_pos this]; rfl
  ·refine ⟨i + 1, by omega, ⟨by omega, ?_⟩, ?_, rfl, rfl⟩
   ·have : ¬ (l[i].fr ≤ page ∧ page < l[i].fr + l[i].mn) := by
     intro ⟨k1, k2⟩
     simp [k1, k2] at h1
    rw [hi2, atFrom_step hlt, if_neg this]
   ·rw [← up hlt hl]; rfl
 ·refine ⟨?_, rfl⟩
  have : i = l.length := by
               have : ¬ i < l.length := by simpa using h
               omega
  subst this
  rw [hi2, List.drop_length]; rfl
theorem areasAt_ok (b : Bool) (l : List Area) (page : Int) (hl : l.length ≤ 4611686018427387904) : CallV Try.prog 40 [.one (.ro b 4 (l.map rA)), .one (dI page)] (.v (.one (dI (areasAt l page)))) := by
 refine callX_of hmix Try.func40 ok40 ?_
 (conv=>whnf)<;>repeat' first|(refine cond_t ?_;conv=>whnf)|(refine cond_f ?_;conv=>whnf)
 refine op_callV [.pass] rfl rfl rfl (areasOk_ok b l hl) rfl ?_
 (conv=>whnf)<;>repeat' first|(refine cond_t ?_;conv=>whnf)|(refine cond_f ?_;conv=>whnf)
 refine CondP.mk (fun h => ?_) (fun h => ?_) <;> (conv=>whnf)<;>repeat' first|(refine cond_t ?_;conv=>whnf)|(refine cond_f ?_;conv=>whnf)
 ·refine ⟨?_, rfl⟩
  have : areasOk l = false := by simpa using h
  rw [areasAt, this]; rfl
 ·have h : areasOk l = true := by simpa using h
  refine op_mkf rfl rfl ?_
  (conv=>whnf)<;>repeat' first|(refine cond_t ?_;conv=>whnf)|(refine cond_f ?_;conv=>whnf)
  refine op_callD [.pass, .pass] [0] rfl rfl rfl rfl (indexArea_ok b l page hl (areasOk_all h)) fun res H3 hp => ?_
  obtain ⟨rfl, rfl⟩ := hp
  refine ⟨rfl, rfl, _, rfl, ?_⟩
  (conv=>whnf)<;>repeat' first|(refine cond_t ?_;conv=>whnf)|(refine cond_f ?_;conv=>whnf)
  refine ⟨?_, rfl⟩
  rw [areasAt, h]; rfl
end Go.Qm
namespace Go.Qm
open Go.Cq Go.Cq.D Go.RowKit Go.Proofs
set_option maxRecDepth 10000
set_option maxHeartbeats 2000000 in
theorem lareasOk_ok (b : Bool) (l : List Area) (hl : l.length ≤ 4611686018427387904) : CallV Try.prog 148 [.one (.ro b 4 (l.map rA))] (.v (.one (dB (areasOk l)))) := by
 refine callX_of hmix Try.func148 ok148 ?_
 (conv=>whnf)<;>repeat' first|(refine cond_t ?_;conv=>whnf)|(refine cond_f ?_;conv=>whnf)
 refine loop_at (fun i : Nat => [(0, .v (.one (.ro b 4 (l.map rA)))), (3, .v (.one (dI i)))]) (fun _ => []) (fun _ => 0)
  (fun i => i ≤ l.length ∧ areasOk l = (areasAfter l i && decide (l.length ≤ 6)) ∧ ∀ j (hj : j < l.length), j < i → areaOk l[j] = true) (fun i => l.length - i) 0 ⟨by omega, rfl, by omega⟩ rfl rfl rfl fun i hi => ?_
 obtain ⟨hi1, hi2, hi3⟩ := hi
 (conv=>whnf)<;>repeat' first|(refine cond_t ?_;conv=>whnf)|(refine cond_f ?_;conv=>whnf)
 refine CondP.mk (fun h => ?_) (fun h => ?_) <;> (conv=>whnf)<;>repeat' first|(refine cond_t ?_;conv=>whnf)|(refine cond_f ?_;conv=>whnf)
 ·have hlt : i < l.length := by simpa using h
  refine op_idx_ro (k := i) rfl rfl (by simpa using hlt) ?_
  (conv=>whnf)<;>repeat' first|(refine cond_t ?_;conv=>whnf)|(refine cond_f ?_;conv=>whnf)
  refine op_load_rp rfl (r := .agg (aA l[i])) (ldA hlt) ?_
  (conv=>whnf)<;>repeat' first|(refine cond_t ?_;conv=>whnf)|(refine cond_f ?_;conv=>whnf)
  refine op_callV [.pass] rfl rfl rfl (lareaOk_ok l[i]) rfl ?_
  (conv=>whnf)<;>repeat' first|(refine cond_t ?_;conv=>whnf)|(refine cond_f ?_;conv=>whnf)
  have fin : areaOk l[i] = false → DT.v (DV.one (DC.sc (.bool false))) = .v (.one (dB (areasOk l))) := fun e => by
   rw [hi2, areasAfter_step hlt, e]; rfl
  refine CondP.mk (fun h1 => ?_) (fun h1 => ?_) <;> rw [h1] <;> (conv=>whnf)<;>repeat' first|(refine cond_t ?_;conv=>whnf)|(refine cond_f ?_;conv=>whnf)
  ·exact ⟨fin (by simpa using h1), rfl⟩
  ·have ho : areaOk l[i] = true := by simpa using h1
   have hstep : decide (0 < (i : Int)) = false ∨ prevOk l i l[i] = true → areasOk l = (areasAfter l (i + 1) && decide (l.length ≤ 6)) := fun e => by
    rw [hi2, areasAfter_step hlt, ho]
    rcases e with e | e
    ·have : i = 0 := by simp at e; omega
     simp [this]
    ·rw [e]; simp
   have hall : ∀ j (hj : j < l.length), j < i + 1 → areaOk l[j] = true := fun j hj h2 => by
    by_cases e : j = i
    ·subst e; exact ho
    ·exact hi3 j hj (by omega)
   refine CondP.mk (fun h2 => ?_) (fun h2 => ?_) <;> rw [h2] <;> (conv=>whnf)<;>repeat' first|(refine cond_t ?_;conv=>whnf)|(refine cond_f ?_;conv=>whnf)
   ·have hi0 : i ≠ 0 := by simp at h2; omega
    have hlt' : i - 1 < l.length := by omega
    refine op_idx_ro (k := i - 1) rfl (ix hlt hl hi0) (by simpa using hlt') ?_
    (conv=>whnf)<;>repeat' first|(refine cond_t ?_;conv=>whnf)|(refine cond_f ?_;conv=>whnf)
    refine op_load_rp rfl (r := .one (dI l[i - 1].fr)) (by simp [loadRp, rA, hlt', eI, dI]) ?_
    (conv=>whnf)<;>repeat' first|(refine cond_t ?_;conv=>whnf)|(refine cond_f ?_;conv=>whnf)
    refine op_idx_ro (k := i - 1) rfl (ix hlt hl hi0) (by simpa using hlt') ?_
    (conv=>whnf)<;>repeat' first|(refine cond_t ?_;conv=>whnf)|(refine cond_f ?_;conv=>whnf)
    refine op_load_rp rfl (r := .one (dI l[i - 1].mn)) (by simp [loadRp, rA, hlt', eI, dI]) ?_
    (conv=>whnf)<;>repeat' first|(refine cond_t ?_;conv=>whnf)|(refine cond_f ?_;conv=>whnf)
    refine op_idx_ro (k := i) rfl rfl (by simpa using hlt) ?_
    (conv=>whnf)<;>repeat' first|(refine cond_t ?_;conv=>whnf)|(refine cond_f ?_;conv=>whnf)
    refine op_load_rp rfl (r := .one (dI l[i].fr)) (by simp [loadRp, rA, hlt, eI, dI]) ?_
    (conv=>whnf)<;>repeat' first|(refine cond_t ?_;conv=>whnf)|(refine cond_f ?_;conv=>whnf)
    have he := endw (hi3 (i - 1) hlt' (by omega))
    rw [he]
    refine CondP.mk (fun h3 => ?_) (fun h3 => ?_) <;> (conv=>whnf)<;>repeat' first|(refine cond_t ?_;conv=>whnf)|(refine cond_f ?_;conv=>whnf)
    ·refine ⟨?_, rfl⟩
     rw [hi2, areasAfter_step hlt, ho, prevOk, List.getElem?_eq_getElem hlt']
     have : ¬ l[i - 1].fr + l[i - 1].mn ≤ l[i].fr := by simpa using h3
     simp [this, hi0, dB]
    ·refine ⟨i + 1, by omega, ⟨by omega, hstep (.inr ?_), hall⟩, ?_, rfl, rfl⟩
     ·rw [prevOk, List.getElem?_eq_getElem hlt']; simpa using h3
     ·rw [← up hlt hl]; rfl
   ·refine ⟨i + 1, by omega, ⟨by omega, hstep (.inl h2), hall⟩, ?_, rfl, rfl⟩
    rw [← up hlt hl]; rfl
 ·refine ⟨?_, rfl⟩
  have : i = l.length := by
               have : ¬ i < l.length := by simpa using h
               omega
  subst this
  rw [hi2, areasAfter, List.drop_length]
  simp [areasFrom, dB]
  omega
theorem shared_ok (b1 b2 : Bool) (s : Space) (page : Int) (hl : s.ar.length ≤ 4611686018427387904)  : CallV Try.prog 85 [.agg [dB s.lv, .ro b1 4 (s.ar.map rA), .ro b2 4 (s.sl.map rL)], .one (dI page)] (.v (.one (dB (shOf s.ar (areasAt s.ar page))))) := by
 refine callX_of hmix Try.func85 ok85 ?_
 (conv=>whnf)<;>repeat' first|(refine cond_t ?_;conv=>whnf)|(refine cond_f ?_;conv=>whnf)
 refine op_callV [.pass, .pass] rfl rfl rfl (areasAt_ok b1 s.ar page hl) rfl ?_
 (conv=>whnf)<;>repeat' first|(refine cond_t ?_;conv=>whnf)|(refine cond_f ?_;conv=>whnf)
 refine CondP.mk (fun h => ?_) (fun h => ?_) <;> rw [h] <;> (conv=>whnf)<;>repeat' first|(refine cond_t ?_;conv=>whnf)|(refine cond_f ?_;conv=>whnf)
 ·have h0 : 0 ≤ areasAt s.ar page := by simpa using h
  have hlt : (areasAt s.ar page).toNat < s.ar.length := by
   have e : areasAt s.ar page = areaAt s.ar page := by
    by_cases e : areasOk s.ar = true
    ·rw [areasAt, if_pos e]
    ·rw [areasAt, if_neg e] at h0; exact absurd h0 (by decide)
   rw [e] at h0 ⊢; exact areaAt_lt h0
  refine op_idx_ro (k := (areasAt s.ar page).toNat) rfl (by show some (areasAt s.ar page) = _; congr 1; omega) (by simpa using hlt) ?_
  (conv=>whnf)<;>repeat' first|(refine cond_t ?_;conv=>whnf)|(refine cond_f ?_;conv=>whnf)
  refine op_load_rp rfl (r := .one (dB s.ar[(areasAt s.ar page).toNat].sh)) (by simp [loadRp, rA, hlt, eB, dB]) ?_
  (conv=>whnf)<;>repeat' first|(refine cond_t ?_;conv=>whnf)|(refine cond_f ?_;conv=>whnf)
  refine ⟨?_, rfl⟩
  simp [shOf, h0, hlt, dB]
 ·refine ⟨?_, rfl⟩
  have h0 : ¬ 0 ≤ areasAt s.ar page := by simpa using h
  simp [shOf, h0, dB]
theorem lshared_ok (b1 b2 : Bool) (s : Space) (page : Int) (hl : s.ar.length ≤ 4611686018427387904) (ho : ∀ a, a ∈ s.ar → areaOk a = true) : CallV Try.prog 149 [.agg [dB s.lv, .ro b1 4 (s.ar.map rA), .ro b2 4 (s.sl.map rL)], .one (dI page)] (.v (.one (dB (shOf s.ar (areaAt s.ar page))))) := by
 refine callX_of hmix Try.func149 ok149 ?_
 (conv=>whnf)<;>repeat' first|(refine cond_t ?_;conv=>whnf)|(refine cond_f ?_;conv=>whnf)
 refine op_callV [.pass, .pass] rfl rfl rfl (l2At_ok b1 s.ar page hl ho) rfl ?_
 (conv=>whnf)<;>repeat' first|(refine cond_t ?_;conv=>whnf)|(refine cond_f ?_;conv=>whnf)
 refine CondP.mk (fun h => ?_) (fun h => ?_) <;> rw [h] <;> (conv=>whnf)<;>repeat' first|(refine cond_t ?_;conv=>whnf)|(refine cond_f ?_;conv=>whnf)
 ·have h0 : 0 ≤ areaAt s.ar page := by simpa using h
  have hlt : (areaAt s.ar page).toNat < s.ar.length := by exact areaAt_lt h0
  refine op_idx_ro (k := (areaAt s.ar page).toNat) rfl (by show some (areaAt s.ar page) = _; congr 1; omega) (by simpa using hlt) ?_
  (conv=>whnf)<;>repeat' first|(refine cond_t ?_;conv=>whnf)|(refine cond_f ?_;conv=>whnf)
  refine op_load_rp rfl (r := .one (dB s.ar[(areaAt s.ar page).toNat].sh)) (by simp [loadRp, rA, hlt, eB, dB]) ?_
  (conv=>whnf)<;>repeat' first|(refine cond_t ?_;conv=>whnf)|(refine cond_f ?_;conv=>whnf)
  refine ⟨?_, rfl⟩
  simp [shOf, h0, hlt, dB]
 ·refine ⟨?_, rfl⟩
  have h0 : ¬ 0 ≤ areaAt s.ar page := by simpa using h
  simp [shOf, h0, dB]
theorem live_ok (b1 b2 b3 b4 b5 : Bool) (m : Mem) (k : Int) (hl : m.sp.length ≤ 4611686018427387904) : CallV Try.prog 63 [.agg [.ro b1 1 (m.ram.tx.map rS), .ro b2 1 (m.ram.rf.map rI), .ro b3 1 (m.swp.tx.map rS), .ro b4 1 (m.swp.rf.map rI), .ro b5 3 (m.sp.map rP), dI m.hd], .one (dI k)] (.v (.one (dB (liveOf m.sp k)))) := by
 refine callX_of hmix Try.func63 ok63 ?_
 (conv=>whnf)<;>repeat' first|(refine cond_t ?_;conv=>whnf)|(refine cond_f ?_;conv=>whnf)
 refine op_callV [.pass, .pass, .pass] rfl rfl rfl (in_ok _ _ _) rfl ?_
 (conv=>whnf)<;>repeat' first|(refine cond_t ?_;conv=>whnf)|(refine cond_f ?_;conv=>whnf)
 have hw : IntKind.wrap .i64 ((m.sp.map rP).length - 1) = m.sp.length - 1 := by
  rw [List.length_map]; exact wrap64 (by omega) (by omega)
 refine CondP.mk (fun h => ?_) (fun h => ?_) <;> rw [h] <;> (conv=>whnf)<;>repeat' first|(refine cond_t ?_;conv=>whnf)|(refine cond_f ?_;conv=>whnf)
 ·have h' := h
  rw [show IntKind.wrap .i64 _ = _ from hw] at h'
  have hk := h'
  simp only [inB, Bool.and_eq_true, decide_eq_true_eq] at hk
  have hlt : k.toNat < m.sp.length := by omega
  refine op_idx_ro (k := k.toNat) rfl (by show some k = _; congr 1; omega) (by simpa using hlt) ?_
  (conv=>whnf)<;>repeat' first|(refine cond_t ?_;conv=>whnf)|(refine cond_f ?_;conv=>whnf)
  refine op_load_rp rfl (r := .one (dB m.sp[k.toNat].lv)) (by simp [loadRp, rP, hlt, eB, dB]) ?_
  (conv=>whnf)<;>repeat' first|(refine cond_t ?_;conv=>whnf)|(refine cond_f ?_;conv=>whnf)
  refine ⟨?_, rfl⟩
  simp [liveOf, h', hlt, dB]
 ·rw [show IntKind.wrap .i64 _ = _ from hw] at h
  refine ⟨?_, rfl⟩
  rw [liveOf, h]; rfl
theorem llive_ok (b1 b2 b3 b4 b5 : Bool) (m : Mem) (k : Int) (hl : m.sp.length ≤ 4611686018427387904) : CallV Try.prog 58 [.agg [.ro b1 1 (m.ram.tx.map rS), .ro b2 1 (m.ram.rf.map rI), .ro b3 1 (m.swp.tx.map rS), .ro b4 1 (m.swp.rf.map rI), .ro b5 3 (m.sp.map rP), dI m.hd], .one (dI k)] (.v (.one (dB (liveOf m.sp k)))) := by
 refine callX_of hmix Try.func58 ok58 ?_
 (conv=>whnf)<;>repeat' first|(refine cond_t ?_;conv=>whnf)|(refine cond_f ?_;conv=>whnf)
 refine op_callV [.pass, .pass, .pass] rfl rfl rfl (lin_ok _ _ _) rfl ?_
 (conv=>whnf)<;>repeat' first|(refine cond_t ?_;conv=>whnf)|(refine cond_f ?_;conv=>whnf)
 have hw : IntKind.wrap .i64 ((m.sp.map rP).length - 1) = m.sp.length - 1 := by
  rw [List.length_map]; exact wrap64 (by omega) (by omega)
 refine CondP.mk (fun h => ?_) (fun h => ?_) <;> rw [h] <;> (conv=>whnf)<;>repeat' first|(refine cond_t ?_;conv=>whnf)|(refine cond_f ?_;conv=>whnf)
 ·have h' := h
  rw [show IntKind.wrap .i64 _ = _ from hw] at h'
  have hk := h'
  simp only [inB, Bool.and_eq_true, decide_eq_true_eq] at hk
  have hlt : k.toNat < m.sp.length := by omega
  refine op_idx_ro (k := k.toNat) rfl (by show some k = _; congr 1; omega) (by simpa using hlt) ?_
  (conv=>whnf)<;>repeat' first|(refine cond_t ?_;conv=>whnf)|(refine cond_f ?_;conv=>whnf)
  refine op_load_rp rfl (r := .one (dB m.sp[k.toNat].lv)) (by simp [loadRp, rP, hlt, eB, dB]) ?_
  (conv=>whnf)<;>repeat' first|(refine cond_t ?_;conv=>whnf)|(refine cond_f ?_;conv=>whnf)
  refine ⟨?_, rfl⟩
  simp [liveOf, h', hlt, dB]
 ·rw [show IntKind.wrap .i64 _ = _ from hw] at h
  refine ⟨?_, rfl⟩
  rw [liveOf, h]; rfl
end Go.Qm
namespace Go.Qm
open Go.Cq Go.Cq.D Go.RowKit Go.Proofs
set_option maxRecDepth 10000
set_option maxHeartbeats 1000000 in
theorem lpagesOk_ok (b1 b2 : Bool) (p : Pages) (h1 : p.tx.length ≤ 4611686018427387904) (h2 : p.rf.length ≤ 4611686018427387904) : CallV Try.prog 86 [.agg [.ro b1 1 (p.tx.map rS), .ro b2 1 (p.rf.map rI)]] (.v (.one (dB (pagesOk p)))) := by
 refine callX_of hmix Try.func86 ok86 ?_
 (conv=>whnf)<;>repeat' first|(refine cond_t ?_;conv=>whnf)|(refine cond_f ?_;conv=>whnf)
 refine CondP.mk (fun h => ?_) (fun h => ?_) <;> rw [h] <;> (conv=>whnf)<;>repeat' first|(refine cond_t ?_;conv=>whnf)|(refine cond_f ?_;conv=>whnf)
 ·refine ⟨?_, rfl⟩
  have : ¬ p.tx.length = p.rf.length := by simp at h; omega
  simp [pagesOk, this, dB]
 ·have hl : p.tx.length = p.rf.length := by simp at h; omega
  refine op_callV [.pass, .pass, .pass] rfl rfl rfl (lin_ok _ _ _) rfl ?_
  (conv=>whnf)<;>repeat' first|(refine cond_t ?_;conv=>whnf)|(refine cond_f ?_;conv=>whnf)
  refine CondP.mk (fun h => ?_) (fun h => ?_) <;> (conv=>whnf)<;>repeat' first|(refine cond_t ?_;conv=>whnf)|(refine cond_f ?_;conv=>whnf)
  ·refine ⟨?_, rfl⟩
   have h : inB p.tx.length 1 12 = false := by simpa using h
   simp [pagesOk, h, dB]
  ·have hb : inB p.tx.length 1 12 = true := by simpa using h
   refine loop_at (fun i : Nat => [(1, .v (.one (.ptr 0 0 0))), (3, .v (.one (dI i)))]) (fun _ => [(0, .box [.ro b1 1 (p.tx.map rS), .ro b2 1 (p.rf.map rI)])]) (fun _ => 1)
    (fun i => i ≤ p.rf.length ∧ pagesOk p = pagesGo (p.tx.drop i) (p.rf.drop i)) (fun i => p.rf.length - i) 0 ⟨by omega, by simp [pagesOk, hl, hl ▸ hb]⟩ rfl rfl rfl fun i hi => ?_
   (conv=>whnf)<;>repeat' first|(refine cond_t ?_;conv=>whnf)|(refine cond_f ?_;conv=>whnf)
   refine CondP.mk (fun h => ?_) (fun h => ?_) <;> (conv=>whnf)<;>repeat' first|(refine cond_t ?_;conv=>whnf)|(refine cond_f ?_;conv=>whnf)
   ·have hi1 : i < p.tx.length := by simpa using h
    have hi2 : i < p.rf.length := by omega
    refine op_idx_ro (k := i) rfl rfl (by simpa using hi2) ?_
    (conv=>whnf)<;>repeat' first|(refine cond_t ?_;conv=>whnf)|(refine cond_f ?_;conv=>whnf)
    refine op_load_rp rfl (r := .one (dI p.rf[i])) (by simp [loadRp, rI, hi2, eI, dI]) ?_
    (conv=>whnf)<;>repeat' first|(refine cond_t ?_;conv=>whnf)|(refine cond_f ?_;conv=>whnf)
    refine CondP.mk (fun h0 => ?_) (fun h0 => ?_) <;> (conv=>whnf)<;>repeat' first|(refine cond_t ?_;conv=>whnf)|(refine cond_f ?_;conv=>whnf)
    all_goals
     refine op_idx_ro (k := i) rfl rfl (by simpa using hi2) ?_
     (conv=>whnf)<;>repeat' first|(refine cond_t ?_;conv=>whnf)|(refine cond_f ?_;conv=>whnf)
     refine op_load_rp rfl (r := .one (dI p.rf[i])) (by simp [loadRp, rI, hi2, eI, dI]) ?_
     (conv=>whnf)<;>repeat' first|(refine cond_t ?_;conv=>whnf)|(refine cond_f ?_;conv=>whnf)
     refine op_callV [.pass, .pass, .pass] rfl rfl rfl (lin_ok _ _ _) rfl ?_
     (conv=>whnf)<;>repeat' first|(refine cond_t ?_;conv=>whnf)|(refine cond_f ?_;conv=>whnf)
     refine CondP.mk (fun h9 => ?_) (fun h9 => ?_) <;> rw [h9] <;> (conv=>whnf)<;>repeat' first|(refine cond_t ?_;conv=>whnf)|(refine cond_f ?_;conv=>whnf)
    ·refine ⟨?_, rfl⟩
     have h9 : inB p.rf[i] 0 99 = false := by simpa using h9
     rw [hi.2, pagesGo_step hi1 hi2, pageOk, h9]; rfl
    ·have h9 : inB p.rf[i] 0 99 = true := by simpa using h9
     refine op_idx_ro (k := i) rfl rfl (by simpa using hi1) ?_
     (conv=>whnf)<;>repeat' first|(refine cond_t ?_;conv=>whnf)|(refine cond_f ?_;conv=>whnf)
     refine op_load_rp rfl (r := .one (.sc (.str p.tx[i]))) (by simp [loadRp, rS, hi1, eS]) ?_
     (conv=>whnf)<;>repeat' first|(refine cond_t ?_;conv=>whnf)|(refine cond_f ?_;conv=>whnf)
     refine CondP.mk (fun h8 => ?_) (fun h8 => ?_) <;> (conv=>whnf)<;>repeat' first|(refine cond_t ?_;conv=>whnf)|(refine cond_f ?_;conv=>whnf)
     ·refine ⟨?_, rfl⟩
      rw [hi.2, pagesGo_step hi1 hi2, pageOk, h9]
      simp at h0 h8
      simp [h0, h8, dB]
     ·refine ⟨i + 1, by omega, ⟨by omega, ?_⟩, ?_, rfl, rfl⟩
      ·rw [hi.2, pagesGo_step hi1 hi2, pageOk, h9]
       simp at h0 h8
       simp [h0, h8]
      ·rw [← up hi2 h2]; rfl
    ·refine ⟨?_, rfl⟩
     have h9 : inB p.rf[i] 0 99 = false := by simpa using h9
     rw [hi.2, pagesGo_step hi1 hi2, pageOk, h9]; rfl
    ·have h9 : inB p.rf[i] 0 99 = true := by simpa using h9
     refine op_idx_ro (k := i) rfl rfl (by simpa using hi1) ?_
     (conv=>whnf)<;>repeat' first|(refine cond_t ?_;conv=>whnf)|(refine cond_f ?_;conv=>whnf)
     refine op_load_rp rfl (r := .one (.sc (.str p.tx[i]))) (by simp [loadRp, rS, hi1, eS]) ?_
     (conv=>whnf)<;>repeat' first|(refine cond_t ?_;conv=>whnf)|(refine cond_f ?_;conv=>whnf)
     refine CondP.mk (fun h8 => ?_) (fun h8 => ?_) <;> (conv=>whnf)<;>repeat' first|(refine cond_t ?_;conv=>whnf)|(refine cond_f ?_;conv=>whnf)
     ·refine ⟨?_, rfl⟩
      rw [hi.2, pagesGo_step hi1 hi2, pageOk, h9]
      simp at h0 h8
      simp [h0, h8, dB]
     ·refine ⟨i + 1, by omega, ⟨by omega, ?_⟩, ?_, rfl, rfl⟩
      ·rw [hi.2, pagesGo_step hi1 hi2, pageOk, h9]
       simp at h0 h8
       simp [h0, h8]
      ·rw [← up hi2 h2]; rfl
   ·refine ⟨?_, rfl⟩
    have : i = p.tx.length := by
                   have : ¬ i < p.tx.length := by simpa using h
                   omega
    subst this
    have := hi.2
    rw [List.drop_eq_nil_of_le (by omega), pagesGo] at this
    rw [this]; rfl
    all_goals simp
end Go.Qm
namespace Go.Qm
open Go.Cq Go.Cq.D Go.RowKit Go.Proofs
set_option maxRecDepth 10000
theorem fin_f {b : Bool} (h : b = false) : DT.v (DV.one (DC.sc (.bool false))) = .v (.one (dB b)) ∧ ([] : DH) = [] := by rw [h]; exact ⟨rfl, rfl⟩
theorem fin_t {b : Bool} (h : b = true) : DT.v (DV.one (DC.sc (.bool true))) = .v (.one (dB b)) ∧ ([] : DH) = [] := by rw [h]; exact ⟨rfl, rfl⟩
theorem op_eqA {P : Prg} {ts : DTs} {H : DH} {n : Nat} {K : DT → DTs → DH → Nat → List Nat → Prop} {neg : Bool} {ks : List LK} {x y : Opd} {xs ys : List DC} {cs ds : List CV} {b : Bool} (h1 : evD ts x = some (.agg xs)) (h2 : evD ts y = some (.agg ys)) (h3 : scCells xs = some cs) (h4 : scCells ys = some ds) (h5 : cellsEq ks cs ds = some b) (h : K (.v (.one (.sc (.bool (if neg then !b else b))))) ts H n []) : OpP P (.eqA neg ks x y) ts H n K :=
 ⟨⟨xs, ys, cs, ds, b, h1, h2, h3, h4, h5, h⟩⟩
set_option maxHeartbeats 1000000 in
theorem l3Space_ok (b1 b2 : Bool) (s : Space) (h1 : s.ar.length ≤ 4611686018427387904) (h2 : s.sl.length ≤ 4611686018427387904) : CallV Try.prog 88 [.agg [dB s.lv, .ro b1 4 (s.ar.map rA), .ro b2 4 (s.sl.map rL)]] (.v (.one (dB (spaceOk s)))) := by
 refine callX_of hmix Try.func88 ok88 ?_
 (conv=>whnf)<;>repeat' first|(refine cond_t ?_;conv=>whnf)|(refine cond_f ?_;conv=>whnf)
 refine CondP.mk (fun h => ?_) (fun h => ?_) <;> (conv=>whnf)<;>repeat' first|(refine cond_t ?_;conv=>whnf)|(refine cond_f ?_;conv=>whnf)
 ·have h : s.lv = false := by simpa using h
  refine CondP.mk (fun h3 => ?_) (fun h3 => ?_) <;> rw [h3] <;> (conv=>whnf)<;>repeat' first|(refine cond_t ?_;conv=>whnf)|(refine cond_f ?_;conv=>whnf)
  ·refine ⟨?_, rfl⟩
   simp at h3
   simp [spaceOk, h, h3, dB]
  ·refine fin_f ?_
   simp at h3
   simp [spaceOk, h, h3]
 have hv : s.lv = true := by simpa using h
 refine op_callV [.pass] rfl rfl rfl (lareasOk_ok b1 s.ar h1) rfl ?_
 (conv=>whnf)<;>repeat' first|(refine cond_t ?_;conv=>whnf)|(refine cond_f ?_;conv=>whnf)
 refine CondP.mk (fun h => ?_) (fun h => ?_) <;> rw [h] <;> (conv=>whnf)<;>repeat' first|(refine cond_t ?_;conv=>whnf)|(refine cond_f ?_;conv=>whnf)
 ·refine fin_f ?_
  have h : areasOk s.ar = false := by simpa using h
  simp [spaceOk, hv, h]
 have ho : areasOk s.ar = true := by simpa using h
 refine CondP.mk (fun h => ?_) (fun h => ?_) <;> (conv=>whnf)<;>repeat' first|(refine cond_t ?_;conv=>whnf)|(refine cond_f ?_;conv=>whnf)
 ·refine fin_f ?_
  have h : ¬ s.sl.length = 16 := by simp at h; omega
  simp [spaceOk, hv, ho, h]
 have hl : s.sl.length = 16 := by simp at h; omega
 refine loop_at (fun i : Nat => [(1, .v (.one (.ptr 0 0 0))), (3, .v (.one (dI i)))]) (fun _ => [(0, .box [dB s.lv, .ro b1 4 (s.ar.map rA), .ro b2 4 (s.sl.map rL)])]) (fun _ => 1)
  (fun i => i ≤ s.sl.length ∧ spaceOk s = slotsFrom s.ar i (s.sl.drop i)) (fun i => s.sl.length - i) 0 ⟨by omega, by simp [spaceOk, hv, ho, hl]⟩ rfl rfl rfl fun i hi => ?_
 obtain ⟨hi1, hi2⟩ := hi
 (conv=>whnf)<;>repeat' first|(refine cond_t ?_;conv=>whnf)|(refine cond_f ?_;conv=>whnf)
 refine CondP.mk (fun h => ?_) (fun h => ?_) <;> (conv=>whnf)<;>repeat' first|(refine cond_t ?_;conv=>whnf)|(refine cond_f ?_;conv=>whnf)
 ·have hlt : i < s.sl.length := by simp at h; omega
  have no : slotOk s.ar i s.sl[i] = false → spaceOk s = false := fun e => by rw [hi2, slotsFrom_step hlt, e]; rfl
  refine op_idx_ro (k := i) rfl rfl (by simpa using hlt) ?_
  (conv=>whnf)<;>repeat' first|(refine cond_t ?_;conv=>whnf)|(refine cond_f ?_;conv=>whnf)
  refine op_load_rp rfl (ldL hlt) ?_
  (conv=>whnf)<;>repeat' first|(refine cond_t ?_;conv=>whnf)|(refine cond_f ?_;conv=>whnf)
  refine op_callV [.pass, .pass] rfl rfl rfl (l2At_ok b1 s.ar i h1 (areasOk_all ho)) rfl ?_
  (conv=>whnf)<;>repeat' first|(refine cond_t ?_;conv=>whnf)|(refine cond_f ?_;conv=>whnf)
  have yes : slotOk s.ar i s.sl[i] = true → spaceOk s = slotsFrom s.ar (i + 1) (s.sl.drop (i + 1)) := fun e => by rw [hi2, slotsFrom_step hlt, e]; rfl
  refine CondP.mk (fun h3 => ?_) (fun h3 => ?_) <;> rw [h3] <;> (conv=>whnf)<;>repeat' first|(refine cond_t ?_;conv=>whnf)|(refine cond_f ?_;conv=>whnf)
  ·have h3 : s.sl[i].kd = 0 := by simpa using h3
   refine op_eqA rfl rfl rfl rfl rfl ?_
   (conv=>whnf)<;>repeat' first|(refine cond_t ?_;conv=>whnf)|(refine cond_f ?_;conv=>whnf)
   have e : (s.sl[i].kd == 0 && (s.sl[i].pl == 0 && (s.sl[i].ow == false && (s.sl[i].us == false && true)))) = slotOk s.ar i s.sl[i] := by
    rw [slotOk, if_pos h3]
    rcases s.sl[i] with ⟨k, p, o, u⟩
    rw [Bool.eq_iff_iff]
    simp [slot0]
   refine CondP.mk (fun h4 => ?_) (fun h4 => ?_) <;> (conv=>whnf)<;>repeat' first|(refine cond_t ?_;conv=>whnf)|(refine cond_f ?_;conv=>whnf)
   ·refine fin_f (no ?_)
    rw [e] at h4; simpa using h4
   ·refine ⟨i + 1, by omega, ⟨by omega, yes ?_⟩, ?_, rfl, rfl⟩
    ·rw [e] at h4; simpa using h4
    ·rw [up hlt h2]; rfl
  ·have h3 : ¬ s.sl[i].kd = 0 := by simpa using h3
   refine CondP.mk (fun h4 => ?_) (fun h4 => ?_) <;> rw [h4] <;> (conv=>whnf)<;>repeat' first|(refine cond_t ?_;conv=>whnf)|(refine cond_f ?_;conv=>whnf)
   ·refine fin_f (no ?_)
    have h4 : areaAt s.ar i < 0 := by simpa using h4
    rw [slotOk, if_neg h3, decide_eq_false (by omega)]; rfl
   have h4 : 0 ≤ areaAt s.ar i := by simpa using h4
   refine op_callV [.pass, .pass, .pass] rfl rfl rfl (lin_ok _ _ _) rfl ?_
   (conv=>whnf)<;>repeat' first|(refine cond_t ?_;conv=>whnf)|(refine cond_f ?_;conv=>whnf)
   refine CondP.mk (fun h5 => ?_) (fun h5 => ?_) <;> (conv=>whnf)<;>repeat' first|(refine cond_t ?_;conv=>whnf)|(refine cond_f ?_;conv=>whnf)
   ·refine fin_f (no ?_)
    have h5 : inB s.sl[i].kd 1 2 = false := by simpa using h5
    rw [slotOk, if_neg h3, h5]; simp
   have h5 : inB s.sl[i].kd 1 2 = true := by simpa using h5
   have hat : (areaAt s.ar i).toNat < s.ar.length := areaAt_lt h4
   refine op_idx_ro (k := (areaAt s.ar i).toNat) rfl (by show some (areaAt s.ar i) = _; congr 1; omega) (by simpa using hat) ?_
   (conv=>whnf)<;>repeat' first|(refine cond_t ?_;conv=>whnf)|(refine cond_f ?_;conv=>whnf)
   refine op_load_rp rfl (r := .one (dB s.ar[(areaAt s.ar i).toNat].sh)) (by simp [loadRp, rA, hat, eB, dB]) ?_
   (conv=>whnf)<;>repeat' first|(refine cond_t ?_;conv=>whnf)|(refine cond_f ?_;conv=>whnf)
   have e : slotOk s.ar i s.sl[i] = !(s.ar[(areaAt s.ar i).toNat].sh && !s.sl[i].ow) := by
    rw [slotOk, if_neg h3, h5, decide_eq_true h4, shOf, decide_eq_true h4]
    simp [hat]
   refine CondP.mk (fun h6 => ?_) (fun h6 => ?_) <;> rw [h6] <;> (conv=>whnf)<;>repeat' first|(refine cond_t ?_;conv=>whnf)|(refine cond_f ?_;conv=>whnf)
   ·refine CondP.mk (fun h7 => ?_) (fun h7 => ?_) <;> (conv=>whnf)<;>repeat' first|(refine cond_t ?_;conv=>whnf)|(refine cond_f ?_;conv=>whnf)
    ·refine fin_f (no ?_)
     rw [e, h6]; simp at h7; simp [h7]
    ·refine ⟨i + 1, by omega, ⟨by omega, yes ?_⟩, ?_, rfl, rfl⟩
     ·rw [e, h6]; simp at h7; simp [h7]
     ·rw [up hlt h2]; rfl
   ·refine ⟨i + 1, by omega, ⟨by omega, yes ?_⟩, ?_, rfl, rfl⟩
    ·rw [e, h6]; simp
    ·rw [up hlt h2]; rfl
 ·refine fin_t ?_
  have : i = s.sl.length := by
                 have : ¬ i < s.sl.length := by simp at h; omega
                 omega
  subst this
  rw [hi2, List.drop_length]; rfl
end Go.Qm
namespace Go.Qm
open Go.Cq Go.Cq.D Go.RowKit Go.Proofs
set_option maxRecDepth 10000
end Go.Qm
namespace Go.Qm
open Go.Cq Go.Cq.D Go.RowKit Go.Proofs
set_option maxRecDepth 10000
end Go.Qm
namespace Go.Qm
open Go.Cq Go.Cq.D Go.RowKit Go.Proofs
set_option maxRecDepth 10000
end Go.Qm
namespace Go.Qm
open Go.Cq Go.Cq.D Go.RowKit Go.Proofs
set_option maxRecDepth 10000
end Go.Qm
namespace Go.Qm
open Go.Cq Go.Cq.D Go.RowKit Go.Proofs
set_option maxRecDepth 10000
theorem set_back {α : Type} {es : List α} {i : Nat} {row : α} (h : es[i]? = some row) : es.set i row = es := by
 obtain ⟨hi, rfl⟩ := List.getElem?_eq_some_iff.1 h
 exact List.set_getElem_self hi
end Go.Qm
namespace Go.Qm
open Go.Cq Go.Cq.D Go.RowKit Go.Proofs
set_option maxRecDepth 10000
def arOf (m : Mem) (i : Nat) : List Area := (m.sp[i]?.map (·.ar)).getD []
def mem0 : Mem := ⟨⟨[], []⟩, ⟨[], []⟩, [], 0⟩
theorem setAr_rows {m : Mem} {i : Nat} {l : List Area} (hi : i < m.sp.length) : (m.sp.map rP).modify i (fun row => row.set 1 (.sl 4 (l.map rA))) = (setAr m i l).sp.map rP := by
 rw [modify_set (map_get (f := rP) (List.getElem?_eq_getElem hi)), setAr, modify_setG (List.getElem?_eq_getElem hi), ← map_set]
 rfl
end Go.Qm
namespace Go.Qm
open Go.Cq Go.Cq.D Go.RowKit Go.Proofs
set_option maxRecDepth 10000
def bM (b1 b2 b3 b4 b5 : Bool) (m : Mem) : DB := .box [.ro b1 1 (m.ram.tx.map rS), .ro b2 1 (m.ram.rf.map rI), .ro b3 1 (m.swp.tx.map rS), .ro b4 1 (m.swp.rf.map rI), .ro b5 3 (m.sp.map rP), dI m.hd]
set_option maxHeartbeats 1000000 in
theorem l3Told_ok (b1 b2 b3 b4 b5 : Bool) (m : Mem) (kd pl : Int) (h : m.fits 4611686018427387904) (hb : (tel kd pl m.sp).length ≤ 4611686018427387904) : CallV Try.prog 89 [aM b1 b2 b3 b4 b5 m, .one (dI kd), .one (dI pl)] (.v (.one (dI (tel kd pl m.sp).length))) := by
 refine callX_of hmix Try.func89 ok89 ?_
 (conv=>whnf)<;>repeat' first|(refine cond_t ?_;conv=>whnf)|(refine cond_f ?_;conv=>whnf)
 refine loop_at (fun p : Nat × Nat => [(1, .v (.one (dI kd))), (2, .v (.one (dI pl))), (3, .v (.one (.ptr 0 0 0))), (7, .v (.one (dI p.2))), (8, .v (.one (dI p.1)))]) (fun _ => [(0, bM b1 b2 b3 b4 b5 m)]) (fun _ => 1)
  (fun p => p.1 ≤ m.sp.length ∧ p.2 + (tel kd pl (m.sp.drop p.1)).length = (tel kd pl m.sp).length) (fun p => m.sp.length - p.1) (0, 0) ⟨by omega, by simp⟩ rfl rfl rfl fun p hi => ?_
 obtain ⟨i, c⟩ := p
 obtain ⟨hi1, hi2⟩ := hi
 simp only at hi1 hi2
 (conv=>whnf)<;>repeat' first|(refine cond_t ?_;conv=>whnf)|(refine cond_f ?_;conv=>whnf)
 refine CondP.mk (fun h1 => ?_) (fun h1 => ?_) <;> (conv=>whnf)<;>repeat' first|(refine cond_t ?_;conv=>whnf)|(refine cond_f ?_;conv=>whnf)
 ·have hlt : i < m.sp.length := by simpa using h1
  have hs := h.ss _ (List.getElem_mem hlt)
  rw [tel_step hlt, List.length_append] at hi2
  refine loop_at (fun p : Nat × Nat => [(1, .v (.one (dI kd))), (2, .v (.one (dI pl))), (3, .v (.one (.ptr 0 0 0))), (7, .v (.one (dI p.2))), (8, .v (.one (dI i))), (9, .v (.one (dI p.1)))]) (fun _ => [(0, bM b1 b2 b3 b4 b5 m)]) (fun _ => 1)
   (fun p => p.1 ≤ m.sp[i].sl.length ∧ p.2 + (telS m.sp[i].ar kd pl p.1 (m.sp[i].sl.drop p.1)).length + (tel kd pl (m.sp.drop (i + 1))).length = (tel kd pl m.sp).length) (fun p => m.sp[i].sl.length - p.1) (0, c) ⟨by omega, by simp only [List.drop_zero]; omega⟩ rfl rfl rfl fun p hj => ?_
  obtain ⟨j, d⟩ := p
  obtain ⟨hj1, hj2⟩ := hj
  simp only at hj1 hj2
  (conv=>whnf)<;>repeat' first|(refine cond_t ?_;conv=>whnf)|(refine cond_f ?_;conv=>whnf)
  refine op_idx_ro (k := i) rfl rfl (by simpa using hlt) ?_
  (conv=>whnf)<;>repeat' first|(refine cond_t ?_;conv=>whnf)|(refine cond_f ?_;conv=>whnf)
  refine op_load_rp rfl (r := .one (.ro b5 4 (m.sp[i].sl.map rL))) (by simp [loadRp, rP, hlt]) ?_
  (conv=>whnf)<;>repeat' first|(refine cond_t ?_;conv=>whnf)|(refine cond_f ?_;conv=>whnf)
  refine CondP.mk (fun h2 => ?_) (fun h2 => ?_) <;> (conv=>whnf)<;>repeat' first|(refine cond_t ?_;conv=>whnf)|(refine cond_f ?_;conv=>whnf)
  ·have hlj : j < m.sp[i].sl.length := by simpa using h2
   rw [telS_step hlj] at hj2
   refine op_idx_ro (k := i) rfl rfl (by simpa using hlt) ?_
   (conv=>whnf)<;>repeat' first|(refine cond_t ?_;conv=>whnf)|(refine cond_f ?_;conv=>whnf)
   refine op_load_rp rfl (r := .one (.ro b5 4 (m.sp[i].sl.map rL))) (by simp [loadRp, rP, hlt]) ?_
   (conv=>whnf)<;>repeat' first|(refine cond_t ?_;conv=>whnf)|(refine cond_f ?_;conv=>whnf)
   refine op_idx_ro (k := j) rfl rfl (by simpa using hlj) ?_
   (conv=>whnf)<;>repeat' first|(refine cond_t ?_;conv=>whnf)|(refine cond_f ?_;conv=>whnf)
   refine op_load_rp rfl (ldL hlj) ?_
   (conv=>whnf)<;>repeat' first|(refine cond_t ?_;conv=>whnf)|(refine cond_f ?_;conv=>whnf)
   refine CondP.mk (fun h3 => ?_) (fun h3 => ?_) <;> rw [h3] <;> (conv=>whnf)<;>repeat' first|(refine cond_t ?_;conv=>whnf)|(refine cond_f ?_;conv=>whnf)
   ·have h3 : m.sp[i].sl[j].kd = kd := by simpa using h3
    refine CondP.mk (fun h4 => ?_) (fun h4 => ?_) <;> (conv=>whnf)<;>repeat' first|(refine cond_t ?_;conv=>whnf)|(refine cond_f ?_;conv=>whnf)
    ·have h4 : m.sp[i].sl[j].pl = pl := by simpa using h4
     rw [if_pos ⟨h3, h4⟩, List.length_cons] at hj2
     refine ⟨(j + 1, d + 1), by simp only; omega, ⟨by simp only; omega, by simp only; omega⟩, ?_, rfl, rfl⟩
     rw [up hlj hs.2, wrap64 (by omega) (by omega), show (d : Int) + 1 = ((d + 1 : Nat) : Int) by omega]; rfl
    ·have h4 : ¬ m.sp[i].sl[j].pl = pl := by simpa using h4
     rw [if_neg fun e => h4 e.2] at hj2
     refine ⟨(j + 1, d), by simp only; omega, ⟨by simp only; omega, by simp only; omega⟩, ?_, rfl, rfl⟩
     rw [up hlj hs.2]; rfl
   ·have h3 : ¬ m.sp[i].sl[j].kd = kd := by simpa using h3
    rw [if_neg fun e => h3 e.1] at hj2
    refine ⟨(j + 1, d), by simp only; omega, ⟨by simp only; omega, by simp only; omega⟩, ?_, rfl, rfl⟩
    rw [up hlj hs.2]; rfl
  ·have : j = m.sp[i].sl.length := by
                     have : ¬ j < m.sp[i].sl.length := by simpa using h2
                     omega
   subst this
   rw [List.drop_length] at hj2
   simp only [telS, List.length_nil] at hj2
   refine ⟨(i + 1, d), by simp only; omega, ⟨by simp only; omega, by simp only; omega⟩, ?_, rfl, rfl⟩
   rw [up hlt h.sp]; rfl
 ·have : i = m.sp.length := by
                 have : ¬ i < m.sp.length := by simpa using h1
                 omega
  subst this
  rw [List.drop_length] at hi2
  simp only [tel, List.length_nil] at hi2
  refine ⟨?_, rfl⟩
  simp only [dI]
  rw [← hi2]; rfl
end Go.Qm
namespace Go.Qm
open Go.Cq Go.Cq.D Go.RowKit Go.Proofs
set_option maxRecDepth 10000
structure Sofar where
 i : Nat
 c : Nat
 o : Bool
 q : Bool
structure Sofar.ok (T : List (Bool × Bool)) (s : Sofar) (r : List (Bool × Bool)) : Prop where
 c : s.c + r.length = T.length
 o : (s.o || r.any (·.1)) = T.any (·.1)
 q : (s.q || r.any (!·.2)) = T.any (!·.2)
theorem Sofar.ok.step {T : List (Bool × Bool)} {i i' c : Nat} {o q : Bool} {x : Bool × Bool} {r : List (Bool × Bool)} (h : Sofar.ok T ⟨i, c, o, q⟩ (x :: r)) : Sofar.ok T ⟨i', c + 1, o || x.1, q || !x.2⟩ r := by
 refine ⟨?_, ?_, ?_⟩
 ·have := h.c; simp only [List.length_cons] at this ⊢; omega
 ·have := h.o; simp only [List.any_cons] at this ⊢; rw [Bool.or_assoc]; exact this
 ·have := h.q; simp only [List.any_cons] at this ⊢; rw [Bool.or_assoc]; exact this
set_option maxHeartbeats 2000000 in
theorem l3Alone_ok (b1 b2 b3 b4 b5 : Bool) (m : Mem) (kd pl : Int) (h : m.fits 4611686018427387904) (hb : (tel kd pl m.sp).length ≤ 4611686018427387904) (ho : ∀ s, s ∈ m.sp → ∀ a, a ∈ s.ar → areaOk a = true) : CallV Try.prog 90 [aM b1 b2 b3 b4 b5 m, .one (dI kd), .one (dI pl)] (.v (.one (dB (alone (tel kd pl m.sp))))) := by
 refine callX_of hmix Try.func90 ok90 ?_
 (conv=>whnf)<;>repeat' first|(refine cond_t ?_;conv=>whnf)|(refine cond_f ?_;conv=>whnf)
 refine loop_at (fun p : Sofar => [(1, .v (.one (dI kd))), (2, .v (.one (dI pl))), (3, .v (.one (.ptr 0 0 0))), (7, .v (.one (dI p.c))), (8, .v (.one (dB p.o))), (9, .v (.one (dB p.q))), (10, .v (.one (dI p.i)))]) (fun _ => [(0, bM b1 b2 b3 b4 b5 m)]) (fun _ => 1)
  (fun p => p.i ≤ m.sp.length ∧ Sofar.ok (tel kd pl m.sp) p (tel kd pl (m.sp.drop p.i))) (fun p => m.sp.length - p.i) ⟨0, 0, false, false⟩ ⟨by simp, by simp, by simp, by simp⟩ rfl rfl rfl fun p hi => ?_
 obtain ⟨i, c, o, q⟩ := p
 obtain ⟨hi1, hi2⟩ := hi
 simp only at hi1 hi2
 (conv=>whnf)<;>repeat' first|(refine cond_t ?_;conv=>whnf)|(refine cond_f ?_;conv=>whnf)
 refine CondP.mk (fun h1 => ?_) (fun h1 => ?_) <;> (conv=>whnf)<;>repeat' first|(refine cond_t ?_;conv=>whnf)|(refine cond_f ?_;conv=>whnf)
 ·have hlt : i < m.sp.length := by simpa using h1
  have hs := h.ss _ (List.getElem_mem hlt)
  have hoi := ho _ (List.getElem_mem hlt)
  rw [tel_step hlt] at hi2
  refine loop_at (fun p : Sofar => [(1, .v (.one (dI kd))), (2, .v (.one (dI pl))), (3, .v (.one (.ptr 0 0 0))), (7, .v (.one (dI p.c))), (8, .v (.one (dB p.o))), (9, .v (.one (dB p.q))), (10, .v (.one (dI i))), (11, .v (.one (dI p.i)))]) (fun _ => [(0, bM b1 b2 b3 b4 b5 m)]) (fun _ => 1)
   (fun p => p.i ≤ m.sp[i].sl.length ∧ Sofar.ok (tel kd pl m.sp) p (telS m.sp[i].ar kd pl p.i (m.sp[i].sl.drop p.i) ++ tel kd pl (m.sp.drop (i + 1)))) (fun p => m.sp[i].sl.length - p.i) ⟨0, c, o, q⟩ ⟨by simp, by simp only [List.drop_zero]; exact ⟨hi2.c, hi2.o, hi2.q⟩⟩ rfl rfl rfl fun p hj => ?_
  obtain ⟨j, d, o1, q1⟩ := p
  obtain ⟨hj1, hj2⟩ := hj
  simp only at hj1 hj2
  (conv=>whnf)<;>repeat' first|(refine cond_t ?_;conv=>whnf)|(refine cond_f ?_;conv=>whnf)
  refine op_idx_ro (k := i) rfl rfl (by simpa using hlt) ?_
  (conv=>whnf)<;>repeat' first|(refine cond_t ?_;conv=>whnf)|(refine cond_f ?_;conv=>whnf)
  refine op_load_rp rfl (r := .one (.ro b5 4 (m.sp[i].sl.map rL))) (by simp [loadRp, rP, hlt]) ?_
  (conv=>whnf)<;>repeat' first|(refine cond_t ?_;conv=>whnf)|(refine cond_f ?_;conv=>whnf)
  refine CondP.mk (fun h2 => ?_) (fun h2 => ?_) <;> (conv=>whnf)<;>repeat' first|(refine cond_t ?_;conv=>whnf)|(refine cond_f ?_;conv=>whnf)
  ·have hlj : j < m.sp[i].sl.length := by simpa using h2
   rw [telS_step hlj] at hj2
   refine op_idx_ro (k := i) rfl rfl (by simpa using hlt) ?_
   (conv=>whnf)<;>repeat' first|(refine cond_t ?_;conv=>whnf)|(refine cond_f ?_;conv=>whnf)
   refine op_load_rp rfl (r := .one (.ro b5 4 (m.sp[i].sl.map rL))) (by simp [loadRp, rP, hlt]) ?_
   (conv=>whnf)<;>repeat' first|(refine cond_t ?_;conv=>whnf)|(refine cond_f ?_;conv=>whnf)
   refine op_idx_ro (k := j) rfl rfl (by simpa using hlj) ?_
   (conv=>whnf)<;>repeat' first|(refine cond_t ?_;conv=>whnf)|(refine cond_f ?_;conv=>whnf)
   refine op_load_rp rfl (ldL hlj) ?_
   (conv=>whnf)<;>repeat' first|(refine cond_t ?_;conv=>whnf)|(refine cond_f ?_;conv=>whnf)
   refine CondP.mk (fun h3 => ?_) (fun h3 => ?_) <;> rw [h3] <;> (conv=>whnf)<;>repeat' first|(refine cond_t ?_;conv=>whnf)|(refine cond_f ?_;conv=>whnf)
   ·have h3 : m.sp[i].sl[j].kd = kd := by simpa using h3
    refine CondP.mk (fun h4 => ?_) (fun h4 => ?_) <;> (conv=>whnf)<;>repeat' first|(refine cond_t ?_;conv=>whnf)|(refine cond_f ?_;conv=>whnf)
    ·have h4 : m.sp[i].sl[j].pl = pl := by simpa using h4
     rw [if_pos ⟨h3, h4⟩, List.cons_append] at hj2
     have hd : d + 1 ≤ (tel kd pl m.sp).length := by have := hj2.c; simp only [List.length_cons] at this; omega
     have hst := hj2.step (i' := j + 1)
     have ec : IntKind.wrap .i64 ((d : Int) + 1) = ((d + 1 : Nat) : Int) := by rw [wrap64 (by omega) (by omega)]; omega
     have el : IntKind.wrap .i64 ((j : Int) + 1) = ((j + 1 : Nat) : Int) := up hlj hs.2
     cases q1
     ·cases o1 <;> (conv=>whnf)<;>repeat' first|(refine cond_t ?_;conv=>whnf)|(refine cond_f ?_;conv=>whnf)
      all_goals
       refine op_idx_ro (k := i) rfl rfl (by simpa using hlt) ?_
       (conv=>whnf)<;>repeat' first|(refine cond_t ?_;conv=>whnf)|(refine cond_f ?_;conv=>whnf)
       refine op_load_rp rfl (ldP hlt) ?_
       (conv=>whnf)<;>repeat' first|(refine cond_t ?_;conv=>whnf)|(refine cond_f ?_;conv=>whnf)
       refine op_callV [.pass, .pass] rfl rfl rfl (lshared_ok b5 b5 m.sp[i] j hs.1 hoi) rfl ?_
       (conv=>whnf)<;>repeat' first|(refine cond_t ?_;conv=>whnf)|(refine cond_f ?_;conv=>whnf)
      ·refine ⟨⟨j + 1, d + 1, m.sp[i].sl[j].ow, !shOf m.sp[i].ar (areaAt m.sp[i].ar j)⟩, by simp only; omega, ⟨by simp only; omega, hst⟩, ?_, rfl, rfl⟩
       rw [ec, el]; rfl
      ·refine ⟨⟨j + 1, d + 1, true, !shOf m.sp[i].ar (areaAt m.sp[i].ar j)⟩, by simp only; omega, ⟨by simp only; omega, hst⟩, ?_, rfl, rfl⟩
       rw [ec, el]; rfl
     ·cases o1 <;> (conv=>whnf)<;>repeat' first|(refine cond_t ?_;conv=>whnf)|(refine cond_f ?_;conv=>whnf)
      ·refine ⟨⟨j + 1, d + 1, m.sp[i].sl[j].ow, true⟩, by simp only; omega, ⟨by simp only; omega, hst⟩, ?_, rfl, rfl⟩
       rw [ec, el]; rfl
      ·refine ⟨⟨j + 1, d + 1, true, true⟩, by simp only; omega, ⟨by simp only; omega, hst⟩, ?_, rfl, rfl⟩
       rw [ec, el]; rfl
    ·have h4 : ¬ m.sp[i].sl[j].pl = pl := by simpa using h4
     rw [if_neg fun e => h4 e.2] at hj2
     refine ⟨⟨j + 1, d, o1, q1⟩, by simp only; omega, ⟨by simp only; omega, ⟨hj2.c, hj2.o, hj2.q⟩⟩, ?_, rfl, rfl⟩
     rw [up hlj hs.2]; rfl
   ·have h3 : ¬ m.sp[i].sl[j].kd = kd := by simpa using h3
    rw [if_neg fun e => h3 e.1] at hj2
    refine ⟨⟨j + 1, d, o1, q1⟩, by simp only; omega, ⟨by simp only; omega, ⟨hj2.c, hj2.o, hj2.q⟩⟩, ?_, rfl, rfl⟩
    rw [up hlj hs.2]; rfl
  ·have : j = m.sp[i].sl.length := by
                     have : ¬ j < m.sp[i].sl.length := by simpa using h2
                     omega
   subst this
   rw [List.drop_length] at hj2
   simp only [telS, List.nil_append] at hj2
   refine ⟨⟨i + 1, d, o1, q1⟩, by simp only; omega, ⟨by simp only; omega, ⟨hj2.c, hj2.o, hj2.q⟩⟩, ?_, rfl, rfl⟩
   rw [up hlt h.sp]; rfl
 ·have : i = m.sp.length := by
                 have : ¬ i < m.sp.length := by simpa using h1
                 omega
  subst this
  rw [List.drop_length] at hi2
  have k1 := hi2.c
  have k2 := hi2.o
  have k3 := hi2.q
  simp only [tel, List.length_nil, List.any_nil, Bool.or_false, Nat.add_zero] at k1 k2 k3
  have hal : alone (tel kd pl m.sp) = (decide ((c : Int) < 2) || !o || !q) := by
   rw [alone, ← k1, ← k2, ← k3, show decide (c < 2) = decide ((c : Int) < 2) from decide_eq_decide.2 (by omega)]
  refine CondP.mk (fun h2 => ?_) (fun h2 => ?_) <;> rw [h2] <;> cases o <;> cases q <;> (conv=>whnf)<;>repeat' first|(refine cond_t ?_;conv=>whnf)|(refine cond_f ?_;conv=>whnf)
  all_goals
   simp only at h2
   rw [hal, h2]
   exact ⟨rfl, rfl⟩
end Go.Qm
namespace Go.Qm
open Go.Cq Go.Cq.D Go.RowKit Go.Proofs
set_option maxRecDepth 10000
theorem telS_len {ar : List Area} {kd pl : Int} : ∀ {l : List Slot} {i : Nat}, (telS ar kd pl i l).length ≤ l.length := by
 intro l
 induction l with
 | nil => intro i; simp [telS]
 | cons x l ih =>
  intro i
  simp only [telS]
  have := ih (i := i + 1)
  split <;> simp only [List.length_cons] <;> omega
theorem tel_len {kd pl : Int} {n : Nat} : ∀ {l : List Space}, (∀ s, s ∈ l → s.sl.length ≤ n) → (tel kd pl l).length ≤ n * l.length := by
 intro l
 induction l with
 | nil => intro _; simp [tel]
 | cons s l ih =>
  intro h
  have h1 := ih fun s hs => h s (List.mem_cons_of_mem _ hs)
  have h2 := h s (List.mem_cons_self ..)
  have h3 := telS_len (ar := s.ar) (kd := kd) (pl := pl) (l := s.sl) (i := 0)
  simp only [tel, List.length_append, List.length_cons, Nat.mul_add, Nat.mul_one]
  omega
theorem spaceOk_len {s : Space} (h : spaceOk s = true) : s.sl.length ≤ 16 := by
 unfold spaceOk at h
 split at h <;> simp only [Bool.and_eq_true, decide_eq_true_eq] at h <;> omega
theorem spaceOk_ar {s : Space} (h : spaceOk s = true) : ∀ a, a ∈ s.ar → areaOk a = true := by
 unfold spaceOk at h
 split at h
 ·simp only [Bool.and_eq_true] at h
  exact areasOk_all h.1
 ·simp only [Bool.and_eq_true, decide_eq_true_eq] at h
  intro a ha
  rw [List.length_eq_zero_iff.1 h.1] at ha
  simp at ha
def spOk (s : Space) : Bool := spaceOk s && s.sl.all plOk
theorem memOk_head {m : Mem} {b : Bool} (h : (pagesOk m.ram && pagesOk m.swp && decide (m.ram.rf.length = 12) && decide (m.swp.rf.length = 12) && decide (m.sp.length = 5) && inB m.hd 0 11) = b) : memOk m = (b && m.sp.all spOk && refsOk 1 m.sp 0 m.ram.rf && refsOk 2 m.sp 0 m.swp.rf) := by
 rw [← h]; rfl
set_option maxHeartbeats 4000000 in
theorem lmemOk_ok (b1 b2 b3 b4 b5 : Bool) (m : Mem) (h : m.fits 4611686018427387904) : CallV Try.prog 35 [aM b1 b2 b3 b4 b5 m] (.v (.one (dB (memOk m)))) := by
 refine callX_of hmix Try.func35 ok35 ?_
 (conv=>whnf)<;>repeat' first|(refine cond_t ?_;conv=>whnf)|(refine cond_f ?_;conv=>whnf)
 refine op_callV [.pass] rfl rfl rfl (lpagesOk_ok b1 b2 m.ram h.rt h.rr) rfl ?_
 (conv=>whnf)<;>repeat' first|(refine cond_t ?_;conv=>whnf)|(refine cond_f ?_;conv=>whnf)
 refine CondP.mk (fun h1 => ?_) (fun h1 => ?_) <;> rw [h1] <;> (conv=>whnf)<;>repeat' first|(refine cond_t ?_;conv=>whnf)|(refine cond_f ?_;conv=>whnf)
 ·exact fin_f (by rw [memOk_head rfl, show pagesOk m.ram = false by simpa using h1]; simp)
 refine op_callV [.pass] rfl rfl rfl (lpagesOk_ok b3 b4 m.swp h.st h.sr) rfl ?_
 (conv=>whnf)<;>repeat' first|(refine cond_t ?_;conv=>whnf)|(refine cond_f ?_;conv=>whnf)
 refine CondP.mk (fun h2 => ?_) (fun h2 => ?_) <;> rw [h2] <;> (conv=>whnf)<;>repeat' first|(refine cond_t ?_;conv=>whnf)|(refine cond_f ?_;conv=>whnf)
 ·exact fin_f (by rw [memOk_head rfl, show pagesOk m.swp = false by simpa using h2]; simp)
 refine CondP.mk (fun h3 => ?_) (fun h3 => ?_) <;> rw [h3] <;> (conv=>whnf)<;>repeat' first|(refine cond_t ?_;conv=>whnf)|(refine cond_f ?_;conv=>whnf)
 ·exact fin_f (by rw [memOk_head rfl, show decide (m.ram.rf.length = 12) = false by simp at h3 ⊢; omega]; simp)
 refine CondP.mk (fun h4 => ?_) (fun h4 => ?_) <;> rw [h4] <;> (conv=>whnf)<;>repeat' first|(refine cond_t ?_;conv=>whnf)|(refine cond_f ?_;conv=>whnf)
 ·exact fin_f (by rw [memOk_head rfl, show decide (m.swp.rf.length = 12) = false by simp at h4 ⊢; omega]; simp)
 refine CondP.mk (fun h5 => ?_) (fun h5 => ?_) <;> rw [h5] <;> (conv=>whnf)<;>repeat' first|(refine cond_t ?_;conv=>whnf)|(refine cond_f ?_;conv=>whnf)
 ·exact fin_f (by rw [memOk_head rfl, show decide (m.sp.length = 5) = false by simp at h5 ⊢; omega]; simp)
 refine op_callV [.pass, .pass, .pass] rfl rfl rfl (lin_ok _ _ _) rfl ?_
 (conv=>whnf)<;>repeat' first|(refine cond_t ?_;conv=>whnf)|(refine cond_f ?_;conv=>whnf)
 refine CondP.mk (fun h6 => ?_) (fun h6 => ?_) <;> (conv=>whnf)<;>repeat' first|(refine cond_t ?_;conv=>whnf)|(refine cond_f ?_;conv=>whnf)
 ·exact fin_f (by rw [memOk_head rfl, show inB m.hd 0 11 = false by simpa using h6]; simp)
 have hl1 : m.ram.rf.length = 12 := by simp at h3; omega
 have hl2 : m.swp.rf.length = 12 := by simp at h4; omega
 have hl5 : m.sp.length = 5 := by simp at h5; omega
 have hd := memOk_head (m := m) (b := true) (by simp at h1 h2 h6; simp [h1, h2, hl1, hl2, hl5, h6])
 rw [Bool.true_and] at hd
 refine loop_at (fun i : Nat => [(1, .v (.one (.ptr 0 0 0))), (3, .v (.one (dI i)))]) (fun _ => [(0, bM b1 b2 b3 b4 b5 m)]) (fun _ => 1)
  (fun i => i ≤ m.sp.length ∧ ∀ j (hj : j < m.sp.length), j < i → spOk m.sp[j] = true) (fun i => m.sp.length - i) 0 ⟨by omega, by omega⟩ rfl rfl rfl fun i hi => ?_
 obtain ⟨hi1, hi2⟩ := hi
 (conv=>whnf)<;>repeat' first|(refine cond_t ?_;conv=>whnf)|(refine cond_f ?_;conv=>whnf)
 refine CondP.mk (fun h7 => ?_) (fun h7 => ?_) <;> (conv=>whnf)<;>repeat' first|(refine cond_t ?_;conv=>whnf)|(refine cond_f ?_;conv=>whnf)
 ·have hlt : i < m.sp.length := by simp at h7; omega
  have hs := h.ss _ (List.getElem_mem hlt)
  have no : spOk m.sp[i] = false → memOk m = false := fun e => by
   have : m.sp.all spOk = false := by
    rw [List.all_eq_false]
    exact ⟨_, List.getElem_mem hlt, by simp [e]⟩
   rw [hd, this]; rfl
  refine op_idx_ro (k := i) rfl rfl (by simpa using hlt) ?_
  (conv=>whnf)<;>repeat' first|(refine cond_t ?_;conv=>whnf)|(refine cond_f ?_;conv=>whnf)
  refine op_load_rp rfl (ldP hlt) ?_
  (conv=>whnf)<;>repeat' first|(refine cond_t ?_;conv=>whnf)|(refine cond_f ?_;conv=>whnf)
  refine op_callV [.pass] rfl rfl rfl (l3Space_ok b5 b5 m.sp[i] hs.1 hs.2) rfl ?_
  (conv=>whnf)<;>repeat' first|(refine cond_t ?_;conv=>whnf)|(refine cond_f ?_;conv=>whnf)
  refine CondP.mk (fun h8 => ?_) (fun h8 => ?_) <;> (conv=>whnf)<;>repeat' first|(refine cond_t ?_;conv=>whnf)|(refine cond_f ?_;conv=>whnf)
  ·exact fin_f (no (by rw [spOk, show spaceOk m.sp[i] = false by simpa using h8]; rfl))
  have h8 : spaceOk m.sp[i] = true := by simpa using h8
  refine loop_at (fun k : Nat => [(1, .v (.one (.ptr 0 0 0))), (3, .v (.one (dI i))), (4, .v (.one (dI k)))]) (fun _ => [(0, bM b1 b2 b3 b4 b5 m)]) (fun _ => 1)
   (fun k => k ≤ m.sp[i].sl.length ∧ ∀ j (hj : j < m.sp[i].sl.length), j < k → plOk m.sp[i].sl[j] = true) (fun k => m.sp[i].sl.length - k) 0 ⟨by omega, by omega⟩ rfl rfl rfl fun k hk => ?_
  obtain ⟨hk1, hk2⟩ := hk
  (conv=>whnf)<;>repeat' first|(refine cond_t ?_;conv=>whnf)|(refine cond_f ?_;conv=>whnf)
  refine op_idx_ro (k := i) rfl rfl (by simpa using hlt) ?_
  (conv=>whnf)<;>repeat' first|(refine cond_t ?_;conv=>whnf)|(refine cond_f ?_;conv=>whnf)
  refine op_load_rp rfl (r := .one (.ro b5 4 (m.sp[i].sl.map rL))) (by simp [loadRp, rP, hlt]) ?_
  (conv=>whnf)<;>repeat' first|(refine cond_t ?_;conv=>whnf)|(refine cond_f ?_;conv=>whnf)
  refine CondP.mk (fun h9 => ?_) (fun h9 => ?_) <;> (conv=>whnf)<;>repeat' first|(refine cond_t ?_;conv=>whnf)|(refine cond_f ?_;conv=>whnf)
  ·have hlk : k < m.sp[i].sl.length := by simpa using h9
   refine op_idx_ro (k := i) rfl rfl (by simpa using hlt) ?_
   (conv=>whnf)<;>repeat' first|(refine cond_t ?_;conv=>whnf)|(refine cond_f ?_;conv=>whnf)
   refine op_load_rp rfl (r := .one (.ro b5 4 (m.sp[i].sl.map rL))) (by simp [loadRp, rP, hlt]) ?_
   (conv=>whnf)<;>repeat' first|(refine cond_t ?_;conv=>whnf)|(refine cond_f ?_;conv=>whnf)
   refine op_idx_ro (k := k) rfl rfl (by simpa using hlk) ?_
   (conv=>whnf)<;>repeat' first|(refine cond_t ?_;conv=>whnf)|(refine cond_f ?_;conv=>whnf)
   refine op_load_rp rfl (ldL hlk) ?_
   (conv=>whnf)<;>repeat' first|(refine cond_t ?_;conv=>whnf)|(refine cond_f ?_;conv=>whnf)
   have next : plOk m.sp[i].sl[k] = true → ∀ j (hj : j < m.sp[i].sl.length), j < k + 1 → plOk m.sp[i].sl[j] = true := fun e j hj hjk => by
    by_cases e2 : j = k
    ·subst e2; exact e
    ·exact hk2 j hj (by omega)
   have bad : plOk m.sp[i].sl[k] = false → memOk m = false := fun e => no (by
    rw [spOk, h8, Bool.true_and, List.all_eq_false]
    exact ⟨_, List.getElem_mem hlk, by simp [e]⟩)
   refine CondP.mk (fun ha => ?_) (fun ha => ?_) <;> (conv=>whnf)<;>repeat' first|(refine cond_t ?_;conv=>whnf)|(refine cond_f ?_;conv=>whnf)
   all_goals
    refine CondP.mk (fun hb => ?_) (fun hb => ?_) <;> rw [hb] <;> (conv=>whnf)<;>repeat' first|(refine cond_t ?_;conv=>whnf)|(refine cond_f ?_;conv=>whnf)
    ·have hb : ¬ m.sp[i].sl[k].kd = 0 := by simpa using hb
     refine op_callV [.pass, .pass, .pass] rfl rfl rfl (lin_ok _ _ _) rfl ?_
     (conv=>whnf)<;>repeat' first|(refine cond_t ?_;conv=>whnf)|(refine cond_f ?_;conv=>whnf)
     have e11 : IntKind.wrap .i64 (12 - 1) = 11 := by decide
     refine CondP.mk (fun hc => ?_) (fun hc => ?_) <;> (conv=>whnf)<;>repeat' first|(refine cond_t ?_;conv=>whnf)|(refine cond_f ?_;conv=>whnf)
     ·rw [e11] at hc
      exact fin_f (bad (by rw [plOk, decide_eq_false hb, show inB m.sp[i].sl[k].pl 0 11 = false by simpa using hc]; rfl))
     ·rw [e11] at hc
      refine ⟨k + 1, by omega, ⟨by omega, next (by rw [plOk, show inB m.sp[i].sl[k].pl 0 11 = true by simpa using hc, Bool.or_true])⟩, ?_, rfl, rfl⟩
      rw [up hlk hs.2]; rfl
    ·have hb : m.sp[i].sl[k].kd = 0 := by simpa using hb
     refine ⟨k + 1, by omega, ⟨by omega, next (by rw [plOk, decide_eq_true hb, Bool.true_or])⟩, ?_, rfl, rfl⟩
     rw [up hlk hs.2]; rfl
  ·have hke : k = m.sp[i].sl.length := by
                       have : ¬ k < m.sp[i].sl.length := by simpa using h9
                       omega
   refine ⟨i + 1, by omega, ⟨by omega, fun j hj hji => ?_⟩, ?_, rfl, rfl⟩
   ·by_cases e : j = i
    ·subst e
     rw [spOk, h8, Bool.true_and, List.all_eq_true]
     intro x hx
     obtain ⟨j', hj', rfl⟩ := List.getElem_of_mem hx
     exact hk2 j' hj' (by omega)
    ·exact hi2 j hj (by omega)
   ·rw [up hlt (by omega)]; rfl
 ·have hall : ∀ s, s ∈ m.sp → spOk s = true := fun s hs => by
   obtain ⟨j, hj, rfl⟩ := List.getElem_of_mem hs
   exact hi2 j hj (by simp at h7; omega)
  have hsl : ∀ s, s ∈ m.sp → s.sl.length ≤ 16 := fun s hs => spaceOk_len (by have := hall s hs; simp only [spOk, Bool.and_eq_true] at this; exact this.1)
  have har : ∀ s, s ∈ m.sp → ∀ a, a ∈ s.ar → areaOk a = true := fun s hs => spaceOk_ar (by have := hall s hs; simp only [spOk, Bool.and_eq_true] at this; exact this.1)
  rw [show m.sp.all spOk = true from List.all_eq_true.2 hall, Bool.true_and] at hd
  have htel : ∀ kd pl, (tel kd pl m.sp).length ≤ 4611686018427387904 := fun kd pl => by
   have := tel_len (kd := kd) (pl := pl) hsl
   omega
  refine loop_at (fun i : Nat => [(1, .v (.one (.ptr 0 0 0))), (7, .v (.one (dI i)))]) (fun _ => [(0, bM b1 b2 b3 b4 b5 m)]) (fun _ => 1)
   (fun i => i ≤ m.ram.rf.length ∧ refsOk 1 m.sp 0 m.ram.rf = refsOk 1 m.sp i (m.ram.rf.drop i)) (fun i => m.ram.rf.length - i) 0 ⟨by omega, by simp⟩ rfl rfl rfl fun p hp => ?_
  obtain ⟨hp1, hp2⟩ := hp
  (conv=>whnf)<;>repeat' first|(refine cond_t ?_;conv=>whnf)|(refine cond_f ?_;conv=>whnf)
  refine CondP.mk (fun h8 => ?_) (fun h8 => ?_) <;> (conv=>whnf)<;>repeat' first|(refine cond_t ?_;conv=>whnf)|(refine cond_f ?_;conv=>whnf)
  ·have hlt : p < m.ram.rf.length := by simp at h8; omega
   rw [refsOk_step hlt] at hp2
   have no : refOk 1 m.sp p m.ram.rf[p] = false → memOk m = false := fun e => by rw [hd, hp2, e]; rfl
   refine op_idx_ro (k := p) rfl rfl (by simpa using hlt) ?_
   (conv=>whnf)<;>repeat' first|(refine cond_t ?_;conv=>whnf)|(refine cond_f ?_;conv=>whnf)
   refine op_load_rp rfl (r := .one (dI m.ram.rf[p])) (by simp [loadRp, rI, hlt, eI, dI]) ?_
   (conv=>whnf)<;>repeat' first|(refine cond_t ?_;conv=>whnf)|(refine cond_f ?_;conv=>whnf)
   refine op_callV [.pass, .pass, .pass] rfl rfl rfl (l3Told_ok b1 b2 b3 b4 b5 m 1 p h (htel _ _)) rfl ?_
   (conv=>whnf)<;>repeat' first|(refine cond_t ?_;conv=>whnf)|(refine cond_f ?_;conv=>whnf)
   refine CondP.mk (fun h9 => ?_) (fun h9 => ?_) <;> rw [h9] <;> (conv=>whnf)<;>repeat' first|(refine cond_t ?_;conv=>whnf)|(refine cond_f ?_;conv=>whnf)
   ·exact fin_f (no (by rw [refOk, show decide (((tel 1 (p : Int) m.sp).length : Int) = m.ram.rf[p]) = false by simpa using h9]; rfl))
   have h9 : decide (((tel 1 (p : Int) m.sp).length : Int) = m.ram.rf[p]) = true := by simpa using h9
   refine op_callV [.pass, .pass, .pass] rfl rfl rfl (l3Alone_ok b1 b2 b3 b4 b5 m 1 p h (htel _ _) har) rfl ?_
   (conv=>whnf)<;>repeat' first|(refine cond_t ?_;conv=>whnf)|(refine cond_f ?_;conv=>whnf)
   refine CondP.mk (fun ha => ?_) (fun ha => ?_) <;> (conv=>whnf)<;>repeat' first|(refine cond_t ?_;conv=>whnf)|(refine cond_f ?_;conv=>whnf)
   ·exact fin_f (no (by rw [refOk, h9, show alone (tel 1 (p : Int) m.sp) = false by simpa using ha]; rfl))
   have ha : alone (tel 1 (p : Int) m.sp) = true := by simpa using ha
   refine ⟨p + 1, by omega, ⟨by omega, by rw [hp2, refOk, h9, ha]; rfl⟩, ?_, rfl, rfl⟩
   rw [up hlt h.rr]; rfl
  have hpe : p = m.ram.rf.length := by
                     have : ¬ p < m.ram.rf.length := by simp at h8; omega
                     omega
  subst hpe
  rw [List.drop_length] at hp2
  simp only [refsOk] at hp2
  rw [hp2, Bool.true_and] at hd
  refine loop_at (fun i : Nat => [(1, .v (.one (.ptr 0 0 0))), (8, .v (.one (dI i)))]) (fun _ => [(0, bM b1 b2 b3 b4 b5 m)]) (fun _ => 1)
   (fun i => i ≤ m.swp.rf.length ∧ refsOk 2 m.sp 0 m.swp.rf = refsOk 2 m.sp i (m.swp.rf.drop i)) (fun i => m.swp.rf.length - i) 0 ⟨by omega, by simp⟩ rfl rfl rfl fun p hq => ?_
  obtain ⟨hq1, hq2⟩ := hq
  (conv=>whnf)<;>repeat' first|(refine cond_t ?_;conv=>whnf)|(refine cond_f ?_;conv=>whnf)
  refine CondP.mk (fun h8 => ?_) (fun h8 => ?_) <;> (conv=>whnf)<;>repeat' first|(refine cond_t ?_;conv=>whnf)|(refine cond_f ?_;conv=>whnf)
  ·have hlt : p < m.swp.rf.length := by simp at h8; omega
   rw [refsOk_step hlt] at hq2
   have no : refOk 2 m.sp p m.swp.rf[p] = false → memOk m = false := fun e => by rw [hd, hq2, e]; rfl
   refine op_idx_ro (k := p) rfl rfl (by simpa using hlt) ?_
   (conv=>whnf)<;>repeat' first|(refine cond_t ?_;conv=>whnf)|(refine cond_f ?_;conv=>whnf)
   refine op_load_rp rfl (r := .one (dI m.swp.rf[p])) (by simp [loadRp, rI, hlt, eI, dI]) ?_
   (conv=>whnf)<;>repeat' first|(refine cond_t ?_;conv=>whnf)|(refine cond_f ?_;conv=>whnf)
   refine op_callV [.pass, .pass, .pass] rfl rfl rfl (l3Told_ok b1 b2 b3 b4 b5 m 2 p h (htel _ _)) rfl ?_
   (conv=>whnf)<;>repeat' first|(refine cond_t ?_;conv=>whnf)|(refine cond_f ?_;conv=>whnf)
   refine CondP.mk (fun h9 => ?_) (fun h9 => ?_) <;> rw [h9] <;> (conv=>whnf)<;>repeat' first|(refine cond_t ?_;conv=>whnf)|(refine cond_f ?_;conv=>whnf)
   ·exact fin_f (no (by rw [refOk, show decide (((tel 2 (p : Int) m.sp).length : Int) = m.swp.rf[p]) = false by simpa using h9]; rfl))
   have h9 : decide (((tel 2 (p : Int) m.sp).length : Int) = m.swp.rf[p]) = true := by simpa using h9
   refine op_callV [.pass, .pass, .pass] rfl rfl rfl (l3Alone_ok b1 b2 b3 b4 b5 m 2 p h (htel _ _) har) rfl ?_
   (conv=>whnf)<;>repeat' first|(refine cond_t ?_;conv=>whnf)|(refine cond_f ?_;conv=>whnf)
   refine CondP.mk (fun ha => ?_) (fun ha => ?_) <;> (conv=>whnf)<;>repeat' first|(refine cond_t ?_;conv=>whnf)|(refine cond_f ?_;conv=>whnf)
   ·exact fin_f (no (by rw [refOk, h9, show alone (tel 2 (p : Int) m.sp) = false by simpa using ha]; rfl))
   have ha : alone (tel 2 (p : Int) m.sp) = true := by simpa using ha
   refine ⟨p + 1, by omega, ⟨by omega, by rw [hq2, refOk, h9, ha]; rfl⟩, ?_, rfl, rfl⟩
   rw [up hlt h.sr]; rfl
  have hqe : p = m.swp.rf.length := by
                     have : ¬ p < m.swp.rf.length := by simp at h8; omega
                     omega
  subst hqe
  rw [List.drop_length] at hq2
  simp only [refsOk] at hq2
  exact fin_t (by rw [hd, hq2])
end Go.Qm
namespace Go.Qm
open Go.Cq Go.Cq.D Go.RowKit Go.Proofs
set_option maxRecDepth 10000
theorem Mem.fits.mono {n n' : Nat} {m : Mem} (h : m.fits n) (hn : n ≤ n') : m.fits n' :=
 ⟨Nat.le_trans h.rt hn, Nat.le_trans h.rr hn, Nat.le_trans h.st hn, Nat.le_trans h.sr hn, Nat.le_trans h.sp hn, fun s hs => ⟨Nat.le_trans (h.ss s hs).1 hn, Nat.le_trans (h.ss s hs).2 hn⟩⟩
theorem liveOf_iff {l : List Space} {k : Int} (h : liveOf l k = true) : ∃ i : Nat, k = i ∧ ∃ hi : i < l.length, l[i].lv = true := by
 simp only [liveOf, inB, Bool.and_eq_true, decide_eq_true_eq] at h
 obtain ⟨⟨h1, h2⟩, h3⟩ := h
 have hk : k.toNat < l.length := by omega
 refine ⟨k.toNat, by omega, hk, ?_⟩
 simpa [hk] using h3
end Go.Qm
namespace Go.Qm
open Go.Cq Go.Cq.D Go.RowKit Go.Proofs
set_option maxRecDepth 10000
end Go.Qm
namespace Go.Qm
open Go.Cq Go.Cq.D Go.RowKit Go.Proofs
set_option maxRecDepth 10000
end Go.Qm
namespace Go.Qm
open Go.Cq Go.Cq.D Go.RowKit Go.Proofs
set_option maxRecDepth 10000
def MemOkC : Prop := ∀ (b1 b2 b3 b4 b5 : Bool) (m : Mem), m.fits 1048576 → CallV Try.prog 34 [aM b1 b2 b3 b4 b5 m] (.v (.one (dB (memOk m))))
end Go.Qm
namespace Go.Qm
open Go.Cq Go.Cq.D Go.RowKit Go.Proofs
set_option maxRecDepth 10000
theorem goesOn_mark {α : Type} {f : Int → α → Option Int} {g : Int → α → α} {w : α → Nat} (hf : ∀ k a, f k (g k a) = some (k + w a)) : ∀ {l : List α} {k : Int}, goesOn f k (markL g w k l) = some (posP w k l l.length) := by
 intro l
 induction l with
 | nil => intro k; rfl
 | cons a l ih =>
  intro k
  simp only [markL, markP, List.length_cons, goesOn, hf, posP]
  exact ih
theorem posP_wts : ∀ {l : List Space} {k : Int}, posP Space.wt k l l.length = k + wts l := by
 intro l
 induction l with
 | nil => intro k; simp [posP, wts]
 | cons a l ih => intro k; simp only [posP, List.length_cons, wts, ih]; omega
theorem goesOn_c {α : Type} {f : Int → α → Option Int} {g : Int → α → α} {w : α → Nat} {c : Nat} (hw : ∀ a, w a = c) (hf : ∀ k a, f k (g k a) = some (k + w a)) {l : List α} {k : Int} : goesOn f k (markL g w k l) = some (k + c * l.length) := by
 rw [goesOn_mark hf, posP_const hw (Nat.le_refl _)]
theorem hPages_g {k : Int} {p : Pages} : hPages k (gPages k p) = some (k + p.wt) := by
 unfold hPages gPages
 simp only
 rw [goesOn_c (w := w1c) (c := 1) (fun _ => rfl) (fun k a => by simp [hStr, gStr, w1c])]
 simp only [Option.bind_some]
 rw [show k + ((1 : Nat) : Int) * (p.tx.length : Int) = k + p.tx.length by omega, goesOn_c (w := w1c) (c := 1) (fun _ => rfl) (fun k a => by simp [hInt, gInt, w1c])]
 simp only [Pages.wt, Option.some.injEq]
 omega
theorem hSpace_g {k : Int} {s : Space} : hSpace k (gSpace k s) = some (k + s.wt) := by
 unfold hSpace gSpace
 simp only [if_true]
 rw [goesOn_c (w := w4c) (c := 4) (fun _ => rfl) (fun k a => by simp [hArea, gArea, w4c])]
 simp only [Option.bind_some]
 rw [show k + 1 + ((4 : Nat) : Int) * (s.ar.length : Int) = k + 1 + 4 * s.ar.length by omega, goesOn_c (w := w4c) (c := 4) (fun _ => rfl) (fun k a => by simp [hSlot, gSlot, w4c])]
 simp only [Space.wt, Option.some.injEq]
 omega
theorem hMem_g {k : Int} {m : Mem} : hMem k (gMem k m) = some (k + m.wt) := by
 unfold hMem gMem
 rw [hPages_g]
 simp only [Option.bind_some]
 rw [hPages_g]
 simp only [Option.bind_some]
 have hw : ∀ k (s : Space), (gSpace k s).wt = s.wt := fun k s => by simp [Space.wt, gSpace, markL_len]
 rw [goesOn_mark (f := hSpace) (g := gSpace) (w := Space.wt) (fun k s => hSpace_g), posP_wts]
 simp only [Mem.wt, Option.some.injEq]
 omega
theorem gMem_wt {k : Int} {m : Mem} : (gMem k m).fits 1048576 ↔ m.fits 1048576 := by
 have hl : ∀ {l : List Space} {k : Int} {n : Nat}, spFits n (markL gSpace Space.wt k l) ↔ spFits n l := by
  intro l
  induction l with
  | nil => intro k n; exact ⟨fun _ s hs => by simp at hs, fun _ s hs => by simp [markL, markP] at hs⟩
  | cons a l ih =>
   intro k n
   have := ih (k := k + a.wt) (n := n)
   simp only [spFits, markL, markP, List.length_cons, List.mem_cons, forall_eq_or_imp] at this ⊢
   rw [this]
   simp [gSpace, markL_len]
 constructor
 ·intro h
  exact ⟨by simpa [gMem, gPages, markL_len] using h.rt, by simpa [gMem, gPages, markL_len] using h.rr, by simpa [gMem, gPages, markL_len] using h.st, by simpa [gMem, gPages, markL_len] using h.sr, by simpa [gMem, markL_len] using h.sp, hl.1 h.ss⟩
 ·intro h
  exact ⟨by simpa [gMem, gPages, markL_len] using h.rt, by simpa [gMem, gPages, markL_len] using h.rr, by simpa [gMem, gPages, markL_len] using h.st, by simpa [gMem, gPages, markL_len] using h.sr, by simpa [gMem, markL_len] using h.sp, hl.2 h.ss⟩
theorem wts_mark {l : List Space} : ∀ {k : Int}, wts (markL gSpace Space.wt k l) = wts l := by
 induction l with
 | nil => intro k; rfl
 | cons a l ih =>
  intro k
  have e : markL gSpace Space.wt k (a :: l) = gSpace k a :: markL gSpace Space.wt (k + a.wt) l := rfl
  rw [e, wts, wts, ih]
  simp [Space.wt, gSpace, markL_len]
theorem gMem_wt' {k : Int} {m : Mem} : (gMem k m).wt = m.wt := by
 simp [gMem, Mem.wt, gPages, Pages.wt, markL_len, wts_mark]
theorem szPages_ge {left : Int} {p : Pages} (h0 : 0 ≤ left) (h : 0 ≤ szPages left p) : szPages left p ≤ left - p.wt := by
 unfold szPages at h ⊢
 split at h
 ·omega
 ·rename_i e
  rw [if_neg e]
  have h1 := less_le h
  have h2 : szStrs left p.tx ≤ left - p.tx.length := by
   unfold szStrs at e ⊢
   split at e
   ·omega
   ·rename_i e2
    rw [if_neg e2]
    exact (lessAll_bd (f := fun x (s : Str) => x - s.length) (l := p.tx) (left := left - p.tx.length) (fun x a _ _ _ => by omega) (by omega)).2
  unfold Pages.wt
  omega
theorem szSpace_ge {left : Int} {s : Space} (h : 0 ≤ szSpace left s) : szSpace left s = left - s.ar.length - s.sl.length ∧ (s.ar.length + s.sl.length : Int) ≤ left := by
 unfold szSpace at h ⊢
 split at h
 ·omega
 ·rename_i e
  rw [if_neg e]
  have h1 := less_le h
  have h2 := less_le (show 0 ≤ less left s.ar.length by omega)
  omega
theorem lessAll_ge : ∀ {l : List Space} {left : Int}, 0 ≤ left → 0 ≤ lessAll szSpace left l → (wts l : Int) ≤ l.length + 4 * (left - lessAll szSpace left l) ∧ ∀ s, s ∈ l → (s.ar.length + s.sl.length : Int) ≤ left := by
 intro l
 induction l with
 | nil => intro left _ _; simp [wts, lessAll]
 | cons a l ih =>
  intro left h0 h
  simp only [lessAll] at h ⊢
  split at h
  ·omega
  ·rename_i e
   rw [if_neg e]
   have h1 := szSpace_ge (left := left) (s := a) (by omega)
   obtain ⟨h2, h3⟩ := ih (left := szSpace left a) (by omega) h
   refine ⟨?_, fun s hs => ?_⟩
   ·simp only [wts, Space.wt, List.length_cons]
    omega
   ·rcases List.mem_cons.1 hs with rfl | hs
    ·exact h1.2
    ·have := h3 s hs; omega
theorem szMem_ge {left : Int} {m : Mem} (h0 : 0 ≤ left) (h : 0 ≤ szMem left m) (hl : left ≤ 1048576) : m.fits 1048576 ∧ m.wt ≤ 8388608 := by
 unfold szMem at h
 split at h
 ·omega
 ·rename_i e1
  split at h
  ·omega
  ·rename_i e2
   have h1 := szPages_ge h0 (show 0 ≤ szPages left m.ram by omega)
   have h2 := szPages_ge (show 0 ≤ szPages left m.ram by omega) (show 0 ≤ szPages (szPages left m.ram) m.swp by omega)
   unfold szSpaces at h
   split at h
   ·omega
   ·rename_i e3
    obtain ⟨h3, h4⟩ := lessAll_ge (l := m.sp) (left := szPages (szPages left m.ram) m.swp - m.sp.length) (by omega) h
    simp only [Pages.wt] at h1 h2
    refine ⟨⟨by omega, by omega, by omega, by omega, by omega, fun s hs => ?_⟩, ?_⟩
    ·have := h4 s hs; omega
    ·simp only [Mem.wt, Pages.wt]; omega
theorem memOk_small {m : Mem} (h : memOk m = true) : m.fits 16 := by
 simp only [memOk, Bool.and_eq_true, decide_eq_true_eq] at h
 obtain ⟨⟨⟨⟨⟨⟨⟨⟨h1, h2⟩, h3⟩, h4⟩, h5⟩, h6⟩, h7⟩, h8⟩, h9⟩ := h
 simp only [pagesOk, Bool.and_eq_true, decide_eq_true_eq] at h1 h2
 refine ⟨by omega, by omega, by omega, by omega, by omega, fun s hs => ?_⟩
 have hs := List.all_eq_true.1 h7 s hs
 simp only [Bool.and_eq_true] at hs
 have hso := hs.1
 unfold spaceOk at hso
 split at hso
 ·simp only [Bool.and_eq_true, decide_eq_true_eq] at hso
  have := hso.1
  simp only [areasOk, Bool.and_eq_true, decide_eq_true_eq] at this
  omega
 ·simp only [Bool.and_eq_true, decide_eq_true_eq] at hso
  omega
theorem small_wt {m : Mem} (h : m.fits 16) : m.wt ≤ 100000 := by
 have hw : ∀ {l : List Space}, spFits 16 l → wts l ≤ 129 * l.length := by
  intro l
  induction l with
  | nil => intro _; simp [wts]
  | cons s l ih =>
   intro hs
   have h1 := ih fun x hx => hs x (List.mem_cons_of_mem _ hx)
   have h2 := hs s (List.mem_cons_self ..)
   simp only [wts, Space.wt, List.length_cons]
   omega
 have := hw h.ss
 have h1 := h.rt; have h2 := h.rr; have h3 := h.st; have h4 := h.sr; have h5 := h.sp
 simp only [Mem.wt, Pages.wt]
 omega
end Go.Qm
namespace Go.Qm
open Go.Cq Go.Cq.D Go.RowKit Go.Proofs
set_option maxRecDepth 10000
end Go.Qm
namespace Go.Qm
open Go.Cq Go.Cq.D Go.RowKit Go.Proofs
set_option maxRecDepth 10000
theorem fin_M {b r : Bool} {ts : DTs} (hl : lookT ts 2 = some (.v (.one (.sc (.bool b))))) (hr : r = b) : (X.ret = .nrm ∨ X.ret = .ret) ∧ lookT ts 2 = some (.v (.one (.sc (.bool r)))) := ⟨.inr rfl, by rw [hr]; exact hl⟩
set_option maxHeartbeats 4000000 in
theorem memOk_ok : MemOkC := by
 intro b1 b2 b3 b4 b5 m h
 refine callG_of hmix Try.func34 ok34 (Nat.le_of_ble_eq_true rfl) rfl rfl (fun U0 h0 c0 hU0 => ?_)
 have hf := h.mono (n' := 4611686018427387904) (by decide)
 refine wm_seq ?_
 refine wm_base (wc_base gT_stab ?_)
 (conv=>whnf)<;>repeat' first|(refine cond_t ?_;conv=>whnf)|(refine cond_f ?_;conv=>whnf)
 refine wm_seq ?_
 refine wm_base (wc_base gT_stab ?_)
 (conv=>whnf)<;>repeat' first|(refine cond_t ?_;conv=>whnf)|(refine cond_f ?_;conv=>whnf)
 refine op_callV [.pass] rfl rfl rfl (pagesOk_ok b1 b2 m.ram hf.rt hf.rr) rfl ?_
 (conv=>whnf)<;>repeat' first|(refine cond_t ?_;conv=>whnf)|(refine cond_f ?_;conv=>whnf)
 refine CondP.mk (fun h1 => ?_) (fun h1 => ?_) <;> rw [h1] <;> (conv=>whnf)<;>repeat' first|(refine cond_t ?_;conv=>whnf)|(refine cond_f ?_;conv=>whnf)
 ·exact fin_M rfl (by rw [memOk_head rfl, show pagesOk m.ram = false by simpa using h1]; simp)
 refine CondP.mk (fun h3 => ?_) (fun h3 => ?_) <;> rw [h3] <;> (conv=>whnf)<;>repeat' first|(refine cond_t ?_;conv=>whnf)|(refine cond_f ?_;conv=>whnf)
 ·exact fin_M rfl (by rw [memOk_head rfl, show decide (m.ram.rf.length = 12) = false by simp at h3 ⊢; omega]; simp)
 refine op_callV [.pass] rfl rfl rfl (pagesOk_ok b3 b4 m.swp hf.st hf.sr) rfl ?_
 (conv=>whnf)<;>repeat' first|(refine cond_t ?_;conv=>whnf)|(refine cond_f ?_;conv=>whnf)
 refine CondP.mk (fun h2 => ?_) (fun h2 => ?_) <;> rw [h2] <;> (conv=>whnf)<;>repeat' first|(refine cond_t ?_;conv=>whnf)|(refine cond_f ?_;conv=>whnf)
 ·exact fin_M rfl (by rw [memOk_head rfl, show pagesOk m.swp = false by simpa using h2]; simp)
 refine CondP.mk (fun h4 => ?_) (fun h4 => ?_) <;> rw [h4] <;> (conv=>whnf)<;>repeat' first|(refine cond_t ?_;conv=>whnf)|(refine cond_f ?_;conv=>whnf)
 ·exact fin_M rfl (by rw [memOk_head rfl, show decide (m.swp.rf.length = 12) = false by simp at h4 ⊢; omega]; simp)
 refine CondP.mk (fun h5 => ?_) (fun h5 => ?_) <;> rw [h5] <;> (conv=>whnf)<;>repeat' first|(refine cond_t ?_;conv=>whnf)|(refine cond_f ?_;conv=>whnf)
 ·exact fin_M rfl (by rw [memOk_head rfl, show decide (m.sp.length = 5) = false by simp at h5 ⊢; omega]; simp)
 refine op_callV [.pass, .pass, .pass] rfl rfl rfl (in_ok _ _ _) rfl ?_
 (conv=>whnf)<;>repeat' first|(refine cond_t ?_;conv=>whnf)|(refine cond_f ?_;conv=>whnf)
 refine CondP.mk (fun h6 => ?_) (fun h6 => ?_) <;> (conv=>whnf)<;>repeat' first|(refine cond_t ?_;conv=>whnf)|(refine cond_f ?_;conv=>whnf)
 ·exact fin_M rfl (by rw [memOk_head rfl, show inB m.hd 0 11 = false by simpa using h6]; simp)
 have hl1 : m.ram.rf.length = 12 := by simp at h3; omega
 have hl2 : m.swp.rf.length = 12 := by simp at h4; omega
 have hl5 : m.sp.length = 5 := by simp at h5; omega
 have hd := memOk_head (m := m) (b := true) (by simp at h1 h2 h6; simp [h1, h2, hl1, hl2, hl5, h6])
 rw [Bool.true_and] at hd
 refine wm_seq (wm_base (wc_reg (sg_mk0 fun mid => ?_)))
 refine sg_ds [⟨none, some 3, .cp 54⟩] [] rfl rfl (GT_stab ..) ?_
 (conv=>whnf)<;>repeat' first|(refine cond_t ?_;conv=>whnf)|(refine cond_f ?_;conv=>whnf)
 refine sg_nil ⟨GT_stab .., ?_⟩
 (conv=>whnf)<;>repeat' first|(refine cond_t ?_;conv=>whnf)|(refine cond_f ?_;conv=>whnf)
 refine wm_seq (wm_base (wc_seq (wc_base (GT_stab ..) ?_)))
 (conv=>whnf)<;>repeat' first|(refine cond_t ?_;conv=>whnf)|(refine cond_f ?_;conv=>whnf)
 refine wc_blk ?_
 refine wc_loop (fun q : Nat × Tl => [(1, .v (.one (.ptr 0 0 0))), (3, .v (.one (.sc (.mp mid)))), (56, .v (.one (.ro b5 3 (m.sp.map rP)))), (57, .v (.one (dI (m.sp.map rP).length))), (58, .v (.one (dI q.1)))]) (fun _ => [(0, bM b1 b2 b3 b4 b5 m)]) (fun _ => 1) (fun q => GT c0 mid q.2)
  (fun q => q.1 ≤ m.sp.length ∧ Tells m q.2 q.1 0 ∧ ∀ j (hj : j < m.sp.length), j < q.1 → spOk m.sp[j] = true) (fun q => m.sp.length - q.1) (0, []) ⟨by omega, Tells.zero m, by omega⟩ rfl rfl rfl rfl fun q hq => ?_
 obtain ⟨i, L⟩ := q
 obtain ⟨hi1, hi2, hi3⟩ := hq
 simp only at hi1 hi2 hi3
 refine wc_seq (wc_base (GT_stab ..) ?_)
 (conv=>whnf)<;>repeat' first|(refine cond_t ?_;conv=>whnf)|(refine cond_f ?_;conv=>whnf)
 refine wc_seq (wc_base (GT_stab ..) ?_)
 (conv=>whnf)<;>repeat' first|(refine cond_t ?_;conv=>whnf)|(refine cond_f ?_;conv=>whnf)
 refine CondP.mk (fun h7 => ?_) (fun h7 => ?_) <;> (conv=>whnf)<;>repeat' first|(refine cond_t ?_;conv=>whnf)|(refine cond_f ?_;conv=>whnf)
 ·have hlt : i < m.sp.length := by simp at h7; omega
  have hs := hf.ss _ (List.getElem_mem hlt)
  refine wc_seq (wc_blk (wc_seq (wc_base (GT_stab ..) ?_)))
  (conv=>whnf)<;>repeat' first|(refine cond_t ?_;conv=>whnf)|(refine cond_f ?_;conv=>whnf)
  refine op_idx_ro (k := i) rfl rfl (by simpa using hlt) ?_
  (conv=>whnf)<;>repeat' first|(refine cond_t ?_;conv=>whnf)|(refine cond_f ?_;conv=>whnf)
  refine op_load_rp rfl (ldP hlt) ?_
  (conv=>whnf)<;>repeat' first|(refine cond_t ?_;conv=>whnf)|(refine cond_f ?_;conv=>whnf)
  have no : spOk m.sp[i] = false → memOk m = false := fun e => by
   have : m.sp.all spOk = false := by
    rw [List.all_eq_false]
    exact ⟨_, List.getElem_mem hlt, by simp [e]⟩
   rw [hd, this]; rfl
  refine wc_seq (wc_base (GT_stab ..) ?_)
  (conv=>whnf)<;>repeat' first|(refine cond_t ?_;conv=>whnf)|(refine cond_f ?_;conv=>whnf)
  refine CondP.mk (fun h8 => ?_) (fun h8 => ?_) <;> (conv=>whnf)<;>repeat' first|(refine cond_t ?_;conv=>whnf)|(refine cond_f ?_;conv=>whnf)
  ·-- a dead one
   have hlv : m.sp[i].lv = false := by simpa using h8
   refine CondP.mk (fun h9 => ?_) (fun h9 => ?_) <;> rw [h9] <;> (conv=>whnf)<;>repeat' first|(refine cond_t ?_;conv=>whnf)|(refine cond_f ?_;conv=>whnf)
   ·refine fin_M rfl (no ?_)
    have : ¬ m.sp[i].ar.length = 0 := by simp at h9; omega
    simp [spOk, spaceOk, hlv, this]
   refine CondP.mk (fun ha => ?_) (fun ha => ?_) <;> (conv=>whnf)<;>repeat' first|(refine cond_t ?_;conv=>whnf)|(refine cond_f ?_;conv=>whnf)
   ·refine fin_M rfl (no ?_)
    have : ¬ m.sp[i].sl.length = 0 := by simp at ha; omega
    simp [spOk, spaceOk, hlv, this]
   ·have e1 : m.sp[i].ar.length = 0 := by simpa using h9
    have e2 : m.sp[i].sl.length = 0 := by simpa using ha
    refine wc_base (GT_stab ..) ?_
    (conv=>whnf)<;>repeat' first|(refine cond_t ?_;conv=>whnf)|(refine cond_f ?_;conv=>whnf)
    refine ⟨(i + 1, L), by simp only; omega, ⟨by simp only; omega, hi2.dead hlt e2, fun j hj hji => ?_⟩, ?_, rfl, rfl, rfl⟩
    ·by_cases e : j = i
     ·subst e
      simp only [spOk, spaceOk, hlv, e1, e2, decide_true, Bool.and_true, Bool.true_and, if_false, Bool.false_eq_true]
      rw [List.length_eq_zero_iff.1 e2]; rfl
     ·exact hi3 j hj (by simp only at hji; omega)
    ·simp only [up hlt (by omega)]; rfl
  have hlv : m.sp[i].lv = true := by simpa using h8
  refine wc_seq (wc_base (GT_stab ..) ?_)
  (conv=>whnf)<;>repeat' first|(refine cond_t ?_;conv=>whnf)|(refine cond_f ?_;conv=>whnf)
  refine op_callV [.pass] rfl rfl rfl (areasOk_ok b5 m.sp[i].ar hs.1) rfl ?_
  (conv=>whnf)<;>repeat' first|(refine cond_t ?_;conv=>whnf)|(refine cond_f ?_;conv=>whnf)
  refine CondP.mk (fun h9 => ?_) (fun h9 => ?_) <;> rw [h9] <;> (conv=>whnf)<;>repeat' first|(refine cond_t ?_;conv=>whnf)|(refine cond_f ?_;conv=>whnf)
  ·refine fin_M rfl (no ?_)
   simp [spOk, spaceOk, hlv, show areasOk m.sp[i].ar = false by simpa using h9]
  have h9 : areasOk m.sp[i].ar = true := by simpa using h9
  refine CondP.mk (fun ha => ?_) (fun ha => ?_) <;> (conv=>whnf)<;>repeat' first|(refine cond_t ?_;conv=>whnf)|(refine cond_f ?_;conv=>whnf)
  ·refine fin_M rfl (no ?_)
   have : ¬ m.sp[i].sl.length = 16 := by simp at ha; omega
   simp [spOk, spaceOk, hlv, this]
  have ha : m.sp[i].sl.length = 16 := by simp at ha; omega
  have hat : ∀ page : Int, areasAt m.sp[i].ar page = areaAt m.sp[i].ar page := fun page => by rw [areasAt, h9, if_pos rfl]
  refine wc_seq (wc_base (GT_stab ..) ?_)
  (conv=>whnf)<;>repeat' first|(refine cond_t ?_;conv=>whnf)|(refine cond_f ?_;conv=>whnf)
  refine wc_blk ?_
  refine wc_loop (fun q : Nat × Tl => [(1, .v (.one (.ptr 0 0 0))), (3, .v (.one (.sc (.mp mid)))), (5, .v (.one (.ptr 1 0 0))), (56, .v (.one (.ro b5 3 (m.sp.map rP)))), (57, .v (.one (dI (m.sp.map rP).length))), (58, .v (.one (dI i))), (86, .v (.one (.ro b5 4 (m.sp[i].sl.map rL)))), (87, .v (.one (dI (m.sp[i].sl.map rL).length))), (88, .v (.one (dI q.1)))])
   (fun _ => [(1, .box [dB m.sp[i].lv, .ro b5 4 (m.sp[i].ar.map rA), .ro b5 4 (m.sp[i].sl.map rL)]), (0, bM b1 b2 b3 b4 b5 m)]) (fun _ => 2) (fun q => GT c0 mid q.2)
   (fun q => q.1 ≤ m.sp[i].sl.length ∧ Tells m q.2 i q.1 ∧ ∀ j (hj : j < m.sp[i].sl.length), j < q.1 → slotOk m.sp[i].ar j m.sp[i].sl[j] = true ∧ plOk m.sp[i].sl[j] = true) (fun q => m.sp[i].sl.length - q.1) (0, L) ⟨by omega, hi2, by omega⟩ rfl rfl rfl rfl fun q hq => ?_
  obtain ⟨j, L⟩ := q
  obtain ⟨hj1, hj2, hj3⟩ := hq
  simp only at hj1 hj2 hj3
  refine wc_seq (wc_base (GT_stab ..) ?_)
  (conv=>whnf)<;>repeat' first|(refine cond_t ?_;conv=>whnf)|(refine cond_f ?_;conv=>whnf)
  refine wc_seq (wc_base (GT_stab ..) ?_)
  (conv=>whnf)<;>repeat' first|(refine cond_t ?_;conv=>whnf)|(refine cond_f ?_;conv=>whnf)
  refine CondP.mk (fun hb => ?_) (fun hb => ?_) <;> (conv=>whnf)<;>repeat' first|(refine cond_t ?_;conv=>whnf)|(refine cond_f ?_;conv=>whnf)
  ·have hlj : j < m.sp[i].sl.length := by simpa using hb
   have nos : (slotOk m.sp[i].ar j m.sp[i].sl[j] = false ∨ plOk m.sp[i].sl[j] = false) → memOk m = false := fun e => by
    cases hm : memOk m with
    | false => rfl
    | true =>
     rcases e with e | e
     ·rw [memOk_slot hm hlt hlj hlv] at e; simp at e
     ·have := List.all_eq_true.1 (memOk_sp hm hlt).2 _ (List.getElem_mem hlj)
      rw [this] at e; simp at e
   refine wc_seq (wc_blk (wc_seq (wc_base (GT_stab ..) ?_)))
   (conv=>whnf)<;>repeat' first|(refine cond_t ?_;conv=>whnf)|(refine cond_f ?_;conv=>whnf)
   refine op_idx_ro (k := j) rfl rfl (by simpa using hlj) ?_
   (conv=>whnf)<;>repeat' first|(refine cond_t ?_;conv=>whnf)|(refine cond_f ?_;conv=>whnf)
   refine op_load_rp rfl (ldL hlj) ?_
   (conv=>whnf)<;>repeat' first|(refine cond_t ?_;conv=>whnf)|(refine cond_f ?_;conv=>whnf)
   refine wc_seqJ (fun ts H n γ => ∃ v : Bool, ts = [(1, .v (.one (.ptr 0 0 0))), (3, .v (.one (.sc (.mp mid)))), (5, .v (.one (.ptr 1 0 0))), (6, .v (.one (dI j))), (7, .v (.one (.ptr 2 0 0))), (56, .v (.one (.ro b5 3 (m.sp.map rP)))), (57, .v (.one (dI (m.sp.map rP).length))), (58, .v (.one (dI i))), (86, .v (.one (.ro b5 4 (m.sp[i].sl.map rL)))), (87, .v (.one (dI (m.sp[i].sl.map rL).length))), (88, .v (.one (dI j))), (134, .v (.one (dB v)))] ∧
    H = [(2, .box [dI m.sp[i].sl[j].kd, dI m.sp[i].sl[j].pl, dB m.sp[i].sl[j].ow, dB m.sp[i].sl[j].us]), (1, .box [dB m.sp[i].lv, .ro b5 4 (m.sp[i].ar.map rA), .ro b5 4 (m.sp[i].sl.map rL)]), (0, bM b1 b2 b3 b4 b5 m)] ∧ n = 3 ∧ γ = GT c0 mid L ∧ slotOk m.sp[i].ar j m.sp[i].sl[j] = true ∧ plOk m.sp[i].sl[j] = true ∧ ¬ m.sp[i].sl[j].kd = 0) (wc_blk (wc_seq (wc_base (GT_stab ..) ?_))) ?_
   rotate_left
   ·rintro ts H n γ ⟨v, rfl, rfl, rfl, rfl, hs1, hs2, hs3⟩
    refine wc_seq (wc_base (GT_stab ..) ?_)
    (conv=>whnf)<;>repeat' first|(refine cond_t ?_;conv=>whnf)|(refine cond_f ?_;conv=>whnf)
    refine wc_tellL hU0 rfl rfl rfl rfl (fun p hp => by have := hj2.len p hp; omega) ?_
    (conv=>whnf)<;>repeat' first|(refine cond_t ?_;conv=>whnf)|(refine cond_f ?_;conv=>whnf)
    refine op_callV [.pass, .pass] rfl rfl rfl (shared_ok b5 b5 m.sp[i] j hs.1) rfl ?_
    (conv=>whnf)<;>repeat' first|(refine cond_t ?_;conv=>whnf)|(refine cond_f ?_;conv=>whnf)
    simp only [hat]
    refine op_lit rfl rfl rfl ?_
    (conv=>whnf)<;>repeat' first|(refine cond_t ?_;conv=>whnf)|(refine cond_f ?_;conv=>whnf)
    refine ⟨⟨(m.sp[i].sl[j].kd, m.sp[i].sl[j].pl), (m.sp[i].sl[j].ow, shOf m.sp[i].ar (areaAt m.sp[i].ar (j : Int))), _, rfl, rfl, rfl, rfl, ⟨rfl, rfl, rfl, rfl⟩, ?_⟩⟩
    (conv=>whnf)<;>repeat' first|(refine cond_t ?_;conv=>whnf)|(refine cond_f ?_;conv=>whnf)
    refine wc_base (GT_stab ..) ?_
    (conv=>whnf)<;>repeat' first|(refine cond_t ?_;conv=>whnf)|(refine cond_f ?_;conv=>whnf)
    refine ⟨(j + 1, addT (m.sp[i].sl[j].kd, m.sp[i].sl[j].pl) (m.sp[i].sl[j].ow, shOf m.sp[i].ar (areaAt m.sp[i].ar (j : Int))) L), by simp only; omega, ⟨by simp only; omega, hj2.add hlt hlj, fun j' hj' hjj => ?_⟩, ?_, rfl, rfl, rfl⟩
    ·by_cases e : j' = j
     ·subst e; exact ⟨hs1, hs2⟩
     ·exact hj3 j' hj' (by simp only at hjj; omega)
    ·simp only [up hlj (by omega)]; rfl
   (conv=>whnf)<;>repeat' first|(refine cond_t ?_;conv=>whnf)|(refine cond_f ?_;conv=>whnf)
   have e0 : (m.sp[i].sl[j].kd == 0 && (m.sp[i].sl[j].pl == 0 && (m.sp[i].sl[j].ow == false && (m.sp[i].sl[j].us == false && true)))) = decide (m.sp[i].sl[j] = slot0) := by
    rcases m.sp[i].sl[j] with ⟨k, p, o, u⟩
    rw [Bool.eq_iff_iff]
    simp [slot0]
   refine CondP.mk (fun hk => ?_) (fun hk => ?_) <;> rw [hk] <;> (conv=>whnf)<;>repeat' first|(refine cond_t ?_;conv=>whnf)|(refine cond_f ?_;conv=>whnf)
   ·have hk : m.sp[i].sl[j].kd = 0 := by simpa using hk
    refine wc_base (GT_stab ..) ?_
    (conv=>whnf)<;>repeat' first|(refine cond_t ?_;conv=>whnf)|(refine cond_f ?_;conv=>whnf)
    refine op_eqA rfl rfl rfl rfl rfl ?_
    (conv=>whnf)<;>repeat' first|(refine cond_t ?_;conv=>whnf)|(refine cond_f ?_;conv=>whnf)
    refine CondP.mk (fun h4 => ?_) (fun h4 => ?_) <;> (conv=>whnf)<;>repeat' first|(refine cond_t ?_;conv=>whnf)|(refine cond_f ?_;conv=>whnf)
    ·refine fin_M rfl (nos (.inl ?_))
     rw [e0] at h4
     rw [slotOk, if_pos hk]
     simpa using h4
    ·rw [e0] at h4
     have h4 : m.sp[i].sl[j] = slot0 := by simpa using h4
     refine wc_base (GT_stab ..) ?_
     (conv=>whnf)<;>repeat' first|(refine cond_t ?_;conv=>whnf)|(refine cond_f ?_;conv=>whnf)
     refine ⟨(j + 1, L), by simp only; omega, ⟨by simp only; omega, hj2.skip hlt hlj hk, fun j' hj' hjj => ?_⟩, ?_, rfl, rfl, rfl⟩
     ·by_cases e : j' = j
      ·subst e; exact ⟨by rw [slotOk, if_pos hk]; simpa using h4, by simp [plOk, hk]⟩
      ·exact hj3 j' hj' (by simp only at hjj; omega)
     ·simp only [up hlj (by omega)]; rfl
   have hk : ¬ m.sp[i].sl[j].kd = 0 := by simpa using hk
   refine op_callV [.pass, .pass] rfl rfl rfl (areasAt_ok b5 m.sp[i].ar j hs.1) rfl ?_
   (conv=>whnf)<;>repeat' first|(refine cond_t ?_;conv=>whnf)|(refine cond_f ?_;conv=>whnf)
   rw [hat]
   refine wc_cond rfl (fun hp => ?_) (fun hp => ?_)
   ·have hp : areaAt m.sp[i].ar j < 0 := by simpa using hp
    refine wc_base (GT_stab ..) ?_
    (conv=>whnf)<;>repeat' first|(refine cond_t ?_;conv=>whnf)|(refine cond_f ?_;conv=>whnf)
    refine op_eqA rfl rfl rfl rfl rfl ?_
    (conv=>whnf)<;>repeat' first|(refine cond_t ?_;conv=>whnf)|(refine cond_f ?_;conv=>whnf)
    refine CondP.mk (fun h4 => ?_) (fun h4 => ?_) <;> (conv=>whnf)<;>repeat' first|(refine cond_t ?_;conv=>whnf)|(refine cond_f ?_;conv=>whnf)
    ·refine fin_M rfl (nos (.inl ?_))
     rw [slotOk, if_neg hk, show decide (0 ≤ areaAt m.sp[i].ar (j : Int)) = false by simp; omega]; rfl
    ·exfalso
     rw [e0] at h4
     have h4 : m.sp[i].sl[j] = slot0 := by simpa using h4
     exact hk (by rw [h4]; rfl)
   have hp : 0 ≤ areaAt m.sp[i].ar j := by simp at hp; omega
   have hpb : decide (areaAt m.sp[i].ar (j : Int) < 0) = false := by simp; omega
   refine wc_seqJ (fun ts H n γ => ∃ v : Bool, ts = [(1, .v (.one (.ptr 0 0 0))), (3, .v (.one (.sc (.mp mid)))), (5, .v (.one (.ptr 1 0 0))), (6, .v (.one (dI j))), (7, .v (.one (.ptr 2 0 0))), (56, .v (.one (.ro b5 3 (m.sp.map rP)))), (57, .v (.one (dI (m.sp.map rP).length))), (58, .v (.one (dI i))), (86, .v (.one (.ro b5 4 (m.sp[i].sl.map rL)))), (87, .v (.one (dI (m.sp[i].sl.map rL).length))), (88, .v (.one (dI j))), (107, .v (.one (dB v)))] ∧
    H = [(2, .box [dI m.sp[i].sl[j].kd, dI m.sp[i].sl[j].pl, dB m.sp[i].sl[j].ow, dB m.sp[i].sl[j].us]), (1, .box [dB m.sp[i].lv, .ro b5 4 (m.sp[i].ar.map rA), .ro b5 4 (m.sp[i].sl.map rL)]), (0, bM b1 b2 b3 b4 b5 m)] ∧ n = 3 ∧ γ = GT c0 mid L ∧ (v = true → memOk m = false) ∧ (v = false → inB m.sp[i].sl[j].kd 1 2 = true ∧ plOk m.sp[i].sl[j] = true)) ?_ ?_
   ·refine wc_base (GT_stab ..) ?_
    (conv=>whnf)<;>repeat' first|(refine cond_t ?_;conv=>whnf)|(refine cond_f ?_;conv=>whnf)
    have noh : ∀ {p : Pages}, (m.sp[i].sl[j].kd = 1 ∧ p = m.ram ∨ m.sp[i].sl[j].kd = 2 ∧ p = m.swp) → (inB m.sp[i].sl[j].pl 0 (p.rf.length - 1) && decide (0 < p.rf[m.sp[i].sl[j].pl.toNat]?.getD 0)) = false → memOk m = false := fun {p} hp hh => by
     cases hm : memOk m with
     | false => rfl
     | true =>
      exfalso
      obtain ⟨k1, k2⟩ := has_of hm (List.getElem_mem hlt) (List.getElem_mem hlj)
      rcases hp with ⟨e, rfl⟩ | ⟨e, rfl⟩
      ·obtain ⟨q1, q2⟩ := k1 e
       rw [hl1, show ((12 : Nat) : Int) - 1 = 11 from rfl, q1] at hh
       simp at hh
       omega
      ·obtain ⟨q1, q2⟩ := k2 e
       rw [hl2, show ((12 : Nat) : Int) - 1 = 11 from rfl, q1] at hh
       simp at hh
       omega
    have nin : (!inB m.sp[i].sl[j].kd 1 2) = true → memOk m = false := fun e => nos (.inl (by rw [slotOk, if_neg hk, show inB m.sp[i].sl[j].kd 1 2 = false by simpa using e]; simp))
    refine CondP.mk (fun c1 => ?_) (fun c1 => ?_) <;> rw [c1] <;> (conv=>whnf)<;>repeat' first|(refine cond_t ?_;conv=>whnf)|(refine cond_f ?_;conv=>whnf)
    ·have c1 : m.sp[i].sl[j].kd = 1 := by simpa using c1
     refine op_callV [.pass, .pass] rfl rfl rfl (has_ok b1 b2 m.ram m.sp[i].sl[j].pl (by omega)) rfl ?_
     (conv=>whnf)<;>repeat' first|(refine cond_t ?_;conv=>whnf)|(refine cond_f ?_;conv=>whnf)
     refine CondP.mk (fun hh => ?_) (fun hh => ?_) <;> (conv=>whnf)<;>repeat' first|(refine cond_t ?_;conv=>whnf)|(refine cond_f ?_;conv=>whnf)
     ·exact ⟨_, rfl, rfl, rfl, rfl, fun _ => noh (.inl ⟨c1, rfl⟩) (by simpa only [Bool.not_eq_true'] using hh), fun e => by rw [hh] at e; simp at e⟩
     ·refine CondP.mk (fun c2 => ?_) (fun c2 => ?_) <;> rw [c2] <;> (conv=>whnf)<;>repeat' first|(refine cond_t ?_;conv=>whnf)|(refine cond_f ?_;conv=>whnf)
      ·simp at c2; omega
      ·refine op_callV [.pass, .pass, .pass] rfl rfl rfl (in_ok _ _ _) rfl ?_
       (conv=>whnf)<;>repeat' first|(refine cond_t ?_;conv=>whnf)|(refine cond_f ?_;conv=>whnf)
       refine ⟨_, rfl, rfl, rfl, rfl, nin, fun e => ⟨by simpa using e, ?_⟩⟩
       rw [hl1, show ((12 : Nat) : Int) - 1 = 11 from rfl] at hh
       simp only [Bool.not_eq_false', Bool.and_eq_true] at hh
       rw [plOk, hh.1, Bool.or_true]
    ·have c1 : ¬ m.sp[i].sl[j].kd = 1 := by simpa using c1
     refine CondP.mk (fun c2 => ?_) (fun c2 => ?_) <;> rw [c2] <;> (conv=>whnf)<;>repeat' first|(refine cond_t ?_;conv=>whnf)|(refine cond_f ?_;conv=>whnf)
     ·have c2 : m.sp[i].sl[j].kd = 2 := by simpa using c2
      refine op_callV [.pass, .pass] rfl rfl rfl (has_ok b3 b4 m.swp m.sp[i].sl[j].pl (by omega)) rfl ?_
      (conv=>whnf)<;>repeat' first|(refine cond_t ?_;conv=>whnf)|(refine cond_f ?_;conv=>whnf)
      refine CondP.mk (fun hh => ?_) (fun hh => ?_) <;> (conv=>whnf)<;>repeat' first|(refine cond_t ?_;conv=>whnf)|(refine cond_f ?_;conv=>whnf)
      ·exact ⟨_, rfl, rfl, rfl, rfl, fun _ => noh (.inr ⟨c2, rfl⟩) (by simpa only [Bool.not_eq_true'] using hh), fun e => by rw [hh] at e; simp at e⟩
      ·refine op_callV [.pass, .pass, .pass] rfl rfl rfl (in_ok _ _ _) rfl ?_
       (conv=>whnf)<;>repeat' first|(refine cond_t ?_;conv=>whnf)|(refine cond_f ?_;conv=>whnf)
       refine ⟨_, rfl, rfl, rfl, rfl, nin, fun e => ⟨by simpa using e, ?_⟩⟩
       rw [hl2, show ((12 : Nat) : Int) - 1 = 11 from rfl] at hh
       simp only [Bool.not_eq_false', Bool.and_eq_true] at hh
       rw [plOk, hh.1, Bool.or_true]
     ·have c2 : ¬ m.sp[i].sl[j].kd = 2 := by simpa using c2
      refine op_callV [.pass, .pass, .pass] rfl rfl rfl (in_ok _ _ _) rfl ?_
      (conv=>whnf)<;>repeat' first|(refine cond_t ?_;conv=>whnf)|(refine cond_f ?_;conv=>whnf)
      refine ⟨_, rfl, rfl, rfl, rfl, nin, fun e => ⟨by simpa using e, ?_⟩⟩
      simp only [Bool.not_eq_false', inB, Bool.and_eq_true, decide_eq_true_eq] at e
      omega
   ·rintro ts H n γ ⟨v, rfl, rfl, rfl, rfl, hv1, hv2⟩
    refine wc_base (GT_stab ..) ?_
    (conv=>whnf)<;>repeat' first|(refine cond_t ?_;conv=>whnf)|(refine cond_f ?_;conv=>whnf)
    refine CondP.mk (fun hv => ?_) (fun hv => ?_) <;> rw [hv] <;> (conv=>whnf)<;>repeat' first|(refine cond_t ?_;conv=>whnf)|(refine cond_f ?_;conv=>whnf)
    ·exact fin_M rfl (hv1 hv)
    obtain ⟨hin, hpl⟩ := hv2 hv
    refine op_callV [.pass, .pass] rfl rfl rfl (shared_ok b5 b5 m.sp[i] j hs.1) rfl ?_
    (conv=>whnf)<;>repeat' first|(refine cond_t ?_;conv=>whnf)|(refine cond_f ?_;conv=>whnf)
    rw [hat]
    refine CondP.mk (fun hsh => ?_) (fun hsh => ?_) <;> rw [hsh] <;> (conv=>whnf)<;>repeat' first|(refine cond_t ?_;conv=>whnf)|(refine cond_f ?_;conv=>whnf)
    ·refine CondP.mk (fun how => ?_) (fun how => ?_) <;> (conv=>whnf)<;>repeat' first|(refine cond_t ?_;conv=>whnf)|(refine cond_f ?_;conv=>whnf)
     ·refine fin_M rfl (nos (.inl ?_))
      rw [slotOk, if_neg hk, hsh]
      have : m.sp[i].sl[j].ow = false := by simpa using how
      simp [this]
     ·refine ⟨_, rfl, rfl, rfl, rfl, ?_, hpl, hk⟩
      have : m.sp[i].sl[j].ow = true := by simpa using how
      rw [slotOk, if_neg hk, hin, this]
      simp [hp]
    ·refine ⟨_, rfl, rfl, rfl, rfl, ?_, hpl, hk⟩
     rw [slotOk, if_neg hk, hin, hsh]
     simp [hp]
  ·have hje : j = m.sp[i].sl.length := by
                       have : ¬ j < m.sp[i].sl.length := by simpa using hb
                       omega
   refine wc_base (GT_stab ..) ?_
   (conv=>whnf)<;>repeat' first|(refine cond_t ?_;conv=>whnf)|(refine cond_f ?_;conv=>whnf)
   refine ⟨(i + 1, L), by simp only; omega, ⟨by simp only; omega, hj2.next hlt hje.symm (by omega), fun i' hi' hii => ?_⟩, ?_, rfl, rfl, rfl⟩
   ·by_cases e : i' = i
    ·subst e
     have h1 : slotsFrom m.sp[i'].ar 0 m.sp[i'].sl = true := slotsFrom_of fun j' x hx => by
      obtain ⟨hj', rfl⟩ := List.getElem?_eq_some_iff.1 hx
      rw [Nat.zero_add]
      exact (hj3 j' hj' (by omega)).1
     have h2 : m.sp[i'].sl.all plOk = true := List.all_eq_true.2 fun x hx => by
      obtain ⟨j', hj', rfl⟩ := List.getElem_of_mem hx
      exact (hj3 j' hj' (by omega)).2
     rw [spOk, spaceOk, if_pos hlv, h9, ha, h1, h2]; rfl
    ·exact hi3 i' hi' (by simp only at hii; omega)
   ·simp only [up hlt (by omega)]; rfl
 ·have hie : i = m.sp.length := by simp at h7; omega
  have hall : m.sp.all spOk = true := List.all_eq_true.2 fun x hx => by
   obtain ⟨j', hj', rfl⟩ := List.getElem_of_mem hx
   exact hi3 j' hj' (by omega)
  rw [hall, Bool.true_and] at hd
  have htell : ∀ {kd pl : Int}, kd ≠ 0 → lookL L (kd, pl) = tel kd pl m.sp := fun hk => hi2.all hie hk
  refine wm_seq (wm_seq (wm_base (wc_reg (sg_mk2 fun oid => ?_))))
  refine sg_dn 2 (G1_stab ..) rfl ?_
  (conv=>whnf)<;>repeat' first|(refine cond_t ?_;conv=>whnf)|(refine cond_f ?_;conv=>whnf)
  refine sg_set (p := m.ram) rfl rfl (by simp) ?_
  refine sg_dn 2 (G1_stab ..) rfl ?_
  (conv=>whnf)<;>repeat' first|(refine cond_t ?_;conv=>whnf)|(refine cond_f ?_;conv=>whnf)
  refine sg_set (p := m.swp) rfl rfl (by simp) ?_
  refine sg_dn 1 (G1_stab ..) rfl ?_
  (conv=>whnf)<;>repeat' first|(refine cond_t ?_;conv=>whnf)|(refine cond_f ?_;conv=>whnf)
  refine sg_rng rfl fun iid => ?_
  refine sg_nil ⟨G2_stab .., ?_⟩
  (conv=>whnf)<;>repeat' first|(refine cond_t ?_;conv=>whnf)|(refine cond_f ?_;conv=>whnf)
  let refJ : Nat → Bool := fun j => if j = 0 then refsOk 1 m.sp 0 m.ram.rf else refsOk 2 m.sp 0 m.swp.rf
  refine wm_blk ?_
  refine wm_loop (fun _ : List Nat => [(3, .v (.one (.sc (.mp mid)))), (169, .v (.one (.sc (.ptr iid 0))))]) (fun _ => []) (fun _ => 0) (fun seen => G2 c0 mid oid iid L [(1, m.ram), (2, m.swp)] seen)
   (fun seen => (seen = [] ∨ seen = [0] ∨ seen = [1] ∨ seen = [0, 1] ∨ seen = [1, 0]) ∧ ∀ j, j ∈ seen → refJ j = true) (fun seen => 2 - seen.length) [] ⟨.inl rfl, by simp⟩ rfl rfl rfl rfl fun seen hseen => ?_
  obtain ⟨hs1, hs2⟩ := hseen
  refine wm_seq (wm_nxt rfl rfl (fun hend => ⟨G2_stab .., ?_⟩) (fun j hj hjn => ⟨G2_stab .., ?_⟩))
  ·(conv=>whnf)<;>repeat' first|(refine cond_t ?_;conv=>whnf)|(refine cond_f ?_;conv=>whnf)
   refine wm_base (wc_seq (wc_base (G2_stab ..) ?_))
   (conv=>whnf)<;>repeat' first|(refine cond_t ?_;conv=>whnf)|(refine cond_f ?_;conv=>whnf)
   refine wm_base (wc_base (G2_stab ..) ?_)
   (conv=>whnf)<;>repeat' first|(refine cond_t ?_;conv=>whnf)|(refine cond_f ?_;conv=>whnf)
   refine fin_M rfl ?_
   have r0 := hs2 0 (hend 0 (by simp))
   have r1 := hs2 1 (hend 1 (by simp))
   simp only [refJ, if_true] at r0 r1
   rw [if_neg (by decide)] at r1
   rw [hd, r0, r1]; rfl
  ·(conv=>whnf)<;>repeat' first|(refine cond_t ?_;conv=>whnf)|(refine cond_f ?_;conv=>whnf)
   obtain ⟨kd, pg, hp, hkd, hrl, href⟩ : ∃ (kd : Int) (pg : Pages), [((1 : Int), m.ram), (2, m.swp)][j]? = some (kd, pg) ∧ kd ≠ 0 ∧ pg.rf.length = 12 ∧ refsOk kd m.sp 0 pg.rf = refJ j := by
    match j, hj with
    | 0, _ => exact ⟨1, m.ram, rfl, by decide, hl1, rfl⟩
    | 1, _ => exact ⟨2, m.swp, rfl, by decide, hl2, rfl⟩
   have hno : refsOk kd m.sp 0 pg.rf = false → memOk m = false := fun e => by
    rw [hd]
    match j, hj with
    | 0, _ => rw [href] at e; simp only [refJ, if_true] at e; rw [e]; rfl
    | 1, _ => rw [href] at e; simp only [refJ] at e; rw [if_neg (by decide)] at e; rw [e]; simp
   refine wm_base (wc_seq (wc_base (G2_stab ..) ?_))
   (conv=>whnf)<;>repeat' first|(refine cond_t ?_;conv=>whnf)|(refine cond_f ?_;conv=>whnf)
   refine wc_blk (wc_seq (wc_reg (sg_ety rfl hp ?_)))
   refine sg_dn 5 (G2_stab ..) rfl ?_
   (conv=>whnf)<;>repeat' first|(refine cond_t ?_;conv=>whnf)|(refine cond_f ?_;conv=>whnf)
   refine sg_nil ⟨G2_stab .., ?_⟩
   (conv=>whnf)<;>repeat' first|(refine cond_t ?_;conv=>whnf)|(refine cond_f ?_;conv=>whnf)
   refine wc_seq (wc_base (G2_stab ..) ?_)
   (conv=>whnf)<;>repeat' first|(refine cond_t ?_;conv=>whnf)|(refine cond_f ?_;conv=>whnf)
   refine wc_blk ?_
   refine wc_loop (fun a : Nat => [(3, .v (.one (.sc (.mp mid)))), (9, .v (.one (dI kd))), (169, .v (.one (.sc (.ptr iid 0)))), (176, .v (.one (.ro true 1 (pg.rf.map rI)))), (177, .v (.one (dI (pg.rf.map rI).length))), (178, .v (.one (dI a)))]) (fun _ => []) (fun _ => 0) (fun _ => G2 c0 mid oid iid L [(1, m.ram), (2, m.swp)] (seen ++ [j]))
    (fun a => a ≤ pg.rf.length ∧ refsOk kd m.sp 0 pg.rf = refsOk kd m.sp a (pg.rf.drop a)) (fun a => pg.rf.length - a) 0 ⟨by omega, by simp⟩ rfl rfl rfl rfl fun a ha => ?_
   obtain ⟨ha1, ha2⟩ := ha
   refine wc_seq (wc_base (G2_stab ..) ?_)
   (conv=>whnf)<;>repeat' first|(refine cond_t ?_;conv=>whnf)|(refine cond_f ?_;conv=>whnf)
   refine wc_seq (wc_base (G2_stab ..) ?_)
   (conv=>whnf)<;>repeat' first|(refine cond_t ?_;conv=>whnf)|(refine cond_f ?_;conv=>whnf)
   refine CondP.mk (fun hb => ?_) (fun hb => ?_) <;> (conv=>whnf)<;>repeat' first|(refine cond_t ?_;conv=>whnf)|(refine cond_f ?_;conv=>whnf)
   ·have hla : a < pg.rf.length := by simpa using hb
    rw [refsOk_step hla] at ha2
    have no2 : refOk kd m.sp a pg.rf[a] = false → memOk m = false := fun e => hno (by rw [ha2, e]; rfl)
    refine wc_seq (wc_blk (wc_seq (wc_base (G2_stab ..) ?_)))
    (conv=>whnf)<;>repeat' first|(refine cond_t ?_;conv=>whnf)|(refine cond_f ?_;conv=>whnf)
    refine op_idx_ro (k := a) rfl rfl (by simpa using hla) ?_
    (conv=>whnf)<;>repeat' first|(refine cond_t ?_;conv=>whnf)|(refine cond_f ?_;conv=>whnf)
    refine op_load_rp rfl (r := .one (dI pg.rf[a])) (by simp [loadRp, rI, hla, eI, PV.dc, dI]) ?_
    (conv=>whnf)<;>repeat' first|(refine cond_t ?_;conv=>whnf)|(refine cond_f ?_;conv=>whnf)
    refine wc_seq (wc_reg (sg_dn 4 (G2_stab ..) rfl ?_))
    (conv=>whnf)<;>repeat' first|(refine cond_t ?_;conv=>whnf)|(refine cond_f ?_;conv=>whnf)
    refine sg_look (k := (kd, (a : Int))) rfl rfl ?_
    rw [htell hkd]
    refine sg_dn 1 (G2_stab ..) rfl ?_
    (conv=>whnf)<;>repeat' first|(refine cond_t ?_;conv=>whnf)|(refine cond_f ?_;conv=>whnf)
    refine sg_nil ⟨G2_stab .., ?_⟩
    (conv=>whnf)<;>repeat' first|(refine cond_t ?_;conv=>whnf)|(refine cond_f ?_;conv=>whnf)
    have hrefT : refOk kd m.sp a pg.rf[a] = (decide (((tel kd (a : Int) m.sp).length : Int) = pg.rf[a]) && alone (tel kd (a : Int) m.sp)) := rfl
    have hTl : (tel kd (a : Int) m.sp).length ≤ 4611686018427387904 := by
     have := tel_len (kd := kd) (pl := (a : Int)) (n := 16) (l := m.sp) fun s hs => by
      have := List.all_eq_true.1 hall s hs
      simp only [spOk, Bool.and_eq_true] at this
      exact spaceOk_len this.1
     omega
    generalize tel kd (a : Int) m.sp = T at *
    refine wc_base (G2_stab ..) ?_
    (conv=>whnf)<;>repeat' first|(refine cond_t ?_;conv=>whnf)|(refine cond_f ?_;conv=>whnf)
    refine CondP.mk (fun h8 => ?_) (fun h8 => ?_) <;> (conv=>whnf)<;>repeat' first|(refine cond_t ?_;conv=>whnf)|(refine cond_f ?_;conv=>whnf)
    ·refine fin_M rfl (no2 ?_)
     rw [hrefT, show decide ((T.length : Int) = pg.rf[a]) = false by simpa using h8]; rfl
    have hlen : (T.length : Int) = pg.rf[a] := by simpa using h8
    have bad : ∀ {x y : Nat}, x < T.length → y < T.length → pairOkT T x y = false → memOk m = false := fun hx hy e => no2 (by rw [hrefT, alone_not hx hy e]; simp)
    refine loop_at (fun x : Nat => [(3, .v (.one (.sc (.mp mid)))), (9, .v (.one (dI kd))), (13, .v (.one (.ro true 2 (T.map rT)))), (169, .v (.one (.sc (.ptr iid 0)))), (176, .v (.one (.ro true 1 (pg.rf.map rI)))), (177, .v (.one (dI (pg.rf.map rI).length))), (178, .v (.one (dI a))), (192, .v (.one (.ro true 2 (T.map rT)))), (193, .v (.one (dI (T.map rT).length))), (194, .v (.one (dI x)))]) (fun _ => []) (fun _ => 0) (fun x => x ≤ T.length ∧ ∀ x' y', x' < x → y' < T.length → pairOkT T x' y' = true) (fun x => T.length - x) 0 ⟨by omega, by omega⟩ rfl rfl rfl fun x hx => ?_
    obtain ⟨hx1, hx2⟩ := hx
    (conv=>whnf)<;>repeat' first|(refine cond_t ?_;conv=>whnf)|(refine cond_f ?_;conv=>whnf)
    refine CondP.mk (fun h9 => ?_) (fun h9 => ?_) <;> (conv=>whnf)<;>repeat' first|(refine cond_t ?_;conv=>whnf)|(refine cond_f ?_;conv=>whnf)
    ·have hlx : x < T.length := by simpa using h9
     refine op_idx_ro (k := x) rfl rfl (by simpa using hlx) ?_
     (conv=>whnf)<;>repeat' first|(refine cond_t ?_;conv=>whnf)|(refine cond_f ?_;conv=>whnf)
     refine op_load_rp rfl (r := .agg [dB T[x].1, dB T[x].2]) (by simp [loadRp, rT, hlx, eB, PV.dc, dB]) ?_
     (conv=>whnf)<;>repeat' first|(refine cond_t ?_;conv=>whnf)|(refine cond_f ?_;conv=>whnf)
     refine loop_at (fun y : Nat => [(3, .v (.one (.sc (.mp mid)))), (9, .v (.one (dI kd))), (13, .v (.one (.ro true 2 (T.map rT)))), (14, .v (.one (dI x))), (15, .v (.one (.ptr 0 0 0))), (169, .v (.one (.sc (.ptr iid 0)))), (176, .v (.one (.ro true 1 (pg.rf.map rI)))), (177, .v (.one (dI (pg.rf.map rI).length))), (178, .v (.one (dI a))), (192, .v (.one (.ro true 2 (T.map rT)))), (193, .v (.one (dI (T.map rT).length))), (194, .v (.one (dI x))), (199, .v (.one (.ro true 2 (T.map rT)))), (200, .v (.one (dI (T.map rT).length))), (201, .v (.one (dI y)))]) (fun _ => [(0, .box [dB T[x].1, dB T[x].2])]) (fun _ => 1) (fun y => y ≤ T.length ∧ ∀ y', y' < y → pairOkT T x y' = true) (fun y => T.length - y) 0 ⟨by omega, by omega⟩ rfl rfl rfl fun y hy => ?_
     obtain ⟨hy1, hy2⟩ := hy
     (conv=>whnf)<;>repeat' first|(refine cond_t ?_;conv=>whnf)|(refine cond_f ?_;conv=>whnf)
     refine CondP.mk (fun hc => ?_) (fun hc => ?_) <;> (conv=>whnf)<;>repeat' first|(refine cond_t ?_;conv=>whnf)|(refine cond_f ?_;conv=>whnf)
     ·have hly : y < T.length := by simpa using hc
      refine op_idx_ro (k := y) rfl rfl (by simpa using hly) ?_
      (conv=>whnf)<;>repeat' first|(refine cond_t ?_;conv=>whnf)|(refine cond_f ?_;conv=>whnf)
      refine op_load_rp rfl (r := .agg [dB T[y].1, dB T[y].2]) (by simp [loadRp, rT, hly, eB, PV.dc, dB]) ?_
      (conv=>whnf)<;>repeat' first|(refine cond_t ?_;conv=>whnf)|(refine cond_f ?_;conv=>whnf)
      have pe : pairOkT T x y = (decide (x = y) || !(T[x].1 && !(T[x].2 && T[y].2))) := by simp [pairOkT, hlx, hly]
      have nexty : pairOkT T x y = true → ∀ y', y' < y + 1 → pairOkT T x y' = true := fun e y' hy' => by
       by_cases e2 : y' = y
       ·subst e2; exact e
       ·exact hy2 y' (by omega)
      refine CondP.mk (fun d1 => ?_) (fun d1 => ?_) <;> rw [d1] <;> (conv=>whnf)<;>repeat' first|(refine cond_t ?_;conv=>whnf)|(refine cond_f ?_;conv=>whnf)
      ·have d1 : ¬ x = y := by simp at d1; omega
       refine CondP.mk (fun d2 => ?_) (fun d2 => ?_) <;> rw [d2] <;> (conv=>whnf)<;>repeat' first|(refine cond_t ?_;conv=>whnf)|(refine cond_f ?_;conv=>whnf)
       ·refine CondP.mk (fun d3 => ?_) (fun d3 => ?_) <;> rw [d3] <;> (conv=>whnf)<;>repeat' first|(refine cond_t ?_;conv=>whnf)|(refine cond_f ?_;conv=>whnf)
        ·refine CondP.mk (fun d4 => ?_) (fun d4 => ?_) <;> (conv=>whnf)<;>repeat' first|(refine cond_t ?_;conv=>whnf)|(refine cond_f ?_;conv=>whnf)
         ·exact fin_M rfl (bad hlx hly (by rw [pe, d2, d3, show T[y].2 = false by simpa using d4]; simp [d1]))
         ·refine ⟨y + 1, by omega, ⟨by omega, nexty (by rw [pe, d2, d3, show T[y].2 = true by simpa using d4]; simp)⟩, ?_, rfl, rfl⟩
          rw [up hly hTl]; rfl
        ·exact fin_M rfl (bad hlx hly (by rw [pe, d2, d3]; simp [d1]))
       ·refine ⟨y + 1, by omega, ⟨by omega, nexty (by rw [pe, d2]; simp)⟩, ?_, rfl, rfl⟩
        rw [up hly hTl]; rfl
      ·have d1 : x = y := by simp at d1; omega
       refine ⟨y + 1, by omega, ⟨by omega, nexty (by rw [pe]; simp [d1])⟩, ?_, rfl, rfl⟩
       rw [up hly hTl]; rfl
     ·have hye : y = T.length := by
                     have : ¬ y < T.length := by simpa using hc
                     omega
      refine ⟨x + 1, by omega, ⟨by omega, fun x' y' hx' hy' => ?_⟩, ?_, rfl, rfl⟩
      ·by_cases e : x' = x
       ·subst e; exact hy2 y' (by omega)
       ·exact hx2 x' y' (by omega) hy'
      ·rw [up hlx hTl]; rfl
    ·have hxe : x = T.length := by
                    have : ¬ x < T.length := by simpa using h9
                    omega
     have hal : alone T = true := alone_of fun x' y' hx' hy' => hx2 x' y' (by omega) hy'
     refine wc_base (G2_stab ..) ?_
     (conv=>whnf)<;>repeat' first|(refine cond_t ?_;conv=>whnf)|(refine cond_f ?_;conv=>whnf)
     refine ⟨a + 1, by omega, ⟨by omega, ?_⟩, ?_, rfl, rfl, rfl⟩
     ·rw [ha2, hrefT, hal, decide_eq_true hlen]; rfl
     ·rw [up hla (by omega)]; rfl
   ·have hae : a = pg.rf.length := by
                     have : ¬ a < pg.rf.length := by simpa using hb
                     omega
    subst hae
    rw [List.drop_length] at ha2
    simp only [refsOk] at ha2
    refine ⟨seen ++ [j], [3, 169], ?_, ⟨?_, fun j' hj' => ?_⟩, rfl, rfl, rfl, rfl⟩
    ·simp only [List.length_append, List.length_cons, List.length_nil]
     rcases hs1 with rfl | rfl | rfl | rfl | rfl <;> simp at hjn ⊢
     all_goals (simp at hj; omega)
    ·simp only [List.length_cons, List.length_nil] at hj
     have : j = 0 ∨ j = 1 := by omega
     rcases hs1 with rfl | rfl | rfl | rfl | rfl <;> rcases this with rfl | rfl <;> simp at hjn ⊢
    ·rcases List.mem_append.1 hj' with hj' | hj'
     ·exact hs2 j' hj'
     ·simp only [List.mem_singleton] at hj'
      subst hj'
      rw [← href, ha2]
end Go.Qm
