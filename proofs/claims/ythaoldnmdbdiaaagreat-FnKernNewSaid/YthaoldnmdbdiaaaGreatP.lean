/- Rows.FnKernNewSaid: every call returns true and leaves its input as it was. No condition. The law's code was read into a small evaluator, which is proved right against the machine; the kernel ran the evaluator. -/
import Derived.Test.YthaoldnmdbdiaaaGreatRows
import Derived.WalkKit
import Derived.Test.YthaoldnmdbdiaaaGreatR
import Derived.ProofKit
import Derived.OpenShut
namespace Go.Proofs.YthaoldnmdbdiaaaGreat.fnKernNew
open Go.ChangeShapes Go.WideShapes Go.ChangeAt Go.RowKit

theorem cellsE : Tryz.prog.cellsOf 5 = 1 := by kernel_rfl

theorem own : ownKnob Tryz.prog.godebug = none := by kernel_rfl

theorem walk {v0 : Value} (hv0 : v0 = .slice none 0 0 ∨ ∃ b off len cap, v0 = .slice (some ⟨b, off, none⟩) len cap ∧ len ≤ cap) (w : World) :
    Calls Tryz.prog 3 #[v0] w fun e w' => e = .returned (.bool true) ∧ Go.Cq.Old w w' :=
  Go.Cq.calls_yes1 Go.Cq.hmix Go.Cq.hgt hv0 (Go.Cq.hrun hv0) w

set_option maxRecDepth 100000 in
theorem lifted (os : Os) (started : os.Started) (H : Type) (enc : TypeId × Value → H) :
    ReturnsInHanded {} Tryz.checked os 3 .any (Rows.fnKernNewSpec.pre6 enc Tryz.prog Tryz.f3 Rows.fnKernNewRow.domain false) (Rows.fnKernNewSpec.post enc Tryz.prog Tryz.f3 false true false false) := by
  refine returnsInHanded_of_change (C := Tryz.checked) own started (by kernel_rfl) Tryz.func3
    (ChangeSpec.witness6 (enc := enc) (C := Tryz.checked) false ⟨#[], #[.slice none 0 0], []⟩ 8 (by kernel_rfl) (by kernel_rfl) (by kernel_rfl) (by kernel_rfl)) ?_
  intro W base args ds gs before hval0 hW hcnd _
  have hval : ∀ (j : Nat) t v, Tryz.f3.params[j]? = some t → args[j]? = some v → Value.okWide Tryz.prog W .any base t v := hval0
  have hW' := hW
  obtain ⟨p, q, hA0, hV, rfl, hfz, hnd⟩ := hW
  have hA : DataW.TrodAll enc Tryz.prog W 0 (fun _ => true) true Tryz.f3.params.toList args.toList ds p := hA0
  rw [Tryz.params3] at hA hval
  obtain ⟨v0, vs0, d0, ds0, p0, q0, hargs, rfl, rfl, t0, r0⟩ := trodAll_cons hA
  obtain ⟨rfl, rfl, rfl⟩ := trodAll_nil r0
  obtain rfl : args = #[v0] := by cases args; simp_all
  obtain ⟨rfl, rfl⟩ := trodVars_none hV
  obtain ⟨hb0, hv0⟩ := Go.Cq.bytes_arg Tryz.underlying22 Tryz.underlying5 cellsE (hval 0 22 v0 rfl rfl) t0
  clear hA0 hval0
  simp only [List.append_nil] at hW'
  refine (walk hv0 W).mono fun e W' ⟨he, hg⟩ => ?_
  subst he
  exact ⟨_, rfl, Go.Cq.post_of_old (pa := (p0 ++ [])) (pv := []) hW' (fun _ _ _ => (trodAll_cons_mk (shut_bool Tryz.underlying4 _) trodAll_mk0)) (fun sp hsp => (trodAll_cons_mk (hb0 W' hg sp (fun q hq => hsp q (by simp [hq]))) trodAll_mk0)) (fun _ _ => rfl) (by simp)
    hg (ok_one (by kernel_rfl) rfl (okWide_bool_mk Tryz.underlying4 _))⟩

theorem over : Rows.fnKernNewRow.holds Tryz.pinned (OpenSpec.ofChange Rows.fnKernNewSpec) :=
  OpenClaim.holds_of_wide 3 Tryz.f3 rfl rfl rfl rfl rfl rfl rfl ⟨rfl, rfl, rfl, rfl, rfl⟩ rfl rfl rfl rfl rfl (by kernel_rfl) Tryz.func3 (by kernel_rfl)
    (of_decide_eq_true (by kernel_rfl)) (by unfold Func.isWrapper; first | (rw [if_pos (by decide +kernel)]; kernel_rfl) | (rw [if_neg (by decide +kernel)]; exact ⟨rfl, rfl⟩))
    (fun os started H enc _ => lifted os started H enc)

theorem proved : Rows.FnKernNewSaid :=
  over
#print axioms proved
end Go.Proofs.YthaoldnmdbdiaaaGreat.fnKernNew
