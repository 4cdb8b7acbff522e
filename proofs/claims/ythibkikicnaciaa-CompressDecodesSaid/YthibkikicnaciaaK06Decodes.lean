/-
  PROVED HERE: CompressDecodes returns true: the tokens and the data of any chunk are as specified, or the errors.
  Of every input that the statement names; its condition: none.
-/
import Derived.Test.YthibkikicnaciaaRows
import Derived.Test.YthibkikicnaciaaChain
import Derived.Test.YthibkikicnaciaaDv3
namespace Go.Proofs.Ythibkikicnaciaa.compressDecodes
open Go.ChangeShapes Go.WideShapes Go.ChangeAt Go.RowKit Go.ChangeMaps Go.Dv Go.Dv.Try
set_option linter.unusedVariables false

theorem own : ownKnob Try.prog.godebug = none := by kernel_rfl
theorem laidOut : laidOutB Try.prog = true := by kernel_rfl
theorem sig : sigOf Try.prog [9] = ([(false, [.str])] : List (Bool × List CT)).map (fun p => (p.1, some p.2)) := by kernel_rfl

set_option maxRecDepth 100000 in
theorem lifted (os : Os) (started : os.Started) (H : Type) (enc : TypeId × Value → H) :
    ReturnsInHanded {} Try.checked os 9 .any (Rows.compressDecodesSpec.pre6 enc Try.prog Try.f9 Rows.compressDecodesRow.domain false) (Rows.compressDecodesSpec.post enc Try.prog Try.f9 false true false false) := by
  refine returnsInHanded_of_change (C := Try.checked) own started (by kernel_rfl) Try.func9
    (ChangeSpec.witness6 (enc := enc) (C := Try.checked) false ⟨#[], #[.string ⟨#[]⟩], []⟩ 8 (by kernel_rfl) (by kernel_rfl) (by kernel_rfl) (by kernel_rfl)) ?_
  intro W base args ds gs before hval0 hW hcnd _
  have hval : ∀ (j : Nat) t v, Try.f9.params[j]? = some t → args[j]? = some v → Value.okWide Try.prog W .any base t v := hval0
  have hW' := hW
  obtain ⟨p, q, hA0, hV, rfl, hfz, hnd⟩ := hW
  have hA : DataW.TrodAll enc Try.prog W 0 (fun _ => true) true Try.f9.params.toList args.toList ds p := hA0
  rw [Try.params9] at hA hval
  refine (calls_law sd_law06_CompressDecodes rfl (sig := [(false, [.str])]) run_d sig (fun j t v ht hv => hval j t v (by simpa using ht) (by simpa using hv)) hA).mono fun e W' ⟨he, hb⟩ => ?_
  subst he
  refine ⟨_, rfl, post_true laidOut (tb := 4) ?_ rfl Try.underlying4 rfl ?_ hW' hb⟩
  · rw [Try.params9]
    decide +kernel
  · obtain ⟨rfl, rfl⟩ := trodVars_none hV
    obtain ⟨v0, vs0, d0, ds0, p0, q0, hargs, rfl, rfl, h0, r0⟩ := trodAll_cons hA
    obtain ⟨rfl, rfl, rfl⟩ := trodAll_nil r0
    rfl

theorem over : Rows.compressDecodesRow.holds Try.pinned (OpenSpec.ofChange Rows.compressDecodesSpec) :=
  OpenClaim.holds_of_wide 9 Try.f9 rfl rfl rfl rfl rfl rfl rfl ⟨rfl, rfl, rfl, rfl, rfl⟩ rfl rfl rfl rfl rfl (by kernel_rfl) Try.func9 (by kernel_rfl)
    (of_decide_eq_true (by kernel_rfl)) (by unfold Func.isWrapper; first | (rw [if_pos (by decide +kernel)]; kernel_rfl) | (rw [if_neg (by decide +kernel)]; exact ⟨rfl, rfl⟩))
    (fun os started H enc _ => lifted os started H enc)

theorem proved : Rows.CompressDecodesSaid :=
  over
#print axioms proved
end Go.Proofs.Ythibkikicnaciaa.compressDecodes
