/-
  PROVED HERE: BitmapFits returns true: what is found, and what is gathered, can be marked, and no fewer runs have so many bits.
  Of every input that the statement names; its condition: none.
-/
import Derived.Test.YteiglmkppgjcbaaRows
import Derived.Test.YteiglmkppgjcbaaChain
import Derived.Test.YteiglmkppgjcbaaDv5
namespace Go.Proofs.Yteiglmkppgjcbaa.bitmapFits
open Go.ChangeShapes Go.WideShapes Go.ChangeAt Go.RowKit Go.ChangeMaps Go.Dv Go.Dv.Try
set_option linter.unusedVariables false

theorem own : ownKnob Try.prog.godebug = none := by kernel_rfl
theorem laidOut : laidOutB Try.prog = true := by kernel_rfl
theorem sig : sigOf Try.prog [9, 3, 54] = ([(false, [.str]), (false, [.int .i64]), (true, [.int .i64, .int .i64])] : List (Bool × List CT)).map (fun p => (p.1, some p.2)) := by kernel_rfl

set_option maxRecDepth 100000 in
theorem lifted (os : Os) (started : os.Started) (H : Type) (enc : TypeId × Value → H) :
    ReturnsInHanded {} Try.checked os 7 .any (Rows.bitmapFitsSpec.pre6 enc Try.prog Try.f7 Rows.bitmapFitsRow.domain false) (Rows.bitmapFitsSpec.post enc Try.prog Try.f7 false true false false) := by
  refine returnsInHanded_of_change (C := Try.checked) own started (by kernel_rfl) Try.func7
    (ChangeSpec.witness6 (enc := enc) (C := Try.checked) false ⟨#[], #[.string ⟨#[]⟩, .int .i64 0, .agg #[.int .i64 0, .int .i64 0]], []⟩ 8 (by kernel_rfl) (by kernel_rfl) (by kernel_rfl) (by kernel_rfl)) ?_
  intro W base args ds gs before hval0 hW hcnd _
  have hval : ∀ (j : Nat) t v, Try.f7.params[j]? = some t → args[j]? = some v → Value.okWide Try.prog W .any base t v := hval0
  have hW' := hW
  obtain ⟨p, q, hA0, hV, rfl, hfz, hnd⟩ := hW
  have hA : DataW.TrodAll enc Try.prog W 0 (fun _ => true) true Try.f7.params.toList args.toList ds p := hA0
  rw [Try.params7] at hA hval
  refine (calls_law sd_law04_BitmapFits_R_lawFits rfl (sig := [(false, [.str]), (false, [.int .i64]), (true, [.int .i64, .int .i64])]) run_fits sig (fun j t v ht hv => hval j t v (by simpa using ht) (by simpa using hv)) hA).mono fun e W' ⟨he, hb⟩ => ?_
  subst he
  refine ⟨_, rfl, post_true laidOut (tb := 4) ?_ rfl Try.underlying4 rfl ?_ hW' hb⟩
  · rw [Try.params7]
    decide +kernel
  · obtain ⟨rfl, rfl⟩ := trodVars_none hV
    obtain ⟨v0, vs0, d0, ds0, p0, q0, hargs, rfl, rfl, h0, r0⟩ := trodAll_cons hA
    obtain ⟨v1, vs1, d1, ds1, p1, q1, rfl, rfl, rfl, h1, r1⟩ := trodAll_cons r0
    obtain ⟨v2, vs2, d2, ds2, p2, q2, rfl, rfl, rfl, h2, r2⟩ := trodAll_cons r1
    obtain ⟨rfl, rfl, rfl⟩ := trodAll_nil r2
    rfl

theorem over : Rows.bitmapFitsRow.holds Try.pinned (OpenSpec.ofChange Rows.bitmapFitsSpec) :=
  OpenClaim.holds_of_wide 7 Try.f7 rfl rfl rfl rfl rfl rfl rfl ⟨rfl, rfl, rfl, rfl, rfl⟩ rfl rfl rfl rfl rfl (by kernel_rfl) Try.func7 (by kernel_rfl)
    (of_decide_eq_true (by kernel_rfl)) (by unfold Func.isWrapper; first | (rw [if_pos (by decide +kernel)]; kernel_rfl) | (rw [if_neg (by decide +kernel)]; exact ⟨rfl, rfl⟩))
    (fun os started H enc _ => lifted os started H enc)

theorem proved : Rows.BitmapFitsSaid :=
  over
#print axioms proved
end Go.Proofs.Yteiglmkppgjcbaa.bitmapFits
