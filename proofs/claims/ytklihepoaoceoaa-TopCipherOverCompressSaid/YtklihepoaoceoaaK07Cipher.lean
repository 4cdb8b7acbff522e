/-
  PROVED HERE: ENCRYPTED CLUSTERS OF COMPRESSED UNITS READ BACK (depositorytop.TopCipherOverCompress is true)
  Of every input that the statement names; its condition: none.
-/
import Derived.Test.YtklihepoaoceoaaRows
import Derived.Test.YtklihepoaoceoaaWalks5
import Derived.Test.YtklihepoaoceoaaDv4
namespace Go.Proofs.Ytklihepoaoceoaa.topCipherOverCompress
open Go.ChangeShapes Go.WideShapes Go.ChangeAt Go.RowKit Go.ChangeMaps Go.Dv Go.Dv.Try
set_option linter.unusedVariables false

theorem own : ownKnob Try.prog.godebug = none := by kernel_rfl
theorem laidOut : laidOutB Try.prog = true := by kernel_rfl
theorem sig : sigOf Try.prog [9, 22, 27] = ([(false, [.str]), (false, [.sl false [.int .u16]]), (true, [.int .i64, .str, .int .i64, .str, .str, .int .i64])] : List (Bool × List CT)).map (fun p => (p.1, some p.2)) := by kernel_rfl

set_option maxRecDepth 100000 in
theorem lifted (os : Os) (started : os.Started) (H : Type) (enc : TypeId × Value → H) :
    ReturnsInHanded {} Try.checked os 3 .any (Rows.topCipherOverCompressSpec.pre6 enc Try.prog Try.f3 Rows.topCipherOverCompressRow.domain false) (Rows.topCipherOverCompressSpec.post enc Try.prog Try.f3 false true false false) := by
  refine returnsInHanded_of_change (C := Try.checked) own started (by kernel_rfl) Try.func3
    (ChangeSpec.witness6 (enc := enc) (C := Try.checked) false ⟨#[], #[.string ⟨#[]⟩, .slice none 0 0, .agg #[.int .i64 0, .string ⟨#[]⟩, .int .i64 0, .string ⟨#[]⟩, .string ⟨#[]⟩, .int .i64 0]], []⟩ 8 (by kernel_rfl) (by kernel_rfl) (by kernel_rfl) (by kernel_rfl)) ?_
  intro W base args ds gs before hval0 hW hcnd _
  have hval : ∀ (j : Nat) t v, Try.f3.params[j]? = some t → args[j]? = some v → Value.okWide Try.prog W .any base t v := hval0
  have hW' := hW
  obtain ⟨p, q, hA0, hV, rfl, hfz, hnd⟩ := hW
  have hA : DataW.TrodAll enc Try.prog W 0 (fun _ => true) true Try.f3.params.toList args.toList ds p := hA0
  rw [Try.params3] at hA hval
  refine (calls_law sd_top_TopCipherOverCompress_R_lawTop rfl (sig := [(false, [.str]), (false, [.sl false [.int .u16]]), (true, [.int .i64, .str, .int .i64, .str, .str, .int .i64])]) run_top sig (fun j t v ht hv => hval j t v (by simpa using ht) (by simpa using hv)) hA).mono fun e W' ⟨he, hb⟩ => ?_
  subst he
  refine ⟨_, rfl, post_true laidOut (tb := 4) ?_ rfl Try.underlying4 rfl ?_ hW' hb⟩
  · rw [Try.params3]
    decide +kernel
  · obtain ⟨rfl, rfl⟩ := trodVars_none hV
    obtain ⟨v0, vs0, d0, ds0, p0, q0, hargs, rfl, rfl, h0, r0⟩ := trodAll_cons hA
    obtain ⟨v1, vs1, d1, ds1, p1, q1, rfl, rfl, rfl, h1, r1⟩ := trodAll_cons r0
    obtain ⟨v2, vs2, d2, ds2, p2, q2, rfl, rfl, rfl, h2, r2⟩ := trodAll_cons r1
    obtain ⟨rfl, rfl, rfl⟩ := trodAll_nil r2
    rfl

theorem over : Rows.topCipherOverCompressRow.holds Try.pinned (OpenSpec.ofChange Rows.topCipherOverCompressSpec) :=
  OpenClaim.holds_of_wide 3 Try.f3 rfl rfl rfl rfl rfl rfl rfl ⟨rfl, rfl, rfl, rfl, rfl⟩ rfl rfl rfl rfl rfl (by kernel_rfl) Try.func3 (by kernel_rfl)
    (of_decide_eq_true (by kernel_rfl)) (by unfold Func.isWrapper; first | (rw [if_pos (by decide +kernel)]; kernel_rfl) | (rw [if_neg (by decide +kernel)]; exact ⟨rfl, rfl⟩))
    (fun os started H enc _ => lifted os started H enc)

theorem proved : Rows.TopCipherOverCompressSaid :=
  over
#print axioms proved
end Go.Proofs.Ytklihepoaoceoaa.topCipherOverCompress
