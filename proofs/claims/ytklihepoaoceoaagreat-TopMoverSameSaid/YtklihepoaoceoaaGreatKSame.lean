/-
  PROVED HERE: TopMoverSame returns true: some requests are run; each stream is brought into one piece, the end of the volume is cleared, and cut off, if nothing fixed is there, and the volume grows to its old size again; further requests have then the answers that they have without any of this, unless one is ErrLarge; no two streams have a cluster in common at any time, and all contents are the same at the end.
  Of every input that the statement names; its condition: none.
-/
import Derived.Test.YtklihepoaoceoaaGreatP6
import Derived.Test.YtklihepoaoceoaaGreatJSame
import Derived.Test.YtklihepoaoceoaaGreatRows
namespace Go.Proofs.YtklihepoaoceoaaGreat.topMoverSame
open Go.ChangeShapes Go.WideShapes Go.ChangeAt Go.RowKit Go.ChangeMaps Go.Dv Go.Dv.Try
set_option linter.unusedVariables false
theorem own:ownKnob Tryz.prog.godebug=none:=by kernel_rfl
theorem laidOut:laidOutB Tryz.prog=true:=by kernel_rfl
theorem sig:Wj Tryz.prog [49,51,3]=([(true,[.str,.str,.sl true [.int .i64,.str,.int .i64,.int .i64,.bool,.str,.int .i64,.sl true [.int .i64,.int .i64],.int .i64,.int .i64,.int .i64]]),(true,[.sl true [.int .i64,.int .i64,.int .i64,.int .i64,.str,.int .i64,.int .i64],.sl true [.int .i64,.int .i64,.int .i64,.int .i64,.str,.int .i64,.int .i64]]),(false,[.int .i64])]:List (Bool×List CT)).map (λp=>(p.1,some p.2)):=by kernel_rfl
set_option maxRecDepth 100000 in
theorem lifted(os:Os)(started:os.Started)(h2:Type)(enc:TypeId×Value->h2):
 ReturnsInHanded {} Tryz.checked os 4 .any (Rows.topMoverSameSpec.pre6 enc Tryz.prog Tryz.f4 Rows.topMoverSameRow.domain false) (Rows.topMoverSameSpec.post enc Tryz.prog Tryz.f4 false true false false):=by
 refine returnsInHanded_of_change (C:=Tryz.checked) own started (by kernel_rfl) Tryz.func4
  (ChangeSpec.witness6 (enc:=enc) (C:=Tryz.checked) false ⟨#[],#[.agg #[.string ⟨#[]⟩,.string ⟨#[]⟩,.slice none 0 0],.agg #[.slice none 0 0,.slice none 0 0],.int .i64 0],[]⟩ 8 (by kernel_rfl) (by kernel_rfl) (by kernel_rfl) (by kernel_rfl)) ?_
 intro hi base args ds gs before aCe hW aLS _;have MH:∀(j:Nat) t v,Tryz.f4.params[j]?=some t->args[j]?=some v->Value.okWide Tryz.prog hi .any base t v:=aCe;have hW':=hW;obtain⟨p,q,Z7,hV,rfl,hfz,hnd⟩:=hW;have hA:DataW.TrodAll enc Tryz.prog hi 0 (λ_=>true) true Tryz.f4.params.toList args.toList ds p:=Z7;rw[Tryz.params4]at hA MH;refine(ai6 ua rfl (sig:=[(true,[.str,.str,.sl true [.int .i64,.str,.int .i64,.int .i64,.bool,.str,.int .i64,.sl true [.int .i64,.int .i64],.int .i64,.int .i64,.int .i64]]),(true,[.sl true [.int .i64,.int .i64,.int .i64,.int .i64,.str,.int .i64,.int .i64],.sl true [.int .i64,.int .i64,.int .i64,.int .i64,.str,.int .i64,.int .i64]]),(false,[.int .i64])]) ajm sig (λj t v ht hv=>MH j t v (by simpa using ht) (by simpa using hv)) hA).mono λe W' ⟨he,I⟩=>?_
 subst he;refine⟨_,rfl,ajE laidOut (tb:=4) ?_ rfl Tryz.underlying4 rfl ?_ hW' I⟩
 ·rw[Tryz.params4];decide+kernel
 ·obtain⟨rfl,rfl⟩:=trodVars_none hV;obtain⟨v0,vs0,d0,ds0,p0,q0,cI,rfl,rfl,h0,r0⟩:=trodAll_cons hA;obtain⟨v1,vs1,d1,ds1,p1,q1,rfl,rfl,rfl,U,r1⟩:=trodAll_cons r0;obtain⟨v2,vs2,d2,ds2,p2,q2,rfl,rfl,rfl,H,r2⟩:=trodAll_cons r1;obtain⟨rfl,rfl,rfl⟩:=trodAll_nil r2;rfl
theorem named:Tryz.pinned.checked.prog.funcNamed Rows.topMoverSameRow.func=some 4:=by kernel_rfl
theorem over:Rows.topMoverSameRow.holds Tryz.pinned (OpenSpec.ofChange Rows.topMoverSameSpec):=
 OpenClaim.holds_of_wide 4 Tryz.f4 rfl rfl rfl rfl rfl rfl rfl ⟨rfl,rfl,rfl,rfl,rfl⟩ rfl rfl rfl rfl rfl named Tryz.func4 facts
  (of_decide_eq_true (by kernel_rfl)) (by unfold Func.isWrapper;first|(rw[if_pos (by decide+kernel)];kernel_rfl)|(rw[if_neg (by decide+kernel)];exact⟨rfl,rfl⟩))
  (λos started h2 enc _=>lifted os started h2 enc)
theorem proved:Rows.TopMoverSameSaid:=
 over
#print axioms proved
end Go.Proofs.YtklihepoaoceoaaGreat.topMoverSame
