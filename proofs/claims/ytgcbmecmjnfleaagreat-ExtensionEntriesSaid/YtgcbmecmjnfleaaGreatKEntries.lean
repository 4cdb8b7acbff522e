/-
  PROVED HERE: ExtensionEntries returns true: which entries are valid, with an index, their bytes, and the entries of any bytes, are as specified, or the errors.
  Of every input that the statement names; its condition: none.
-/
import Derived.Test.YtgcbmecmjnfleaaGreatP6
import Derived.Test.YtgcbmecmjnfleaaGreatJEntries
import Derived.Test.YtgcbmecmjnfleaaGreatRows
namespace Go.Proofs.YtgcbmecmjnfleaaGreat.extensionEntries
open Go.ChangeShapes Go.WideShapes Go.ChangeAt Go.RowKit Go.ChangeMaps Go.Dv Go.Dv.Try
set_option linter.unusedVariables false
theorem own:ownKnob Tryz.prog.godebug=none:=by kernel_rfl
theorem laidOut:laidOutB Tryz.prog=true:=by kernel_rfl
theorem sig:Mu Tryz.prog [57,9]=([(false,[.sl true [.int .i64,.str,.int .i64,.int .i64,.int .i64,.int .i64]]),(false,[.str])]:List (Bool×List CT)).map (λp=>(p.1,some p.2)):=by kernel_rfl
set_option maxRecDepth 100000 in
theorem lifted(os:Os)(started:os.Started)(H:Type)(enc:TypeId×Value->H):
 ReturnsInHanded {} Tryz.checked os 8 .any (Rows.extensionEntriesSpec.pre6 enc Tryz.prog Tryz.f8 Rows.extensionEntriesRow.domain false) (Rows.extensionEntriesSpec.post enc Tryz.prog Tryz.f8 false true false false):=by
 refine returnsInHanded_of_change (C:=Tryz.checked) own started (by kernel_rfl) Tryz.func8
  (ChangeSpec.witness6 (enc:=enc) (C:=Tryz.checked) false ⟨#[],#[.slice none 0 0,.string ⟨#[]⟩],[]⟩ 8 (by kernel_rfl) (by kernel_rfl) (by kernel_rfl) (by kernel_rfl)) ?_
 intro W base args ds gs before aAQ hW aGG _;have zZ:∀(j:Nat) t v,Tryz.f8.params[j]?=some t->args[j]?=some v->Value.okWide Tryz.prog W .any base t v:=aAQ;have hW':=hW;obtain⟨p,q,hA0,hV,rfl,hfz,Sb⟩:=hW;have hA:DataW.TrodAll enc Tryz.prog W 0 (λ_=>true) true Tryz.f8.params.toList args.toList ds p:=hA0;rw[Tryz.params8]at hA zZ;refine(Ws mC rfl (sig:=[(false,[.sl true [.int .i64,.str,.int .i64,.int .i64,.int .i64,.int .i64]]),(false,[.str])]) Zb sig (λj t v ht hv=>zZ j t v (by simpa using ht) (by simpa using hv)) hA).mono λe W' ⟨he,hb⟩=>?_
 subst he;refine⟨_,rfl,WR laidOut (tb:=4) ?_ rfl Tryz.underlying4 rfl ?_ hW' hb⟩
 ·rw[Tryz.params8];decide+kernel
 ·obtain⟨rfl,rfl⟩:=trodVars_none hV;obtain⟨v0,vs0,d0,ds0,p0,q0,dO,rfl,rfl,h0,r0⟩:=trodAll_cons hA;obtain⟨v1,vs1,d1,ds1,p1,q1,rfl,rfl,rfl,h1,r1⟩:=trodAll_cons r0;obtain⟨rfl,rfl,rfl⟩:=trodAll_nil r1;rfl
theorem named:Tryz.pinned.checked.prog.funcNamed Rows.extensionEntriesRow.func=some 8:=by kernel_rfl
theorem over:Rows.extensionEntriesRow.holds Tryz.pinned (OpenSpec.ofChange Rows.extensionEntriesSpec):=
 OpenClaim.holds_of_wide 8 Tryz.f8 rfl rfl rfl rfl rfl rfl rfl ⟨rfl,rfl,rfl,rfl,rfl⟩ rfl rfl rfl rfl rfl named Tryz.func8 facts
  (of_decide_eq_true (by kernel_rfl)) (by unfold Func.isWrapper;first|(rw[if_pos (by decide+kernel)];kernel_rfl)|(rw[if_neg (by decide+kernel)];exact⟨rfl,rfl⟩))
  (λos started H enc _=>lifted os started H enc)
theorem proved:Rows.ExtensionEntriesSaid:=
 over
#print axioms proved
end Go.Proofs.YtgcbmecmjnfleaaGreat.extensionEntries
