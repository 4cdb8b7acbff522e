/-
  PROVED HERE: MoverClears returns true: a plan for a part can be made, moves only clusters of it, none into it, and leaves it without clusters of streams, all contents as they were; or the errors.
  Of every input that the statement names; its condition: none.
-/
import Derived.Test.YtmdfbbcifbgdnaaGreatP5
import Derived.Test.YtmdfbbcifbgdnaaGreatJClears
import Derived.Test.YtmdfbbcifbgdnaaGreatRows
namespace Go.Proofs.YtmdfbbcifbgdnaaGreat.moverClears
open Go.ChangeShapes Go.WideShapes Go.ChangeAt Go.RowKit Go.ChangeMaps Go.Dv Go.Dv.Try
set_option linter.unusedVariables false
theorem own:ownKnob Tryz.prog.godebug=none:=by kernel_rfl
theorem laidOut:laidOutB Tryz.prog=true:=by kernel_rfl
theorem sig:H0 Tryz.prog [26,37]=([(true,[.str,.str,.sl true [.int .i64,.str,.int .i64,.int .i64,.bool,.str,.int .i64,.sl true [.int .i64,.int .i64],.int .i64,.int .i64,.int .i64]]),(true,[.int .i64,.int .i64])]:List (Bool×List CT)).map (λp=>(p.1,some p.2)):=by kernel_rfl
set_option maxRecDepth 100000 in
theorem lifted(os:Os)(started:os.Started)(H:Type)(enc:TypeId×Value->H):
 ReturnsInHanded {} Tryz.checked os 8 .any (Rows.moverClearsSpec.pre6 enc Tryz.prog Tryz.f8 Rows.moverClearsRow.domain false) (Rows.moverClearsSpec.post enc Tryz.prog Tryz.f8 false true false false):=by
 refine returnsInHanded_of_change (C:=Tryz.checked) own started (by kernel_rfl) Tryz.func8
  (ChangeSpec.witness6 (enc:=enc) (C:=Tryz.checked) false ⟨#[],#[.agg #[.string ⟨#[]⟩,.string ⟨#[]⟩,.slice none 0 0],.agg #[.int .i64 0,.int .i64 0]],[]⟩ 8 (by kernel_rfl) (by kernel_rfl) (by kernel_rfl) (by kernel_rfl)) ?_
 intro W base args ds gs before Gu hW arf _;have rS:∀(j:Nat) t v,Tryz.f8.params[j]?=some t->args[j]?=some v->Value.okWide Tryz.prog W .any base t v:=Gu;have iA:=hW;obtain⟨p,q,PG,hV,rfl,oC,uj⟩:=hW;have hA:DataW.TrodAll enc Tryz.prog W 0 (λ_=>true) true Tryz.f8.params.toList args.toList ds p:=PG;rw[Tryz.params8]at hA rS;refine(wT mJ rfl (sig:=[(true,[.str,.str,.sl true [.int .i64,.str,.int .i64,.int .i64,.bool,.str,.int .i64,.sl true [.int .i64,.int .i64],.int .i64,.int .i64,.int .i64]]),(true,[.int .i64,.int .i64])]) aea sig (λj t v ht hv=>rS j t v (by simpa using ht) (by simpa using hv)) hA).mono λe W' ⟨he,hb⟩=>?_
 subst he;refine⟨_,rfl,xb laidOut (tb:=4) ?_ rfl Tryz.underlying4 rfl ?_ iA hb⟩
 ·rw[Tryz.params8];decide+kernel
 ·obtain⟨rfl,rfl⟩:=trodVars_none hV;obtain⟨v0,sk,d0,sq,p0,q0,cP,rfl,rfl,h0,r0⟩:=trodAll_cons hA;obtain⟨v1,AF,d1,AO,p1,q1,rfl,rfl,rfl,h1,r1⟩:=trodAll_cons r0;obtain⟨rfl,rfl,rfl⟩:=trodAll_nil r1;rfl
theorem named:Tryz.pinned.checked.prog.funcNamed Rows.moverClearsRow.func=some 8:=by kernel_rfl
theorem over:Rows.moverClearsRow.holds Tryz.pinned (OpenSpec.ofChange Rows.moverClearsSpec):=
 OpenClaim.holds_of_wide 8 Tryz.f8 rfl rfl rfl rfl rfl rfl rfl ⟨rfl,rfl,rfl,rfl,rfl⟩ rfl rfl rfl rfl rfl named Tryz.func8 facts
  (of_decide_eq_true (by kernel_rfl)) (by unfold Func.isWrapper;first|(rw[if_pos (by decide+kernel)];kernel_rfl)|(rw[if_neg (by decide+kernel)];exact⟨rfl,rfl⟩))
  (λos started H enc _=>lifted os started H enc)
theorem proved:Rows.MoverClearsSaid:=
 over
#print axioms proved
end Go.Proofs.YtmdfbbcifbgdnaaGreat.moverClears
