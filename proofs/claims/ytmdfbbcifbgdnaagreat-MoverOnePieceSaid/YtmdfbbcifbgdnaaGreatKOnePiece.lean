/-
  PROVED HERE: MoverOnePiece returns true: a plan for one stream can be made, moves this stream alone, and leaves it in one piece, all contents as they were; there is none exactly if no free extent takes it; or the errors.
  Of every input that the statement names; its condition: none.
-/
import Derived.Test.YtmdfbbcifbgdnaaGreatP5
import Derived.Test.YtmdfbbcifbgdnaaGreatJOnePiece
import Derived.Test.YtmdfbbcifbgdnaaGreatRows
namespace Go.Proofs.YtmdfbbcifbgdnaaGreat.moverOnePiece
open Go.ChangeShapes Go.WideShapes Go.ChangeAt Go.RowKit Go.ChangeMaps Go.Dv Go.Dv.Try
set_option linter.unusedVariables false
theorem own:ownKnob Tryz.prog.godebug=none:=by kernel_rfl
theorem laidOut:laidOutB Tryz.prog=true:=by kernel_rfl
theorem sig:H0 Tryz.prog [26,3]=([(true,[.str,.str,.sl true [.int .i64,.str,.int .i64,.int .i64,.bool,.str,.int .i64,.sl true [.int .i64,.int .i64],.int .i64,.int .i64,.int .i64]]),(false,[.int .i64])]:List (Bool×List CT)).map (λp=>(p.1,some p.2)):=by kernel_rfl
set_option maxRecDepth 100000 in
theorem lifted(os:Os)(started:os.Started)(H:Type)(enc:TypeId×Value->H):
 ReturnsInHanded {} Tryz.checked os 9 .any (Rows.moverOnePieceSpec.pre6 enc Tryz.prog Tryz.f9 Rows.moverOnePieceRow.domain false) (Rows.moverOnePieceSpec.post enc Tryz.prog Tryz.f9 false true false false):=by
 refine returnsInHanded_of_change (C:=Tryz.checked) own started (by kernel_rfl) Tryz.func9
  (ChangeSpec.witness6 (enc:=enc) (C:=Tryz.checked) false ⟨#[],#[.agg #[.string ⟨#[]⟩,.string ⟨#[]⟩,.slice none 0 0],.int .i64 0],[]⟩ 8 (by kernel_rfl) (by kernel_rfl) (by kernel_rfl) (by kernel_rfl)) ?_
 intro W base args ds gs before Gu hW arf _;have rS:∀(j:Nat) t v,Tryz.f9.params[j]?=some t->args[j]?=some v->Value.okWide Tryz.prog W .any base t v:=Gu;have iA:=hW;obtain⟨p,q,PG,hV,rfl,oC,uj⟩:=hW;have hA:DataW.TrodAll enc Tryz.prog W 0 (λ_=>true) true Tryz.f9.params.toList args.toList ds p:=PG;rw[Tryz.params9]at hA rS;refine(wT er rfl (sig:=[(true,[.str,.str,.sl true [.int .i64,.str,.int .i64,.int .i64,.bool,.str,.int .i64,.sl true [.int .i64,.int .i64],.int .i64,.int .i64,.int .i64]]),(false,[.int .i64])]) axd sig (λj t v ht hv=>rS j t v (by simpa using ht) (by simpa using hv)) hA).mono λe W' ⟨he,hb⟩=>?_
 subst he;refine⟨_,rfl,xb laidOut (tb:=4) ?_ rfl Tryz.underlying4 rfl ?_ iA hb⟩
 ·rw[Tryz.params9];decide+kernel
 ·obtain⟨rfl,rfl⟩:=trodVars_none hV;obtain⟨v0,NZ,d0,sq,p0,q0,cP,rfl,rfl,h0,r0⟩:=trodAll_cons hA;obtain⟨v1,AF,d1,AO,p1,q1,rfl,rfl,rfl,h1,r1⟩:=trodAll_cons r0;obtain⟨rfl,rfl,rfl⟩:=trodAll_nil r1;rfl
theorem named:Tryz.pinned.checked.prog.funcNamed Rows.moverOnePieceRow.func=some 9:=by kernel_rfl
theorem over:Rows.moverOnePieceRow.holds Tryz.pinned (OpenSpec.ofChange Rows.moverOnePieceSpec):=
 OpenClaim.holds_of_wide 9 Tryz.f9 rfl rfl rfl rfl rfl rfl rfl ⟨rfl,rfl,rfl,rfl,rfl⟩ rfl rfl rfl rfl rfl named Tryz.func9 facts
  (of_decide_eq_true (by kernel_rfl)) (by unfold Func.isWrapper;first|(rw[if_pos (by decide+kernel)];kernel_rfl)|(rw[if_neg (by decide+kernel)];exact⟨rfl,rfl⟩))
  (λos started H enc _=>lifted os started H enc)
theorem proved:Rows.MoverOnePieceSaid:=
 over
#print axioms proved
end Go.Proofs.YtmdfbbcifbgdnaaGreat.moverOnePiece
