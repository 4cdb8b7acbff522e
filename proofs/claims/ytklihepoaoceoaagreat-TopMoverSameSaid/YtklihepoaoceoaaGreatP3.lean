/- Own work: parts of the proof, shortened and laid together by a tool of our own. -/
import Derived.Test.YtklihepoaoceoaaGreatP2
import Derived.WalkKit
import Derived.ProofKit
import Derived.OpenShut
import Derived.Carry
import Derived.Deep.Slices
import Derived.Test.YtklihepoaoceoaaGreatProg
import Derived.KernelRfl
import Derived.Shelf.Strings.Builder1
import Derived.Shelf.Strings.Repeat
import Derived.Shelf.Strings.Search1
import Derived.Shelf.Abstract
set_option linter.defProp false
set_option linter.unusedSimpArgs false
set_option linter.unusedVariables false
open List renaming getElem?_eq_getElem→zah, length_map→zaw, getElem?_map→zaD, eq_nil_of_length_eq_zero→zaf, length_cons→zap, length_append→zad, map_append→zaY, getElem?_eq_none→zaM, length_drop→zay, mem_map→zaX, mem_cons→zax, map_congr_left→zbG, not_mem_nil→zb6, drop_eq_nil_of_le→zb7, take_append_drop→zaF, length_pos_iff→zb9, map_cons→zau, cons_append→zbe, mem_of_getElem?→zag, getD_eq_getElem?_getD→zbu, drop_eq_getElem_cons→zcf, append_assoc→zaj, take_of_length_le→za1, map_inj_right→zco, map_replicate→zcp, getElem?_append_right→zak, map_nil→zcr, append_nil→zbg, length_nil→zbh, length_eq_one_iff→zcw, drop_drop→zaE, replicate_succ'→zcz, ext_getElem?→zbb, map_toArray→zcI, length_take→zal
open Int renaming toNat_natCast→zaC, fdiv_eq_ediv_of_nonneg→zb5, tdiv_eq_ediv_of_nonneg→zb8, tmod_eq_emod_of_nonneg→zcd, natCast_nonneg→zcg, one_mul→zcE, ediv_le_self→zcG, ediv_nonneg→zcJ
open Nat renaming le_refl→zai, eq_of_beq_eq_true→zab, lt_of_lt_of_le→zae, pow_le_pow_right→zb4, min_eq_right→zbK, min_eq_left→zat, two_pow_pos→zcb, sub_self→zcc, div_div_eq_div_mul→zch, dvd_of_mod_eq_zero→zci, add_assoc→zaL, le_of_ble_eq_true→za4, and_two_pow_sub_one_eq_mod→zcj, zero_le→zcl, lt_of_le_of_lt→zbW, two_pow_add_eq_or_of_lt→zcm, add_sub_cancel→zcn, sub_zero→zcq, min_le_right→zcs, zero_add→zaU, and_le_left→zcu, add_sub_cancel'→zcA, add_comm→zcB, or_lt_two_pow→zcC, add_mod_right→zcD, pow_add→zcF, mod_eq_of_lt→zcH, not_lt_zero→zbM, log2_eq_iff→zcK, div_le_self→zcL
open Decidable renaming of_not_not→zb3
open Option renaming bind_eq_some_iff→zca, getD_some→zbE
open Array renaming getElem?_append_left→zce, getElem?_eq_none→zcx, getElem?_modify→zcy
open Bool renaming and_eq_true→zaT, not_eq_true→zct
open UInt8 renaming toNat_lt→zck
open And renaming intro→zcv
set_option maxHeartbeats 16000000
noncomputable section
namespace Go.Dv
open Go.RowKit
section
def aeG(n:Nat):∀m,(List.range (m+1)).map (· +n)=n::(List.range m).map (· +(n+1)):=by
 intro m;rw[List.range_succ_eq_map,zau,List.map_map];congr 1
 ·omega
 ·apply zbG
  grind
def aka(Z:ax):∀(n:Nat) (K:QK->Prop),az2 Z n K->K ((List.range Z.length).map (· +n)):=by
 induction Z with
 |nil=>intro n K h;exact h
 |cons s Z ih=>
  intro n K h;have:=ih (n+1) (λt=>K (n::t)) h;rw[zap,aeG];omega
def XC(l:XP):∀(n:Nat) (K:Env->Prop),ahU l n K→∃env,K env∧∀p,aA p env=if n<=p then(l[p-n]?).getD .bad else .bad:=by
 induction l with
 |nil=>intro n K h;exact⟨[],h,λp=>by simp[aA]⟩
 |cons x l ih=>
  intro n K h;obtain⟨env,U,H⟩:=ih (n+1) _ h;refine⟨_,U,λp=>?_⟩;show(bif Nat.beq n p then x else aA p env)=_;by_cases hp:n=p
  ·simp_all
  ·rw[ZD hp]
   grind
def ak4(pin:QK)(rs:List (Nat×Option (Bool×Nat)))(K:AV->ax->Prop):∀e,tZ (avM pin rs K e):=by
 intro e env aB Z h;cases e with
 |normal=>exact xA h Z rs _
 |ret=>exact xA h Z rs _
 |exit i=>rfl
def asX{ok:Nat->Prop}{Z:ax}{vals:XS}{w:World}(cs:XP):∀vs:XS,eu ok Z vals w cs vs->vs.length=cs.length∧∀(j:Nat) (c:AV) (v:Value),cs[j]?=some c->vs[j]?=some v->RA ok Z vals w c v:=by
 induction cs with
 |nil=>intro vs h;simp only[eu]at h;grind
 |cons c cs ih=>
  intro vs h;simp only[eu]at h
  grind
def aoM{ok:Nat->Prop}{Z:ax}{vals:XS}{w:World}{aM1:XP}{vs:XS}(h:eu ok Z vals w aM1 vs):RA ok Z vals w (am2 aM1) (Kf vs):=by
 have tup:RA ok Z vals w (.tup aM1) (.tuple vs.toArray):=by
  simp only[RA];grind
 cases aM1 with
 |nil=>
  have h':=h;subst h';exact tup
 |cons a aM1=>
  have h':=h;obtain⟨v,t,rfl,U,H⟩:=h';cases aM1 with
  |nil=>subst H;exact U
  |cons b aM1=>
   obtain⟨v2,t2,rfl,_,_⟩:=H;exact tup
section
variable {cx:Cx} {env:Env} {Z:ax} {vals:XS} {a:Act} {w':World}
def Y_{P:Program}{f:Nat}{fn:Func}{c:Code}{pc:PC}{Γ:Ctx}{ps:QK}{rs:List (Nat×Option (Bool×Nat))}{j0:XP->ax->(AV->ax->Prop)->Prop}(hΓ:Sound P Γ)(hm:P.follows .mixedOrders=true)(hf:P.funcs[f]?=some fn)(aea:(fn.name== "runtime.NumGoroutine")=false)(I:fn.body=some c)
 (F:eT P fn.ntmps c=some (strip pc)) {l:List ResultVar} (Uc:fn.results=l.toArray) (fx:l.map (ads P)=rs.map some) (hl:l.length<=4) (aeb:Nat) (hn:aeb<=fn.ntmps) (cI:∀aM1 Z K,j0 aM1 Z K->aM1.length=aeb) (h:Yl Γ ps pc rs (lZ j0)):bQ P f (lZ j0):=by
 refine⟨λe=>bh,λe=>bh,λ_ _ _ _ _ e=>bh,λ_ _ _ _ _ _ _ _ h=>(show False from h).elim,?_⟩;intro w ok b_ σ0 cb aM1 vs K _ HD oF b9;refine⟨QD hf aea I,?_⟩;have hlen:vs.size=aM1.length:=by simpa using oF.length
 have hle:aM1.length<=fn.ntmps:=by rw[cI aM1 σ0 K b9];exact hn
 obtain⟨env,ad9,aqx⟩:=XC aM1 0 _ (h aM1 σ0 K b9);have ad9:=aka σ0 0 _ ad9;simp only[Nat.add_zero,List.map_id']at ad9;have qk:cb.length=σ0.length:=HD.len
 let cx:Cx:=mcx P w ok b_ σ0 cb
 let own:Nat->Prop:=λb=>w.heap.size<=b\/Fo σ0 cb b
 let a:Act:={ tmps:=vs++Array.replicate (fn.ntmps-vs.size) undef,defers:=[] }
 have J:Rel cx env σ0 cb a w:=by
  refine⟨HD,λp=>?_,rfl,λx v hg=>hg.elim,λp hp=>absurd hp (zbM p)⟩;rw[aqx p];simp only[zcl,if_true,zcq];cases T:aM1[p]? with
  |none=>trivial
  |some x=>
   simp only[zbE];have hp:p<aM1.length:=(List.getElem?_eq_some_iff.1 T).1;have MH:a.tmps.getD p undef=vs[p]'V:=by
    rw[getD_eq]
    grind
   rw[MH];exact(asX aM1 _ oF).2 p x _ T ab
 have hC:CF P w ok own σ0 cb cx:=⟨rfl,rfl,rfl,rfl,rfl,rfl,λ_ _ h=>h,rfl,λb h=>h.elim,λd hd=>(by cases hd),List.Pairwise.nil⟩
 have hwp:=Az (ps:=ps) hΓ hm c pc F (CF P w ok own σ0 cb) Fence.wide 1 cx (avM (List.range σ0.length) rs K) env σ0 cb a w (.inr ⟨rfl,zai _,ain P w ok own σ0 cb qk,λcx h=>h.hP⟩) (.inl λcx h=>h.lo) (.inl rfl) hC (λcx h=>h.hP) (ak4 _ _ _) au J ad9;refine(callsIn_wide (n:=1)).1 (callsIn_of_wp_marks hf I trivial (wpIn_mono hwp ?_));have fin:∀a' w',(∃cx env Z vals,CF P w ok own σ0 cb cx/\a'.tmps.size=fn.ntmps/\Rel cx env Z vals a' w'/\nA Z env rs λaM1=>P7 aM1 (List.range σ0.length) λl=>TJ Z l l λr=>S5 r aM1 λaM1=>TD Z r r λZ=>K (am2 aM1) Z)->
  LeavesInM Fence.wide 1 P fn a'.tmps (λe w'=>∃v res σ1 fY,e=.returned v/\K res σ1/\bW (mcx P w ok b_ σ0 cb) σ1 fY w'/\RA (Ok (mcx P w ok b_ σ0 cb) σ1 fY w') σ1 fY w' res v) a'.defers .returning w':=by
  rintro a' w' ⟨cx',aB,σ',ay,hC',HN,eI,E⟩;obtain⟨P',w0',qN,hA',w1',aBb,pP,at1,gh',lo',aBc,axU,adX,pS',pV'⟩:=cx';obtain⟨rfl,axV,agT,aE6,aE7,OK,hgh,A6,nr,hdf,aqy⟩:=hC';have hw2:w0'=w:=axV;subst hw2;have aqz:axU=own:=agT;subst aqz;have Xm:pS'=σ0:=aE6;subst Xm;have hp3:pV'=cb:=aE7;subst hp3;have Ub:qN=ok:=OK;subst Ub
  let cxE:Cx:=mcx P' w0' qN b_ pS' pV'
  have hrE:Rel cxE aB σ' ay ⟨a'.tmps,[]⟩ w':=⟨⟨eI.s.below,eI.s.one,eI.s.len,eI.s.lW,eI.s.Cb,⟨eI.s.below.size,λb I=>I.elim,λ_ _ I=>I⟩,⟨eI.s.pin.vs,eI.s.pin.len,eI.s.pin.wG,eI.s.pin.wH⟩⟩,eI.env,rfl,λx v hg=>hg.elim,λp hp=>absurd hp (zbM p)⟩
  refine leaves (cx:=cxE) ?_ (λ_ h=>h) (zai _) a'.defers w' ?_ ?_ hrE
  ·intro w2 tT;obtain⟨aM1,Ug,E,oF,Gv,aqA⟩:=Tz tT l rs _ fx E;obtain⟨l1,E,VH,FK⟩:=Du aM1 _ _ List.nodup_range E;obtain⟨r,E,hrn,Xm⟩:=xf σ' l1 l1 _ VH E;obtain⟨as',E,has⟩:=Co r aM1 _ E;obtain⟨σ2,E,U,H⟩:=xF σ' r r _ E;obtain⟨eH,hA,PA,Ub⟩:=Yg (cx:=cxE) ⟨rfl,qk⟩ (FK.trans Xm) hrn U H tT.s;exact⟨_,M6 Uc hl _ _ w2 Ug Gv aqA,_,_,σ2,eH,rfl,E,PA,aoM (gI.ra hA Ub _ _ _ has oF)⟩
  ·intro d hd;rw[eI.defers]at hd;obtain⟨D,H,h3,h4,h5⟩:=hdf d hd;exact⟨D,H,(eI.s.fr.same D h3).trans h4,h5⟩
  ·rw[eI.defers];omega
 intro e a' w' hp;cases e with
 |normal=>exact fin a' w' hp
 |ret=>exact fin a' w' hp
 |exit i=>
  obtain⟨_,_,_,_,_,_,_,E⟩:=hp;assumption
 |_=>exact hp.elim
end
end
end Go.Dv
namespace Go.Dv
def wrap64{n:Int}(h: -9223372036854775808<=n/\n<=9223372036854775807):IntKind.i64.wrap n=n:=by
 have I:IntKind.i64.bits=64:=rfl;simp only[IntKind.wrap,IntKind.signed,I];have:(2:Int)^64=18446744073709551616:=ai;have:(2:Int)^(64-1)=9223372036854775808:=ai
 simp_all
 omega
def jb{r n:Int}(J:r=IntKind.i64.wrap n)(h: -9223372036854775808<=n/\n<=9223372036854775807):r=n:=J.trans (wrap64 h)
def cmp{b:Bool}{p:Prop}(h:b=true↔p):(b=true/\p)\/(b=false∧¬p):=by
 cases b with
 |true=>exact .inl ⟨rfl,h.1 rfl⟩
 |false=>exact .inr ⟨rfl,λhp=>by have:=h.2 hp;cases this⟩
def bu{n:Int}{K:Int->Prop}(h: -9223372036854775808<=n/\n<=9223372036854775807)(k:K n):∀r:Int,r=IntKind.i64.wrap n->K r:=λr J=>by
 rw[jb J h];exact k
def dc{p:Prop}{K:Bool->Prop}(ht:p->K true)(hf:¬p->K false):∀b:Bool,(b=true↔p)->K b:=λb I=>by
 cases b with
 |true=>exact ht (I.1 rfl)
 |false=>exact hf λhp=>by have:=I.2 hp;cases this
def Ep{P:Program}:Sound P (ao []):=aiR [] (λ_ h=>bc)
def zm{P:Program}{f:Nat}{S:Spec}{l:List (Nat×Spec)}(h:bQ P f S)(ht:Sound P (ao l)):Sound P (ao ((f,S)::l)):=by
 intro g;show bQ P g (Bool.rec (ao l g) S (Nat.beq f g));cases I:Nat.beq f g with
 |true=>
  have:=zab I;subst this;exact h
 |false=>exact ht g
end Go.Dv
namespace Go.Dv
open Go Go.ChangeShapes Go.WideShapes Go.ChangeAt Go.RowKit
def afV{P:Program}{f:FuncId}{S:Spec}(h:bQ P f S)(hmu:S.mu=false){hi:World}{args:Array Value}{ps:CK}(lf:cz (λb=>b<hi.heap.size) hi ps args.toList)(b9:S.run ps λr=>r=.pv (.bool true)):
 Calls P f args hi λe w'=>e=.returned (.bool true)/\Below hi.heap.size hi w':=by
 refine(h.2.2.1 hi (λb=>b<hi.heap.size) ps args _ hmu (λ_ I=>I) lf b9).2.mono λe w' he=>?_
 obtain⟨v,r,us,rfl,rfl,I,J,_⟩:=he;simp only[RR,Rd]at J;exact⟨by rw[J.1],I⟩
def UA{h2:Type}{enc:TypeId×Value->h2}{P:Program}(hl:laidOutB P=true){hi W':World}(I:Below hi.heap.size hi W'):∀(ts:List TypeId) (vs:XS) (ds:List (DataW h2)) (ps:List MemPlace),
 (∀t∈ts,P.readableRec t=true/\t<P.types.size)->DataW.TrodAll enc P hi 0 (λ_=>true) true ts vs ds ps->(∀x∈ps,x.block<hi.heap.size)->DataW.TrodAll enc P W' 0 (λb=>decide (b<hi.heap.size)) true ts vs ds ps:=by
 intro ts
 induction ts with
 |nil=>
  intro vs ds ps _ h _;obtain⟨rfl,rfl,rfl⟩:=trodAll_nil h;exact trodAll_mk0
 |cons t ts ih=>
  intro vs ds ps ht h aM;obtain⟨v,Ug,d,ds',p,q,rfl,rfl,rfl,U,H⟩:=trodAll_cons h;exact⟨p,q,Below.trod hl (ht t ab).1 (ht t ab).2 U I (λx T=>aM x bP),ih _ _ _ (λt' h'=>ht t' (by simp[h'])) H (λx T=>aM x bP),rfl⟩
def ajE{h2:Type}{enc:TypeId×Value->h2}{P:Program}(hl:laidOutB P=true){f:Func}{s:ChangeSpec}{apart fresh handsOn:Bool}{hi W':World}{args:Array Value}{ds gs:List (DataW h2)}{before:List MemPlace}{tb:TypeId}
 (hts:∀t∈f.params.toList,P.readableRec t=true/\t<P.types.size) (hrt:f.resultTypes= #[tb]) (hub:P.underlying tb=some .bool) (avk:s.vars=[])
 (hfn:s.fn h2 (ds++gs)={ results:=[.lit (.bool true)],args:=ds })
 (hW:DataW.Whole enc P f.params.toList s.vars apart hi args.toList ds gs before) (I:Below hi.heap.size hi W'):
 s.post enc P f apart fresh handsOn false hi args (.bool true) W':=by
 have aM:=hW.lt;have hW':=hW;obtain⟨p,q,hA,hV,rfl,_,_⟩:=hW;rw[avk]at hV;obtain⟨rfl,rfl⟩:=trodVars_none hV;refine⟨ds,[],p++[],[],p,[],hW',?_,?_,?_,Below.frame I _,λh=>bc⟩
 ·rw[hfn,hrt];exact trodAll_cons_mk (shut_bool hub _) trodAll_mk0
 ·rw[hfn];exact UA hl I _ _ _ _ hts hA (λx T=>by simpa using aM x (by simpa using T))
 ·rw[hfn,avk];simp[DataW.TrodVars]
end Go.Dv
namespace Go.Dv
open Go Go.ChangeShapes Go.WideShapes Go.Deep
section
inductive CT where
 |bool
 |int (k:IntKind)
 |str
 |sl (ag:Bool) (cs:List CT)
mutual
def Fb:CT->PV->Prop
 | .bool,x=>∃b,x=.bool b
 | .int k,x=>∃n,x=.int k n/\(Lit.int k n).wf=true
 | .str,x=>∃l,x=.str l/\l.length<=maxLen
 | .sl ag cs,x=>∃aw,x=.sl cs.length aw/\aw.length<=maxLen∧∀y∈aw,(ag=true→∃zs,y=.agg zs/\jO cs zs)/\(ag=false->jO cs [y])
def jO:List CT->CK->Prop
 |[],xs=>xs=[]
 |c::cs,xs=>∃y ys,xs=y::ys/\Fb c y/\jO cs ys
end
def CZ:∀(cs ds:List CT) (xs ys:CK),jO cs xs->jO ds ys->jO (cs++ds) (xs++ys)
 |[],_,_,_,h,H=>by simp only[jO]at h;subst h;exact H
 |c::cs,ds,xs,ys,h,H=>by
  simp only[jO]at h;obtain⟨y,zs,rfl,h3,h4⟩:=h;simp only[zbe,jO];exact⟨_,_,rfl,h3,CZ cs ds zs ys h4 H⟩
def IY:∀(cs:List CT) (xs:CK),jO cs xs->xs.length=cs.length
 |[],_,h=>by simp only[jO]at h;subst h;rfl
 |c::cs,xs,h=>by
  simp only[jO]at h;obtain⟨y,zs,rfl,h3,h4⟩:=h;simp[IY cs zs h4]
def abx:∀(c:CT) (x:PV),Fb c x->x.one=true∧∀l,x≠.agg l
 | .bool,x,h=>by simp only[Fb]at h;obtain⟨b,rfl⟩:=h;exact⟨rfl,ab⟩
 | .int k,x,h=>by simp only[Fb]at h;obtain⟨b,rfl,_⟩:=h;exact⟨rfl,ab⟩
 | .str,x,h=>by simp only[Fb]at h;obtain⟨b,rfl,_⟩:=h;exact⟨rfl,ab⟩
 | .sl _ _,x,h=>by simp only[Fb]at h;obtain⟨b,rfl,_⟩:=h;exact⟨rfl,ab⟩
def Io:∀(cs:List CT) (xs:CK),jO cs xs→∀x∈xs,x.one=true
 |[],_,h=>by simp only[jO]at h;subst h;simp
 |c::cs,xs,h=>by
  simp only[jO]at h;obtain⟨y,zs,rfl,h3,h4⟩:=h;intro x T;rcases zax.1 T with rfl|T
  ·exact(abx c _ h3).1
  ·exact Io cs zs h4 x T
def FD(P:Program)(e:TypeId):Bool:=match P.underlying e with|some (.struct _)=>true|some (.array _ _)=>true|_=>false
def Mj(P:Program)(g:TypeId->Option (List CT)):List Field->Nat->Option (List CT):=
 λl=>List.rec (λ_=>some []) (λf _ ih off=>
  (g f.type).bind λcs=>bif Nat.beq f.offset off&&Nat.beq cs.length (P.cellsOf f.type)then(ih (off+cs.length)).map λds=>cs++ds else none) l
def ar2(cs:List CT)(m:Nat):List CT:=Nat.rec [] (λ_ ih=>cs++ih) m
def zo(P:Program)(n:Nat):TypeId->Option (List CT):=
 Nat.rec (λ_=>none) (λ_ ih t=>
  match P.underlying t with
  |some .bool=>some [.bool]
  |some (.int k)=>some [.int k]
  |some .string=>some [.str]
  |some (.slice e)=>(ih e).bind λcs=>bif Nat.beq cs.length (P.cellsOf e)&&Nat.ble 1 cs.length&&(FD P e||Nat.beq cs.length 1)then some [.sl (FD P e) cs]else none
  |some (.struct fs)=>(Mj P ih fs.toList 0).bind λcs=>bif Nat.beq cs.length (P.cellsOf t)then some cs else none
  |some (.array m e)=>bif Nat.ble m 64 then(ih e).bind λcs=>bif Nat.beq cs.length (P.cellsOf e)&&Nat.beq (m*cs.length) (P.cellsOf t)then some (ar2 cs m)else none else none
  |_=>none) n
section
variable {h2:Type} {enc:TypeId×Value->h2} {P:Program} {w:World} {base:Nat} {spare:Nat->Bool} {held:Bool}
def atg(ok:Nat->Prop)(b:Nat):∀(xs:CK) (vs:XS) (o:Nat),cz ok w xs vs->(∀j,j<vs.length->w.cell? ⟨b,o+j,none⟩=vs[j]?)->(∀x∈xs,x.one=true)->nu ok w b o xs:=by
 intro xs
 induction xs with
 |nil=>intro vs o _ _ _;simp[nu]
 |cons x xs ih=>
  intro vs o h F U;simp only[cz]at h;obtain⟨v,r,rfl,H,h3⟩:=h;simp only[nu];refine⟨⟨U x ab,v,by simpa using F 0 ab,H⟩,ih r (o+1) h3 (λj hj=>?_) (λy hy=>U y pr)⟩;have:=F (j+1) aH;simp at this;rw[<-this];congr 2;omega
def apm(ok:Nat->Prop)(b sz:Nat)(f:Nat->PV):∀(k i o:Nat),(∀j,i<=j->j<i+k->dN ok w b sz (o+(j-i)*sz) [f j])->dN ok w b sz o ((List.range' i k).map f):=by
 intro k
 induction k with
 |zero=>intro i o _;simp[dN]
 |succ k ih=>
  intro i o h;rw[List.range'_succ,zau];have h0:=h i (zai _) V;rw[zcc,Nat.zero_mul,Nat.add_zero]at h0;have U:=ih (i+1) (o+sz) (λj U H=>by
   have:=h j V V;rw[show o+sz+(j-(i+1))*sz=o+(j-i)*sz by
    obtain⟨q,rfl⟩:∃q,j=i+1+q:=⟨j-(i+1),V⟩
    rw[show i+1+q-(i+1)=q by omega,show i+1+q-i=q+1 by omega,Nat.add_mul,Nat.one_mul];omega]
   exact this)
  generalize f i=x at h0;cases x<;>(simp only[dN]at h0 ⊢;exact⟨h0.1,U⟩)
def ajs(ok:Nat->Prop){n k:Nat}(ih:∀(t:TypeId) (cs:XS) (x:DataW h2×List MemPlace) (cts:List CT),zo P n t=some cts->DataW.trod enc P w base spare held k t cs=some x→∃xs,jO cts xs/\cz ok w xs cs)(cs:XS):
 ∀(l:List Field) (off:Nat) (cts:List CT),Mj P (zo P n) l off=some cts->off+cts.length=cs.length->(∀(i:Nat) (f:Field),l[i]?=some f→∃x,DataW.trod enc P w base spare held k f.type ((cs.drop f.offset).take (P.cellsOf f.type))=some x)→∃xs,jO cts xs/\cz ok w xs (cs.drop off):=by
 intro l
 induction l with
 |nil=>
  intro off cts h hl _;simp only[Mj]at h;injection h with h
  subst h;exact⟨[],by simp[jO],by simp only[cz];exact zb7 (by simp at hl;omega)⟩
 |cons f l ihl=>
  intro off cts h hl T;have h':((zo P n f.type).bind λcs=>bif Nat.beq f.offset off&&Nat.beq cs.length (P.cellsOf f.type)then(Mj P (zo P n) l (off+cs.length)).map λds=>cs++ds else none)=some cts:=h;obtain⟨c1,U,H⟩:=zca.1 h';cases I:(Nat.beq f.offset off&&Nat.beq c1.length (P.cellsOf f.type))with
  |false=>rw[I]at H;cases H
  |true=>
   rw[I]at H;simp only[cond_true]at H;obtain⟨c2,h3,rfl⟩:=Option.map_eq_some_iff.1 H;rw[zaT]at I;have e1:=zab I.1;have e2:=zab I.2;obtain⟨x,VK⟩:=T 0 f rfl;obtain⟨xs1,g1,g2⟩:=ih _ _ _ _ U VK;rw[zad]at hl;obtain⟨xs2,g3,g4⟩:=ihl (off+c1.length) c2 h3 V (λi f' hf=>T (i+1) f' (by simpa using hf));refine⟨xs1++xs2,CZ _ _ _ _ g1 g3,?_⟩;rw[di];rw[e1,<-e2]at g2;refine⟨_,_,?_,g2,g4⟩;rw[<-zaE,zaF]
def ar4(ok:Nat->Prop)(b_:∀b,b<w.heap.size->ok b):∀(n k:Nat) (t:TypeId) (cs:XS) (x:DataW h2×List MemPlace) (cts:List CT),zo P n t=some cts->DataW.trod enc P w base spare held k t cs=some x→∃xs,jO cts xs/\cz ok w xs cs:=by
 intro n
 induction n with
 |zero=>intro k t cs x cts h;cases h
 |succ n ih=>
  intro k t cs x cts h T;have h':(match P.underlying t with
   |some .bool=>some [CT.bool]
   |some (.int k)=>some [CT.int k]
   |some .string=>some [CT.str]
   |some (.slice e)=>(zo P n e).bind λcs=>bif Nat.beq cs.length (P.cellsOf e)&&Nat.ble 1 cs.length&&(FD P e||Nat.beq cs.length 1)then some [CT.sl (FD P e) cs]else none
   |some (.struct fs)=>(Mj P (zo P n) fs.toList 0).bind λcs=>bif Nat.beq cs.length (P.cellsOf t)then some cs else none
   |some (.array m e)=>bif Nat.ble m 64 then(zo P n e).bind λcs=>bif Nat.beq cs.length (P.cellsOf e)&&Nat.beq (m*cs.length) (P.cellsOf t)then some (ar2 cs m)else none else none
   |_=>none)=some cts:=h
  split at h'
  ·rename_i ht;injection h' with h';subst h'
   obtain⟨b,rfl,_⟩:=DataW.trod_bool ht T;exact⟨[.bool b],by simp[jO,Fb],by simp[cz,Rd]⟩
  ·rename_i kk ht;injection h' with h';subst h'
   obtain⟨b,rfl,_,hw⟩:=DataW.trod_int ht T;exact⟨[.int kk b],by simp[jO,Fb,hw],by simp[cz,Rd]⟩
  ·rename_i ht;injection h' with h';subst h'
   obtain⟨s,rfl,_,hs⟩:=DataW.trod_string ht T;exact⟨[.str s.data.toList],by simp[jO,Fb];exact hs,by simp[cz,Rd]⟩
  ·rename_i e ht;obtain⟨c1,U,H⟩:=zca.1 h';cases I:(Nat.beq c1.length (P.cellsOf e)&&Nat.ble 1 c1.length&&(FD P e||Nat.beq c1.length 1))with
   |false=>rw[I]at H;cases H
   |true=>
    rw[I]at H;simp only[cond_true,Option.some.injEq]at H;subst H;rw[zaT,zaT]at I;have e1:=zab I.1.1;have e2:=za4 I.1.2;rcases open_slice ht T with⟨rfl,_⟩|⟨a,len,cap,m,q,D,Pl,rfl,hba,hl,hm,hmm,_,hel⟩
    ·refine⟨[.sl c1.length []],?_,?_⟩
     ·simp only[jO,Fb];exact⟨_,_,rfl,⟨[],rfl,ab,ab⟩,rfl⟩
     ·simp only[cz,Rd];exact⟨_,_,rfl,⟨none,0,rfl,ab,by simp[maxLen],.inl trivial⟩,rfl⟩
    ·have FJ:len<=m:=by rw[hmm];split<;>omega
     have each:∀i,i<len→∃q:CK×XS,jO c1 q.1/\cz ok w q.1 q.2/\q.2.length=c1.length∧∀j,j<c1.length->w.cell? ((a.add (i*c1.length)).add j)=q.2[j]?:=by
      intro i W;obtain⟨cs',g1,g2⟩:=hel i V;obtain⟨xs,g3,g4⟩:=ih _ _ _ _ _ U g2;obtain⟨_,g5,g6⟩:=World.cells?_some g1;exact⟨(xs,cs'),g3,g4,by rw[g5,e1],λj hj=>by rw[e1];exact g6 j V⟩
     obtain⟨f,hf⟩:=choose_lt each;have hlr:((List.range' 0 len).map λi=>if FD P e=true then PV.agg (f i).1 else(f i).1.headD (.nil 0)).length=len:=ab;refine⟨[.sl c1.length ((List.range' 0 len).map λi=>if FD P e=true then PV.agg (f i).1 else(f i).1.headD (.nil 0))],?_,?_⟩
     ·simp only[jO,Fb];refine⟨_,_,rfl,⟨_,rfl,by rw[hlr];omega,?_⟩,rfl⟩;intro y hy;obtain⟨i,W,rfl⟩:=zaX.1 hy;have W:i<len:=by simp at W;exact W
      refine⟨λhg=>?_,λhg=>?_⟩
      ·rw[if_pos hg];exact⟨_,rfl,(hf i W).1⟩
      ·rw[if_neg (by rw[hg];decide)];rw[hg,Bool.false_or]at I;have e3:=zab I.2;have h6:=(hf i W).1;have h7:=IY _ _ h6;rw[e3]at h7;obtain⟨z,hz⟩:=zcw.1 h7;rw[hz]at h6 ⊢;exact h6
     ·simp only[cz,Rd];refine⟨_,_,rfl,⟨some a,cap,by rw[hlr],by rw[hlr];exact hl,hm,?_⟩,rfl⟩;by_cases h0:len=0
      ·left;subst h0;rfl
      right;obtain⟨g1,g2,g3,g4⟩:=hf 0 V;have hc0:=g4 0 V;rw[Nat.zero_mul]at hc0;have ea:(a.add 0).add 0=a:=rfl;rw[ea]at hc0;obtain⟨v,hv⟩:∃v,(f 0).2[0]?=some v:=JP;rw[hv]at hc0;have aiK:a.spot=none:=by
       unfold World.cell? at hc0;split at hc0
       ·split at hc0
        ·cases hc0
        ·rename_i hs;simpa using hs
       ·cases hc0
      have aM:a.block<w.heap.size:=by
       unfold World.cell? at hc0;split at hc0
       ·rename_i hs;by_cases hh:a.block<w.heap.size
        ·exact hh
        ·rw[zcx V]at hs;cases hs
       ·cases hc0
      have aE9:∀j,a.add j=⟨a.block,a.off+j,none⟩:=by
       intro j;unfold Addr.add;split
       ·rename_i h;subst h;obtain⟨b,o,s⟩:=a;simp only at aiK;subst aiK;rfl
       ·rfl
      refine⟨a.block,a.off,?_,b_ _ aM,?_⟩
      ·obtain⟨b,o,s⟩:=a;simp only at aiK;subst aiK;rfl
      refine apm ok _ _ _ len 0 a.off (λi _ W=>?_);obtain⟨g1,g2,g3,g4⟩:=hf i V;rw[zcq];have g4':∀j,j<(f i).2.length->w.cell? ⟨a.block,a.off+i*c1.length+j,none⟩=(f i).2[j]?:=by
       intro j hj;rw[<-g4 j V,add_add,aE9,zaL]
      by_cases hg:FD P e=true
      ·rw[if_pos hg];simp only[dN];exact⟨⟨IY _ _ g1,atg ok _ _ _ _ g2 g4' (Io _ _ g1)⟩,trivial⟩
      ·rw[if_neg hg];have NC:FD P e=false:=by simpa using hg
       rw[NC,Bool.false_or]at I;have e3:=zab I.2;have h7:=IY _ _ g1;rw[e3]at h7;obtain⟨z,hz⟩:=zcw.1 h7;rw[hz]at g1 g2 ⊢;have h8:=Io _ _ g1 z ab;simp only[cz]at g2;obtain⟨v',r,EU,h9,rfl⟩:=g2;have VB:=g4' 0 (by rw[EU];simp);rw[EU]at VB;have hna:∀l,z≠.agg l:=by
        match c1,g1 with
        |c::cs,g1=>simp only[jO]at g1;obtain⟨y,ys,hy,h11,_⟩:=g1;injection hy with hy _;subst hy;exact(abx c _ h11).2
       show dN ok w a.block c1.length _ [z];cases z with
       |agg l=>exact absurd rfl (hna l)
       |_=>simp only[dN];exact⟨⟨e3,h8,v',by simpa using VB,h9⟩,trivial⟩
  ·rename_i fs ht;obtain⟨c1,U,H⟩:=zca.1 h';cases I:Nat.beq c1.length (P.cellsOf t)with
   |false=>rw[I]at H;cases H
   |true=>
    rw[I]at H;simp only[cond_true,Option.some.injEq]at H;subst H;have e1:=zab I;obtain⟨xs,q,rfl,_,hl,hxl,hf⟩:=DataW.trod_struct ht T;have:=ajs (k:=q) ok (λt cs x cts=>ih q t cs x cts) cs fs.toList 0 c1 U V (λi f W=>?_)
    ·simpa using this
    ·have PD:fs[i]?=some f:=by simpa using W
     rw[hf i f PD];have:i<fs.size:=by
      by_cases hh:i<fs.size
      ·exact hh
      ·rw[zcx V]at PD;cases PD
     rw[zah V];exact⟨_,rfl⟩
  ·rename_i m e ht;cases hm:Nat.ble m 64 with
   |false=>rw[hm]at h';cases h'
   |true=>
    rw[hm]at h';simp only[cond_true]at h';obtain⟨c1,U,H⟩:=zca.1 h';cases I:(Nat.beq c1.length (P.cellsOf e)&&Nat.beq (m*c1.length) (P.cellsOf t))with
    |false=>rw[I]at H;cases H
    |true=>
     rw[I]at H;simp only[cond_true,Option.some.injEq]at H;subst H;rw[zaT]at I;have e1:=zab I.1;have e2:=zab I.2;obtain⟨xs,q,rfl,_,hl,hxl,hf⟩:=DataW.trod_array ht T;have main:∀(k i:Nat),i+k=m→∃ys,jO (ar2 c1 k) ys/\cz ok w ys (cs.drop (i*c1.length)):=by
      intro k
      induction k with
      |zero=>
       intro i W;refine⟨[],by show jO [] [];simp[jO],?_⟩;simp only[cz];exact zb7 (by rw[hl,<-e2,show i=m by omega];exact zai _)
      |succ k ihk=>
       intro i W;have tj:=hf i V;have:i<xs.length:=V;rw[zah this]at tj;obtain⟨ys1,g1,g2⟩:=ih _ _ _ _ _ U tj;obtain⟨ys2,g3,g4⟩:=ihk (i+1) V;refine⟨ys1++ys2,CZ _ _ _ _ g1 g3,?_⟩;rw[di];rw[<-e1]at g2;refine⟨_,_,?_,g2,g4⟩;rw[Nat.add_mul,Nat.one_mul,<-zaE,zaF]
     obtain⟨ys,g1,g2⟩:=main m 0 V;exact⟨ys,g1,by simpa using g2⟩
  ·cases h'
abbrev XE:=List CT
end
end
end Go.Dv
namespace Go.Dv
open Go Go.ChangeShapes Go.WideShapes Go.Deep Go.RowKit
section
def M_:List (Bool×XE)->CK->Prop
 |[],xs=>xs=[]
 |p::r,xs=>∃y ys,xs=y::ys/\(p.1=true→∃zs,y=.agg zs/\jO p.2 zs)/\(p.1=false->jO p.2 [y])/\M_ r ys
def Wj(P:Program)(ts:List TypeId):List (Bool×Option (XE)):=ts.map λt=>(FD P t,zo P 8 t)
section
variable {h2:Type} {enc:TypeId×Value->h2} {P:Program} {w:World} {base:Nat}
def afr{n:Nat}{t:TypeId}{c:XE}{v:Value}{r:Reach}{b0:Nat}(hf:zo P n t=some c)(ha:FD P t=false)(hv:Value.okWide P w r b0 t v):v.cells.toList=[v]:=by
 cases n with
 |zero=>cases hf
 |succ n=>
  have h':(match P.underlying t with
   |some .bool=>some [CT.bool]
   |some (.int k)=>some [CT.int k]
   |some .string=>some [CT.str]
   |some (.slice e)=>(zo P n e).bind λcs=>bif Nat.beq cs.length (P.cellsOf e)&&Nat.ble 1 cs.length&&(FD P e||Nat.beq cs.length 1)then some [CT.sl (FD P e) cs]else none
   |some (.struct fs)=>(Mj P (zo P n) fs.toList 0).bind λcs=>bif Nat.beq cs.length (P.cellsOf t)then some cs else none
   |some (.array m e)=>bif Nat.ble m 64 then(zo P n e).bind λcs=>bif Nat.beq cs.length (P.cellsOf e)&&Nat.beq (m*cs.length) (P.cellsOf t)then some (ar2 cs m)else none else none
   |_=>none)=some c:=hf
  unfold FD at ha;split at h'
  ·rename_i ht;obtain⟨b,rfl⟩:=okWide_bool ht hv;rfl
  ·rename_i ht;obtain⟨b,rfl⟩:=okWide_int ht hv;rfl
  ·rename_i ht;obtain⟨b,rfl⟩:=okWide_string ht hv;rfl
  ·rename_i ht;obtain⟨a,l,c,rfl⟩:=okWide_slice ht hv;rfl
  ·rename_i ht;rw[ht]at ha;cases ha
  ·rename_i ht;rw[ht]at ha;cases ha
  ·cases h'
def atu(ok:Nat->Prop)(b_:∀b,b<w.heap.size->ok b){sp:Nat->Bool}{held:Bool}{r:Reach}{b0:Nat}:∀(ts:List TypeId) (sig:List (Bool×XE)) (vs:XS) (ds:List (DataW h2)) (ps:List MemPlace),
 Wj P ts=sig.map (λp=>(p.1,some p.2))->(∀(j:Nat) t v,ts[j]?=some t->vs[j]?=some v->Value.okWide P w r b0 t v)->DataW.TrodAll enc P w base sp held ts vs ds ps→∃xs,M_ sig xs/\cz ok w xs vs:=by
 intro ts
 induction ts with
 |nil=>
  intro sig vs ds ps hs _ h;obtain⟨rfl,rfl,rfl⟩:=trodAll_nil h;cases sig with
  |nil=>exact⟨[],by simp[M_],by simp[cz]⟩
  |cons=>simp[Wj]at hs
 |cons t ts ih=>
  intro sig vs ds ps hs MH h;obtain⟨v,Ug,d,ds',p,q,rfl,rfl,rfl,U,H⟩:=trodAll_cons h;cases sig with
  |nil=>simp[Wj]at hs
  |cons s sig=>
   simp only[Wj,zau,List.cons.injEq,Prod.mk.injEq]at hs;obtain⟨⟨nk,PA⟩,hs3⟩:=hs;obtain⟨xs,g1,g2⟩:=ih sig Ug ds' q hs3 (λj t v ht hv=>MH (j+1) t v (by simpa using ht) (by simpa using hv)) H;obtain⟨k,E⟩:=U;obtain⟨ys,g3,g4⟩:=ar4 ok b_ 8 k t _ _ _ PA E;have hv:=MH 0 t v rfl rfl;cases Z6:FD P t with
   |false=>
    rw[afr PA Z6 hv]at g4
    match ys,g4 with
    |[],g4=>simp only[cz]at g4;cases g4
    |y::ys,g4=>
     simp only[cz]at g4;obtain⟨v',r,e,g5,g6⟩:=g4;injection e with e1 e2
     subst e1;subst e2;have:ys=[]:=by
      cases ys with
      |nil=>rfl
      |cons z zs=>simp only[cz]at g6;obtain⟨_,_,e,_⟩:=g6;cases e
     subst this;refine⟨y::xs,?_,?_⟩
     ·simp only[M_];exact⟨y,xs,rfl,λh=>absurd (nk.trans h) (by rw[Z6];decide),λ_=>g3,g1⟩
     ·simp only[cz];exact⟨v,Ug,rfl,g5,g2⟩
   |true=>
    have fu:∃cs,v=.agg cs:=by
     unfold FD at Z6;split at Z6
     ·rename_i fs h;obtain⟨cs,h,_⟩:=okWide_struct h hv;exact⟨cs,h⟩
     ·rename_i m e h;simp only[Value.okWide,h]at hv;obtain⟨cs,U,_⟩:=hv;exact⟨cs,U⟩
     ·cases Z6
    obtain⟨cs,rfl⟩:=fu;refine⟨.agg ys::xs,?_,?_⟩
    ·simp only[M_];exact⟨_,xs,rfl,λ_=>⟨ys,rfl,g3⟩,λh=>absurd (nk.trans h) (by rw[Z6];decide),g1⟩
    ·simp only[cz,Rd];exact⟨_,Ug,rfl,⟨λc F=>by exact Io _ _ g3 c F,cs,rfl,by simpa[Value.cells]using g4⟩,g2⟩
def ai6{f:FuncId}{S:Spec}(h:bQ P f S)(hmu:S.mu=false){sig:List (Bool×XE)}(b9:∀xs,M_ sig xs->S.run xs λr=>r=.pv (.bool true)){ts:List TypeId}(aFa:Wj P ts=sig.map (λp=>(p.1,some p.2)))
 {args:Array Value} {ds:List (DataW h2)} {ps:List MemPlace} {r:Reach} {b0:Nat} (MH:∀(j:Nat) t v,ts[j]?=some t->args.toList[j]?=some v->Value.okWide P w r b0 t v) (hA:DataW.TrodAll enc P w 0 (λ_=>true) true ts args.toList ds ps):
 Calls P f args w λe w'=>e=.returned (.bool true)/\Below w.heap.size w w':=by
 obtain⟨xs,U,H⟩:=atu (λb=>b<w.heap.size) (λ_ I=>I) ts sig _ _ _ aFa MH hA;exact afV h hmu H (b9 xs U)
end
def Pu{α:Type}{g:α->PV}{q:α->Prop}:∀{aw:CK},(∀y∈aw,∃t,y=g t/\q t)→∃l:List α,aw=l.map g∧∀t∈l,q t:=by
 intro aw
 induction aw with
 |nil=>intro _;exact⟨[],rfl,ab⟩
 |cons y ys ih=>
  intro h;obtain⟨t,rfl,ht⟩:=h y ab;obtain⟨l,rfl,hl⟩:=ih λz hz=>h z (by simp[hz])
  exact⟨t::l,rfl,by simpa using⟨ht,hl⟩⟩
end
end Go.Dv
namespace Go.Dv
def bR{K:Bool->Prop}(k:K false):∀r:Bool,(r=true↔(true=false))->K r:=λr J=>by
 cases r with
 |false=>exact k
 |true=>exact absurd (J.1 rfl) ai
def ec{K:Bool->Prop}(k:K true):∀r:Bool,(r=true↔(false=false))->K r:=λr J=>by
 cases r with
 |true=>exact k
 |false=>exact absurd (J.2 rfl) ai
def ak{p:Prop}{K:Bool->Prop}(h:p)(k:K true):∀b:Bool,(b=true↔p)->K b:=λb I=>by
 rw[I.2 h];exact k
def ar{p:Prop}{K:Bool->Prop}(h:¬p)(k:K false):∀b:Bool,(b=true↔p)->K b:=λb I=>by
 cases b with
 |false=>exact k
 |true=>exact absurd (I.1 rfl) h
def MAX{a b:Int}{K:Int->Prop}(k:K (max a b)):∀r:Int,r=max a b->K r:=λr J=>by subst J;exact k
def U7{a b:Int}{K:Int->Prop}(k:K (min a b)):∀r:Int,r=min a b->K r:=λr J=>by subst J;exact k
def QUO{a b:Int}{K:Int->Prop}(h:0<=a/\0<b/\a<=9223372036854775807)(k:K (a/b)):b≠0∧∀r:Int,r=IntKind.i64.wrap (a.tdiv b)->K r:=by
 refine⟨V,λr J=>?_⟩;rw[zb8 h.1]at J;have U:=zcG b h.1;have H:=zcJ h.1 (Int.le_of_lt h.2.1);rw[wrap64 V]at J;subst J;exact k
def REM{a b:Int}{K:Int->Prop}(h:0<=a/\0<b)(k:K (a%b)):b≠0∧∀r:Int,r=a.tmod b->K r:=by
 refine⟨V,λr J=>?_⟩;rw[zcd h.1]at J;subst J;exact k
def GET{α:Type}{f:α->PV}{l:List α}{i:Nat}{K:PV->Prop}(h:i<l.length)(k:∀x,l[i]?=some x->K (f x)):∃y,(l.map f)[i]?=some y/\K y:=
 ⟨f l[i],by rw[zaD,zah h];rfl,k _ (zah h)⟩
def UF{α:Type}{f:α->PV}{l:List α}{i:Int}{p:Prop}(h:0<=i/\i<l.length)(k:p):(0<=i/\i.toNat<(l.map f).length)/\p:=by
 rw[zaw];exact⟨⟨h.1,V⟩,k⟩
def U8{n:Int}{K:Int->Prop}(h:0<=n/\n<=255)(k:K n):∀r:Int,r=IntKind.u8.wrap n->K r:=λr J=>by
 have e:IntKind.u8.wrap n=n:=by
  have I:IntKind.u8.bits=8:=rfl;simp only[IntKind.wrap,IntKind.signed,I];simp;omega
 rw[J,e];exact k
def U8m{n:Int}{K:Int->Prop}(k:K (n%256)):∀r:Int,r=IntKind.u8.wrap n->K r:=λr J=>by
 have e:IntKind.u8.wrap n=n%256:=by
  have I:IntKind.u8.bits=8:=rfl;simp only[IntKind.wrap,IntKind.signed,I];simp
 rw[J,e];exact k
def SHR{j:IntKind}{a b:Int}{K:Int->Prop}(hj:8<=j.bits)(h:0<=b/\b<=8/\0<=a)(k:0<=a/(2^b.toNat:Nat)/\a/(2^b.toNat:Nat)<=a->K (a/(2^b.toNat:Nat))):0<=b∧∀r:Int,r=a.fdiv (2^min b.toNat j.bits)->K r:=by
 refine⟨h.1,λr J=>?_⟩;have e8:min b.toNat j.bits=b.toNat:=V;have hp:0<=((2^b.toNat:Nat):Int):=zcg _;rw[e8,show((2:Int)^b.toNat)=((2^b.toNat:Nat):Int) by simp,zb5 _ hp]at J;subst J;exact k ⟨zcJ h.2.2 hp,zcG _ h.2.2⟩
def agh{α:Type}{f:α->PV}{l:List α}{i:Nat}{K:PV->Prop}(h:i<l.length)(k:∀x,l[i]?=some x->K (f x)):∃y,(0<=(i:Int)/\(l.map f)[(i:Int).toNat]?=some y)/\K y:=
 ⟨f l[i],⟨V,J3⟩,k _ (zah h)⟩
def dU(R:CK->Prop->Prop):Spec:=AT true true λps K=>∃p,R ps p∧∀r:Bool,(r=true↔p)->K (.pv (.bool r))
def awA(R:CK->Prop->Prop):abJ (dU R):=by
 refine⟨λ_=>⟨rfl,λps K h=>?_⟩,λ_ _ h=>h,rfl⟩;obtain⟨p,U,H⟩:=h;refine⟨.bool (@decide p (Classical.propDecidable p)),H _ ab,λK' h=>⟨p,U,λr J=>?_⟩⟩;have:r= @decide p (Classical.propDecidable p):=by
  cases r<;>simp_all
 rw[this];exact h
def aDL{l:P8}{i:Int}{K:PV->Prop}(h:0<=i/\i<l.length)(k:∀x,l[i.toNat]?=some x->x.toNat<256->K (aG x)):∃y,(0<=i/\(l.map aG)[i.toNat]?=some y)/\K y:=by
 have aM:i.toNat<l.length:=V;exact⟨aG l[i.toNat],⟨h.1,by rw[zaD,zah aM];rfl⟩,k _ (zah aM) (zck _)⟩
def azg{a:Int}{K:Int->Prop}(h:0<=a/\a<=4611686018427387903)(k:K (a%2)):∀r:Int,r=dB .and .i64 a 1->K r:=λr J=>by
 have e:dB .and .i64 a 1=a%2:=by
  obtain⟨n,rfl⟩:∃n:Nat,a=n:=⟨a.toNat,V⟩
  have I:IntKind.i64.bits=64:=rfl;have e1:(BitVec.ofInt 64 (n:Int)&&&BitVec.ofInt 64 1).toNat=n%2:=by
   rw[BitVec.toNat_and,BitVec.toNat_ofInt,BitVec.toNat_ofInt];have:((n:Int)%((2:Nat)^64:Nat)).toNat=n:=V;rw[this];exact Nat.and_one_is_mod n
  show IntKind.i64.wrap ((BitVec.ofInt 64 (n:Int)&&&BitVec.ofInt 64 1).toNat:Int)=_;rw[e1,wrap64 V];rfl
 rw[J,e];exact k
def ark{op:BinOp}{j:IntKind}{a b:Int}{K:Int->Prop}(k:K (dB op j a b)):∀r:Int,r=dB op j a b->K r:=λr J=>by rw[J];exact k
def aDT{α:Type}{f:α->PV}{l:List α}{P:α->Prop}{i:Nat}{K:PV->Prop}(hP:∀x∈l,P x)(h:i<l.length)(k:∀x,l[i]?=some x->P x->K (f x)):∃y,(l.map f)[i]?=some y/\K y:=
 GET h λx T=>k x T (hP x (zag T))
def xM(P:Program)(f:Nat)(pc:PC)(ps:QK)(rs:List (Nat×Option (Bool×Nat)))(np:Nat):Prop:=
 ∃fn c l,P.funcs[f]?=some fn/\(fn.name== "runtime.NumGoroutine")=false/\fn.body=some c/\eT P fn.ntmps c=some (strip pc)/\fn.results=List.toArray l/\l.map (ads P)=rs.map some/\l.length<=4/\np<=fn.ntmps
def bb{P:Program}{f:Nat}{pc:PC}{ps:QK}{rs:List (Nat×Option (Bool×Nat))}{np:Nat}(fn:Func)
 (h:(P.funcs[f]?,(fn.name== "runtime.NumGoroutine"),fn.body.map (eT P fn.ntmps),fn.results.toList.map (ads P),Nat.ble fn.results.toList.length 4,Nat.ble np fn.ntmps)=(some fn,false,some (some (strip pc)),rs.map some,true,true)):xM P f pc ps rs np:=by
 simp only[Prod.mk.injEq]at h;obtain⟨U,H,h3,h4,h5,h6⟩:=h;cases I:fn.body with
 |none=>rw[I]at h3;cases h3
 |some c=>
  rw[I]at h3;exact⟨fn,c,fn.results.toList,U,H,I,Option.some.inj h3,ab,h4,za4 h5,za4 h6⟩
def xM.sound{P:Program}{f:Nat}{pc:PC}{ps:QK}{rs:List (Nat×Option (Bool×Nat))}{np:Nat}(w:xM P f pc ps rs np)(hm:P.follows .mixedOrders=true){Γ:Ctx}{S:Spec}(hΓ:Sound P Γ)(hS:abJ S)(cI:∀args K,S.run args K->args.length=np)(h:ahF Γ ps pc rs S):bQ P f S:=by
 obtain⟨fn,c,l,U,H,h3,h4,h5,h6,h7,h8⟩:=w;exact abC hΓ hm U H h3 h4 h5 h6 h7 hS np h8 cI h
def xM.aoc{P:Program}{f:Nat}{pc:PC}{ps:QK}{rs:List (Nat×Option (Bool×Nat))}{np:Nat}(w:xM P f pc ps rs np)(hm:P.follows .mixedOrders=true){Γ:Ctx}{j0:XP->ax->(AV->ax->Prop)->Prop}(hΓ:Sound P Γ)(cI:∀xs Z K,j0 xs Z K->xs.length=np)(h:Yl Γ ps pc rs (lZ j0)):bQ P f (lZ j0):=by
 obtain⟨fn,c,l,U,H,h3,h4,h5,h6,h7,h8⟩:=w;exact Y_ hΓ hm U H h3 h4 h5 h6 h7 np h8 cI h
def CS(P:Program)(l:List (Nat×Spec)):Prop:=List.rec True (λa _ ih=>bQ P a.1 a.2/\ih) l
def CS.ok{P:Program}:∀l,CS P l->Sound P (ao l)
 |[],_=>Ep
 |(_,_)::l,⟨a,b⟩=>zm a (CS.ok l b)
def xM.snd{P:Program}{f:Nat}{pc:PC}{ps:QK}{rs:List (Nat×Option (Bool×Nat))}{np:Nat}(w:xM P f pc ps rs np){Γ:List (Nat×Spec)}{S:Spec}(hΓ:CS P Γ)(h:ahF (ao Γ) ps pc rs S)(hm:P.follows .mixedOrders=true:=by exact mixed)(hS:abJ S:=by first|exact VS _|exact awA _|exact av1 _ _|exact av9 _ _)(ha:∀args K,S.run args K->args.length=np:=by first|(rintro _ _ ⟨_,⟨_,rfl,_⟩,_⟩;rfl)|(rintro _ _ ⟨_,⟨_,_,rfl,_⟩,_⟩;rfl)|(rintro _ _ ⟨_,⟨_,_,_,rfl,_⟩,_⟩;rfl)|(rintro _ _ ⟨_,rfl,_⟩;rfl)|(rintro _ _ ⟨_,⟨_,_,_,_,rfl,_⟩,_⟩;rfl)|(rintro _ _ ⟨_,_,rfl,_⟩;rfl)|(rintro _ _ ⟨_,⟨_,_,_,_,_,_,rfl,_⟩,_⟩;rfl)|(rintro _ _ ⟨_,_,_,rfl,_⟩;rfl)|(rintro _ _ ⟨_,⟨_,_,_,_,_,rfl,_⟩,_⟩;rfl)|(rintro _ _ ⟨_,_,_,_,rfl,_⟩;rfl)|(rintro _ _ ⟨_,⟨_,_,_,_,_,_,_,_,_,_,_,_,_,_,_,_,_,_,_,rfl,_⟩,_⟩;rfl)|(rintro _ _ ⟨_,⟨rfl,_⟩,_⟩;rfl)|(rintro _ _ ⟨_,⟨_,_,_,_,_,_,_,rfl,_⟩,_⟩;rfl)):bQ P f S:=w.sound hm (CS.ok _ hΓ) hS ha h
def xM.wC{P:Program}{f:Nat}{pc:PC}{ps:QK}{rs:List (Nat×Option (Bool×Nat))}{np:Nat}(w:xM P f pc ps rs np){Γ:List (Nat×Spec)}{j0:XP->ax->(AV->ax->Prop)->Prop}(hΓ:CS P Γ)(h:Yl (ao Γ) ps pc rs (lZ j0))(hm:P.follows .mixedOrders=true:=by exact mixed)(ha:∀xs Z K,j0 xs Z K->xs.length=np:=by first|(rintro _ _ _ ⟨_,rfl,_⟩;rfl)|(rintro _ _ _ ⟨_,_,rfl,_⟩;rfl)|(rintro _ _ _ ⟨_,_,_,rfl,_⟩;rfl)|(rintro _ _ _ ⟨_,_,_,_,rfl,_⟩;rfl)|(rintro _ _ _ ⟨_,_,_,_,_,rfl,_⟩;rfl)|(rintro _ _ _ ⟨_,_,_,_,_,_,rfl,_⟩;rfl)|(rintro _ _ _ ⟨_,_,_,_,_,_,_,rfl,_⟩;rfl)|(rintro _ _ _ ⟨_,_,_,_,_,_,_,_,rfl,_⟩;rfl)|(rintro _ _ _ ⟨_,_,_,_,_,_,_,_,_,rfl,_⟩;rfl)):bQ P f (lZ j0):=w.aoc hm (CS.ok _ hΓ) ha h
section
section
variable (P:Program)
def gnU(t:TypeId)(K:TypeDesc->Prop):Prop:=match P.underlying t with|some d=>K d|none=>False
def gnI(t:TypeId)(K:Nat->Nat->Option Value->Prop):Prop:=match P.info? t with|some ⟨_,_,n,b,_,_,_,z,_,_⟩=>K n b z|none=>False
def gnL(t:TypeId)(K:TypeId->Nat->Nat->Prop):Prop:=gnU P t λd=>match d with| .slice e=>gnI P e λn b _=>K e n b|_=>False
def asy(t:TypeId)(K:Bool->Nat->Prop):Prop:=gnI P t λn _ _=>gnU P t λd=>match d with| .struct _=>K true n| .array _ _=>K true n|_=>K false 1
def gnA{α:Type}(l m:List α)(K:List α->Prop):Prop:=List.rec (λK=>K m) (λa _ ih K=>ih λt=>K (a::t)) l K
def gnM{α β:Type}(f:α->(β->Prop)->Prop)(l:List α):(List β->Prop)->Prop:=List.rec (λK=>K []) (λa _ ih K=>f a λb=>ih λt=>K (b::t)) l
def gnN(n:Nat)(K:Nat->Prop):Prop:=Nat.rec (K 0) (λm _=>K (Nat.succ m)) n
def gnR{α:Type}(x:List α)(n:Nat):(List α->Prop)->Prop:=Nat.rec (λK=>K []) (λ_ ih K=>ih λt=>gnA x t K) n
def gnZ(n:Nat):TypeId->(CK->Prop)->Prop:=Nat.rec (λ_ _=>False) (λ_ ih t K=>gnU P t λd=>match d with
 | .struct ⟨fs⟩=>List.rec (λK=>K []) (λf _ r K=>ih f.type λl=>r λm=>gnA l m K) fs K
 | .array m e=>ih e λl=>gnR l m K
 | .bool=>K [.bool false]
 | .int k=>K [.int k 0]
 | .string=>K [.str []]
 | .slice e=>gnI P e λn _ _=>K [.nil n]
 | .pointer _=>K [.val (.pointer none)]
 | .interface _=>K [.val .nilIface]
 | .func _ _ _=>K [.val .nilFunc]
 |_=>False) n
def amN(t:TypeId)(K:PV->Prop):Prop:=asy P t λa _=>gnZ P 8 t λl=>match a with
 |true=>K (.agg l)
 |false=>(match l with
  |[x]=>K x
  |_=>False)
def azI(t:TypeId)(K:PV->Nat->Prop)(hk:Prop):Prop:=gnU P t λd=>match d with
 | .array n e=>(match Nat.blt 8 n with
  |true=>amN P e λz=>K z n
  |false=>hk)
 |_=>hk
def gnK(l:List Field):(QK->Prop)->Prop:=List.rec (λK=>K []) (λf _ ih K=>gnU P f.type λd=>match d with
 | .int _=>ih λt=>K (0::t)
 | .string=>ih λt=>K (1::t)
 | .bool=>ih λt=>K (2::t)
 |_=>False) l
def gnX(x:Operand)(K:Int->Prop)(hk:Prop):Prop:=match x with| .const (.int _ n)=>K n|_=>hk
def aAe(n:Int)(s:Nat)(K:Nat->Prop):Prop:=gnN (n.toNat*s) K
def gnF(t:TypeId)(f:Nat)(K:Nat->Bool->Nat->Prop):Prop:=gnU P t λd=>match d with
 | .struct ⟨fs⟩=>eM fs f λ⟨_,ty,o,_,_,_,_⟩=>asy P ty λa n=>K o a n
 |_=>False
def azU(x:Operand):Bool:=match x with| .const (.slice none 0 0)=>true|_=>false
def azr(dr:Bool)(x:Operand)(t:TypeId)(K:PK->Prop):Prop:=match azU x with
 |true=>gnL P t λe n _=>(match dr with|true=>K (.nilS n)|false=>K (.nilR e n))
 |false=>K (.mv x)
def gnE(b:Bool)(t:TypeId)(x y:Operand)(K:PK->Prop):Prop:=gnU P t λd=>match d with
 | .bool=>K (.eqb b x y)
 | .slice _=>K (.isnil b x)
 | .struct ⟨fs⟩=>gnK P fs λks=>K (.eqs b ks x y)
 |_=>(match b with|true=>K (.bin .neq x y)|false=>K (.bin .eql x y))
def gnC(dr:Bool)(c:Call)(K:PK->Prop):Prop:=match c with
 |⟨cl,⟨aM1⟩,⟨ts⟩⟩=>match cl with
  | .value f=>(match f with
   | .func f=>(match P.funcs[f]? with
    |some fn=>(match fn.body with
     |some _=>K (.call f aM1)
     |none=>K .fail)
    |none=>False)
   |_=>K (.callv f aM1))
  | .builtin b=>(match b,aM1,ts with
   | .len,[x],[t]=>(gnU P t λd=>match d with
    | .string=>K (.lenS x)
    |_=>(match dr with|true=>K (.lenN x)|false=>K (.lenR x)))
   | .append,[x,y],[t,u]=>(gnL P t λe n b=>gnU P u λd=>match d with
    | .string=>K (.appS e b x y)
    |_=>K (.app e n b x y))
   | .copy,[x,y],[t,u]=>(gnL P t λ_ n _=>gnU P u λd=>match d with
    | .string=>K (.cpyS x y)
    |_=>K .fail)
   | .clear,[x],[t]=>gnL P t λe n _=>amN P e λz=>K (.clr n z x)
   | .min,[x,y],_=>K (.mm false x y)
   | .max,[x,y],_=>K (.mm true x y)
   |_,_,_=>K .fail)
  |_=>K .fail
def gnP(dr:Bool)(o:Op)(ty:TypeId)(K:PK->Prop):Prop:=match o with
 | .move x=>azr P dr x ty K
 | .assign x=>azr P dr x ty K
 | .pick c a b=>K (.pick c a b)
 | .binOp op t x y _=>(match op with
  | .eql=>gnE P false t x y K
  | .neq=>gnE P true t x y K
  |op=>K (.bin op x y))
 | .unOp op _ x=>K (.un op x)
 | .lookup _ x k c=>K (.look c x k)
 | .convert s d x=>(gnU P s λs=>gnU P d λd=>match s,d with
  | .string,.slice e=>K (.conv (.stb e) x)
  | .slice _,_=>K (.conv .bts x)
  | .string,_=>K (.conv .same x)
  |_,.int k=>K (.conv (.toInt k) x)
  |_,_=>False)
 | .load t x=>asy P t λa n=>K (.load a n x)
 | .store t x v=>gnI P t λn _ _=>K (.store n x v)
 | .alloc e=>azI P e (λz n=>K (.mkarr e 1 z n)) (amN P e λz=>K (.alloc e z))
 | .box e x=>K (.box e x)
 | .build t ⟨ps⟩=>(amN P t λz=>gnM (λp K=>match p with
  |(i,x)=>gnU P t λd=>match d with
   | .struct ⟨fs⟩=>eM fs i λ⟨_,f,o,_,_,_,_⟩=>gnI P f λn _ _=>K (o,n,x)
   | .array _ e=>gnI P e λn _ _=>gnN (Nat.mul i n) λo=>K (o,n,x)
   |_=>False) ps λps=>match z with
   | .agg cs=>K (.build cs ps)
   |_=>False)
 | .buildSlice t _ ⟨ps⟩=>gnL P t λe n _=>gnM (λp K=>match p with|(_,x)=>K x) ps λps=>(match dr with|true=>K (.bslP e n ps)|false=>K (.bslice e n ps))
 | .call c=>gnC P dr c K
 | .extract x i=>K (.ext x i)
 | .slice t x lo W _=>(gnU P t λd=>match d with
  | .string=>K (.slcS x lo W)
  | .slice e=>gnI P e λn _ _=>K (.slcR n x lo W)
  |_=>False)
 | .index t x i=>(gnU P t λd=>match d with
  | .array m e=>asy P e λa n=>gnX i (λk=>aAe k n λo=>K (.fld o a n x)) (K .fail)
  |_=>K (.idx x i))
 | .indexAddr t x i=>(gnU P t λd=>match d with
  | .array m e=>azI P t (λ_ n=>K (.idxAr n 1 x i)) (gnI P e λn _ _=>gnX i (λk=>aAe k n λo=>K (.fldA o x)) (K .fail))
  |_=>gnL P t λ_ n _=>K (.idxA n x i))
 | .fieldAddr t x f=>gnF P t f λo _ _=>K (.fldA o x)
 | .field t x f=>gnF P t f λo a n=>K (.fld o a n x)
 | .nilCheck x=>K (.nilck x)
 | .makeFunc f _ ⟨cs⟩=>(match f with
  | .func f=>K (.mkf f cs)
  |_=>False)
 | .makeSlice t l c=>gnL P t λe n b=>amN P e λz=>K (.mksl e n b z l c)
 | .panic _=>K .fail
 | .makeInterface _ _=>K .junk
 |_=>False
def gnO(dr:Bool)(ops:List Oper)(o:Oper)(K:PO->Prop):Prop:=match o with
 |⟨d,op,ty,_,_,g⟩=>gnP P dr op ty λk=>match g with
  |none=>K ⟨d,none,k⟩
  |some (j,w)=>eM ops j λq=>match q with
   |⟨e,_,_,_,_,_⟩=>match e with
    |some e=>K ⟨d,some (e,w),k⟩
    |none=>False
def gnB(l:List Edge):(QK->Prop)->Prop:=List.rec (λK=>K []) (λe _ ih K=>match e with
 |⟨i,gd⟩=>match gd with
  | .textOnly _=>ih K
  | .gcOnly _=>ih K
  |_=>ih λt=>K (i::t)) l
def aDI(c:Code):(Od->Prop)->Prop:=
 Code.rec (motive:=λ_=>(Od->Prop)->Prop) (λK=>K [])
  (λ_ ops _=>match ops with|⟨os⟩=>gnM (gnO P false os) os)
  (λ_ _ x y K=>x λl=>y λm=>gnA l m K)
  (λ_ _ _ _ _ _=>False) (λ_ _ _ _=>False) (λ_ _ _=>False) (λ_ _ _ _ _ _ _=>False) (λ_ _=>False) (λ_ _ _=>False) (λ_ _=>False) (λ_ _=>False) (λ_=>False) (λ_ _=>False) c
def gnG(c:Code):QE->List (QK)->(PC->QE->List (QK)->Prop)->Prop:=
 Code.rec (motive:=λ_=>QE->List (QK)->(PC->QE->List (QK)->Prop)->Prop)
  (λb l K=>K .skip b l)
  (λ_ ops dr b l K=>match ops with
    |⟨ops⟩=>gnM (gnO P dr ops) ops λos=>match dr with
     |false=>K (.region os) b l
     |true=>gnM (λo K=>match o with|⟨_,_,_,_,⟨es⟩,_⟩=>gnB es K) ops λaf=>match b with
      |true::b=>K (.drawD os af) b l
      |_::b=>K (.draw os af) b l
      |b=>K (.draw os af) b l)
  (λ_ _ x y b l K=>x b l λp b l=>y b l λq b l=>K (.seq p q) b l)
  (λc _ _ x y b l K=>x b l λp b l=>y b l λq b l=>K (.cond c p q) b l)
  (λi _ x b l K=>x b l λp b l=>K (.block i p) b l)
  (λ_ x b l K=>match l with
    |v::l=>x b l λp b l=>K (.loop v p) b l
    |_=>False)
  (λf ps aM1 _ _ y b l K=>match ps with
    |⟨ps⟩=>aDI P aM1 λos=>y b l λp b l=>K (.rangeF f ps os p) b l)
  (λi b l K=>K (.exit i) b l)
  (λ_ _ _ _ _=>False) (λ_ _ _ _=>False) (λ_ _ _ _=>False)
  (λb l K=>K .ret b l)
  (λ_ _ _ _=>False) c
def aD9(f:Func)(b:QE)(l:List (QK))(K:PC->Prop):Prop:=match f.body with|some c=>gnG P c b l λp _ _=>K p|none=>False
end
end
section
abbrev pI(n:Int):PV:=.int .i64 n
abbrev eN(k:Nat)(n:Int):Nat×AV:=(k,.pv (pI n))
abbrev pB(b:Bool):PV:=.bool b
def jD{n:Nat}{w:Nat}(h:n<2^w):(BitVec.ofInt w (n:Int)).toNat=n:=by
 rw[BitVec.ofInt_natCast,BitVec.toNat_ofNat,zcH h]
def Kz{n:Nat}(h:n<2^62):IntKind.i64.wrap (n:Int)=n:=by
 have:(2:Nat)^62=4611686018427387904:=ai;exact wrap64 V
def ac6{a b:Nat}(ha:a<2^62)(I:b<2^62):dB .and .i64 (a:Int) (b:Int)=((a&&&b:Nat):Int):=by
 unfold dB;have U:a&&&b<2^62:=zbW zcu ha;have e:IntKind.i64.bits=64:=rfl;simp only[e,BitVec.toNat_and];rw[jD (zae ha ai),jD (zae I ai)];exact Kz U
def So{n:Nat}(h:n<256):IntKind.u8.wrap (n:Int)=n:=by
 have I:IntKind.u8.bits=8:=rfl;simp only[IntKind.wrap,IntKind.signed,I];simp;omega
def Hs{a k b:Nat}(h:a<2^k):a|||(2^k*b)=a+2^k*b:=by
 rw[Nat.or_comm,<-zcm h,zcB]
def Jj(a k:Nat):a&&&(2^k-1)=a%2^k:=zcj a k
def jW(n:Nat):UInt8:=UInt8.ofNat n
def lA{n:Nat}(h:n<256):(jW n).toNat=n:=by simp[jW];omega
def rY{n:Int}(h:0<=n/\n<256):PV.int .u8 n=aG (jW n.toNat):=by
 unfold aG;rw[lA V];congr 1;omega
def cn{a b:Int}(h:a=b):pI a=pI b:=by rw[h]
def Gt{a b:Bool}(h:a=true↔b=true):pB a=pB b:=by
 cases a<;>cases b<;>simp_all
def bG(l:OG):∀x∈l.map pI,x.flat:=by
 intro x T;obtain⟨t,_,rfl⟩:=zaX.1 T;trivial
def azE{l:P8}{i:Nat}{K:PV->Prop}(h:i<l.length)(k:∀x,l[i]?=some x->x.toNat<256->K (aG x)):∃y,(0<=(i:Int)/\(l.map aG)[(i:Int).toNat]?=some y)/\K y:=
 ⟨aG l[i],⟨V,J3⟩,k _ (zah h) (zck _)⟩
def aze{α:Type}{f:α->PV}{l:List α}{i:Nat}{K:PV->Prop}(h:i<l.length)(k:∀x,l[i]?=some x->K (f x)):∃y,(l.map f)[(i:Int).toNat]?=some y/\K y:=
 ⟨f l[i],J3,k _ (zah h)⟩
def azC{l:P8}{i:Nat}{K:PV->Prop}(h:i<l.length)(k:∀x,l[i]?=some x->x.toNat<256->K (aG x)):∃y,(l.map aG)[(i:Int).toNat]?=some y/\K y:=
 ⟨aG l[i],J3,k _ (zah h) (zck _)⟩
def aDu{l:P8}{i:Nat}{K:PV->Prop}(h:i<l.length)(k:∀x,l[i]?=some x->x.toNat<256->K (aG x)):∃y,(l.map aG)[i]?=some y/\K y:=
 ⟨aG l[i],by rw[zaD,zah h];rfl,k _ (zah h) (zck _)⟩
def U64{n:Int}{K:Int->Prop}(h:0<=n/\n<=9223372036854775807)(k:K n):∀r:Int,r=IntKind.u64.wrap n->K r:=λr J=>by
 have e:IntKind.u64.wrap n=n:=by
  have I:IntKind.u64.bits=64:=rfl;simp only[IntKind.wrap,IntKind.signed,I];simp;omega
 rw[J,e];exact k
def asW{j:IntKind}{a:Int}{K:Int->Prop}(h:0<=a)(k:K (a/2)):0<=(1:Int)∧∀r:Int,r=a.fdiv (2^min (1:Int).toNat j.bits)->K r:=by
 refine⟨ai,λr J=>?_⟩;have e8:min (1:Int).toNat j.bits=1:=by cases j<;>decide
 rw[e8,zb5 _ ai]at J;rw[J];exact k
def jP{α:Type}{f:α->PV}{l:List α}{i:Nat}{x:α}{K:PV->Prop}(h:l[i]?=some x)(k:K (f x)):∃y,(0<=(i:Int)/\(l.map f)[(i:Int).toNat]?=some y)/\K y:=
 ⟨f x,⟨V,by rw[zaC,zaD,h];rfl⟩,k⟩
def az7{α:Type}{f:α->PV}{l:List α}{i:Int}{x:α}{K:PV->Prop}(h0:0<=i)(h:l[i.toNat]?=some x)(k:K (f x)):∃y,(0<=i/\(l.map f)[i.toNat]?=some y)/\K y:=
 ⟨f x,⟨h0,by rw[zaD,h];rfl⟩,k⟩
def azp{α:Type}{f:α->PV}{l:List α}{i:Nat}{x:α}{K:PV->Prop}(h:l[i]?=some x)(k:K (f x)):∃y,(l.map f)[i]?=some y/\K y:=
 ⟨f x,by rw[zaD,h];rfl,k⟩
def ox{α:Type}{f:α->PV}{l:List α}{i:Nat}{x:α}{K:PV->Prop}(h:l[i]?=some x)(k:K (f x)):∃y,(l.map f)[(i:Int).toNat]?=some y/\K y:=
 ⟨f x,by rw[zaC,zaD,h];rfl,k⟩
def aD6{j:IntKind}{n:Int}{K:Int->Prop}(k:∀r,K r):∀r:Int,r=j.wrap n->K r:=λr _=>k r
def gRA{p:RV->Prop}(x:RV)(h:p x):∃x,p x:=⟨x,h⟩
def gRB{p:Ux->Prop}(x:Ux)(h:p x):∃x,p x:=⟨x,h⟩
def gRC{k:Nat}{p:Nat->Prop}(x:Nat)(h:x<k)(g:p x):∃x,x<k/\p x:=⟨x,h,g⟩
def BTS{l:P8}{K:P8->Prop}(k:K l):∃l',l.map aG=l'.map aG/\K l':=⟨l,rfl,k⟩
def aDE{K:P8->Prop}(k:K []):∃l':P8,[]=l'.map aG/\K l':=⟨[],rfl,k⟩
def O5{α β:Type}{f:α->β}{a b:Nat}{l:List α}:cut a b (l.map f)=(cut a b l).map f:=by simp[cut]
def aib{α:Type}{a b:Nat}{l:List α}(h:b<=l.length):(cut a b l).length=b-a:=by simp[cut];omega
def iU{α:Type}{l:List α}{x:α}:x∈l↔∃i:Nat,l[i]?=some x:=List.mem_iff_getElem?
def fo{α:Type}{l:List α}{i:Nat}{x:α}(h:l[i]?=some x):i<l.length:=by
 by_cases W:i<l.length
 ·exact W
 ·rw[zaM V]at h;cases h
def get_inj{α:Type}{l:List α}{i:Nat}{x y:α}(h:l[i]?=some x)(h':l[i]?=some y):x=y:=Option.some.inj (h.symm.trans h')
def iM{α β:Type}{f:α->β}{l:List α}{i:Nat}{x:α}:(l.map f).set i (f x)=(l.set i x).map f:=by rw[List.map_set]
def cJ{α:Type}(f:Nat->α)(n:Nat):List α:=(List.range n).map f
section
variable {α:Type} {f g:Nat->α} {n:Nat}
@[simp] theorem b8:(cJ f n).length=n:=by simp[cJ]
def bw{i:Nat}(h:i<n):(cJ f n)[i]?=some (f i):=by simp[cJ,h]
def ack{i:Nat}{x:α}(h:(cJ f n)[i]?=some x):i<n/\x=f i:=by
 have W:i<n:=by
  by_cases W:i<n
  ·exact W
  ·rw[zaM aH]at h;cases h
 rw[bw W]at h;exact⟨W,(Option.some.inj h).symm⟩
def j_(h:∀i,i<n->f i=g i):cJ f n=cJ g n:=by
 unfold cJ;apply zbG;intro i W;exact h i (by simpa using W)
def kS{i:Nat}{x:α}:(cJ f n).set i x=cJ (λj=>if j=i then x else f j) n:=by
 apply zbb;intro j;by_cases hj:j<n
 ·rw[bw hj];by_cases h:j=i
  ·subst h;simp[hj]
  ·rw[List.getElem?_set_ne V,bw hj,if_neg h]
 ·rw[zaM aH,zaM aH]
def Cf:cJ f (n+1)=cJ f n++[f n]:=by simp[cJ,List.range_succ]
def avZ{l:List α}(h:∀i x,l[i]?=some x->x=f i):l=cJ f l.length:=by
 apply zbb;intro i;by_cases W:i<l.length
 ·rw[bw W,zah W];exact congrArg some (h i _ (zah W))
 ·rw[zaM V,zaM aH]
def T0{hc:α->PV}{i:Nat}{K:PV->Prop}(h:i<n)(k:K (hc (f i))):∃y,((cJ f n).map hc)[i]?=some y/\K y:=⟨_,by rw[zaD,bw h];rfl,k⟩
def N9{hc:α->PV}{i:Int}{p:Prop}(h:0<=i/\i<n)(k:p):(0<=i/\i.toNat<((cJ f n).map hc).length)/\p:=by
 rw[zaw,b8];exact⟨⟨h.1,V⟩,k⟩
end
end
section
section
variable {α:Type}
def UY(f:Nat->α)(a n:Nat):List α:=(List.range n).map λi=>f (a+i)
def En(f:Nat->α)(a n k:Nat):UY f a (n+k)=UY f a n++UY f (a+n) k:=by
 unfold UY;rw[List.range_add,zaY,List.map_map];congr 1;apply zbG;intro i _;simp[zaL]
def W_{f g:Nat->α}{a n:Nat}(h:∀j,a<=j->j<a+n->f j=g j):UY f a n=UY g a n:=by
 unfold UY;apply zbG;intro i W;exact h _ V (by simp at W;omega)
def agY(f:Nat->α)(n:Nat):UY f 0 n=cJ f n:=by
 unfold UY cJ;simp
def aij{f:Nat->α}{a n:Nat}{x:α}:x∈UY f a n↔∃j,a<=j/\j<a+n/\f j=x:=by
 unfold UY;rw[zaX];constructor
 ·rintro⟨i,W,rfl⟩;exact⟨a+i,V,by simp at W;omega,rfl⟩
 ·rintro⟨j,U,H,rfl⟩;exact⟨j-a,aH,by rw[show a+(j-a)=j by omega]⟩
def c8(a b:Nat)(f g:Nat->α):Prop:=(UY g a (b-a)).Perm (UY f a (b-a))∧∀j,¬(a<=j/\j<b)->g j=f j
def c8.refl(a b:Nat)(f:Nat->α):c8 a b f f:=⟨.refl _,λ_ _=>rfl⟩
def c8.trans{a b:Nat}{f g h:Nat->α}(p:c8 a b f g)(q:c8 a b g h):c8 a b f h:=
 ⟨q.1.trans p.1,λj hj=>(q.2 j hj).trans (p.2 j hj)⟩
def c8.wide{a b c d:Nat}{f g:Nat->α}(p:c8 a b f g)(U:c<=a)(H:b<=d)(h3:a<=b):c8 c d f g:=by
 refine⟨?_,λj hj=>p.2 j V⟩;have e:d-c=(a-c)+((b-a)+(d-b)):=V;rw[e,En,En,En f,En f];rw[show c+(a-c)=a by omega,show a+(b-a)=b by omega];rw[W_ (f:=g) (g:=f) (a:=c) (n:=a-c) λj h4 h5=>p.2 j V,W_ (f:=g) (g:=f) (a:=b) (n:=d-b) λj h4 h5=>p.2 j V];exact(p.1.append_right _).append_left _
def c8.mem{a b:Nat}{f g:Nat->α}(p:c8 a b f g){j:Nat}(U:a<=j)(H:j<b):∃i,a<=i/\i<b/\g j=f i:=by
 have:g j∈UY g a (b-a):=aij.2 ⟨j,U,V,rfl⟩;obtain⟨i,h3,h4,h5⟩:=aij.1 (p.1.mem_iff.1 this);exact⟨i,h3,V,h5.symm⟩
def c8.all{a b:Nat}{f g:Nat->α}{P:α->Prop}(p:c8 a b f g)(h:∀j,P (f j))(j:Nat):P (g j):=by
 by_cases hj:a<=j/\j<b
 ·obtain⟨i,_,_,e⟩:=p.mem hj.1 hj.2;rw[e];exact h i
 ·rw[p.2 j hj];exact h j
def c8.perm{n:Nat}{f g:Nat->α}(p:c8 0 n f g):(cJ g n).Perm (cJ f n):=by
 have:=p.1;rw[zcq,agY,agY]at this;exact this
def zz(f:Nat->α)(i j:Nat):Nat->α:=λk=>if k=j then f i else if k=i then f j else f k
def Ru(f:Nat->α){i:Nat}:c8 i (i+2) f (zz f i (i+1)):=by
 refine⟨?_,λk E=>?_⟩
 ·have:∀g:Nat->α,UY g i (i+2-i)=[g i,g (i+1)]:=by
   intro g;rw[show i+2-i=2 by omega];rfl
  rw[this,this];have s1:zz f i (i+1) i=f (i+1):=by unfold zz;rw[if_neg V,if_pos rfl]
  have s2:zz f i (i+1) (i+1)=f i:=by unfold zz;rw[if_pos rfl]
  rw[s1,s2];exact .swap _ _ _
 ·unfold zz;rw[if_neg V,if_neg V]
def lF(f:Nat->α)(a m b:Nat):Nat->α:=λj=>if a<=j/\j<a+(b-m)then f (j+(m-a))else if a+(b-m)<=j/\j<b then f (j-(b-m))else f j
def akB(f:Nat->α){a m b:Nat}(U:a<=m)(H:m<=b):c8 a b f (lF f a m b):=by
 refine⟨?_,λj hj=>?_⟩
 ·have e:b-a=(b-m)+(m-a):=by omega
  have e1:UY (lF f a m b) a (b-m)=UY f m (b-m):=by
   unfold UY;apply zbG;intro i W;simp at W;unfold lF;rw[if_pos V];congr 1;omega
  have e2:UY (lF f a m b) (a+(b-m)) (m-a)=UY f a (m-a):=by
   unfold UY;apply zbG;intro i W;simp at W;unfold lF;rw[if_neg V,if_pos V];congr 1;omega
  rw[e,En,e1,e2,zcB (b-m),En,show a+(m-a)=m by omega];exact List.perm_append_comm
 ·unfold lF;rw[if_neg V,if_neg V]
def Fv(f:Nat->α)(a b n:Nat):Nat->α:=λj=>if a<=j/\j<a+n then f (j-a+b)else if b<=j/\j<b+n then f (j-b+a)else f j
structure Ord(lt:α->α->Bool):Prop where
 asymm:∀x y,lt x y=true->lt y x=false
 trans:∀x y z,lt y x=false->lt z y=false->lt z x=false
variable {lt:α->α->Bool}
def a_(lt:α->α->Bool)(a b:Nat)(f:Nat->α):Prop:=∀i j,a<=i->i<=j->j<b->lt (f j) (f i)=false
def Ord.irrefl(o:Ord lt)(x:α):lt x x=false:=by
 cases h:lt x x with
 |false=>rfl
 |true=>have:=o.asymm x x h;rw[h]at this;cases this
def Nk(o:Ord lt){a b:Nat}{f:Nat->α}(h:∀i,a<=i->i+1<b->lt (f (i+1)) (f i)=false):a_ lt a b f:=by
 intro i j U H h3;obtain⟨d,rfl⟩:∃d,j=i+d:=⟨j-i,V⟩
 clear H
 induction d with
 |zero=>exact o.irrefl _
 |succ d ih=>exact o.trans _ _ _ (ih V) (h (i+d) V V)
def sk{a m b:Nat}{f:Nat->α}(U:a_ lt a m f)(H:a_ lt m b f)(h:∀i j,a<=i->i<m->m<=j->j<b->lt (f j) (f i)=false):a_ lt a b f:=by
 intro i j W sC hj;by_cases h3:j<m
 ·exact U i j W sC h3
 ·by_cases h4:i<m
  ·exact h i j W h4 V hj
  ·exact H i j V sC hj
def ae2{a b c d:Nat}{f:Nat->α}(h:a_ lt a b f)(U:a<=c)(H:d<=b):a_ lt c d f:=λi j W sC hj=>h i j V sC V
def l6{a b:Nat}{f g:Nat->α}(h:a_ lt a b f)(e:∀j,a<=j->j<b->g j=f j):a_ lt a b g:=λi j W sC hj=>by
 rw[e j V hj,e i W V];exact h i j W sC hj
def x6(o:Ord lt){a k i:Nat}{f:Nat->α}(hf:a_ lt a i f)(E:a<=k)(hki:k<=i)(U:∀j,k<=j->j<i->lt (f i) (f j)=true)(H:a<k->lt (f i) (f (k-1))=false):
 a_ lt a (i+1) (λj=>if j=k then f i else if k<j/\j<=i then f (j-1)else f j):=by
 apply Nk o;intro j hj hji;show lt (if j+1=k then f i else if k<j+1/\j+1<=i then f (j+1-1)else f (j+1)) (if j=k then f i else if k<j/\j<=i then f (j-1)else f j)=false;by_cases e1:j+1=k
 ·rw[if_pos e1,if_neg V,if_neg V];have:=H V;rw[<-e1]at this;simpa using this
 ·rw[if_neg e1];by_cases e2:j=k
  ·rw[if_pos e2,if_pos V,zcn];exact o.asymm _ _ (U j V V)
  ·rw[if_neg e2];by_cases e3:k<j
   ·rw[if_pos V,if_pos V,zcn];exact hf (j-1) j V V V
   ·rw[if_neg V,if_neg V];exact hf j (j+1) hj V V
def ZG(o:Ord lt){a m b mid s e:Nat}{f:Nat->α}(U:a_ lt a m f)(H:a_ lt m b f)(has:a<=s)(hsm:s<=m)(hme:m<=e)(heb:e<=b)(aJ3:mid=s+(e-m))
 (hA:a<s->e<b->lt (f e) (f (s-1))=false) (hB:m<e->s<m->lt (f (e-1)) (f s)=true):
 a_ lt a s (lF f s m e)/\a_ lt s mid (lF f s m e)/\a_ lt mid e (lF f s m e)/\a_ lt e b (lF f s m e)/\
 (∀i j,a<=i->i<mid->mid<=j->j<b->lt (lF f s m e j) (lF f s m e i)=false):=by
 have r1:∀j,j<s->lF f s m e j=f j:=λj hj=>by unfold lF;rw[if_neg V,if_neg V]
 have r2:∀j,s<=j->j<mid->lF f s m e j=f (j+(m-s)):=λj hj Ed=>by unfold lF;rw[if_pos V]
 have r3:∀j,mid<=j->j<e->lF f s m e j=f (j-(e-m)):=λj hj Ed=>by unfold lF;rw[if_neg V,if_pos V]
 have r4:∀j,e<=j->lF f s m e j=f j:=λj hj=>by unfold lF;rw[if_neg V,if_neg V]
 refine⟨λi j W sC hj=>?_,λi j W sC hj=>?_,λi j W sC hj=>?_,λi j W sC hj=>?_,λi j W him hj hjb=>?_⟩
 ·rw[r1 j hj,r1 i V];exact U i j W sC V
 ·rw[r2 j V hj,r2 i W V];exact Sb
 ·rw[r3 j V hj,r3 i W V];exact U _ _ V V V
 ·rw[r4 j V,r4 i W];exact Sb
 ·by_cases hi2:i<s
  ·rw[r1 i hi2];by_cases Ed:j<e
   ·rw[r3 j hj Ed];exact U _ _ V V V
   ·rw[r4 j V];refine o.trans _ _ _ (U i (s-1) W V V) (o.trans _ _ _ (hA V V) (H e j hme V hjb))
  ·rw[r2 i V him];by_cases Ed:j<e
   ·rw[r3 j hj Ed];refine o.trans _ _ _ (H _ (e-1) V V V) (o.trans _ _ _ (o.asymm _ _ (hB V V)) (U s _ V V V))
   ·rw[r4 j V];exact Sb
end
end
end Go.Dv
namespace Go.Dv
open Go
def asL{k:IntKind}{y:PV}(h:jO [.int k] [y]):∃n:Int,y=.int k n/\(Lit.int k n).wf=true:=by
 simp only[jO,Fb]at h;obtain⟨_,_,e,⟨l,rfl,hl⟩,rfl⟩:=h;injection e with e _
 subst e;exact⟨l,rfl,hl⟩
end Go.Dv
namespace Go.Dv.Try
open Go Go.Dv Go.Proofs.Tryz Go.Proofs.Tryz
abbrev RL:=List (Nat×Option (Bool×Nat))
def mixed:Go.Proofs.Tryz.prog.follows .mixedOrders=true:=ae
abbrev prg:Program:=Go.Proofs.Tryz.prog
structure FC where
 s:QK
 r:RL
 c:PC
abbrev MT(Γ:Ctx)(f:FC)(S:Spec):=ahF Γ f.s f.c f.r S
abbrev OQ(Γ:Ctx)(f:FC)(S:Spec):=Yl Γ f.s f.c f.r S
abbrev CO(n:Nat)(f:FC)(k:Nat):=xM prg n f.c f.s f.r k
set_option maxRecDepth 100000
def aE(f:Func)(b:QE)(l:List (QK)){x:PC}(h:aD9 prg f b l (· =x):=by conv=>whnf):PC:=x
abbrev Ms:Nat:=174
abbrev xV:Nat:=231
abbrev kV:Nat:=268
abbrev oP:Nat:=321
abbrev dG:Nat:=249
def vT:FC:=⟨[0,1,2,3,4,6,8,10,11,12,13,14,15,16,17,18,19,20,21,22,23,24,25,26,27,28,29,30,31,32],[⟨6,none⟩],aE f4 [true,true,true,false,true,true] [[2,4,10,12,13],[21,22,24,25,27],[22,25,28]]⟩
def GX:CO 4 vT 3:=bb f4 ae
def rI:FC:=⟨[0,1,2],[⟨2,some (⟨true,11⟩)⟩],aE f10 [] []⟩
def Cy:CO 10 rI 1:=bb f10 ae
def zt:FC:=⟨[0,1,2,3,4,5,6,7],[⟨0,none⟩],aE f18 [] []⟩
def Mt:CO 18 zt 0:=bb f18 ae
def y0:FC:=⟨[0,1,2,3],[⟨2,none⟩],aE f19 [] [[1,3]]⟩
def Li:CO 19 y0 1:=bb f19 ae
def tG:FC:=⟨[0,2,3],[⟨2,none⟩],aE f20 [] [[0,3]]⟩
def Ft:CO 20 tG 1:=bb f20 ae
def tl:FC:=⟨[0,1,2,3,4,5],[⟨2,none⟩,⟨3,none⟩],aE f21 [] []⟩
def Fm:CO 21 tl 1:=bb f21 ae
def Ii:FC:=⟨[0,1,2],[⟨2,some (⟨true,3⟩)⟩],aE f22 [true] []⟩
def Yt:CO 22 Ii 1:=bb f22 ae
def yA:FC:=⟨[0,1,2,4,5,6,7,8,9,11,12,36,37,38],[⟨4,none⟩,⟨5,some (⟨true,3⟩)⟩,⟨6,none⟩],aE f23 [] [[5,7,9,36,37,38]]⟩
def Mq:CO 23 yA 2:=bb f23 ae
def xl:FC:=⟨[0,2],[⟨2,none⟩],aE f24 [] []⟩
def Kl:CO 24 xl 1:=bb f24 ae
def sA:FC:=⟨[0,1,2,4,5,6,7,8,9,10,11,12,14,16,53,54,55],[⟨4,none⟩,⟨5,none⟩],aE f25 [] [[1,6,11,14,53,54,55]]⟩
def Dc:CO 25 sA 2:=bb f25 ae
def Bg:FC:=⟨[0,1,2,4,5,6,8],[⟨4,some (⟨true,3⟩)⟩,⟨5,none⟩],aE f26 [] []⟩
def NH:CO 26 Bg 2:=bb f26 ae
def yI:FC:=⟨[0,1,2],[⟨2,none⟩],aE f27 [] []⟩
def Le:CO 27 yI 1:=bb f27 ae
def yK:FC:=⟨[0,1,2],[⟨2,none⟩],aE f28 [] []⟩
def KV:CO 28 yK 1:=bb f28 ae
def Gr:FC:=⟨[0,1,2,6],[⟨6,none⟩],aE f29 [] []⟩
def Ve:CO 29 Gr 3:=bb f29 ae
def Cr:FC:=⟨[0,1,2,3,6,7,8,9,10,11,12,13,14,15],[⟨6,some (⟨true,3⟩)⟩,⟨7,none⟩],aE f30 [true] []⟩
def QQ:CO 30 Cr 3:=bb f30 ae
def vI:FC:=⟨[0,1,2,3,4,5,6,7],[⟨4,none⟩,⟨5,none⟩],aE f31 [] []⟩
def Hy:CO 31 vI 2:=bb f31 ae
def zl:FC:=⟨[0,1,2,3,4,5,8,9,10,11,12,13,14,15],[⟨8,some (⟨true,2⟩)⟩,⟨9,some (⟨true,11⟩)⟩,⟨10,none⟩],aE f33 [true,false,true] []⟩
def K8:CO 33 zl 4:=bb f33 ae
def Bb:FC:=⟨[0,1,2,3,4,5,8,9,10,11,12,13],[⟨8,none⟩,⟨9,none⟩],aE f35 [] []⟩
def OJ:CO 35 Bb 4:=bb f35 ae
def TR:FC:=⟨[0,1,4,5],[⟨4,none⟩],aE f44 [] [[0,1,5]]⟩
def aeK:CO 44 TR 2:=bb f44 ae
def Br:FC:=⟨[0,2],[⟨2,none⟩],aE f45 [] []⟩
def NY:CO 45 Br 1:=bb f45 ae
def JY:FC:=⟨[0,2],[⟨2,none⟩],aE f48 [] []⟩
def ZP:CO 48 JY 1:=bb f48 ae
def yL:FC:=⟨[0,1,2,3,4,6,7,8,9,10,11],[⟨6,some (⟨true,2⟩)⟩,⟨7,some (⟨true,11⟩)⟩,⟨8,none⟩],aE f51 [true] []⟩
def Lq:CO 51 yL 3:=bb f51 ae
def Bn:FC:=⟨[0,1,2,3,4,5,8,9,10,11,12,13,14,15,16],[⟨8,some (⟨true,2⟩)⟩,⟨9,some (⟨true,11⟩)⟩,⟨10,none⟩],aE f53 [false,false,true] []⟩
def Oq:CO 53 Bn 4:=bb f53 ae
def C4:FC:=⟨[0,1,2,3,4,5,7,8,9,10,11,12,13,14,15,16,17,61,62],[⟨8,some (⟨true,2⟩)⟩,⟨9,some (⟨true,11⟩)⟩,⟨10,none⟩],aE f56 [true,true] [[2,5,7,8,9,11,14,15,61,62]]⟩
def SS:CO 56 C4 4:=bb f56 ae
def Gl:FC:=⟨[0,1,2,3,4,5,6,7,8,9],[⟨4,none⟩,⟨5,none⟩],aE f58 [false,true] []⟩
def Vl:CO 58 Gl 2:=bb f58 ae
def Dr:FC:=⟨[0,1,2,3,4,5,6,10,11],[⟨2,none⟩],aE f59 [] [[1,3,4,10,11]]⟩
def PX:CO 59 Dr 1:=bb f59 ae
def Bm:FC:=⟨[0,2],[⟨2,none⟩],aE f60 [] []⟩
def N6:CO 60 Bm 1:=bb f60 ae
def DK:FC:=⟨[0,2,3,5,6,7,16,17,18],[⟨2,none⟩],aE f61 [] [[5,16,17,18]]⟩
def Qw:CO 61 DK 1:=bb f61 ae
def oI:FC:=⟨[0,1,4],[⟨4,some (⟨true,11⟩)⟩],aE f62 [] []⟩
def zY:CO 62 oI 2:=bb f62 ae
def xr:FC:=⟨[0,1,2,3,4,5,6,7,8,9,10,11,12,13,14,29,41],[⟨4,none⟩,⟨5,none⟩],aE f63 [false,false,false,true] [[4096,8,11,12]]⟩
def JU:CO 63 xr 2:=bb f63 ae
def y5:FC:=⟨[0,1,2,4,5],[⟨4,some (⟨true,3⟩)⟩,⟨5,none⟩],aE f64 [] []⟩
def LN:CO 64 y5 2:=bb f64 ae
def Gs:FC:=⟨[0,2,4,5,6,7],[⟨2,none⟩],aE f65 [] [[5,6,7]]⟩
def VA:CO 65 Gs 1:=bb f65 ae
def vG:FC:=⟨[0,1,2],[⟨2,none⟩],aE f66 [] []⟩
def GS:CO 66 vG 1:=bb f66 ae
def CX:FC:=⟨[0,1,4],[⟨4,none⟩],aE f67 [] []⟩
def SB:CO 67 CX 2:=bb f67 ae
def Jn:FC:=⟨[0,1,2,3,4,5,11,12],[⟨2,none⟩],aE f68 [] [[1,3,11,12]]⟩
def Zu:CO 68 Jn 1:=bb f68 ae
def fU:FC:=⟨[0,1,4,5,6,7,8,9,10,11],[⟨4,none⟩,⟨5,none⟩],aE f69 [] [[1,9,10,11]]⟩
def mc:CO 69 fU 2:=bb f69 ae
def pD:FC:=⟨[0,1,2,3,5,6,7],[⟨6,none⟩],aE f70 [] []⟩
def AM:CO 70 pD 4:=bb f70 ae
def rK:FC:=⟨[0,1,2,3,4,6],[⟨4,none⟩],aE f71 [] []⟩
def C6:CO 71 rK 2:=bb f71 ae
def Gd:FC:=⟨[0,1,2,4,6,8,9,11,12,13],[⟨6,none⟩],aE f72 [] [[0,2,11,12,13],[0,2,8,9,11,12,13]]⟩
def UI:CO 72 Gd 3:=bb f72 ae
def qA:FC:=⟨[0,2,3,4],[⟨2,none⟩],aE f73 [] [[0,3,4]]⟩
def B6:CO 73 qA 1:=bb f73 ae
def KC:FC:=⟨[0,1,2,3,5],[⟨2,some (⟨true,3⟩)⟩,⟨3,none⟩],aE f74 [] []⟩
def Za:CO 74 KC 1:=bb f74 ae
def fO:FC:=⟨[0,1,4,5,6,7,8,9,10,11],[⟨4,none⟩,⟨5,none⟩],aE f75 [] [[1,9,10,11]]⟩
def l8:CO 75 fO 2:=bb f75 ae
def tL:FC:=⟨[1,3,4],[⟨4,none⟩],aE f76 [] []⟩
def Fs:CO 76 tL 2:=bb f76 ae
def CY:FC:=⟨[0,1,2,6],[⟨6,none⟩],aE f77 [] []⟩
def TI:CO 77 CY 3:=bb f77 ae
def tk:FC:=⟨[0,1,2,3,4,5,6,7,8,9,10,33],[⟨4,some (⟨true,2⟩)⟩,⟨5,some (⟨true,3⟩)⟩],aE f78 [true,true,true,true] []⟩
def Fk:CO 78 tk 2:=bb f78 ae
def vf:FC:=⟨[0,1,2,3,4,5,14,15,16],[⟨2,some (⟨true,3⟩)⟩],aE f79 [true] [[2,3,14,15,16]]⟩
def G8:CO 79 vf 1:=bb f79 ae
def vp:FC:=⟨[0,1,2,4,5,6,7],[⟨4,some (⟨true,3⟩)⟩,⟨5,none⟩],aE f80 [true] []⟩
def Hl:CO 80 vp 2:=bb f80 ae
def qI:FC:=⟨[0,1,2,4,5,7,8,15,16,17],[⟨4,none⟩],aE f81 [] [[5,15,16,17]]⟩
def B3:CO 81 qI 2:=bb f81 ae
def No:FC:=⟨[0,2,3,5,6,7,8],[⟨2,none⟩],aE f82 [] [[3,6,7,8]]⟩
def aae:CO 82 No 1:=bb f82 ae
def bl:FC:=⟨[0,1,4,5,6,7],[⟨4,none⟩],aE f83 [] [[0,1,5,6]]⟩
def cg:CO 83 bl 2:=bb f83 ae
def tN:FC:=⟨[0,1,2,4,5,6,7,8,10,11,12],[⟨4,none⟩],aE f84 [] [[1,5,10,11,12]]⟩
def EY:CO 84 tN 2:=bb f84 ae
def zJ:FC:=⟨[2],[⟨2,none⟩],aE f85 [] []⟩
def KX:CO 85 zJ 1:=bb f85 ae
def ow:FC:=⟨[0,1,2,3],[⟨3,none⟩],aE f86 [] []⟩
def yC:CO 86 ow 2:=bb f86 ae
def cL:FC:=⟨[0,1,4,5,6],[⟨4,some (⟨true,2⟩)⟩],aE f87 [] [[0,1,4,5,6]]⟩
def f_:CO 87 cL 2:=bb f87 ae
def zI:FC:=⟨[0,1,2,3,4],[⟨4,none⟩],aE f88 [] []⟩
def Lx:CO 88 zI 2:=bb f88 ae
def Bw:FC:=⟨[0,1,2,3,4,5,6,7,8,22,23,24],[⟨2,none⟩,⟨3,none⟩],aE f89 [] [[5,22,23,24]]⟩
def NV:CO 89 Bw 1:=bb f89 ae
def tH:FC:=⟨[0,1,2,4,5,8],[⟨4,none⟩,⟨5,none⟩],aE f90 [] []⟩
def E4:CO 90 tH 2:=bb f90 ae
def zd:FC:=⟨[0,1,2,4,5,6,7,8],[⟨4,some (⟨true,3⟩)⟩,⟨5,none⟩,⟨6,none⟩],aE f91 [] []⟩
def K1:CO 91 zd 2:=bb f91 ae
def FX:FC:=⟨[0,2,3,4,5,6],[⟨2,none⟩],aE f92 [] [[0,3,4],[0,3,4,5,6]]⟩
def UP:CO 92 FX 1:=bb f92 ae
def Bi:FC:=⟨[0,1,2,4,5],[⟨4,some (⟨true,3⟩)⟩,⟨5,none⟩],aE f93 [] []⟩
def N2:CO 93 Bi 2:=bb f93 ae
def nR:FC:=⟨[0,2,3,5,6,9,23,24,25,46,47,48],[⟨2,none⟩],aE f94 [] [[0,3,23,24,25],[0,3,46,47,48]]⟩
def yh:CO 94 nR 1:=bb f94 ae
def vR:FC:=⟨[0,1,2,3,4],[⟨2,none⟩],aE f95 [] []⟩
def GD:CO 95 vR 1:=bb f95 ae
def CA:FC:=⟨[0,2,4,5,6,7],[⟨2,none⟩],aE f96 [] [[5,6,7]]⟩
def Tx:CO 96 CA 1:=bb f96 ae
def Bx:FC:=⟨[0,1,4],[⟨4,none⟩],aE f97 [] []⟩
def N7:CO 97 Bx 2:=bb f97 ae
def wV:FC:=⟨[0,2],[⟨2,none⟩],aE f98 [] []⟩
def Ia:CO 98 wV 1:=bb f98 ae
def cY:FC:=⟨[0,2],[⟨2,none⟩],aE f99 [] []⟩
def gK:CO 99 cY 1:=bb f99 ae
def Bc:FC:=⟨[0,1,4],[⟨4,none⟩],aE f100 [] []⟩
def Oc:CO 100 Bc 2:=bb f100 ae
def nT:FC:=⟨[0,1,3,4,5,6],[⟨4,some (⟨true,2⟩)⟩,⟨5,some (⟨true,11⟩)⟩,⟨6,none⟩],aE f101 [] []⟩
def yU:CO 101 nT 2:=bb f101 ae
def qu:FC:=⟨[0,2],[⟨2,none⟩],aE f102 [] []⟩
def BJ:CO 102 qu 1:=bb f102 ae
def tS:FC:=⟨[0,1,2,4],[⟨4,none⟩],aE f103 [] []⟩
def Fj:CO 103 tS 3:=bb f103 ae
def tQ:FC:=⟨[0,1,4],[⟨4,none⟩],aE f104 [] []⟩
def Fx:CO 104 tQ 2:=bb f104 ae
def qB:FC:=⟨[0,1,2,4],[⟨4,none⟩],aE f105 [] []⟩
def BS:CO 105 qB 2:=bb f105 ae
def tI:FC:=⟨[0,2],[⟨2,some (⟨true,2⟩)⟩],aE f106 [] []⟩
def Fp:CO 106 tI 1:=bb f106 ae
def tC:FC:=⟨[0,1,3],[⟨3,none⟩],aE f121 [] []⟩
def Fi:CO 121 tC 2:=bb f121 ae
def Cp:FC:=⟨[0,2],[⟨2,none⟩],aE f122 [] []⟩
def Q6:CO 122 Cp 1:=bb f122 ae
def rR:FC:=⟨[0,1,3,4,5,6,7,8,9,10,11,12,13,14,83,84,85],[⟨4,some (⟨true,2⟩)⟩,⟨5,some (⟨true,11⟩)⟩,⟨6,none⟩],aE f123 [true,true] [[4,5,8,9,11,12,83,84,85]]⟩
def DG:CO 123 rR 2:=bb f123 ae
def vk:FC:=⟨[0,1,2,3,5],[⟨5,none⟩],aE f124 [] []⟩
def GM:CO 124 vk 4:=bb f124 ae
def rP:FC:=⟨[0,1,2,3,6],[⟨6,none⟩],aE f125 [] []⟩
def DY:CO 125 rP 3:=bb f125 ae
def yR:FC:=⟨[0,1,2,5,6,7,8,9],[⟨6,some (⟨true,2⟩)⟩,⟨7,none⟩],aE f126 [true] []⟩
def Lj:CO 126 yR 3:=bb f126 ae
def rZ:FC:=⟨[0,1,2,3,4,5,6,7,9,10,14,15,16],[⟨4,none⟩,⟨5,none⟩],aE f127 [] [[3,6,7,14,15,16]]⟩
def D6:CO 127 rZ 2:=bb f127 ae
def A_:FC:=⟨[0,1,4],[⟨4,none⟩],aE f128 [] []⟩
def NK:CO 128 A_ 2:=bb f128 ae
def oy:FC:=⟨[0,1,2,5,6,7,8,9,10],[⟨6,none⟩],aE f129 [false,true] []⟩
def yW:CO 129 oy 3:=bb f129 ae
def Bt:FC:=⟨[0,1,2,6,7,8,9],[⟨6,none⟩,⟨7,none⟩],aE f130 [] []⟩
def NO:CO 130 Bt 3:=bb f130 ae
def lp:FC:=⟨[0,1,2,3],[⟨2,none⟩],aE f131 [] []⟩
def vm:CO 131 lp 1:=bb f131 ae
def nS:FC:=⟨[0,1,4],[⟨4,none⟩],aE f132 [] []⟩
def zq:CO 132 nS 2:=bb f132 ae
def xo:FC:=⟨[0,2,3,5,6,7,8,9,14,15],[⟨2,none⟩],aE f133 [] [[3,7,8,9],[3,5,7,8,9,14,15]]⟩
def JC:CO 133 xo 1:=bb f133 ae
def mr:FC:=⟨[0,2,3,5,6,22,23,24],[⟨2,none⟩],aE f134 [] [[0,3,22,23,24]]⟩
def wy:CO 134 mr 1:=bb f134 ae
def mZ:FC:=⟨[0,2,3,5,6,71,72,73],[⟨2,none⟩],aE f135 [] [[3,71,72,73]]⟩
def xL:CO 135 mZ 1:=bb f135 ae
def kz:FC:=⟨[0,2],[⟨2,none⟩],aE f136 [] []⟩
def sF:CO 136 kz 1:=bb f136 ae
def mU:FC:=⟨[0,2,3,4,5,6,7,8,10,11,12],[⟨2,none⟩],aE f137 [] [[0,10,11,12]]⟩
def xR:CO 137 mU 1:=bb f137 ae
def tP:FC:=⟨[0,1,2],[⟨2,none⟩],aE f138 [] []⟩
def Fc:CO 138 tP 1:=bb f138 ae
def Cn:FC:=⟨[0,1,2,6,7,8,9],[⟨6,none⟩,⟨7,none⟩],aE f139 [] []⟩
def S9:CO 139 Cn 3:=bb f139 ae
def u7:FC:=⟨[0,2,3,4,5],[⟨2,none⟩,⟨3,none⟩],aE f140 [] []⟩
def Hz:CO 140 u7 1:=bb f140 ae
def yF:FC:=⟨[0,1,2,3,4,5,6,7],[⟨4,some (⟨true,3⟩)⟩,⟨5,none⟩],aE f141 [true] []⟩
def L6:CO 141 yF 2:=bb f141 ae
def r_:FC:=⟨[0,1,3],[⟨3,none⟩],aE f142 [] []⟩
def Cl:CO 142 r_ 2:=bb f142 ae
def qm:FC:=⟨[0,1,2,3,4],[⟨4,none⟩],aE f143 [] []⟩
def Ca:CO 143 qm 2:=bb f143 ae
def cU:FC:=⟨[0,1,3,4,5,7,8],[⟨4,none⟩],aE f144 [] [[0,3,7,8]]⟩
def gD:CO 144 cU 2:=bb f144 ae
def bA:FC:=⟨[0,1,4,5,6],[⟨4,some (⟨true,2⟩)⟩],aE f145 [] [[0,1,4,5,6]]⟩
def fZ:CO 145 bA 2:=bb f145 ae
def Bd:FC:=⟨[0,1,2,3,4,8,9,10,11,12,13],[⟨8,some (⟨true,3⟩)⟩,⟨9,none⟩],aE f146 [] []⟩
def Oi:CO 146 Bd 4:=bb f146 ae
def yP:FC:=⟨[0,1,2],[⟨2,none⟩],aE f147 [] []⟩
def LR:CO 147 yP 1:=bb f147 ae
def sf:FC:=⟨[0,1,4,5],[⟨4,none⟩],aE f148 [] []⟩
def Dm:CO 148 sf 2:=bb f148 ae
def tq:FC:=⟨[0,1,2,3,4,5,7,8,9],[⟨8,some (⟨true,3⟩)⟩],aE f149 [true] []⟩
def E8:CO 149 tq 4:=bb f149 ae
def bO:FC:=⟨[0,2],[⟨2,none⟩],aE f150 [] []⟩
def ei:CO 150 bO 1:=bb f150 ae
def bq:FC:=⟨[0,1,4,5,7,8],[⟨4,none⟩],aE f151 [] [[0,1,7,8]]⟩
def cm:CO 151 bq 2:=bb f151 ae
def qH:FC:=⟨[0,1,2,3,4,5,12,13,14],[⟨2,none⟩],aE f152 [] [[3,12,13,14]]⟩
def BZ:CO 152 qH 1:=bb f152 ae
def xg:FC:=⟨[0,1,4,5,6],[⟨4,none⟩],aE f153 [] []⟩
def JX:CO 153 xg 2:=bb f153 ae
def wR:FC:=⟨[0,1,2,4,5,6,7,8],[⟨4,some (⟨true,3⟩)⟩,⟨5,none⟩,⟨6,none⟩],aE f154 [] []⟩
def Jy:CO 154 wR 2:=bb f154 ae
def Kb:FC:=⟨[0,1,2,3,4,5],[⟨2,none⟩],aE f155 [] [[1,3,4],[1,3,4,5]]⟩
def XH:CO 155 Kb 1:=bb f155 ae
def qp:FC:=⟨[0,2],[⟨2,none⟩],aE f156 [] []⟩
def B4:CO 156 qp 1:=bb f156 ae
def qz:FC:=⟨[0,2,3,4,5,6,7,8,9,20],[⟨2,none⟩,⟨3,none⟩],aE f157 [] []⟩
def BP:CO 157 qz 1:=bb f157 ae
def oW:FC:=⟨[0,1,4,5,7,8,9,10],[⟨4,none⟩],aE f158 [] [[0,5,8,9,10]]⟩
def AG:CO 158 oW 2:=bb f158 ae
def qt:FC:=⟨[0,1,4],[⟨4,none⟩],aE f159 [] []⟩
def B5:CO 159 qt 2:=bb f159 ae
def Bp:FC:=⟨[0,1,2,6],[⟨6,none⟩],aE f160 [] []⟩
def OI:CO 160 Bp 3:=bb f160 ae
def pH:FC:=⟨[0,1,3,4,5,6,7,8,10,11,12,13,39,63,64],[⟨4,none⟩],aE f175 [] [[3,5,6],[3,5,6,8,39],[0,3,5,63,64]]⟩
def Al:CO 175 pH 2:=bb f175 ae
def pJ:FC:=⟨[0,1,2,6,7,8,9,10,11,12,13,15,16,17,18,19,20,21,22,23,59,60,61,94,95,96],[⟨6,none⟩,⟨7,none⟩],aE f176 [true] [[0,1,2,8,9,10,21,22,23],[1,2,8,9,10,59,60,61],[2,8,18,94,95,96]]⟩
def AU:CO 176 pJ 3:=bb f176 ae
def Bu:FC:=⟨[0,2,3,5,6,7,8,9],[⟨2,none⟩],aE f177 [] [[3,7,8,9]]⟩
def NL:CO 177 Bu 1:=bb f177 ae
def Gh:FC:=⟨[0,2,3,5,6,7,8],[⟨2,none⟩],aE f178 [] [[3,6,7,8]]⟩
def Vn:CO 178 Gh 1:=bb f178 ae
def F9:FC:=⟨[0,1,4,5],[⟨4,some (⟨true,2⟩)⟩,⟨5,none⟩],aE f179 [] []⟩
def Vv:CO 179 F9 2:=bb f179 ae
def we:FC:=⟨[0,2,4,5,6,7],[⟨2,none⟩],aE f180 [] [[5,6,7]]⟩
def Qt:CO 180 we 1:=bb f180 ae
def sJ:FC:=⟨[0,1,2,6],[⟨6,none⟩],aE f181 [] []⟩
def Ba:CO 181 sJ 3:=bb f181 ae
def rL:FC:=⟨[0,1,2,3,4],[⟨4,none⟩],aE f182 [] []⟩
def Da:CO 182 rL 2:=bb f182 ae
def FV:FC:=⟨[0,1,4],[⟨4,none⟩],aE f183 [] []⟩
def UU:CO 183 FV 2:=bb f183 ae
def gC:FC:=⟨[0,1,4],[⟨4,none⟩],aE f184 [] []⟩
def um:CO 184 gC 2:=bb f184 ae
def CN:FC:=⟨[0,2,4,6,7,8,9],[⟨2,none⟩],aE f185 [] [[7,8,9]]⟩
def QU:CO 185 CN 1:=bb f185 ae
def F8:FC:=⟨[0,2,3,5,6,7,8],[⟨2,none⟩],aE f186 [] [[3,6,7,8]]⟩
def U_:CO 186 F8 1:=bb f186 ae
def zi:FC:=⟨[0,1,2,3,8],[⟨8,none⟩],aE f187 [] []⟩
def La:CO 187 zi 4:=bb f187 ae
def M9:FC:=⟨[0,2,3,4,6,7,8,9],[⟨2,none⟩,⟨3,none⟩],aE f188 [] [[4,7,8,9]]⟩
def ada:CO 188 M9 1:=bb f188 ae
def MO:FC:=⟨[0,1,2,6,7,9,10,11,12,13,14,15],[⟨6,none⟩],aE f189 [] [[1,2,7,13,14,15]]⟩
def adC:CO 189 MO 3:=bb f189 ae
def xE:FC:=⟨[0,2,4,5,6,7],[⟨2,none⟩],aE f190 [] [[5,6,7]]⟩
def JR:CO 190 xE 1:=bb f190 ae
def vV:FC:=⟨[0,1,4],[⟨4,none⟩],aE f191 [] []⟩
def Ha:CO 191 vV 2:=bb f191 ae
def vr:FC:=⟨[0,2,4],[⟨2,none⟩],aE f192 [] []⟩
def GU:CO 192 vr 1:=bb f192 ae
def tv:FC:=⟨[0,2],[⟨2,none⟩],aE f193 [] []⟩
def FG:CO 193 tv 1:=bb f193 ae
def vh:FC:=⟨[0,1,2,6],[⟨6,none⟩],aE f194 [] []⟩
def Hx:CO 194 vh 3:=bb f194 ae
def nQ:FC:=⟨[0,1,2,3],[⟨2,none⟩],aE f195 [] []⟩
def yx:CO 195 nQ 1:=bb f195 ae
def si:FC:=⟨[0,1,2,3,5,6,7,8],[⟨2,none⟩],aE f196 [true] []⟩
def DX:CO 196 si 1:=bb f196 ae
def tE:FC:=⟨[0,1,2,3,4,5,6],[⟨2,none⟩],aE f197 [false,true] []⟩
def E0:CO 197 tE 1:=bb f197 ae
def jU:FC:=⟨[0,1,4],[⟨4,none⟩],aE f198 [] []⟩
def r8:CO 198 jU 2:=bb f198 ae
def kD:FC:=⟨[0,1,3],[⟨3,none⟩],aE f199 [] []⟩
def td:CO 199 kD 2:=bb f199 ae
def Bq:FC:=⟨[0,1,4],[⟨4,none⟩],aE f200 [] []⟩
def Og:CO 200 Bq 2:=bb f200 ae
def pN:FC:=⟨[0,1,4,5,7,8],[⟨4,none⟩],aE f201 [] [[0,1,7,8]]⟩
def Ab:CO 201 pN 2:=bb f201 ae
def mW:FC:=⟨[0,2],[⟨2,none⟩],aE f202 [] []⟩
def xQ:CO 202 mW 1:=bb f202 ae
def uO:FC:=⟨[0,1,2,4],[⟨4,none⟩],aE f203 [] []⟩
def Hp:CO 203 uO 2:=bb f203 ae
def Ci:FC:=⟨[0,2,3],[⟨2,some (⟨true,2⟩)⟩,⟨3,none⟩],aE f204 [] []⟩
def Te:CO 204 Ci 1:=bb f204 ae
def Cj:FC:=⟨[0,1,2,3,4,5],[⟨4,none⟩],aE f205 [] []⟩
def Q9:CO 205 Cj 2:=bb f205 ae
def yr:FC:=⟨[0,1,2,6,7,8,9,10,11,29,30],[⟨6,none⟩,⟨7,none⟩],aE f207 [] [[2,8,10,29,30]]⟩
def Mo:CO 207 yr 3:=bb f207 ae
def FR:FC:=⟨[0,2],[⟨2,none⟩],aE f208 [] []⟩
def UK:CO 208 FR 1:=bb f208 ae
def BE:FC:=⟨[0,2],[⟨2,none⟩],aE f209 [] []⟩
def OC:CO 209 BE 1:=bb f209 ae
def fR:FC:=⟨[0,1,4,5,6,7,8,9,10,11],[⟨4,none⟩,⟨5,none⟩],aE f210 [] [[1,9,10,11]]⟩
def l_:CO 210 fR 2:=bb f210 ae
def sw:FC:=⟨[1,2,4,5],[⟨5,none⟩],aE f211 [] []⟩
def Dh:CO 211 sw 3:=bb f211 ae
def sr:FC:=⟨[0,1,2,3,4,5,6,7,8],[⟨4,some (⟨true,3⟩)⟩,⟨5,none⟩],aE f212 [true] []⟩
def C8:CO 212 sr 2:=bb f212 ae
def sm:FC:=⟨[0,2],[⟨2,none⟩],aE f213 [] []⟩
def Ch:CO 213 sm 1:=bb f213 ae
def pC:FC:=⟨[0,1,2,3,4],[⟨4,none⟩],aE f214 [] []⟩
def Ak:CO 214 pC 2:=bb f214 ae
def yu:FC:=⟨[0,2],[⟨2,none⟩],aE f215 [] []⟩
def KT:CO 215 yu 1:=bb f215 ae
def wN:FC:=⟨[0,1,4,5,6,7,8,9,10,11],[⟨4,none⟩,⟨5,none⟩,⟨6,none⟩],aE f216 [] []⟩
def Ik:CO 216 wN 2:=bb f216 ae
def yi:FC:=⟨[0,2,4,5,6,7],[⟨2,none⟩],aE f217 [] [[5,6,7]]⟩
def KS:CO 217 yi 1:=bb f217 ae
def xt:FC:=⟨[0,1,4],[⟨4,none⟩],aE f218 [] []⟩
def IN:CO 218 xt 2:=bb f218 ae
def xC:FC:=⟨[0,2,3,4,5,6,7,8,9,10,11,13,22],[⟨2,none⟩,⟨3,none⟩],aE f219 [] [[0,4,5],[0,4,5,6,22]]⟩
def Ic:CO 219 xC 1:=bb f219 ae
def tF:FC:=⟨[0,2,3,5,6,7,8,22,23],[⟨2,none⟩],aE f220 [] [[3,6,7,8],[3,5,6,7,8,22,23]]⟩
def FE:CO 220 tF 1:=bb f220 ae
def tA:FC:=⟨[0,2],[⟨2,none⟩],aE f221 [] []⟩
def Fh:CO 221 tA 1:=bb f221 ae
def jV:FC:=⟨[0,1,4,5],[⟨4,none⟩,⟨5,none⟩],aE f229 [] []⟩
def sx:CO 229 jV 2:=bb f229 ae
def qK:FC:=⟨[0,2],[⟨2,none⟩],aE f230 [] []⟩
def BW:CO 230 qK 1:=bb f230 ae
def tM:FC:=⟨[0,2,3,4,5,6],[⟨2,none⟩,⟨3,none⟩],aE f232 [] []⟩
def E9:CO 232 tM 1:=bb f232 ae
def mC:FC:=⟨[0,1,4],[⟨4,none⟩],aE f233 [] []⟩
def wD:CO 233 mC 2:=bb f233 ae
def oM:FC:=⟨[0,1,2,5,6,7,8,9,10,11,12,13,14,16,17,47,48,49],[⟨6,none⟩,⟨7,none⟩],aE f234 [] [[13,14,47,48,49]]⟩
def Ke:CO 234 oM 3:=bb f234 ae
def n9:FC:=⟨[0,1,2,3,4],[⟨4,none⟩],aE f235 [] []⟩
def zC:CO 235 n9 2:=bb f235 ae
def ou:FC:=⟨[0,1,2,3],[⟨3,none⟩],aE f236 [] []⟩
def zG:CO 236 ou 2:=bb f236 ae
def mV:FC:=⟨[0,1,4,5,7,8],[⟨4,none⟩],aE f237 [] [[0,1,7,8]]⟩
def ya:CO 237 mV 2:=bb f237 ae
def zx:FC:=⟨[0,2,3,4,5,6,7,11,12,13],[⟨2,none⟩,⟨3,none⟩],aE f238 [] [[0,4,11,12,13]]⟩
def K4:CO 238 zx 1:=bb f238 ae
def JM:FC:=⟨[0,2,4,5,6,7],[⟨2,none⟩],aE f239 [] [[5,6,7]]⟩
def Zp:CO 239 JM 1:=bb f239 ae
def Gm:FC:=⟨[0,1,4],[⟨4,none⟩],aE f240 [] []⟩
def Vp:CO 240 Gm 2:=bb f240 ae
def Gp:FC:=⟨[0,1,2,6],[⟨6,none⟩],aE f241 [] []⟩
def Vg:CO 241 Gp 3:=bb f241 ae
def vn:FC:=⟨[0,1,5,6,7,8],[],aE f242 [] [[0,6,7,8]]⟩
def Hw:CO 242 vn 2:=bb f242 ae
def yS:FC:=⟨[0,2,3,4,5,7,8,12,13,14],[⟨2,none⟩,⟨3,none⟩],aE f243 [] [[0,4,5,12,13,14]]⟩
def Mn:CO 243 yS 1:=bb f243 ae
def FO:FC:=⟨[0,1,2],[⟨2,none⟩],aE f244 [] []⟩
def Uy:CO 244 FO 1:=bb f244 ae
def wP:FC:=⟨[0,2],[⟨2,none⟩],aE f246 [] []⟩
def Kn:CO 246 wP 1:=bb f246 ae
def sj:FC:=⟨[0,1,2,3,5,7,8,9],[⟨2,none⟩],aE f247 [] [[3,7,8,9]]⟩
def CH:CO 247 sj 1:=bb f247 ae
def xk:FC:=⟨[0,2,3,4,5,6,8,9,10,17,18,19],[⟨2,none⟩,⟨3,none⟩],aE f248 [] [[5,6,17,18,19]]⟩
def Jq:CO 248 xk 1:=bb f248 ae
def zL:FC:=⟨[0,2],[⟨2,none⟩],aE f249 [] []⟩
def Mu:CO 249 zL 1:=bb f249 ae
def tw:FC:=⟨[0,2],[⟨2,none⟩],aE f250 [] []⟩
def Fl:CO 250 tw 1:=bb f250 ae
def sN:FC:=⟨[0,1,2,3,8,9,10],[],aE f251 [] [[0,1,3,9,10]]⟩
def Oy:CO 251 sN 4:=bb f251 ae
def lJ:FC:=⟨[0,1,4,5,7,8],[⟨4,none⟩],aE f252 [] [[0,1,7,8]]⟩
def vB:CO 252 lJ 2:=bb f252 ae
def tK:FC:=⟨[0,1,2,3,6],[],aE f253 [] []⟩
def Fy:CO 253 tK 3:=bb f253 ae
def lT:FC:=⟨[0,1,2,4,5,6],[⟨4,none⟩],aE f254 [] []⟩
def wb:CO 254 lT 2:=bb f254 ae
def wO:FC:=⟨[0,2],[⟨2,none⟩],aE f256 [] []⟩
def IM:CO 256 wO 1:=bb f256 ae
def ym:FC:=⟨[0,2],[⟨2,none⟩],aE f257 [] []⟩
def Ld:CO 257 ym 1:=bb f257 ae
def Be:FC:=⟨[0,1,2],[⟨2,none⟩],aE f258 [] []⟩
def N4:CO 258 Be 1:=bb f258 ae
def pG:FC:=⟨[0,2,3,4,5,6,7,11,12,13],[⟨2,none⟩,⟨3,none⟩],aE f259 [] [[4,11,12,13]]⟩
def AX:CO 259 pG 1:=bb f259 ae
def xn:FC:=⟨[0,1,2],[⟨2,none⟩],aE f260 [] []⟩
def Kr:CO 260 xn 1:=bb f260 ae
def zE:FC:=⟨[0,2,3,4,5,6,7,8,9,10,19,20,21],[⟨2,none⟩,⟨3,none⟩],aE f270 [] [[0,4,5],[0,4,5,6,7,8,19,20,21]]⟩
def Ma:CO 270 zE 1:=bb f270 ae
def oA:FC:=⟨[0,2,3,4,5,6,7],[⟨2,none⟩],aE f271 [] [[0,3,4,5],[0,3,4,5,6,7]]⟩
def yp:CO 271 oA 1:=bb f271 ae
def bV:FC:=⟨[0,1],[],aE f272 [] []⟩
def eP:CO 272 bV 2:=bb f272 ae
def su:FC:=⟨[0,1,2,3,4,5],[⟨5,none⟩],aE f273 [] []⟩
def Cq:CO 273 su 3:=bb f273 ae
def Iz:FC:=⟨[0,2,3,5,6,7,8],[⟨2,none⟩],aE f274 [] [[3,6,7,8]]⟩
def X7:CO 274 Iz 1:=bb f274 ae
def rH:FC:=⟨[0,1,2,4,5,6,7,9,10],[⟨4,none⟩],aE f275 [] [[1,5,9,10]]⟩
def Ds:CO 275 rH 2:=bb f275 ae
def ly:FC:=⟨[0,1,2,4],[⟨4,none⟩],aE f276 [] []⟩
def vD:CO 276 ly 3:=bb f276 ae
def BA:FC:=⟨[0,1,2],[⟨2,none⟩],aE f277 [] []⟩
def NG:CO 277 BA 1:=bb f277 ae
def IA:FC:=⟨[0,1,2,3,4],[⟨4,none⟩],aE f278 [] []⟩
def Zw:CO 278 IA 2:=bb f278 ae
def yo:FC:=⟨[0,1,3,4,5,6],[⟨4,none⟩],aE f279 [] [[0,3,5,6]]⟩
def KU:CO 279 yo 2:=bb f279 ae
def Bh:FC:=⟨[0,1,3,4],[],aE f280 [false,false,true] []⟩
def Oe:CO 280 Bh 2:=bb f280 ae
def Ge:FC:=⟨[0,2,4,5,6,7],[⟨2,none⟩],aE f281 [] [[5,6,7]]⟩
def U6:CO 281 Ge 1:=bb f281 ae
def CV:FC:=⟨[0,1,4],[⟨4,none⟩],aE f282 [] []⟩
def PT:CO 282 CV 2:=bb f282 ae
def Bk:FC:=⟨[0,2],[⟨2,none⟩],aE f283 [] []⟩
def NQ:CO 283 Bk 1:=bb f283 ae
def FW:FC:=⟨[0,2,3],[⟨2,none⟩],aE f284 [] [[0,3]]⟩
def Vk:CO 284 FW 1:=bb f284 ae
def Gk:FC:=⟨[0,1,4,5,6,7],[⟨4,none⟩],aE f285 [] [[0,5,6,7]]⟩
def Vc:CO 285 Gk 2:=bb f285 ae
def Bv:FC:=⟨[0,2],[⟨2,none⟩],aE f286 [] []⟩
def OH:CO 286 Bv 1:=bb f286 ae
def tR:FC:=⟨[0,1,2,4,5,6],[⟨4,none⟩],aE f287 [] []⟩
def E3:CO 287 tR 2:=bb f287 ae
def qn:FC:=⟨[0,1,2,4],[⟨4,none⟩],aE f292 [] []⟩
def BU:CO 292 qn 2:=bb f292 ae
def kW:FC:=⟨[0,1,4],[⟨4,none⟩],aE f293 [] []⟩
def uc:CO 293 kW 2:=bb f293 ae
def Bj:FC:=⟨[0,1,4,5],[⟨4,none⟩],aE f294 [] []⟩
def N1:CO 294 Bj 2:=bb f294 ae
def qM:FC:=⟨[0,2,3,4],[⟨2,none⟩],aE f295 [] [[0,3,4]]⟩
def BO:CO 295 qM 1:=bb f295 ae
def ov:FC:=⟨[0,1,4],[⟨4,some (⟨true,3⟩)⟩],aE f296 [] []⟩
def yN:CO 296 ov 2:=bb f296 ae
def nU:FC:=⟨[0,1,2,5,6,7,8,11],[⟨6,some (⟨false,1⟩)⟩],aE f297 [] []⟩
def yH:CO 297 nU 3:=bb f297 ae
def eQ:FC:=⟨[0,1,2,6,7,8,9],[],aE f298 [] [[0,1,2,6,7,8],[0,1,2,6],[0,1,2,6,7,8]]⟩
def kr:CO 298 eQ 3:=bb f298 ae
def yw:FC:=⟨[0,1,3,4],[⟨4,none⟩],aE f299 [] []⟩
def L_:CO 299 yw 2:=bb f299 ae
def tp:FC:=⟨[0,2],[⟨2,none⟩],aE f300 [] []⟩
def Fe:CO 300 tp 1:=bb f300 ae
def tO:FC:=⟨[0,1,4],[⟨4,none⟩],aE f301 [] []⟩
def EZ:CO 301 tO 2:=bb f301 ae
def xp:FC:=⟨[0,2],[⟨2,none⟩],aE f303 [] []⟩
def Jm:CO 303 xp 1:=bb f303 ae
def xz:FC:=⟨[0,1,2,6],[⟨6,none⟩],aE f304 [] []⟩
def Jd:CO 304 xz 3:=bb f304 ae
def vj:FC:=⟨[0,2],[⟨2,none⟩],aE f305 [] []⟩
def GR:CO 305 vj 1:=bb f305 ae
def BC:FC:=⟨[0,2],[⟨2,none⟩],aE f306 [] []⟩
def Oz:CO 306 BC 1:=bb f306 ae
def rV:FC:=⟨[0,1,2,6,7,8,9],[⟨6,none⟩],aE f307 [] [[1,2,7,8,9]]⟩
def D5:CO 307 rV 3:=bb f307 ae
def n5:FC:=⟨[0,1,2,3,4],[⟨4,none⟩],aE f308 [] []⟩
def yV:CO 308 n5 2:=bb f308 ae
def dq:FC:=⟨[0,1,2,3,8,9],[],aE f309 [false,true] [[0,1,2,3,8],[0,1,2,3,8,9]]⟩
def iz:CO 309 dq 4:=bb f309 ae
def eo:FC:=⟨[0,1,2,3,4,10,11,12,13,14,15,16,17,18,19,20,21,22,23,24],[],aE f310 [false,true,false,true] [[0,1,4,10,11],[0,10,13],[0,2,4,14,15],[0,14,17],[0,1,2,3,4,18,19,20,21,22]]⟩
def jJ:CO 310 eo 5:=bb f310 ae
def jg:FC:=⟨[0,1,4],[⟨4,none⟩],aE f311 [] []⟩
def qf:CO 311 jg 2:=bb f311 ae
def tJ:FC:=⟨[0,1,3],[⟨3,none⟩],aE f312 [] []⟩
def E7:CO 312 tJ 2:=bb f312 ae
def tz:FC:=⟨[0,1,4],[⟨4,none⟩],aE f313 [] []⟩
def FF:CO 313 tz 2:=bb f313 ae
def iL:FC:=⟨[0,1,4],[⟨4,none⟩],aE f314 [] []⟩
def oT:CO 314 iL 2:=bb f314 ae
def ng:FC:=⟨[0,1,4,5,7,10],[⟨4,none⟩],aE f315 [] []⟩
def yb:CO 315 ng 2:=bb f315 ae
def sa:FC:=⟨[0,1,4],[⟨4,none⟩],aE f317 [] []⟩
def Dj:CO 317 sa 2:=bb f317 ae
def qy:FC:=⟨[0,1,2,6,7,8],[⟨6,none⟩],aE f318 [] [[0,1,2,7,8]]⟩
def BY:CO 318 qy 3:=bb f318 ae
def eS:FC:=⟨[0,1,2,3,4,10,11],[],aE f319 [] [[0,2,4,10,11]]⟩
def kB:CO 319 eS 5:=bb f319 ae
def kF:FC:=⟨[0,1,4,5,7,8],[⟨4,none⟩],aE f320 [] [[0,1,7,8]]⟩
def tf:CO 320 kF 2:=bb f320 ae
def dZ:FC:=⟨[0,1,2,3,10],[],aE f322 [true] [[0,1,2,3,10]]⟩
def jv:CO 322 dZ 5:=bb f322 ae
end Go.Dv.Try
namespace Go.Proofs
def Tryz.gN:Go.Shelf.Ren:=⟨λ|105=>174|212=>226|99=>227|165=>228|166=>229|170=>230|169=>231|263=>265|264=>266|206=>267|240=>268|241=>269|276=>290|277=>291|n=>n,λ|9=>9|3=>3|4=>4|20=>20|0=>0|46=>243|109=>244|5=>5|72=>249|76=>253|51=>276|146=>277|53=>279|148=>280|70=>247|37=>170|75=>252|127=>282|164=>296|80=>151|n=>n,λ|n=>n⟩
def Tryz.Aa:Go.Proofs.Lays.n105 Tryz.prog Tryz.gN:={
 mixed:=by rfl
 f99:=Tryz.func227.trans (congrArg some (by rfl))
 f105:=Tryz.func174.trans (congrArg some (by rfl))
 f165:=Tryz.func228.trans (congrArg some (by rfl))
 f166:=Tryz.func229.trans (congrArg some (by rfl))
 f169:=Tryz.func231.trans (congrArg some (by rfl))
 f170:=Tryz.func230.trans (congrArg some (by rfl))
 f206:=Tryz.func267.trans (congrArg some (by rfl))
 f212:=Tryz.func226.trans (congrArg some (by rfl))
 f240:=Tryz.func268.trans (congrArg some (by rfl))
 f241:=Tryz.func269.trans (congrArg some (by rfl))
 f263:=Tryz.func265.trans (congrArg some (by rfl))
 f264:=Tryz.func266.trans (congrArg some (by rfl))
 f276:=Tryz.func290.trans (congrArg some (by rfl))
 f277:=Tryz.func291.trans (congrArg some (by rfl))
 t0:=Tryz.underlying0
 a0:=Tryz.isAgg0
 z0:=Tryz.sizeOf0
 v0:=Tryz.zeroValue0
 t3:=Tryz.underlying3
 a3:=Tryz.isAgg3
 z3:=Tryz.sizeOf3
 v3:=Tryz.zeroValue3
 t4:=Tryz.underlying4
 a4:=Tryz.isAgg4
 z4:=Tryz.sizeOf4
 v4:=Tryz.zeroValue4
 t5:=Tryz.underlying5
 a5:=Tryz.isAgg5
 z5:=Tryz.sizeOf5
 v5:=Tryz.zeroValue5
 t9:=Tryz.underlying9
 a9:=Tryz.isAgg9
 z9:=Tryz.sizeOf9
 v9:=Tryz.zeroValue9
 t20:=Tryz.underlying20
 a20:=Tryz.isAgg20
 z20:=Tryz.sizeOf20
 v20:=Tryz.zeroValue20
 t37:=Tryz.underlying170
 a37:=Tryz.isAgg170
 z37:=Tryz.sizeOf170
 v37:=Tryz.zeroValue170
 t46:=Tryz.underlying243
 a46:=Tryz.isAgg243
 z46:=Tryz.sizeOf243
 v46:=Tryz.zeroValue243
 t51:=Tryz.underlying276
 a51:=Tryz.isAgg276
 z51:=Tryz.sizeOf276
 v51:=Tryz.zeroValue276
 t53:=Tryz.underlying279
 a53:=Tryz.isAgg279
 z53:=Tryz.sizeOf279
 v53:=Tryz.zeroValue279
 t70:=Tryz.underlying247
 a70:=Tryz.isAgg247
 z70:=Tryz.sizeOf247
 v70:=Tryz.zeroValue247
 t72:=Tryz.underlying249
 a72:=Tryz.isAgg249
 z72:=Tryz.sizeOf249
 v72:=Tryz.zeroValue249
 t75:=Tryz.underlying252
 a75:=Tryz.isAgg252
 z75:=Tryz.sizeOf252
 v75:=Tryz.zeroValue252
 t76:=Tryz.underlying253
 a76:=Tryz.isAgg253
 z76:=Tryz.sizeOf253
 v76:=Tryz.zeroValue253
 t109:=Tryz.underlying244
 a109:=Tryz.isAgg244
 z109:=Tryz.sizeOf244
 v109:=Tryz.zeroValue244
 t127:=Tryz.underlying282
 a127:=Tryz.isAgg282
 z127:=Tryz.sizeOf282
 v127:=Tryz.zeroValue282
 t146:=Tryz.underlying277
 a146:=Tryz.isAgg277
 z146:=Tryz.sizeOf277
 v146:=Tryz.zeroValue277
 t148:=Tryz.underlying280
 a148:=Tryz.isAgg280
 z148:=Tryz.sizeOf280
 v148:=Tryz.zeroValue280
 t164:=Tryz.underlying296
 a164:=Tryz.isAgg296
 z164:=Tryz.sizeOf296
 v164:=Tryz.zeroValue296 }
def Tryz.kR:Builder.Extra Tryz.prog Tryz.gN:={
 sizeBuilder:=by kernel_rfl
 liesBuilder:=by kernel_rfl
 t5:=Tryz.underlying5
 a5:=Tryz.isAgg5
 z5:=Tryz.sizeOf5
 v5:=Tryz.zeroValue5
 infoByte:=by kernel_rfl
 cellsByte:=by kernel_rfl
 sizeByte:=by kernel_rfl
 neB5:=by decide }
end Go.Proofs
namespace Go.Dv.Try
open Go Go.Dv Go.RowKit
section
def Mw(l:P8):Nat->P8
 |0=>[]
 |c+1=>l++Mw l c
def ahI(l:P8):∀c,Lib.repeatL l c=Mw l c
 |0=>rfl
 |c+1=>by simp only[Lib.repeatL,Mw,ahI l c]
def ah2{P:Program}{f:FuncId}(R:CK->PV->Prop)(aqi:Enters P f)(adW:∀ps x,R ps x->x.flat)(h:∀(w:World) (ok:Nat->Prop) (ps:CK) (x:PV) (vs:Array Value),cz ok w ps vs.toList->R ps x->Calls P f vs w λe w'=>∃v,e=.returned v/\Rd (λ_=>False) w' x v/\Below w.heap.size w w'):bQ P f (ah R):=by
 refine⟨λe=>((VS R).1 e).2,λ_=>⟨rfl,rfl⟩,?_,λ_ _ _ _ _ _ _ _ h=>(show False from h).elim,λ_ _ _ _ _ _ _ _ e=>(by cases e)⟩;rintro w ok ps vs K _ b_ lf ⟨x,T,Y⟩;refine⟨aqi,(h w ok ps x vs lf T).mono ?_⟩;rintro e w' ⟨v,rfl,U,H⟩;exact⟨v,_,[],rfl,Y,H,by simp only[RR];exact⟨ahG (adW ps x T) U,trivial⟩,by simp,λi j u t b _ hu=>by simp⟩
def vW(ps:CK)(x:PV):Prop:=∃(l:P8) (c:Int),ps=[.str l,.int .i64 c]/\(0<=c/\c<=1000000/\l.length<=1000000)/\x=.str (Mw l c.toNat)
def ak2:bQ Go.Proofs.Tryz.prog Ms (ah vW):=by
 refine ah2 vW (Go.Proofs.enters_of Go.Proofs.Tryz.Aa.f105 (by rfl) rfl) ?_ ?_
 ·rintro ps x ⟨l,c,rfl,_,rfl⟩;trivial
 ·rintro w ok ps x vs lf ⟨l,c,rfl,⟨U,H,h3⟩,rfl⟩;simp only[cz,Rd]at lf;have:vs= #[.string ⟨l.toArray⟩,.int .i64 c]:=by grind
  subst this;have I:l.length*c.toNat<=1000000*1000000:=Nat.mul_le_mul h3 (by omega);have:=Go.Proofs.Any.strings_Repeat Go.Proofs.Tryz.Aa Go.Proofs.Tryz.kR ⟨_⟩ c.toNat w (by omega) (by show l.length*c.toNat<=_;omega);rw[show((c.toNat:Nat):Int)=c by omega]at this;refine this.mono ?_;rintro e w' ⟨rfl,h⟩;exact⟨_,rfl,by simp only[Rd,ahI],h⟩
def avT:PV:=.val (.pointer none)
def atk:ax:=[.box dG [.pv avT,.pv (.nil 1)]]
def Vi(l:P8):ax:=[.box dG [.ref 0 0 0,.own 1],.row 5 1 true (l.map aG)]
def wX(xs:XP)(Z:ax)(K:AV->ax->Prop):Prop:=
 xs=[.ref 0 0 0]/\((Z=atk/\K (.tup []) [.box dG [.ref 0 0 0,.pv (.nil 1)]])∨∃l,Z=Vi l/\K (.tup []) (Vi l))
def Lk:Enters Go.Proofs.Tryz.prog kV:=Go.Proofs.enters_of Go.Proofs.Tryz.Aa.f240 (by rfl) rfl
def Zh:bQ Go.Proofs.Tryz.prog kV (lZ wX):=by
 refine⟨λe=>(by cases e),λe=>(by cases e),λ_ _ _ _ _ e=>(by cases e),λ_ _ _ _ _ _ _ _ h=>(show False from h).elim,?_⟩;rintro w ok b_ σ0 cb xs vs K _ HD oF ⟨rfl,Y⟩;refine⟨Lk,?_⟩;simp only[eu]at oF;obtain⟨v,_,hv,EV,rfl⟩:=oF;have hvs:vs= #[v]:=by grind
 subst hvs;rcases Y with⟨rfl,Y⟩|⟨l,rfl,Y⟩
 ·have hl:=HD.len;obtain⟨u,rfl⟩:∃u,cb=[u]:=by
   cases cb with
   |nil=>trivial
   |cons u t=>cases t with
    |nil=>simp
    |cons _ _=>simp[atk]at hl
  have lV:=HD.lW 0 _ u rfl rfl;obtain⟨b,arr,rfl,cj,I,U,H⟩:=lV;simp only[RA]at EV;obtain⟨_,_,_,rj⟩:=EV;obtain⟨u,b',hu,nN,rfl⟩:=rj _ rfl rfl;simp at hu;subst hu;simp[bM]at nN;subst nN;simp only[eu,RA,Rd,avT]at H;have T7:arr= #[.pointer none,.slice none 0 0]:=by grind
  subst T7;refine(Go.Proofs.Any.Builder_copyCheck_fresh { Go.Proofs.Tryz.Aa with } Go.Proofs.Tryz.kR.toX72 b w (by simp[World.cell?,I]) (by simp[World.shape?,I];rfl) (by simp[World.frozen?,I])).mono ?_;rintro e w' ⟨rfl,rfl⟩;have ca:∀k,k≠b->(w.setCell ⟨b,0,none⟩ (.pointer (some ⟨b,0,none⟩))).heap[k]?=w.heap[k]?:=λk E=>Below.heap_setCell _ _ _ _ E
  have A9:(w.setCell ⟨b,0,none⟩ (.pointer (some ⟨b,0,none⟩))).heap[b]?=some (.cells #[.pointer (some ⟨b,0,none⟩),.slice none 0 0] dG (0,0)):=by
   simp[World.setCell,zcy,I]
  obtain⟨h3,_⟩:=HD.write (id:=0) (s:=.box dG [.pv avT,.pv (.nil 1)]) (s':=.box dG [.ref 0 0 0,.pv (.nil 1)]) (u:=.pointer (some ⟨b,0,none⟩)) (g:=b) rfl rfl rfl trivial rfl rfl ca (by simp) rfl rfl rfl
   (λ_=>⟨b,_,rfl,cj,A9,by trivial,by
     simp only[eu,RA,Rd]
     grind⟩)
  exact⟨_,_,_,_,rfl,Y,h3,by simp only[RA];exact⟨#[],rfl,by rfl⟩⟩
 ·obtain⟨u,t,rfl⟩:∃u t,cb=[u,t]:=by
   have hl:=HD.len
   match cb,hl with
   |[u,t],_=>simp
  have lV:=HD.lW 0 _ u rfl rfl;obtain⟨b,arr,rfl,cj,I,U,H⟩:=lV;simp only[RA]at EV;obtain⟨_,_,_,rj⟩:=EV;obtain⟨u,b',hu,nN,rfl⟩:=rj _ rfl rfl;simp at hu;subst hu;simp[bM]at nN;subst nN;simp only[eu,RA]at H;obtain⟨x,r,e,⟨_,_,_,T⟩,y,r2,rfl,hy,rfl⟩:=H;obtain⟨u,b',hu,nN,rfl⟩:=T _ rfl rfl;simp at hu;subst hu;simp[bM]at nN;subst nN;have T7:arr= #[.pointer (some ⟨b,0,none⟩),y]:=by grind
  subst T7;refine(Go.Proofs.Any.Builder_copyCheck_used { Go.Proofs.Tryz.Aa with } Go.Proofs.Tryz.kR.toX72 b w (by simp[World.cell?,I])).mono ?_;rintro e w' ⟨rfl,rfl⟩;exact⟨_,_,_,_,rfl,Y,HD,by simp only[RA];exact⟨#[],rfl,by rfl⟩⟩
open Go.Shelf Go.Proofs in
set_option maxRecDepth 100000 in
def agc(b g cap:Nat)(q:Value)(cur:Array Value)(l:P8)(w:World)(hbk:w.heap[b]?=some (.cells #[q,.slice (some ⟨g,0,none⟩) l.length cap] dG (0,0)))(hg:w.heap[g]?=some (.cells cur 5 (0,0)))(h0:l≠[])(hnc:l.length<=cap)(HM:cap<=maxLen)(nO:cur.size=cap*1)
 (Xk:cur.toList.take (l.length*1)=Lib.byteCells l):
 Calls Go.Proofs.Tryz.prog 231 #[.pointer (some ⟨b,0,none⟩)] w λe w'=>e=.returned (.string ⟨l.toArray⟩)/\(w'.os=w.os/\w'.tape=w.tape/\w'.output=w.output/\w'.heap.size=w.heap.size∧∀k,k≠g->w'.heap[k]?=w.heap[k]?):=by
 have hl0:l.length≠0:=by grind
 have L:Go.Proofs.Lays.n169 Go.Proofs.Tryz.prog Go.Proofs.Tryz.gN:={ Go.Proofs.Tryz.Aa with }
 have X:=Go.Proofs.Tryz.kR;have cj:w.ownsRow 0 5 1 (.slice (some ⟨g,0,none⟩) l.length cap) l.length (Lib.byteCells l):=⟨by grind,.inr ⟨g,cap,cur,rfl,zcl _,hg,hnc,HM,nO,Xk⟩⟩
 have c1:w.drew.cell? ⟨b,1,none⟩=some (.slice (some ⟨g,0,none⟩) l.length cap):=by
  have:w.drew.heap[b]?=some (.cells #[q,.slice (some ⟨g,0,none⟩) l.length cap] dG (0,0)):=hbk;rw[Lib.cell_of_heap this];rfl
 have hSD:(Builtin.unsafeSliceData_ #[(Go.Proofs.Tryz.gN.t 37)] (Go.Proofs.Tryz.gN.t 127) #[.slice (some ⟨g,0,none⟩) l.length cap]).run Go.Proofs.Tryz.prog w.drew=.ok (.pointer (some ⟨g,0,none⟩)) w.drew:=
  Lib.run_unsafeSliceData_row _ _ _ _ _ _ (by omega)
 have hUS:=by
  refine Lib.run_unsafeString_row w.drew (Go.Proofs.Tryz.gN.t 127) (Go.Proofs.Tryz.gN.t 3) (Go.Proofs.Tryz.gN.t 9) (Go.Proofs.Tryz.gN.t 5) L.t127 X.cellsByte g cur.size (by have NC:w.drew.heap[g]?=some (.cells cur 5 (0,0)):=hg;simp[World.shape?,NC];rfl) l h0 (by omega) (by unfold maxLen at HM;omega) ?_;intro j x T;have:=cj.cells (g:=g) rfl j (.int .u8 x.toNat) (by simp[Lib.byteCells,T]);exact this
 have mixed:=L.mixed;have t72:=L.t72;have a72:=L.a72;have z72:=L.z72;have v72:=L.v72;have u72:=run_underlying L.t72;have t70:=L.t70;have a70:=L.a70;have z70:=L.z70;have v70:=L.v70;have u70:=run_underlying L.t70;have t37:=L.t37;have a37:=L.a37;have z37:=L.z37;have v37:=L.v37;have u37:=run_underlying L.t37;have t127:=L.t127;have a127:=L.a127;have z127:=L.z127;have v127:=L.v127;have aJ4:=run_underlying L.t127;have t3:=L.t3;have a3:=L.a3;have z3:=L.z3;have v3:=L.v3;have u3:=run_underlying L.t3;have t9:=L.t9;have a9:=L.a9;have z9:=L.z9;have v9:=L.v9;have u9:=run_underlying L.t9;have t5:=X.t5;have a5:=X.a5;have z5:=X.z5;have v5:=X.v5;have u5:=run_underlying X.t5;have fin:∀n,(w.drew.freeze ⟨g,0,none⟩ n).os=w.os/\(w.drew.freeze ⟨g,0,none⟩ n).tape=w.tape/\(w.drew.freeze ⟨g,0,none⟩ n).output=w.output/\(w.drew.freeze ⟨g,0,none⟩ n).heap.size=w.heap.size∧∀k,k≠g->(w.drew.freeze ⟨g,0,none⟩ n).heap[k]?=w.heap[k]?:=by
  intro n;unfold World.freeze;split
  ·exact⟨rfl,rfl,rfl,rfl,λ_ _=>rfl⟩
  ·refine⟨rfl,rfl,rfl,by simp,λk E=>?_⟩;simp only[zcy];rw[if_neg (λe=>E e.symm)];rfl
 go_enter L.f169,Body.n169_ntmps Go.Proofs.Tryz.gN
 go_wp2
 go_region_o
 all_goals(go_wp2;go_ret;simp_all)
def RY(xs:XP)(Z:ax)(K:AV->ax->Prop):Prop:=
 xs=[.ref 0 0 0]∧∃l:P8,l≠[]/\Z=Vi l/\K (.pv (.str l)) [.dead,.dead]
def ajM:bQ Go.Proofs.Tryz.prog xV (lZ RY):=by
 refine⟨λe=>(by cases e),λe=>(by cases e),λ_ _ _ _ _ e=>(by cases e),λ_ _ _ _ _ _ _ _ h=>(show False from h).elim,?_⟩;rintro w ok b_ σ0 cb xs vs K _ HD oF ⟨rfl,l,h0,rfl,Y⟩;refine⟨Go.Proofs.enters_of Go.Proofs.Tryz.Aa.f169 (by rfl) rfl,?_⟩;simp only[eu]at oF;obtain⟨v,_,hv,EV,rfl⟩:=oF;have hvs:vs= #[v]:=by grind
 subst hvs;obtain⟨u,t,rfl⟩:∃u t,cb=[u,t]:=by
  have hl:=HD.len
  match cb,hl with
  |[u,t],_=>simp
 have lV:=HD.lW 0 _ u rfl rfl;obtain⟨b,arr,rfl,cj,I,U,H⟩:=lV;simp only[RA]at EV;obtain⟨_,_,_,rj⟩:=EV;obtain⟨u,b',hu,nN,rfl⟩:=rj _ rfl rfl;simp at hu;subst hu;simp[bM]at nN;subst nN;simp only[eu,RA]at H;obtain⟨x,r,e,⟨_,_,_,T⟩,y,r2,rfl,hy,rfl⟩:=H;obtain⟨u,b',hu,nN,rfl⟩:=T _ rfl rfl;simp at hu;subst hu;simp[bM]at nN;subst nN;simp at hy;subst hy;have T7:arr= #[.pointer (some ⟨b,0,none⟩),t]:=by grind
 subst T7;have jH:=HD.lW 1 _ t rfl rfl;obtain⟨_,cells,h3,h4,h5,h6⟩:=jH;have MF:cells=Lib.byteCells l:=by
  rw[i_,y6]at h6;exact h6
 subst MF;rw[zaw]at h3;rcases h3.2 with⟨_,hz⟩|⟨g,cap,cur,fr,rfl,hog,hg,hnc,HM,nO,Xk,tg⟩
 ·grind
 have aFb:fr=(0,0):=by
  grind
 subst aFb;refine(agc b g cap _ cur l w I hg h0 hnc HM nO Xk).mono ?_;rintro e w' ⟨rfl,ho,ht,hou,nP,xK⟩;refine⟨_,.pv (.str l),[.dead,.dead],[.pointer (some ⟨b,0,none⟩),.slice (some ⟨g,0,none⟩) l.length cap],rfl,Y,?_,by rfl⟩;have hnm:∀b2,¬Fo [cK.dead,cK.dead] [Value.pointer (some ⟨b,0,none⟩),Value.slice (some ⟨g,0,none⟩) l.length cap] b2:=by
  rintro b2 ⟨i,s,v,W,hl,_⟩;rcases i with _|_|i
  ·cases W;cases hl
  ·cases W;cases hl
  grind
 refine⟨⟨ho,ht,hou,by rw[nP];exact zai _,λk E rk=>xK k (λe=>rk (e▸hog))⟩,HD.one,rfl,λi s v W hv=>?_,λi j s t u v b2 _ W _ hl=>?_,⟨by rw[nP];exact zai _,λ_ h=>h.elim,λb2 hm=>absurd hm (hnm b2)⟩,⟨λi v h=>h,by simp[mcx,Vi],λi W e sz ap aw h=>?_,λi W s h hbx=>?_⟩⟩
 ·rcases i with _|_|i
  ·cases W;trivial
  ·cases W;trivial
  grind
 ·rcases i with _|_|i
  ·cases W;cases hl
  ·cases W;cases hl
  simp
 ·grind
 ·rcases i with _|_|i
  ·cases h;cases hbx
  ·cases h;cases hbx
  grind
end
end Go.Dv.Try
namespace Go.Proofs
def Tryz.aaA:Go.Shelf.Ren:=⟨λ|217=>321|266=>323|n=>n,λ|9=>9|5=>5|3=>3|n=>n,λ|n=>n⟩
def Tryz.agV:Go.Proofs.Lays.n217 Tryz.prog Tryz.aaA:={
 mixed:=by kernel_rfl
 f217:=Tryz.func321.trans (congrArg some (by kernel_rfl))
 f266:=Tryz.func323.trans (congrArg some (by kernel_rfl))
 t3:=Tryz.underlying3
 a3:=Tryz.isAgg3
 z3:=Tryz.sizeOf3
 v3:=Tryz.zeroValue3
 t5:=Tryz.underlying5
 a5:=Tryz.isAgg5
 z5:=Tryz.sizeOf5
 v5:=Tryz.zeroValue5
 t9:=Tryz.underlying9
 a9:=Tryz.isAgg9
 z9:=Tryz.sizeOf9
 v9:=Tryz.zeroValue9 }
end Go.Proofs
namespace Go.Dv.Try
open Go Go.Dv Go.RowKit
def n_(ps:CK)(x:PV):Prop:=∃(l:P8) (c:UInt8),ps=[.str l,aG c]/\x=pI (Lib.indexByte l c)
def XG:bQ Go.Proofs.Tryz.prog oP (ah n_):=by
 refine ah2 n_ (Go.Proofs.enters_of Go.Proofs.Tryz.agV.f217 (by kernel_rfl) rfl) ?_ ?_
 ·rintro ps x ⟨l,c,rfl,rfl⟩;trivial
 ·rintro w ok ps x vs lf ⟨l,c,rfl,rfl⟩;simp only[cz,Rd,aG]at lf;obtain⟨_,_,e,rfl,_,_,rfl,rfl,rfl⟩:=lf;have:vs= #[.string ⟨l.toArray⟩,.int .u8 (c.toNat:Nat)]:=by rw[<-Array.toList_inj];exact e
  subst this;refine(Go.Proofs.Any.stringslite_IndexByte Go.Proofs.Tryz.agV ⟨l.toArray⟩ (c.toNat:Nat) w).mono ?_;rintro e w' ⟨rfl,rfl⟩;refine⟨_,rfl,?_,Below.refl _ _⟩;simp only[Rd,pI];simp
end Go.Dv.Try
namespace Go.Dv.Try
open Go Go.Dv
def J_(n:Nat):Nat:=if n=0 then 0 else Nat.log2 n+1
def J8{n k:Nat}:J_ n<=k↔n<2^k:=by
 unfold J_;split
 ·rename_i h;subst h;simp[zcb]
 ·rename_i h;rw[Nat.succ_le_iff];exact Nat.log2_lt h
def dp(a:Nat):Nat:=max 4 (J_ (a-1))
def Ct(a:Int):Int:=(dp a.toNat:Int)
def Gn(a:Nat):Nat:=2^(16-dp a)+2
def Cw(a:Int):Int:=(Gn a.toNat:Int)
def uH{a:Nat}(h:a<=4096):dp a<=12:=by
 unfold dp;rw[Nat.max_le];exact⟨V,J8.2 V⟩
def Ei(a:Nat):4<=dp a:=Nat.le_max_left ..
def YS{a:Int}(h:a<=4096):4<=Ct a/\Ct a<=12:=by
 have:=uH (a:=a.toNat) V;have:=Ei a.toNat;unfold Ct;omega
def ab2{a:Int}(h:a<=4096):18<=Cw a/\Cw a<=4098:=by
 have U:=uH (a:=a.toNat) V;have H:=Ei a.toNat;unfold Cw Gn;have h3:2^4<=2^(16-dp a.toNat):=zb4 V V;have h4:2^(16-dp a.toNat)<=2^12:=zb4 V V;omega
def apW{a s:Nat}(h:4<=s):dp a<=s↔a<=2^s:=by
 unfold dp;rw[Nat.max_le,J8];have:=zcb s;omega
structure c7 where
 d:Int
 l:Int
 b:Int
deriving DecidableEq
def c7.pv(t:c7):PV:=.agg [pI t.d,pI t.l,pI t.b]
def c7.copy(t:c7):Bool:=decide (t.d≠0)
def c7.made(t:c7):Int:=if t.d≠0 then t.l else 1
def j0(d:P8)(a k n:Nat):Nat->Nat
 |0=>n
 |m+1=>if d[a+n]?=d[a+n-k]? then j0 d a k (n+1) m else n
def dD(d:P8)(a:Nat):Nat:=min (Gn a) (d.length-a)
def dC(d:P8)(a k:Nat):Nat:=j0 d a k 0 (dD d a)
def asU(d:P8)(a k:Nat):∀(m n:Nat),n<=j0 d a k n m/\j0 d a k n m<=n+m:=by
 intro m
 induction m with
 |zero=>intro n;simp[j0]
 |succ m ih=>
  intro n;unfold j0;split
  ·have:=ih (n+1);omega
  ·omega
def L1(d:P8)(a k:Nat):dC d a k<=dD d a:=by
 have:=asU d a k (dD d a) 0;unfold dC;omega
abbrev PW:=List c7
def cn{a b:Int}(h:a=b):pI a=pI b:=by rw[h]
def Gt{a b:Bool}(h:a=true↔b=true):pB a=pB b:=by
 grind
def Mh(n:Int):IntKind.u8.wrap n=n%256:=by
 rfl
def atr{n:Int}(h:0<=n/\n<18446744073709551616):IntKind.u64.wrap n=n:=by
 have I:IntKind.u64.bits=64:=rfl;simp only[IntKind.wrap,IntKind.signed,I]
 grind
def kY(ps:CK)(x:PV):Prop:=∃n:Int,ps=[.int .u64 n]/\(0<=n/\n<=65535)/\x=pI (J_ n.toNat)
def an5:P8:=[0,1,2,2,3,3,3,3,4,4,4,4,4,4,4,4,5,5,5,5,5,5,5,5,5,5,5,5,5,5,5,5,6,6,6,6,6,6,6,6,6,6,6,6,6,6,6,6,6,6,6,6,6,6,6,6,6,6,6,6,6,6,6,6,7,7,7,7,7,7,7,7,7,7,7,7,7,7,7,7,7,7,7,7,7,7,7,7,7,7,7,7,7,7,7,7,7,7,7,7,7,7,7,7,7,7,7,7,7,7,7,7,7,7,7,7,7,7,7,7,7,7,7,7,7,7,7,7,8,8,8,8,8,8,8,8,8,8,8,8,8,8,8,8,8,8,8,8,8,8,8,8,8,8,8,8,8,8,8,8,8,8,8,8,8,8,8,8,8,8,8,8,8,8,8,8,8,8,8,8,8,8,8,8,8,8,8,8,8,8,8,8,8,8,8,8,8,8,8,8,8,8,8,8,8,8,8,8,8,8,8,8,8,8,8,8,8,8,8,8,8,8,8,8,8,8,8,8,8,8,8,8,8,8,8,8,8,8,8,8,8,8,8,8,8,8,8,8,8,8,8,8,8,8,8,8]
def aoG(i:Nat)(h:i<256):an5[i]?=some (UInt8.ofNat (J_ i)):=by
 have:(List.range 256).all (λi=>an5[i]?==some (UInt8.ofNat (J_ i)))=true:=ae
 grind
def abI{n:Nat}(h:256<=n):J_ n=J_ (n/256)+8:=by
 unfold J_;have U:n≠0:=V;have H:n/256≠0:=V;rw[if_neg U,if_neg H];have:Nat.log2 n=Nat.log2 (n/256)+8:=by
  apply(zcK U).2;have h3:=(zcK H).1 rfl
  grind
 omega
def auv{n:Nat}(h:n<256):(UInt8.ofNat (J_ n)).toNat=J_ n:=by
 have:J_ n<=8:=J8.2 V;simp;omega
def BK:MT (ao []) xp (ah kY):=by
 rintro _ K ⟨_,⟨n,rfl,⟨U,H⟩,rfl⟩,Y⟩;refine λb I=>?_
 rcases cmp I with⟨rfl,h⟩|⟨rfl,h⟩
 ·omega
 refine λb I=>?_
 rcases cmp I with⟨rfl,h'⟩|⟨rfl,h'⟩
 ·omega
 refine λb I=>?_
 rcases cmp I with⟨rfl,h3⟩|⟨rfl,h3⟩
 ·refine⟨ai,?_⟩;refine λx T=>?_
  have T:x=((n.toNat/256:Nat):Int):=by
   rw[T];show n.fdiv (2^8)=_
   grind
  refine λy hy=>?_
  replace hy:=jb hy ai;refine λz hz=>?_
  rw[Mh]at hz;have hz:z=((n.toNat/256:Nat):Int):=V;subst hz;refine⟨_,⟨V,aoG (n.toNat/256) V⟩,?_⟩;refine λu hu=>?_
  rw[auv V]at hu;have hle:J_ (n.toNat/256)<=8:=J8.2 V;replace hu:=jb hu V;refine λv hv=>?_
  replace hv:=jb hv V;refine⟨.pv (pI _),?_,trivial,Y⟩;refine cn ?_;rw[abI V];omega
 ·refine λz hz=>?_
  rw[Mh]at hz;have hz:z=((n.toNat:Nat):Int):=V;subst hz;refine⟨_,⟨V,aoG n.toNat V⟩,?_⟩;refine λu hu=>?_
  rw[auv V]at hu;have hle:J_ n.toNat<=8:=J8.2 V;replace hu:=jb hu V;refine λv hv=>?_
  replace hv:=jb hv V;refine⟨.pv (pI _),?_,trivial,Y⟩;refine cn ?_;omega
def Fq:MT (ao [(303,ah kY)]) Bv (ah kY):=by
 rintro _ K ⟨_,⟨n,rfl,h,rfl⟩,Y⟩;refine⟨_,⟨n,rfl,h,rfl⟩,?_⟩;exact aO
def mg(ps:CK)(x:PV):Prop:=∃a:Int,ps=[pI a]/\(0<=a/\a<=4096)/\x=pI (Ct a)
def C_:MT (ao [(286,ah kY)]) ym (ah mg):=by
 rintro _ K ⟨_,⟨a,rfl,⟨U,H⟩,rfl⟩,Y⟩;refine λx T=>?_
 replace T:=jb T V;refine λx T=>?_
 refine λy hy=>?_
 rw[atr V]at hy;refine⟨_,⟨y,rfl,V,rfl⟩,?_⟩;refine λz hz=>?_
 refine⟨.pv (pI _),cn ?_,trivial,Y⟩;rw[hz];have:y.toNat=a.toNat-1:=V;rw[this];unfold Ct dp;omega
def nD(ps:CK)(x:PV):Prop:=∃a:Int,ps=[pI a]/\(0<=a/\a<=4096)/\x=pI (Cw a)
def aDH{s:Int}(h:0<=s/\s<=62):IntKind.i64.wrap (1*2^min s.toNat IntKind.i64.bits)=((2^s.toNat:Nat):Int):=by
 have I:IntKind.i64.bits=64:=rfl;have:min s.toNat IntKind.i64.bits=s.toNat:=V;rw[this,zcE];have hp:2^s.toNat<=2^62:=zb4 V V;have e:((2:Int)^s.toNat)=((2^s.toNat:Nat):Int):=ab;rw[e];generalize 2^s.toNat=p at hp;exact wrap64 V
def z_:MT (ao [(257,ah mg)]) vj (ah nD):=by
 rintro _ K ⟨_,⟨a,rfl,⟨U,H⟩,rfl⟩,Y⟩;have I:=YS H;have hl:=ab2 H;refine⟨_,⟨a,rfl,⟨U,H⟩,rfl⟩,?_⟩;refine λx T=>?_
 replace T:=jb T V;refine⟨V,?_⟩;refine λy hy=>?_
 rw[aDH V]at hy;have hy2:y=Cw a-2:=by
  rw[hy,T];unfold Cw Gn Ct;simp
 refine λz hz=>?_
 replace hz:=jb hz V;refine λu hu=>?_
 replace hu:=jb hu V;refine⟨.pv (pI _),cn ?_,trivial,Y⟩;omega
def wZ(ps:CK)(x:PV):Prop:=∃n lo W:Int,ps=[pI n,pI lo,pI W]/\x=pB (decide (lo<=n/\n<=W))
def B_:MT (ao []) xz (ah wZ):=by
 rintro _ K ⟨_,⟨n,lo,W,rfl,rfl⟩,Y⟩;refine λb I=>?_
 rcases cmp I with⟨rfl,h⟩|⟨rfl,h⟩
 ·refine λb I=>?_
  refine⟨.pv (pB _),Gt ?_,trivial,Y⟩
  grind
 ·refine⟨.pv (pB _),Gt ?_,trivial,Y⟩
  grind
def cQ(ok:Bool)(e:Int):Int:=match ok with|true=>0|false=>e
def kT(ps:CK)(x:PV):Prop:=∃(ok:Bool) (e:Int),ps=[pB ok,pI e]/\x=pI (cQ ok e)
def BM:MT (ao []) xt (ah kT):=by
 rintro _ K ⟨_,⟨ok,e,rfl,rfl⟩,Y⟩;cases ok with
 |true=>exact aO
 |false=>exact aO
def aZ:OG->Int
 |[]=>0
 |e::l=>if e=0 then aZ l else e
def qQ(ps:CK)(x:PV):Prop:=∃l:OG,ps=[.sl 1 (l.map pI)]/\x=pI (aZ l)
def gO(l:OG)(n:Nat)(h:∀j,j<n->l[j]?=some 0):aZ l=aZ (l.drop n):=by
 induction n generalizing l with
 |zero=>rfl
 |succ n ih=>
  cases l with
  |nil=>rfl
  |cons e l=>
   have:=h 0 V;simp at this;subst this;exact ih l λj hj=>au
def Dw:MT (ao []) yi (ah qQ):=by
 rintro _ K ⟨_,⟨l,rfl,rfl⟩,Y⟩;refine λhl=>?_
 rw[zaw]at hl;refine⟨λm env Z=>∃n:Nat,(n+m=l.length∧∀j,j<n->l[j]?=some 0)/\Z=[]/\env=[(5,.pv (.sl 1 (l.map pI))),eN 6 ((l.map pI).length:Nat),eN 7 n],l.length,⟨0,⟨V,λj hj=>V⟩,rfl,rfl⟩,?_⟩;rintro m env Z ⟨n,⟨hn,h0⟩,rfl,rfl⟩;refine λb I=>?_
 rw[zaw]at I;rcases cmp I with⟨rfl,h⟩|⟨rfl,h⟩
 ·have aM:n<l.length:=by omega
  refine⟨pI l[n],⟨V,?_⟩,?_⟩
  ·show(l.map pI)[n]?=some (pI l[n]);simp[aM]
  refine λb I=>?_
  rcases cmp I with⟨rfl,h⟩|⟨rfl,h⟩
  ·refine⟨.pv (pI _),cn ?_,trivial,Y⟩;rw[gO l n h0,zcf aM];simp[aZ,h]
  ·refine λx T=>?_
   replace T:=jb T V;subst T;refine⟨m-1,V,n+1,⟨V,λj hj=>?_⟩,rfl,rfl⟩;by_cases hjn:j<n
   ·exact h0 j hjn
   ·have:j=n:=by omega
    subst this;rw[zah aM];simpa using h
 ·refine⟨.pv (pI _),cn ?_,trivial,Y⟩;rw[gO l n h0,zb7 V];rfl
def fN(ps:CK)(x:PV):Prop:=∃t:c7,ps=[t.pv]/\x=pB t.copy
def B7:MT (ao []) xn (ah fN):=by
 rintro _ K ⟨_,⟨t,rfl,rfl⟩,Y⟩;refine λb I=>?_
 refine⟨.pv (pB _),Gt ?_,trivial,Y⟩;rw[I];simp[c7.copy]
def iH(ps:CK)(x:PV):Prop:=∃t:c7,ps=[t.pv]/\x=pI t.made
def FH:MT (ao [(260,ah fN)]) Be (ah iH):=by
 rintro _ K ⟨_,⟨t,rfl,rfl⟩,Y⟩;refine⟨_,⟨t,rfl,rfl⟩,?_⟩;generalize F:t.copy=c;unfold c7.copy at F;cases c with
 |true=>
  refine⟨.pv (pI _),cn ?_,trivial,Y⟩;simp at F;simp[c7.made,F]
 |false=>
  refine⟨.pv (pI _),cn ?_,trivial,Y⟩;simp at F;simp[c7.made,F]
def iQ(ps:CK)(x:PV):Prop:=∃(d:P8) (a:Int),ps=[.str d,pI a]/\(d.length<=4096/\0<=a/\a<=(d.length:Int))/\x=pI (dD d a.toNat:Nat)
def Pq(d:P8){a:Int}(h:0<=a/\a<=(d.length:Int)):((dD d a.toNat:Nat):Int)=min (Cw a) ((d.length:Int)-a):=by
 unfold dD Cw;omega
def yc:MT (ao [(305,ah nD)]) sa (ah iQ):=by
 rintro _ K ⟨_,⟨d,a,rfl,⟨U,H,h3⟩,rfl⟩,Y⟩;refine⟨_,⟨a,rfl,⟨H,V⟩,rfl⟩,?_⟩;refine λx T=>?_
 replace T:=jb T V;refine λr J=>?_
 refine⟨.pv (pI _),cn ?_,trivial,Y⟩;rw[Pq d ⟨H,h3⟩,J,T]
def kN(ps:CK)(x:PV):Prop:=∃(d:P8) (a k:Int),ps=[.str d,pI a,pI k]/\(d.length<=4096/\0<=a/\a<=(d.length:Int)/\1<=k/\k<=a)/\x=pI (dC d a.toNat k.toNat:Nat)
def get_eq{d:P8}{i j:Nat}(W:i<d.length)(hj:j<d.length):((d[i].toNat:Int)=(d[j].toNat:Int))↔d[i]?=d[j]?:=by
 rw[zah W,zah hj];constructor
 ·intro h;congr 1;exact UInt8.toNat_inj.1 V
 grind
def wI:MT (ao [(317,ah iQ)]) qy (ah kN):=by
 rintro _ K ⟨_,⟨d,a,k,rfl,⟨U,H,h3,h4,h5⟩,rfl⟩,Y⟩;refine⟨_,⟨d,a,rfl,⟨U,H,h3⟩,rfl⟩,?_⟩;have J:=Pq d ⟨H,h3⟩;refine⟨λm env Z=>∃n:Nat,(n+m=dD d a.toNat/\j0 d a.toNat k.toNat n m=dC d a.toNat k.toNat)/\Z=[]/\env=[(0,.pv (.str d)),eN 1 a,eN 2 k,eN 7 n,eN 8 (dD d a.toNat:Nat)],dD d a.toNat,⟨0,⟨V,rfl⟩,rfl,rfl⟩,?_⟩;rintro m env Z ⟨n,⟨hn,hm⟩,rfl,rfl⟩;refine⟨ae,?_⟩;refine λb I=>?_
 rcases cmp I with⟨rfl,h⟩|⟨rfl,h⟩
 ·have aM:a.toNat+n<d.length:=by omega
  refine λx T=>?_
  replace T:=jb T V;subst T;refine⟨_,⟨V,zah V⟩,?_⟩;refine λx T=>?_
  replace T:=jb T V;subst T;refine λx T=>?_
  replace T:=jb T V;subst T;refine⟨_,⟨V,zah V⟩,?_⟩;refine λb I=>?_
  have e1:(a+n).toNat=a.toNat+n:=V;have e2:(a+n-k).toNat=a.toNat+n-k.toNat:=V;rw[get_eq,e1,e2]at I;cases m with
  |zero=>omega
  |succ m=>
   unfold j0 at hm;rcases cmp I with⟨rfl,h'⟩|⟨rfl,h'⟩
   ·rw[if_pos h']at hm;refine λx T=>?_
    replace T:=jb T V;subst T;exact⟨m,V,n+1,⟨V,hm⟩,rfl,rfl⟩
   ·rw[if_neg h']at hm;exact⟨.pv (pI _),cn V,trivial,Y⟩
 ·have:m=0:=by omega
  subst this;unfold j0 at hm;exact⟨.pv (pI _),cn V,trivial,Y⟩
def OA(d:P8)(a:Nat):c7:=⟨0,0,((d[a]?.getD 0).toNat:Int)⟩
def tV(d:P8)(a:Nat):Nat->Nat->Nat->Nat->Nat×Nat
 |0,_,Eg,ld=>(Eg,ld)
 |m+1,k,Eg,ld=>
  if ld<dD d a then(if ld<dC d a k then tV d a m (k+1) k (dC d a k)else tV d a m (k+1) Eg ld)
  else(Eg,ld)
def pz(d:P8)(a:Nat):Nat×Nat:=tV d a a 1 0 0
def R1(p:Nat×Nat):c7:=⟨(p.1:Int),(p.2:Int),0⟩
def aeY(d:P8)(a:Nat):∀(m k Eg ld:Nat),ld<=dD d a->(ld=0\/1<=Eg)->1<=k->(tV d a m k Eg ld).2<=dD d a/\((tV d a m k Eg ld).2=0\/1<=(tV d a m k Eg ld).1):=by
 intro m
 induction m with
 |zero=>intro k Eg ld U H _;exact⟨U,H⟩
 |succ m ih=>
  intro k Eg ld U H h3;unfold tV;split
  ·split
   ·exact ih _ _ _ (L1 d a k) (.inr h3) V
   ·exact ih _ _ _ U H V
  ·exact⟨U,H⟩
def JL(d:P8)(a:Nat):(pz d a).2<=dD d a/\((pz d a).2=0\/1<=(pz d a).1):=aeY d a a 1 0 0 (zcl _) (.inl rfl) (zai _)
def fy(d:P8)(a:Nat):Nat->Nat->Nat->List (Nat×Nat)
 |0,_,_=>[]
 |m+1,k,ld=>if ld<dD d a then(if ld<dC d a k then(k,dC d a k)::fy d a m (k+1) (dC d a k)else fy d a m (k+1) ld)else[]
def jC(d:P8)(a:Nat):List (Nat×Nat):=fy d a a 1 0
def J1(d:P8)(a:Nat):∀(m k Eg ld:Nat),tV d a m k Eg ld=((Eg,ld)::fy d a m k ld).getLast ab:=by
 intro m
 induction m with
 |zero=>intro k Eg ld;rfl
 |succ m ih=>
  intro k Eg ld;unfold tV fy;split
  ·split
   ·rw[ih];exact(List.getLast_cons (a:=(Eg,ld)) ab).symm
   ·exact ih _ _ _
  ·rfl
end Go.Dv.Try
namespace Go.Dv.Try
open Go Go.Dv Go.RowKit
def asV:PC:=.region [
 ⟨some 8,none,.load false 1 (.tmp 1)⟩,
 ⟨some 9,none,.load false 1 (.tmp 2)⟩,
 ⟨some 10,none,.call 317 [.tmp 8,.tmp 9]⟩,
 ⟨some 4,none,.mv (.const (.int .i64 0))⟩,
 ⟨some 5,none,.mv (.tmp 10)⟩]
def aAi:PC:=asV
def atp:PC:=.region [
 ⟨some 6,none,.mv (.const (.int .i64 1))⟩]
def azG:PC:=atp
def av0:PC:=.region [
 ⟨some 11,none,.mv (.tmp 6)⟩,
 ⟨some 12,none,.load false 1 (.tmp 2)⟩,
 ⟨some 13,none,.bin .leq (.tmp 11) (.tmp 12)⟩,
 ⟨some 14,none,.mv (.tmp 13)⟩,
 ⟨some 15,some (⟨14,true⟩),.mv (.tmp 4)⟩,
 ⟨some 16,some (⟨14,true⟩),.mv (.tmp 5)⟩,
 ⟨some 17,some (⟨14,true⟩),.bin .lss (.tmp 15) (.tmp 16)⟩,
 ⟨some 18,none,.pick (.tmp 14) (.tmp 17) (.const (.bool false))⟩]
def avQ:PC:=.cond (.tmp 18) .skip (.exit 0)
def awn:PC:=.seq av0 avQ
def aDC:PC:=awn
def ass:PC:=.draw [
 ⟨some 21,none,.load false 1 (.tmp 1)⟩,
 ⟨some 22,none,.load false 1 (.tmp 2)⟩,
 ⟨some 23,none,.mv (.tmp 4)⟩,
 ⟨some 24,none,.bin .add (.tmp 22) (.tmp 23)⟩,
 ⟨some 25,none,.idx (.tmp 21) (.tmp 24)⟩,
 ⟨some 26,none,.load false 1 (.tmp 1)⟩,
 ⟨some 27,none,.load false 1 (.tmp 2)⟩,
 ⟨some 28,none,.mv (.tmp 4)⟩,
 ⟨some 29,none,.bin .add (.tmp 27) (.tmp 28)⟩,
 ⟨some 30,none,.mv (.tmp 6)⟩,
 ⟨some 31,none,.bin .sub (.tmp 29) (.tmp 30)⟩,
 ⟨some 32,none,.idx (.tmp 26) (.tmp 31)⟩,
 ⟨some 33,none,.bin .neq (.tmp 25) (.tmp 32)⟩]
 [[],[],[],[1,2],[0,3],[],[],[],[6,7],[],[8,9],[5,10],[4,11]]
def asl:PC:=.cond (.tmp 33) (.exit 1) .skip
def atl:PC:=.seq ass asl
def aAA:PC:=atl
def asQ:PC:=.region [
 ⟨some 34,none,.load false 1 (.tmp 1)⟩,
 ⟨some 35,none,.load false 1 (.tmp 2)⟩,
 ⟨some 36,none,.mv (.tmp 6)⟩,
 ⟨some 37,none,.call 318 [.tmp 34,.tmp 35,.tmp 36]⟩,
 ⟨some 7,none,.mv (.tmp 37)⟩]
def azN:PC:=asQ
def arQ:PC:=.region [
 ⟨some 38,none,.mv (.tmp 7)⟩,
 ⟨some 39,none,.mv (.tmp 4)⟩,
 ⟨some 40,none,.bin .gtr (.tmp 38) (.tmp 39)⟩]
def aAh:PC:=arQ
def arF:PC:=.region [
 ⟨some 41,none,.mv (.tmp 7)⟩,
 ⟨some 4,none,.mv (.tmp 41)⟩]
def azF:PC:=arF
def asb:PC:=.region [
 ⟨some 19,none,.mv (.tmp 6)⟩,
 ⟨some 20,none,.bin .add (.tmp 19) (.const (.int .i64 1))⟩,
 ⟨some 6,none,.mv (.tmp 20)⟩]
def aAg:PC:=asb
def ab7:QK:=[1,2,4,5,6,7]
def aox:∃(A1 A2 B C1 R5 R6 R7 R3:Code) (id:Nat) (o0 o1 o2 o3 o4:Oper),
 Go.Proofs.Tryz.f316.body=some (.seq A1 (.seq A2 (.block 0 (.loop (.seq B (.seq (.block 1 (.seq C1 (.seq R5 (.seq R6 (.cond (.tmp 40) (.seq R7 (.seq (.region id #[o0,o1,o2,o3,o4] false) (.cond (.tmp 46) .ret .skip))) .skip))))) R3))))))/\
 eT Go.Proofs.Tryz.prog 47 A1=some (strip aAi)/\eT Go.Proofs.Tryz.prog 47 A2=some (strip azG)/\eT Go.Proofs.Tryz.prog 47 B=some (strip aDC)/\eT Go.Proofs.Tryz.prog 47 C1=some (strip aAA)/\
 eT Go.Proofs.Tryz.prog 47 R5=some (strip azN)/\eT Go.Proofs.Tryz.prog 47 R6=some (strip aAh)/\eT Go.Proofs.Tryz.prog 47 R7=some (strip azF)/\eT Go.Proofs.Tryz.prog 47 R3=some (strip aAg)/\
 Xe 47 o0=some ⟨some 42,none,.mv (.tmp 0)⟩/\Xe 47 o1=some ⟨some 43,none,.mv (.tmp 6)⟩/\Xe 47 o2=some ⟨some 44,none,.mv (.tmp 7)⟩/\
 (o3.guard=none/\o3.dst=some 45∧∃c,o3.op=.call c/\c.callee=.value (.tmp 42)/\c.args= #[.tmp 43,.tmp 44])/\(o4.guard=none/\o4.dst=some 46∧∃t,o4.op=.unOp .not t (.tmp 45)):=
 ⟨_,_,_,_,_,_,_,_,_,_,_,_,_,_,rfl,ae,ae,ae,ae,ae,ae,ae,ae,ae,ae,ae,⟨rfl,rfl,_,rfl,rfl,rfl⟩,⟨rfl,rfl,_,rfl⟩⟩
end Go.Dv.Try
namespace Go.Dv.Try
open Go Go.Dv Go.RowKit Go.Shelf
section
structure Jt(N:Nat)(dV:Nat->Prop)(l:Nat)(v1 v2:Value)(X1 X2:PV)(act:Act)(hi:World):Prop where
 size:act.tmps.size=N
 defs:act.defers=[]
 t0:act.tmps.getD 0 undef=.func (.yield l) #[] #[]
 t1:act.tmps.getD 1 undef=v1
 t2:act.tmps.getD 2 undef=v2
 r1:Rd dV hi X1 v1
 r2:Rd dV hi X2 v2
 ok:∀b,dV b->b<hi.heap.size
def acz(dV:Nat->Prop)(act:Act)(hi:World)(b_:∀b,dV b->b<hi.heap.size):Cx:=
 { P:=Go.Proofs.Tryz.prog,w0:=hi,Zi:=dV,hA:=b_,keep:=λb=>b<hi.heap.size,E:=λ_ h=>h,lo:=3,base:=λp=>act.tmps.getD p undef }
variable {N:Nat} {dV:Nat->Prop} {l:Nat} {v1 v2:Value} {X1 X2:PV} {act:Act} {hi:World}
def Jt.rel(h:Jt N dV l v1 v2 X1 X2 act hi)(env:Env)(he:∀p x,aA p env=.pv x->p=1/\x=X1\/p=2/\x=X2∨∃n,x=pI n/\act.tmps.getD p undef=.int .i64 n)
 (hp:∀p,aA p env=.bad∨∃x,aA p env=.pv x):Rel (acz dV act hi h.ok) env [] [] act hi:=by
 have b_:∀b,dV b->Ok (acz dV act hi h.ok) [] [] hi b:=λb I=>⟨.inl I,h.ok b I,λ⟨i,s,v,W,_⟩=>uV⟩
 refine⟨⟨vH.refl _ _,ab,rfl,λi s v W=>uV,λi j s t u v b _ W=>uV,⟨zai _,λ_ _=>rfl,λb hm=>?_⟩,⟨λi v h=>by simp[acz]at h,by simp[acz],λi W=>by simp[acz]at W,λi W=>by simp[acz]at W⟩⟩,λp=>?_,h.defs,λx v hg=>hg.elim,λp _=>rfl⟩
 ·obtain⟨i,s,v,W,_⟩:=hm;simp at W
 ·rcases hp p with I|⟨x,T⟩
  ·rw[I];simp only[RA]
  ·rw[T];simp only[RA];rcases he p x T with⟨rfl,rfl⟩|⟨rfl,rfl⟩|⟨n,rfl,hn⟩
   ·rw[h.t1];exact Rd.mono b_ (λ_ _ _=>rfl) _ _ h.r1
   ·rw[h.t2];exact Rd.mono b_ (λ_ _ _=>rfl) _ _ h.r2
   ·rw[hn];simp only[Rd]
def Jt.after{wm:Act}{W':World}(h:Jt N dV l v1 v2 X1 X2 act hi){env:Env}{Z:ax}{vals:XS}(hs:wm.tmps.size=N)(J:Rel (acz dV act hi h.ok) env Z vals wm W'):
 Jt N dV l v1 v2 X1 X2 wm W'/\hi.grownBy W' none:=by
 have hg:hi.grownBy W' none:=⟨J.s.below.os,J.s.below.tape,J.s.below.output,J.s.below.size,λk E _=>J.s.fr.same k E⟩
 have F:∀b o,dV b->W'.cell? ⟨b,o,none⟩=hi.cell? ⟨b,o,none⟩:=λb o I=>World.cell?_of_block (J.s.fr.same b (h.ok b I))
 exact⟨⟨hs,J.defers,(J.lo 0 (show 0<3 by decide)).trans h.t0,(J.lo 1 (show 1<3 by decide)).trans h.t1,(J.lo 2 (show 2<3 by decide)).trans h.t2,Rd.mono (λ_ h=>h) F _ _ h.r1,Rd.mono (λ_ h=>h) F _ _ h.r2,
  λb I=>zae (h.ok b I) J.s.below.size⟩,hg⟩
def Jt.num{cx:Cx}{env:Env}{Z:ax}{vals:XS}{act:Act}{hi:World}(J:Rel cx env Z vals act hi){p:Nat}{n:Int}(h:aA p env=.pv (pI n)):act.tmps.getD p undef=.int .i64 n:=by
 have:=J.env p;rw[h]at this;simpa only[RA,Rd]using this
def aoN(q:Ex->(Nat->AV)->Prop):Ex->Env->ax->Prop:=λe env _=>q e λp=>aA p env
def afJ(q:Ex->(Nat->AV)->Prop):∀e,tZ (aoN q e):=by
 intro e env aB Z h;show q e (λp=>aA p aB)=q e λp=>aA p env
 rw[show(λp=>aA p aB)=λp=>aA p env from funext h]
def Jt.piece{Γ:Ctx}(hΓ:Sound Go.Proofs.Tryz.prog Γ)(h:Jt N dV l v1 v2 X1 X2 act hi){ps:QK}{c:Code}{pc:PC}(F:eT Go.Proofs.Tryz.prog N c=some (strip pc))(hs:dm pc=true)(hg:geC 3 pc=true)
 {env:Env} (J:Rel (acz dV act hi h.ok) env [] [] act hi) {q:Ex->(Nat->AV)->Prop} (hv:vc Γ [] ps pc (aoN q) env []) (m:Nat) (R:Exit->Act->World->Prop)
 (hR:∀e wm W' env Z vals,Jt N dV l v1 v2 X1 X2 wm W'->hi.grownBy W' none->Rel (acz dV act hi h.ok) env Z vals wm W'->(match e with| .normal=>q .normal (λp=>aA p env)| .exit i=>q (.exit i) (λp=>aA p env)| .ret=>q .ret (λp=>aA p env)|_=>False)->R e wm W'):
 c.wpIn Fence.wide m Go.Proofs.Tryz.prog R act hi:=by
 have:=Az (P:=Go.Proofs.Tryz.prog) (ps:=ps) hΓ mixed c pc F (· =acz dV act hi h.ok) Fence.wide m _ (aoN q) env [] [] act hi (.inl hs) (.inr ⟨3,λcx hcx=>by rw[hcx];exact zai _,hg⟩) (.inl rfl) rfl (λcx hcx=>by rw[hcx];rfl) (afJ q) h.size J hv;refine wpIn_mono this ?_;intro e wm W' hp;cases e with
 |normal=>
  obtain⟨cx,env,Z,vals,rfl,BF,eI,hq⟩:=hp;obtain⟨U,H⟩:=h.after BF eI;exact hR .normal wm W' env Z vals U H eI hq
 |exit i=>
  obtain⟨cx,env,Z,vals,rfl,BF,eI,hq⟩:=hp;obtain⟨U,H⟩:=h.after BF eI;exact hR (.exit i) wm W' env Z vals U H eI hq
 |ret=>
  obtain⟨cx,env,Z,vals,rfl,BF,eI,hq⟩:=hp;obtain⟨U,H⟩:=h.after BF eI;exact hR .ret wm W' env Z vals U H eI hq
 |_=>exact hp.elim
def D4(l:List (Nat×Int)):Env:=l.map λq=>(q.1,.pv (pI q.2))
def az9(X1 X2:PV)(l:List (Nat×Int)):Env:=(1,.pv X1)::(2,.pv X2)::D4 l
def awt{a b:Nat}(h:a≠b):Nat.beq a b=false:=by
 cases I:Nat.beq a b with
 |true=>exact absurd (zab I) h
 |false=>rfl
def Na(l:List (Nat×Int))(p:Nat):aA p (D4 l)=.bad∨∃q∈l,q.1=p/\aA p (D4 l)=.pv (pI q.2):=by
 induction l with
 |nil=>exact .inl rfl
 |cons q l ih=>
  show(bif Nat.beq q.1 p then AV.pv (pI q.2)else aA p (D4 l))=.bad∨∃q'∈q::l,q'.1=p/\(bif Nat.beq q.1 p then AV.pv (pI q.2)else aA p (D4 l))=.pv (pI q'.2);by_cases e:q.1=p
  ·exact .inr ⟨q,ab,e,by simp[e]⟩
  ·rw[awt e];rcases ih with h|⟨q',U,H,h3⟩
   ·exact .inl h
   ·exact .inr ⟨q',by simp[U],H,h3⟩
def Jt.Ob(h:Jt N dV l v1 v2 X1 X2 act hi)(ns:List (Nat×Int))(hns:∀q∈ns,act.tmps.getD q.1 undef=.int .i64 q.2):Rel (acz dV act hi h.ok) (az9 X1 X2 ns) [] [] act hi:=by
 refine h.rel _ (λp x T=>?_) (λp=>?_)
 ·have T:(bif Nat.beq 1 p then AV.pv X1 else bif Nat.beq 2 p then AV.pv X2 else aA p (D4 ns))=.pv x:=T;by_cases e1:1=p
  ·subst e1;simp at T;exact .inl ⟨rfl,T.symm⟩
  ·rw[awt e1,cond_false]at T;by_cases e2:2=p
   ·subst e2;simp at T;exact .inr (.inl ⟨rfl,T.symm⟩)
   ·rw[awt e2,cond_false]at T;rcases Na ns p with h'|⟨q,U,H,h3⟩
    ·rw[h']at T;cases T
    ·rw[h3]at T;cases T;exact .inr (.inr ⟨q.2,rfl,H▸hns q U⟩)
 ·show(bif Nat.beq 1 p then AV.pv X1 else bif Nat.beq 2 p then AV.pv X2 else aA p (D4 ns))=.bad∨∃x,(bif Nat.beq 1 p then AV.pv X1 else bif Nat.beq 2 p then AV.pv X2 else aA p (D4 ns))=.pv x;cases Nat.beq 1 p<;>cases Nat.beq 2 p<;>simp;rcases Na ns p with h'|⟨q,U,H,h3⟩
  ·exact .inl h'
  ·exact .inr ⟨_,h3⟩
def sc{a:Act}{d p:Nat}{v:Value}(hd:d<a.tmps.size):(a.put (some d) v).tmps.getD p undef=if d=p then v else a.tmps.getD p undef:=by
 show(a.tmps.setIfInBounds d v).getD p undef=_;rw[getD_eq,getD_eq,Array.getElem?_setIfInBounds];by_cases h:d=p
 ·subst h;simp[hd]
 ·simp[h]
def Jt.put(h:Jt N dV l v1 v2 X1 X2 act hi){q:Nat}{v:Value}(hq:3<=q)(hs:q<N):Jt N dV l v1 v2 X1 X2 (act.put (some q) v) hi:=by
 have aM:q<act.tmps.size:=by rw[h.size];exact hs
 refine⟨(vY ..).trans h.size,h.defs,?_,?_,?_,h.r1,h.r2,h.ok⟩
 ·rw[sc aM,if_neg V];exact h.t0
 ·rw[sc aM,if_neg V];exact h.t1
 ·rw[sc aM,if_neg V];exact h.t2
def Jt.kept{W':World}(h:Jt N dV l v1 v2 X1 X2 act hi)(E:aAk dV hi W'):Jt N dV l v1 v2 X1 X2 act W':=by
 have F:∀b o,dV b->W'.cell? ⟨b,o,none⟩=hi.cell? ⟨b,o,none⟩:=λb o I=>World.cell?_of_block (E.2 b I)
 exact⟨h.size,h.defs,h.t0,h.t1,h.t2,Rd.mono (λ_ h=>h) F _ _ h.r1,Rd.mono (λ_ h=>h) F _ _ h.r2,λb I=>zae (h.ok b I) E.1⟩
def LQ(y v1 v2:Value)(n:Nat):((#[y]++ #[v1,v2])++Array.replicate n undef).getD 0 undef=y/\((#[y]++ #[v1,v2])++Array.replicate n undef).getD 1 undef=v1/\((#[y]++ #[v1,v2])++Array.replicate n undef).getD 2 undef=v2/\((#[y]++ #[v1,v2])++Array.replicate n undef).size=n+3:=by
 refine⟨?_,?_,?_,?_⟩
 ·rw[getD_eq,zce ab];rfl
 ·rw[getD_eq,zce ab];rfl
 ·rw[getD_eq,zce ab];rfl
 ·simp;omega
section
variable {P:Program} {ops:Array Oper} {Q:Exit->Act->World->Prop} {a:Act} {w:World} {n m:Nat}
def Jc{i d:Nat}{rest:QK}{o:Oper}{v:Value}(ho:ops[i]?=some o)(hg:o.guard=none)(hd:o.dst=some d)(b9:(execOp a.eval o).run P w=.ok (.value v) w)(rk:∀c,o.op≠.defer c)
 (h:wpOpsIn Fence.wide m P ops Q rest (a.put (some d) v) w):wpOpsIn Fence.wide m P ops Q (i::rest) a w:=by
 rw[wpOpsIn_cons];unfold wpOpIn;simp only[ho];have hw:Region.wanted o (yielded ops a.tmps)=true:=J2;rw[if_pos hw];refine ahO (.inl rfl) rk ?_;unfold Oper.wp;rw[b9,Oper.upon_value,hd];exact h
def E_(a:Act)(hc:List (Nat×Value)):Prop:=∀t v,hc.lookup t=some v->a.tmps.getD t undef=v
def E_.azV:E_ a []:=λ_ _ h=>bc
def E_.H7{hc:List (Nat×Value)}{d:Nat}{v:Value}(h:a.tmps.getD d undef=v)(hF:E_ a hc):E_ a ((d,v)::hc):=by
 intro t u hu;by_cases e:t=d
 ·subst e;simp[List.lookup]at hu;exact h.trans hu
 ·rw[List.lookup,beq_false_of_ne e]at hu;exact hF t u hu
def E_.arE{hc:List (Nat×Value)}{d:Nat}{v:Value}(hF:E_ a hc)(hd:d<a.tmps.size):E_ (a.put (some d) v) ((d,v)::hc):=by
 intro t u hu;rw[sc hd];by_cases e:t=d
 ·subst e;rw[if_pos rfl];simpa[List.lookup]using hu
 ·rw[if_neg (Ne.symm e)];rw[List.lookup,beq_false_of_ne e]at hu;exact hF t u hu
def Jt.mO{N:Nat}{dV:Nat->Prop}{l:Nat}{v1 v2:Value}{X1 X2:PV}{hc:List (Nat×Value)}(h:Jt N dV l v1 v2 X1 X2 a w)(hF:E_ a hc){i d:Nat}{rest:QK}{o:Oper}{v:Value}{X:_}(ho:ops[i]?=some o)(hg:o.guard=none)(hd:o.dst=some d)(p:o.op=X)
 (b9:(execOp a.eval o).run P w=.ok (.value v) w) (k:∀a',Jt N dV l v1 v2 X1 X2 a' w->E_ a' ((d,v)::hc)->wpOpsIn Fence.wide m P ops Q rest a' w) (h3:3<=d/\d<N:=by decide) (hX:∀c,X≠.defer c:=by intro _ h;cases h):wpOpsIn Fence.wide m P ops Q (i::rest) a w:=
 Jc ho hg hd b9 (λc F=>hX c (p.symm.trans F)) (k _ (h.put h3.1 h3.2) (hF.arE (by rw[h.size];exact h3.2)))
def apF{o:Oper}{t:Nat}(ho:o.op=.move (.tmp t)):(execOp a.eval o).run P w=.ok (.value (a.tmps.getD t undef)) w:=by
 have e:a.tmps.getD t undef=a.eval (.tmp t):=rfl;rw[e];simp[execOp,ho]
def Jt.Lh{N:Nat}{dV:Nat->Prop}{l:Nat}{v1 v2:Value}{X1 X2:PV}{hc:List (Nat×Value)}(h:Jt N dV l v1 v2 X1 X2 a w)(hF:E_ a hc){i d t:Nat}{rest:QK}{o:Oper}{v:Value}(ho:ops[i]?=some o)(hg:o.guard=none)(hd:o.dst=some d)(p:o.op=.move (.tmp t))
 (hv:hc.lookup t=some v) (k:∀a',Jt N dV l v1 v2 X1 X2 a' w->E_ a' ((d,v)::hc)->wpOpsIn Fence.wide m P ops Q rest a' w) (h3:3<=d/\d<N:=by decide):wpOpsIn Fence.wide m P ops Q (i::rest) a w:=
 h.mO hF ho hg hd p ((apF p).trans (by rw[hF _ _ hv])) k h3
def Jt.mvO{N n:Nat}{dV:Nat->Prop}{l:Nat}{v1 v2:Value}{X1 X2:PV}{hc:List (Nat×Value)}(h:Jt N dV l v1 v2 X1 X2 a w)(hF:E_ a hc){i d t:Nat}{rest:QK}{o:Oper}{v:Value}(ho:ops[i]?=some o)(hm:Xe n o=some ⟨some d,none,.mv (.tmp t)⟩)
 (hv:hc.lookup t=some v) (k:∀a',Jt N dV l v1 v2 X1 X2 a' w->E_ a' ((d,v)::hc)->wpOpsIn Fence.wide m P ops Q rest a' w) (h3:3<=d/\d<N:=by decide):wpOpsIn Fence.wide m P ops Q (i::rest) a w:=by
 obtain⟨d',t',hg,hd,_,pQ,e⟩:=afW hm;cases e;refine Jc ho hg hd (v:=v) ?_ (λc F=>by rcases pQ with pQ|pQ<;>rw[pQ]at F<;>cases F) (k _ (h.put h3.1 h3.2) (hF.arE (by rw[h.size];exact h3.2)));have e:a.eval (.tmp t)=v:=hF _ _ hv;rcases pQ with pQ|pQ<;>simp[execOp,pQ,e]
def abF{i d f x l:Nat}{rest:QK}{o:Oper}{cc:Call}(ho:ops[i]?=some o)(hg:o.guard=none)(hd:o.dst=some d)(pQ:o.op=.call cc)(Ee:cc.callee=.value (.tmp f))(aqw:cc.args= #[.tmp x])
 (hf:a.tmps.getD f undef=.func (.yield l) #[] #[]) (hY:YieldAt Fence.wide (m-1) P l #[a.tmps.getD x undef] w λe w'=>∃v,e=.returned v/\wpOpsIn Fence.wide m P ops Q rest (a.put (some d) v) w'):wpOpsIn Fence.wide m P ops Q (i::rest) a w:=by
 obtain⟨fn,tmps,assign,body,J,hR⟩:=hY;have b9:(execOp a.eval o).run P w=.ok (.round l fn tmps assign body) w:=by
  have hf':a.eval (.tmp f)=.func (.yield l) #[] #[]:=hf;rw[<-J];unfold execOp;rw[pQ];simp only[resolve,Ee,aqw,hf',zcI,zau,zcr];rfl
 rw[wpOpsIn_cons];unfold wpOpIn;simp only[ho];have hw:Region.wanted o (yielded ops a.tmps)=true:=J2;rw[if_pos hw];refine⟨λf _=>trivial,?_⟩;rw[Oper.semAt_eq _ _ _ (λc F=>by rw[pQ]at F;cases F),b9,Oper.uponIn_round,hd];refine⟨λh=>bc,hR.mono ?_⟩;rintro e w' ⟨v,rfl,h⟩;exact h
def OS{o:Oper}{t:Nat}{b:Bool}{ty:TypeId}(ho:o.op=.unOp .not ty (.tmp t))(I:a.tmps.getD t undef=.bool b):(execOp a.eval o).run P w=.ok (.value (.bool (!b))) w:=by
 have nN:a.eval (.tmp t)=.bool b:=I;simp[execOp,ho,nN,Op.unary]
def aic{o:Oper}{s t:Nat}{x y:Int}{ty ty':TypeId}(ho:o.op=.binOp .add ty (.tmp s) (.tmp t) ty')(T:a.tmps.getD s undef=.int .i64 x)(hy:a.tmps.getD t undef=.int .i64 y)(J: -9223372036854775808<=x+y/\x+y<=9223372036854775807):
 (execOp a.eval o).run P w=.ok (.value (.int .i64 (x+y))) w:=by
 have hx':a.eval (.tmp s)=.int .i64 x:=T;have hy':a.eval (.tmp t)=.int .i64 y:=hy;obtain⟨r,v,U,H,h3,h4⟩:=ab1 (cx:={ P:=P,w0:=w,Zi:=λ_=>False,hA:=λ_ h=>h.elim }) (Z:=[]) (vals:=[]) (w:=w) P .add ty (pI x) (pI y) (a.eval (.tmp s)) (a.eval (.tmp t)) (λr=>r=pI (x+y)) (by rw[hx'];simp[Rd]) (by rw[hy'];simp[Rd]) (by
  show ∀r:Int,r=IntKind.i64.wrap (x+y)->PV.int .i64 r=pI (x+y);intro r eI;rw[eI,wrap64 J])
 subst h3;simp only[Rd]at H;subst H;simp[execOp,ho,U,h4]
def amP{o:Oper}{s t:Nat}{b off:Nat}{v:Value}(ho:o.op=.load t (.tmp s))(T:a.tmps.getD s undef=.pointer (some ⟨b,off,none⟩))(hna:∀w,(isAgg t).run P w=.ok false w)(F:w.cell? ⟨b,off,none⟩=some v):
 (execOp a.eval o).run P w=.ok (.value v) w:=by
 have hx':a.eval (.tmp s)=.pointer (some ⟨b,off,none⟩):=T;simp[execOp,ho,hx',Instr.loadAt,Instr.sureAddr,loadVar,hna,F,Go.run_load]
def ae1{o:Oper}{s lo W mx:Nat}{t e:TypeId}{ad:Option Addr}{n c l h:Nat}(ho:o.op=.slice t (.tmp s) (some (.tmp lo)) (some (.tmp W)) (some (.tmp mx)))(he:P.underlying t=some (.slice e))(hz:∀w,(sizeOf e).run P w=.ok 1 w)
 (T:a.tmps.getD s undef=.slice ad n c) (hl:a.tmps.getD lo undef=.int .i64 (l:Nat)) (hh:a.tmps.getD W undef=.int .i64 (h:Nat)) (hm:a.tmps.getD mx undef=.int .i64 (h:Nat)) (U:l<=h) (H:h<=c):
 (execOp a.eval o).run P w=.ok (.value (.slice (if h=l then ad else ad.map (·.add (l*1))) (h-l) (h-l))) w:=by
 have hx':a.eval (.tmp s)=.slice ad n c:=T;have T5:a.eval (.tmp lo)=.int .i64 (l:Nat):=hl;have hh':a.eval (.tmp W)=.int .i64 (h:Nat):=hh;have hm':a.eval (.tmp mx)=.int .i64 (h:Nat):=hm;have b1:(Instr.sliceBound (.int .i64 (h:Nat)) c .slice3Acap).run P w=.ok h w:=by
  simp[Instr.sliceBound,asIntOf,H]
 have b2:(Instr.sliceBound (.int .i64 (h:Nat)) h .slice3B).run P w=.ok h w:=by
  simp[Instr.sliceBound,asIntOf]
 have b3:(Instr.sliceBound (.int .i64 (l:Nat)) h .slice3C).run P w=.ok l w:=by
  simp[Instr.sliceBound,asIntOf,U]
 have b:(Instr.sliceBounds true n c (some (.int .i64 (l:Nat))) (some (.int .i64 (h:Nat))) (some (.int .i64 (h:Nat)))).run P w=.ok (l,h,h) w:=by
  simp[Instr.sliceBounds,b1,b2,b3]
 simp[execOp,ho,hx',T5,hh',hm',Instr.sliceAt,Instr.slice,run_underlying he,b,hz]
end
end
end Go.Dv.Try
namespace Go.Dv.Try
open Go Go.Dv Go.RowKit
abbrev It(dV:Nat->Prop)(l:Nat)(v1 v2:Value)(d:P8)(a:Int)(act:Act)(hi:World):Prop:=Jt 47 dV l v1 v2 (.cptr (.str d)) (.cptr (pI a)) act hi
def It.bool{cx:Cx}{env:Env}{Z:ax}{vals:XS}{act:Act}{hi:World}(J:Rel cx env Z vals act hi){p:Nat}{b:Bool}(h:aA p env=.pv (pB b)):act.tmps.getD p undef=.bool b:=by
 have:=J.env p;rw[h]at this;simpa only[RA,Rd]using this
end Go.Dv.Try
namespace Go.Dv.Try
open Go Go.Dv Go.RowKit Go.Shelf
section
section
variable {P:Program} {ops:Array Oper} {Q:Exit->Act->World->Prop} {a:Act} {w:World} {n m:Nat}
def afN{i d f x y l:Nat}{rest:QK}{o:Oper}{cc:Call}(ho:ops[i]?=some o)(hg:o.guard=none)(hd:o.dst=some d)(pQ:o.op=.call cc)(Ee:cc.callee=.value (.tmp f))(aqw:cc.args= #[.tmp x,.tmp y])
 (hf:a.tmps.getD f undef=.func (.yield l) #[] #[]) (hY:YieldAt Fence.wide (m-1) P l #[a.tmps.getD x undef,a.tmps.getD y undef] w λe w'=>∃v,e=.returned v/\wpOpsIn Fence.wide m P ops Q rest (a.put (some d) v) w'):wpOpsIn Fence.wide m P ops Q (i::rest) a w:=by
 obtain⟨fn,tmps,assign,body,J,hR⟩:=hY;have b9:(execOp a.eval o).run P w=.ok (.round l fn tmps assign body) w:=by
  have hf':a.eval (.tmp f)=.func (.yield l) #[] #[]:=hf;rw[<-J];unfold execOp;rw[pQ];simp only[resolve,Ee,aqw,hf',zcI,zau,zcr];rfl
 rw[wpOpsIn_cons];unfold wpOpIn;simp only[ho];have hw:Region.wanted o (yielded ops a.tmps)=true:=J2;rw[if_pos hw];refine⟨λf _=>trivial,?_⟩;rw[Oper.semAt_eq _ _ _ (λc F=>au),b9];refine⟨λh=>bc,hR.mono ?_⟩
 grind
end
def jL(l:List (Nat×Nat)):List (CK):=l.map λp=>[pI (p.1:Nat),pI (p.2:Nat)]
def amF(ep:CK)(L:List (CK)):Prop:=
 ∃(d:P8) (a:Int),ep=[.cptr (.str d),.cptr (pI a)]/\(d.length<=4096/\0<=a/\a<=(d.length:Int))/\L=jL (jC d a.toNat)
structure Rnd(dV:Nat->Prop)(l:Nat)(v1 v2:Value)(d:P8)(a:Int){α:Type}(val:α->CK)(L:List (CK))(hr:List α->World->Prop)(k m:Nat)(act:Act)(hi:World):Prop where
 it:It dV l v1 v2 d a act hi
 rest:∃(km:Nat) (pre:List α),act.tmps.getD 4 undef=.int .i64 km/\km<=dD d a.toNat/\hr pre hi/\pre.map val++jL (fy d a.toNat m k km)=L
 t5:act.tmps.getD 5 undef=.int .i64 (dD d a.toNat:Nat)
def aj2(d:P8)(a k:Nat):∀(m n b:Nat),n<=b->b<n+m->d[a+b]?≠d[a+b-k]?->j0 d a k n m<=b:=by
 intro m
 induction m with
 |zero=>omega
 |succ m ih=>
  unfold j0
  grind
def acI(d:P8)(a k b:Nat)(h:b<dD d a)(h3:d[a+b]?≠d[a+b-k]?):dC d a k<=b:=aj2 d a k _ 0 b (zcl _) V h3
def afd(hΓ:Sound Go.Proofs.Tryz.prog (ao [(317,ah iQ),(318,ah kN)])):Yo Go.Proofs.Tryz.prog 316 amF:=by
 intro m w dV ep vs L b_ lf hit;obtain⟨d,a,rfl,⟨U,H,h3⟩,rfl⟩:=hit;have hf:Go.Proofs.Tryz.prog.funcs[316]?=some Go.Proofs.Tryz.f316:=ae;obtain⟨A1,A2,B,C1,R5,R6,R7,R3,id,o0,o1,o2,o3,o4,BG,cA1,cA2,cB,cC1,cR5,cR6,cR7,cR3,m0,m1,m2,⟨g3,d3,cc,op3,aFc,aFd⟩,⟨g4,d4,tt,op4⟩⟩:=aox;refine⟨⟨{ x:CK//x∈jL (jC d a.toNat) },(λx=>x.1),λx=>(x.1.map awF).toArray,λx=>⟨x.2,?_⟩,?_⟩,Go.Proofs.enters_of hf ae BG⟩
 ·obtain⟨x,T⟩:=x;unfold jL at T;obtain⟨p,_,rfl⟩:=zaX.1 T;simp only[zau,zcr,cz];exact⟨_,_,rfl,by simp only[Rd,awF,asB],_,_,rfl,by simp only[Rd,awF,asB],rfl⟩
 intro l hr Jx hi I hJ hJx hY h0;obtain⟨v1,v2,rfl,r1,r2⟩:∃v1 v2,vs= #[v1,v2]/\Rd dV w (.cptr (.str d)) v1/\Rd dV w (.cptr (pI a)) v2:=by
  simp only[cz]at lf;obtain⟨v1,t,e1,r1,v2,t2,rfl,r2,rfl⟩:=lf;exact⟨v1,v2,TZ,r1,r2⟩
 have hcW:∀b o,dV b->hi.cell? ⟨b,o,none⟩=w.cell? ⟨b,o,none⟩:=λb o nN=>World.cell?_of_block (I.block b (b_ b nN))
 refine callsIn_of_wp hf BG trivial ?_;have it0:It dV l v1 v2 d a { tmps:=(#[Value.func (.yield l) #[] #[]]++ #[v1,v2])++Array.replicate (Go.Proofs.Tryz.f316.ntmps-(#[Value.func (.yield l) #[] #[]]++ #[v1,v2]).size) undef,defers:=[] } hi:=by
  have hn:Go.Proofs.Tryz.f316.ntmps-(#[Value.func (.yield l) #[] #[]]++ #[v1,v2]).size=44:=by
   rw[show Go.Proofs.Tryz.f316.ntmps=47 by kernel_rfl];rfl
  rw[hn];obtain⟨a0,a1,a2,a3⟩:=LQ (Value.func (.yield l) #[] #[]) v1 v2 44;exact⟨a3,rfl,a0,a1,a2,Rd.mono (λ_ h=>h) hcW _ _ r1,Rd.mono (λ_ h=>h) hcW _ _ r2,λb nN=>zae (b_ b nN) I.size⟩
 generalize aHc:({ tmps:=(#[Value.func (.yield l) #[] #[]]++ #[v1,v2])++Array.replicate (Go.Proofs.Tryz.f316.ntmps-(#[Value.func (.yield l) #[] #[]]++ #[v1,v2]).size) undef,defers:=[] }:Act)=aBg at it0;refine wpIn_seq (it0.piece (ps:=ab7) hΓ cA1 rfl rfl (it0.Ob [] ab) (q:=λe f=>e=.normal/\f 4=.pv (pI 0)/\f 5=.pv (pI (dD d a.toNat:Nat))) ⟨_,⟨d,a,rfl,⟨U,H,h3⟩,rfl⟩,rfl,rfl,rfl⟩ m _ ?_);intro e aBh W1 VI σ1 fY it1 hg1 wL hq1;cases e with
 |normal=>
  obtain⟨_,h14,h15⟩:=hq1;have t14:=Jt.num wL h14;have t15:=Jt.num wL h15;have j1:hr [] W1:=hJ [] hi W1 none h0 hg1 (λr e=>bh);refine wpIn_seq (it1.piece (ps:=ab7) hΓ cA2 rfl rfl (it1.Ob [(4,0),(5,(dD d a.toNat:Nat))] (by intro q hq;simp only[zax,zb6,or_false]at hq;rcases hq with rfl|rfl;exact t14;exact t15)) (q:=λe f=>e=.normal/\f 4=.pv (pI 0)/\f 5=.pv (pI (dD d a.toNat:Nat))/\f 6=.pv (pI 1)) ⟨rfl,rfl,rfl,rfl⟩ m _ ?_);intro e aFe W2 D_ σ2 eH it2 T9 tT hq2;cases e with
  |normal=>
   obtain⟨_,h24,h25,h26⟩:=hq2;have t24:=Jt.num tT h24;have t25:=Jt.num tT h25;have t26:=Jt.num tT h26;have j2:hr [] W2:=hJ [] W1 W2 none j1 T9 (λr e=>bh);clear wL tT h14 h15 h24 h25 h26 hg1 T9 j1 t14 t15 it1;refine wpIn_block ?_;have Eb:=Pq d ⟨H,h3⟩;refine wpIn_loop (λact hi=>∃k m,Rnd dV l v1 v2 d a (λx:{ x:CK//x∈jL (jC d a.toNat) }=>x.1) (jL (jC d a.toNat)) hr k m act hi/\act.tmps.getD 6 undef=.int .i64 (k:Nat)/\1<=k/\(k:Int)+m=a+1) (λact _=>(a+1-intOf (act.tmps.getD 6 undef)).toNat)
    ⟨1,a.toNat,⟨it2,⟨0,[],t24,zcl _,j2,rfl⟩,t25⟩,t26,zai _,V⟩ ?_
   clear t24 t25 t26 j2 it2;rintro act hi ⟨k,mm,⟨it,⟨km,pre,t4,aiL,hj,hL⟩,t5⟩,t6,KH,E⟩;have aBj:∀q∈[((4:Nat),(km:Int)),(5,(dD d a.toNat:Nat)),(6,(k:Int))],act.tmps.getD q.1 undef=.int .i64 q.2:=by
    intro q hq;simp only[zax,zb6,or_false]at hq;rcases hq with rfl|rfl|rfl;exact t4;exact t5;exact t6
   refine wpIn_seq (it.piece (ps:=ab7) hΓ cB rfl rfl (it.Ob _ aBj) (q:=λe f=>f 4=.pv (pI km)/\f 5=.pv (pI (dD d a.toNat:Nat))/\f 6=.pv (pI k)/\((e=.normal/\(k:Int)<=a/\km<dD d a.toNat)\/(e=.exit 0∧¬((k:Int)<=a/\km<dD d a.toNat)))) ?vcB m _ ?_)
   case vcB=>
    refine λb I=>?_
    rcases cmp I with⟨rfl,h⟩|⟨rfl,h⟩
    ·refine λb I=>?_
     rcases cmp I with⟨rfl,h'⟩|⟨rfl,h'⟩
     ·exact⟨rfl,rfl,rfl,.inl ⟨rfl,h,V⟩⟩
     ·exact⟨rfl,rfl,rfl,.inr ⟨rfl,V⟩⟩
    ·exact⟨rfl,rfl,rfl,.inr ⟨rfl,V⟩⟩
   intro e at2 W3 Uf σ3 pO it3 hg3 hr3 hq3;have j3:hr pre W3:=hJ pre hi W3 none hj hg3 (λr e=>bh);cases e with
   |normal=>
    obtain⟨h34,h35,h36,F⟩:=hq3;have t34:=Jt.num hr3 h34;have t35:=Jt.num hr3 h35;have t36:=Jt.num hr3 h36;obtain⟨hka,hbr⟩:(k:Int)<=a/\km<dD d a.toNat:=ab8;clear hr3 h34 h35 h36 F;clear hg3 it;cases mm with
    |zero=>omega
    |succ mm=>
    have hM:∀(KL:Act) (W5:World) (Uh:Nat) (Ui:List { x:CK//x∈jL (jC d a.toNat) }),It dV l v1 v2 d a KL W5->KL.tmps.getD 4 undef=.int .i64 Uh->KL.tmps.getD 5 undef=.int .i64 (dD d a.toNat:Nat)->KL.tmps.getD 6 undef=.int .i64 (k:Nat)->
     Uh<=dD d a.toNat->hr Ui W5->Ui.map (·.1)++jL (fy d a.toNat mm (k+1) Uh)=jL (jC d a.toNat)->
     R3.wpIn Fence.wide m Go.Proofs.Tryz.prog (Exit.then (λwm W'=>(∃k m,Rnd dV l v1 v2 d a (λx:{ x:CK//x∈jL (jC d a.toNat) }=>x.1) (jL (jC d a.toNat)) hr k m wm W'/\wm.tmps.getD 6 undef=.int .i64 (k:Nat)/\1<=k/\(k:Int)+m=a+1)/\(a+1-intOf (wm.tmps.getD 6 undef)).toNat<(a+1-intOf (act.tmps.getD 6 undef)).toNat)
      (Exit.inBlock 0 (bodyPost Go.Proofs.Tryz.prog Go.Proofs.Tryz.f316 λe W'=>(∃v,e=.returned v)/\((∃xs,(λxs=>xs.map (λx:{ x:CK//x∈jL (jC d a.toNat) }=>x.1)=jL (jC d a.toNat)) xs/\hr xs W')\/(∃pre,(λpre=>pre.map (λx:{ x:CK//x∈jL (jC d a.toNat) }=>x.1)<+:jL (jC d a.toNat)) pre/\Jx pre W'))))) KL W5:=by
     intro KL W5 Uh Ui it5 t54 t55 t56 hb5 j5 hL5;refine it5.piece (ps:=ab7) hΓ cR3 rfl rfl (it5.Ob [((4:Nat),(Uh:Int)),(5,(dD d a.toNat:Nat)),(6,(k:Int))] ?_) (q:=λe f=>e=.normal/\f 4=.pv (pI Uh)/\f 5=.pv (pI (dD d a.toNat:Nat))/\f 6=.pv (pI (k+1))) ?_ m _ ?_
     ·intro q hq;simp only[zax,zb6,or_false]at hq;rcases hq with rfl|rfl|rfl;exact t54;exact t55;exact t56
     ·refine λx T=>?_
      replace T:=jb T V;subst T;exact⟨rfl,rfl,rfl,rfl⟩
     ·intro e aqE W6 aBk σ6 avo it6 hg6 hr6 hq6;cases e with
      |normal=>
       obtain⟨_,Uj,h65,h66⟩:=hq6;have t64:=Jt.num hr6 Uj;have t65:=Jt.num hr6 h65;have t66:=Jt.num hr6 h66;refine⟨⟨k+1,mm,⟨it6,⟨Uh,Ui,t64,hb5,hJ Ui W5 W6 none j5 hg6 (λr e=>bh),hL5⟩,t65⟩,t66,V,V⟩,?_⟩;rw[t66,t6];show(a+1-((k:Int)+1)).toNat<(a+1-(k:Int)).toNat;omega
      |exit i=>exact zw
      |ret=>exact zw
      |_=>exact hq6.elim
    refine wpIn_seq (wpIn_block ?_);have Eb:=Pq d ⟨H,h3⟩;have axX:∀q∈[((4:Nat),(km:Int)),(5,(dD d a.toNat:Nat)),(6,(k:Int))],at2.tmps.getD q.1 undef=.int .i64 q.2:=by
     intro q hq;simp only[zax,zb6,or_false]at hq;rcases hq with rfl|rfl|rfl;exact t34;exact t35;exact t36
    refine wpIn_seq (it3.piece (ps:=ab7) hΓ cC1 rfl rfl (it3.Ob _ axX) (q:=λe f=>f 4=.pv (pI km)/\f 5=.pv (pI (dD d a.toNat:Nat))/\f 6=.pv (pI k)/\((e=.normal/\d[a.toNat+km]?=d[a.toNat+km-k]?)\/(e=.exit 1/\d[a.toNat+km]?≠d[a.toNat+km-k]?))) ?vcC m _ ?_)
    case vcC=>
     refine⟨ae,?_⟩;refine λx T=>?_
     replace T:=jb T V;subst T;refine⟨_,⟨V,zah V⟩,?_⟩;refine λx T=>?_
     replace T:=jb T V;subst T;refine λx T=>?_
     replace T:=jb T V;subst T;refine⟨_,⟨V,zah V⟩,?_⟩;refine λb I=>?_
     have e1:(a+km).toNat=a.toNat+km:=V;have e2:(a+km-k).toNat=a.toNat+km-k:=V;rw[ne_eq,get_eq,e1,e2]at I;rcases cmp I with⟨rfl,h'⟩|⟨rfl,h'⟩
     ·exact⟨rfl,rfl,rfl,.inr ⟨rfl,h'⟩⟩
     ·exact⟨rfl,rfl,rfl,.inl ⟨rfl,zb3 h'⟩⟩
    intro e axY W4 aEU σ4 ave it4 hg4 hr4 hq4;have j4:hr pre W4:=hJ pre W3 W4 none j3 hg4 (λr e=>bh);cases e with
    |normal=>
     obtain⟨h44,h45,h46,F⟩:=hq4;have t44:=Jt.num hr4 h44;have t45:=Jt.num hr4 h45;have t46:=Jt.num hr4 h46;clear hr4 h44 h45 h46 F hg4 it3;have hkt:(a+km-k).toNat=a.toNat+km-k:=V;have axZ:∀q∈[((4:Nat),(km:Int)),(5,(dD d a.toNat:Nat)),(6,(k:Int))],axY.tmps.getD q.1 undef=.int .i64 q.2:=by
      intro q hq;simp only[zax,zb6,or_false]at hq;rcases hq with rfl|rfl|rfl;exact t44;exact t45;exact t46
     refine wpIn_seq (it4.piece (ps:=ab7) hΓ cR5 rfl rfl (it4.Ob _ axZ) (q:=λe f=>e=.normal/\f 4=.pv (pI km)/\f 5=.pv (pI (dD d a.toNat:Nat))/\f 6=.pv (pI k)/\f 7=.pv (pI (dC d a.toNat k:Nat))) ⟨_,⟨d,a,k,rfl,⟨U,H,h3,V,hka⟩,rfl⟩,rfl,rfl,rfl,rfl,rfl⟩ m _ ?_);intro e KL W5 aKg σ5 aHh it5 hg5 hr5 hq5;have j5:hr pre W5:=hJ pre W4 W5 none j4 hg5 (λr e=>bh);cases e with
     |normal=>
      obtain⟨_,h54,h55,h56,h57⟩:=hq5;have t54:=Jt.num hr5 h54;have t55:=Jt.num hr5 h55;have t56:=Jt.num hr5 h56;have t57:=Jt.num hr5 h57;clear hr5 h54 h55 h56 h57 hg5 it4;have ax0:∀q∈[((4:Nat),(km:Int)),(5,(dD d a.toNat:Nat)),(6,(k:Int)),(7,(dC d a.toNat k:Nat))],KL.tmps.getD q.1 undef=.int .i64 q.2:=by
       intro q hq;simp only[zax,zb6,or_false]at hq;rcases hq with rfl|rfl|rfl|rfl;exact t54;exact t55;exact t56;exact t57
      refine wpIn_seq (it5.piece (ps:=ab7) hΓ cR6 rfl rfl (it5.Ob _ ax0) (q:=λe f=>e=.normal/\f 4=.pv (pI km)/\f 5=.pv (pI (dD d a.toNat:Nat))/\f 6=.pv (pI k)/\f 7=.pv (pI (dC d a.toNat k:Nat))∧∃b:Bool,f 40=.pv (pB b)/\(b=true↔km<dC d a.toNat k)) ?vcR6 m _ ?_)
      case vcR6=>
       refine λb I=>?_
       exact⟨rfl,rfl,rfl,rfl,rfl,b,rfl,I.trans V⟩
      intro e aqE W6 aBk σ6 avo it6 hg6 hr6 hq6;have j6:hr pre W6:=hJ pre W5 W6 none j5 hg6 (λr e=>bh);cases e with
      |normal=>
       obtain⟨_,Uj,h65,h66,h67,b,h6b,I⟩:=hq6;have t64:=Jt.num hr6 Uj;have t65:=Jt.num hr6 h65;have t66:=Jt.num hr6 h66;have t67:=Jt.num hr6 h67;have t6b:=It.bool hr6 h6b;clear hr6 Uj h65 h66 h67 h6b hg6 it5;have hun:fy d a.toNat (mm+1) k km=if km<dC d a.toNat k then(k,dC d a.toNat k)::fy d a.toNat mm (k+1) (dC d a.toNat k)else fy d a.toNat mm (k+1) km:=by
        rw[fy,if_pos hbr]
       rw[hun]at hL;refine wpIn_cond (t:=b) t6b ?_;cases b with
       |false=>
        have hnb:¬km<dC d a.toNat k:=λh=>by have:=I.2 h;cases this
        rw[if_neg hnb]at hL;exact wpIn_skip (hM aqE W6 km pre it6 t64 t65 t66 aiL j6 hL)
       |true=>
        have hnb:km<dC d a.toNat k:=I.1 rfl;rw[if_pos hnb]at hL;have ax1:∀q∈[((4:Nat),(km:Int)),(5,(dD d a.toNat:Nat)),(6,(k:Int)),(7,(dC d a.toNat k:Nat))],aqE.tmps.getD q.1 undef=.int .i64 q.2:=by
         intro q hq;simp only[zax,zb6,or_false]at hq;rcases hq with rfl|rfl|rfl|rfl;exact t64;exact t65;exact t66;exact t67
        rw[if_pos rfl];refine wpIn_seq (it6.piece (ps:=ab7) hΓ cR7 rfl rfl (it6.Ob _ ax1) (q:=λe f=>e=.normal/\f 4=.pv (pI (dC d a.toNat k:Nat))/\f 5=.pv (pI (dD d a.toNat:Nat))/\f 6=.pv (pI k)/\f 7=.pv (pI (dC d a.toNat k:Nat))) ⟨rfl,rfl,rfl,rfl,rfl⟩ m _ ?_);intro e aBl W7 aKi σ7 aHp it7 hg7 hr7 hq7;have j7:hr pre W7:=hJ pre W6 W7 none j6 hg7 (λr e=>bh);cases e with
        |normal=>
         obtain⟨_,h74,h75,h76,h77⟩:=hq7;have t74:=Jt.num hr7 h74;have t75:=Jt.num hr7 h75;have t76:=Jt.num hr7 h76;have t77:=Jt.num hr7 h77;clear hr7 h74 h75 h76 h77 hg7 it6;have FI:[pI (k:Nat),pI (dC d a.toNat k:Nat)]∈jL (jC d a.toNat):=by
          rw[<-hL];simp[jL]
         have hlen:(jL (jC d a.toNat))[pre.length]?=some [pI (k:Nat),pI (dC d a.toNat k:Nat)]:=by
          refine(congrArg (·[pre.length]?) hL.symm).trans ?_;show(_++_)[pre.length]?=_;rw[zak (by rw[zaw];exact zai _),zaw,zcc];rfl
         refine wpIn_seq (wpIn_region ?_);show wpOpsIn Fence.wide m _ _ _ [0,1,2,3,4] aBl W7;have hF:=E_.H7 it7.t0 (.H7 t74 (.H7 t75 (.H7 t76 (.H7 t77 .azV))));refine it7.mvO hF rfl m0 rfl λb1 i1 hF=>?_
         refine i1.mvO hF rfl m1 rfl λb2 i2 hF=>?_
         refine i2.mvO hF rfl m2 rfl λb3 i3 hF=>?_
         refine afN rfl g3 d3 op3 aFc aFd (l:=l) (hF 42 _ rfl) ?_;rw[hF 43 _ rfl,hF 44 _ rfl];obtain⟨fn,tm,asg,bd,hy,hR⟩:=hY pre ⟨_,FI⟩ W7 j7 hlen;refine⟨fn,tm,asg,bd,hy,hR.mono ?_⟩;rintro e W8 (⟨rfl,j8,k8⟩|⟨rfl,jx8⟩)
         ·refine⟨_,rfl,?_⟩;have i8:=i3.kept k8;have hF:=hF.arE (d:=45) (v:=.bool true) (by rw[i3.size];omega);refine(i8.put (q:=45) (v:=.bool true) V V).mO hF rfl g4 d4 op4 (OS op4 (hF 45 _ rfl)) λb5 i5 hF=>?_
          refine wpIn_cond_false (hF 46 _ rfl) (wpIn_skip ?_);refine hM b5 W8 (dC d a.toNat k) (pre++[⟨_,FI⟩]) i5 (hF 4 _ rfl) (hF 5 _ rfl) (hF 6 _ rfl) (L1 d a.toNat k) j8 ?_;refine Eq.trans ?_ hL;rw[zaY,zaj];rfl
         ·refine⟨_,rfl,?_⟩;have nP:b3.tmps.size=47:=i3.size;have e45:(b3.put (some 45) (.bool false)).tmps.getD 45 undef=.bool false:=by
           rw[sc (by rw[nP];omega),if_pos rfl]
          have s45:(b3.put (some 45) (.bool false)).tmps.size=47:=(vY ..).trans nP;have d45:(b3.put (some 45) (.bool false)).defers=[]:=i3.defs;generalize b3.put (some 45) (.bool false)=b4 at e45 s45 d45;refine Jc rfl g4 d4 (OS op4 e45) (λc F=>by have:=op4.symm.trans F;cases this) ?_;have e46:(b4.put (some 46) (.bool (!false))).tmps.getD 46 undef=.bool true:=by
           rw[sc (by rw[s45];omega),if_pos rfl];rfl
          have d46:(b4.put (some 46) (.bool (!false))).defers=[]:=d45;generalize b4.put (some 46) (.bool (!false))=b5 at e46 d46;refine wpIn_cond_true e46 (wpIn_ret ?_);refine⟨d46,.tuple #[],results_none rfl _ _ _,⟨_,rfl⟩,.inr ⟨pre++[⟨_,FI⟩],?_,jx8⟩⟩;refine⟨jL (fy d a.toNat mm (k+1) (dC d a.toNat k)),?_⟩;show List.map (·.1) (pre++[_])++_=_;refine Eq.trans ?_ hL;rw[zaY,zaj];rfl
        |exit i=>exact(by obtain⟨h,_⟩:=hq7;cases h)
        |ret=>exact(by obtain⟨h,_⟩:=hq7;cases h)
        |_=>exact hq7.elim
      |exit i=>exact zw
      |ret=>exact zw
      |_=>exact hq6.elim
     |exit i=>exact(by obtain⟨h,_⟩:=hq5;cases h)
     |ret=>exact(by obtain⟨h,_⟩:=hq5;cases h)
     |_=>exact hq5.elim
    |exit i=>
     obtain⟨h44,h45,h46,F⟩:=hq4;obtain⟨rfl,KK⟩:i=1/\d[a.toNat+km]?≠d[a.toNat+km-k]?:=by
      rcases F with⟨h,_⟩|⟨h,h'⟩
      ·cases h
      ·injection h with h;exact⟨h,h'⟩
     refine hM axY W4 km pre it4 (Jt.num hr4 h44) (Jt.num hr4 h45) (Jt.num hr4 h46) aiL j4 ?_;unfold fy at hL;rw[if_pos hbr,if_neg (by have:=acI d a.toNat k km hbr KK;omega)]at hL;exact hL
    |ret=>exact(by obtain⟨_,_,_,F⟩:=hq4;rcases F with⟨h,_⟩|⟨h,_⟩<;>cases h)
    |_=>exact hq4.elim
   |exit i=>
    obtain⟨h34,h35,h36,F⟩:=hq3;obtain⟨rfl,F⟩:i=0∧¬((k:Int)<=a/\km<dD d a.toNat):=by
     rcases F with⟨h,_⟩|⟨h,h'⟩
     ·cases h
     ·injection h with h;exact⟨h,h'⟩
    refine⟨it3.defs,.tuple #[],results_none rfl _ _ _,⟨_,rfl⟩,.inl ⟨pre,?_,j3⟩⟩;have:fy d a.toNat mm k km=[]:=by
     cases mm with
     |zero=>rfl
     |succ mm=>unfold fy;rw[if_neg V]
    rw[this]at hL;simpa[jL]using hL
   |ret=>exact(by obtain⟨_,_,_,F⟩:=hq3;rcases F with⟨h,_⟩|⟨h,_⟩<;>cases h)
   |_=>exact hq3.elim
  |exit i=>exact(by obtain⟨h,_⟩:=hq2;cases h)
  |ret=>exact(by obtain⟨h,_⟩:=hq2;cases h)
  |_=>exact hq2.elim
 |exit i=>exact II
 |ret=>exact II
 |_=>exact hq1.elim
end
end Go.Dv.Try
namespace Go.Dv.Try
open Go Go.Dv
def sG(t:OG):Nat->Nat->Int->Int
 |0,_,o=>o
 |m+1,n,o=>sG t m (n+1) (min o (17+t.getD (n-1) 0))
def I_(d:P8)(a:Nat)(t:OG):Int:=sG t ((pz d a).2-2) 3 (9+t.getD 0 0)
def gX(d:P8):Nat->OG
 |0=>[0]
 |m+1=>I_ d (d.length-(m+1)) (gX d m)::gX d m
def aP(d:P8):OG:=gX d d.length
def GA(d:P8):∀m,(gX d m).length=m+1
 |0=>rfl
 |m+1=>by simp[gX,GA d m]
def ajk(t:OG):∀(m n:Nat) (o:Int),sG t m n o<=o:=by
 intro m
 induction m with
 |zero=>intro n o;exact Int.le_refl _
 |succ m ih=>intro n o;have:=ih (n+1) (min o (17+t.getD (n-1) 0));unfold sG;omega
def akD(t:OG)(b:Int):∀(m n:Nat) (o:Int),b<=o->(∀k,n<=k->k<n+m->b<=17+t.getD (k-1) 0)->b<=sG t m n o:=by
 intro m
 induction m with
 |zero=>intro n o h _;exact h
 |succ m ih=>
  unfold sG
  grind
def aj_(t:OG):∀(m n:Nat) (o:Int),sG t m n o=o∨∃k,n<=k/\k<n+m/\sG t m n o=17+t.getD (k-1) 0:=by
 intro m
 induction m with
 |zero=>intro n o;exact .inl rfl
 |succ m ih=>
  unfold sG
  grind
def ML{t:OG}(h:∀x∈t,0<=x)(i:Nat):0<=t.getD i 0:=by
 rw[zbu];cases T:t[i]? with
 |none=>simp
 |some x=>exact h x (zag T)
def XR(d:P8)(a:Nat)(t:OG)(h:∀x∈t,0<=x):0<=I_ d a t/\I_ d a t<=9+t.getD 0 0:=by
 refine⟨akD _ _ _ _ _ (by have:=ML h 0;omega) (λk _ _=>by have:=ML h (k-1);omega),ajk _ _ _ _⟩
def FQ(d:P8):∀m,∀x∈gX d m,0<=x/\x<=9*m:=by
 intro m
 induction m with
 |zero=>intro x T;simp[gX]at T;omega
 |succ m ih=>
  intro x T;simp only[gX,zax]at T;rcases T with rfl|T
  ·have U:=XR d (d.length-(m+1)) (gX d m) (λx T=>(ih x T).1);have H:(gX d m).getD 0 0<=9*m:=by
    cases F:gX d m with
    |nil=>grind
    |cons y ys=>simp_all
   omega
  grind
def M7(d:P8):∀m k,k<=m->(gX d m).drop k=gX d (m-k):=by
 intro m
 induction m with
 |zero=>simp
 |succ m ih=>
  intro k h;cases k with
  |zero=>rfl
  |succ k=>simp only[gX,List.drop_succ_cons];grind
def ajy(d:P8)(a:Nat)(h:a<d.length):(aP d)[a]?=some (I_ d a ((aP d).drop (a+1))):=by
 unfold aP;have U:=M7 d d.length a V;have H:=M7 d d.length (a+1) V;have h3:(gX d d.length)[a]?=((gX d d.length).drop a)[0]?:=ab;rw[h3,U];obtain⟨m,hm⟩:∃m,d.length-a=m+1:=⟨d.length-a-1,V⟩
 rw[hm];simp only[gX,List.getElem?_cons_zero]
 grind
def dE(c:OG)(a:Nat):Nat->Nat->Nat
 |0,n=>n
 |m+1,n=>if 17+c.getD (a+n) 0≠c.getD a 0 then dE c a m (n+1)else n
def xj(d:P8)(a n:Nat):Nat->Nat->Nat
 |0,k=>k
 |m+1,k=>if dC d a k<n then xj d a n m (k+1)else k
def I1(c:OG)(a:Nat):∀(m n k:Nat),n<=k->k<n+m->17+c.getD (a+k) 0=c.getD a 0->n<=dE c a m n/\dE c a m n<=k/\17+c.getD (a+dE c a m n) 0=c.getD a 0:=by
 intro m
 induction m with
 |zero=>intro n k U H;omega
 |succ m ih=>
  intro n k U H h3;unfold dE;split
  ·rename_i h;by_cases he:n=k
   ·subst he;exact absurd h3 h
   ·have:=ih (n+1) k V V h3;omega
  ·rename_i h;have:17+c.getD (a+n) 0=c.getD a 0:=zb3 h;exact⟨zai _,U,this⟩
def afp(c:OG)(a n:Nat)(h:1<=n):(c.drop (a+1)).getD (n-1) 0=c.getD (a+n) 0:=by
 grind
def Wl(d:P8)(a:Nat)(h:a<d.length)(ca:9+(aP d).getD (a+1) 0≠(aP d).getD a 0):∃k,3<=k/\k<=(pz d a).2/\17+(aP d).getD (a+k) 0=(aP d).getD a 0:=by
 have U:=ajy d a h;have H:(aP d).getD a 0=I_ d a ((aP d).drop (a+1)):=au;unfold I_ at H;rcases aj_ ((aP d).drop (a+1)) ((pz d a).2-2) 3 (9+((aP d).drop (a+1)).getD 0 0)with h4|⟨k,h4,h5,h6⟩
 ·grind
 ·refine⟨k,h4,V,?_⟩
  grind
def ajf(d:P8)(a n:Nat):∀(m k ld:Nat),(∃p∈fy d a m k ld,n<=p.2)->((fy d a m k ld).find? λp=>decide (n<=p.2)).elim 0 (·.1)=xj d a n m k\/n<=ld:=by
 intro m
 induction m with
 |zero=>intro k ld ⟨p,hp,_⟩;trivial
 |succ m ih=>
  intro k ld hp;by_cases hn:n<=ld
  ·omega
  unfold fy at hp ⊢;unfold xj
  grind
def CM(d:P8)(a n:Nat):Nat:=((jC d a).find? λp=>decide (n<=p.2)).elim 0 (·.1)
def aa7(d:P8)(a:Nat)(h:0<(pz d a).2):pz d a∈jC d a:=by
 unfold pz at h ⊢;rw[J1]at h ⊢;show _∈fy d a a 1 0
 grind
def asC(d:P8)(a n:Nat)(U:1<=n)(H:n<=(pz d a).2):CM d a n=xj d a n a 1:=by
 rcases ajf d a n a 1 0 ⟨_,aa7 d a V,H⟩with h|h
 ·exact h
 ·omega
def agx(d:P8)(a:Nat):∀(m k ld:Nat),∀p∈fy d a m k ld,k<=p.1/\p.1<k+m/\p.2=dC d a p.1:=by
 intro m
 induction m with
 |zero=>intro k ld p hp;trivial
 |succ m ih=>
  intro k ld p hp;unfold fy at hp
  grind
def Ya(d:P8)(a n:Nat):∀(m k q:Nat),k<=q->q<k+m->n<=dC d a q->k<=xj d a n m k/\xj d a n m k<=q/\n<=dC d a (xj d a n m k):=by
 intro m
 induction m with
 |zero=>intro k q U H;omega
 |succ m ih=>
  intro k q U H h3;unfold xj;split
  ·rename_i h;by_cases he:k=q
   ·subst he;omega
   ·have:=ih (k+1) q V V h3;omega
  ·exact⟨zai _,U,V⟩
def jf(d:P8)(c:OG)(a:Nat):c7:=
 if 9+c.getD (a+1) 0≠c.getD a 0 then R1 (CM d a (dE c a (d.length-a) 3),dE c a (d.length-a) 3)else OA d a
def lS(d:P8)(c:OG):Nat->Nat->PW
 |0,_=>[]
 |m+1,a=>if a<d.length then jf d c a::lS d c m (a+(jf d c a).made.toNat)else[]
def xO(d:P8):PW:=lS d (aP d) d.length 0
def JW(d:P8)(a:Nat)(h:a<d.length)(ca:9+(aP d).getD (a+1) 0≠(aP d).getD a 0):
 3<=dE (aP d) a (d.length-a) 3/\dE (aP d) a (d.length-a) 3<=(pz d a).2/\a+dE (aP d) a (d.length-a) 3<=d.length/\17+(aP d).getD (a+dE (aP d) a (d.length-a) 3) 0=(aP d).getD a 0:=by
 obtain⟨k,U,H,h3⟩:=Wl d a h ca;have I:=JL d a;have J:dD d a<=d.length-a:=zcs _ _;have:=I1 (aP d) a (d.length-a) 3 k U V h3;omega
def aa8(d:P8)(a n:Nat)(U:1<=n)(H:n<=(pz d a).2):1<=CM d a n/\CM d a n<=a/\n<=dC d a (CM d a n):=by
 rw[asC d a n U H];have hm:=aa7 d a V;have:=agx d a a 1 0 _ hm;have h3:=Ya d a n a 1 (pz d a).1 V V V;omega
def wc(d:P8)(a:Nat)(h:a<d.length):1<=(jf d (aP d) a).made/\a+(jf d (aP d) a).made<=d.length:=by
 unfold jf;split
 ·rename_i ca;have U:=JW d a h ca;unfold c7.made R1
  grind
 ·simp[OA,c7.made];omega
def aad(d:P8):∀(m a:Nat),d.length<=a+m->lS d (aP d) m a=lS d (aP d) (m+1) a:=by
 intro m
 induction m with
 |zero=>unfold lS;grind
 |succ m ih=>
  intro a h;show(if a<d.length then jf d (aP d) a::lS d (aP d) m (a+(jf d (aP d) a).made.toNat)else[])=(if a<d.length then jf d (aP d) a::lS d (aP d) (m+1) (a+(jf d (aP d) a).made.toNat)else[])
  split
  ·rename_i aM;have U:=wc d a aM
   grind
  ·rfl
def ace(d:P8)(a:Nat):∀(j k:Nat),d.length<=a+k->lS d (aP d) (k+j) a=lS d (aP d) k a:=by
 intro j
 induction j with
 |zero=>simp
 |succ j ih=>intro k I;rw[<-zaL,<-aad d (k+j) a V,ih k I]
def xc(d:P8)(m a:Nat)(hm:a+(m+1)=d.length):lS d (aP d) (m+1) a=jf d (aP d) a::lS d (aP d) (m+1-(jf d (aP d) a).made.toNat) (a+(jf d (aP d) a).made.toNat):=by
 have U:=wc d a V;show(if a<d.length then jf d (aP d) a::lS d (aP d) m (a+(jf d (aP d) a).made.toNat)else[])=_;have:=ace d (a+(jf d (aP d) a).made.toNat) ((jf d (aP d) a).made.toNat-1) (m+1-(jf d (aP d) a).made.toNat) V
 grind
def r9:Spec:={ lone:=false,fn:=false,run:=λ_ _=>False,iter:=amF,mu:=false,j0:=λ_ _ _=>False }
def XF(hΓ:Sound Go.Proofs.Tryz.prog (ao [(317,ah iQ),(318,ah kN)])):bQ Go.Proofs.Tryz.prog 316 r9:=
 ⟨(λe=>bh),(λe=>bh),(λ_ _ _ _ _ _ _ _ h=>(show False from h).elim),(afd hΓ).x,(λ_ _ _ _ _ _ _ _ e=>bh)⟩
def MA:Spec:=AT false false λps K=>∃(d:P8) (a:Int),ps=[.str d,pI a]/\K (.pv (.clo 316 [.cptr (.str d),.cptr (pI a)]))
def Vu:MT (ao [(316,r9)]) n5 MA:=by
 rintro _ K ⟨d,a,rfl,Y⟩;exact rC
def amf(l:List (Nat×Nat)):(l.map (·.2)).getLastD 0=(((0,0)::l).getLast ab).2:=by
 grind
def ajN(d:P8)(a:Nat):((jC d a).map (·.2)).getLastD 0=(pz d a).2:=by
 unfold pz;rw[J1 d a a 1 0 0,amf];rfl
def PZ(ps:CK)(x:PV):Prop:=∃(d:P8) (a:Int),ps=[.str d,pI a]/\(d.length<=4096/\0<=a/\a<=(d.length:Int))/\x=pI ((pz d a.toNat).2:Nat)
def Sw:MT (ao [(308,MA),(316,r9)]) ng (ah PZ):=by
 rintro _ K ⟨_,⟨d,a,rfl,h,rfl⟩,Y⟩;refine⟨rfl,?_⟩;refine⟨d,a,rfl,?_⟩;refine⟨_,λpre Z=>∃l:List (Nat×Nat),pre=jL l/\Z=[.box 3 [.pv (pI ((l.map (·.2)).getLastD 0:Nat))]],⟨d,a,rfl,h,rfl⟩,?_,⟨rfl,([]:List (Nat×Nat)),rfl,rfl⟩,?_,?_⟩
 ·intro x T;simp only[jL,zaX]at T
  grind
 ·rintro pre x Z T _ ⟨l,rfl,rfl⟩;simp only[jL,zaX]at T;obtain⟨p,_,rfl⟩:=T;refine⟨rfl,rfl,rfl,l++[p],by simp[jL],?_⟩;simp
 ·rintro Z ⟨l,hl,rfl⟩;have:=by
   exact(zco (λx y e=>au)).1 hl.symm
  subst this;rw[ajN];exact rC
def Wp(ps:CK)(x:PV):Prop:=∃(d:P8) (a n:Int),ps=[.str d,pI a,pI n]/\(d.length<=4096/\0<=a/\a<=(d.length:Int)/\0<=n)/\x=pI (CM d a.toNat n.toNat:Nat)
def Uu:MT (ao [(308,MA),(316,r9)]) nU (ah Wp):=by
 rintro _ K ⟨_,⟨d,a,n,rfl,⟨U,H,h3,h4⟩,rfl⟩,Y⟩;refine⟨d,a,rfl,?_⟩;refine⟨jL (jC d a.toNat),λpre Z=>∃l:List (Nat×Nat),(pre=jL l∧∀p∈l,¬n.toNat<=p.2)/\Z=[.box 3 [.pv (pI n)],.box 3 [.pv (pI 0)]],⟨d,a,rfl,⟨U,H,h3⟩,rfl⟩,?_,⟨rfl,[],⟨rfl,ab⟩,rfl⟩,?_,?_⟩
 ·intro x T;simp only[jL,zaX]at T
  grind
 ·rintro pre x Z T _ ⟨l,⟨rfl,hl⟩,rfl⟩;simp only[jL,zaX]at T;obtain⟨p,_,rfl⟩:=T;refine λb I=>?_
  rcases cmp I with⟨rfl,h⟩|⟨rfl,h⟩
  ·refine⟨rfl,rfl,λhp=>?_⟩;refine⟨.pv (pI _),cn ?_,trivial,Y⟩;obtain⟨t,ht⟩:=hp;have e:jL (l++[p])++t=jL (jC d a.toNat):=by rw[<-ht];simp[jL]
   obtain⟨u,hu⟩:∃u,jC d a.toNat=(l++[p])++u:=by
    refine⟨(jC d a.toNat).drop (l++[p]).length,?_⟩;have e2:(jC d a.toNat).take (l++[p]).length=l++[p]:=by
     have h5:jL ((jC d a.toNat).take (l++[p]).length)=jL (l++[p]):=by
      unfold jL at e ⊢;rw[List.map_take,<-e,<-zaw (f:=λp:Nat×Nat=>[pI (p.1:Nat),pI (p.2:Nat)]),List.take_left]
     unfold jL at h5;exact(zco (λx y e=>au)).1 h5
    rw[<-e2,zal];have hlen:(l++[p]).length<=(jC d a.toNat).length:=by
     grind
    rw[zat hlen];simp
   unfold CM
   grind
  ·exact⟨rfl,rfl,l++[p],⟨by simp[jL],by
    grind⟩,rfl⟩
 ·rintro Z ⟨l,⟨hl,hn⟩,rfl⟩;have:l=jC d a.toNat:=by
   unfold jL at hl;exact(zco (λx y e=>au)).1 hl.symm
  subst this;refine⟨rfl,?_⟩;refine⟨.pv (pI _),cn ?_,trivial,Y⟩;unfold CM;rw[List.find?_eq_none.2 au];rfl
def nX(ps:CK)(x:PV):Prop:=∃(d:P8) (a:Int),ps=[.str d,pI a]/\(0<=a/\a<(d.length:Int))/\x=(OA d a.toNat).pv
def awL(d:P8){a:Int}(h:0<=a/\a<(d.length:Int)){x:Int}(T:x=((d[a.toNat]'V).toNat:Int)):PV.agg [pI 0,pI 0,pI x]=(OA d a.toNat).pv:=by
 unfold OA c7.pv;rw[zah V,T];rfl
def uz:MT (ao []) ov (ah nX):=by
 rintro _ K ⟨_,⟨d,a,rfl,⟨U,H⟩,rfl⟩,Y⟩;refine⟨_,⟨U,zah V⟩,?_⟩;refine λx T=>?_
 replace T:=jb T (by have:=(d[a.toNat]'V).toNat_lt;omega);refine⟨rfl,?_⟩;refine⟨rfl,?_⟩;rw[<-awL d ⟨U,H⟩ T]at Y;refine⟨.pv (.agg [pI 0,pI 0,pI x]),rfl,?_,Y⟩;intro c F;simp at F;rcases F with rfl|rfl<;>trivial
def WQ(l:PW):∀x∈l.map c7.pv,x.flat:=by
 intro x T;obtain⟨t,_,rfl⟩:=zaX.1 T;intro c F;simp at F;rcases F with rfl|rfl|rfl<;>trivial
def Small(c:OG)(a:Nat):Prop:=∀i,a<i→∀x,c[i]?=some x-> -1000000<=x/\x<=1000000
def af_(t:OG):∀(m n:Nat) (o:Int),sG t (m+1) n o=sG t m (n+1) (min o (17+t.getD (n-1) 0)):=λ_ _ _=>rfl
def aoq(ps:CK)(x:PV):Prop:=∃(d:P8) (c:OG) (a:Int),ps=[.str d,.sl 1 (c.map pI),pI a]/\(d.length<=4096/\0<=a/\a<(d.length:Int)/\c.length=d.length+1/\Small c a.toNat)/\x=pI (I_ d a.toNat (c.drop (a.toNat+1)))
def afO:MT (ao [(315,ah PZ)]) rV (ah aoq):=by
 rintro _ K ⟨_,⟨d,c,a,rfl,⟨U,H,h3,h4,h5⟩,rfl⟩,Y⟩;have I:=JL d a.toNat;have J:dD d a.toNat<=d.length-a.toNat:=zcs _ _;have tj:∀n:Nat,1<=n->n<=d.length-a.toNat->(c.map pI)[a.toNat+n]?=some (pI ((c.drop (a.toNat+1)).getD (n-1) 0))/\ -1000000<=(c.drop (a.toNat+1)).getD (n-1) 0/\(c.drop (a.toNat+1)).getD (n-1) 0<=1000000:=by
  intro n hn1 hn2;have aM:a.toNat+n<c.length:=V;rw[afp _ _ _ hn1,zbu,zaD,zah aM];exact⟨rfl,h5 (a.toNat+n) V _ (zah aM)⟩
 generalize hT:c.drop (a.toNat+1)=hx at tj Y;refine λx T=>?_
 obtain rfl:=jb T V;obtain⟨g1,g2,g3⟩:=tj 1 (zai _) V;refine⟨_,⟨V,by rw[show(a+1).toNat=a.toNat+1 by omega];exact g1⟩,?_⟩;refine λx T=>?_
 obtain rfl:=jb T V;refine⟨_,⟨d,a,rfl,⟨U,H,V⟩,rfl⟩,?_⟩;refine⟨λm env Z=>∃(n:Nat) (o:Int),(3<=n/\(n:Int)+m=max 3 ((pz d a.toNat).2+1)/\ -1000000<=o/\o<=2000000/\sG hx m n o=I_ d a.toNat hx)/\Z=[]/\env=[(1,.pv (.sl 1 (c.map pI))),eN 2 a,eN 7 o,eN 8 n,eN 9 ((pz d a.toNat).2:Nat)],(pz d a.toNat).2-2,⟨3,_,⟨V,V,?_,?_,rfl⟩,rfl,rfl⟩,?_⟩
 ·simp only[zcc]at g2 ⊢;omega
 ·simp only[zcc]at g3 ⊢;omega
 rintro m env Z ⟨n,o,⟨hn,hm,ho1,ho2,b9⟩,rfl,rfl⟩;refine λb nN=>?_
 rcases cmp nN with⟨rfl,h⟩|⟨rfl,h⟩
 ·cases m with
  |zero=>omega
  |succ m=>
  obtain⟨g1,g2,g3⟩:=tj n V V;refine λx T=>?_
  obtain rfl:=jb T V;refine⟨_,⟨V,by rw[show(a+n).toNat=a.toNat+n by omega];exact g1⟩,?_⟩;refine λx T=>?_
  obtain rfl:=jb T V;refine λx T=>?_
  refine λy hy=>?_
  obtain rfl:=jb hy V;rw[af_]at b9;subst T;exact⟨m,V,n+1,_,⟨V,V,V,V,b9⟩,rfl,rfl⟩
 ·have:m=0:=by omega
  subst this;have:o=I_ d a.toNat hx:=b9;subst this;exact aO
def Ll(m:Nat)(t:OG):OG:=List.replicate m 0++t
def aok(m:Nat)(t:OG):(Ll m t).length=m+t.length:=by simp[Ll]
def aji(m:Nat)(t:OG):(Ll m t).drop m=t:=by
 unfold Ll;simp
def anI(m:Nat)(t:OG)(x:Int):((Ll (m+1) t).map pI).set m (pI x)=(Ll m (x::t)).map pI:=by
 unfold Ll;rw[zcz,zaj,zaY,List.set_append_right _ _ ab,zaw,List.length_replicate,zcc,zaY,zaY];rfl
def aes(m:Nat)(t:OG)(a:Nat)(h:∀x∈t,-1000000<=x/\x<=1000000):Small (Ll m t) a:=by
 intro i _ x T;rcases List.mem_append.1 (zag T)with h'|h'
 ·grind
 grind
def ako(l:OG):∀x∈l.map pI,x.flat:=by
 intro x T;obtain⟨t,_,rfl⟩:=zaX.1 T;trivial
def ah5:Spec:=AT true false λps K=>∃d:P8,ps=[.str d]/\d.length<=4096/\K (.fresh 3 1 ((aP d).map pI))
def abe:MT (ao [(307,ah aoq)]) qM ah5:=by
 rintro _ K ⟨d,rfl,U,Y⟩;refine λx T=>?_
 obtain rfl:=jb T V;refine⟨V,?_⟩;refine λx T=>?_
 obtain rfl:=jb T V;refine⟨λm env Z=>(m<=d.length)/\Z=[.row 3 1 true ((Ll m (gX d (d.length-m))).map pI)]/\env=[(0,.pv (.str d)),(3,.own 0),eN 4 ((m:Int)-1)],d.length,⟨zai _,?_,rfl⟩,?_⟩
 ·have:((d.length:Int)+1).toNat=d.length+1:=by omega
  rw[this,zcc];simp only[Ll,gX,zaY,zcp,zau,zcr,zcz]
 rintro m env Z ⟨hm,rfl,rfl⟩;refine λb I=>?_
 rcases cmp I with⟨rfl,h⟩|⟨rfl,h⟩
 ·cases m with
  |zero=>omega
  |succ m=>
  have e:((m+1:Nat):Int)-1=(m:Int):=V;rw[e]at*;have hlen:=aok (m+1) (gX d (d.length-(m+1)));rw[GA]at hlen;refine⟨_,⟨d,_,m,rfl,⟨U,V,V,V,aes _ _ _ (λx T=>by have:=FQ d _ x T;omega)⟩,rfl⟩,?_⟩;rw[zaC,aji];refine⟨⟨V,au⟩,?_⟩;refine⟨pI 0,?_,?_⟩
  ·unfold Ll
   grind
  refine⟨rfl,?_⟩;refine λx T=>?_
  obtain rfl:=jb T V;refine⟨m,V,V,?_,rfl⟩;have e2:d.length-m=(d.length-(m+1))+1:=V;have e3:d.length-(d.length-(m+1)+1)=m:=V;rw[e2];rw[zaC,anI,gX,e3]
 ·have:m=0:=by omega
  subst this;exact⟨.fresh _ _ _,⟨rfl,rfl,rfl,rfl⟩,ako _,Y⟩
def Tl(d:P8):(aP d).length=d.length+1:=GA d d.length
def GK(d:P8){i:Nat}(h:i<=d.length):((aP d).map pI)[i]?=some (pI ((aP d).getD i 0))/\0<=(aP d).getD i 0/\(aP d).getD i 0<=9*d.length:=by
 have hl:=Tl d;have aM:i<(aP d).length:=V;rw[zaD,zbu,zah aM];exact⟨rfl,FQ d d.length _ (List.getElem_mem aM)⟩
def V1:Spec:=AT true false λps K=>∃d:P8,ps=[.str d]/\d.length<=4096/\K (.fresh 206 3 ((xO d).map c7.pv))
def UW:MT (ao [(295,ah5),(296,ah nX),(297,ah Wp),(258,ah iH)]) oA V1:=by
 rintro _ K ⟨d,rfl,U,Y⟩;refine⟨d,rfl,U,?_⟩;refine⟨λm env Z=>∃(done:PW) (a:Nat),(a+m=d.length/\done.length<=a/\xO d=done++lS d (aP d) m a)/\Z=[.row 3 1 true ((aP d).map pI),.row 206 3 true (done.map c7.pv)]/\env=[(0,.pv (.str d)),(3,.own 0),(4,.own 1),eN 5 a],d.length,⟨[],0,⟨V,ab,rfl⟩,rfl,rfl⟩,?_⟩;rintro m env Z ⟨done,a,⟨hm,hlen,b9⟩,rfl,rfl⟩;refine λb I=>?_
 rcases cmp I with⟨rfl,h⟩|⟨rfl,h⟩
 ·cases m with
  |zero=>omega
  |succ m=>
  rw[xc d m a hm]at b9;have avr:=wc d a V;have hl:=Tl d;have ha:=GK d (i:=a) V;have ha1:=GK d (i:=a+1) V;have fin:∀t:c7,t=jf d (aP d) a→∃m',m'<m+1∧∃(Uk:PW) (a':Nat),(a'+m'=d.length/\Uk.length<=a'/\xO d=Uk++lS d (aP d) m' a')/\done.map c7.pv++[t.pv]=Uk.map c7.pv/\(a:Int)+t.made=a':=by
   rintro t rfl;exact⟨m+1-(jf d (aP d) a).made.toNat,V,done++[jf d (aP d) a],a+(jf d (aP d) a).made.toNat,⟨V,aH,by rw[b9];simp⟩,ab,V⟩
  refine⟨_,⟨d,a,rfl,⟨V,V⟩,rfl⟩,?_⟩;refine⟨rfl,?_⟩;refine⟨ae,?_⟩;refine λx T=>?_
  obtain rfl:=jb T V;have e1:((a:Int)+1).toNat=a+1:=V;refine⟨⟨V,by rw[zaw,e1];omega⟩,?_⟩;rw[e1];refine⟨_,ha1.1,?_⟩;refine λx T=>?_
  obtain rfl:=jb T V;refine⟨⟨V,DS⟩,?_⟩;refine⟨_,by rw[zaC];exact ha.1,?_⟩;refine λb I=>?_
  rcases cmp I with⟨rfl,h'⟩|⟨rfl,h'⟩
  ·have hf:=JW d a V h';have aiL:=JL d a;have alg:jf d (aP d) a=R1 (CM d a (dE (aP d) a (d.length-a) 3),dE (aP d) a (d.length-a) 3):=by unfold jf;rw[if_pos h']
   refine⟨λm env Z=>∃n:Nat,(3<=n/\n+m=d.length-a+3/\dE (aP d) a m n=dE (aP d) a (d.length-a) 3)/\Z=[.row 3 1 true ((aP d).map pI),.row 206 3 true (done.map c7.pv),.box 206 [.pv (pI 0),.pv (pI 0),.pv (pI (OA d a).b)]]/\env=[(0,.pv (.str d)),(3,.own 0),(4,.own 1),eN 5 a,(6,.ref 2 0 0),eN 7 n],d.length-a,⟨3,⟨zai _,V,rfl⟩,rfl,rfl⟩,?_⟩;rintro k env Z ⟨n,⟨hn,E,tg⟩,rfl,rfl⟩;have hnf:k=0\/n<=dE (aP d) a (d.length-a) 3:=by
    cases k with
    |zero=>exact .inl rfl
    |succ k=>
     right;obtain⟨q,hq1,hq2,hq3⟩:=Wl d a V h';by_cases Z8:n<=q
     ·have:=I1 (aP d) a (k+1) n q Z8 (by have:=aiL.1;have:dD d a<=d.length-a:=zcs _ _;omega) hq3;omega
     ·rw[<-tg];have:∀m n,n<=dE (aP d) a m n:=by
       intro m
       induction m with
       |zero=>intro n;exact zai _
       |succ m ih=>intro n;unfold dE;split;have:=ih (n+1);omega;exact zai _
      exact this _ _
   refine⟨ae,?_⟩;have han:a+n<=d.length:=by
    rcases hnf with rfl|hnf
    ·have:n=dE (aP d) a (d.length-a) 3:=tg;omega
    ·omega
   have hcn:=GK d (i:=a+n) han;refine λx T=>?_
   obtain rfl:=jb T V;have e2:((a:Int)+n).toNat=a+n:=V;refine⟨⟨V,by rw[zaw,e2];omega⟩,?_⟩;refine⟨_,by rw[e2];exact hcn.1,?_⟩;refine λx T=>?_
   obtain rfl:=jb T V;refine⟨⟨V,DS⟩,?_⟩;refine⟨_,by rw[zaC];exact ha.1,?_⟩;refine λb I=>?_
   rcases cmp I with⟨rfl,H⟩|⟨rfl,H⟩
   ·refine λx T=>?_
    obtain rfl:=jb T V;cases k with
    |zero=>
     have:n=dE (aP d) a (d.length-a) 3:=tg;rw[<-this]at hf;exact absurd hf.2.2.2 H
    |succ k=>
     have e3:dE (aP d) a (k+1) n=dE (aP d) a k (n+1):=by rw[dE,if_pos H]
     rw[e3]at tg;exact⟨k,V,n+1,⟨V,V,tg⟩,rfl,rfl⟩
   ·have hnn:n=dE (aP d) a (d.length-a) 3:=by
     cases k with
     |zero=>exact tg
     |succ k=>
      have e3:dE (aP d) a (k+1) n=n:=by rw[dE,if_neg H]
      rw[e3]at tg;exact tg
    refine⟨_,⟨d,a,n,rfl,⟨U,V,V,V⟩,rfl⟩,?_⟩;rw[zaC,zaC];refine⟨rfl,?_⟩;refine⟨rfl,?_⟩;refine⟨rfl,?_⟩;refine⟨rfl,?_⟩;refine⟨⟨?_,?_⟩,?_⟩
    ·rw[zaw];show(done.length+1)*24<=_;omega
    ·rw[zaw];show done.length+1<=_;omega
    refine⟨_,⟨R1 (CM d a n,n),rfl,rfl⟩,?_⟩;have et:R1 (CM d a n,n)=jf d (aP d) a:=by rw[alg,<-hnn]
    obtain⟨m',f1,Uk,a',f2,f3,f4⟩:=fin _ et;refine λx T=>?_
    obtain rfl:=jb T V;refine⟨m',f1,Uk,a',f2,?_,?_⟩
    ·exact congrArg (λl=>[cK.row 3 1 true ((aP d).map pI),cK.row 206 3 true l]) f3
    ·rw[f4]
  ·have alg:OA d a=jf d (aP d) a:=by unfold jf;rw[if_neg h']
   refine⟨rfl,?_⟩;refine⟨⟨?_,?_⟩,?_⟩
   ·rw[zaw];show(done.length+1)*24<=_;omega
   ·rw[zaw];show done.length+1<=_;omega
   refine⟨_,⟨OA d a,rfl,rfl⟩,?_⟩;obtain⟨m',f1,Uk,a',f2,f3,f4⟩:=fin _ alg;refine λx T=>?_
   obtain rfl:=jb T V;refine⟨m',f1,Uk,a',f2,?_,?_⟩
   ·exact congrArg (λl=>[cK.row 3 1 true ((aP d).map pI),cK.row 206 3 true l]) f3
   ·rw[f4]
 ·have:m=0:=by omega
  subst this;have e:xO d=done:=by rw[b9];simp[lS]
  rw[e]at Y;exact⟨.fresh _ _ _,⟨rfl,rfl,rfl,rfl⟩,WQ _,Y⟩
def jD{n:Nat}{w:Nat}(h:n<2^w):(BitVec.ofInt w (n:Int)).toNat=n:=by
 grind
def Kz{n:Nat}(h:n<2^62):IntKind.i64.wrap (n:Int)=n:=by
 exact wrap64 V
def ar5{a b:Nat}(ha:a<2^62)(I:b<2^62):dB .or .i64 (a:Int) (b:Int)=((a|||b:Nat):Int):=by
 unfold dB;have U:=zcC ha I;have e:IntKind.i64.bits=64:=rfl;simp only[e,BitVec.toNat_or];rw[jD (zae ha ai),jD (zae I ai)];exact Kz U
def ac6{a b:Nat}(ha:a<2^62)(I:b<2^62):dB .and .i64 (a:Int) (b:Int)=((a&&&b:Nat):Int):=by
 unfold dB;have U:a&&&b<2^62:=zbW zcu ha;have e:IntKind.i64.bits=64:=rfl;simp only[e,BitVec.toNat_and];rw[jD (zae ha ai),jD (zae I ai)];exact Kz U
def So{n:Nat}(h:n<256):IntKind.u8.wrap (n:Int)=n:=by
 have I:IntKind.u8.bits=8:=rfl;simp only[IntKind.wrap,IntKind.signed,I]
 grind
def or8{a b:Nat}(ha:a<256)(I:b<256):dB .or .u8 (a:Int) (b:Int)=((a|||b:Nat):Int):=by
 unfold dB;have U:a|||b<2^8:=zcC ha I;have e:IntKind.u8.bits=8:=rfl;simp only[e,BitVec.toNat_or];rw[jD ha,jD I];exact So U
def aDQ{a b:Nat}(ha:a<256)(I:b<256):dB .and .u8 (a:Int) (b:Int)=((a&&&b:Nat):Int):=by
 unfold dB;have U:a&&&b<256:=zbW zcu ha;have e:IntKind.u8.bits=8:=rfl;simp only[e,BitVec.toNat_and];rw[jD ha,jD I];exact So U
def Hs{a k b:Nat}(h:a<2^k):a|||(2^k*b)=a+2^k*b:=by
 rw[Nat.or_comm,<-zcm h,zcB]
def Jj(a k:Nat):a&&&(2^k-1)=a%2^k:=zcj a k
def jW(n:Nat):UInt8:=UInt8.ofNat n
def lA{n:Nat}(h:n<256):(jW n).toNat=n:=by simp[jW];omega
def rY{n:Int}(h:0<=n/\n<256):PV.int .u8 n=aG (jW n.toNat):=by
 unfold aG;rw[lA V]
 grind
def CQ(n:Nat):P8:=[jW (n%256),jW (n/256%256)]
def xN(t:c7)(a:Nat):P8:=if t.d≠0 then CQ ((t.d.toNat-1)*2^(16-dp a)+t.l.toNat-3)else[jW t.b.toNat]
def qD(t:c7)(a:Nat):Prop:=a<4096/\if t.d≠0 then t.b=0/\1<=t.d/\t.d<=a/\3<=t.l/\t.l<=Gn a/\a+t.l<=4096 else t.l=0/\0<=t.b/\t.b<=255
def fh:PW->Nat->Prop
 |[],_=>True
 |t::l,a=>qD t a/\fh l (a+t.made.toNat)
def zQ{t:c7}{a:Nat}(h:qD t a):1<=t.made/\a+t.made<=4096:=by
 unfold qD at h;unfold c7.made
 grind
def aik{t:c7}{a:Nat}(h:qD t a)(hd:t.d≠0):(t.d.toNat-1)*2^(16-dp a)+t.l.toNat-3<65536/\(t.d.toNat-1)<2^dp a/\t.l.toNat-3<2^(16-dp a):=by
 unfold qD at h;rw[if_pos hd]at h;obtain⟨h0,_,U,H,h3,h4,h5⟩:=h;have hs:=uH (a:=a) V;have h6:=by
  have:=(apW (a:=a) (Ei a)).1 (zai _);omega
 have h7:t.l.toNat<=2^(16-dp a)+2:=by unfold Gn at h4;omega
 have h8:2^dp a*2^(16-dp a)=65536:=by
  rw[<-zcF,show dp a+(16-dp a)=16 by omega]
 have h9:(t.d.toNat-1)*2^(16-dp a)<=(2^dp a-1)*2^(16-dp a):=Nat.mul_le_mul_right _ V;rw[Nat.sub_mul (2^dp a)]at h9;omega
def ey:Nat->PW->Nat
 |_,[]=>0
 |k,t::l=>(if t.d≠0 then 2^k else 0)+ey (k+1) l
def Cz:∀(l:PW) (k:Nat),ey k l+2^k<=2^(k+l.length):=by
 intro l
 induction l with
 |nil=>simp[ey]
 |cons t l ih=>
  simp only[ey,zap]
  grind
def uu:∀(l m:PW) (k:Nat),ey k (l++m)=ey k l+ey (k+l.length) m:=by
 intro l
 induction l with
 |nil=>simp[ey]
 |cons t l ih=>
  simp only[zbe,ey,zap,ih]
  grind
def dQ:PW->Nat->P8
 |[],_=>[]
 |t::l,a=>xN t a++dQ l (a+t.made.toNat)
def gQ:PW->Nat->Nat
 |[],a=>a
 |t::l,a=>gQ l (a+t.made.toNat)
def adR:∀(l m:PW) (a:Nat),dQ (l++m) a=dQ l a++dQ m (gQ l a):=by
 intro l
 induction l with
 |nil=>intro m a;rfl
 |cons t l ih=>intro m a;simp only[zbe,dQ,gQ,ih,zaj]
def MQ:∀(l m:PW) (a:Nat),gQ (l++m) a=gQ m (gQ l a):=by
 intro l
 induction l with
 |nil=>intro m a;rfl
 |cons t l ih=>intro m a;simp only[zbe,gQ,ih]
def kH:∀(l m:PW) (a:Nat),fh (l++m) a↔fh l a/\fh m (gQ l a):=by
 intro l
 induction l with
 |nil=>simp[fh,gQ]
 |cons t l ih=>intro m a;simp only[zbe,fh,gQ,ih,and_assoc]
def fA:Nat->PW->Nat->P8
 |0,_,_=>[]
 |n+1,l,a=>if l=[]then[]else jW (ey 0 (l.take 8))::(dQ (l.take 8) a++fA n (l.drop 8) (gQ (l.take 8) a))
def oR(l:PW):P8:=fA l.length l 0
def XA:∀(n:Nat) (l:PW) (a:Nat),l.length<=n->fA n l a=fA (n+1) l a:=by
 intro n
 induction n with
 |zero=>intro l a h;have:l=[]:=zaf V
        subst this;rfl
 |succ n ih=>
  unfold fA
  grind
def vP(count:Nat)(pk:Bool):P8:=CQ (count-1+12288+(if pk then 32768 else 0))
def awV(a b:UInt8):[aG a,aG b]=[a,b].map aG:=rfl
def af8(ps:CK)(x:PV):Prop:=∃n:Int,ps=[pI n]/\(0<=n/\n<65536)/\x=.str (CQ n.toNat)
def ae9:MT (ao []) BC (ah af8):=by
 rintro _ K ⟨_,⟨n,rfl,h,rfl⟩,Y⟩;refine λx T=>?_
 rw[Mh]at T;refine⟨V,?_⟩;refine λy hy=>?_
 have hy:y=n/256:=by
  rw[hy];show n.fdiv (2^8)=_
  grind
 refine λz hz=>?_
 rw[Mh]at hz;refine⟨rfl,?_⟩;refine⟨CQ n.toNat,?_,?_⟩
 ·unfold CQ;rw[rY (n:=x) V,rY (n:=z) V]
  grind
 ·exact fJ
def ao2(ps:CK)(x:PV):Prop:=∃(n:Int) (b:Bool),ps=[pI n,pB b]/\(1<=n/\n<=4096)/\x=.str (vP n.toNat b)
def afE:MT (ao [(306,ah af8)]) Bj (ah ao2):=by
 rintro _ K ⟨_,⟨n,b,rfl,h,rfl⟩,Y⟩;refine λx T=>?_
 obtain rfl:=jb T V;refine λx T=>?_
 have e:x=((n.toNat-1+12288:Nat):Int):=by
  rw[T,show n-1=((n.toNat-1:Nat):Int) by omega,show(12288:Int)=((12288:Nat):Int)from rfl,ar5 V ai];rw[show(12288:Nat)=2^12*3 from rfl,Hs V]
 subst e;cases b with
 |true=>
  refine λx T=>?_
  have e:x=((n.toNat-1+12288+32768:Nat):Int):=by
   rw[T,show(32768:Int)=((32768:Nat):Int)from rfl,ar5 V ai];rw[show(32768:Nat)=2^15*1 from rfl,Hs V]
  subst e;refine⟨_,⟨_,rfl,V,rfl⟩,?_⟩;exact fJ
 |false=>
  refine⟨_,⟨_,rfl,V,rfl⟩,?_⟩;exact fJ
def aiS(l:P8):ax:=[.box 249 [.ref 0 0 0,.own 2],.dead,.row 5 1 true (l.map aG)]
def avK:PV:=.val .nilIface
def Nt(xs:XP)(Z:ax)(K:AV->ax->Prop):Prop:=
 ∃b:UInt8,xs=[.ref 0 0 0,.pv (aG b)]/\((Z=atk/\K (.pv avK) (Vi [b]))∨∃l:P8,l.length<=1000000/\Z=Vi l/\K (.pv avK) (aiS (l++[b])))
def Ot:OQ (ao [(268,lZ wX)]) kW (lZ Nt):=by
 rintro _ _ K ⟨b,rfl,⟨rfl,Y⟩|⟨l,hl,rfl,Y⟩⟩
 ·refine⟨rfl,.inl ⟨rfl,?_⟩⟩;refine⟨rfl,?_⟩;refine⟨⟨ab,ab⟩,?_⟩;trivial
 ·refine⟨rfl,.inr ⟨l,rfl,?_⟩⟩;refine⟨rfl,?_⟩;refine⟨⟨au,au⟩,?_⟩;refine⟨rfl,?_⟩;rw[show aiS (l++[b])=[.box 249 [.ref 0 0 0,.own 2],.dead,.row 5 1 true (l.map aG++[aG b])] by simp[aiS]]at Y;exact Y
def Gg(xs:XP)(Z:ax)(K:AV->ax->Prop):Prop:=
 ∃s:P8,xs=[.ref 0 0 0,.pv (.str s)]∧∃l:P8,l.length<=1000000/\s.length<=1000000/\Z=Vi l/\K (.tup [.pv (pI s.length),.pv avK]) (aiS (l++s))
def Jv:OQ (ao [(268,lZ wX)]) jV (lZ Gg):=by
 rintro _ _ K ⟨s,rfl,l,hl,hs,rfl,Y⟩;refine⟨rfl,.inr ⟨l,rfl,?_⟩⟩;refine⟨⟨au,au⟩,?_⟩;refine⟨rfl,?_⟩;rw[show aiS (l++s)=[.box 249 [.ref 0 0 0,.own 2],.dead,.row 5 1 true (l.map aG++s.map aG)] by simp[aiS]]at Y;exact Y
def auT(xs:XP)(Z:ax)(K:AV->ax->Prop):Prop:=
 ∃l:P8,xs=[.ref 0 0 0]/\Z=Vi l/\K (.pv (pI l.length)) (Vi l)
def akj:OQ (ao []) qK (lZ auT):=by
 rintro _ _ K ⟨l,rfl,rfl,Y⟩;refine λ_=>?_
 rw[zaw];exact Y
def amZ{x s:Int}(T:0<=x)(hs:0<=s/\s<=63)(h:x.toNat*2^s.toNat<=9223372036854775807):IntKind.i64.wrap (x*2^min s.toNat IntKind.i64.bits)=((x.toNat*2^s.toNat:Nat):Int):=by
 have I:IntKind.i64.bits=64:=rfl;have:min s.toNat IntKind.i64.bits=s.toNat:=V;rw[this];have e:x*2^s.toNat=((x.toNat*2^s.toNat:Nat):Int):=by
  grind
 rw[e];exact wrap64 V
def Jb(ps:CK)(x:PV):Prop:=∃(t:c7) (a:Nat),ps=[t.pv,pI a]/\qD t a/\x=.str (xN t a)
def LJ:MT (ao [(260,ah fN),(257,ah mg),(306,ah af8)]) qn (ah Jb):=by
 rintro _ K ⟨_,⟨t,a,rfl,ht,rfl⟩,Y⟩;refine⟨_,⟨t,rfl,rfl⟩,?_⟩;refine λb I=>?_
 have ht':=ht;unfold qD at ht';rcases cmp I with⟨rfl,h⟩|⟨rfl,h⟩
 ·have hd:t.d=0:=by
   unfold c7.copy at h
   grind
  refine λx T=>?_
  rw[Mh]at T;refine⟨rfl,?_⟩;refine⟨xN t a,?_,?_⟩
  ·unfold xN;rw[if_neg V,rY (n:=x) V]
   grind
  exact fJ
 ·have hd:t.d≠0:=by
   intro e;apply h;unfold c7.copy;simp[e]
  rw[if_pos hd]at ht';have F:=aik ht hd;have hs:=uH (a:=a) V;refine⟨dw,?_⟩;refine λx T=>?_
  obtain rfl:=jb T V;refine⟨_,⟨a,rfl,⟨V,V⟩,rfl⟩,?_⟩;unfold Ct;rw[zaC];refine λx T=>?_
  obtain rfl:=jb T V;have es:(16-(dp a:Int)).toNat=16-dp a:=V;have ed:(t.d-1).toNat=t.d.toNat-1:=V;refine⟨V,?_⟩;refine λx T=>?_
  rw[amZ V V au,es,ed]at T;subst T;refine λx T=>?_
  obtain rfl:=jb T V;refine λx T=>?_
  obtain rfl:=jb T V;refine⟨_,⟨_,rfl,V,rfl⟩,?_⟩;refine⟨.pv (.str _),?_,trivial,Y⟩;show PV.str (xN t a)=PV.str (CQ _);unfold xN
  grind
def Hc:∀(l:PW) (a:Nat),fh l a->l≠[]->a+l.length<=4096:=by
 intro l
 induction l with
 |nil=>simp
 |cons t l ih=>
  intro a h _;obtain⟨U,H⟩:=h;have h3:=zQ U;by_cases hl:l=[]
  ·grind
  grind
def SX(t:c7)(a:Nat):1<=(xN t a).length/\(xN t a).length<=2:=by
 unfold xN CQ
 grind
def wg:∀(l:PW) (a:Nat),(dQ l a).length<=2*l.length:=by
 intro l
 induction l with
 |nil=>simp[dQ]
 |cons t l ih=>
  intro a;have:=ih (a+t.made.toNat);have h:=SX t a;simp only[dQ,zad,zap];omega
def MV:∀(n:Nat) (l:PW) (a:Nat),(fA n l a).length<=3*l.length:=by
 intro n
 induction n with
 |zero=>simp[fA]
 |succ n ih=>
  intro l a;unfold fA;split
  ·simp
  ·rename_i hl;have:=zb9.2 hl;have U:=wg (l.take 8) a
   grind
def HS(l:PW)(a:Nat):∀(j n:Nat),l.length<=n->fA (n+j) l a=fA n l a:=by
 intro j
 induction j with
 |zero=>simp
 |succ j ih=>intro n hn;rw[<-zaL,<-XA (n+j) l a V,ih n hn]
def axb(out:P8):ax:=match out with|[]=>atk|_=>Vi out
def ahN:Spec:=AT true false λps K=>∃l:PW,ps=[.sl 3 (l.map c7.pv)]/\(l≠[]/\fh l 0)/\
 (4096<(oR l).length->K (.tup [.pv (.str []),.pv (pI 8)]))/\((oR l).length<=4096->K (.tup [.pv (.str (vP (oR l).length true++oR l)),.pv (pI 0)]))
def acd{α:Type}(n:Nat)(l:List α):cut 0 n l=l.take n:=by simp[cut]
def zr{α:Type}(n:Nat)(l:List α):cut n l.length l=l.drop n:=by simp[cut]
def abm:MT (ao [(260,ah fN),(292,ah Jb),(258,ah iH),(293,lZ Nt),(229,lZ Gg),(230,lZ auT),(231,lZ RY),(294,ah ao2)]) zE ahN:=by
 rintro _ K ⟨l,rfl,⟨ca,b_⟩,yd,qO⟩;have hlen:=Hc l 0 b_ ca;have A8:=MV l.length l 0;refine⟨λm env Z=>∃(out:P8) (l':PW) (a:Nat),(l'.length=m/\fh l' a/\l'.length<=l.length/\oR l=out++fA m l' a/\(l'=[]->out≠[]))/\Z=axb out/\env=[(0,.pv (.sl 3 (l'.map c7.pv))),(4,.ref 0 0 0),eN 5 a],l.length,⟨[],l,0,⟨rfl,b_,zai _,rfl,λh=>absurd h ca⟩,rfl,rfl⟩,?_⟩;rintro m env Z ⟨out,l',a,⟨hm,OK,hle,b9,atH⟩,rfl,rfl⟩;have hol:out.length<=3*l.length:=by
  have:(oR l).length=_:=congrArg List.length b9;unfold oR at this;rw[zad]at this;omega
 refine λ_=>?_
 rw[zaw];refine λb I=>?_
 rcases cmp I with⟨rfl,h⟩|⟨rfl,h⟩
 ·cases m with
  |zero=>omega
  |succ m=>
  have T5:l'≠[]:=by intro e;subst e;simp at h
  refine λ_=>?_
  rw[zaw];refine λx T=>?_
  have T:x=((min l'.length 8:Nat):Int):=V;subst T;have e19:cut 0 ((min l'.length 8:Nat):Int).toNat (l'.map c7.pv)=(l'.take 8).map c7.pv:=by
   rw[zaC,acd,<-List.map_take];congr 1;rcases Nat.le_total l'.length 8 with h8|h8
   ·rw[zat h8,List.take_length,za1 h8]
   ·rw[zbK h8]
  have e0:cut ((min l'.length 8:Nat):Int).toNat (l'.map c7.pv).length (l'.map c7.pv)=(l'.drop 8).map c7.pv:=by
   rw[zaC,zr,<-List.map_drop];congr 1;rcases Nat.le_total l'.length 8 with h8|h8
   ·rw[zat h8,List.drop_length,List.drop_of_length_le h8]
   ·rw[zbK h8]
  obtain⟨g,hgd⟩:∃g,l'.take 8=g:=⟨_,rfl⟩
  have aKj:g.length<=8:=by rw[<-hgd,zal];omega
  have at3:fh g a:=by
   rw[<-zaF 8 l',kH,hgd]at OK;exact OK.1
  rw[hgd]at e19;refine⟨⟨V,pd⟩,?_⟩;refine λ_=>?_
  cases out with
  |nil=>
   refine⟨λm2 env Z=>∃g1 g2:PW,(g1++g2=g/\g2.length=m2)/\Z=axb []/\env=[(0,.pv (.sl 3 (l'.map c7.pv))),(4,.ref 0 0 0),eN 5 (gQ g1 a),(6,.pv (.int .u8 (ey 0 g1))),(7,.pv (.str (dQ g1 a))),eN 8 (min l'.length 8:Nat),(19,.pv (.sl 3 (g.map c7.pv))),eN 20 g.length,eN 21 g1.length],g.length,⟨[],g,⟨rfl,rfl⟩,rfl,?_⟩,?_⟩
   ·show[(0,AV.pv (.sl 3 (l'.map c7.pv))),(4,.ref 0 0 0),eN 5 a,(6,.pv (.int .u8 0)),(7,.pv (.str [])),eN 8 (min l'.length 8:Nat),(19,.pv (.sl 3 (cut 0 ((min l'.length 8:Nat):Int).toNat (l'.map c7.pv)))),eN 20 ((cut 0 ((min l'.length 8:Nat):Int).toNat (l'.map c7.pv)).length:Nat),eN 21 0]=_;rw[e19,zaw];rfl
   rintro m2 env Z ⟨g1,g2,⟨hg,hm2⟩,rfl,rfl⟩;have hgl:g1.length+g2.length=g.length:=Iu;refine λb I=>?_
   rcases cmp I with⟨rfl,H⟩|⟨rfl,H⟩
   ·cases g2 with
    |nil=>simp at hgl;omega
    |cons t g2=>
    simp only[zap]at hgl;have KM:qD t (gQ g1 a)/\fh g2 (gQ g1 a+t.made.toNat):=by
     rw[<-hg,kH]at at3;exact at3.2
    have hmt:=zQ KM.1;have hbT:=wg g1 a;have htB:=SX t (gQ g1 a);have hsg:=Cz g1 0;have hp8:2^g1.length<=2^7:=zb4 V V;have hp0:=zcb g1.length;rw[zaU]at hsg;refine⟨t.pv,⟨V,acX⟩,?_⟩;refine⟨rfl,?_⟩;have next:∀x:Int,x=(gQ g1 a:Int)+t.made->x=(gQ (g1++[t]) a:Nat):=by
     intro x T;rw[MQ,T];simp only[gQ];omega
    cases F:t.copy with
    |true=>
     have hd:t.d≠0:=sg;refine⟨pB true,⟨t,rfl,kn⟩,?_⟩;refine⟨V,?_⟩;refine λx T=>?_
     have T:x=((2^g1.length:Nat):Int):=by
      rw[T];have e8:min ((g1.length:Int)).toNat IntKind.u8.bits=g1.length:=by
       have:IntKind.u8.bits=8:=rfl;omega
      rw[e8,zcE,show((2:Int)^g1.length)=((2^g1.length:Nat):Int) by simp];exact So V
     subst T;refine λx T=>?_
     rw[or8 V V,show 2^g1.length=2^g1.length*1 by omega,Hs V]at T;refine⟨_,⟨t,gQ g1 a,rfl,KM.1,rfl⟩,?_⟩;refine⟨V,?_⟩;refine⟨_,⟨t,rfl,rfl⟩,?_⟩;refine λy hy=>?_
     have hy:=next y (jb hy V)
     subst hy;refine λz hz=>?_
     obtain rfl:=jb hz V;refine⟨g2.length,IW,g1++[t],g2,⟨v_,rfl⟩,rfl,?_⟩;have e6:x=(ey 0 (g1++[t]):Nat):=by rw[T,uu];simp[ey,hd]
     have e7:dQ g1 a++xN t (gQ g1 a)=dQ (g1++[t]) a:=Ih;have e21:((g1.length:Int)+1)=((g1++[t]).length:Nat):=ab;rw[e6,e7,e21]
    |false=>
     have hd:¬t.d≠0:=sg;refine⟨pB false,⟨t,rfl,kn⟩,?_⟩;refine⟨_,⟨t,gQ g1 a,rfl,KM.1,rfl⟩,?_⟩;refine⟨V,?_⟩;refine⟨_,⟨t,rfl,rfl⟩,?_⟩;refine λy hy=>?_
     have hy:=next y (jb hy V)
     subst hy;refine λz hz=>?_
     obtain rfl:=jb hz V;refine⟨g2.length,IW,g1++[t],g2,⟨v_,rfl⟩,rfl,?_⟩;have e6:ey 0 (g1++[t])=ey 0 g1:=by rw[uu];simp[ey,hd]
     have e7:dQ g1 a++xN t (gQ g1 a)=dQ (g1++[t]) a:=Ih;have e21:((g1.length:Int)+1)=((g1++[t]).length:Nat):=ab;rw[e6,e7,e21]
   ·have T9:g2=[]:=zaf V;subst T9;rw[zbg]at hg;subst hg;have hsg:=Cz g1 0;rw[zaU]at hsg;have hp8:2^g1.length<=2^8:=zb4 V V;have hbT:=wg g1 a;refine⟨jW (ey 0 g1),?_,.inl ⟨rfl,?_⟩⟩
    ·rw[rY V,zaC]
    refine⟨dQ g1 a,rfl,[]++[jW (ey 0 g1)],adK,V,rfl,?_⟩;refine⟨⟨V,pd⟩,?_⟩;refine⟨(l'.drop 8).length,gx,([]++[jW (ey 0 g1)])++dQ g1 a,l'.drop 8,gQ g1 a,⟨rfl,?_,gx,?_,λ_=>ab⟩,?_,?_⟩
    ·rw[<-zaF 8 l',kH,hgd]at OK;exact OK.2
    ·rw[b9];rw[fA,if_neg T5,hgd];have e:=HS (l'.drop 8) (gQ g1 a) (m-(l'.drop 8).length) (l'.drop 8).length (zai _);rw[zcA gx]at e;rw[e];simp
    ·rfl
    ·show[(0,AV.pv (.sl 3 (cut ((min l'.length 8:Nat):Int).toNat (l'.map c7.pv).length (l'.map c7.pv)))),(4,.ref 0 0 0),eN 5 (gQ g1 a)]=_;rw[e0]
  |cons o os=>
   refine⟨λm2 env Z=>∃g1 g2:PW,(g1++g2=g/\g2.length=m2)/\Z=axb (o::os)/\env=[(0,.pv (.sl 3 (l'.map c7.pv))),(4,.ref 0 0 0),eN 5 (gQ g1 a),(6,.pv (.int .u8 (ey 0 g1))),(7,.pv (.str (dQ g1 a))),eN 8 (min l'.length 8:Nat),(19,.pv (.sl 3 (g.map c7.pv))),eN 20 g.length,eN 21 g1.length],g.length,⟨[],g,⟨rfl,rfl⟩,rfl,?_⟩,?_⟩
   ·show[(0,AV.pv (.sl 3 (l'.map c7.pv))),(4,.ref 0 0 0),eN 5 a,(6,.pv (.int .u8 0)),(7,.pv (.str [])),eN 8 (min l'.length 8:Nat),(19,.pv (.sl 3 (cut 0 ((min l'.length 8:Nat):Int).toNat (l'.map c7.pv)))),eN 20 ((cut 0 ((min l'.length 8:Nat):Int).toNat (l'.map c7.pv)).length:Nat),eN 21 0]=_;rw[e19,zaw];rfl
   rintro m2 env Z ⟨g1,g2,⟨hg,hm2⟩,rfl,rfl⟩;have hgl:g1.length+g2.length=g.length:=Iu;refine λb I=>?_
   rcases cmp I with⟨rfl,H⟩|⟨rfl,H⟩
   ·cases g2 with
    |nil=>simp at hgl;omega
    |cons t g2=>
    simp only[zap]at hgl;have KM:qD t (gQ g1 a)/\fh g2 (gQ g1 a+t.made.toNat):=by
     rw[<-hg,kH]at at3;exact at3.2
    have hmt:=zQ KM.1;have hbT:=wg g1 a;have htB:=SX t (gQ g1 a);have hsg:=Cz g1 0;have hp8:2^g1.length<=2^7:=zb4 V V;have hp0:=zcb g1.length;rw[zaU]at hsg;refine⟨t.pv,⟨V,acX⟩,?_⟩;refine⟨rfl,?_⟩;have next:∀x:Int,x=(gQ g1 a:Int)+t.made->x=(gQ (g1++[t]) a:Nat):=by
     intro x T;rw[MQ,T];simp only[gQ];omega
    cases F:t.copy with
    |true=>
     have hd:t.d≠0:=sg;refine⟨pB true,⟨t,rfl,kn⟩,?_⟩;refine⟨V,?_⟩;refine λx T=>?_
     have T:x=((2^g1.length:Nat):Int):=by
      rw[T];have e8:min ((g1.length:Int)).toNat IntKind.u8.bits=g1.length:=by
       have:IntKind.u8.bits=8:=rfl;omega
      rw[e8,zcE,show((2:Int)^g1.length)=((2^g1.length:Nat):Int) by simp];exact So V
     subst T;refine λx T=>?_
     rw[or8 V V,show 2^g1.length=2^g1.length*1 by omega,Hs V]at T;refine⟨_,⟨t,gQ g1 a,rfl,KM.1,rfl⟩,?_⟩;refine⟨V,?_⟩;refine⟨_,⟨t,rfl,rfl⟩,?_⟩;refine λy hy=>?_
     have hy:=next y (jb hy V)
     subst hy;refine λz hz=>?_
     obtain rfl:=jb hz V;refine⟨g2.length,IW,g1++[t],g2,⟨v_,rfl⟩,rfl,?_⟩;have e6:x=(ey 0 (g1++[t]):Nat):=by rw[T,uu];simp[ey,hd]
     have e7:dQ g1 a++xN t (gQ g1 a)=dQ (g1++[t]) a:=Ih;have e21:((g1.length:Int)+1)=((g1++[t]).length:Nat):=ab;rw[e6,e7,e21]
    |false=>
     have hd:¬t.d≠0:=sg;refine⟨pB false,⟨t,rfl,kn⟩,?_⟩;refine⟨_,⟨t,gQ g1 a,rfl,KM.1,rfl⟩,?_⟩;refine⟨V,?_⟩;refine⟨_,⟨t,rfl,rfl⟩,?_⟩;refine λy hy=>?_
     have hy:=next y (jb hy V)
     subst hy;refine λz hz=>?_
     obtain rfl:=jb hz V;refine⟨g2.length,IW,g1++[t],g2,⟨v_,rfl⟩,rfl,?_⟩;have e6:ey 0 (g1++[t])=ey 0 g1:=by rw[uu];simp[ey,hd]
     have e7:dQ g1 a++xN t (gQ g1 a)=dQ (g1++[t]) a:=Ih;have e21:((g1.length:Int)+1)=((g1++[t]).length:Nat):=ab;rw[e6,e7,e21]
   ·have T9:g2=[]:=zaf V;subst T9;rw[zbg]at hg;subst hg;have hsg:=Cz g1 0;rw[zaU]at hsg;have hp8:2^g1.length<=2^8:=zb4 V V;have hbT:=wg g1 a;refine⟨jW (ey 0 g1),?_,.inr ⟨o::os,V,rfl,?_⟩⟩
    ·rw[rY V,zaC]
    refine⟨dQ g1 a,rfl,(o::os)++[jW (ey 0 g1)],adK,V,rfl,?_⟩;refine⟨⟨V,pd⟩,?_⟩;refine⟨(l'.drop 8).length,gx,((o::os)++[jW (ey 0 g1)])++dQ g1 a,l'.drop 8,gQ g1 a,⟨rfl,?_,gx,?_,λ_=>ab⟩,?_,?_⟩
    ·rw[<-zaF 8 l',kH,hgd]at OK;exact OK.2
    ·rw[b9];rw[fA,if_neg T5,hgd];have e:=HS (l'.drop 8) (gQ g1 a) (m-(l'.drop 8).length) (l'.drop 8).length (zai _);rw[zcA gx]at e;rw[e];simp
    ·rfl
    ·show[(0,AV.pv (.sl 3 (cut ((min l'.length 8:Nat):Int).toNat (l'.map c7.pv).length (l'.map c7.pv)))),(4,.ref 0 0 0),eN 5 (gQ g1 a)]=_;rw[e0]
 ·have T5:l'=[]:=zaf V;subst T5;have I:oR l=out:=by
   rw[b9];cases m with
   |zero=>simp[fA]
   |succ m=>simp[fA]
  rw[I]at yd qO;cases out with
  |nil=>exact absurd rfl (atH rfl)
  |cons o os=>
   refine⟨o::os,rfl,rfl,?_⟩;refine λb I=>?_
   rcases cmp I with⟨rfl,H⟩|⟨rfl,H⟩
   ·exact⟨[.pv _,.pv _],⟨rfl,rfl,trivial⟩,⟨trivial,trivial,trivial⟩,yd V⟩
   ·have h3:(o::os).length<=4096:=by omega
    refine⟨o::os,rfl,rfl,?_⟩;refine⟨_,⟨_,true,rfl,by simp only[zap]at h3 ⊢;omega,rfl⟩,?_⟩;refine⟨rfl,o::os,ab,rfl,?_⟩;rw[zaC];refine⟨by simp[vP,CQ]at h3 ⊢;omega,?_⟩;exact⟨[.pv (.str _),.pv _],⟨rfl,rfl,trivial⟩,⟨trivial,trivial,trivial⟩,qO h3⟩
def avG(d:P8)(h:d.length<=4096):∀(m a:Nat),a+m=d.length->fh (lS d (aP d) m a) a:=by
 intro m
 induction m using Nat.strongRecOn with
 |_ m ih=>
  intro a hm;cases m with
  |zero=>trivial
  |succ m=>
   have avr:=wc d a V;rw[xc d m a hm];refine⟨⟨V,?_⟩,ih _ V _ V⟩;unfold jf;split
   ·rename_i ca;have U:=JW d a V ca;have H:=aa8 d a _ V U.2.1;have h3:=JL d a;have h4:dD d a<=Gn a:=Nat.min_le_left _ _;unfold R1;simp only;rw[if_pos V];refine⟨trivial,?_,?_,?_,?_,?_⟩<;>omega
   ·unfold OA;have aM:a<d.length:=V;have:=(d[a]?.getD 0).toNat_lt;simp only[ne_eq,not_true_eq_false,if_false,true_and];omega
def TF(d:P8)(h:d.length<=4096):fh (xO d) 0:=avG d h d.length 0 V
def Zk(d:P8)(h:0<d.length):xO d≠[]:=by
 unfold xO;obtain⟨m,hm⟩:∃m,d.length=m+1:=⟨d.length-1,V⟩
 rw[hm,xc d m 0 V];simp
def Wy(n:Nat)(b:Bool):(vP n b).length=2:=rfl
def ami{g1 g2 l:PW}{t:c7}(h:g1++t::g2=l){i:Int}(W:i=g1.length):(l.map c7.pv)[i.toNat]?=some t.pv:=by
 subst h;subst W;rw[zaC,zaD,zak (zai _),zcc];rfl
def ahy(l:PW)(h:l≠[]):0<(oR l).length:=by
 unfold oR;cases l with
 |nil=>exact ll
 |cons t l=>simp[fA]
def s_(t:c7)(a:Nat):Int:=
 if 4096<=a then 8
 else if t.d≠0 then
  (if t.b≠0 then 3 else if ¬(1<=t.d/\t.d<=a/\3<=t.l/\t.l<=Gn a)then 2 else if 4096<a+t.l then 8 else 0)
 else(if t.l≠0 then 3 else if ¬(0<=t.b/\t.b<=255)then 2 else 0)
def K_{t:c7}{a:Nat}:s_ t a=0↔qD t a:=by
 unfold s_ qD
 grind
def dx:PW->Nat->Nat->Int×Int
 |[],_,_=>(0,0)
 |t::l,i,a=>if s_ t a≠0 then((i:Int),s_ t a)else dx l (i+1) (a+t.made.toNat)
def lM(l:PW):Int×Int:=if l=[]then(0,17)else dx l 0 0
def Nl:∀(l:PW) (i a:Nat),(dx l i a).2=0↔fh l a:=by
 intro l
 induction l with
 |nil=>simp[dx,fh]
 |cons t l ih=>
  intro i a;unfold dx fh;split
  ·rename_i h;constructor
   ·omega
   ·intro h';exact absurd (K_.2 h'.1) h
  ·rename_i h;have:=K_.1 (zb3 h)
   grind
def US:∀(l:PW) (i a:Nat),(dx l i a).2=0->(dx l i a).1=0:=by
 intro l
 induction l with
 |nil=>intro i a _;rfl
 |cons t l ih=>
  intro i a h;unfold dx at h ⊢
  grind
def Z9{l:PW}(h:(lM l).2=0):(lM l).1=0/\l≠[]/\fh l 0:=by
 unfold lM at h ⊢;split at h
 ·cases h
 ·rename_i hl;rw[if_neg hl];exact⟨US _ _ _ h,hl,(Nl _ _ _).1 h⟩
def jo:Nat->Nat->P8->P8
 |0,_,out=>out
 |n+1,d,out=>jo n d (out++[out[out.length-d]?.getD 0])
def Nz:∀(n d:Nat) (out:P8),(jo n d out).length=out.length+n:=by
 intro n
 induction n with
 |zero=>intro d out;rfl
 |succ n ih=>simp only[jo,ih,zad,zap,zbh];omega
def KQ(t:c7)(out:P8):P8:=if t.d≠0 then jo t.l.toNat t.d.toNat out else out++[jW t.b.toNat]
def Ag:PW->P8->P8
 |[],out=>out
 |t::l,out=>Ag l (KQ t out)
def adn(l:PW):P8:=Ag l []
def D2{t:c7}{a:Nat}(h:qD t a)(out:P8):(KQ t out).length=out.length+t.made.toNat:=by
 unfold KQ c7.made;split
 ·rw[Nz]
 ·simp
def agy:∀(l:PW) (out:P8) (a:Nat),fh l a->(Ag l out).length+a=out.length+gQ l a:=by
 intro l
 induction l with
 |nil=>intro out a _;rfl
 |cons t l ih=>
  intro out a h;obtain⟨U,H⟩:=h;have h3:=ih (KQ t out) _ H;have h4:=D2 U out;simp only[Ag,gQ];omega
def arS:∀(l:PW) (a:Nat),fh l a->a<=4096->gQ l a<=4096:=by
 intro l
 induction l with
 |nil=>intro a _ h;exact h
 |cons t l ih=>
  intro a h _;have:=zQ h.1;exact ih _ h.2 V
def bR{K:Bool->Prop}(k:K false):∀r:Bool,(r=true↔true=false)->K r:=λr J=>by
 cases r with
 |false=>exact k
 |true=>exact absurd (J.1 rfl) ai
def ec{K:Bool->Prop}(k:K true):∀r:Bool,(r=true↔false=false)->K r:=λr J=>by
 cases r with
 |false=>exact absurd (J.2 rfl) ai
 |true=>exact k
def TH(ps:CK)(x:PV):Prop:=∃(t:c7) (a:Nat),ps=[t.pv,pI a]/\a<=4096/\x=pI (s_ t a)
def afR(a b:Int):aZ [a,b]=if a=0 then b else a:=by
 show(if a=0 then(if b=0 then 0 else b)else a)=_;by_cases h:b=0
 ·rw[if_pos h,h]
 ·rw[if_neg h]
def adu(e:Int):cQ true e=0:=rfl
def Qz(e:Int):cQ false e=e:=rfl
def age{t:c7}{a:Nat}(h:¬(a:Int)<4096):s_ t a=8:=yM
def aj4{t:c7}{a:Nat}(h:(a:Int)<4096)(hd:t.d≠0)(I:t.b≠0):s_ t a=3:=yM
def abV{t:c7}{a:Nat}(h:(a:Int)<4096)(hd:t.d≠0)(I:t.b=0):s_ t a=if ¬(1<=t.d/\t.d<=a/\3<=t.l/\t.l<=Gn a)then 2 else if 4096<a+t.l then 8 else 0:=yM
def akN{t:c7}{a:Nat}(h:(a:Int)<4096)(hd:¬t.d≠0)(I:t.l≠0):s_ t a=3:=yM
def apg{t:c7}{a:Nat}(h:(a:Int)<4096)(hd:¬t.d≠0)(I:t.l=0):s_ t a=if ¬(0<=t.b/\t.b<=255)then 2 else 0:=yM
def Q0:MT (ao [(260,ah fN),(218,ah kT),(217,ah qQ),(304,ah wZ),(305,ah nD),(258,ah iH)]) tR (ah TH):=by
 rintro _ K ⟨_,⟨t,a,rfl,ha,rfl⟩,Y⟩;refine⟨ae,?_⟩;refine λb I=>?_
 refine⟨_,⟨b,8,rfl,rfl⟩,?_⟩;have big:= @age t a;cases F:t.copy with
 |true=>
  have hd:t.d≠0:=sg;refine⟨pB true,⟨t,rfl,kn⟩,?_⟩;refine λe he=>?_
  rcases cmp he with⟨rfl,U⟩|⟨rfl,U⟩
  ·refine⟨_,⟨true,3,rfl,rfl⟩,?_⟩;refine⟨rfl,?_⟩;refine⟨_,⟨[cQ b 8,cQ true 3],rfl,rfl⟩,?_⟩;rcases cmp I with⟨rfl,h⟩|⟨rfl,h⟩
   ·refine λq hq=>?_
    rcases cmp hq with⟨rfl,H⟩|⟨rfl,H⟩
    ·exact absurd rfl H
    refine⟨_,⟨_,_,_,rfl,rfl⟩,?_⟩;refine⟨pB true,⟨t,rfl,kn⟩,?_⟩;refine⟨ae,?_⟩;by_cases H:1<=t.d/\t.d<=a
    ·refine⟨pB true,⟨_,_,_,rfl,Gt nh⟩,?_⟩;refine⟨_,⟨a,rfl,V,rfl⟩,?_⟩;refine⟨_,⟨_,_,_,rfl,rfl⟩,?_⟩;refine⟨ae,?_⟩;refine⟨_,⟨decide (3<=t.l/\t.l<=Cw a),2,rfl,rfl⟩,?_⟩;refine⟨_,⟨t,rfl,rfl⟩,?_⟩;refine λx T=>?_
     obtain rfl:=jb T V;refine λc HO=>?_
     refine⟨_,⟨c,8,rfl,rfl⟩,?_⟩;refine⟨rfl,?_⟩;refine⟨_,⟨[cQ (decide (3<=t.l/\t.l<=Cw a)) 2,cQ c 8],rfl,rfl⟩,?_⟩;refine⟨.pv (pI _),cn ?_,trivial,Y⟩;rw[afR,abV h hd U];have hm:t.made=t.l:=QW;rw[hm]at HO;unfold Cw;rw[zaC];by_cases h3:3<=t.l/\t.l<=(Gn a:Int)
     ·rw[decide_eq_true h3,adu,if_pos rfl,if_neg (λhn=>hn ⟨H.1,H.2,h3⟩)];rcases cmp HO with⟨rfl,h4⟩|⟨rfl,h4⟩
      ·rw[if_neg V];rfl
      ·rw[if_pos V];rfl
     ·rw[decide_eq_false h3,Qz,if_neg (show ¬(2:Int)=0 by decide),if_pos (λhn=>h3 hn.2.2)]
    ·refine⟨pB false,⟨_,_,_,rfl,Gt nh⟩,?_⟩;refine⟨ae,?_⟩;refine⟨_,⟨false,2,rfl,rfl⟩,?_⟩;refine⟨_,⟨t,rfl,rfl⟩,?_⟩;refine λx T=>?_
     obtain rfl:=jb T V;refine λc HO=>?_
     refine⟨_,⟨c,8,rfl,rfl⟩,?_⟩;refine⟨rfl,?_⟩;refine⟨_,⟨[cQ false 2,cQ c 8],rfl,rfl⟩,?_⟩;refine⟨.pv (pI _),cn ?_,trivial,Y⟩;rw[afR,Qz,if_neg ai];rw[abV h hd U,if_pos (λhn=>H ⟨hn.1,hn.2.1⟩)]
   ·refine λq hq=>?_
    rcases cmp hq with⟨rfl,H⟩|⟨rfl,H⟩
    ·refine⟨.pv (pI _),cn ?_,trivial,Y⟩;rw[big h];rfl
    ·exact absurd ai H
  ·refine⟨pB true,⟨t,rfl,kn⟩,?_⟩;refine bR ?_;refine⟨_,⟨false,3,rfl,rfl⟩,?_⟩;refine⟨rfl,?_⟩;refine⟨_,⟨[cQ b 8,cQ false 3],rfl,rfl⟩,?_⟩;refine λq hq=>?_
   rcases cmp I with⟨rfl,h⟩|⟨rfl,h⟩
   ·rcases cmp hq with⟨rfl,H⟩|⟨rfl,H⟩
    ·refine⟨.pv (pI _),cn ?_,trivial,Y⟩;rw[aj4 h hd U];rfl
    ·exact absurd ai H
   ·rcases cmp hq with⟨rfl,H⟩|⟨rfl,H⟩
    ·refine⟨.pv (pI _),cn ?_,trivial,Y⟩;rw[big h];rfl
    ·exact absurd ai H
 |false=>
  have hd:¬t.d≠0:=sg;have hm:t.made=1:=Sq;refine⟨pB false,⟨t,rfl,kn⟩,?_⟩;refine⟨pB false,⟨t,rfl,kn⟩,?_⟩;refine ec ?_;refine λe he=>?_
  refine⟨_,⟨e,3,rfl,rfl⟩,?_⟩;refine⟨rfl,?_⟩;refine⟨_,⟨[cQ b 8,cQ e 3],rfl,rfl⟩,?_⟩;refine λq hq=>?_
  rcases cmp I with⟨rfl,h⟩|⟨rfl,h⟩
  ·rcases cmp he with⟨rfl,U⟩|⟨rfl,U⟩
   ·rcases cmp hq with⟨rfl,H⟩|⟨rfl,H⟩
    ·exact absurd rfl H
    refine⟨_,⟨_,_,_,rfl,rfl⟩,?_⟩;refine⟨pB false,⟨t,rfl,kn⟩,?_⟩;refine⟨ae,?_⟩;refine⟨_,⟨decide (0<=t.b/\t.b<=255),2,rfl,rfl⟩,?_⟩;refine⟨_,⟨t,rfl,rfl⟩,?_⟩;refine λx T=>?_
    obtain rfl:=jb T V;refine λc HO=>?_
    refine⟨_,⟨c,8,rfl,rfl⟩,?_⟩;refine⟨rfl,?_⟩;refine⟨_,⟨[cQ (decide (0<=t.b/\t.b<=255)) 2,cQ c 8],rfl,rfl⟩,?_⟩;refine⟨.pv (pI _),cn ?_,trivial,Y⟩;rw[hm]at HO;rw[afR,apg h hd U];by_cases h3:0<=t.b/\t.b<=255
    ·rw[decide_eq_true h3,adu,if_pos rfl,if_neg (λhn=>hn h3)];rcases cmp HO with⟨rfl,h4⟩|⟨rfl,h4⟩
     ·rfl
     ·omega
    ·rw[decide_eq_false h3,Qz,if_neg (show ¬(2:Int)=0 by decide),if_pos h3]
   ·rcases cmp hq with⟨rfl,H⟩|⟨rfl,H⟩
    ·refine⟨.pv (pI _),cn ?_,trivial,Y⟩;rw[akN h hd U];rfl
    ·exact absurd ai H
  ·have h8:aZ [cQ false 8,cQ e 3]=8:=rfl;rcases cmp hq with⟨rfl,H⟩|⟨rfl,H⟩
   ·refine⟨.pv (pI _),cn ?_,trivial,Y⟩;rw[big h,h8]
   ·exact absurd (by rw[h8];decide) H
def FZ:Spec:=AT true false λps K=>∃l:PW,ps=[.sl 3 (l.map c7.pv)]/\l.length<=5000/\K (.tup [.pv (pI (lM l).1),.pv (pI (lM l).2)])
def Jf:MT (ao [(287,ah TH),(258,ah iH)]) pG FZ:=by
 rintro _ K ⟨l,rfl,hl,Y⟩;refine λ_=>?_
 refine λb I=>?_
 rw[zaw]at I;rcases cmp I with⟨rfl,h⟩|⟨rfl,h⟩
 ·have:l=[]:=zaf V;subst this;exact QY
 have ca:l≠[]:=by intro e;subst e;exact h rfl
 have F:lM l=dx l 0 0:=by unfold lM;rw[if_neg ca]
 rw[F]at Y;refine λ_=>?_
 rw[zaw];refine⟨λm env Z=>∃(g1 g2:PW) (a:Nat),(g1++g2=l/\g2.length=m/\a<=4096/\dx l 0 0=dx g2 g1.length a)/\Z=[]/\env=[eN 4 a,(11,.pv (.sl 3 (l.map c7.pv))),eN 12 l.length,eN 13 g1.length],l.length,⟨[],l,0,⟨rfl,rfl,V,rfl⟩,rfl,rfl⟩,?_⟩;rintro m env Z ⟨g1,g2,a,⟨hg,hm,ha,b9⟩,rfl,rfl⟩;have hgl:g1.length+g2.length=l.length:=Iu;refine λb I=>?_
 rcases cmp I with⟨rfl,H⟩|⟨rfl,H⟩
 ·cases g2 with
  |nil=>simp at hgl;omega
  |cons t g2=>
  simp only[zap]at hgl hm;refine⟨_,⟨V,ami hg rfl⟩,?_⟩;refine⟨rfl,?_⟩;refine⟨_,⟨t,a,rfl,ha,rfl⟩,?_⟩;refine λb I=>?_
  rcases cmp I with⟨rfl,h3⟩|⟨rfl,h3⟩
  ·refine⟨[.pv (pI _),.pv (pI _)],⟨rfl,rfl,trivial⟩,⟨trivial,trivial,trivial⟩,?_⟩;rw[b9,dx,if_pos h3]at Y;exact Y
  ·have b_:=K_.1 (zb3 h3);have hmt:=zQ b_;refine⟨_,⟨t,rfl,rfl⟩,?_⟩;refine λx T=>?_
   obtain rfl:=jb T V;refine λx T=>?_
   obtain rfl:=jb T V;refine⟨g2.length,V,g1++[t],g2,a+t.made.toNat,⟨v_,rfl,V,?_⟩,rfl,?_⟩
   ·rw[b9,dx,if_neg h3];simp
   ·rw[show((a+t.made.toNat:Nat):Int)=(a:Int)+t.made by omega,zad];rfl
 ·have:g2=[]:=zaf V;subst this;rw[b9]at Y;exact QY
def IS:∀(k d:Nat) (out:P8),jo (k+1) d out=jo k d out++[(jo k d out)[(jo k d out).length-d]?.getD 0]:=by
 intro k
 induction k with
 |zero=>intro d out;rfl
 |succ k ih=>
  intro d out;show jo (k+1) d (out++[out[out.length-d]?.getD 0])=_;rw[ih];rfl
def QA:Spec:=AT true false λps K=>∃l:PW,ps=[.sl 3 (l.map c7.pv)]/\fh l 0/\K (.pv (.str (adn l)))
def R_:MT (ao [(260,ah fN)]) tF QA:=by
 rintro _ K ⟨l,rfl,b_,Y⟩;have hlen:l.length<=4096:=by
  by_cases h:l=[]
  ·subst h;simp
  ·have:=Hc l 0 b_ h;omega
 refine λ_=>?_
 rw[zaw];refine⟨λm env Z=>∃(g1 g2:PW) (out:P8),(g1++g2=l/\g2.length=m/\fh g2 out.length/\out.length<=4096/\adn l=Ag g2 out)/\Z=[.row 5 1 true (out.map aG)]/\env=[(3,.own 0),(6,.pv (.sl 3 (l.map c7.pv))),eN 7 l.length,eN 8 g1.length],l.length,⟨[],l,[],⟨rfl,rfl,b_,ab,rfl⟩,rfl,rfl⟩,?_⟩;rintro m env Z ⟨g1,g2,out,⟨hg,hm,Ub,atH,b9⟩,rfl,rfl⟩;have hgl:g1.length+g2.length=l.length:=Iu;refine λb I=>?_
 rcases cmp I with⟨rfl,H⟩|⟨rfl,H⟩
 ·cases g2 with
  |nil=>simp at hgl;omega
  |cons t g2=>
  simp only[zap]at hgl hm;obtain⟨KM,aBn⟩:=Ub;have hmt:=zQ KM;have hto:=KM;unfold qD at hto;refine⟨_,⟨V,ami hg rfl⟩,?_⟩;refine⟨rfl,?_⟩;cases F:t.copy with
  |false=>
   have hd:¬t.d≠0:=sg;have hm1:t.made=1:=Sq;rw[if_neg hd]at hto;refine⟨pB false,⟨t,rfl,kn⟩,?_⟩;refine ec ?_;refine λx T=>?_
   rw[Mh]at T;refine⟨rfl,?_⟩;refine⟨⟨aH,aH⟩,?_⟩;refine λy hy=>?_
   obtain rfl:=jb hy V;have e:KQ t out=out++[jW t.b.toNat]:=by unfold KQ;rw[if_neg hd]
   refine⟨g2.length,V,g1++[t],g2,KQ t out,⟨v_,rfl,?_,?_,?_⟩,?_,?_⟩
   ·rw[D2 KM];exact aBn
   ·rw[D2 KM];omega
   ·rw[b9];rfl
   ·rw[e,rY (n:=x) V,zaY,show x.toNat=t.b.toNat by omega];rfl
   ·rw[zad];rfl
  |true=>
   have hd:t.d≠0:=sg;have hm1:t.made=t.l:=QW;rw[if_pos hd]at hto;refine⟨pB true,⟨t,rfl,kn⟩,?_⟩;refine bR ?_;refine⟨λm2 env Z=>∃k:Nat,(k+m2=t.l)/\Z=[.row 5 1 true ((jo k t.d.toNat out).map aG),.box 206 [.pv (pI t.d),.pv (pI t.l),.pv (pI t.b)]]/\env=[(3,.own 0),(5,.ref 1 0 0),(6,.pv (.sl 3 (l.map c7.pv))),eN 7 l.length,eN 8 g1.length,eN 22 t.l,eN 23 k],t.l.toNat,⟨0,V,rfl,rfl⟩,?_⟩;rintro m2 env Z ⟨k,E,rfl,rfl⟩;have iX:=Nz k t.d.toNat out;refine λb I=>?_
   rcases cmp I with⟨rfl,h3⟩|⟨rfl,h3⟩
   ·refine λ_=>?_
    rw[zaw];refine λx T=>?_
    obtain rfl:=jb T V;obtain⟨v,hv⟩:∃v,(jo k t.d.toNat out)[(jo k t.d.toNat out).length-t.d.toNat]?=some v:=JP;refine⟨⟨V,pd⟩,aG v,?_,?_⟩
    ·rw[zaD,show(((jo k t.d.toNat out).length:Int)-t.d).toNat=(jo k t.d.toNat out).length-t.d.toNat by omega,hv];rfl
    refine⟨rfl,?_⟩;refine⟨⟨aH,aH⟩,?_⟩;refine λy hy=>?_
    obtain rfl:=jb hy V;refine⟨m2-1,V,k+1,V,?_,rfl⟩;rw[IS,hv,zaY];rfl
   ·have ek:k=t.l.toNat:=by omega
    subst ek;have e:KQ t out=jo t.l.toNat t.d.toNat out:=by unfold KQ;rw[if_pos hd]
    refine λy hy=>?_
    obtain rfl:=jb hy V;refine⟨g2.length,V,g1++[t],g2,KQ t out,⟨v_,rfl,?_,?_,?_⟩,?_,?_⟩
    ·rw[D2 KM];exact aBn
    ·rw[D2 KM];omega
    ·rw[b9];rfl
    ·rw[e]
    ·rw[zad];rfl
 ·have:g2=[]:=zaf V;subst this;rw[b9]at Y;refine⟨out,rfl,?_⟩;exact fJ
def dJ(s:P8):Nat:=(s[0]?.getD 0).toNat+256*(s[1]?.getD 0).toNat
def Jr(s:P8):dJ s<65536:=by
 have U:=(s[0]?.getD 0).toNat_lt;have H:=(s[1]?.getD 0).toNat_lt;unfold dJ;omega
def Tb(ps:CK)(x:PV):Prop:=∃s:P8,ps=[.str s]/\2<=s.length/\x=pI (dJ s)
def XO:MT (ao []) wO (ah Tb):=by
 rintro _ K ⟨_,⟨s,rfl,hs,rfl⟩,Y⟩;obtain⟨b0,h0⟩:∃b,s[0]?=some b:=by rw[zah V];simp
 obtain⟨b1,U⟩:∃b,s[1]?=some b:=au;have l0:=b0.toNat_lt;have l1:=b1.toNat_lt;refine⟨dw,?_⟩;refine⟨_,⟨V,h0⟩,?_⟩;refine λx T=>?_
 have T:=jb T V;rw[T];refine⟨_,⟨V,U⟩,?_⟩;refine λy hy=>?_
 have hy:=jb hy V;rw[hy];refine⟨V,?_⟩;refine λz hz=>?_
 have e:((b1.toNat:Int).toNat*2^(Int.toNat 8):Nat)=2^8*b1.toNat:=au;rw[amZ V V V]at hz;subst hz;refine λq hq=>?_
 rw[e,ar5 V V,Hs V]at hq;refine⟨.pv (pI _),cn ?_,trivial,Y⟩;unfold dJ
 grind
def ane{w:Nat}(h:w<65536):w&&&32768≠0↔32768<=w:=by
 have e:(32768:Nat)=2^15:=rfl;constructor
 ·intro hn;refine zb3 λaM=>hn ?_
  apply Nat.eq_of_testBit_eq;intro j;rw[e,Nat.testBit_and,Nat.testBit_two_pow]
  grind
 ·intro hle hz;have h3:(w&&&32768).testBit 15=true:=au
  grind
def adI:Spec:=AT true false λps K=>∃(s:P8) (ex:Bool),ps=[.str s,pB ex]/\s.length<=5000/\
 (s.length<2->K (.tup [.pv (.str []),.pv (pB false),.pv (pI 14)]))/\
 (2<=s.length->(dJ s/4096%8≠3->K (.tup [.pv (.str []),.pv (pB (decide (32768<=dJ s))),.pv (pI 3)]))/\
   (dJ s/4096%8=3->(s.length-2<dJ s%4096+1\/(ex=true/\dJ s%4096+1<s.length-2)->K (.tup [.pv (.str []),.pv (pB (decide (32768<=dJ s))),.pv (pI 10)]))/\
     (¬(s.length-2<dJ s%4096+1\/(ex=true/\dJ s%4096+1<s.length-2))->K (.tup [.pv (.str ((s.drop 2).take (dJ s%4096+1))),.pv (pB (decide (32768<=dJ s))),.pv (pI 0)]))))
def YR:MT (ao [(256,ah Tb),(218,ah kT)]) wN adI:=by
 rintro _ K ⟨s,ex,rfl,hs,yd,qO⟩;refine λb I=>?_
 rcases cmp I with⟨rfl,h⟩|⟨rfl,h⟩
 ·exact⟨[.pv (.str _),.pv (pB _),.pv _],⟨rfl,rfl,rfl,trivial⟩,⟨trivial,trivial,trivial,trivial⟩,yd V⟩
 have H:2<=s.length:=V;have Y:=qO H;have hw:=Jr s;refine⟨_,⟨s,rfl,H,rfl⟩,?_⟩;refine λx T=>?_
 rw[show(4095:Int)=((4095:Nat):Int)from rfl,ac6 V ai,show(4095:Nat)=2^12-1 from rfl,Jj]at T;subst T;refine λx T=>?_
 obtain rfl:=jb T V;refine⟨V,?_⟩;have e9:cut (Int.toNat 2) s.length s=s.drop 2:=zr 2 s;refine⟨V,?_⟩;refine λx T=>?_
 have T:x=((dJ s/4096:Nat):Int):=by
  rw[T];show((dJ s:Nat):Int).fdiv (2^12)=_;rw[zb5 _ ai];rfl
 subst T;refine λx T=>?_
 rw[show(7:Int)=((7:Nat):Int)from rfl,ac6 V ai,show(7:Nat)=2^3-1 from rfl,Jj]at T;subst T;refine λb3 Z5=>?_
 refine⟨_,⟨b3,3,rfl,rfl⟩,?_⟩;refine λx T=>?_
 rw[show(32768:Int)=((32768:Nat):Int)from rfl,ac6 V ai]at T;have h15:=ane (Jr s);subst T;refine λc F=>?_
 have hcd:c=decide (32768<=dJ s):=by
  rw[Bool.eq_iff_iff,F,decide_eq_true_iff,<-h15];omega
 subst hcd;refine λb I=>?_
 rcases cmp Z5 with⟨rfl,h3⟩|⟨rfl,h3⟩
 ·rcases cmp I with⟨rfl,h⟩|⟨rfl,h⟩
  ·exact ll
  have Y:=Y.2 V;refine λb I=>?_
  rw[e9,zay]at I;rcases cmp I with⟨rfl,h4⟩|⟨rfl,h4⟩
  ·exact⟨[.pv (.str _),.pv (pB _),.pv _],⟨rfl,rfl,rfl,trivial⟩,⟨trivial,trivial,trivial,trivial⟩,Y.1 (.inl V)⟩
  have at6:cut 0 (((dJ s%2^12:Nat):Int)+1).toNat (cut (Int.toNat 2) s.length s)=(s.drop 2).take (dJ s%4096+1):=by
   rw[e9,acd,show(((dJ s%2^12:Nat):Int)+1).toNat=dJ s%4096+1 by omega]
  cases ex with
  |false=>
   have Y:=Y.2 (by rintro(h5|⟨h5,_⟩);omega;cases h5);rw[<-at6]at Y;refine⟨⟨V,by rw[e9,zay];omega⟩,?_⟩;exact⟨[.pv (.str _),.pv (pB _),.pv _],⟨rfl,rfl,rfl,trivial⟩,⟨trivial,trivial,trivial,trivial⟩,Y⟩
  |true=>
   refine λb I=>?_
   rw[e9,zay]at I;rcases cmp I with⟨rfl,h5⟩|⟨rfl,h5⟩
   ·exact⟨[.pv (.str _),.pv (pB _),.pv _],⟨rfl,rfl,rfl,trivial⟩,⟨trivial,trivial,trivial,trivial⟩,Y.1 (.inr ⟨rfl,V⟩)⟩
   have Y:=Y.2 (by rintro(h6|⟨_,h6⟩);omega;omega);rw[<-at6]at Y;refine⟨⟨V,by rw[e9,zay];omega⟩,?_⟩;exact⟨[.pv (.str _),.pv (pB _),.pv _],⟨rfl,rfl,rfl,trivial⟩,⟨trivial,trivial,trivial,trivial⟩,Y⟩
 ·rcases cmp I with⟨rfl,h⟩|⟨rfl,h⟩
  ·exact⟨[.pv (.str _),.pv (pB _),.pv _],⟨rfl,rfl,rfl,trivial⟩,⟨trivial,trivial,trivial,trivial⟩,Y.1 V⟩
  ·exact yY
def De(g w:Nat):c7:=⟨((w/2^g+1:Nat):Int),((w%2^g+3:Nat):Int),0⟩
def XV(s:P8):c7:=⟨0,0,((s[0]?.getD 0).toNat:Int)⟩
def vC(s:P8):Nat:=(s[0]?.getD 0).toNat+256*(s[1]?.getD 0).toNat
def bX(g:Nat->Nat):Nat->Nat->Nat->P8->Nat->Int×PW
 |0,_,_,_,_=>(0,[])
 |n+1,0,_,s,a=>if s=[]then(0,[])else if s.length=1 then(14,[])else bX g n 8 (s[0]?.getD 0).toNat (s.drop 1) a
 |n+1,left+1,f,s,a=>
  if s=[]then(if f≠0 then(3,[])else(0,[]))
  else if f%2=1 then
   (if s.length<2 then(14,[])else((bX g n left (f/2) (s.drop 2) (a+(De (g a) (vC s)).made.toNat)).1,De (g a) (vC s)::(bX g n left (f/2) (s.drop 2) (a+(De (g a) (vC s)).made.toNat)).2))
  else((bX g n left (f/2) (s.drop 1) (a+1)).1,XV s::(bX g n left (f/2) (s.drop 1) (a+1)).2)
def af2(g h:Nat->Nat):∀(n left f:Nat) (s:P8) (a b:Nat),(bX g n left f s a).1=(bX h n left f s b).1:=by
 intro n
 induction n with
 |zero=>intro left f s a b;rfl
 |succ n ih=>
  intro left f s a b;cases left with
  |zero=>
   simp only[bX]
   grind
  |succ left=>
   simp only[bX]
   grind
def Qq{t:c7}{a:Nat}(h:4096<=a):s_ t a=8:=yM
def acA(g h:Nat->Nat)(hgh:∀a,a<4096->g a=h a):∀(n left f:Nat) (s:P8) (a i:Nat),dx (bX g n left f s a).2 i a=dx (bX h n left f s a).2 i a/\((dx (bX g n left f s a).2 i a).2=0->(bX g n left f s a).2=(bX h n left f s a).2)/\((bX g n left f s a).2=[]↔(bX h n left f s a).2=[]):=by
 intro n
 induction n with
 |zero=>intro left f s a i;exact JD
 |succ n ih=>
  intro left f s a i;have step:∀(t u:c7) (s':P8),(a<4096->t=u)->
   dx (t::(bX g n left.pred (f/2) s' (a+t.made.toNat)).2) i a=dx (u::(bX h n left.pred (f/2) s' (a+u.made.toNat)).2) i a/\((dx (t::(bX g n left.pred (f/2) s' (a+t.made.toNat)).2) i a).2=0->t::(bX g n left.pred (f/2) s' (a+t.made.toNat)).2=u::(bX h n left.pred (f/2) s' (a+u.made.toNat)).2):=by
   intro t u s' htu;by_cases ha:a<4096
   ·have:=htu ha;subst this;simp only[dx];split
    ·rename_i he;exact⟨rfl,λh0=>absurd h0 he⟩
    ·have U:=ih left.pred (f/2) s' (a+t.made.toNat) (i+1);exact⟨U.1,λh0=>by rw[U.2.1 h0]⟩
   ·simp only[dx,Qq (t:=t) (a:=a) V,Qq (t:=u) (a:=a) V];exact⟨rfl,λh0=>by cases h0⟩
  cases left with
  |zero=>
   simp only[bX];split
   ·exact JD
   ·split
    ·exact JD
    ·exact ih _ _ _ _ _
  |succ left=>
   simp only[bX];split
   ·exact⟨rfl,λ_=>by split<;>rfl,by split<;>exact Iff.rfl⟩
   ·split
    ·split
     ·exact JD
     ·have:=step (De (g a) (vC s)) (De (h a) (vC s)) (s.drop 2) (λha=>by rw[hgh a ha]);exact⟨this.1,this.2,ab⟩
    ·have:=step (XV s) (XV s) (s.drop 1) (λ_=>rfl);have e:(XV s).made.toNat=1:=rfl;rw[e]at this;exact⟨this.1,this.2,ab⟩
def GL(g:Nat->Nat)(s:P8):PW×Int:=
 if (bX g (s.length+1) 0 0 s 0).1≠0 then([],(bX g (s.length+1) 0 0 s 0).1)
 else if (lM (bX g (s.length+1) 0 0 s 0).2).2≠0 then([],(lM (bX g (s.length+1) 0 0 s 0).2).2)else((bX g (s.length+1) 0 0 s 0).2,0)
def akM(g h:Nat->Nat)(hgh:∀a,a<4096->g a=h a)(s:P8):GL g s=GL h s:=by
 have U:=af2 g h (s.length+1) 0 0 s 0 0;have H:=acA g h hgh (s.length+1) 0 0 s 0 0;unfold GL;rw[U];split
 ·rfl
 ·have F:lM (bX g (s.length+1) 0 0 s 0).2=lM (bX h (s.length+1) 0 0 s 0).2:=by
   unfold lM
   grind
  rw[F];split
  ·rfl
  ·rename_i h3;have:(dx (bX g (s.length+1) 0 0 s 0).2 0 0).2=0:=by
    unfold lM at h3
    grind
   grind
def abd(g:Nat->Nat):∀(n left f:Nat) (s:P8) (a:Nat),s.length<n->bX g (n+1) left f s a=bX g n left f s a:=by
 intro n
 induction n with
 |zero=>omega
 |succ n ih=>
  intro left f s a h;cases left with
  |zero=>
   rw[bX,bX]
   grind
  |succ left=>
   rw[bX,bX];split
   ·rfl
   ·rename_i hs;have hl:=zb9.2 hs
    grind
def nG(g:Nat->Nat)(left f:Nat)(s:P8)(a:Nat):Int×PW:=bX g (s.length+1) left f s a
def WV(g:Nat->Nat)(f a:Nat):nG g 0 f [] a=(0,[]):=dw
def Cm(g:Nat->Nat)(left f a:Nat):nG g (left+1) f [] a=if f≠0 then(3,[])else(0,[]):=dw
def ar8(g:Nat->Nat)(f a:Nat){s:P8}(h:s.length=1):nG g 0 f s a=(14,[]):=by
 unfold nG;rw[bX,if_neg au,if_pos h]
def RW(g:Nat->Nat)(f a:Nat){s:P8}(h:2<=s.length):nG g 0 f s a=nG g 8 (s[0]?.getD 0).toNat (s.drop 1) a:=by
 unfold nG;rw[bX,if_neg au,if_neg V,zay,show s.length-1+1=s.length by omega]
def acp(g:Nat->Nat)(left f a:Nat){s:P8}(h:s.length=1)(hf:f%2=1):nG g (left+1) f s a=(14,[]):=by
 unfold nG;rw[bX,if_neg au,if_pos hf,if_pos V]
def Wv(g:Nat->Nat)(left f a:Nat){s:P8}(h:2<=s.length)(hf:f%2=1):
 nG g (left+1) f s a=((nG g left (f/2) (s.drop 2) (a+(De (g a) (vC s)).made.toNat)).1,De (g a) (vC s)::(nG g left (f/2) (s.drop 2) (a+(De (g a) (vC s)).made.toNat)).2):=by
 unfold nG;rw[bX,if_neg au,if_pos hf,if_neg V,zay];rw[<-abd g (s.length-2+1) left (f/2) (s.drop 2) _ ab,show s.length-2+1+1=s.length by omega]
def abw(g:Nat->Nat)(left f a:Nat){s:P8}(h:1<=s.length)(hf:¬f%2=1):
 nG g (left+1) f s a=((nG g left (f/2) (s.drop 1) (a+1)).1,XV s::(nG g left (f/2) (s.drop 1) (a+1)).2):=by
 unfold nG;rw[bX,if_neg au,if_neg hf,zay,show s.length-1+1=s.length by omega]
def DI(g:Nat->Nat)(s:P8):GL g s=if (nG g 0 0 s 0).1≠0 then([],(nG g 0 0 s 0).1)else if (lM (nG g 0 0 s 0).2).2≠0 then([],(lM (nG g 0 0 s 0).2).2)else((nG g 0 0 s 0).2,0):=rfl
def wT(g:Nat->Nat)(s0:P8)(acc:PW)(left f:Nat)(s:P8)(a:Nat):Prop:=
 nG g 0 0 s0 0=((nG g left f s a).1,acc++(nG g left f s a).2)
def Ah(a:Nat):Nat:=if a<4096 then 16-dp a else 16
def l7(a:Nat):Nat:=16-dp (min a 4095)
def aw4(a:Nat)(h:a<4096):Ah a=l7 a:=by unfold Ah l7;grind
def ar9(a:Nat):4<=l7 a/\l7 a<=12:=by
 have U:=uH (a:=min a 4095) V;have H:=Ei (min a 4095);unfold l7;omega
def akr(g:Nat->Nat)(l f a:Nat)(hf:f%2=0)(hl:f<2^(l+1)):nG g (l+1) f [] a=nG g l (f/2) [] a:=by
 cases l with
 |zero=>rw[Cm,WV,if_neg V]
 |succ l=>
  rw[Cm,Cm]
  grind
def WU:Spec:=AT true false λps K=>∃s:P8,ps=[.str s]/\s.length<=5000/\K (.tup [.fresh 206 3 ((GL l7 s).1.map c7.pv),.pv (pI (GL l7 s).2)])
def ZJ:MT (ao [(257,ah mg),(256,ah Tb),(258,ah iH),(259,FZ)]) xC WU:=by
 rintro _ K ⟨s0,rfl,hs0,Y⟩;refine⟨λm env Z=>∃(acc:PW) (f a:Nat) (s:P8),(s.length=m/\acc.length+s.length<=s0.length/\a<=70000*acc.length/\wT l7 s0 acc 0 f s a)/\Z=[.row 206 3 true (acc.map c7.pv)]/\env=[(0,.pv (.str s)),(4,.own 0),eN 5 a],s0.length,⟨[],0,0,s0,⟨rfl,ab,ab,by unfold wT;simp⟩,rfl,rfl⟩,?_⟩;rintro m env Z ⟨acc,f,a,s,⟨hm,hal,hab,HP⟩,rfl,rfl⟩;refine λb I=>?_
 rcases cmp I with⟨rfl,ca⟩|⟨rfl,ca⟩
 ·have zR:0<s.length:=zb9.2 ca;obtain⟨fb,hfb⟩:∃v,s[0]?=some v:=by rw[zah zR];exact⟨_,rfl⟩
  have PB:=fb.toNat_lt;have hd1:cut (Int.toNat 1) s.length s=s.drop 1:=zr 1 s;refine⟨_,⟨V,hfb⟩,?_⟩;refine⟨V,?_⟩;refine λb I=>?_
  rw[hd1]at I;rcases cmp I with⟨rfl,he⟩|⟨rfl,he⟩
  ·have VH:s.length=1:=by
    have:(s.drop 1).length=0:=by rw[he];rfl
    rw[zay]at this;omega
   have U:=ar8 l7 f a VH;unfold wT at HP;rw[U]at HP;rw[DI,HP]at Y;dsimp only at Y;rw[if_pos ai]at Y;exact Ki
  have FL:2<=s.length:=by
   have:0<(s.drop 1).length:=zb9.2 he;rw[zay]at this;omega
  have HP:wT l7 s0 acc 8 (fb.toNat/2^0) (s.drop 1) a:=by
   unfold wT at HP ⊢;rw[RW l7 f a FL,hfb]at HP;simpa using HP
  refine⟨λm2 env Z=>∃(acc:PW) (a k:Nat) (q:P8),(k+m2=8/\q.length<m/\acc.length+q.length<=s0.length/\a<=70000*acc.length/\wT l7 s0 acc (8-k) (fb.toNat/2^k) q a)/\Z=[.row 206 3 true (acc.map c7.pv)]/\env=[(0,.pv (.str q)),(4,.own 0),eN 5 a,(6,.pv (aG fb)),eN 22 k],8,⟨acc,a,0,s.drop 1,⟨rfl,gx,gx,hab,HP⟩,rfl,?_⟩,?_⟩
  ·show[(0,AV.pv (.str (cut (Int.toNat 1) s.length s))),(4,.own 0),eN 5 a,(6,.pv (aG fb)),eN 22 0]=_;rw[hd1];rfl
  clear HP hab hal hfb FL hd1;rintro m2 env Z ⟨acc,a,k,q,⟨E,hqm,hal,hab,HP⟩,rfl,rfl⟩;refine λb I=>?_
  rcases cmp I with⟨rfl,hk8⟩|⟨rfl,hk8⟩
  ·obtain⟨l,hl⟩:∃l,8-k=l+1:=⟨7-k,V⟩
   have T5:8-(k+1)=l:=V;have hfk:fb.toNat/2^(k+1)=fb.toNat/2^k/2:=by rw[zch,Nat.pow_succ]
   have aFp:fb.toNat/2^k<2^(l+1):=by
    rw[Nat.div_lt_iff_lt_mul (zcb k),<-zcF,show l+1+k=8 by omega];omega
   have aKm:fb.toNat/2^k<=fb.toNat:=zcL _ _;rw[hl]at HP;refine⟨V,?_⟩;refine λx T=>?_
   have T:x=((fb.toNat/2^k:Nat):Int):=by
    rw[T];have e8:min ((k:Int)).toNat IntKind.u8.bits=k:=by
     have:IntKind.u8.bits=8:=rfl;omega
    rw[e8,show((2:Int)^k)=((2^k:Nat):Int) by simp,zb5 _ (zcg _)];rfl
   subst T;generalize fb.toNat/2^k=fk at*;refine λx T=>?_
   rw[show(1:Int)=((1:Nat):Int)from rfl,aDQ V ai,show(1:Nat)=2^1-1 from rfl,Jj]at T;subst T;refine λb I=>?_
   rcases cmp I with⟨rfl,hq⟩|⟨rfl,hq⟩
   ·subst hq;refine λb I=>?_
    rcases cmp I with⟨rfl,sD⟩|⟨rfl,sD⟩
    ·unfold wT at HP;rw[Cm,if_pos V]at HP;rw[DI,HP]at Y;dsimp only at Y;rw[if_pos ai]at Y;exact Ki
    ·refine λy hy=>?_
     have hy:=jb hy V;rw[hy];refine⟨m2-1,V,acc,a,k+1,[],⟨V,hqm,hal,hab,?_⟩,rfl,rfl⟩;unfold wT at HP ⊢;rw[T5,hfk,HP,akr l7 l fk a V aFp]
   ·have hqp:0<q.length:=zb9.2 hq;obtain⟨v,hv⟩:∃v,q[0]?=some v:=by rw[zah hqp];exact⟨_,rfl⟩
    have PE:=v.toNat_lt;have aFq:XV q=⟨0,0,(v.toNat:Int)⟩:=by unfold XV;rw[hv];rfl
    have hd1:cut (Int.toNat 1) q.length q=q.drop 1:=zr 1 q;refine⟨_,⟨V,hv⟩,?_⟩;refine λy hy=>?_
    have hy:=jb hy V;rw[hy];refine⟨rfl,?_⟩;refine⟨rfl,?_⟩;refine λb I=>?_
    rcases cmp I with⟨rfl,sD⟩|⟨rfl,sD⟩
    ·have aBo:fk%2=1:=by omega
     refine λb nj=>?_
     rcases cmp nj with⟨rfl,h14⟩|⟨rfl,h14⟩
     ·have U:=acp l7 l fk a (s:=q) V aBo;unfold wT at HP;rw[U]at HP;rw[DI,HP]at Y;dsimp only at Y;rw[if_pos ai]at Y;exact Ki
     have fu:=Wv l7 l fk a (s:=q) V aBo;unfold wT at HP;rw[fu]at HP;have hwl:vC q<65536:=Jr _;have hwv:dJ q=vC q:=rfl;have hg:=ar9 a;refine λx T=>?_
     have T:x=((min a 4095:Nat):Int):=V;subst T;refine⟨_,⟨_,rfl,⟨V,V⟩,rfl⟩,?_⟩;unfold Ct;rw[zaC];refine λy hy=>?_
     have hgs:l7 a=16-dp (min a 4095):=rfl;have hs:=uH (a:=min a 4095) V;have hy:=jb hy V;have hy:y=(l7 a:Nat):=V;subst hy;refine⟨_,⟨q,rfl,V,rfl⟩,?_⟩;rw[hwv];generalize vC q=w at*;have hpg:=zcb (l7 a);have aKp:2^l7 a<=2^12:=zb4 V V;have qk:w/2^l7 a<=w:=zcL _ _;have hpm:w%2^l7 a<=w:=Nat.mod_le _ _;have PG:De (l7 a) w=⟨((w/2^l7 a:Nat):Int)+1,((w%2^l7 a:Nat):Int)+3,0⟩:=rfl;obtain⟨qq,hqq⟩:∃x,w/2^l7 a=x:=⟨_,rfl⟩
     obtain⟨r,J⟩:∃x,w%2^l7 a=x:=⟨_,rfl⟩
     rw[hqq,J]at PG;rw[hqq]at qk;rw[J]at hpm;refine⟨ae,?_⟩;refine⟨V,?_⟩;refine λy hy=>?_
     have hy:y=(qq:Int):=by
      rw[hy];have e8:min ((l7 a:Nat):Int).toNat IntKind.i64.bits=l7 a:=by
       have:IntKind.i64.bits=64:=rfl;omega
      rw[e8,show((2:Int)^l7 a)=((2^l7 a:Nat):Int) by simp,zb5 _ (zcg _),<-hqq];rfl
     subst hy;refine λy hy=>?_
     have hy:=jb hy V;rw[hy];refine⟨V,?_⟩;refine λy hy=>?_
     have hy:y=((2^l7 a:Nat):Int):=by
      rw[amZ V V (by rw[zaC];simp;omega)]at hy;rw[hy,zaC];simp
     subst hy;refine λy hy=>?_
     have hy:=jb hy V;have hy:y=((2^l7 a-1:Nat):Int):=V;subst hy;refine λy hy=>?_
     rw[ac6 V V,Jj,J]at hy;subst hy;refine λy hy=>?_
     have hy:=jb hy V;rw[hy];refine⟨rfl,?_⟩;refine⟨rfl,?_⟩;refine⟨rfl,?_⟩;have hmq:(⟨(qq:Int)+1,(r:Int)+3,0⟩:c7).made=(r:Int)+3:=by
      unfold c7.made;rw[if_pos (show(qq:Int)+1≠0 by omega)]
     rw[PG,hmq,show((r:Int)+3).toNat=r+3 by omega]at HP;refine⟨V,?_⟩;have aKq:(q.drop 1).length=q.length-1:=zay;have hd2:cut (Int.toNat 1) (q.drop 1).length (q.drop 1)=q.drop 2:=by rw[show cut (Int.toNat 1) (q.drop 1).length (q.drop 1)=(q.drop 1).drop 1 from zr 1 _,zaE]
     refine⟨by rw[hd1];omega,?_⟩;refine⟨rfl,?_⟩;refine⟨⟨aH,aH⟩,?_⟩;refine⟨_,⟨(⟨(qq:Int)+1,(r:Int)+3,0⟩:c7),rfl,rfl⟩,?_⟩;rw[hmq];refine λy hy=>?_
     have hy:=jb hy V;rw[hy];refine λy hy=>?_
     have hy:=jb hy V;rw[hy];refine⟨m2-1,V,acc++[(⟨(qq:Int)+1,(r:Int)+3,0⟩:c7)],a+(r+3),k+1,q.drop 2,⟨V,gx,aa4,by rw[zad,zap,zbh];omega,?_⟩,?_,?_⟩
     ·unfold wT;rw[T5,hfk,HP];simp
     ·rw[zaY];rfl
     ·show[(0,AV.pv (.str (cut (Int.toNat 1) (cut (Int.toNat 1) q.length q).length (cut (Int.toNat 1) q.length q)))),(4,.own 0),eN 5 ((a:Int)+((r:Int)+3)),(6,.pv (aG fb)),eN 22 ((k:Int)+1)]=_;rw[hd1,hd2,show((a+(r+3):Nat):Int)=(a:Int)+((r:Int)+3) by omega];rfl
    ·have th:¬fk%2=1:=by omega
     have fu:=abw l7 l fk a (s:=q) V th;unfold wT at HP;rw[fu,aFq]at HP;refine⟨V,?_⟩;refine⟨rfl,?_⟩;refine⟨⟨aH,aH⟩,?_⟩;refine⟨_,⟨(⟨0,0,(v.toNat:Int)⟩:c7),rfl,rfl⟩,?_⟩;have hm1:(⟨0,0,(v.toNat:Int)⟩:c7).made=1:=rfl;rw[hm1];refine λy hy=>?_
     have hy:=jb hy V;rw[hy];refine λy hy=>?_
     have hy:=jb hy V;rw[hy];refine⟨m2-1,V,acc++[(⟨0,0,(v.toNat:Int)⟩:c7)],a+1,k+1,q.drop 1,⟨V,gx,aa4,by rw[zad,zap,zbh];omega,?_⟩,?_,?_⟩
     ·unfold wT;rw[T5,hfk,HP];simp
     ·rw[zaY];rfl
     ·show[(0,AV.pv (.str (cut (Int.toNat 1) q.length q))),(4,.own 0),eN 5 ((a:Int)+1),(6,.pv (aG fb)),eN 22 ((k:Int)+1)]=_;rw[hd1];rfl
  ·have E:k=8:=by omega
   subst E;refine⟨q.length,V,acc,fb.toNat/2^8,a,q,⟨rfl,hal,hab,HP⟩,rfl,rfl⟩
 ·have:s=[]:=zb3 ca;subst this;unfold wT at HP;rw[WV]at HP;rw[DI,HP]at Y;dsimp only at Y;rw[if_neg ai,zbg]at Y;refine⟨acc,rfl,by simp at hal;omega,?_⟩;refine λb I=>?_
  rcases cmp I with⟨rfl,h⟩|⟨rfl,h⟩
  ·rw[if_pos h]at Y;exact Ki
  ·rw[if_neg h]at Y;exact⟨[.fresh _ _ _,.pv _],⟨⟨rfl,rfl,rfl,rfl⟩,rfl,trivial⟩,⟨WQ _,trivial,trivial⟩,Y⟩
def asz{g:Nat->Nat}{s:P8}(h:(GL g s).2=0):fh (GL g s).1 0:=by
 unfold GL at h ⊢;split at h
 ·rename_i U;exact absurd h U
 ·rename_i U;rw[if_neg U];split at h
  ·rename_i H;exact absurd h H
  ·rename_i H;rw[if_neg H];exact(Z9 (zb3 H)).2.2
def aC(n:Nat):P8:=List.replicate n 0
def Hv:∀n,Mw [0] n=aC n:=by
 intro n
 induction n with
 |zero=>rfl
 |succ n ih=>show[0]++Mw [0] n=_;rw[ih];rfl
def YN(ps:CK)(x:PV):Prop:=∃n:Int,ps=[pI n]/\(0<=n/\n<=200000)/\x=.str (aC n.toNat)
def ac0:MT (ao []) JY (ah YN):=by
 rintro _ K ⟨_,⟨n,rfl,h,rfl⟩,Y⟩;refine λx T=>?_
 refine λy hy=>?_
 have hy:y=n:=V;rw[hy];refine⟨V,?_⟩;refine⟨aC n.toNat,?_,?_⟩
 ·unfold aC;rw[zcp];rfl
 exact fJ
def YI(ps:CK)(x:PV):Prop:=∃n:Int,ps=[pI n]/\(0<=n/\n<=200000)/\x=.str (aC n.toNat)
def adl:MT (ao [(174,ah vW)]) yu (ah YI):=by
 rintro _ K ⟨_,⟨n,rfl,h,rfl⟩,Y⟩;refine⟨_,⟨[0],n,rfl,aH,rfl⟩,?_⟩;refine⟨.pv (.str _),?_,trivial,Y⟩;show PV.str (aC n.toNat)=PV.str (Mw [0] n.toNat);rw[Hv]
def GB(ps:CK)(x:PV):Prop:=∃n:Int,ps=[pI n]/\(0<=n/\n<=1000000)/\x=pI ((n+255)/256)
def Qx:MT (ao []) tA (ah GB):=by
 rintro _ K ⟨_,⟨n,rfl,h,rfl⟩,Y⟩;refine λx T=>?_
 have T:=jb T V;rw[T];refine λx T=>?_
 have T:=jb T V;rw[T];refine⟨ai,?_⟩;refine λx T=>?_
 rw[zb8 V]at T;have T:=jb T V;rw[T];refine⟨.pv (pI _),cn ?_,trivial,Y⟩;omega
def bB(n:Nat):(aC n).length=n:=by simp[aC]
def afe(s:P8):P8:=s++aC ((-(s.length:Int))%256).toNat
def gM(u:P8):P8:=
 if u=aC u.length then[]
 else if (oR (xO u)).length<=4096/\((oR (xO u)).length+2+255)/256*256<4096 then afe (vP (oR (xO u)).length true++oR (xO u))else u
def GV:Spec:=AT true false λps K=>∃u:P8,ps=[.str u]/\u.length<=100000/\(u.length≠4096->K (.tup [.pv (.str []),.pv (pI 10)]))/\(u.length=4096->K (.tup [.pv (.str (gM u)),.pv (pI 0)]))
def QC:MT (ao [(215,ah YI),(271,V1),(270,ahN),(221,ah GB)]) tM GV:=by
 rintro _ K ⟨u,rfl,VF,yd,qO⟩;refine λb I=>?_
 rcases cmp I with⟨rfl,h⟩|⟨rfl,h⟩
 ·exact⟨[.pv (.str _),.pv _],⟨rfl,rfl,trivial⟩,⟨trivial,trivial,trivial⟩,yd V⟩
 have hu:u.length=4096:=V;have Y:=qO hu;clear yd qO;unfold gM at Y;have I:=MV (xO u).length (xO u) 0;have hl:=Hc _ 0 (TF u V) (Zk u V);have VC:=ahy _ (Zk u V);have e:fA (xO u).length (xO u) 0=oR (xO u):=rfl;rw[e]at I;refine⟨_,⟨_,rfl,V,rfl⟩,?_⟩;rw[zaC];refine λb I=>?_
 rcases cmp I with⟨rfl,hz⟩|⟨rfl,hz⟩
 ·rw[if_pos hz]at Y;exact gV
 rw[if_neg hz]at Y;refine⟨u,rfl,V,?_⟩;refine⟨xO u,rfl,⟨Zk u V,TF u V⟩,λh5=>?_,λh5=>?_⟩
 ·rw[if_neg V]at Y;refine⟨_,⟨_,rfl,ab,rfl⟩,?_⟩;refine λx T=>?_
  have T:=jb T ab;rw[T];refine λb I=>?_
  rcases cmp I with⟨rfl,h⟩|⟨rfl,h⟩
  case inr=>exact yY
  exact gV
 ·generalize oR (xO u)=bd at*;have A8:(vP bd.length true++bd).length=bd.length+2:=by rw[zad,Wy];omega
  refine⟨_,⟨_,rfl,by rw[A8];omega,rfl⟩,?_⟩;rw[A8];refine λx T=>?_
  have T:=jb T V;rw[T];refine λb I=>?_
  rcases cmp I with⟨rfl,h⟩|⟨rfl,h⟩
  case inl=>exact ll
  refine λb I=>?_
  rcases cmp I with⟨rfl,h⟩|⟨rfl,h⟩
  ·rw[if_neg V]at Y;exact gV
  ·rw[if_pos V]at Y;refine λx T=>?_
   rw[A8]at T;have T:=jb T V;rw[T];refine⟨_,⟨_,rfl,V,rfl⟩,?_⟩;refine⟨by rw[A8,bB];omega,?_⟩;refine⟨[.pv (.str _),.pv _],⟨rfl,rfl,trivial⟩,⟨trivial,trivial,trivial⟩,?_⟩;unfold afe at Y;rw[A8]at Y;rw[show((-((bd.length+2:Nat):Int))%256).toNat=(((bd.length+2:Nat)+255:Int)/256*256-(bd.length+2:Nat)).toNat by omega]at Y;exact Y
def fD(s:P8):P8×Int:=
 if 4096<s.length\/s.length%256≠0 then([],10)
 else if s.length=0 then(aC 4096,0)
 else if s.length=4096 then(s,0)
 else if dJ s/4096%8≠3 then([],3)
 else if dJ s<32768 then([],15)
 else if s.length-2<dJ s%4096+1 then([],10)
 else if (GL Ah ((s.drop 2).take (dJ s%4096+1))).2≠0 then([],(GL Ah ((s.drop 2).take (dJ s%4096+1))).2)
 else if (adn (GL Ah ((s.drop 2).take (dJ s%4096+1))).1).length≠4096 then([],10)
 else if s.drop (2+(dJ s%4096+1))≠aC (s.length-(2+(dJ s%4096+1)))\/256<=s.length-(2+(dJ s%4096+1))then([],3)
 else(adn (GL Ah ((s.drop 2).take (dJ s%4096+1))).1,0)
def QV:Spec:=AT true false λps K=>∃s:P8,ps=[.str s]/\s.length<=5000/\K (.tup [.pv (.str (fD s).1),.pv (pI (fD s).2)])
def arH{l:PW}(h:fh l 0):(adn l).length<=4096:=by
 have U:=agy l [] 0 h;have H:=arS l 0 h V;unfold adn;simp at U;omega
def LU:MT (ao [(215,ah YI),(216,adI),(218,ah kT),(217,ah qQ),(219,WU),(220,QA),(221,ah GB)]) qz QV:=by
 rintro _ K ⟨s,rfl,hs,Y⟩;have hw:=Jr s;unfold fD at Y;refine λb I=>?_
 rcases cmp I with⟨rfl,U⟩|⟨rfl,U⟩
 ·rw[if_pos (.inl V)]at Y;exact gV
 refine⟨ai,?_⟩;refine λx T=>?_
 rw[zcd V]at T;rw[T];refine λb I=>?_
 rcases cmp I with⟨rfl,H⟩|⟨rfl,H⟩
 ·rw[if_pos (.inr V)]at Y;exact gV
 rw[if_neg (by rintro(h|h);omega;omega)]at Y;refine λb I=>?_
 rcases cmp I with⟨rfl,h3⟩|⟨rfl,h3⟩
 ·rw[if_pos V]at Y;refine⟨_,⟨4096,rfl,V,rfl⟩,?_⟩;exact gV
 rw[if_neg V]at Y;refine λb I=>?_
 rcases cmp I with⟨rfl,h4⟩|⟨rfl,h4⟩
 ·rw[if_pos V]at Y;exact gV
 rw[if_neg V]at Y;refine⟨s,false,rfl,hs,λh=>V,λFL=>⟨λh5=>?_,λh5=>⟨λh6=>?_,λh6=>?_⟩⟩⟩
 ·rw[if_pos h5]at Y;refine λb I=>?_
  rcases cmp I with⟨rfl,h⟩|⟨rfl,h⟩
  ·exact pf
  refine λb I=>?_
  rcases cmp I with⟨rfl,h⟩|⟨rfl,h⟩
  ·exact pf
  refine λb I=>?_
  rcases cmp I with⟨rfl,h⟩|⟨rfl,h⟩
  ·exact gV
  ·exact yY
 ·have h6:s.length-2<dJ s%4096+1:=by
   rcases h6 with h6|⟨h6,_⟩
   ·exact h6
   ·cases h6
  rw[if_neg V]at Y;refine λb I=>?_
  rcases cmp I with⟨rfl,h⟩|⟨rfl,h⟩
  ·exact pf
  refine λb I=>?_
  rcases cmp I with⟨rfl,h⟩|⟨rfl,h⟩
  case inr=>exact ll
  refine⟨_,⟨decide (32768<=dJ s),15,rfl,rfl⟩,?_⟩;refine⟨rfl,?_⟩;refine⟨_,⟨[cQ (decide (32768<=dJ s)) 15,10],rfl,rfl⟩,?_⟩;refine λb I=>?_
  by_cases hp:32768<=dJ s
  ·rw[decide_eq_true hp]at I ⊢;rw[if_neg V,if_pos h6]at Y;rcases cmp I with⟨rfl,h⟩|⟨rfl,h⟩
   ·exact gV
   ·exact yY
  ·rw[decide_eq_false hp]at I ⊢;rw[if_pos V]at Y;rcases cmp I with⟨rfl,h⟩|⟨rfl,h⟩
   ·exact gV
   ·exact yY
 ·have h6:¬s.length-2<dJ s%4096+1:=λh=>h6 (.inl h)
  rw[if_neg V]at Y;refine λb I=>?_
  rcases cmp I with⟨rfl,h⟩|⟨rfl,h⟩
  case inr=>exact ll
  refine⟨_,⟨decide (32768<=dJ s),15,rfl,rfl⟩,?_⟩;refine⟨rfl,?_⟩;refine⟨_,⟨[cQ (decide (32768<=dJ s)) 15,0],rfl,rfl⟩,?_⟩;refine λb I=>?_
  by_cases hp:32768<=dJ s
  case neg=>
   rw[decide_eq_false hp]at I ⊢;rw[if_pos V]at Y;rcases cmp I with⟨rfl,h⟩|⟨rfl,h⟩
   ·exact gV
   ·exact yY
  rw[decide_eq_true hp]at I;rw[if_neg V,if_neg h6]at Y;rcases cmp I with⟨rfl,h⟩|⟨rfl,h⟩
  ·exact ll
  generalize hcn:dJ s%4096+1=c at*;have htl:((s.drop 2).take c).length=c:=TO;refine⟨_,rfl,by rw[htl];omega,?_⟩;rw[<-akM Ah l7 aw4];refine λb I=>?_
  rcases cmp I with⟨rfl,h7⟩|⟨rfl,h7⟩
  ·rw[if_pos h7]at Y;exact gV
  rw[if_neg h7]at Y;have b_:=asz (zb3 h7);have hel:=arH b_;refine⟨_,rfl,b_,?_⟩;generalize adn (GL Ah ((s.drop 2).take c)).1=ex at*;refine λy hy=>?_
  rw[htl]at hy;have hy:=jb hy V;have hy:y=((2+c:Nat):Int):=V;subst hy;have aBp:cut ((2+c:Nat):Int).toNat s.length s=s.drop (2+c):=by rw[zaC,zr]
  refine⟨ae,?_⟩;refine λb1 xI=>?_
  refine⟨_,⟨b1,10,rfl,rfl⟩,?_⟩;refine⟨V,?_⟩;refine λy hy=>?_
  have hy:=jb hy V;have hy:y=((s.length-(2+c):Nat):Int):=V;subst hy;refine⟨_,⟨_,rfl,V,rfl⟩,?_⟩;refine λb2 nj=>?_
  rw[aBp,zaC]at nj;have fin:∀b3:Bool,(b3=true↔¬(s.drop (2+c)≠aC (s.length-(2+c))\/256<=s.length-(2+c)))->(if aZ [cQ b1 10,cQ b3 3]≠0 then K (.tup [.pv (.str []),.pv (pI (aZ [cQ b1 10,cQ b3 3]))])else K (.tup [.pv (.str ex),.pv (pI 0)])):=by
   intro b3 Z5;rcases cmp xI with⟨rfl,h8⟩|⟨rfl,h8⟩
   ·rw[if_neg V]at Y;rcases cmp Z5 with⟨rfl,h9⟩|⟨rfl,h9⟩
    ·rw[if_neg h9]at Y;rw[if_neg ai];exact Y
    ·rw[if_pos (zb3 h9)]at Y;rw[if_pos ai];exact Y
   ·rw[if_pos V]at Y;have e10:aZ [cQ false 10,cQ b3 3]=10:=rfl;rw[e10,if_pos ai];exact Y
  rcases cmp nj with⟨rfl,hz⟩|⟨rfl,hz⟩
  ·refine⟨_,⟨_,rfl,V,rfl⟩,?_⟩;refine⟨ai,?_⟩;refine λy hy=>?_
   rw[zb8 V]at hy;have hy:=jb hy V;rw[hy];refine λb3 Z5=>?_
   have hf:=fin b3 (by
    rw[Z5];constructor
    ·rintro h (h'|h')
     ·exact h' hz
     ·omega
    ·intro h;have:¬256<=s.length-(2+c):=λh'=>h (.inr h')
     omega)
   refine⟨_,⟨b3,3,rfl,rfl⟩,?_⟩;refine⟨rfl,?_⟩;refine⟨_,⟨[cQ b1 10,cQ b3 3],rfl,rfl⟩,?_⟩;refine λb I=>?_
   rcases cmp I with⟨rfl,h⟩|⟨rfl,h⟩
   ·rw[if_pos h]at hf;exact J4
   ·rw[if_neg h]at hf;exact J4
  ·have hf:=fin false (by
    constructor
    ·intro h;cases h
    ·intro h;exact absurd (.inl hz) h)
   refine⟨_,⟨false,3,rfl,rfl⟩,?_⟩;refine⟨rfl,?_⟩;refine⟨_,⟨[cQ b1 10,cQ false 3],rfl,rfl⟩,?_⟩;refine λb I=>?_
   rcases cmp I with⟨rfl,h⟩|⟨rfl,h⟩
   ·rw[if_pos h]at hf;exact J4
   ·rw[if_neg h]at hf;exact J4
end Go.Dv.Try
namespace Go.Dv.Try
structure Rn where
 s:Int
 n:Int
deriving DecidableEq
def sE(l:List Rn)(i:Int):List Rn:=
 match l[l.length-1]? with
 |some r=>if r.s+r.n=i then l.set (l.length-1) ⟨r.s,r.n+1⟩else l++[⟨i,1⟩]
 |none=>l++[⟨i,1⟩]
def bf(p:Nat->Bool):Nat->List Rn
 |0=>[]
 |n+1=>if p n then sE (bf p n) n else bf p n
def AH(i:Int):sE [] i=[⟨i,1⟩]:=rfl
def rG(l:List Rn)(r:Rn)(i:Int):sE (l++[r]) i=if r.s+r.n=i then l++[⟨r.s,r.n+1⟩]else l++[r]++[⟨i,1⟩]:=by
 unfold sE;simp
def Pf(l:List Rn):l=[]∨∃a r,l=a++[r]:=by
 rcases List.eq_nil_or_concat l with h|⟨a,r,h⟩
 ·grind
 grind
def jr(p:Nat->Bool):∀n:Nat,(∀r∈bf p n,0<=r.s/\1<=r.n/\r.s+r.n<=n)/\(bf p n).length<=n/\
 ((∃a r,bf p n=a++[r]/\r.s+r.n=(n:Int))↔0<n/\p (n-1)=true):=by
 intro n
 induction n with
 |zero=>simp[bf]
 |succ n ih=>
  unfold bf;cases hp:p n with
  |false=>
   grind
  |true=>
   simp only[zcn,hp,and_true,Nat.zero_lt_succ,iff_true];rcases Pf (bf p n)with e|⟨a,r,e⟩
   ·rw[e,AH];refine⟨λr J=>?_,ab,[],_,rfl,ab⟩
    grind
   ·rw[e,rG]
    grind
def ago{l:List Rn}{r:Rn}{i:Int}(h:l[l.length-1]?=some r)(he:r.s+r.n=i):sE l i=l.set (l.length-1) ⟨r.s,r.n+1⟩:=by
 unfold sE;grind
def Sj{l:List Rn}{i:Int}(h:∀r,l[l.length-1]?=some r->r.s+r.n≠i):sE l i=l++[⟨i,1⟩]:=by
 unfold sE
 grind
def aU(s:P8)(i:Nat):Nat:=(s[i/8]?.getD 0).toNat/2^(i%8)%2
def fV(s:P8)(i:Nat):aU s i<=1:=by unfold aU;omega
def nF(x:UInt8)(k v:Nat):UInt8:=UInt8.ofNat (x.toNat-x.toNat/2^k%2*2^k+v*2^k)
def ue(x:UInt8){k v:Nat}(E:k<8)(hv:v<=1):(nF x k v).toNat=x.toNat-x.toNat/2^k%2*2^k+v*2^k:=by
 have T:=x.toNat_lt;apply zcH;have U:k=0\/k=1\/k=2\/k=3\/k=4\/k=5\/k=6\/k=7:=V
 grind
def agB(x:UInt8){k v j:Nat}(E:k<8)(hv:v<=1)(hj:j<8):(nF x k v).toNat/2^j%2=if j=k then v else x.toNat/2^j%2:=by
 rw[ue x E hv];have U:k=0\/k=1\/k=2\/k=3\/k=4\/k=5\/k=6\/k=7:=V;have h3:j=0\/j=1\/j=2\/j=3\/j=4\/j=5\/j=6\/j=7:=V;rcases U with rfl|rfl|rfl|rfl|rfl|rfl|rfl|rfl<;>rcases h3 with rfl|rfl|rfl|rfl|rfl|rfl|rfl|rfl<;>simp<;>omega
def AF(b:P8)(i v:Nat):P8:=b.set (i/8) (nF (b[i/8]?.getD 0) (i%8) v)
@[simp] theorem aoV (b:P8) (i v:Nat):(AF b i v).length=b.length:=by simp[AF]
def abb{b:P8}{i v:Nat}(W:i<8*b.length)(hv:v<=1)(j:Nat):aU (AF b i v) j=if j=i then v else aU b j:=by
 unfold aU AF;by_cases h:j/8=i/8
 ·rw[h,List.getElem?_set_self V,zbE,agB _ V hv V]
  grind
 grind
def iq(s:P8):Nat->Nat
 |0=>0
 |n+1=>iq s n+aU s n
def Ji(s:P8)(n:Nat):OG:=(List.range n).map λi=>((aU s i:Nat):Int)
@[simp] theorem ai3 (s:P8) (n:Nat):(Ji s n).length=n:=by simp[Ji]
def aj7{s:P8}{n i:Nat}(h:i<n):(Ji s n)[i]?=some ((aU s i:Nat):Int):=by simp[Ji,h]
def Hf(n i:Nat):aU (aC n) i=0:=by
 unfold aU aC;rw[List.getElem?_replicate];split<;>simp
abbrev UH:=List Rn
end Go.Dv.Try
namespace Go.Dv.Try
open Go.Dv
def Ou(f:Nat->Nat)(z:P8):Nat->P8
 |0=>z
 |k+1=>AF (Ou f z k) k (f k)
def oO(n:Nat):Nat:=(n+7)/8
def K9(f:Nat->Nat)(n:Nat):P8:=Ou f (aC (oO n)) n
def SN(f:Nat->Nat)(z:P8):∀k,(Ou f z k).length=z.length:=by
 intro k
 induction k with
 |zero=>rfl
 |succ k ih=>simp[Ou,ih]
def acU{f:Nat->Nat}{z:P8}(hf:∀i,f i<=1):∀k,k<=8*z.length→∀j,aU (Ou f z k) j=if j<k then f j else aU z j:=by
 intro k
 induction k with
 |zero=>intro _ j;simp[Ou]
 |succ k ih=>
  intro E j;simp only[Ou];rw[abb (by rw[SN];omega) (hf k),ih V];by_cases h:j=k
  ·subst h;simp
  ·rw[if_neg h];by_cases H:j<k
   ·rw[if_pos H,if_pos V]
   ·rw[if_neg H,if_neg V]
def aF(l:UH):Int:=(l.map λr=>r.n).sum
@[simp] theorem az4:aF []=0:=rfl
end Go.Dv.Try
namespace Go.Dv.Try
open Go Go.Dv
def Bo(ps:CK)(x:PV):Prop:=∃n lo W:Int,ps=[pI n,pI lo,pI W]/\x=pB (decide (lo<=n/\n<=W))
def cf(ps:CK)(p:Prop):Prop:=∃n lo W:Int,ps=[pI n,pI lo,pI W]/\p=(lo<=n/\n<=W)
def E5:MT (ao []) sJ (ah Bo):=by
 rintro _ K ⟨_,⟨n,lo,W,rfl,rfl⟩,Y⟩;refine λb I=>?_
 rcases cmp I with⟨rfl,h⟩|⟨rfl,h⟩
 ·refine λb I=>?_
  refine⟨.pv (pB _),Gt ?_,trivial,Y⟩
  grind
 ·refine⟨.pv (pB _),Gt ?_,trivial,Y⟩
  grind
def iI(ps:CK)(x:PV):Prop:=∃(ok:Bool) (e:Int),ps=[pB ok,pI e]/\x=pI (cQ ok e)
def Fg:MT (ao []) A_ (ah iI):=by
 rintro _ K ⟨_,⟨ok,e,rfl,rfl⟩,Y⟩;cases ok with
 |true=>exact aO
 |false=>exact aO
def Ql(ps:CK)(x:PV):Prop:=∃l:OG,ps=[.sl 1 (l.map pI)]/\x=pI (aZ l)
def G9:MT (ao []) we (ah Ql):=by
 rintro _ K ⟨_,⟨l,rfl,rfl⟩,Y⟩;refine λhl=>?_
 rw[zaw]at hl;refine⟨λm env Z=>∃n:Nat,(n+m=l.length∧∀j,j<n->l[j]?=some 0)/\Z=[]/\env=[(5,.pv (.sl 1 (l.map pI))),eN 6 ((l.map pI).length:Nat),eN 7 n],l.length,⟨0,⟨V,λj hj=>V⟩,rfl,rfl⟩,?_⟩;rintro m env Z ⟨n,⟨hn,h0⟩,rfl,rfl⟩;refine λb I=>?_
 rw[zaw]at I;rcases cmp I with⟨rfl,h⟩|⟨rfl,h⟩
 ·have aM:n<l.length:=by omega
  refine⟨pI l[n],⟨V,?_⟩,?_⟩
  ·show(l.map pI)[n]?=some (pI l[n]);simp[aM]
  refine λb I=>?_
  rcases cmp I with⟨rfl,h⟩|⟨rfl,h⟩
  ·refine⟨.pv (pI _),cn ?_,trivial,Y⟩;rw[gO l n h0,zcf aM];simp[aZ,h]
  ·refine λx T=>?_
   replace T:=jb T V;subst T;refine⟨m-1,V,n+1,⟨V,λj hj=>?_⟩,rfl,rfl⟩;by_cases hjn:j<n
   ·exact h0 j hjn
   ·have:j=n:=by omega
    subst this;rw[zah aM];simpa using h
 ·refine⟨.pv (pI _),cn ?_,trivial,Y⟩;rw[gO l n h0,zb7 V];rfl
def vz(n:Int):Int:=(n+7)/8
def af1(ps:CK)(x:PV):Prop:=∃n:Int,ps=[pI n]/\(0<=n/\n<=1000000000)/\x=pI (vz n)
def afY:MT (ao []) FR (ah af1):=by
 rintro _ K ⟨_,⟨n,rfl,h,rfl⟩,Y⟩;refine λx T=>?_
 have T:=jb T V;refine λx T=>?_
 have T:=jb T V;refine⟨ai,?_⟩;refine λx T=>?_
 rw[zb8 V]at T;have T:=jb T V;refine⟨.pv (pI _),cn ?_,trivial,Y⟩;unfold vz;omega
def cM(n:Int):Int:=if 0<=n/\n<=4096 then 0 else 2
def gP(s:P8)(n:Int):Int:=
 if cM n≠0 then cM n else if (s.length:Int)≠vz n then 10 else if ∀i,i<8*s.length->n.toNat<=i->aU s i=0 then 0 else 3
def Y8(ps:CK)(x:PV):Prop:=∃(s:P8) (n:Int),ps=[.str s,pI n]/\s.length<=1000000/\x=pI (gP s n)
def aon{v:Nat}(hv:v<256):∀m k:Nat,k+m=8->(∀r,k<=r->r<8->v/2^r%2=0)->v/2^k=0:=by
 intro m
 induction m with
 |zero=>
  grind
 |succ m ih=>
  intro k E h;have U:=ih (k+1) V (λr U H=>h r V H);have H:=h k (zai _) V;rw[Nat.pow_succ,<-zch]at U;omega
def arG{s:P8}{n:Nat}(hl:s.length=(n+7)/8):(∀i,i<8*s.length->n<=i->aU s i=0)↔(n%8=0\/(s[s.length-1]?.getD 0).toNat/2^(n%8)=0):=by
 have hv:=(s[s.length-1]?.getD 0).toNat_lt;constructor
 ·intro h;by_cases h8:n%8=0
  ·omega
  refine .inr (aon hv (8-n%8) (n%8) V λr U H=>?_);have:=h (n/8*8+r) V V;unfold aU at this
  grind
 ·intro h i W hni;rcases h with h|h
  ·omega
  by_cases h8:n%8=0
  ·omega
  unfold aU;rw[show i/8=s.length-1 by omega];have e:2^(i%8)=2^(n%8)*2^(i%8-n%8):=by rw[<-zcF];grind
  rw[e,<-zch,h];simp
def H9:MT (ao [(181,ah Bo),(208,ah af1),(128,ah iI)]) sf (ah Y8):=by
 rintro _ K ⟨_,⟨s,n,rfl,hs,rfl⟩,Y⟩;unfold gP at Y;by_cases hn:0<=n/\n<=4096
 case neg=>
  refine⟨pB false,⟨_,_,_,rfl,Gt (by simpa using hn)⟩,?_⟩;refine λb I=>?_
  rcases cmp I with⟨rfl,h⟩|⟨rfl,h⟩
  case inr=>exact ll
  have e:cM n=2:=by unfold cM;rw[if_neg hn]
  rw[e,if_pos ai]at Y;exact aO
 refine⟨pB true,⟨_,_,_,rfl,Gt (by simpa using hn)⟩,?_⟩;refine λb I=>?_
 rcases cmp I with⟨rfl,h⟩|⟨rfl,h⟩
 ·cases h
 have e:cM n=0:=by unfold cM;rw[if_pos hn]
 rw[e,if_neg ai]at Y;refine⟨_,⟨n,rfl,V,rfl⟩,?_⟩;refine λb I=>?_
 rcases cmp I with⟨rfl,H⟩|⟨rfl,H⟩
 ·rw[if_pos H]at Y;exact aO
 rw[if_neg H]at Y;have hl:(s.length:Int)=vz n:=zb3 H;unfold vz at hl;have A8:=arG (s:=s) (n:=n.toNat) V;refine⟨ai,?_⟩;refine λx T=>?_
 rw[zcd V]at T;have T:x=((n.toNat%8:Nat):Int):=V;subst T;refine λb I=>?_
 rcases cmp I with⟨rfl,h3⟩|⟨rfl,h3⟩
 ·rw[if_pos (A8.2 (.inl V))]at Y;refine⟨_,⟨true,3,rfl,rfl⟩,?_⟩;exact aO
 ·obtain⟨v,hv⟩:∃v,s[s.length-1]?=some v:=by rw[zah V];exact⟨_,rfl⟩
  rw[hv]at A8;simp only[zbE]at A8;refine λx T=>?_
  have T:=jb T V;rw[T];refine⟨_,⟨V,by rw[show((s.length:Int)-1).toNat=s.length-1 by omega];exact hv⟩,?_⟩;refine⟨V,?_⟩;refine λy hy=>?_
  have hy:y=((v.toNat/2^(n.toNat%8):Nat):Int):=by
   rw[hy];have e8:min ((n.toNat%8:Nat):Int).toNat IntKind.u8.bits=n.toNat%8:=by
    have:IntKind.u8.bits=8:=rfl;omega
   rw[e8,show((2:Int)^(n.toNat%8))=((2^(n.toNat%8):Nat):Int) by simp,zb5 _ (zcg _)];rfl
  subst hy;refine λb I=>?_
  rcases cmp I with⟨rfl,h4⟩|⟨rfl,h4⟩
  ·rw[if_pos (A8.2 (.inr V))]at Y;refine⟨_,⟨true,3,rfl,rfl⟩,?_⟩;exact aO
  ·rw[if_neg (λh5=>by rcases A8.1 h5 with h6|h6;omega;exact h4 (by rw[h6];rfl))]at Y;refine⟨_,⟨false,3,rfl,rfl⟩,?_⟩;exact aO
def Rn.pv(r:Rn):PV:=.agg [pI r.s,pI r.n]
def aW(l:UH):∀x∈l.map Rn.pv,x.flat:=by
 intro x T;obtain⟨t,_,rfl⟩:=zaX.1 T;simp[Rn.pv,PV.flat,PV.one,PV.an7]
def Vj:MT (ao []) sJ (dU cf):=by
 rintro _ K ⟨_,⟨n,lo,W,rfl,rfl⟩,Y⟩
 (repeat'(refine fq ?_;first|refine dc (λ_=>?_) (λ_=>?_)|fail))
 all_goals exact h_
def Vq:MT (ao []) Gr (dU cf):=by
 rintro _ K ⟨_,⟨n,lo,W,rfl,rfl⟩,Y⟩
 (repeat'(refine fq ?_;first|refine dc (λ_=>?_) (λ_=>?_)|fail))
 all_goals exact h_
def atB(ps:CK)(x:PV):Prop:=∃(B:P8) (n i:Int),ps=[.agg [.sl 1 (B.map aG),pI n],pI i]/\(0<=i/\i<8*B.length/\B.length<=1000000)/\x=pI (aU B i.toNat)
def apt:MT (ao []) uO (ah atB):=by
 rintro _ K ⟨_,⟨B,n,i,rfl,⟨U,H,h3⟩,rfl⟩,Y⟩
 (repeat'(refine fq ?_;first|refine bu V ?_|refine QUO V ?_|refine REM V ?_|refine SHR ai V (λ_=>?_)|refine aDL V (λ_ _ _=>?_)|refine azg V ?_|fail))
 rename_i x T A7 hq;have e:aU B i.toNat=x.toNat/2^(i%8).toNat%2:=by
  unfold aU;rw[show i.toNat/8=(i/8).toNat by omega,show i.toNat%8=(i%8).toNat by omega,T];rfl
 rw[e]at Y;exact aO
def ZO:Spec:=AT false false λps K=>∃(s:P8) (n:Int),ps=[.str s,pI n]/\s.length<=1000000/\K (.tup [.agg [.row 5 1 (s.map aG),.pv (pI n)],.pv (pI (gP s n))])
def aeM:MT (ao [(148,ah Y8)]) F9 ZO:=by
 rintro _ K ⟨s,n,rfl,h,Y⟩
 (repeat'(refine fq ?_;first|refine aY ?_|refine⟨_,⟨_,_,rfl,bT,rfl⟩,?_⟩|refine HI ?_|fail))
 exact⟨[.agg [.row _ _ _,.pv _],.pv (pI _)],⟨⟨⟨rfl,rfl,rfl⟩,rfl,trivial⟩,rfl,trivial⟩,trivial,Y⟩
def bmP(B:P8)(n:Int):PV:=.agg [.sl 1 (B.map aG),pI n]
def Ap(ps:CK)(p:Prop):Prop:=∃(B:P8) (n i v:Int),ps=[pI i,.cptr (bmP B n),.cptr (pI v)]/\(0<=i/\i<8*B.length/\B.length<=1000000)/\p=((aU B i.toNat:Int)=v)
def Ln:MT (ao [(203,ah atB)]) ly (dU Ap):=by
 rintro _ K ⟨_,⟨B,n,i,v,rfl,⟨U,H,h3⟩,rfl⟩,Y⟩
 (repeat'(refine fq ?_;first|refine dc (λ_=>?_) (λ_=>?_)|refine aY ?_|refine⟨_,⟨_,_,_,rfl,bT,rfl⟩,?_⟩|fail))
 all_goals exact h_
def jF(B:P8)(v:Int)(i:Nat):Bool:=decide ((aU B i:Int)=v)
def te(p:Nat->Bool)(n:Nat):CK:=(bf p n).map Rn.pv
def Xf{p:Nat->Bool}{n:Nat}{x y:Rn}(hp:p n=true)(h:(bf p n)[(((bf p n).length:Nat):Int).toNat-1]?=some x)(he:x.s+x.n=n)(hy:x=y):((bf p n).map Rn.pv).set ((((bf p n).length:Nat):Int)-1).toNat (.agg [pI y.s,pI (y.n+1)])=te p (n+1):=by
 subst hy;rw[zaC]at h;have e:bf p (n+1)=(bf p n).set ((bf p n).length-1) ⟨x.s,x.n+1⟩:=by
  show(if p n then sE (bf p n) n else bf p n)=_;rw[if_pos hp,ago h he]
 unfold te;rw[e,show((((bf p n).length:Nat):Int)-1).toNat=(bf p n).length-1 by omega,List.map_set];rfl
def S7{p:Nat->Bool}{n:Nat}(hp:p n=true)(h:∀x,(bf p n)[(bf p n).length-1]?=some x->x.s+x.n≠n):(bf p n).map Rn.pv++[.agg [pI n,pI 1]]=te p (n+1):=by
 have e:bf p (n+1)=bf p n++[⟨n,1⟩]:=by
  show(if p n then sE (bf p n) n else bf p n)=_;rw[if_pos hp,Sj h]
 unfold te;rw[e,zaY];rfl
def ahK{p:Nat->Bool}{n:Nat}(hp:p n=false):bf p (n+1)=bf p n:=by
 show(if p n then sE (bf p n) n else bf p n)=_;rw[hp];rfl
def amp:Spec:=AT true false λps K=>
 (∃(B:P8) (n:Nat) (v:Int),ps=[bmP B n,.clo 276 [.cptr (bmP B n),.cptr (pI v)]]/\(n<=8*B.length/\B.length<=1000000)/\K (.fresh 103 2 (te (jF B v) n)))
def agm:MT (ao [(276,dU Ap)]) rH amp:=by
 rintro _ K ⟨B,n,v,rfl,⟨U,H⟩,Y⟩
 ·refine⟨λm env Z=>∃i:Nat,i+m=n/\Z=[.row 103 2 true (te (jF B v) i)]/\env=[(1,.pv (.clo 276 [.cptr (bmP B n),.cptr (pI v)])),(5,.own 0),eN 9 n,eN 10 i],n,⟨0,V,rfl,rfl⟩,?_⟩;rintro m env Z ⟨i,W,rfl,rfl⟩;obtain⟨J,hl,_⟩:=jr (jF B v) i;unfold te
  (repeat'(refine fq ?_;first|refine bu V ?_|refine bR ?_|refine ec ?_|refine dc (λ_=>?_) (λ_=>?_)|refine cT λ_=>?_|refine UF V ?_|refine aDT az V (λ_ _ _=>?_)|refine aY ?_|refine⟨_,⟨_,_,_,_,rfl,bT,rfl⟩,?_⟩|refine zcv bJ ?_|fail))
  ·rename_i I hn x T _ y hy _ he z hz _ u hu _;have e1:x=y:=Option.some.inj (T.symm.trans hy);have e2:x=z:=Option.some.inj (T.symm.trans hz);have e3:x=u:=Option.some.inj (T.symm.trans hu);subst e1 e2 e3;have hp:jF B v i=true:=IB;exact⟨m-1,V,i+1,V,congrArg (λl=>[cK.row _ _ _ l]) (Xf hp (by rw[<-T];congr 1;omega) he rfl),rfl⟩
  ·rename_i I hn x T _ y hy _ he;have e1:x=y:=Option.some.inj (T.symm.trans hy);subst e1;have hp:jF B v i=true:=IB;refine⟨m-1,V,i+1,V,congrArg (λl=>[cK.row _ _ _ l]) (S7 hp λu hu=>?_),rfl⟩;rw[show(bf (jF B v) i).length-1=(((bf (jF B v) i).length:Int)-1).toNat by omega,T]at hu;rw[<-Option.some.inj hu];exact he
  ·rename_i I hn;have hp:jF B v i=true:=IB;refine⟨m-1,V,i+1,V,congrArg (λl=>[cK.row _ _ _ l]) (S7 hp λu hu=>?_),rfl⟩;rw[zaM V]at hu;cases hu
  ·rename_i I;have hp:jF B v i=false:=IB;refine⟨m-1,V,i+1,V,?_,rfl⟩;rw[ahK hp]
  ·have:i=n:=by omega
   subst this;exact oQ
def EB:Spec:=AT true false λps K=>∃(B:P8) (n v:Int),ps=[bmP B n,pI v]/\(0<=n/\n<=8*B.length/\B.length<=1000000)/\K (.fresh 103 2 (te (jF B v) n.toNat))
def UT:MT (ao [(275,amp),(276,dU Ap)]) n9 EB:=by
 rintro _ K ⟨B,n,v,rfl,⟨h0,U,H⟩,Y⟩;obtain⟨n,rfl⟩:∃k:Nat,n=k:=⟨n.toNat,V⟩
 (conv=>whnf)
 refine⟨B,n,v,rfl,V,?_⟩
 (conv=>whnf)
 exact oQ
def vO:Spec:=AT true true λps K=>∃a b:Int,ps=[.sl 1 [pI a,pI b]]/\(a≠0->K (.pv (pI a)))/\(a=0->K (.pv (pI b)))
def Xz:MT (ao []) we vO:=by
 rintro _ K ⟨a,b,rfl,U,H⟩;refine G9 _ K ⟨_,⟨[a,b],rfl,rfl⟩,?_⟩;by_cases ha:a=0
 ·subst ha;by_cases I:b=0<;>simpa[aZ,I]using H rfl
 ·simpa[aZ,ha]using U ha
def Ss(e:Int)(p:Prop)[Decidable p]:Int:=if e≠0 then e else if p then 0 else 2
def lj{s:P8}{n:Int}(h:gP s n=0):0<=n/\n<=4096/\n<=8*s.length/\(s.length:Int)=vz n∧∀i,i<8*s.length->n.toNat<=i->aU s i=0:=by
 unfold gP cM at h;by_cases U:0<=n/\n<=4096
 case neg=>simp[U]at h
 rw[if_pos U]at h;simp only[ne_eq,not_true_eq_false,if_false]at h;by_cases H:(s.length:Int)≠vz n
 ·rw[if_pos H]at h;cases h
 rw[if_neg H]at h;have h3:(s.length:Int)=vz n:=zb3 H;refine⟨U.1,U.2,by unfold vz at h3;omega,h3,?_⟩;split at h
 ·assumption
 ·cases h
def aco(s:P8)(n a:Int):Int:=if Ss (gP s n) (0<=a/\a<=n-1)=0 then aU s a.toNat else 0
def OW:Spec:=AT true false λps K=>∃(s:P8) (n a:Int),ps=[.str s,pI n,pI a]/\s.length<=1000000/\K (.tup [.pv (pI (aco s n a)),.pv (pI (Ss (gP s n) (0<=a/\a<=n-1)))])
def aaX:MT (ao [(179,ZO),(180,vO),(128,ah iI),(181,dU cf),(203,ah atB)]) Cn OW:=by
 rintro _ K ⟨s,n,a,rfl,h,Y⟩;unfold aco at Y;have b_:= @lj s n;by_cases he:gP s n=0
 ·obtain⟨U,H,h3,h4,h5⟩:=b_ he
  (repeat'(refine fq ?_;first|refine bu V ?_|refine ak ai ?_|refine ar ai ?_|refine dc (λ_=>?_) (λ_=>?_)|refine aY ?_|refine⟨_,⟨_,_,rfl,rfl⟩,?_⟩|refine⟨_,⟨_,_,_,rfl,rfl⟩,?_⟩|refine⟨_,⟨_,_,_,rfl,bT,rfl⟩,?_⟩|refine⟨_,_,rfl,λh=>absurd h V,λ_=>?_⟩|refine⟨_,_,rfl,bT,?_⟩|fail))
  all_goals simp[Ss, *]at Y
  all_goals(refine⟨_,?_,?_,Y⟩<;>repeat'(first|exact rfl|exact trivial|exact aW _|exact bG _|exact bj|refine⟨?_,?_⟩))
 ·(repeat'(refine fq ?_;first|refine ak V ?_|refine dc (λ_=>?_) (λ_=>?_)|refine aY ?_|refine⟨_,⟨_,_,rfl,rfl⟩,?_⟩|refine⟨_,⟨_,_,_,rfl,rfl⟩,?_⟩|refine⟨_,_,rfl,λ_=>?_,λh=>absurd h V⟩|refine⟨_,_,rfl,bT,?_⟩|refine aD6 (λ_=>?_)|fail))
  all_goals simp[Ss, *]at Y
  all_goals(refine⟨_,?_,?_,Y⟩<;>repeat'(first|exact rfl|exact trivial|exact aW _|exact bG _|exact bj|refine⟨?_,?_⟩))
def YY:Spec:=AT false false λps K=>∃n:Int,ps=[pI n]/\(cM n=0->K (.tup [.agg [.row 5 1 ((aC (oO n.toNat)).map aG),.pv (pI n)],.pv (pI 0)]))/\(cM n≠0->K (.tup [.pv (.agg [.nil 1,pI 0]),.pv (pI 2)]))
def aj1(n:Nat):List.replicate n (PV.int .u8 0)=(aC n).map aG:=by
 unfold aC;rw[zcp];rfl
def acH{n:Int}(h:cM n=0):0<=n/\n<=4096:=by
 unfold cM at h;split at h
 ·assumption
 ·cases h
def S3{n:Int}(h:0<=n):vz n=(oO n.toNat:Nat):=by unfold vz oO;omega
def aa5:MT (ao [(181,dU cf),(208,ah af1)]) Ci YY:=by
 rintro _ K ⟨n,rfl,U,H⟩;by_cases h:cM n=0
 ·have hn:=acH h;have Y:=U h;have F:=S3 hn.1;have hl:oO n.toNat<=512:=by unfold oO;omega
  rw[<-aj1]at Y
  (repeat'(refine fq ?_;first|refine bR ?_|refine ak V ?_|refine aY ?_|refine⟨_,⟨_,_,_,rfl,rfl⟩,?_⟩|refine⟨_,⟨_,rfl,bT,rfl⟩,?_⟩|refine HI ?_|fail))
  rw[F,zaC];refine⟨[.agg [.row _ _ _,.pv _],.pv (pI _)],⟨⟨⟨rfl,rfl,rfl⟩,rfl,trivial⟩,rfl,trivial⟩,trivial,Y⟩
 ·have hn:¬(0<=n/\n<=4096):=by
   intro h';apply h;unfold cM;rw[if_pos h']
  have Y:=H h
  (repeat'(refine fq ?_;first|refine ec ?_|refine ar V ?_|refine aY ?_|refine⟨_,⟨_,_,_,rfl,rfl⟩,?_⟩|fail))
  exact⟨[.pv _,.pv (pI _)],⟨rfl,rfl,trivial⟩,trivial,Y⟩
def atw(n:Int):P8:=if cM n=0 then aC (oO n.toNat)else[]
def Nw:Spec:=AT true false λps K=>∃n:Int,ps=[pI n]/\K (.tup [.pv (.str (atw n)),.pv (pI (cM n))])
def Oo:MT (ao [(204,YY)]) u7 Nw:=by
 rintro _ K ⟨n,rfl,Y⟩;unfold atw at Y;refine⟨n,rfl,λh=>?_,λh=>?_⟩
 ·rw[if_pos h,h]at Y
  (repeat'(refine fq ?_;first|refine BTS ?_|refine aY ?_|fail))
  (refine⟨_,?_,?_,Y⟩<;>repeat'(first|exact rfl|exact trivial|exact aW _|exact bG _|exact bj|refine⟨?_,?_⟩))
 ·have e:cM n=2:=by
   unfold cM at h ⊢;split
   ·rename_i h';rw[if_pos h']at h;exact ll
   ·rfl
  rw[if_neg h,e]at Y
  (repeat'(refine fq ?_;first|refine aDE ?_|refine aY ?_|fail))
  (refine⟨_,?_,?_,Y⟩<;>repeat'(first|exact rfl|exact trivial|exact aW _|exact bG _|exact bj|refine⟨?_,?_⟩))
def Qc:Spec:=AT true false λps K=>∃(l:QE) (v:Bool),ps=[.sl 1 (l.map pB),pB v]/\l.length<=1000000∧∀r:Int,(0<=r↔v∈l)-> -1<=r->K (.pv (pI r))
def ZM:MT (ao []) mV Qc:=by
 rintro _ K ⟨l,v,rfl,hl,Y⟩
 (repeat'(refine fq ?_;first|refine cT λ_=>?_|fail))
 refine⟨λm env Z=>∃i:Nat,(i+m=l.length∧∀j,j<i->l[j]?≠some v)/\Z=[]/\env=[(0,.pv (.sl 1 (l.map pB))),(1,.pv (pB v)),eN 7 l.length,eN 8 i],l.length,⟨0,⟨V,λj hj=>V⟩,rfl,rfl⟩,?_⟩;rintro m env Z ⟨i,⟨W,h0⟩,rfl,rfl⟩
 (repeat'(refine fq ?_;first|refine bu V ?_|refine dc (λ_=>?_) (λ_=>?_)|refine agh V (λ_ _=>?_)|fail))
 ·rename_i x T h;subst h;have Y:=Y i ⟨λ_=>iU.2 ⟨i,T⟩,λ_=>V⟩ V
  (refine⟨_,?_,?_,Y⟩<;>repeat'(first|exact rfl|exact trivial|exact aW _|exact bG _|exact bj|refine⟨?_,?_⟩))
 ·rename_i x T h;refine⟨m-1,V,i+1,⟨V,λj hj e=>?_⟩,rfl,rfl⟩;by_cases hji:j<i
  ·exact h0 j hji e
  ·have:j=i:=by omega
   subst this;rw[T]at e;exact h (Option.some.inj e).symm
 ·have Y:=Y (-1) ⟨λh=>V,λh=>?_⟩ V
  ·(refine⟨_,?_,?_,Y⟩<;>repeat'(first|exact rfl|exact trivial|exact aW _|exact bG _|exact bj|refine⟨?_,?_⟩))
  ·obtain⟨j,e⟩:=iU.1 h;have hj:j<l.length:=by
    by_cases hj:j<l.length
    ·exact hj
    ·rw[zaM V]at e;cases e
   exact absurd e (h0 j V)
def abt:Spec:=AT true false λps K=>∃(l:QE) (v:Bool),ps=[.sl 1 (l.map pB),pB v]/\l.length<=1000000∧∀r:Bool,(r=true↔v∈l)->K (.pv (pB r))
def NM:MT (ao [(237,Qc)]) gC abt:=by
 rintro _ K ⟨l,v,rfl,hl,Y⟩;refine⟨l,v,rfl,hl,λr J wL=>?_⟩
 (repeat'(refine fq ?_;first|refine dc (λ_=>?_) (λ_=>?_)|fail))
 ·have Y:=Y true (by simp;exact J.1 az)
  (refine⟨_,?_,?_,Y⟩<;>repeat'(first|exact rfl|exact trivial|exact aW _|exact bG _|exact bj|refine⟨?_,?_⟩))
 ·have Y:=Y false (by simp;exact λh=>by have:=J.2 h;omega)
  (refine⟨_,?_,?_,Y⟩<;>repeat'(first|exact rfl|exact trivial|exact aW _|exact bG _|exact bj|refine⟨?_,?_⟩))
def SH(a b:Int):Int:=if a<b then-1 else if b<a then 1 else 0
def agX(ps:CK)(x:PV):Prop:=∃a:Int,ps=[pI a]/\x=pB false
def ade:MT (ao []) BE (ah agX):=by
 rintro _ K ⟨_,⟨a,rfl,rfl⟩,Y⟩;refine ar (λh=>h rfl) ?_
 (conv=>whnf)
 (refine⟨_,?_,?_,Y⟩<;>repeat'(first|exact rfl|exact trivial|exact aW _|exact bG _|exact bj|refine⟨?_,?_⟩))
def Ez(ps:CK)(x:PV):Prop:=∃a b:Int,ps=[pI a,pI b]/\x=pI (SH a b)
def UL:MT (ao [(209,ah agX)]) xg (ah Ez):=by
 rintro _ K ⟨_,⟨a,b,rfl,rfl⟩,Y⟩;unfold SH at Y
 (repeat'(refine fq ?_;first|refine dc (λ_=>?_) (λ_=>?_)|refine⟨_,⟨_,rfl,rfl⟩,?_⟩|fail))
 ·rename_i h;rw[if_pos h]at Y;(refine⟨_,?_,?_,Y⟩<;>repeat'(first|exact rfl|exact trivial|exact aW _|exact bG _|exact bj|refine⟨?_,?_⟩))
 ·rename_i h H;rw[if_neg h,if_pos H]at Y;(refine⟨_,?_,?_,Y⟩<;>repeat'(first|exact rfl|exact trivial|exact aW _|exact bG _|exact bj|refine⟨?_,?_⟩))
 ·rename_i h H;rw[if_neg h,if_neg H]at Y;(refine⟨_,?_,?_,Y⟩<;>repeat'(first|exact rfl|exact trivial|exact aW _|exact bG _|exact bj|refine⟨?_,?_⟩))
def azv(ps:CK)(x:PV):Prop:=∃l:OG,ps=[.sl 1 (l.map pI)]/\x=pI (aZ l)
def al9:MT (ao []) Iz (ah azv):=by
 rintro _ K ⟨_,⟨l,rfl,rfl⟩,Y⟩
 (repeat'(refine fq ?_;first|refine cT λ_=>?_|fail))
 refine⟨λm env Z=>∃n:Nat,(n+m=l.length∧∀j,j<n->l[j]?=some 0)/\Z=[]/\env=[eN 3 0,(6,.pv (.sl 1 (l.map pI))),eN 7 (l.length:Nat),eN 8 n],l.length,⟨0,⟨V,λj hj=>V⟩,rfl,rfl⟩,?_⟩;rintro m env Z ⟨n,⟨hn,h0⟩,rfl,rfl⟩
 (repeat'(refine fq ?_;first|refine bu V ?_|refine dc (λ_=>?_) (λ_=>?_)|refine agh V (λ_ _=>?_)|fail))
 ·rename_i x T ca;rw[gO l n h0,zcf (fo T)]at Y;rw[zah (fo T)]at T;simp only[Option.some.inj T,aZ,if_neg ca]at Y
  (refine⟨_,?_,?_,Y⟩<;>repeat'(first|exact rfl|exact trivial|exact aW _|exact bG _|exact bj|refine⟨?_,?_⟩))
 ·rename_i x T ca;refine⟨m-1,V,n+1,⟨V,λj hj=>?_⟩,rfl,rfl⟩;by_cases hjn:j<n
  ·exact h0 j hjn
  ·rw[show j=n by omega,T];simpa using ca
 ·rw[gO l n h0,zb7 V]at Y
  (refine⟨_,?_,?_,Y⟩<;>repeat'(first|exact rfl|exact trivial|exact aW _|exact bG _|exact bj|refine⟨?_,?_⟩))
def Gb(a b:Int):Int:=max (a-b) (b-a)
def afC(ps:CK)(x:PV):Prop:=∃a b:Int,ps=[pI a,pI b]/\(-1000000000000<=a/\a<=1000000000000/\ -1000000000000<=b/\b<=1000000000000)/\x=pI (Gb a b)
def aeF:MT (ao []) FV (ah afC):=by
 rintro _ K ⟨_,⟨a,b,rfl,⟨U,H,h3,h4⟩,rfl⟩,Y⟩;unfold Gb at Y
 (repeat'(refine fq ?_;first|refine bu V ?_|refine MAX ?_|fail))
 (refine⟨_,?_,?_,Y⟩<;>repeat'(first|exact rfl|exact trivial|exact aW _|exact bG _|exact bj|refine⟨?_,?_⟩))
def IQ(r:Rn):Prop:= -1000000000000<=r.s/\r.s<=1000000000000/\ -1000000000000<=r.n/\r.n<=1000000000000
def afT(near:Int)(p q:Rn):Int:=aZ [SH q.n p.n,SH (Gb p.s near) (Gb q.s near),SH p.s q.s]
def zV(near:Int)(p q:Rn):Bool:=decide (afT near p q<0)
def Yy{near:Int}{p q:Rn}:zV near p q=true↔(q.n<p.n\/q.n=p.n/\(Gb p.s near<Gb q.s near\/Gb p.s near=Gb q.s near/\p.s<q.s)):=by
 unfold zV afT;rw[decide_eq_true_iff];simp only[aZ,SH];omega
def EC(near:Int):Ord (zV near):=by
 constructor
 ·intro x y h;rw[<-zct];rw[Yy]at h ⊢;omega
 ·intro x y z U H;rw[<-zct]at U H ⊢;rw[Yy]at U H ⊢;omega
def asP{near:Int}{x y:Rn}(U:zV near x y=false)(H:zV near y x=false):x=y:=by
 rw[<-zct]at U H;rw[Yy]at U H;obtain⟨a,b⟩:=x;obtain⟨c,d⟩:=y
 grind
def Gx(c near:Int):PV:=.clo 273 [.cptr (.agg [pI c,pI near])]
def Xa(near:Int):Prop:= -1000000000000<=near/\near<=1000000000000
def Mp(ps:CK)(x:PV):Prop:=∃(p q:Rn) (c near:Int),ps=[p.pv,q.pv,.cptr (.agg [pI c,pI near])]/\(IQ p/\IQ q/\Xa near)/\x=pI (afT near p q)
def aeu:MT (ao [(274,ah azv),(153,ah Ez),(183,ah afC)]) su (ah Mp):=by
 rintro _ K ⟨_,⟨p,q,c,near,rfl,⟨⟨U,H,h3,h4⟩,⟨h5,h6,h7,h8⟩,h9,VB⟩,rfl⟩,Y⟩;unfold afT at Y
 (repeat'(refine fq ?_;first|refine aY ?_|refine⟨_,⟨_,_,rfl,rfl⟩,?_⟩|refine⟨_,⟨_,_,rfl,bT,rfl⟩,?_⟩|refine⟨_,⟨[_,_,_],rfl,rfl⟩,?_⟩|fail))
 (refine⟨_,?_,?_,Y⟩<;>repeat'(first|exact rfl|exact trivial|exact aW _|exact bG _|exact bj|refine⟨?_,?_⟩))
def as4{α:Type}{f:Nat->α}{n:Nat}{hc:α->PV}{i k:Nat}{x:α}{K:PV->Prop}(h:k<n)(c:K (hc (if k=i then x else f k))):∃y,(((cJ f n).map hc).set i (hc x))[k]?=some y/\K y:=
 ⟨_,by rw[iM,kS,zaD,bw h];rfl,c⟩
abbrev vo(ap:Bool)(f:Nat->Rn)(N:Nat):cK:=.row 103 2 ap ((cJ f N).map Rn.pv)
def anw(xs:XP)(Z:ax)(K:AV->ax->Prop):Prop:=
 ∃(ap:Bool) (f:Nat->Rn) (N:Nat) (a b n c near:Int),xs=[.own 0,.pv (pI a),.pv (pI b),.pv (pI n),.pv (Gx c near)]/\Z=[vo ap f N]/\(0<=a/\a+n<=b/\b+n<=N/\0<=n/\N<=100000)/\K (.tup []) [vo ap (Fv f a.toNat b.toNat n.toNat) N]
def aev:OQ (ao []) dZ (lZ anw):=by
 rintro _ _ K ⟨ap,f,N,a,b,n,c,near,rfl,rfl,⟨h0,U,H,h3,h4⟩,Y⟩;refine⟨λm env Z=>∃i:Nat,(i+m=n)/\Z=[vo ap (Fv f a.toNat b.toNat i) N]/\env=[(0,.own 0),eN 1 a,eN 2 b,eN 3 n,eN 10 i],n.toNat,⟨0,V,?_,rfl⟩,?_⟩
 ·refine congrArg (λx=>[vo ap x N]) (funext λj=>?_);unfold Fv;rw[if_neg V,if_neg V]
 rintro m env Z ⟨i,W,rfl,rfl⟩
 (repeat'(refine fq ?_;first|refine as4 V ?_|refine bu V ?_|refine dc (λ_=>?_) (λ_=>?_)|refine T0 V ?_|refine N9 V ?_|refine aY ?_|refine zcv bJ ?_|fail))
 ·refine⟨m-1,V,i+1,V,?_,rfl⟩;refine congrArg (λx=>[cK.row _ _ _ x]) ?_;rw[show PV.agg [pI (Fv f a.toNat b.toNat i (b+i).toNat).s,pI (Fv f a.toNat b.toNat i (b+i).toNat).n]=(Fv f a.toNat b.toNat i (b+i).toNat).pv from rfl,
   show PV.agg [pI (Fv f a.toNat b.toNat i (a+i).toNat).s,pI (Fv f a.toNat b.toNat i (a+i).toNat).n]=(Fv f a.toNat b.toNat i (a+i).toNat).pv from rfl,iM,iM,kS,kS]
  refine congrArg (List.map Rn.pv) (j_ λj _=>?_);unfold Fv
  repeat' split
  all_goals first|(exfalso;omega)|rfl|(congr 1<;>omega)
 ·have:n.toNat=i:=by omega
  rw[this]at Y;exact Y
def ap0(xs:XP)(Z:ax)(K:AV->ax->Prop):Prop:=
 ∃(ap:Bool) (f:Nat->Rn) (N:Nat) (a m b c near:Int),xs=[.own 0,.pv (pI a),.pv (pI m),.pv (pI b),.pv (Gx c near)]/\Z=[vo ap f N]/\(0<=a/\a<m/\m<b/\b<=N/\N<=100000)/\K (.tup []) [vo ap (lF f a.toNat m.toNat b.toNat) N]
def ala:OQ (ao [(322,lZ anw)]) eS (lZ ap0):=by
 rintro _ _ K ⟨ap,f,N,a,m,b,c,near,rfl,rfl,⟨h0,U,H,h3,h4⟩,Y⟩
 (repeat'(refine fq ?_;first|refine bu V ?_|fail))
 refine⟨λq env Z=>∃(i j:Int) (g:Nat->Rn),(q=i+j/\0<i/\0<j/\i<=m-a/\j<=b-m/\lF f a.toNat m.toNat b.toNat=lF g (m-i).toNat m.toNat (m+j).toNat)/\Z=[vo ap g N]/\env=[(0,.own 0),eN 2 m,(4,.pv (Gx c near)),eN 10 i,eN 11 j],(b-a).toNat,⟨m-a,b-m,f,⟨V,V,V,V,V,by rw[show m-(m-a)=a by omega,show m+(b-m)=b by omega]⟩,rfl,rfl⟩,?_⟩;rintro q env Z ⟨i,j,g,⟨hq,W,hj,hi2,Ed,he⟩,rfl,rfl⟩
 (repeat'(refine fq ?_;first|refine bu V ?_|refine dc (λ_=>?_) (λ_=>?_)|refine⟨_,_,_,_,_,_,_,_,rfl,rfl,bT,?_⟩|fail))
 ·rename_i ca hgt;refine⟨j.toNat+(i-j).toNat,V,i-j,j,Fv g (m-i).toNat m.toNat j.toNat,⟨V,V,V,V,V,?_⟩,rfl,rfl⟩;rw[he];funext x;unfold lF Fv
  repeat' split
  all_goals first|(exfalso;omega)|(congr 1<;>omega)
 ·rename_i ca hgt;refine⟨i.toNat+(j-i).toNat,V,i,j-i,Fv g (m-i).toNat (m+j-i).toNat i.toNat,⟨V,V,V,V,V,?_⟩,rfl,rfl⟩;rw[he];funext x;unfold lF Fv
  repeat' split
  all_goals first|(exfalso;omega)|(congr 1<;>omega)
 ·rename_i ca;have sC:i=j:=zb3 ca;subst sC;have e:lF f a.toNat m.toNat b.toNat=Fv g (m-i).toNat m.toNat i.toNat:=by
   rw[he];funext x;unfold lF Fv
   repeat' split
   all_goals first|(exfalso;omega)|(congr 1<;>omega)
  rw[e]at Y;exact Y
def nz(g:Nat->Rn)(j i:Nat):Nat->Rn:=λk=>if k=j then g i else if j<k/\k<=i then g (k-1)else g k
def LW(g:Nat->Rn)(i:Nat):nz g i i=g:=by
 unfold nz
 grind
def Ly(g:Nat->Rn){j i:Nat}(h0:0<j)(h:j<=i):zz (nz g j i) (j-1) j=nz g (j-1) i:=by
 unfold zz nz
 grind
def LA(g:Nat->Rn){a i:Nat}:∀d,d<=i-a->a<=i->c8 a (i+1) g (nz g (i-d) i):=by
 intro d
 induction d with
 |zero=>intro _ _;rw[zcq,LW];exact .refl _ _ _
 |succ d ih=>
  intro U H;refine(ih V H).trans ?_;rw[<-show i-d-1=i-(d+1) by omega,<-Ly g V V];have:=Ru (nz g (i-d) i) (i:=i-d-1);rw[show i-d-1+1=i-d by omega]at this;exact T3
abbrev aD3:List (Nat×Spec):=[(273,ah Mp)]
def aus(xs:XP)(Z:ax)(K:AV->ax->Prop):Prop:=
 ∃(ap:Bool) (f:Nat->Rn) (N:Nat) (a b c near:Int),xs=[.own 0,.pv (pI a),.pv (pI b),.pv (Gx c near)]/\Z=[vo ap f N]/\(0<=a/\a<=b/\b<=N/\N<=100000/\(∀j,IQ (f j))/\Xa near)/\
  ∀g,c8 a.toNat b.toNat f g->a_ (zV near) a.toNat b.toNat g->K (.tup []) [vo ap g N]
def akC:OQ (ao aD3) dq (lZ aus):=by
 rintro _ _ K ⟨ap,f,N,a,b,c,near,rfl,rfl,⟨h0,U,H,h3,hB,hN⟩,Y⟩
 (repeat'(refine fq ?_;first|refine bu V ?_|fail))
 refine⟨λq env Z=>∃(i:Int) (g:Nat->Rn),(q=(b-i).toNat/\a+1<=i/\(i<=b\/i=a+1)/\c8 a.toNat b.toNat f g/\a_ (zV near) a.toNat i.toNat g)/\Z=[vo ap g N]/\env=[(0,.own 0),eN 1 a,eN 2 b,(3,.pv (Gx c near)),eN 8 i],(b-(a+1)).toNat,⟨a+1,f,⟨V,V,V,.refl _ _ _,λi j U H h3=>?_⟩,rfl,rfl⟩,?_⟩
 ·rw[show i=j by omega];exact(EC near).irrefl _
 rintro q env Z ⟨i,g,⟨hq,W,hi2,hp,hs⟩,rfl,rfl⟩
 (repeat'(refine fq ?_;first|refine dc (λ_=>?_) (λ_=>?_)|fail))
 ·refine⟨λq env Z=>∃(j:Int),(q=(j-a).toNat/\a<=j/\j<=i∧∀k:Nat,j<=k->k<i->zV near (g i.toNat) (g k)=true)/\Z=[vo ap (nz g j.toNat i.toNat) N]/\env=[(0,.own 0),eN 1 a,eN 2 b,(3,.pv (Gx c near)),eN 8 i,eN 9 j],(i-a).toNat,⟨i,⟨V,V,V,λk U H=>V⟩,by rw[LW],rfl⟩,?_⟩;rintro q env Z ⟨j,⟨hq,hj,hji,aM⟩,rfl,rfl⟩;have hB2:∀k,IQ (nz g j.toNat i.toNat k):=by
   have:=hp.all (P:=IQ) hB;intro k;unfold nz
   repeat' split
   all_goals exact this _
  (repeat'(refine fq ?_;first|refine bu V ?_|refine dc (λ_=>?_) (λ_=>?_)|refine T0 V ?_|refine N9 V ?_|refine aY ?_|fail))
  ·have aBr:∀r:Int,r=afT near (nz g j.toNat i.toNat j.toNat) (nz g j.toNat i.toNat (j-1).toNat)->(r<0↔zV near (g i.toNat) (g (j-1).toNat)=true):=by
    intro r J;have e1:nz g j.toNat i.toNat j.toNat=g i.toNat:=by unfold nz;rw[if_pos rfl]
    have e2:nz g j.toNat i.toNat (j-1).toNat=g (j-1).toNat:=by unfold nz;rw[if_neg V,if_neg V]
    rw[J,e1,e2];unfold zV;rw[decide_eq_true_iff]
   refine⟨_,⟨_,_,c,near,rfl,⟨hB2 _,hB2 _,hN⟩,rfl⟩,?_⟩
   (repeat'(refine fq ?_;first|refine as4 V ?_|refine bu V ?_|refine dc (λ_=>?_) (λ_=>?_)|refine T0 V ?_|refine N9 V ?_|refine aY ?_|refine zcv bJ ?_|fail))
   ·rename_i ax6;have hl:=(aBr _ rfl).1 ax6;refine⟨(j-1-a).toNat,V,j-1,⟨V,V,V,λk h4 h5=>?_⟩,?_,rfl⟩
    ·by_cases E:k=(j-1).toNat
     ·rw[E];exact hl
     ·exact aM k V h5
    ·refine congrArg (λx=>[cK.row _ _ _ x]) ?_;have hsw:=Ly g (j:=j.toNat) (i:=i.toNat) V V;rw[show PV.agg [pI (nz g j.toNat i.toNat (j-1).toNat).s,pI (nz g j.toNat i.toNat (j-1).toNat).n]=(nz g j.toNat i.toNat (j-1).toNat).pv from rfl,
      show PV.agg [pI (nz g j.toNat i.toNat j.toNat).s,pI (nz g j.toNat i.toNat j.toNat).n]=(nz g j.toNat i.toNat j.toNat).pv from rfl,iM,iM,kS,kS]
     refine congrArg (List.map Rn.pv) ?_;rw[show(j-1).toNat=j.toNat-1 by omega,<-hsw];refine j_ λx _=>?_
     unfold zz
     repeat' split
     all_goals first|(exfalso;omega)|rfl
   ·rename_i ax6;have hl:zV near (g i.toNat) (g (j-1).toNat)=false:=by
     cases h:zV near (g i.toNat) (g (j-1).toNat)with
     |false=>rfl
     |true=>exact absurd ((aBr _ rfl).2 h) ax6
    refine⟨(b-(i+1)).toNat,V,i+1,nz g j.toNat i.toNat,⟨rfl,V,V,hp.trans ?_,?_⟩,rfl,rfl⟩
    ·have:=LA g (a:=a.toNat) (i:=i.toNat) (i-j).toNat V V;rw[show i.toNat-(i-j).toNat=j.toNat by omega]at this;exact T3
    ·rw[show(i+1).toNat=i.toNat+1 by omega];exact x6 (EC near) hs V V (λk h4 h5=>aM k V V) λ_=>by rw[show j.toNat-1=(j-1).toNat by omega];exact hl
  ·refine⟨(b-(i+1)).toNat,V,i+1,nz g j.toNat i.toNat,⟨rfl,V,V,hp.trans ?_,?_⟩,rfl,rfl⟩
   ·have:=LA g (a:=a.toNat) (i:=i.toNat) (i-j).toNat V V;rw[show i.toNat-(i-j).toNat=j.toNat by omega]at this;exact T3
   ·rw[show(i+1).toNat=i.toNat+1 by omega];exact x6 (EC near) hs V V (λk h4 h5=>aM k V V) λ_=>V
 ·rename_i aM
  exact Y g hp (by rcases hi2 with h|h;·rw[show b=i by omega];exact hs
                   ·exact λx y U H h3=>by rw[show x=y by omega];exact(EC near).irrefl _)
def ahD(k:Nat)(xs:XP)(Z:ax)(K:AV->ax->Prop):Prop:=
 ∃(ap:Bool) (f:Nat->Rn) (N:Nat) (a m b c near:Int),xs=[.own 0,.pv (pI a),.pv (pI m),.pv (pI b),.pv (Gx c near)]/\Z=[vo ap f N]/\
  (0<=a/\a<m/\m<b/\b<=N/\N<=100000/\b-a<=k/\(∀j,IQ (f j))/\Xa near/\a_ (zV near) a.toNat m.toNat f/\a_ (zV near) m.toNat b.toNat f)/\
  ∀g,c8 a.toNat b.toNat f g->a_ (zV near) a.toNat b.toNat g->K (.tup []) [vo ap g N]
def K7{near:Int}{p q:Rn}(h:afT near p q<0):zV near p q=true:=by unfold zV;grind
def My{near:Int}{p q:Rn}(h:¬afT near p q<0):zV near p q=false:=by unfold zV;grind
def J9(g:Nat->Rn)(a k:Nat):Nat->Rn:=λj=>if j=k then g a else if a<=j/\j<k then g (j+1)else g j
def VR(g:Nat->Rn)(a:Nat):J9 g a a=g:=by
 unfold J9
 grind
def V3(g:Nat->Rn){a k:Nat}(h:a<=k):zz (J9 g a k) k (k+1)=J9 g a (k+1):=by
 unfold zz J9
 grind
def ajT(g:Nat->Rn){a:Nat}:∀d,c8 a (a+d+1) g (J9 g a (a+d)):=by
 intro d
 induction d with
 |zero=>rw[show a+0=a by omega,VR];exact .refl _ _ _
 |succ d ih=>
  rw[<-zaL,<-V3 g V];exact(ih.wide (zai _) V V).trans ((Ru _).wide V V V)
def abU{lt:Rn->Rn->Bool}(o:Ord lt){a b k:Nat}{g:Nat->Rn}(hs:a_ lt (a+1) b g)(E:a<=k)(hkb:k<b)(U:∀j,a<j->j<=k->lt (g j) (g a)=true)(H:k+1<b->lt (g (k+1)) (g a)=false):a_ lt a b (J9 g a k):=by
 apply Nk o;intro j hj hjb;show lt (if j+1=k then g a else if a<=j+1/\j+1<k then g (j+1+1)else g (j+1)) (if j=k then g a else if a<=j/\j<k then g (j+1)else g j)=false;by_cases e1:j=k
 ·grind
 ·rw[if_neg e1];by_cases e2:j+1=k
  ·rw[if_pos e2,if_pos V];exact o.asymm _ _ (U (j+1) V V)
  ·rw[if_neg e2];by_cases e3:j<k
   ·rw[if_pos V,if_pos V];exact hs _ _ V V V
   ·rw[if_neg V,if_neg V];exact hs _ _ V V V
def uJ{lt:Rn->Rn->Bool}{a i b:Nat}{g:Nat->Rn}(c1:a_ lt a i g)(c2:a_ lt i b g)(h:¬(a<i/\i<b))(U:a<=i)(H:i<=b):a_ lt a b g:=by
 grind
def OV{lt:Rn->Rn->Bool}{a k e b:Nat}{f g0 g1:Nat->Rn}(q1:c8 a k g0 g1)(p0:c8 a b f g0)(ha:a<=k)(E:k<=e)(he:e<=b)(c3:a_ lt k e g0)(c4:a_ lt e b g0)(cx:∀x y,a<=x->x<k->k<=y->y<b->lt (g0 y) (g0 x)=false):
 a_ lt k e g1/\a_ lt e b g1/\(∀x y,a<=x->x<k->k<=y->y<b->lt (g1 y) (g1 x)=false)/\c8 a b f g1:=by
 refine⟨l6 c3 λy y1 y2=>q1.2 y V,l6 c4 λy y1 y2=>q1.2 y V,λx y T A7 hy hy2=>?_,p0.trans (q1.wide (zai _) V V)⟩;obtain⟨z,hz1,hz2,hz⟩:=q1.mem T A7;rw[q1.2 y V]
 grind
def Pv{lt:Rn->Rn->Bool}{a k b:Nat}{f g1 g2:Nat->Rn}(p1:c8 a b f g1)(t1:a_ lt a k g1)(cx1:∀x y,a<=x->x<k->k<=y->y<b->lt (g1 y) (g1 x)=false)(q2:c8 k b g1 g2)(t2:a_ lt k b g2)(ha:a<=k)(I:k<=b):
 c8 a b f g2/\a_ lt a b g2:=by
 refine⟨p1.trans (q2.wide ha (zai _) I),sk (l6 t1 λy y1 y2=>q2.2 y V) t2 λx y T A7 hy hy2=>?_⟩;obtain⟨z,hz1,hz2,hz⟩:=q2.mem hy hy2;rw[q2.2 x V]
 grind
def akb(k:Nat):OQ (ao [(273,ah Mp),(319,lZ ap0),(310,lZ (ahD k))]) eo (lZ (ahD (k+1))):=by
 rintro _ _ K ⟨ap,f,N,a,m,b,c,near,rfl,rfl,⟨h0,U,H,h3,h4,h5,hB,hN,nk,PA⟩,Y⟩;have ho:=EC near
 (repeat'(refine fq ?_;first|refine bu V ?_|refine dc (λ_=>?_) (λ_=>?_)|refine U64 V ?_|refine asW V ?_|fail))
 ·rename_i hm1;refine⟨λq env Z=>∃(i j:Int),(q=(j-i).toNat/\m<=i/\i<=j/\j<=b/\(∀x:Nat,m<=x->x<i->zV near (f x) (f a.toNat)=true)/\(j<b->zV near (f j.toNat) (f a.toNat)=false))/\Z=[vo ap f N]/\env=[(0,.own 0),eN 1 a,(4,.pv (Gx c near)),eN 10 i,eN 11 j],(b-m).toNat,⟨m,b,⟨rfl,V,V,V,λx T A7=>V,λh=>V⟩,rfl,rfl⟩,?_⟩;rintro q env Z ⟨i,j,⟨hq,W,sC,hj,aM,hge⟩,rfl,rfl⟩
  (repeat'(refine fq ?_;first|refine bu V ?_|refine dc (λ_=>?_) (λ_=>?_)|refine U64 V ?_|refine asW V ?_|refine T0 V ?_|refine N9 V ?_|refine aY ?_|fail))
  ·refine⟨_,⟨_,_,c,near,rfl,⟨hB _,hB _,hN⟩,rfl⟩,?_⟩
   (repeat'(refine fq ?_;first|refine bu V ?_|refine dc (λ_=>?_) (λ_=>?_)|fail))
   ·rename_i F;have F:=K7 F;refine⟨(j-((i+j)/2+1)).toNat,V,(i+j)/2+1,j,⟨rfl,V,V,V,λx T A7=>?_,hge⟩,rfl,rfl⟩;cases hh:zV near (f x) (f a.toNat)with
    |true=>rfl
    |false=>
     have:=ho.trans _ _ _ hh (PA x ((i+j)/2).toNat V V V);rw[F]at this;cases this
   ·rename_i F;have F:=My F;exact⟨((i+j)/2-i).toNat,V,i,(i+j)/2,⟨rfl,V,V,V,aM,λ_=>F⟩,rfl,rfl⟩
  ·rename_i aFt;have sC:i=j:=V;subst sC;refine⟨λq env Z=>∃(x:Int),(q=(i-1-x).toNat/\a<=x/\x<=i-1)/\Z=[vo ap (J9 f a.toNat x.toNat) N]/\env=[(0,.own 0),eN 10 i,eN 13 x],(i-1-a).toNat,⟨a,⟨rfl,V,V⟩,by rw[VR],rfl⟩,?_⟩;rintro q env Z ⟨x,⟨hq,T,A7⟩,rfl,rfl⟩
   (repeat'(refine fq ?_;first|refine as4 V ?_|refine bu V ?_|refine dc (λ_=>?_) (λ_=>?_)|refine T0 V ?_|refine N9 V ?_|refine aY ?_|refine zcv bJ ?_|fail))
   ·refine⟨(i-1-(x+1)).toNat,V,x+1,⟨rfl,V,V⟩,?_,rfl⟩;refine congrArg (λx=>[cK.row _ _ _ x]) ?_;rw[show PV.agg [pI (J9 f a.toNat x.toNat (x+1).toNat).s,pI (J9 f a.toNat x.toNat (x+1).toNat).n]=(J9 f a.toNat x.toNat (x+1).toNat).pv from rfl,
     show PV.agg [pI (J9 f a.toNat x.toNat x.toNat).s,pI (J9 f a.toNat x.toNat x.toNat).n]=(J9 f a.toNat x.toNat x.toNat).pv from rfl,iM,iM,kS,kS]
    refine congrArg (List.map Rn.pv) ?_;rw[show(x+1).toNat=x.toNat+1 by omega,<-V3 f V];refine j_ λy _=>?_
    unfold zz
    repeat' split
    all_goals first|(exfalso;omega)|rfl
   ·have hxi:x=i-1:=by omega
    refine Y _ ?_ ?_
    ·have:=ajT f (a:=a.toNat) (x-a).toNat;rw[show a.toNat+(x-a).toNat=x.toNat by omega]at this;exact this.wide (zai _) V V
    ·refine abU ho (ae2 PA V (zai _)) V V (λy h6 h7=>aM y V V) λh=>?_
     rw[show x.toNat+1=i.toNat by omega];exact hge V
 ·rename_i hm1 xI;refine⟨λq env Z=>∃(i j:Int),(q=(j-i).toNat/\a<=i/\i<=j/\j<=m/\(a<i->zV near (f m.toNat) (f (i-1).toNat)=false)/\(∀x:Nat,j<=x->x<m->zV near (f m.toNat) (f x)=true))/\Z=[vo ap f N]/\env=[(0,.own 0),eN 2 m,(4,.pv (Gx c near)),eN 14 i,eN 15 j],(m-a).toNat,⟨a,m,⟨rfl,V,V,V,λh=>V,λx T A7=>V⟩,rfl,rfl⟩,?_⟩;rintro q env Z ⟨i,j,⟨hq,W,sC,hj,hge,aM⟩,rfl,rfl⟩
  (repeat'(refine fq ?_;first|refine bu V ?_|refine dc (λ_=>?_) (λ_=>?_)|refine U64 V ?_|refine asW V ?_|refine T0 V ?_|refine N9 V ?_|refine aY ?_|fail))
  ·refine⟨_,⟨_,_,c,near,rfl,⟨hB _,hB _,hN⟩,rfl⟩,?_⟩
   (repeat'(refine fq ?_;first|refine bu V ?_|refine bR ?_|refine ec ?_|refine dc (λ_=>?_) (λ_=>?_)|fail))
   ·rename_i F;have F:=K7 F;refine⟨((i+j)/2-i).toNat,V,i,(i+j)/2,⟨rfl,V,V,V,hge,λx T A7=>?_⟩,rfl,rfl⟩;cases hh:zV near (f m.toNat) (f x)with
    |true=>rfl
    |false=>
     have:=ho.trans _ _ _ (nk ((i+j)/2).toNat x V V V) hh;rw[F]at this;cases this
   ·rename_i F;have F:=My F;refine⟨(j-((i+j)/2+1)).toNat,V,(i+j)/2+1,j,⟨rfl,V,V,V,λ_=>?_,aM⟩,rfl,rfl⟩;rw[show(i+j)/2+1-1=(i+j)/2 by omega];exact F
  ·rename_i aFt;have sC:i=j:=V;subst sC;refine⟨λq env Z=>∃(x:Int),(q=(x-i).toNat/\i<=x/\x<=m)/\Z=[vo ap (nz f x.toNat m.toNat) N]/\env=[(0,.own 0),eN 14 i,eN 17 x],(m-i).toNat,⟨m,⟨rfl,V,V⟩,by rw[LW],rfl⟩,?_⟩;rintro q env Z ⟨x,⟨hq,T,A7⟩,rfl,rfl⟩
   (repeat'(refine fq ?_;first|refine as4 V ?_|refine bu V ?_|refine dc (λ_=>?_) (λ_=>?_)|refine T0 V ?_|refine N9 V ?_|refine aY ?_|refine zcv bJ ?_|fail))
   ·refine⟨(x-1-i).toNat,V,x-1,⟨rfl,V,V⟩,?_,rfl⟩;refine congrArg (λx=>[cK.row _ _ _ x]) ?_;rw[show PV.agg [pI (nz f x.toNat m.toNat (x-1).toNat).s,pI (nz f x.toNat m.toNat (x-1).toNat).n]=(nz f x.toNat m.toNat (x-1).toNat).pv from rfl,
     show PV.agg [pI (nz f x.toNat m.toNat x.toNat).s,pI (nz f x.toNat m.toNat x.toNat).n]=(nz f x.toNat m.toNat x.toNat).pv from rfl,iM,iM,kS,kS]
    refine congrArg (List.map Rn.pv) ?_;rw[show(x-1).toNat=x.toNat-1 by omega,<-Ly f V V];refine j_ λy _=>?_
    unfold zz
    repeat' split
    all_goals first|(exfalso;omega)|rfl
   ·have hxi:x=i:=by omega
    have ebm:b.toNat=m.toNat+1:=V;refine Y _ ?_ ?_
    ·have:=LA f (a:=a.toNat) (i:=m.toNat) (m-x).toNat V V;rw[show m.toNat-(m-x).toNat=x.toNat by omega]at this;rw[ebm];exact this
    ·rw[ebm];refine x6 ho nk V V (λy h6 h7=>aM y V V) λh=>?_
     rw[show x.toNat-1=(i-1).toNat by omega];exact hge V
 all_goals
  rename_i Xn;obtain⟨lo,W,A6,hhi⟩:∃lo W,lo=(if (a+b)/2<m then(a+b)/2+m-b else a)/\W=(if (a+b)/2<m then(a+b)/2 else m):=⟨_,_,rfl,rfl⟩
  have hc:a<=lo/\W<=m/\lo<=W/\(lo=a\/lo=(a+b)/2+m-b)/\(W=m\/W=(a+b)/2)/\(a+b)/2+m-lo<=b/\W<=(a+b)/2:=by
   first|(rw[if_pos Xn]at A6 hhi;omega)|(rw[if_neg Xn]at A6 hhi;omega)
  obtain⟨F1,F2,F3,F4,F5,F6,F7⟩:=hc;refine⟨λq env Z=>∃(i j:Int),(q=(j-i).toNat/\lo<=i/\i<=j/\j<=W/\(lo<i->zV near (f ((a+b)/2+m-i).toNat) (f (i-1).toNat)=false)/\(j<W->zV near (f ((a+b)/2+m-1-j).toNat) (f j.toNat)=true))/\Z=[vo ap f N]/\env=[(0,.own 0),eN 1 a,eN 2 m,eN 3 b,(4,.pv (Gx c near)),eN 18 ((a+b)/2),eN 19 ((a+b)/2+m),eN 20 i,eN 21 j,eN 22 ((a+b)/2+m-1)],(W-lo).toNat,⟨lo,W,⟨rfl,V,V,V,λh=>V,λh=>V⟩,rfl,by first|(rw[A6,hhi,if_pos Xn,if_pos Xn]<;>rfl)|(rw[A6,hhi,if_neg Xn,if_neg Xn]<;>rfl)⟩,?_⟩;rintro q env Z ⟨i,j,⟨hq,hi1,sC,hj,hge,aM⟩,rfl,rfl⟩;by_cases aFu:i<j
  ·(repeat'(refine fq ?_;first|refine bu V ?_|refine ak V ?_|refine U64 V ?_|refine asW V ?_|refine T0 V ?_|refine N9 V ?_|refine aY ?_|fail))
   refine⟨_,⟨_,_,c,near,rfl,⟨hB _,hB _,hN⟩,rfl⟩,?_⟩
   (repeat'(refine fq ?_;first|refine bu V ?_|refine bR ?_|refine ec ?_|refine dc (λ_=>?_) (λ_=>?_)|fail))
   ·rename_i F;have F:=K7 F;exact⟨((i+j)/2-i).toNat,V,i,(i+j)/2,⟨rfl,V,V,V,hge,λ_=>F⟩,rfl,rfl⟩
   ·rename_i F;have F:=My F;refine⟨(j-((i+j)/2+1)).toNat,V,(i+j)/2+1,j,⟨rfl,V,V,V,λ_=>?_,aM⟩,rfl,rfl⟩;rw[show(i+j)/2+1-1=(i+j)/2 by omega,show(a+b)/2+m-((i+j)/2+1)=(a+b)/2+m-1-(i+j)/2 by omega];exact F
  ·have sC:i=j:=by omega
   subst sC;have M:=ZG ho nk PA (s:=i.toNat) (e:=((a+b)/2+m-i).toNat) (mid:=((a+b)/2).toNat) V V V V V
    (λx1 x2=>by rw[show i.toNat-1=(i-1).toNat by omega];exact hge V)
    (λx1 x2=>by rw[show((a+b)/2+m-i).toNat-1=((a+b)/2+m-1-i).toNat by omega];exact aM V)
   obtain⟨c1,c2,c3,c4,cx⟩:=M;obtain⟨G1,G2,G3,G4,G5,G6⟩:i<=m/\i<=(a+b)/2/\m<=(a+b)/2+m-i/\(a+b)/2+m-i<=b/\(a+b)/2<=(a+b)/2+m-i/\a<=i:=V;have hii:¬i<i:=Int.lt_irrefl i;clear A6 hhi F1 F2 F3 F4 F5 F6 F7 hge aM hq sC hj aFu hi1;have p0:c8 a.toNat b.toNat f (lF f i.toNat m.toNat ((a+b)/2+m-i).toNat):=(akB f V V).wide V V V;by_cases h1':i<m/\m<(a+b)/2+m-i
   ·have hBc:∀j,IQ ((lF f i.toNat m.toNat ((a+b)/2+m-i).toNat) j):=p0.all hB;by_cases h2':a<i/\i<(a+b)/2
    ·first
      |(exfalso;omega)
      |((repeat'(refine fq ?_;first|refine bu V ?_|refine ak V ?_|refine ar V ?_|refine⟨_,_,_,_,_,_,_,_,rfl,rfl,bT,?_⟩|fail))
        intro g1 q1 t1;have hB1:∀j,IQ (g1 j):=q1.all hBc;obtain⟨r3,r4,cx1,p1⟩:=OV q1 p0 V V V c3 c4 cx;by_cases h3':(a+b)/2<(a+b)/2+m-i/\(a+b)/2+m-i<b
        ·first
          |(exfalso;omega)
          |((repeat'(refine fq ?_;first|refine ak V ?_|refine⟨_,_,_,_,_,_,_,_,rfl,rfl,bT,?_⟩|fail))
            intro g2 q2 t2;have hk:=Pv p1 t1 cx1 q2 t2 V V;exact Y g2 hk.1 hk.2)
        ·first
          |(exfalso;omega)
          |(have t2:=uJ r3 r4 V V V
            (repeat'(refine fq ?_;first|refine ak V ?_|refine ar V ?_|fail))
            all_goals exact Y g1 p1 (sk t1 t2 cx1)))
    ·first
      |(exfalso;omega)
      |(have t1:=uJ c1 c2 V V V
        have q1:c8 a.toNat ((a+b)/2).toNat ((lF f i.toNat m.toNat ((a+b)/2+m-i).toNat)) ((lF f i.toNat m.toNat ((a+b)/2+m-i).toNat)):=.refl _ _ _;have hB1:∀j,IQ (((lF f i.toNat m.toNat ((a+b)/2+m-i).toNat)) j):=q1.all hBc;obtain⟨r3,r4,cx1,p1⟩:=OV q1 p0 V V V c3 c4 cx;by_cases h3':(a+b)/2<(a+b)/2+m-i/\(a+b)/2+m-i<b
        ·first
          |(exfalso;omega)
          |((repeat'(refine fq ?_;first|refine bu V ?_|refine ak V ?_|refine ar V ?_|refine⟨_,_,_,_,_,_,_,_,rfl,rfl,bT,?_⟩|fail))
            intro g2 q2 t2;have hk:=Pv p1 t1 cx1 q2 t2 V V;exact Y g2 hk.1 hk.2)
        ·first
          |(exfalso;omega)
          |(have t2:=uJ r3 r4 V V V
            (repeat'(refine fq ?_;first|refine bu V ?_|refine ak V ?_|refine ar V ?_|refine⟨_,_,_,_,_,_,_,_,rfl,rfl,bT,?_⟩|fail))
            all_goals exact Y ((lF f i.toNat m.toNat ((a+b)/2+m-i).toNat)) p1 (sk t1 t2 cx1)))
   ·have hfg:lF f i.toNat m.toNat ((a+b)/2+m-i).toNat=f:=by
     funext x;unfold lF
     repeat' split
     all_goals first|(exfalso;omega)|rfl|(congr 1<;>omega)
    rw[hfg]at c1 c2 c3 c4 cx p0;have hBc:∀j,IQ (f j):=p0.all hB;by_cases h2':a<i/\i<(a+b)/2
    ·first
      |(exfalso;omega)
      |((repeat'(refine fq ?_;first|refine bu V ?_|refine ak V ?_|refine ar V ?_|refine⟨_,_,_,_,_,_,_,_,rfl,rfl,bT,?_⟩|fail))
        intro g1 q1 t1;have hB1:∀j,IQ (g1 j):=q1.all hBc;obtain⟨r3,r4,cx1,p1⟩:=OV q1 p0 V V V c3 c4 cx;by_cases h3':(a+b)/2<(a+b)/2+m-i/\(a+b)/2+m-i<b
        ·first
          |(exfalso;omega)
          |(skip
            intro g2 q2 t2;have hk:=Pv p1 t1 cx1 q2 t2 V V;exact Y g2 hk.1 hk.2)
        ·first
          |(exfalso;omega)
          |(have t2:=uJ r3 r4 V V V
            (repeat'(refine fq ?_;first|refine ar V ?_|fail))
            all_goals exact Y g1 p1 (sk t1 t2 cx1)))
    ·first
      |(exfalso;omega)
      |(have t1:=uJ c1 c2 V V V
        have q1:c8 a.toNat ((a+b)/2).toNat (f) (f):=.refl _ _ _;have hB1:∀j,IQ ((f) j):=q1.all hBc;obtain⟨r3,r4,cx1,p1⟩:=OV q1 p0 V V V c3 c4 cx;by_cases h3':(a+b)/2<(a+b)/2+m-i/\(a+b)/2+m-i<b
        ·first
          |(exfalso;omega)
          |((repeat'(refine fq ?_;first|refine bu V ?_|refine ak V ?_|refine ar V ?_|refine⟨_,_,_,_,_,_,_,_,rfl,rfl,bT,?_⟩|fail))
            intro g2 q2 t2;have hk:=Pv p1 t1 cx1 q2 t2 V V;exact Y g2 hk.1 hk.2)
        ·first
          |(exfalso;omega)
          |(have t2:=uJ r3 r4 V V V
            (repeat'(refine fq ?_;first|refine bu V ?_|refine ak V ?_|refine ar V ?_|fail))
            all_goals exact Y (f) p1 (sk t1 t2 cx1)))
def XK{d x a:Nat}(U:x%d=0)(H:a%d=0)(h:x<a):x+d<=a:=by
 obtain⟨p,rfl⟩:=zci U;obtain⟨q,rfl⟩:=zci H;have hpq:p<q:=Nat.lt_of_mul_lt_mul_left h
 calc d*p+d=d*(p+1):=by rw[Nat.mul_succ]
  _<=d*q:=Nat.mul_le_mul_left d hpq
def amt{d a:Nat}(h:a%(2*d)=0):a%d=0:=Nat.mod_eq_zero_of_dvd (Nat.dvd_trans ⟨2,by rw[Nat.mul_comm]⟩ (zci h))
def aew(lt:Rn->Rn->Bool)(s a:Nat)(f:Nat->Rn):Prop:=∀x,x%s=0->x+s<=a->a_ lt x (x+s) f
def ase(lt:Rn->Rn->Bool)(s a n:Nat)(f:Nat->Rn):Prop:=∀x,x%s=0->a<=x->x<n->a_ lt x (min (x+s) n) f
def aew.step{lt:Rn->Rn->Bool}{s a:Nat}{f g:Nat->Rn}(h:aew lt s a f)(ha:a%s=0)(hs:a_ lt a (a+s) g)(e:∀j,j<a->g j=f j):aew lt s (a+s) g:=by
 intro x T hxa;by_cases U:x<a
 ·have:=XK T ha U;exact l6 (h x T this) λj H h3=>e j V
 ·have:x=a:=by omega
  subst this;exact hs
def aew.all{lt:Rn->Rn->Bool}{s a n:Nat}{f g:Nat->Rn}(h:aew lt s a f)(ha:a%s=0)(han:a<=n)(hna:n<=a+s)(hs:a_ lt a n g)(e:∀j,j<a->g j=f j):ase lt s 0 n g:=by
 intro x T _ hxn;by_cases U:x<a
 ·have:=XK T ha U;rw[zat V];exact l6 (h x T this) λj H h3=>e j V
 ·have:¬a<x:=λH=>by have:=XK ha T H;omega
  have:x=a:=V;subst this;rw[zbK V];exact hs
def auB(xs:XP)(Z:ax)(K:AV->ax->Prop):Prop:=
 ∃(ap:Bool) (f:Nat->Rn) (N:Nat) (c near:Int),xs=[.own 0,.pv (pI N),.pv (Gx c near)]/\Z=[vo ap f N]/\(N<=100000/\(∀j,IQ (f j))/\Xa near)/\
  ∀g,c8 0 N f g->a_ (zV near) 0 N g->K (.tup []) [vo ap g N]
def X8(xs:XP)(Z:ax)(K:AV->ax->Prop):Prop:=ahD 100000 xs Z K
def akR:OQ (ao [(309,lZ aus),(310,lZ X8)]) eQ (lZ auB):=by
 rintro _ _ K ⟨ap,f,N,c,near,rfl,rfl,⟨hN,hB,avu⟩,Y⟩
 (conv=>whnf)
 refine⟨λq env Z=>∃(a:Int) (g:Nat->Rn),(q=(N-a).toNat/\0<=a/\a<=N/\a.toNat%20=0/\c8 0 N f g/\aew (zV near) 20 a.toNat g)/\Z=[vo ap g N]/\env=[(0,.own 0),eN 1 N,(2,.pv (Gx c near)),eN 6 20,eN 7 a,eN 8 (a+20)],N,⟨0,f,⟨V,V,V,rfl,.refl _ _ _,λx _ h=>V⟩,rfl,rfl⟩,?_⟩;rintro q env Z ⟨a,g,⟨hq,ha0,haN,ha,hp,I⟩,rfl,rfl⟩;have hB1:=hp.all (P:=IQ) hB
 (repeat'(refine fq ?_;first|refine dc (λ_=>?_) (λ_=>?_)|refine⟨_,_,_,_,_,_,_,rfl,rfl,bT,?_⟩|fail))
 ·rename_i hle;intro g1 q1 t1
  (repeat'(refine fq ?_;first|refine bu V ?_|fail))
  refine⟨(N-(a+20)).toNat,V,a+20,g1,⟨rfl,V,V,V,hp.trans (q1.wide V V V),?_⟩,rfl,rfl⟩;rw[show(a+20).toNat=a.toNat+20 by omega]at t1 q1 ⊢;exact I.step ha t1 λj hj=>q1.2 j V
 ·rename_i hle;intro g1 q1 t1;have FK:c8 0 N f g1:=hp.trans (q1.wide V V V);have wL:ase (zV near) 20 0 N g1:=I.all ha V V (by simpa using t1) λj hj=>q1.2 j V
  refine⟨λq env Z=>∃(s:Int) (g:Nat->Rn),(q=(N-s).toNat/\0<s/\s<=200000/\c8 0 N f g/\ase (zV near) s.toNat 0 N g)/\Z=[vo ap g N]/\env=[(0,.own 0),eN 1 N,(2,.pv (Gx c near)),eN 6 s],(N-20:Int).toNat,⟨20,g1,⟨V,V,V,FK,wL⟩,rfl,rfl⟩,?_⟩;clear I hp hq ha hle t1 q1 FK wL hB1;rintro q env Z ⟨s,g,⟨hq,hs0,nk,hp,J⟩,rfl,rfl⟩
  (repeat'(refine fq ?_;first|refine bu V ?_|refine dc (λ_=>?_) (λ_=>?_)|fail))
  ·rename_i hsN;refine⟨λq' env Z=>∃(a:Int) (g:Nat->Rn),(q'=(N-a).toNat/\0<=a/\a<=N/\a.toNat%(2*s.toNat)=0/\c8 0 N f g/\aew (zV near) (2*s.toNat) a.toNat g/\ase (zV near) s.toNat a.toNat N g)/\Z=[vo ap g N]/\env=[(0,.own 0),eN 1 N,(2,.pv (Gx c near)),eN 6 s,eN 7 a,eN 8 (a+2*s)],N,⟨0,g,⟨V,V,V,Nat.zero_mod _,hp,λx _ h=>V,J⟩,rfl,by rw[Int.zero_add]⟩,?_⟩;clear hp J;rintro q' env Z ⟨a,g,⟨hq',ha0,haN,ha,hp,I,J⟩,rfl,rfl⟩;have hB1:=hp.all (P:=IQ) hB;have hh:=amt ha;have r1:a.toNat<N->a_ (zV near) a.toNat (min (a.toNat+s.toNat) N) g:=λh=>J _ hh (zai _) h
   have r2:a.toNat+s.toNat<N->a_ (zV near) (a.toNat+s.toNat) (min (a.toNat+s.toNat+s.toNat) N) g:=λh=>J _ (by rw[zcD];exact hh) V h
   (repeat'(refine fq ?_;first|refine bu V ?_|refine dc (λ_=>?_) (λ_=>?_)|fail))
   ·rename_i hle;have r1:=r1 V;have r2:=r2 V;rw[zat V,show a.toNat+s.toNat=(a+s).toNat by omega]at r1;rw[zat V,show a.toNat+s.toNat+s.toNat=(a+2*s).toNat by omega,show a.toNat+s.toNat=(a+s).toNat by omega]at r2;unfold X8
    (repeat'(refine fq ?_;first|refine⟨_,_,_,_,_,_,_,_,rfl,rfl,bT,?_⟩|fail))
    intro g1 q1 t1
    (repeat'(refine fq ?_;first|refine bu V ?_|fail))
    refine⟨(N-(a+2*s)).toNat,V,a+2*s,g1,⟨rfl,V,V,?_,hp.trans (q1.wide V V V),?_,λx T A7 hx3=>?_⟩,rfl,rfl⟩
    ·rw[show(a+2*s).toNat=a.toNat+2*s.toNat by omega,zcD];exact ha
    ·rw[show(a+2*s).toNat=a.toNat+2*s.toNat by omega]at t1 q1 ⊢;exact I.step ha t1 λj hj=>q1.2 j V
    ·exact l6 (J x T V hx3) λj U H=>q1.2 j V
   ·rename_i hle aM;have r1:=r1 V;have r2:=r2 V;rw[zat V,show a.toNat+s.toNat=(a+s).toNat by omega]at r1;rw[zbK V,show a.toNat+s.toNat=(a+s).toNat by omega]at r2;unfold X8;refine⟨ap,g,N,a,a+s,N,c,near,rfl,rfl,⟨V,V,V,V,V,V,hB1,avu,r1,by simpa using r2⟩,λg1 q1 t1=>?_⟩
    (repeat'(refine fq ?_;first|refine bu V ?_|fail))
    refine⟨(N-s*2).toNat,V,s*2,g1,⟨rfl,V,V,hp.trans (q1.wide V V V),?_⟩,rfl,rfl⟩;rw[show(s*2).toNat=2*s.toNat by omega];exact I.all ha V V (by simpa using t1) λj hj=>q1.2 j V
   ·rename_i hle aM;refine⟨(N-s*2).toNat,V,s*2,g,⟨rfl,V,V,hp,?_⟩,rfl,rfl⟩;rw[show(s*2).toNat=2*s.toNat by omega];refine I.all ha V V ?_ λj _=>rfl
    by_cases aFw:a.toNat<N
    ·have:=r1 aFw;rw[zbK V]at this;exact this
    ·exact λx y U H h3=>V
  ·rename_i hsN;refine Y g hp ?_;by_cases h0:0<N
   ·have:=J 0 (Nat.zero_mod _) (zai _) h0;rw[zbK V]at this;exact this
   ·exact λx y U H h3=>V
def P5(xs:XP)(Z:ax)(K:AV->ax->Prop):Prop:=
 ∃(ap:Bool) (L:UH) (c near:Int),xs=[.own 0,.pv (Gx c near)]/\Z=[.row 103 2 ap (L.map Rn.pv)]/\(L.length<=100000/\(∀r∈L,IQ r)/\Xa near)/\
  ∀S:UH,S.Perm L->S.Pairwise (λx y=>zV near y x=false)->K (.tup []) [.row 103 2 ap (S.map Rn.pv)]
def Yu:OQ (ao [(298,lZ auB)]) bV (lZ P5):=by
 rintro _ _ K ⟨ap,L,c,near,rfl,rfl,⟨hN,hB,avu⟩,Y⟩;obtain⟨f,hf⟩:∃f:Nat->Rn,f=λi=>L[i]?.getD ⟨0,0⟩:=⟨_,rfl⟩
 have hL:L=cJ f L.length:=avZ λi x T=>by rw[hf];simp[T]
 have hBf:∀j,IQ (f j):=by
  intro j;rw[hf];show IQ (L[j]?.getD ⟨0,0⟩);cases h:L[j]? with
  |none=>simp[IQ]
  |some x=>exact hB x (zag h)
 generalize hn:L.length=N at*;rw[hL]
 (repeat'(refine fq ?_;first|refine cT λ_=>?_|refine⟨_,_,_,_,_,rfl,rfl,bT,?_⟩|fail))
 intro g hp hs;refine Y (cJ g N) ?_ ?_
 ·rw[hL];exact hp.perm
 ·rw[List.pairwise_iff_getElem];intro i j U H h3;have e1:=bw (f:=g) (n:=N) (i:=i) yT;have e2:=bw (f:=g) (n:=N) (i:=j) nh;rw[zah U]at e1;rw[zah H]at e2;rw[Option.some.inj e1,Option.some.inj e2];exact hs i j V V nh
def awO(U:bQ prg 273 (ah Mp))(H:bQ prg 319 (lZ ap0)):∀k,bQ prg 310 (lZ (ahD k)):=by
 intro k
 induction k with
 |zero=>
  refine⟨λe=>bh,λe=>bh,λ_ _ _ _ _ e=>bh,λ_ _ _ _ _ _ _ _ h=>(show False from h).elim,?_⟩;rintro w ok b_ σ0 cb xs vs K _ HD oF ⟨ap,f,N,a,m,b,c,near,_,_,hp,_⟩;exfalso;omega
 |succ k ih=>
  exact jJ.aoc mixed (zm U (zm H (zm ih Ep))) (by rintro _ _ _ ⟨_,_,_,_,_,_,_,_,rfl,_⟩;rfl) (akb k)
end Go.Dv.Try
namespace Go.Dv.Try
open Go Go.Dv Go.RowKit Go.Shelf
def cP{α:Type}(l:List α)(k:Nat):List α:=(l.drop (16*k)).take 16
def ez(n:Nat):Nat:=(n+15)/16
def chunks{α:Type}(l:List α):List (List α):=(List.range (ez l.length)).map (cP l)
def ac1{α:Type}(l:List α)(k:Nat):cP l k=cut (16*k) (min (16*k+16) l.length) l:=by
 unfold cP cut;rcases Nat.lt_or_ge l.length (16*k+16)with h|h
 ·rw[zbK V,za1 au,za1 ab]
 grind
def acJ{α:Type}(l:List α)(k:Nat):(cP l k).length=min 16 (l.length-16*k):=by
 simp[cP]
def fF{α β:Type}(f:α->β)(l:List α)(k:Nat):cP (l.map f) k=(cP l k).map f:=by
 simp[cP]
def iC(l:OG):List (CK):=(chunks l).map λc=>[.sl 1 (c.map pI)]
def auU(ep:CK)(L:List (CK)):Prop:=
 ∃l:OG,ep=[.cptr (.sl 1 (l.map pI)),.cptr (pI 16)]/\l.length<=1000000/\L=iC l
def aDV:PC:=.region [⟨some 4,none,.mv (.const (.int .i64 0))⟩]
def aDJ:PC:=.seq (.region [⟨some 6,none,.mv (.tmp 4)⟩,⟨some 7,none,.load false 1 (.tmp 1)⟩,⟨some 8,none,.lenR (.tmp 7)⟩,⟨some 9,none,.bin .lss (.tmp 6) (.tmp 8)⟩]) (.cond (.tmp 9) .skip (.exit 0))
def aD2:PC:=.drawD [⟨some 13,none,.load false 1 (.tmp 2)⟩,⟨some 14,none,.load false 1 (.tmp 1)⟩,⟨some 15,none,.mv (.tmp 4)⟩,⟨some 16,none,.slcR 1 (.tmp 14) (some (.tmp 15)) none⟩,⟨some 17,none,.lenN (.tmp 16)⟩,⟨some 18,none,.mm false (.tmp 13) (.tmp 17)⟩,⟨some 5,none,.mv (.tmp 18)⟩]
 [[],[],[],[1,2],[3],[0,4],[5,0,1,2,3,4,5]]
def aD5:PC:=.region [⟨some 10,none,.mv (.tmp 4)⟩,⟨some 11,none,.load false 1 (.tmp 2)⟩,⟨some 12,none,.bin .add (.tmp 10) (.tmp 11)⟩,⟨some 4,none,.mv (.tmp 12)⟩]
def atz:∃(A B C R:Code) (id:Nat) (o0 o1 o2 o3 o4 o5 o6 o7 o8 o9 o10 o11:Oper),
 Go.Proofs.Tryz.f255.body=some (.seq A (.block 0 (.loop (.seq B (.seq (.block 1 (.seq C (.seq (.region id #[o0,o1,o2,o3,o4,o5,o6,o7,o8,o9,o10,o11] false) (.cond (.tmp 30) .ret .skip)))) R)))))/\
 eT Go.Proofs.Tryz.prog 31 A=some (strip aDV)/\eT Go.Proofs.Tryz.prog 31 B=some (strip aDJ)/\eT Go.Proofs.Tryz.prog 31 C=some (strip aD2)/\eT Go.Proofs.Tryz.prog 31 R=some (strip aD5)/\
 (o0.guard=none/\o0.dst=some 19/\o0.op=.move (.tmp 0))/\(o1.guard=none/\o1.dst=some 20/\o1.op=.load 42 (.tmp 1))/\(o2.guard=none/\o2.dst=some 21/\o2.op=.move (.tmp 4))/\
 (o3.guard=none/\o3.dst=some 22/\o3.op=.move (.tmp 4))/\(o4.guard=none/\o4.dst=some 23/\o4.op=.move (.tmp 5))/\(o5.guard=none/\o5.dst=some 24/\o5.op=.binOp .add 3 (.tmp 22) (.tmp 23) 3)/\
 (o6.guard=none/\o6.dst=some 25/\o6.op=.move (.tmp 4))/\(o7.guard=none/\o7.dst=some 26/\o7.op=.move (.tmp 5))/\(o8.guard=none/\o8.dst=some 27/\o8.op=.binOp .add 3 (.tmp 25) (.tmp 26) 3)/\
 (o9.guard=none/\o9.dst=some 28/\o9.op=.slice 42 (.tmp 20) (some (.tmp 21)) (some (.tmp 24)) (some (.tmp 27)))/\
 (o10.guard=none/\o10.dst=some 29∧∃c,o10.op=.call c/\c.callee=.value (.tmp 19)/\c.args= #[.tmp 28])/\(o11.guard=none/\o11.dst=some 30∧∃t,o11.op=.unOp .not t (.tmp 29)):=
 ⟨_,_,_,_,_,_,_,_,_,_,_,_,_,_,_,_,_,rfl,dw,ae,ae,ae,⟨rfl,rfl,rfl⟩,⟨rfl,rfl,rfl⟩,⟨rfl,rfl,rfl⟩,⟨rfl,rfl,rfl⟩,⟨rfl,rfl,rfl⟩,⟨rfl,rfl,rfl⟩,⟨rfl,rfl,rfl⟩,⟨rfl,rfl,rfl⟩,⟨rfl,rfl,rfl⟩,⟨rfl,rfl,rfl⟩,⟨rfl,rfl,_,rfl,rfl,rfl⟩,⟨rfl,rfl,_,rfl⟩⟩
def ar7{ok:Nat->Prop}{w:World}{aw:CK}{ad:Option Addr}{c l h:Nat}(hs:Rd ok w (.sl 1 aw) (.slice ad aw.length c))(hlh:l<h)(T:h<=aw.length):
 Rd ok w (.sl 1 (cut l h aw)) (.slice (ad.map (·.add (l*1))) (h-l) (h-l)):=by
 obtain⟨ad0,c0,hv,U,H,h3⟩:=hs;cases hv;refine⟨_,_,by rw[qS _ _ _ T],QJ,V,.inr ?_⟩;rcases h3 with h3|⟨b,o,rfl,b_,h4⟩
 ·grind
 ·exact⟨b,_,by simp[ic],b_,LZ l h aw V T o h4⟩
end Go.Dv.Try
end
