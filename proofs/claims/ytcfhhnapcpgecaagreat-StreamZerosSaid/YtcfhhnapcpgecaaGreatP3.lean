/- Own work: parts of the proof, shortened and laid together by a tool of our own. -/
import Derived.Test.YtcfhhnapcpgecaaGreatP2
import Derived.WalkKit
import Derived.ProofKit
import Derived.OpenShut
import Derived.Carry
import Derived.Deep.Slices
import Derived.Test.YtcfhhnapcpgecaaGreatProg
import Derived.KernelRfl
import Derived.Shelf.Strings.Builder1
import Derived.Shelf.Strings.Repeat
import Derived.Shelf.Strings.Search1
import Derived.Shelf.Abstract
set_option linter.defProp false
set_option linter.unusedSimpArgs false
set_option linter.unusedVariables false
open List renaming getElem?_eq_getElem→zah, length_map→zav, getElem?_map→za9, getD_eq_getElem?_getD→zbr, mem_cons→zaw, getElem?_eq_none→zaK, mem_map→zaX, map_congr_left→zbE, not_mem_nil→zb3, map_append→zbu, map_cons→zat, append_assoc→zaj, cons_append→zbd, drop_eq_nil_of_le→zb8, take_append_drop→zaD, mem_of_getElem?→zag, eq_nil_of_length_eq_zero→zae, length_append→zad, map_inj_right→zce, getLast_cons→zcf, length_cons→zam, map_nil→zcg, length_eq_one_iff→zck, find?_cons_of_pos→zcm, replicate_succ'→zcp, find?_eq_none→zcu, ext_getElem?→zba, map_toArray→zcz, mem_append→zaA, drop_drop→zaQ
open Nat renaming le_refl→zai, eq_of_beq_eq_true→zab, lt_of_lt_of_le→zaf, pow_le_pow_right→zb6, le_of_ble_eq_true→za3, sub_self→zb9, and_two_pow_sub_one_eq_mod→zca, zero_le→zbV, lt_of_le_of_lt→zcc, two_pow_add_eq_or_of_lt→zcd, min_le_right→zch, and_le_left→zci, two_pow_pos→zcj, add_assoc→zaJ, sub_zero→zcq, add_comm→zcr, add_sub_cancel→zcs, or_lt_two_pow→zcv, one_mul→zbc, pow_add→zcw, mod_eq_of_lt→zcy, not_lt_zero→zb0, log2_eq_iff→zcB
open Int renaming toNat_natCast→zaC, fdiv_eq_ediv_of_nonneg→zb7, ediv_le_self→zcx, ediv_nonneg→zcA
open Array renaming toList_inj→zb2, getElem?_append_left→zb4, getElem?_eq_none→zcl, getElem?_modify→zcn
open Option renaming bind_eq_some_iff→zb5
open Bool renaming and_eq_true→zaU, false_eq_true→zct
open UInt8 renaming toNat_lt→zcb
open Decidable renaming of_not_not→zco
namespace Go.Dv
open Go.RowKit
section
def akX(n:Nat):∀m,(List.range (m+1)).map (· +n)=n::(List.range m).map (· +(n+1)):=by
 intro m;rw[List.range_succ_eq_map,zat,List.map_map];congr 1
 ·omega
 ·apply zbE;intro x _;simp only[Function.comp];omega
def aqw(σ:aF):∀(n:Nat) (K:List Nat->Prop),aFo σ n K->K ((List.range σ.length).map (· +n)):=by
 induction σ with
 |nil=>intro n K h;exact h
 |cons s σ ih=>
  intro n K h;have:=ih (n+1) (λt=>K (n::t)) h;rw[zam,akX];exact this
def afs(l:List AV):∀(n:Nat) (K:Env->Prop),anZ l n K→∃env,K env∧∀p,aE p env=if n<=p then(l[p-n]?).getD .bad else .bad:=by
 induction l with
 |nil=>intro n K h;exact⟨[],h,λp=>by simp[aE]⟩
 |cons x l ih=>
  intro n K h;obtain⟨env,h1,h2⟩:=ih (n+1) _ h;refine⟨_,h1,λp=>?_⟩;show(bif Nat.beq n p then x else aE p env)=_;by_cases hp:n=p
  ·subst hp;simp
  ·rw[VI hp,cond_false,h2 p];by_cases aU:n<=p
   ·rw[if_pos (show n+1<=p by omega),if_pos aU];have:p-n=(p-(n+1))+1:=ab;rw[this];rfl
   ·rw[if_neg ab,if_neg aU]
def aqh(ku:List Nat)(rs:List (Nat×Option (Bool×Nat)))(K:AV->aF->Prop):∀e,BP (aBs ku rs K e):=by
 intro e env env' σ h;cases e with
 |normal=>exact DB h σ rs _
 |ret=>exact DB h σ rs _
 |exit i=>rfl
def axQ{ok:Nat->Prop}{σ:aF}{vals:List Value}{w:World}(cs:List AV):∀vs:List Value,fY ok σ vals w cs vs->vs.length=cs.length∧∀(j:Nat) (c:AV) (v:Value),cs[j]?=some c->vs[j]?=some v->RA ok σ vals w c v:=by
 induction cs with
 |nil=>intro vs h;simp only[fY]at h;subst h;exact⟨rfl,λj c v hc=>by simp at hc⟩
 |cons c cs ih=>
  intro vs h;simp only[fY]at h;obtain⟨v,t,rfl,h1,h2⟩:=h;obtain⟨h3,h4⟩:=ih t h2;refine⟨by simp[h3],λj c' v' hc hv=>?_⟩;cases j with
  |zero=>simp at hc hv;subst hc hv;exact h1
  |succ j=>exact h4 j c' v' BH (by simpa using hv)
def au8{ok:Nat->Prop}{σ:aF}{vals:List Value}{w:World}{aLq:List AV}{vs:List Value}(h:fY ok σ vals w aLq vs):RA ok σ vals w (ar3 aLq) (Rg vs):=by
 have tup:RA ok σ vals w (.tup aLq) (.tuple vs.toArray):=by
  simp only[RA];exact⟨_,rfl,ky⟩
 cases aLq with
 |nil=>
  have h':=h;simp only[fY]at h';subst h';exact tup
 |cons a aLq=>
  have h':=h;simp only[fY]at h';obtain⟨v,t,rfl,h1,h2⟩:=h';cases aLq with
  |nil=>simp only[fY]at h2;subst h2;exact h1
  |cons b aLq=>
   simp only[fY]at h2;obtain⟨v2,t2,rfl,_,_⟩:=h2;exact tup
section
variable {cx:Cx} {env:Env} {σ:aF} {vals:List Value} {a:Act} {w':World}
def af1{P:Program}{f:Nat}{fn:Func}{c:Code}{pc:PC}{Γ:Ctx}{ps:List Nat}{rs:List (Nat×Option (Bool×Nat))}{qS:List AV->aF->(AV->aF->Prop)->Prop}(hΓ:Sound P Γ)(hm:P.follows .mixedOrders=true)(hf:P.funcs[f]?=some fn)(akw:(fn.name== "runtime.NumGoroutine")=false)(hb:fn.body=some c)
 (hc:nR P fn.ntmps c=some (strip pc)) {l:List ResultVar} (zl:fn.results=l.toArray) (c_:l.map (aib P)=rs.map some) (hl:l.length<=4) (akx:Nat) (hn:akx<=fn.ntmps) (cP:∀aLq σ K,qS aLq σ K->aLq.length=akx) (h:alk Γ ps pc rs (sB qS)):an P f (sB qS):=by
 refine⟨λe=>cz,λe=>cz,λ_ _ _ _ _ e=>cz,λ_ _ _ _ _ _ _ _ h=>(show False from h).elim,?_⟩;intro w ok di σ0 eR aLq vs K _ PD ub cL;refine⟨aan hf akw hb,?_⟩;have hlen:vs.size=aLq.length:=by simpa using ub.length
 have hle:aLq.length<=fn.ntmps:=by rw[cP aLq σ0 K cL];exact hn
 obtain⟨env,aku,avI⟩:=afs aLq 0 _ (h aLq σ0 K cL);have aku:=aqw σ0 0 _ aku;simp only[Nat.add_zero,List.map_id']at aku;have qG:eR.length=σ0.length:=PD.len
 let cx:Cx:=nY P w ok di σ0 eR
 let own:Nat->Prop:=λb=>w.heap.size<=b\/WB σ0 eR b
 let a:Act:={ tmps:=vs++Array.replicate (fn.ntmps-vs.size) undef,defers:=[] }
 have hr:Rel cx env σ0 eR a w:=by
  refine⟨PD,λp=>?_,rfl,λx v hg=>hg.elim,λp hp=>absurd hp (zb0 p)⟩;rw[avI p];simp only[zbV,if_true,zcq];cases hx:aLq[p]? with
  |none=>simp only[Option.getD_none,RA]
  |some x=>
   simp only[Option.getD_some];have hp:p<aLq.length:=(List.getElem?_eq_some_iff.1 hx).1;have rS:a.tmps.getD p undef=vs[p]'ab:=by
    rw[getD_eq];show((vs++Array.replicate (fn.ntmps-vs.size) undef)[p]?).getD undef=_;rw[zb4 ab,Array.getElem?_eq_getElem ab];rfl
   rw[rS];exact(axQ aLq _ ub).2 p x _ hx (by simp[show p<vs.size from by omega])
 have hC:CF P w ok own σ0 eR cx:=⟨rfl,rfl,rfl,rfl,rfl,rfl,λ_ _ h=>h,rfl,λb h=>h.elim,λd hd=>(by cases hd),List.Pairwise.nil⟩
 have hwp:=GH (ps:=ps) hΓ hm c pc hc (CF P w ok own σ0 eR) Fence.wide 1 cx (aBs (List.range σ0.length) rs K) env σ0 eR a w (.inr ⟨rfl,zai _,anQ P w ok own σ0 eR qG,λcx h=>h.hP⟩) (.inl λcx h=>h.lo) (.inl rfl) hC (λcx h=>h.hP) (aqh _ _ _) (by simp[a];omega) hr aku;refine(callsIn_wide (n:=1)).1 (callsIn_of_wp_marks hf hb trivial (wpIn_mono hwp ?_));have fin:∀a' w',(∃cx env σ vals,CF P w ok own σ0 eR cx/\a'.tmps.size=fn.ntmps/\Rel cx env σ vals a' w'/\sT σ env rs λaLq=>abE aLq (List.range σ0.length) λl=>X_ σ l l λr=>Zk r aLq λaLq=>aap σ r r λσ=>K (ar3 aLq) σ)->
  LeavesInM Fence.wide 1 P fn a'.tmps (λe w'=>∃v res σ1 kh,e=.returned v/\K res σ1/\dH (nY P w ok di σ0 eR) σ1 kh w'/\RA (Ok (nY P w ok di σ0 eR) σ1 kh w') σ1 kh w' res v) a'.defers .returning w':=by
  rintro a' w' ⟨ET,env',σ',aO,zK,ba,ic,hk⟩;obtain⟨P',w0',wj,hA',w1',aGY,sN,ayw,gh',lo',aGZ,aDn,ako,pS',pV'⟩:=ET;obtain⟨rfl,aDo,amW,aKD,aKE,WU,mX,UC,sQ,hdf,avJ⟩:=zK;have WT:w0'=w:=aDo;subst WT;have avK:aDn=own:=amW;subst avK;have eQ:pS'=σ0:=aKD;subst eQ;have hp3:pV'=eR:=aKE;subst hp3;have UF:wj=ok:=WU;subst UF
  let cxE:Cx:=nY P' w0' wj di pS' pV'
  have hrE:Rel cxE env' σ' aO ⟨a'.tmps,[]⟩ w':=⟨⟨ic.s.below,ic.s.one,ic.s.len,ic.s.sV,ic.s.Xl,⟨ic.s.below.size,λb hb=>hb.elim,λ_ _ hb=>hb⟩,⟨ic.s.ku.vs,ic.s.ku.len,ic.s.ku.Rj,ic.s.ku.Qz⟩⟩,ic.env,rfl,λx v hg=>hg.elim,λp hp=>absurd hp (zb0 p)⟩
  refine leaves (cx:=cxE) ?_ (λ_ h=>h) (zai _) a'.defers w' ?_ ?_ hrE
  ·intro w2 CW;obtain⟨aLq,KC,hk,ub,Oj,avM⟩:=abt CW l rs _ c_ hk;obtain⟨l1,hk,pj,XN⟩:=Kx aLq _ _ List.nodup_range hk;obtain⟨r,hk,lF,eQ⟩:=LN σ' l1 l1 _ pj hk;obtain⟨as',hk,has⟩:=LG r aLq _ hk;obtain⟨σ2,hk,h1,h2⟩:=KB σ' r r _ hk;obtain⟨lh,hA,ZI,UF⟩:=anG (cx:=cxE) ⟨rfl,qG⟩ (XN.trans eQ) lF h1 h2 CW.s;exact⟨_,Vj zl hl _ _ w2 KC Oj avM,_,_,σ2,lh,rfl,hk,ZI,au8 (kC.ra hA UF _ _ _ has ub)⟩
  ·intro d hd;rw[ic.defers]at hd;obtain⟨D,h2,h3,h4,h5⟩:=hdf d hd;exact⟨D,h2,(ic.s.fr.same D h3).trans h4,h5⟩
  ·rw[ic.defers];exact avJ
 intro e a' w' hp;cases e with
 |normal=>exact fin a' w' hp
 |ret=>exact fin a' w' hp
 |exit i=>
  obtain⟨_,_,_,_,_,_,_,hk⟩:=hp;exact kK
 |_=>exact hp.elim
end
end
end Go.Dv
namespace Go.Dv
def wrap64{n:Int}(h: -9223372036854775808<=n/\n<=9223372036854775807):IntKind.i64.wrap n=n:=by
 have hb:IntKind.i64.bits=64:=rfl;simp only[IntKind.wrap,IntKind.signed,hb];have:(2:Int)^64=18446744073709551616:=ao;have:(2:Int)^(64-1)=9223372036854775808:=ao
 simp_all
 omega
def dB{r n:Int}(hr:r=IntKind.i64.wrap n)(h: -9223372036854775808<=n/\n<=9223372036854775807):r=n:=hr.trans (wrap64 h)
def cmp{b:Bool}{p:Prop}(h:b=true↔p):(b=true/\p)\/(b=false∧¬p):=by
 cases b with
 |true=>exact .inl ⟨rfl,h.1 rfl⟩
 |false=>exact .inr ⟨rfl,λhp=>by have:=h.2 hp;cases this⟩
def bj{n:Int}{K:Int->Prop}(h: -9223372036854775808<=n/\n<=9223372036854775807)(k:K n):∀r:Int,r=IntKind.i64.wrap n->K r:=λr hr=>by
 rw[dB hr h];exact k
def de{p:Prop}{K:Bool->Prop}(ht:p->K true)(hf:¬p->K false):∀b:Bool,(b=true↔p)->K b:=λb hb=>by
 cases b with
 |true=>exact ht (hb.1 rfl)
 |false=>exact hf λhp=>by have:=hb.2 hp;cases this
def aq{P:Program}:Sound P (ay []):=apQ [] (λ_ h=>bV)
def af{P:Program}{f:Nat}{S:Spec}{l:List (Nat×Spec)}(h:an P f S)(ht:Sound P (ay l)):Sound P (ay ((f,S)::l)):=by
 intro g;show an P g (Bool.rec (ay l g) S (Nat.beq f g));cases hb:Nat.beq f g with
 |true=>
  have:=zab hb;subst this;exact h
 |false=>exact ht g
end Go.Dv
namespace Go.Dv
open Go Go.ChangeShapes Go.WideShapes Go.ChangeAt Go.RowKit
def alN{P:Program}{f:FuncId}{S:Spec}(h:an P f S)(eP:S.mu=false){W:World}{args:Array Value}{ps:List PV}(rT:ew (λb=>b<W.heap.size) W ps args.toList)(cL:S.run ps λr=>r=.pv (.bool true)):
 Calls P f args W λe w'=>e=.returned (.bool true)/\Below W.heap.size W w':=by
 refine(h.2.2.1 W (λb=>b<W.heap.size) ps args _ eP (λ_ hb=>hb) rT cL).2.mono λe w' he=>?_
 obtain⟨v,r,us,rfl,rfl,hb,hr,_⟩:=he;simp only[RR,Rd]at hr;exact⟨by rw[hr.1],hb⟩
def acB{H:Type}{enc:TypeId×Value->H}{P:Program}(hl:laidOutB P=true){W W':World}(hb:Below W.heap.size W W'):∀(ts:List TypeId) (vs:List Value) (ds:List (DataW H)) (ps:List MemPlace),
 (∀t∈ts,P.readableRec t=true/\t<P.types.size)->DataW.TrodAll enc P W 0 (λ_=>true) true ts vs ds ps->(∀x∈ps,x.block<W.heap.size)->DataW.TrodAll enc P W' 0 (λb=>decide (b<W.heap.size)) true ts vs ds ps:=by
 intro ts
 induction ts with
 |nil=>
  intro vs ds ps _ h _;obtain⟨rfl,rfl,rfl⟩:=trodAll_nil h;exact trodAll_mk0
 |cons t ts ih=>
  intro vs ds ps ht h aU;obtain⟨v,KC,d,ds',p,q,rfl,rfl,rfl,h1,h2⟩:=trodAll_cons h;exact⟨p,q,Below.trod hl (ht t aj).1 (ht t aj).2 h1 hb (λx hx=>aU x iP),ih _ _ _ (λt' h'=>ht t' (by simp[h'])) h2 (λx hx=>aU x iP),rfl⟩
def xb{H:Type}{enc:TypeId×Value->H}{P:Program}(hl:laidOutB P=true){f:Func}{s:ChangeSpec}{apart fresh handsOn:Bool}{W W':World}{args:Array Value}{ds gs:List (DataW H)}{before:List MemPlace}{tb:TypeId}
 (hts:∀t∈f.params.toList,P.readableRec t=true/\t<P.types.size) (hrt:f.resultTypes= #[tb]) (hub:P.underlying tb=some .bool) (azE:s.vars=[])
 (hfn:s.fn H (ds++gs)={ results:=[.lit (.bool true)],args:=ds })
 (hW:DataW.Whole enc P f.params.toList s.vars apart W args.toList ds gs before) (hb:Below W.heap.size W W'):
 s.post enc P f apart fresh handsOn false W args (.bool true) W':=by
 have aU:=hW.lt;have iA:=hW;obtain⟨p,q,hA,hV,rfl,_,_⟩:=hW;rw[azE]at hV;obtain⟨rfl,rfl⟩:=trodVars_none hV;refine⟨ds,[],p++[],[],p,[],iA,?_,?_,?_,Below.frame hb _,λh=>bV⟩
 ·rw[hfn,hrt];exact trodAll_cons_mk (shut_bool hub _) trodAll_mk0
 ·rw[hfn];exact acB hl hb _ _ _ _ hts hA (λx hx=>by simpa using aU x (by simpa using hx))
 ·rw[hfn,azE];simp[DataW.TrodVars]
end Go.Dv
namespace Go.Dv
open Go Go.ChangeShapes Go.WideShapes Go.Deep
section
inductive CT where
 |bool
 |int (k:IntKind)
 |str
 |sl (ag:Bool) (cs:List CT)
mutual
def O1:CT->PV->Prop
 | .bool,x=>∃b,x=.bool b
 | .int k,x=>∃n,x=.int k n/\(Lit.int k n).wf=true
 | .str,x=>∃l,x=.str l/\l.length<=maxLen
 | .sl ag cs,x=>∃aC,x=.sl cs.length aC/\aC.length<=maxLen∧∀y∈aC,(ag=true→∃zs,y=.agg zs/\ou cs zs)/\(ag=false->ou cs [y])
def ou:List CT->List PV->Prop
 |[],xs=>xs=[]
 |c::cs,xs=>∃y ys,xs=y::ys/\O1 c y/\ou cs ys
end
def Je:∀(cs ds:List CT) (xs ys:List PV),ou cs xs->ou ds ys->ou (cs++ds) (xs++ys)
 |[],_,_,_,h,h2=>by simp only[ou]at h;subst h;exact h2
 |c::cs,ds,xs,ys,h,h2=>by
  simp only[ou]at h;obtain⟨y,zs,rfl,h3,h4⟩:=h;simp only[zbd,ou];exact⟨_,_,rfl,h3,Je cs ds zs ys h4 h2⟩
def P7:∀(cs:List CT) (xs:List PV),ou cs xs->xs.length=cs.length
 |[],_,h=>by simp only[ou]at h;subst h;rfl
 |c::cs,xs,h=>by
  simp only[ou]at h;obtain⟨y,zs,rfl,h3,h4⟩:=h;simp[P7 cs zs h4]
def ajB:∀(c:CT) (x:PV),O1 c x->x.one=true∧∀l,x≠.agg l
 | .bool,x,h=>by simp only[O1]at h;obtain⟨b,rfl⟩:=h;exact⟨rfl,aj⟩
 | .int k,x,h=>by simp only[O1]at h;obtain⟨b,rfl,_⟩:=h;exact⟨rfl,aj⟩
 | .str,x,h=>by simp only[O1]at h;obtain⟨b,rfl,_⟩:=h;exact⟨rfl,aj⟩
 | .sl _ _,x,h=>by simp only[O1]at h;obtain⟨b,rfl,_⟩:=h;exact⟨rfl,aj⟩
def Q9:∀(cs:List CT) (xs:List PV),ou cs xs→∀x∈xs,x.one=true
 |[],_,h=>by simp only[ou]at h;subst h;simp
 |c::cs,xs,h=>by
  simp only[ou]at h;obtain⟨y,zs,rfl,h3,h4⟩:=h;intro x hx;rcases zaw.1 hx with rfl|hx
  ·exact(ajB c _ h3).1
  ·exact Q9 cs zs h4 x hx
def M_(P:Program)(e:TypeId):Bool:=match P.underlying e with|some (.struct _)=>true|some (.array _ _)=>true|_=>false
noncomputable def TB(P:Program)(g:TypeId->Option (List CT)):List Field->Nat->Option (List CT):=
 λl=>List.rec (λ_=>some []) (λf _ ih off=>
  (g f.type).bind λcs=>bif Nat.beq f.offset off&&Nat.beq cs.length (P.cellsOf f.type)then(ih (off+cs.length)).map λds=>cs++ds else none) l
noncomputable def awD(cs:List CT)(m:Nat):List CT:=Nat.rec [] (λ_ ih=>cs++ih) m
noncomputable def EE(P:Program)(n:Nat):TypeId->Option (List CT):=
 Nat.rec (λ_=>none) (λ_ ih t=>
  match P.underlying t with
  |some .bool=>some [.bool]
  |some (.int k)=>some [.int k]
  |some .string=>some [.str]
  |some (.slice e)=>(ih e).bind λcs=>bif Nat.beq cs.length (P.cellsOf e)&&Nat.ble 1 cs.length&&(M_ P e||Nat.beq cs.length 1)then some [.sl (M_ P e) cs]else none
  |some (.struct fs)=>(TB P ih fs.toList 0).bind λcs=>bif Nat.beq cs.length (P.cellsOf t)then some cs else none
  |some (.array m e)=>bif Nat.ble m 64 then(ih e).bind λcs=>bif Nat.beq cs.length (P.cellsOf e)&&Nat.beq (m*cs.length) (P.cellsOf t)then some (awD cs m)else none else none
  |_=>none) n
section
variable {H:Type} {enc:TypeId×Value->H} {P:Program} {w:World} {base:Nat} {spare:Nat->Bool} {held:Bool}
def axk(ok:Nat->Prop)(b:Nat):∀(xs:List PV) (vs:List Value) (o:Nat),ew ok w xs vs->(∀j,j<vs.length->w.cell? ⟨b,o+j,none⟩=vs[j]?)->(∀x∈xs,x.one=true)->te ok w b o xs:=by
 intro xs
 induction xs with
 |nil=>intro vs o _ _ _;simp[te]
 |cons x xs ih=>
  intro vs o h hc h1;simp only[ew]at h;obtain⟨v,r,rfl,h2,h3⟩:=h;simp only[te];refine⟨⟨h1 x aj,v,by simpa using hc 0 aj,h2⟩,ih r (o+1) h3 (λj hj=>?_) (λy hy=>h1 y pT)⟩;have:=hc (j+1) aH;simp at this;rw[<-this];congr 2;omega
def asC(ok:Nat->Prop)(b sz:Nat)(f:Nat->PV):∀(k i o:Nat),(∀j,i<=j->j<i+k->fC ok w b sz (o+(j-i)*sz) [f j])->fC ok w b sz o ((List.range' i k).map f):=by
 intro k
 induction k with
 |zero=>intro i o _;simp[fC]
 |succ k ih=>
  intro i o h;rw[List.range'_succ,zat];have h0:=h i (zai _) ab;rw[zb9,Nat.zero_mul,Nat.add_zero]at h0;have h1:=ih (i+1) (o+sz) (λj h1 h2=>by
   have:=h j ab ab;rw[show o+sz+(j-(i+1))*sz=o+(j-i)*sz by
    obtain⟨q,rfl⟩:∃q,j=i+1+q:=⟨j-(i+1),ab⟩
    rw[show i+1+q-(i+1)=q by omega,show i+1+q-i=q+1 by omega,Nat.add_mul,zbc];omega]
   exact this)
  generalize f i=x at h0;cases x<;>(simp only[fC]at h0 ⊢;exact⟨h0.1,h1⟩)
def ap0(ok:Nat->Prop){n k:Nat}(ih:∀(t:TypeId) (cs:List Value) (x:DataW H×List MemPlace) (iD:List CT),EE P n t=some iD->DataW.trod enc P w base spare held k t cs=some x→∃xs,ou iD xs/\ew ok w xs cs)(cs:List Value):
 ∀(l:List Field) (off:Nat) (iD:List CT),TB P (EE P n) l off=some iD->off+iD.length=cs.length->(∀(i:Nat) (f:Field),l[i]?=some f→∃x,DataW.trod enc P w base spare held k f.type ((cs.drop f.offset).take (P.cellsOf f.type))=some x)→∃xs,ou iD xs/\ew ok w xs (cs.drop off):=by
 intro l
 induction l with
 |nil=>
  intro off iD h hl _;simp only[TB]at h;injection h with h
  subst h;exact⟨[],by simp[ou],by simp only[ew];exact zb8 (by simp at hl;omega)⟩
 |cons f l ihl=>
  intro off iD h hl hx;have h':((EE P n f.type).bind λcs=>bif Nat.beq f.offset off&&Nat.beq cs.length (P.cellsOf f.type)then(TB P (EE P n) l (off+cs.length)).map λds=>cs++ds else none)=some iD:=h;obtain⟨c1,h1,h2⟩:=zb5.1 h';cases hb:(Nat.beq f.offset off&&Nat.beq c1.length (P.cellsOf f.type))with
  |false=>rw[hb]at h2;cases h2
  |true=>
   rw[hb]at h2;simp only[cond_true]at h2;obtain⟨c2,h3,rfl⟩:=Option.map_eq_some_iff.1 h2;rw[zaU]at hb;have e1:=zab hb.1;have e2:=zab hb.2;obtain⟨x,SI⟩:=hx 0 f rfl;obtain⟨xs1,g1,g2⟩:=ih _ _ _ _ h1 SI;rw[zad]at hl;obtain⟨xs2,g3,g4⟩:=ihl (off+c1.length) c2 h3 ab (λi f' hf=>hx (i+1) f' (by simpa using hf));refine⟨xs1++xs2,Je _ _ _ _ g1 g3,?_⟩;rw[eG];rw[e1,<-e2]at g2;refine⟨_,_,?_,g2,g4⟩;rw[<-zaQ,zaD]
def axi(ok:Nat->Prop)(di:∀b,b<w.heap.size->ok b):∀(n k:Nat) (t:TypeId) (cs:List Value) (x:DataW H×List MemPlace) (iD:List CT),EE P n t=some iD->DataW.trod enc P w base spare held k t cs=some x→∃xs,ou iD xs/\ew ok w xs cs:=by
 intro n
 induction n with
 |zero=>intro k t cs x iD h;cases h
 |succ n ih=>
  intro k t cs x iD h hx;have h':(match P.underlying t with
   |some .bool=>some [CT.bool]
   |some (.int k)=>some [CT.int k]
   |some .string=>some [CT.str]
   |some (.slice e)=>(EE P n e).bind λcs=>bif Nat.beq cs.length (P.cellsOf e)&&Nat.ble 1 cs.length&&(M_ P e||Nat.beq cs.length 1)then some [CT.sl (M_ P e) cs]else none
   |some (.struct fs)=>(TB P (EE P n) fs.toList 0).bind λcs=>bif Nat.beq cs.length (P.cellsOf t)then some cs else none
   |some (.array m e)=>bif Nat.ble m 64 then(EE P n e).bind λcs=>bif Nat.beq cs.length (P.cellsOf e)&&Nat.beq (m*cs.length) (P.cellsOf t)then some (awD cs m)else none else none
   |_=>none)=some iD:=h
  split at h'
  ·rename_i ht;injection h' with h';subst h'
   obtain⟨b,rfl,_⟩:=DataW.trod_bool ht hx;exact⟨[.bool b],by simp[ou,O1],by simp[ew,Rd]⟩
  ·rename_i kk ht;injection h' with h';subst h'
   obtain⟨b,rfl,_,hw⟩:=DataW.trod_int ht hx;exact⟨[.int kk b],by simp[ou,O1,hw],by simp[ew,Rd]⟩
  ·rename_i ht;injection h' with h';subst h'
   obtain⟨s,rfl,_,hs⟩:=DataW.trod_string ht hx;exact⟨[.str s.data.toList],by simp[ou,O1];exact hs,by simp[ew,Rd]⟩
  ·rename_i e ht;obtain⟨c1,h1,h2⟩:=zb5.1 h';cases hb:(Nat.beq c1.length (P.cellsOf e)&&Nat.ble 1 c1.length&&(M_ P e||Nat.beq c1.length 1))with
   |false=>rw[hb]at h2;cases h2
   |true=>
    rw[hb]at h2;simp only[cond_true,Option.some.injEq]at h2;subst h2;rw[zaU,zaU]at hb;have e1:=zab hb.1.1;have e2:=za3 hb.1.2;rcases open_slice ht hx with⟨rfl,_⟩|⟨a,len,cap,m,q,D,Pl,rfl,hba,hl,hm,hmm,_,lj⟩
    ·refine⟨[.sl c1.length []],?_,?_⟩
     ·simp only[ou,O1];exact⟨_,_,rfl,⟨[],rfl,aj,aj⟩,rfl⟩
     ·simp only[ew,Rd];exact⟨_,_,rfl,⟨none,0,rfl,aj,by simp[maxLen],.inl trivial⟩,rfl⟩
    ·have gJ:len<=m:=by rw[hmm];split<;>omega
     have each:∀i,i<len→∃q:List PV×List Value,ou c1 q.1/\ew ok w q.1 q.2/\q.2.length=c1.length∧∀j,j<c1.length->w.cell? ((a.add (i*c1.length)).add j)=q.2[j]?:=by
      intro i hi;obtain⟨Ea,g1,g2⟩:=lj i ab;obtain⟨xs,g3,g4⟩:=ih _ _ _ _ _ h1 g2;obtain⟨_,g5,g6⟩:=World.cells?_some g1;exact⟨(xs,Ea),g3,g4,by rw[g5,e1],λj hj=>by rw[e1];exact g6 j ab⟩
     obtain⟨f,hf⟩:=choose_lt each;have hlr:((List.range' 0 len).map λi=>if M_ P e=true then PV.agg (f i).1 else(f i).1.headD (.nil 0)).length=len:=aj;refine⟨[.sl c1.length ((List.range' 0 len).map λi=>if M_ P e=true then PV.agg (f i).1 else(f i).1.headD (.nil 0))],?_,?_⟩
     ·simp only[ou,O1];refine⟨_,_,rfl,⟨_,rfl,by rw[hlr];omega,?_⟩,rfl⟩;intro y hy;obtain⟨i,hi,rfl⟩:=zaX.1 hy;have hi:i<len:=by simp at hi;exact hi
      refine⟨λhg=>?_,λhg=>?_⟩
      ·rw[if_pos hg];exact⟨_,rfl,(hf i hi).1⟩
      ·rw[if_neg (by rw[hg];decide)];rw[hg,Bool.false_or]at hb;have e3:=zab hb.2;have h6:=(hf i hi).1;have h7:=P7 _ _ h6;rw[e3]at h7;obtain⟨z,hz⟩:=zck.1 h7;rw[hz]at h6 ⊢;exact h6
     ·simp only[ew,Rd];refine⟨_,_,rfl,⟨some a,cap,by rw[hlr],by rw[hlr];exact hl,hm,?_⟩,rfl⟩;by_cases h0:len=0
      ·left;subst h0;rfl
      right;obtain⟨g1,g2,g3,g4⟩:=hf 0 ab;have jF:=g4 0 ab;rw[Nat.zero_mul]at jF;have ea:(a.add 0).add 0=a:=rfl;rw[ea]at jF;obtain⟨v,hv⟩:∃v,(f 0).2[0]?=some v:=qp;rw[hv]at jF;have aoE:a.spot=none:=by
       unfold World.cell? at jF;split at jF
       ·split at jF
        ·cases jF
        ·rename_i hs;simpa using hs
       ·cases jF
      have aU:a.block<w.heap.size:=by
       unfold World.cell? at jF;split at jF
       ·rename_i hs;by_cases hh:a.block<w.heap.size
        ·exact hh
        ·rw[zcl ab]at hs;cases hs
       ·cases jF
      have aKF:∀j,a.add j=⟨a.block,a.off+j,none⟩:=by
       intro j;unfold Addr.add;split
       ·rename_i h;subst h;obtain⟨b,o,s⟩:=a;simp only at aoE;subst aoE;rfl
       ·rfl
      refine⟨a.block,a.off,?_,di _ aU,?_⟩
      ·obtain⟨b,o,s⟩:=a;simp only at aoE;subst aoE;rfl
      refine asC ok _ _ _ len 0 a.off (λi _ hi=>?_);obtain⟨g1,g2,g3,g4⟩:=hf i ab;rw[zcq];have g4':∀j,j<(f i).2.length->w.cell? ⟨a.block,a.off+i*c1.length+j,none⟩=(f i).2[j]?:=by
       intro j hj;rw[<-g4 j ab,add_add,aKF,zaJ]
      by_cases hg:M_ P e=true
      ·rw[if_pos hg];simp only[fC];exact⟨⟨P7 _ _ g1,axk ok _ _ _ _ g2 g4' (Q9 _ _ g1)⟩,trivial⟩
      ·rw[if_neg hg];have jA:M_ P e=false:=by simpa using hg
       rw[jA,Bool.false_or]at hb;have e3:=zab hb.2;have h7:=P7 _ _ g1;rw[e3]at h7;obtain⟨z,hz⟩:=zck.1 h7;rw[hz]at g1 g2 ⊢;have h8:=Q9 _ _ g1 z aj;simp only[ew]at g2;obtain⟨v',r,Mz,h9,rfl⟩:=g2;have XK:=g4' 0 (by rw[Mz];simp);rw[Mz]at XK;have Cd:∀l,z≠.agg l:=by
        match c1,g1 with
        |c::cs,g1=>simp only[ou]at g1;obtain⟨y,ys,hy,gT,_⟩:=g1;injection hy with hy _;subst hy;exact(ajB c _ gT).2
       show fC ok w a.block c1.length _ [z];cases z with
       |agg l=>exact absurd rfl (Cd l)
       |_=>simp only[fC];exact⟨⟨e3,h8,v',by simpa using XK,h9⟩,trivial⟩
  ·rename_i fs ht;obtain⟨c1,h1,h2⟩:=zb5.1 h';cases hb:Nat.beq c1.length (P.cellsOf t)with
   |false=>rw[hb]at h2;cases h2
   |true=>
    rw[hb]at h2;simp only[cond_true,Option.some.injEq]at h2;subst h2;have e1:=zab hb;obtain⟨xs,q,rfl,_,hl,hxl,hf⟩:=DataW.trod_struct ht hx;have:=ap0 (k:=q) ok (λt cs x iD=>ih q t cs x iD) cs fs.toList 0 c1 h1 ab (λi f hi=>?_)
    ·simpa using this
    ·have Vp:fs[i]?=some f:=by simpa using hi
     rw[hf i f Vp];have:i<fs.size:=by
      by_cases hh:i<fs.size
      ·exact hh
      ·rw[zcl ab]at Vp;cases Vp
     rw[zah ab];exact⟨_,rfl⟩
  ·rename_i m e ht;cases hm:Nat.ble m 64 with
   |false=>rw[hm]at h';cases h'
   |true=>
    rw[hm]at h';simp only[cond_true]at h';obtain⟨c1,h1,h2⟩:=zb5.1 h';cases hb:(Nat.beq c1.length (P.cellsOf e)&&Nat.beq (m*c1.length) (P.cellsOf t))with
    |false=>rw[hb]at h2;cases h2
    |true=>
     rw[hb]at h2;simp only[cond_true,Option.some.injEq]at h2;subst h2;rw[zaU]at hb;have e1:=zab hb.1;have e2:=zab hb.2;obtain⟨xs,q,rfl,_,hl,hxl,hf⟩:=DataW.trod_array ht hx;have main:∀(k i:Nat),i+k=m→∃ys,ou (awD c1 k) ys/\ew ok w ys (cs.drop (i*c1.length)):=by
      intro k
      induction k with
      |zero=>
       intro i hi;refine⟨[],by show ou [] [];simp[ou],?_⟩;simp only[ew];exact zb8 (by rw[hl,<-e2,show i=m by omega];exact zai _)
      |succ k ihk=>
       intro i hi;have Gr:=hf i ab;have:i<xs.length:=ab;rw[zah this]at Gr;obtain⟨ys1,g1,g2⟩:=ih _ _ _ _ _ h1 Gr;obtain⟨ys2,g3,g4⟩:=ihk (i+1) ab;refine⟨ys1++ys2,Je _ _ _ _ g1 g3,?_⟩;rw[eG];rw[<-e1]at g2;refine⟨_,_,?_,g2,g4⟩;rw[Nat.add_mul,zbc,<-zaQ,zaD]
     obtain⟨ys,g1,g2⟩:=main m 0 ab;exact⟨ys,g1,by simpa using g2⟩
  ·cases h'
end
end
end Go.Dv
namespace Go.Dv
open Go Go.ChangeShapes Go.WideShapes Go.Deep Go.RowKit
section
def xS:List (Bool×List CT)->List PV->Prop
 |[],xs=>xs=[]
 |p::r,xs=>∃y ys,xs=y::ys/\(p.1=true→∃zs,y=.agg zs/\ou p.2 zs)/\(p.1=false->ou p.2 [y])/\xS r ys
noncomputable def H0(P:Program)(ts:List TypeId):List (Bool×Option (List CT)):=ts.map λt=>(M_ P t,EE P 8 t)
section
variable {H:Type} {enc:TypeId×Value->H} {P:Program} {w:World} {base:Nat}
def amL{n:Nat}{t:TypeId}{c:List CT}{v:Value}{r:Reach}{b0:Nat}(hf:EE P n t=some c)(ha:M_ P t=false)(hv:Value.okWide P w r b0 t v):v.cells.toList=[v]:=by
 cases n with
 |zero=>cases hf
 |succ n=>
  have h':(match P.underlying t with
   |some .bool=>some [CT.bool]
   |some (.int k)=>some [CT.int k]
   |some .string=>some [CT.str]
   |some (.slice e)=>(EE P n e).bind λcs=>bif Nat.beq cs.length (P.cellsOf e)&&Nat.ble 1 cs.length&&(M_ P e||Nat.beq cs.length 1)then some [CT.sl (M_ P e) cs]else none
   |some (.struct fs)=>(TB P (EE P n) fs.toList 0).bind λcs=>bif Nat.beq cs.length (P.cellsOf t)then some cs else none
   |some (.array m e)=>bif Nat.ble m 64 then(EE P n e).bind λcs=>bif Nat.beq cs.length (P.cellsOf e)&&Nat.beq (m*cs.length) (P.cellsOf t)then some (awD cs m)else none else none
   |_=>none)=some c:=hf
  unfold M_ at ha;split at h'
  ·rename_i ht;obtain⟨b,rfl⟩:=okWide_bool ht hv;rfl
  ·rename_i ht;obtain⟨b,rfl⟩:=okWide_int ht hv;rfl
  ·rename_i ht;obtain⟨b,rfl⟩:=okWide_string ht hv;rfl
  ·rename_i ht;obtain⟨a,l,c,rfl⟩:=okWide_slice ht hv;rfl
  ·rename_i ht;rw[ht]at ha;cases ha
  ·rename_i ht;rw[ht]at ha;cases ha
  ·cases h'
def awT(ok:Nat->Prop)(di:∀b,b<w.heap.size->ok b){sp:Nat->Bool}{held:Bool}{r:Reach}{b0:Nat}:∀(ts:List TypeId) (sig:List (Bool×List CT)) (vs:List Value) (ds:List (DataW H)) (ps:List MemPlace),
 H0 P ts=sig.map (λp=>(p.1,some p.2))->(∀(j:Nat) t v,ts[j]?=some t->vs[j]?=some v->Value.okWide P w r b0 t v)->DataW.TrodAll enc P w base sp held ts vs ds ps→∃xs,xS sig xs/\ew ok w xs vs:=by
 intro ts
 induction ts with
 |nil=>
  intro sig vs ds ps hs _ h;obtain⟨rfl,rfl,rfl⟩:=trodAll_nil h;cases sig with
  |nil=>exact⟨[],by simp[xS],Fo⟩
  |cons=>simp[H0]at hs
 |cons t ts ih=>
  intro sig vs ds ps hs rS h;obtain⟨v,KC,d,ds',p,q,rfl,rfl,rfl,h1,h2⟩:=trodAll_cons h;cases sig with
  |nil=>simp[H0]at hs
  |cons s sig=>
   simp only[H0,zat,List.cons.injEq,Prod.mk.injEq]at hs;obtain⟨⟨ua,ZI⟩,hs3⟩:=hs;obtain⟨xs,g1,g2⟩:=ih sig KC ds' q hs3 (λj t v ht hv=>rS (j+1) t v (by simpa using ht) (by simpa using hv)) h2;obtain⟨k,hk⟩:=h1;obtain⟨ys,g3,g4⟩:=axi ok di 8 k t _ _ _ ZI hk;have hv:=rS 0 t v rfl rfl;cases Vs:M_ P t with
   |false=>
    rw[amL ZI Vs hv]at g4
    match ys,g4 with
    |[],g4=>simp only[ew]at g4;cases g4
    |y::ys,g4=>
     simp only[ew]at g4;obtain⟨v',r,e,g5,g6⟩:=g4;injection e with e1 e2
     subst e1;subst e2;have:ys=[]:=by
      cases ys with
      |nil=>rfl
      |cons z zs=>simp only[ew]at g6;obtain⟨_,_,e,_⟩:=g6;cases e
     subst this;refine⟨y::xs,?_,?_⟩
     ·simp only[xS];exact⟨y,xs,rfl,λh=>absurd (ua.trans h) (by rw[Vs];decide),λ_=>g3,g1⟩
     ·simp only[ew];exact⟨v,KC,rfl,g5,g2⟩
   |true=>
    have fM:∃cs,v=.agg cs:=by
     unfold M_ at Vs;split at Vs
     ·rename_i fs h;obtain⟨cs,h,_⟩:=okWide_struct h hv;exact⟨cs,h⟩
     ·rename_i m e h;simp only[Value.okWide,h]at hv;obtain⟨cs,h1,_⟩:=hv;exact⟨cs,h1⟩
     ·cases Vs
    obtain⟨cs,rfl⟩:=fM;refine⟨.agg ys::xs,?_,?_⟩
    ·simp only[xS];exact⟨_,xs,rfl,λ_=>⟨ys,rfl,g3⟩,λh=>absurd (ua.trans h) (by rw[Vs];decide),g1⟩
    ·simp only[ew,Rd];exact⟨_,KC,rfl,⟨λc hc=>by exact Q9 _ _ g3 c hc,cs,rfl,by simpa[Value.cells]using g4⟩,g2⟩
def wT{f:FuncId}{S:Spec}(h:an P f S)(eP:S.mu=false){sig:List (Bool×List CT)}(cL:∀xs,xS sig xs->S.run xs λr=>r=.pv (.bool true)){ts:List TypeId}(aKG:H0 P ts=sig.map (λp=>(p.1,some p.2)))
 {args:Array Value} {ds:List (DataW H)} {ps:List MemPlace} {r:Reach} {b0:Nat} (rS:∀(j:Nat) t v,ts[j]?=some t->args.toList[j]?=some v->Value.okWide P w r b0 t v) (hA:DataW.TrodAll enc P w 0 (λ_=>true) true ts args.toList ds ps):
 Calls P f args w λe w'=>e=.returned (.bool true)/\Below w.heap.size w w':=by
 obtain⟨xs,h1,h2⟩:=awT (λb=>b<w.heap.size) (λ_ hb=>hb) ts sig _ _ _ aKG rS hA;exact alN h eP h2 (cL xs h1)
end
def awZ{α:Type}{g:α->PV}{q:α->Prop}:∀{aC:List PV},(∀y∈aC,∃t,y=g t/\q t)→∃l:List α,aC=l.map g∧∀t∈l,q t:=by
 intro aC
 induction aC with
 |nil=>intro _;exact⟨[],rfl,aj⟩
 |cons y ys ih=>
  intro h;obtain⟨t,rfl,ht⟩:=h y aj;obtain⟨l,rfl,hl⟩:=ih λz hz=>h z (by simp[hz])
  exact⟨t::l,rfl,by simpa using⟨ht,hl⟩⟩
end
end Go.Dv
namespace Go.Dv
def aN{K:Bool->Prop}(k:K false):∀r:Bool,(r=true↔(true=false))->K r:=λr hr=>by
 cases r with
 |false=>exact k
 |true=>exact absurd (hr.1 rfl) ao
def bP{K:Bool->Prop}(k:K true):∀r:Bool,(r=true↔(false=false))->K r:=λr hr=>by
 cases r with
 |true=>exact k
 |false=>exact absurd (hr.2 rfl) ao
def au{p:Prop}{K:Bool->Prop}(h:p)(k:K true):∀b:Bool,(b=true↔p)->K b:=λb hb=>by
 rw[hb.2 h];exact k
def aw{p:Prop}{K:Bool->Prop}(h:¬p)(k:K false):∀b:Bool,(b=true↔p)->K b:=λb hb=>by
 cases b with
 |false=>exact k
 |true=>exact absurd (hb.1 rfl) h
def fQ{a b:Int}{K:Int->Prop}(k:K (max a b)):∀r:Int,r=max a b->K r:=λr hr=>by subst hr;exact k
def I8{a b:Int}{K:Int->Prop}(k:K (min a b)):∀r:Int,r=min a b->K r:=λr hr=>by subst hr;exact k
def l7{a b:Int}{K:Int->Prop}(h:0<=a/\0<b/\a<=9223372036854775807)(k:K (a/b)):b≠0∧∀r:Int,r=IntKind.i64.wrap (a.tdiv b)->K r:=by
 refine⟨ab,λr hr=>?_⟩;rw[Int.tdiv_eq_ediv_of_nonneg h.1]at hr;have h1:=zcx b h.1;have h2:=zcA h.1 (Int.le_of_lt h.2.1);rw[wrap64 ab]at hr;subst hr;exact k
def lW{a b:Int}{K:Int->Prop}(h:0<=a/\0<b)(k:K (a%b)):b≠0∧∀r:Int,r=a.tmod b->K r:=by
 refine⟨ab,λr hr=>?_⟩;rw[Int.tmod_eq_emod_of_nonneg h.1]at hr;subst hr;exact k
def IDX{α:Type}{f:α->PV}{l:List α}{i:Int}{K:PV->Prop}(h:0<=i/\i<l.length)(k:∀x,l[i.toNat]?=some x->K (f x)):∃y,(0<=i/\(l.map f)[i.toNat]?=some y)/\K y:=by
 have aU:i.toNat<l.length:=ab;refine⟨f l[i.toNat],⟨h.1,by rw[za9,zah aU];rfl⟩,k _ (zah aU)⟩
def aJv{l:List UInt8}{i:Int}{K:UInt8->Prop}(h:0<=i/\i<l.length)(k:∀x,l[i.toNat]?=some x->K x):∃b,(0<=i/\l[i.toNat]?=some b)/\K b:=by
 have aU:i.toNat<l.length:=ab;exact⟨l[i.toNat],⟨h.1,zah aU⟩,k _ (zah aU)⟩
def GET{α:Type}{f:α->PV}{l:List α}{i:Nat}{K:PV->Prop}(h:i<l.length)(k:∀x,l[i]?=some x->K (f x)):∃y,(l.map f)[i]?=some y/\K y:=
 ⟨f l[i],by rw[za9,zah h];rfl,k _ (zah h)⟩
def Q3{α:Type}{f:α->PV}{l:List α}{i:Int}{p:Prop}(h:0<=i/\i<l.length)(k:p):(0<=i/\i.toNat<(l.map f).length)/\p:=by
 rw[zav];exact⟨⟨h.1,ab⟩,k⟩
def U8{n:Int}{K:Int->Prop}(h:0<=n/\n<=255)(k:K n):∀r:Int,r=IntKind.u8.wrap n->K r:=λr hr=>by
 have e:IntKind.u8.wrap n=n:=by
  have hb:IntKind.u8.bits=8:=rfl;simp only[IntKind.wrap,IntKind.signed,hb];simp;omega
 rw[hr,e];exact k
def U8m{n:Int}{K:Int->Prop}(k:K (n%256)):∀r:Int,r=IntKind.u8.wrap n->K r:=λr hr=>by
 have e:IntKind.u8.wrap n=n%256:=by
  have hb:IntKind.u8.bits=8:=rfl;simp only[IntKind.wrap,IntKind.signed,hb];simp
 rw[hr,e];exact k
def SHR{j:IntKind}{a b:Int}{K:Int->Prop}(hj:8<=j.bits)(h:0<=b/\b<=8/\0<=a)(k:0<=a/(2^b.toNat:Nat)/\a/(2^b.toNat:Nat)<=a->K (a/(2^b.toNat:Nat))):0<=b∧∀r:Int,r=a.fdiv (2^min b.toNat j.bits)->K r:=by
 refine⟨h.1,λr hr=>?_⟩;have e8:min b.toNat j.bits=b.toNat:=ab;have hp:0<=((2^b.toNat:Nat):Int):=Int.natCast_nonneg _;rw[e8,show((2:Int)^b.toNat)=((2^b.toNat:Nat):Int) by simp,zb7 _ hp]at hr;subst hr;exact k ⟨zcA h.2.2 hp,zcx _ h.2.2⟩
def aii{α:Type}{f:α->PV}{l:List α}{i:Nat}{K:PV->Prop}(h:i<l.length)(k:∀x,l[i]?=some x->K (f x)):∃y,(0<=(i:Int)/\(l.map f)[(i:Int).toNat]?=some y)/\K y:=
 ⟨f l[i],⟨ab,QQ⟩,k _ (zah h)⟩
def bF(R:List PV->Prop->Prop):Spec:=EM true true λps K=>∃p,R ps p∧∀r:Bool,(r=true↔p)->K (.pv (.bool r))
def b_(R:List PV->Prop->Prop):ajo (bF R):=by
 refine⟨λ_=>⟨rfl,λps K h=>?_⟩,λ_ _ h=>h,rfl⟩;obtain⟨p,h1,h2⟩:=h;refine⟨.bool (@decide p (Classical.propDecidable p)),h2 _ aj,λK' h=>⟨p,h1,λr hr=>?_⟩⟩;have:r= @decide p (Classical.propDecidable p):=by
  cases r<;>simp_all
 rw[this];exact h
def aJn{l:List UInt8}{i:Int}{K:PV->Prop}(h:0<=i/\i<l.length)(k:∀x,l[i.toNat]?=some x->x.toNat<256->K (aL x)):∃y,(0<=i/\(l.map aL)[i.toNat]?=some y)/\K y:=by
 have aU:i.toNat<l.length:=ab;exact⟨aL l[i.toNat],⟨h.1,by rw[za9,zah aU];rfl⟩,k _ (zah aU) (zcb _)⟩
def aJD{l:List UInt8}{i:Int}{K:UInt8->Prop}(h:0<=i/\i<l.length)(k:∀x,l[i.toNat]?=some x->x.toNat<256->K x):∃b,(0<=i/\l[i.toNat]?=some b)/\K b:=by
 have aU:i.toNat<l.length:=ab;exact⟨l[i.toNat],⟨h.1,zah aU⟩,k _ (zah aU) (zcb _)⟩
def aGr{a:Int}{K:Int->Prop}(h:0<=a/\a<=4611686018427387903)(k:K (a%2)):∀r:Int,r=iz .and .i64 a 1->K r:=λr hr=>by
 have e:iz .and .i64 a 1=a%2:=by
  obtain⟨n,rfl⟩:∃n:Nat,a=n:=⟨a.toNat,ab⟩
  have hb:IntKind.i64.bits=64:=rfl;have e1:(BitVec.ofInt 64 (n:Int)&&&BitVec.ofInt 64 1).toNat=n%2:=by
   rw[BitVec.toNat_and,BitVec.toNat_ofInt,BitVec.toNat_ofInt];have:((n:Int)%((2:Nat)^64:Nat)).toNat=n:=ab;rw[this];exact Nat.and_one_is_mod n
  show IntKind.i64.wrap ((BitVec.ofInt 64 (n:Int)&&&BitVec.ofInt 64 1).toNat:Int)=_;rw[e1,wrap64 ab];rfl
 rw[hr,e];exact k
def aFZ{op:BinOp}{j:IntKind}{a b:Int}{K:Int->Prop}(k:K (iz op j a b)):∀r:Int,r=iz op j a b->K r:=λr hr=>by rw[hr];exact k
def aFO{α:Type}{f:α->PV}{l:List α}{P:α->Prop}{i:Nat}{K:PV->Prop}(hP:∀x∈l,P x)(h:i<l.length)(k:∀x,l[i]?=some x->P x->K (f x)):∃y,(l.map f)[i]?=some y/\K y:=
 GET h λx hx=>k x hx (hP x (zag hx))
end Go.Dv
namespace Go.Dv.Sh
abbrev t(n:Nat):Operand:=.tmp n
abbrev k(n:Int):Operand:=.const (.int .i64 n)
abbrev o(d:Nat)(p:PK):PO:=⟨some d,none,p⟩
abbrev O(p:PK):PO:=⟨none,none,p⟩
abbrev q(g:Nat)(p:PO):PO:=⟨p.dst,some (g,true),p.k⟩
abbrev Q(g:Nat)(p:PO):PO:=⟨p.dst,some (g,false),p.k⟩
abbrev m(d x:Nat):PO:=⟨some d,none,.mv (.tmp x)⟩
abbrev M(d:Nat)(n:Int):PO:=⟨some d,none,.mv (.const (.int .i64 n))⟩
abbrev b(d:Nat)(p:BinOp)(x y:Nat):PO:=⟨some d,none,.bin p (.tmp x) (.tmp y)⟩
abbrev B(d:Nat)(p:BinOp)(x:Nat)(y:Int):PO:=⟨some d,none,.bin p (.tmp x) (.const (.int .i64 y))⟩
abbrev l(d x:Nat):PO:=⟨some d,none,.load false 1 (.tmp x)⟩
abbrev L(d n x:Nat):PO:=⟨some d,none,.load true n (.tmp x)⟩
abbrev f(d p x:Nat):PO:=⟨some d,none,.fldA p (.tmp x)⟩
abbrev i(d s x y:Nat):PO:=⟨some d,none,.idxA s (.tmp x) (.tmp y)⟩
abbrev e(d x n:Nat):PO:=⟨some d,none,.ext (.tmp x) n⟩
abbrev s(n x y:Nat):PO:=⟨none,none,.store n (.tmp x) (.tmp y)⟩
abbrev S(n x:Nat)(y:Int):PO:=⟨none,none,.store n (.tmp x) (.const (.int .i64 y))⟩
abbrev p(d c x y:Nat):PO:=⟨some d,none,.pick (.tmp c) (.tmp x) (.tmp y)⟩
abbrev n(d x:Nat):PO:=⟨some d,none,.lenR (.tmp x)⟩
abbrev N(d x:Nat):PO:=⟨some d,none,.lenN (.tmp x)⟩
abbrev c(d f:Nat)(l:List Operand):PO:=⟨some d,none,.call f l⟩
abbrev u(d x:Nat):PO:=⟨some d,none,.un .not (.tmp x)⟩
abbrev x(d y:Nat):PO:=⟨some d,none,.box y (.tmp d)⟩
abbrev r(l:List PO):PC:=.region l
abbrev g(a b:PC):PC:=.seq a b
abbrev T:Operand:=.const (.bool true)
abbrev F:Operand:=.const (.bool false)
abbrev I(n:Int):PV:=.int .i64 n
abbrev w:PC:=.skip
abbrev Y(l:List UInt8):Operand:=.const (.string (ByteArray.mk (Array.mk l)))
abbrev R(l:List PO)(c:PC):PC:=.seq (.region l) c
abbrev C(x:Nat)(a b:PC):PC:=.cond (.tmp x) a b
abbrev h(n:Nat):PC:=.exit n
abbrev j:PC:=.ret
abbrev D(l:List PO)(a:List (List Nat)):PC:=.draw l a
abbrev E(l:List PO)(a:List (List Nat)):PC:=.drawD l a
abbrev G(l:List Nat)(c:PC):PC:=.loop l c
abbrev H(n:Nat)(c:PC):PC:=.block n c
abbrev y(d x:Nat):PO:=⟨some d,none,.lenS (.tmp x)⟩
abbrev P(d a b:Nat):PO:=⟨some d,none,.pick (.tmp a) (.tmp b) (.const (.bool false))⟩
abbrev V(d a b:Nat):PO:=⟨some d,none,.pick (.tmp a) (.const (.bool true)) (.tmp b)⟩
abbrev U(d y x:Nat):PO:=⟨some d,none,.box y (.tmp x)⟩
end Go.Dv.Sh
namespace Go.Dv
def UA(P:Program)(f:Nat)(pc:PC)(ps:List Nat)(rs:List (Nat×Option (Bool×Nat)))(np:Nat):Prop:=
 ∃fn c l,P.funcs[f]?=some fn/\(fn.name== "runtime.NumGoroutine")=false/\fn.body=some c/\nR P fn.ntmps c=some (strip pc)/\fn.results=List.toArray l/\l.map (aib P)=rs.map some/\l.length<=4/\np<=fn.ntmps
def bk{P:Program}{f:Nat}{pc:PC}{ps:List Nat}{rs:List (Nat×Option (Bool×Nat))}{np:Nat}(fn:Func)
 (h:(P.funcs[f]?,(fn.name== "runtime.NumGoroutine"),fn.body.map (nR P fn.ntmps),fn.results.toList.map (aib P),Nat.ble fn.results.toList.length 4,Nat.ble np fn.ntmps)=(some fn,false,some (some (strip pc)),rs.map some,true,true)):UA P f pc ps rs np:=by
 simp only[Prod.mk.injEq]at h;obtain⟨h1,h2,h3,h4,h5,h6⟩:=h;cases hb:fn.body with
 |none=>rw[hb]at h3;cases h3
 |some c=>
  rw[hb]at h3;exact⟨fn,c,fn.results.toList,h1,h2,hb,Option.some.inj h3,aj,h4,za3 h5,za3 h6⟩
def UA.sound{P:Program}{f:Nat}{pc:PC}{ps:List Nat}{rs:List (Nat×Option (Bool×Nat))}{np:Nat}(w:UA P f pc ps rs np)(hm:P.follows .mixedOrders=true){Γ:Ctx}{S:Spec}(hΓ:Sound P Γ)(hS:ajo S)(cP:∀args K,S.run args K->args.length=np)(h:atQ Γ ps pc rs S):an P f S:=by
 obtain⟨fn,c,l,h1,h2,h3,h4,h5,h6,h7,h8⟩:=w;exact ahG hΓ hm h1 h2 h3 h4 h5 h6 h7 hS np h8 cP h
def UA.rJ{P:Program}{f:Nat}{pc:PC}{ps:List Nat}{rs:List (Nat×Option (Bool×Nat))}{np:Nat}(w:UA P f pc ps rs np)(hm:P.follows .mixedOrders=true){Γ:Ctx}{qS:List AV->aF->(AV->aF->Prop)->Prop}(hΓ:Sound P Γ)(cP:∀xs σ K,qS xs σ K->xs.length=np)(h:alk Γ ps pc rs (sB qS)):an P f (sB qS):=by
 obtain⟨fn,c,l,h1,h2,h3,h4,h5,h6,h7,h8⟩:=w;exact af1 hΓ hm h1 h2 h3 h4 h5 h6 h7 np h8 cP h
noncomputable def CS(P:Program)(l:List (Nat×Spec)):Prop:=List.rec True (λa _ ih=>an P a.1 a.2/\ih) l
def CS.ok{P:Program}:∀l,CS P l->Sound P (ay l)
 |[],_=>aq
 |(_,_)::l,⟨a,b⟩=>af a (CS.ok l b)
def UA.snd{P:Program}{f:Nat}{pc:PC}{ps:List Nat}{rs:List (Nat×Option (Bool×Nat))}{np:Nat}(w:UA P f pc ps rs np){Γ:List (Nat×Spec)}{S:Spec}(hΓ:CS P Γ)(h:atQ (ay Γ) ps pc rs S)(hm:P.follows .mixedOrders=true:=by exact mixed)(hS:ajo S:=by first|exact ax _|exact b_ _|exact dQ _ _|exact azL _ _)(ha:∀args K,S.run args K->args.length=np:=by first|(rintro _ _ ⟨_,⟨_,rfl,_⟩,_⟩;rfl)|(rintro _ _ ⟨_,⟨_,_,rfl,_⟩,_⟩;rfl)|(rintro _ _ ⟨_,⟨_,_,_,rfl,_⟩,_⟩;rfl)|(rintro _ _ ⟨_,rfl,_⟩;rfl)|(rintro _ _ ⟨_,⟨_,_,_,_,rfl,_⟩,_⟩;rfl)|(rintro _ _ ⟨_,_,rfl,_⟩;rfl)|(rintro _ _ ⟨_,⟨_,_,_,_,_,_,rfl,_⟩,_⟩;rfl)|(rintro _ _ ⟨_,_,_,rfl,_⟩;rfl)|(rintro _ _ ⟨_,⟨_,_,_,_,_,rfl,_⟩,_⟩;rfl)|(rintro _ _ ⟨_,_,_,_,rfl,_⟩;rfl)|(rintro _ _ ⟨_,⟨_,_,_,_,_,_,_,_,_,_,_,_,_,_,_,_,_,_,_,rfl,_⟩,_⟩;rfl)|(rintro _ _ ⟨_,⟨rfl,_⟩,_⟩;rfl)|(rintro _ _ ⟨_,⟨_,_,_,_,_,_,_,rfl,_⟩,_⟩;rfl)):an P f S:=w.sound hm (CS.ok _ hΓ) hS ha h
def UA.aD{P:Program}{f:Nat}{pc:PC}{ps:List Nat}{rs:List (Nat×Option (Bool×Nat))}{np:Nat}(w:UA P f pc ps rs np){Γ:List (Nat×Spec)}{qS:List AV->aF->(AV->aF->Prop)->Prop}(hΓ:CS P Γ)(h:alk (ay Γ) ps pc rs (sB qS))(hm:P.follows .mixedOrders=true:=by exact mixed)(ha:∀xs σ K,qS xs σ K->xs.length=np:=by first|(rintro _ _ _ ⟨_,rfl,_⟩;rfl)|(rintro _ _ _ ⟨_,_,rfl,_⟩;rfl)|(rintro _ _ _ ⟨_,_,_,rfl,_⟩;rfl)|(rintro _ _ _ ⟨_,_,_,_,rfl,_⟩;rfl)|(rintro _ _ _ ⟨_,_,_,_,_,rfl,_⟩;rfl)|(rintro _ _ _ ⟨_,_,_,_,_,_,rfl,_⟩;rfl)|(rintro _ _ _ ⟨_,_,_,_,_,_,_,rfl,_⟩;rfl)|(rintro _ _ _ ⟨_,_,_,_,_,_,_,_,rfl,_⟩;rfl)|(rintro _ _ _ ⟨_,_,_,_,_,_,_,_,_,rfl,_⟩;rfl)):an P f (sB qS):=w.rJ hm (CS.ok _ hΓ) ha h
section
abbrev pI(n:Int):PV:=.int .i64 n
abbrev eN(k:Nat)(n:Int):Nat×AV:=(k,.pv (pI n))
abbrev pB(b:Bool):PV:=.bool b
def ng{n:Nat}{w:Nat}(h:n<2^w):(BitVec.ofInt w (n:Int)).toNat=n:=by
 rw[BitVec.ofInt_natCast,BitVec.toNat_ofNat,zcy h]
def Rm{n:Nat}(h:n<2^62):IntKind.i64.wrap (n:Int)=n:=by
 have:(2:Nat)^62=4611686018427387904:=ao;exact wrap64 ab
def aiF{a b:Nat}(ha:a<2^62)(hb:b<2^62):iz .and .i64 (a:Int) (b:Int)=((a&&&b:Nat):Int):=by
 unfold iz;have h1:a&&&b<2^62:=zcc zci ha;have e:IntKind.i64.bits=64:=rfl;simp only[e,BitVec.toNat_and];rw[ng (zaf ha ao),ng (zaf hb ao)];exact Rm h1
def ZV{n:Nat}(h:n<256):IntKind.u8.wrap (n:Int)=n:=by
 have hb:IntKind.u8.bits=8:=rfl;simp only[IntKind.wrap,IntKind.signed,hb];simp;omega
def O7{a k b:Nat}(h:a<2^k):a|||(2^k*b)=a+2^k*b:=by
 rw[Nat.or_comm,<-zcd h,zcr]
def PZ(a k:Nat):a&&&(2^k-1)=a%2^k:=zca a k
def lV(n:Nat):UInt8:=UInt8.ofNat n
def qd{n:Nat}(h:n<256):(lV n).toNat=n:=by simp[lV];omega
def ue{n:Int}(h:0<=n/\n<256):PV.int .u8 n=aL (lV n.toNat):=by
 unfold aL;rw[qd ab];congr 1;omega
def bu{a b:Int}(h:a=b):pI a=pI b:=by rw[h]
def oH{a b:Bool}(h:a=true↔b=true):pB a=pB b:=by
 cases a<;>cases b<;>simp_all
def dn(l:List Int):∀x∈l.map pI,x.flat:=by
 intro x hx;obtain⟨t,_,rfl⟩:=zaX.1 hx;trivial
def aGn{l:List UInt8}{i:Nat}{K:PV->Prop}(h:i<l.length)(k:∀x,l[i]?=some x->x.toNat<256->K (aL x)):∃y,(0<=(i:Int)/\(l.map aL)[(i:Int).toNat]?=some y)/\K y:=
 ⟨aL l[i],⟨ab,QQ⟩,k _ (zah h) (zcb _)⟩
def aEY{α:Type}{f:α->PV}{l:List α}{i:Nat}{K:PV->Prop}(h:i<l.length)(k:∀x,l[i]?=some x->K (f x)):∃y,(l.map f)[(i:Int).toNat]?=some y/\K y:=
 ⟨f l[i],QQ,k _ (zah h)⟩
def aFU{l:List UInt8}{i:Nat}{K:PV->Prop}(h:i<l.length)(k:∀x,l[i]?=some x->x.toNat<256->K (aL x)):∃y,(l.map aL)[(i:Int).toNat]?=some y/\K y:=
 ⟨aL l[i],QQ,k _ (zah h) (zcb _)⟩
def U64{n:Int}{K:Int->Prop}(h:0<=n/\n<=9223372036854775807)(k:K n):∀r:Int,r=IntKind.u64.wrap n->K r:=λr hr=>by
 have e:IntKind.u64.wrap n=n:=by
  have hb:IntKind.u64.bits=64:=rfl;simp only[IntKind.wrap,IntKind.signed,hb];simp;omega
 rw[hr,e];exact k
def awP{j:IntKind}{a:Int}{K:Int->Prop}(h:0<=a)(k:K (a/2)):0<=(1:Int)∧∀r:Int,r=a.fdiv (2^min (1:Int).toNat j.bits)->K r:=by
 refine⟨ao,λr hr=>?_⟩;have e8:min (1:Int).toNat j.bits=1:=by cases j<;>decide
 rw[e8,zb7 _ ao]at hr;rw[hr];exact k
def iY{α:Type}{f:α->PV}{l:List α}{i:Nat}{x:α}{K:PV->Prop}(h:l[i]?=some x)(k:K (f x)):∃y,(0<=(i:Int)/\(l.map f)[(i:Int).toNat]?=some y)/\K y:=
 ⟨f x,⟨ab,by rw[zaC,za9,h];rfl⟩,k⟩
def anF{α:Type}{f:α->PV}{l:List α}{i:Int}{x:α}{K:PV->Prop}(h0:0<=i)(h:l[i.toNat]?=some x)(k:K (f x)):∃y,(0<=i/\(l.map f)[i.toNat]?=some y)/\K y:=
 ⟨f x,⟨h0,by rw[za9,h];rfl⟩,k⟩
def aFA{α:Type}{f:α->PV}{l:List α}{i:Nat}{x:α}{K:PV->Prop}(h:l[i]?=some x)(k:K (f x)):∃y,(l.map f)[i]?=some y/\K y:=
 ⟨f x,by rw[za9,h];rfl,k⟩
def uM{α:Type}{f:α->PV}{l:List α}{i:Nat}{x:α}{K:PV->Prop}(h:l[i]?=some x)(k:K (f x)):∃y,(l.map f)[(i:Int).toNat]?=some y/\K y:=
 ⟨f x,by rw[zaC,za9,h];rfl,k⟩
def aJH{j:IntKind}{n:Int}{K:Int->Prop}(k:∀r,K r):∀r:Int,r=j.wrap n->K r:=λr _=>k r
def gRA{p:RV->Prop}(x:RV)(h:p x):∃x,p x:=⟨x,h⟩
def gRB{p:List RV->Prop}(x:List RV)(h:p x):∃x,p x:=⟨x,h⟩
def gRC{k:Nat}{p:Nat->Prop}(x:Nat)(h:x<k)(g:p x):∃x,x<k/\p x:=⟨x,h,g⟩
def yR{l:List UInt8}{K:List UInt8->Prop}(k:K l):∃l',l.map aL=l'.map aL/\K l':=⟨l,rfl,k⟩
def aJi{K:List UInt8->Prop}(k:K []):∃l':List UInt8,[]=l'.map aL/\K l':=⟨[],rfl,k⟩
def LX{α β:Type}{f:α->β}{a b:Nat}{l:List α}:cut a b (l.map f)=(cut a b l).map f:=by simp[cut]
def awU{α:Type}{a b:Nat}{l:List α}(h:b<=l.length):(cut a b l).length=b-a:=by simp[cut];omega
def jk{α:Type}{l:List α}{x:α}:x∈l↔∃i:Nat,l[i]?=some x:=List.mem_iff_getElem?
def eT{α:Type}{l:List α}{i:Nat}{x:α}(h:l[i]?=some x):i<l.length:=by
 by_cases hi:i<l.length
 ·exact hi
 ·rw[zaK ab]at h;cases h
def get_inj{α:Type}{l:List α}{i:Nat}{x y:α}(h:l[i]?=some x)(h':l[i]?=some y):x=y:=Option.some.inj (h.symm.trans h')
def oc{α β:Type}{f:α->β}{l:List α}{i:Nat}{x:α}:(l.map f).set i (f x)=(l.set i x).map f:=by rw[List.map_set]
def cQ{α:Type}(f:Nat->α)(n:Nat):List α:=(List.range n).map f
section
variable {α:Type} {f g:Nat->α} {n:Nat}
@[simp] theorem ck:(cQ f n).length=n:=by simp[cQ]
def bO{i:Nat}(h:i<n):(cQ f n)[i]?=some (f i):=by simp[cQ,h]
def ajb{i:Nat}{x:α}(h:(cQ f n)[i]?=some x):i<n/\x=f i:=by
 have hi:i<n:=by
  by_cases hi:i<n
  ·exact hi
  ·rw[zaK aH]at h;cases h
 rw[bO hi]at h;exact⟨hi,(Option.some.inj h).symm⟩
def kT(h:∀i,i<n->f i=g i):cQ f n=cQ g n:=by
 unfold cQ;apply zbE;intro i hi;exact h i (by simpa using hi)
def oq{i:Nat}{x:α}:(cQ f n).set i x=cQ (λj=>if j=i then x else f j) n:=by
 apply zba;intro j;by_cases hj:j<n
 ·rw[bO hj];by_cases h:j=i
  ·subst h;simp[hj]
  ·rw[List.getElem?_set_ne ab,bO hj,if_neg h]
 ·rw[zaK aH,zaK aH]
def Lt:cQ f (n+1)=cQ f n++[f n]:=by simp[cQ,List.range_succ]
def az2{l:List α}(h:∀i x,l[i]?=some x->x=f i):l=cQ f l.length:=by
 apply zba;intro i;by_cases hi:i<l.length
 ·rw[bO hi,zah hi];exact congrArg some (h i _ (zah hi))
 ·rw[zaK ab,zaK aH]
def Vx{F:α->PV}{i:Nat}{K:PV->Prop}(h:i<n)(k:K (F (f i))):∃y,((cQ f n).map F)[i]?=some y/\K y:=⟨_,by rw[za9,bO h];rfl,k⟩
def Ug{F:α->PV}{i:Int}{p:Prop}(h:0<=i/\i<n)(k:p):(0<=i/\i.toNat<((cQ f n).map F).length)/\p:=by
 rw[zav,ck];exact⟨⟨h.1,ab⟩,k⟩
end
end
section
section
variable {α:Type}
def bS(f:Nat->α)(a n:Nat):List α:=(List.range n).map λi=>f (a+i)
def Mx(f:Nat->α)(a n k:Nat):bS f a (n+k)=bS f a n++bS f (a+n) k:=by
 unfold bS;rw[List.range_add,zbu,List.map_map];congr 1;apply zbE;intro i _;simp[zaJ]
def adO{f g:Nat->α}{a n:Nat}(h:∀j,a<=j->j<a+n->f j=g j):bS f a n=bS g a n:=by
 unfold bS;apply zbE;intro i hi;exact h _ ab (by simp at hi;omega)
def anK(f:Nat->α)(n:Nat):bS f 0 n=cQ f n:=by
 unfold bS cQ;simp
def an6{f:Nat->α}{a n:Nat}{x:α}:x∈bS f a n↔∃j,a<=j/\j<a+n/\f j=x:=by
 unfold bS;rw[zaX];constructor
 ·rintro⟨i,hi,rfl⟩;exact⟨a+i,ab,by simp at hi;omega,rfl⟩
 ·rintro⟨j,h1,h2,rfl⟩;exact⟨j-a,aH,by rw[show a+(j-a)=j by omega]⟩
def eV(a b:Nat)(f g:Nat->α):Prop:=(bS g a (b-a)).Perm (bS f a (b-a))∧∀j,¬(a<=j/\j<b)->g j=f j
def eV.refl(a b:Nat)(f:Nat->α):eV a b f f:=⟨.refl _,λ_ _=>rfl⟩
def eV.trans{a b:Nat}{f g h:Nat->α}(p:eV a b f g)(q:eV a b g h):eV a b f h:=
 ⟨q.1.trans p.1,λj hj=>(q.2 j hj).trans (p.2 j hj)⟩
def eV.wide{a b c d:Nat}{f g:Nat->α}(p:eV a b f g)(h1:c<=a)(h2:b<=d)(h3:a<=b):eV c d f g:=by
 refine⟨?_,λj hj=>p.2 j ab⟩;have e:d-c=(a-c)+((b-a)+(d-b)):=ab;rw[e,Mx,Mx,Mx f,Mx f];rw[show c+(a-c)=a by omega,show a+(b-a)=b by omega];rw[adO (f:=g) (g:=f) (a:=c) (n:=a-c) λj h4 h5=>p.2 j ab,adO (f:=g) (g:=f) (a:=b) (n:=d-b) λj h4 h5=>p.2 j ab];exact(p.1.append_right _).append_left _
def eV.mem{a b:Nat}{f g:Nat->α}(p:eV a b f g){j:Nat}(h1:a<=j)(h2:j<b):∃i,a<=i/\i<b/\g j=f i:=by
 have:g j∈bS g a (b-a):=an6.2 ⟨j,h1,ab,rfl⟩;obtain⟨i,h3,h4,h5⟩:=an6.1 (p.1.mem_iff.1 this);exact⟨i,h3,ab,h5.symm⟩
def eV.all{a b:Nat}{f g:Nat->α}{P:α->Prop}(p:eV a b f g)(h:∀j,P (f j))(j:Nat):P (g j):=by
 by_cases hj:a<=j/\j<b
 ·obtain⟨i,_,_,e⟩:=p.mem hj.1 hj.2;rw[e];exact h i
 ·rw[p.2 j hj];exact h j
def eV.perm{n:Nat}{f g:Nat->α}(p:eV 0 n f g):(cQ g n).Perm (cQ f n):=by
 have:=p.1;rw[zcq,anK,anK]at this;exact this
def FL(f:Nat->α)(i j:Nat):Nat->α:=λk=>if k=j then f i else if k=i then f j else f k
def YE(f:Nat->α){i:Nat}:eV i (i+2) f (FL f i (i+1)):=by
 refine⟨?_,λk hk=>?_⟩
 ·have:∀g:Nat->α,bS g i (i+2-i)=[g i,g (i+1)]:=by
   intro g;rw[show i+2-i=2 by omega];rfl
  rw[this,this];have s1:FL f i (i+1) i=f (i+1):=by unfold FL;rw[if_neg ab,if_pos rfl]
  have s2:FL f i (i+1) (i+1)=f i:=by unfold FL;rw[if_pos rfl]
  rw[s1,s2];exact .swap _ _ _
 ·unfold FL;rw[if_neg ab,if_neg ab]
def mJ(f:Nat->α)(a m b:Nat):Nat->α:=λj=>if a<=j/\j<a+(b-m)then f (j+(m-a))else if a+(b-m)<=j/\j<b then f (j-(b-m))else f j
def ap4(f:Nat->α){a m b:Nat}(h1:a<=m)(h2:m<=b):eV a b f (mJ f a m b):=by
 refine⟨?_,λj hj=>?_⟩
 ·have e:b-a=(b-m)+(m-a):=by omega
  have e1:bS (mJ f a m b) a (b-m)=bS f m (b-m):=by
   unfold bS;apply zbE;intro i hi;simp at hi;unfold mJ;rw[if_pos ab];congr 1;omega
  have e2:bS (mJ f a m b) (a+(b-m)) (m-a)=bS f a (m-a):=by
   unfold bS;apply zbE;intro i hi;simp at hi;unfold mJ;rw[if_neg ab,if_pos ab];congr 1;omega
  rw[e,Mx,e1,e2,zcr (b-m),Mx,show a+(m-a)=m by omega];exact List.perm_append_comm
 ·unfold mJ;rw[if_neg ab,if_neg ab]
def M4(f:Nat->α)(a b n:Nat):Nat->α:=λj=>if a<=j/\j<a+n then f (j-a+b)else if b<=j/\j<b+n then f (j-b+a)else f j
structure Ord(lt:α->α->Bool):Prop where
 asymm:∀x y,lt x y=true->lt y x=false
 trans:∀x y z,lt y x=false->lt z y=false->lt z x=false
variable {lt:α->α->Bool}
def bl(lt:α->α->Bool)(a b:Nat)(f:Nat->α):Prop:=∀i j,a<=i->i<=j->j<b->lt (f j) (f i)=false
def Ord.irrefl(o:Ord lt)(x:α):lt x x=false:=by
 cases h:lt x x with
 |false=>rfl
 |true=>have:=o.asymm x x h;rw[h]at this;cases this
def Vn(o:Ord lt){a b:Nat}{f:Nat->α}(h:∀i,a<=i->i+1<b->lt (f (i+1)) (f i)=false):bl lt a b f:=by
 intro i j h1 h2 h3;obtain⟨d,rfl⟩:∃d,j=i+d:=⟨j-i,ab⟩
 clear h2
 induction d with
 |zero=>exact o.irrefl _
 |succ d ih=>exact o.trans _ _ _ (ih ab) (h (i+d) ab ab)
def nO{a m b:Nat}{f:Nat->α}(h1:bl lt a m f)(h2:bl lt m b f)(h:∀i j,a<=i->i<m->m<=j->j<b->lt (f j) (f i)=false):bl lt a b f:=by
 intro i j hi zk hj;by_cases h3:j<m
 ·exact h1 i j hi zk h3
 ·by_cases h4:i<m
  ·exact h i j hi h4 ab hj
  ·exact h2 i j ab zk hj
def amH{a b c d:Nat}{f:Nat->α}(h:bl lt a b f)(h1:a<=c)(h2:d<=b):bl lt c d f:=λi j hi zk hj=>h i j ab zk ab
def dM{a b:Nat}{f g:Nat->α}(h:bl lt a b f)(e:∀j,a<=j->j<b->g j=f j):bl lt a b g:=λi j hi zk hj=>by
 rw[e j ab hj,e i hi ab];exact h i j hi zk hj
def DM(o:Ord lt){a k i:Nat}{f:Nat->α}(hf:bl lt a i f)(hk:a<=k)(hki:k<=i)(h1:∀j,k<=j->j<i->lt (f i) (f j)=true)(h2:a<k->lt (f i) (f (k-1))=false):
 bl lt a (i+1) (λj=>if j=k then f i else if k<j/\j<=i then f (j-1)else f j):=by
 apply Vn o;intro j hj hji;show lt (if j+1=k then f i else if k<j+1/\j+1<=i then f (j+1-1)else f (j+1)) (if j=k then f i else if k<j/\j<=i then f (j-1)else f j)=false;by_cases e1:j+1=k
 ·rw[if_pos e1,if_neg ab,if_neg ab];have:=h2 ab;rw[<-e1]at this;simpa using this
 ·rw[if_neg e1];by_cases e2:j=k
  ·rw[if_pos e2,if_pos ab,zcs];exact o.asymm _ _ (h1 j ab ab)
  ·rw[if_neg e2];by_cases e3:k<j
   ·rw[if_pos ab,if_pos ab,zcs];exact hf (j-1) j ab ab ab
   ·rw[if_neg ab,if_neg ab];exact hf j (j+1) hj ab ab
def afC(o:Ord lt){a m b mid s e:Nat}{f:Nat->α}(h1:bl lt a m f)(h2:bl lt m b f)(has:a<=s)(SE:s<=m)(hme:m<=e)(heb:e<=b)(aO5:mid=s+(e-m))
 (hA:a<s->e<b->lt (f e) (f (s-1))=false) (hB:m<e->s<m->lt (f (e-1)) (f s)=true):
 bl lt a s (mJ f s m e)/\bl lt s mid (mJ f s m e)/\bl lt mid e (mJ f s m e)/\bl lt e b (mJ f s m e)/\
 (∀i j,a<=i->i<mid->mid<=j->j<b->lt (mJ f s m e j) (mJ f s m e i)=false):=by
 have r1:∀j,j<s->mJ f s m e j=f j:=λj hj=>by unfold mJ;rw[if_neg ab,if_neg ab]
 have r2:∀j,s<=j->j<mid->mJ f s m e j=f (j+(m-s)):=λj hj Gx=>by unfold mJ;rw[if_pos ab]
 have r3:∀j,mid<=j->j<e->mJ f s m e j=f (j-(e-m)):=λj hj Gx=>by unfold mJ;rw[if_neg ab,if_pos ab]
 have r4:∀j,e<=j->mJ f s m e j=f j:=λj hj=>by unfold mJ;rw[if_neg ab,if_neg ab]
 refine⟨λi j hi zk hj=>?_,λi j hi zk hj=>?_,λi j hi zk hj=>?_,λi j hi zk hj=>?_,λi j hi him hj sy=>?_⟩
 ·rw[r1 j hj,r1 i ab];exact h1 i j hi zk ab
 ·rw[r2 j ab hj,r2 i hi ab];exact ZP
 ·rw[r3 j ab hj,r3 i hi ab];exact h1 _ _ ab ab ab
 ·rw[r4 j ab,r4 i hi];exact ZP
 ·by_cases j9:i<s
  ·rw[r1 i j9];by_cases Gx:j<e
   ·rw[r3 j hj Gx];exact h1 _ _ ab ab ab
   ·rw[r4 j ab];refine o.trans _ _ _ (h1 i (s-1) hi ab ab) (o.trans _ _ _ (hA ab ab) (h2 e j hme ab sy))
  ·rw[r2 i ab him];by_cases Gx:j<e
   ·rw[r3 j hj Gx];refine o.trans _ _ _ (h2 _ (e-1) ab ab ab) (o.trans _ _ _ (o.asymm _ _ (hB ab ab)) (h1 s _ ab ab ab))
   ·rw[r4 j ab];exact ZP
end
end
end Go.Dv
namespace Go.Dv.Try
open Go Go.Dv Go.Dv.Sh Go.Proofs.Tryz
abbrev RL:=List (Nat×Option (Bool×Nat))
def mixed:Go.Proofs.Tryz.prog.follows .mixedOrders=true:=ak
noncomputable abbrev bb:Program:=Go.Proofs.Tryz.prog
structure FC where
 s:List Nat
 r:RL
 c:PC
abbrev MT(Γ:Ctx)(f:FC)(S:Spec):=atQ Γ f.s f.c f.r S
abbrev gO(Γ:Ctx)(f:FC)(S:Spec):=alk Γ f.s f.c f.r S
abbrev CO(n:Nat)(f:FC)(k:Nat):=UA bb n f.c f.s f.r k
abbrev rf:Nat:=131
abbrev mn:Nat:=188
abbrev ei:Nat:=223
abbrev gF:Nat:=289
abbrev cT:Nat:=185
def aF4:PC:=r [m 39 2,B 40 .neq 39 0,m 41 40,Q 41 (m 42 5),Q 41 (B 43 .neq 42 0),V 44 41 43,m 45 44,Q 45 (f 46 8 4),Q 45 (l 47 46),Q 45 (B 48 .neq 47 512),V 49 45 48,m 50 49,Q 50 (f 51 9 4),Q 50 (l 52 51),Q 50 (B 53 .neq 52 300),V 54 50 53,m 55 54,Q 55 (f 56 10 4),Q 55 (l 57 56),Q 55 (B 58 .neq 57 300),V 59 55 58,m 60 59,Q 60 (m 61 7),Q 60 (B 62 .neq 61 0),V 63 60 62,m 64 63,Q 64 (m 65 6),Q 64 (o 66 (.bin .neq (t 65) (Y [120,120,120,120]))),V 67 64 66]
def aFX:PC:=r [m 99 10,B 100 .eql 99 0,m 101 100,q 101 (f 102 10 9),q 101 (l 103 102),q 101 (B 104 .eql 103 300),P 105 101 104,m 106 105,q 106 (f 107 7 9),q 106 (l 108 107),q 106 (c 109 56 [t 108]),q 106 (B 110 .eql 109 3),P 111 106 110,m 112 111,q 112 (m 113 13),q 112 (B 114 .eql 113 0),P 115 112 114,m 116 115,q 116 (f 117 10 12),q 116 (l 118 117),q 116 (B 119 .eql 118 501),P 120 116 119,m 121 120,q 121 (m 122 15),q 121 (B 123 .eql 122 0),P 124 121 123,m 125 124,q 125 (m 126 14),q 125 (o 127 (.bin .eql (t 126) (Y [120,120,0,0]))),P 128 125 127,m 129 128,q 129 (m 130 17),q 129 (B 131 .eql 130 0),P 132 129 131,m 133 132,q 133 (m 134 20),q 133 (B 135 .eql 134 0),P 136 133 135,m 137 136,q 137 (f 138 8 19),q 137 (l 139 138),q 137 (B 140 .eql 139 256),P 141 137 140,m 142 141,q 142 (f 143 10 19),q 142 (l 144 143),q 142 (B 145 .eql 144 1001),P 146 142 145,m 147 146,q 147 (f 148 7 19),q 147 (l 149 148),q 147 (c 150 56 [t 149]),q 147 (B 151 .eql 150 4),P 152 147 151,m 0 152]
def NG:FC:=⟨[0,1,2,3,4,5,6,7,8,9,10,11,12,13,14,15,16,17,19,20],[⟨0,none⟩],R [o 0 (.mv F)] (R [c 22 46 [.const (.string (ByteArray.mk (Array.mk []))),k 0,k 1],m 21 22,e 23 21 0,e 24 21 1,o 1 (.alloc 26 (.agg [I 0,.str [],I 0,I 0,.bool false,.str [],I 0,.nil 2,I 0,I 0,I 0])),s 11 1 23,m 2 24] (g (E [c 26 55 [],L 27 11 1,c 28 35 [.const (.string (ByteArray.mk (Array.mk [120]))),k 300],c 29 12 [t 26,t 27,k 0,t 28],m 25 29,e 30 25 0,e 31 25 1,e 32 25 2,o 3 (.alloc 23 (.agg [.str [],.str []])),o 4 (.alloc 26 (.agg [I 0,.str [],I 0,I 0,.bool false,.str [],I 0,.nil 2,I 0,I 0,I 0])),s 2 3 30,s 11 4 31,m 5 32] [[],[],[0],[0,1,2,2],[3],[4],[4],[4],[],[],[8,5,3,0,1,2,3,4,5,8,9],[9,6,10,0,1,2,3,4,5,6,8,9,10],[7,11,0,1,2,3,4,5,6,7,8,9,10,11]]) (R [L 34 2 3,L 35 11 4,c 36 44 [t 34,t 35,k 296,k 10],m 33 36,e 37 33 0,e 38 33 1,m 6 37,m 7 38] (g (g aF4 (C 67 (R [o 0 (.mv F)] j) w)) (R [L 69 2 3,L 70 11 4,c 71 30 [t 69,t 70,k 600],m 68 71,e 72 68 0,e 73 68 1,e 74 68 2,o 8 (.alloc 23 (.agg [.str [],.str []])),o 9 (.alloc 26 (.agg [I 0,.str [],I 0,I 0,.bool false,.str [],I 0,.nil 2,I 0,I 0,I 0])),s 2 8 72,s 11 9 73,m 10 74] (R [L 76 2 8,L 77 11 9,c 78 12 [t 76,t 77,k 500,.const (.string (ByteArray.mk (Array.mk [121])))],m 75 78,e 79 75 0,e 80 75 1,e 81 75 2,o 11 (.alloc 23 (.agg [.str [],.str []])),o 12 (.alloc 26 (.agg [I 0,.str [],I 0,I 0,.bool false,.str [],I 0,.nil 2,I 0,I 0,I 0])),s 2 11 79,s 11 12 80,m 13 81] (R [L 83 2 11,L 84 11 12,c 85 44 [t 83,t 84,k 298,k 4],m 82 85,e 86 82 0,e 87 82 1,m 14 86,m 15 87] (R [c 89 46 [.const (.string (ByteArray.mk (Array.mk []))),k 2,k 1],m 88 89,e 90 88 0,e 91 88 1,o 16 (.alloc 26 (.agg [I 0,.str [],I 0,I 0,.bool false,.str [],I 0,.nil 2,I 0,I 0,I 0])),s 11 16 90,m 17 91] (g (E [c 93 55 [],L 94 11 16,c 95 12 [t 93,t 94,k 1000,.const (.string (ByteArray.mk (Array.mk [122])))],m 92 95,e 96 92 0,e 97 92 1,e 98 92 2,o 18 (.alloc 23 (.agg [.str [],.str []])),o 19 (.alloc 26 (.agg [I 0,.str [],I 0,I 0,.bool false,.str [],I 0,.nil 2,I 0,I 0,I 0])),s 2 18 96,s 11 19 97,m 20 98] [[],[],[0,1,0],[2],[3],[3],[3],[],[],[7,4,2,0,1,2,3,4,7,8],[8,5,9,0,1,2,3,4,5,7,8,9],[6,10,0,1,2,3,4,5,6,7,8,9,10]]) (g aFX j))))))))))⟩
def acS:CO 10 NG 0:=bk f10 ak
def NY:FC:=⟨[0,1,2,3,4],[⟨4,none⟩],R [U 2 23 0,U 3 26 1,o 4 (.mv F)] (R [f 5 0 2,l 6 5,y 7 6,B 8 .leq 7 131584,m 9 8,q 9 (f 10 1 2),q 9 (l 11 10),q 9 (y 12 11),q 9 (B 13 .leq 12 100),P 14 9 13,m 15 14,q 15 (f 16 7 3),q 15 (l 17 16),q 15 (n 18 17),q 15 (B 19 .leq 18 80),P 20 15 19,m 21 20,q 21 (f 22 5 3),q 21 (l 23 22),q 21 (y 24 23),q 21 (B 25 .leq 24 500),P 26 21 25,m 27 26,q 27 (f 28 1 3),q 27 (l 29 28),q 27 (y 30 29),q 27 (B 31 .leq 30 60),P 32 27 31,m 4 32] j)⟩
def acV:CO 11 NY 2:=bk f11 ak
def Fi:FC:=⟨[0,1,2,3,4,5,8,9,10,11,12,13,14,15],[⟨8,some (⟨true,2⟩)⟩,⟨9,some (⟨true,11⟩)⟩,⟨10,none⟩],R [U 4 23 0,U 5 26 1,o 8 (.alloc 23 (.agg [.str [],.str []])),o 9 (.alloc 26 (.agg [I 0,.str [],I 0,I 0,.bool false,.str [],I 0,.nil 2,I 0,I 0,I 0])),M 10 0] (R [L 17 2 4,L 18 11 5,c 19 57 [t 17,t 18],m 16 19,e 20 16 0,e 21 16 1,o 11 (.alloc 83 (.val (.pointer none))),s 1 11 20,m 12 21] (g (R [m 22 12,m 23 2,c 24 60 [t 23],c 25 59 [t 24,k 2],m 26 3,y 27 26,m 28 2,o 29 (.bin .sub (k 32768) (t 28)),b 30 .leq 27 29,c 31 59 [t 30,k 8],o 32 (.bslice 33 1 [t 22,t 25,t 31]),c 33 58 [t 32],m 12 33] (R [m 34 12,B 35 .neq 34 0] (C 35 (R [o 36 (.build [.str [],.str []] []),o 37 (.build [I 0,.str [],I 0,I 0,.bool false,.str [],I 0,.nil 2,I 0,I 0,I 0] []),m 38 12,s 2 8 36,s 11 9 37,m 10 38] j) w))) (g (R [m 39 3,o 40 (.bin .eql (t 39) (Y []))] (C 40 (R [f 41 7 5,l 42 41,c 43 61 [t 42],f 44 7 5,s 1 44 43] (g (E [L 45 2 4,L 46 11 5,s 2 8 45,s 11 9 46,M 10 0] [[],[],[0,0],[1,2,0,1,2],[3,0,1,2,3]]) j)) w)) (R [m 47 2,m 48 3,y 49 48,b 50 .add 47 49,m 13 50] (R [l 51 11,c 52 63 [t 51],m 53 13,c 54 62 [t 52,t 53],m 14 54] (g (D [m 55 14,m 56 2,o 57 (.slcS (t 55) none (some (t 56))),m 58 3,b 59 .add 57 58,m 60 14,m 61 13,o 62 (.slcS (t 60) (some (t 61)) none),b 63 .add 59 62,m 14 63] [[],[],[0,1],[],[2,3],[],[],[5,6],[4,7],[8,0,1,2,3,4,5,6,7,8]]) (R [m 64 2,m 65 13,o 66 (.build [I 0,I 0] [⟨0,⟨1,t 64⟩⟩,⟨1,⟨1,t 65⟩⟩]),o 15 (.alloc 92 (.agg [I 0,I 0])),s 2 15 66] (g (E [l 67 11,m 68 14,l 69 11,c 70 65 [t 69],m 71 13,o 72 (.mm true (t 70) (t 71)),o 73 (.mkf 66 [t 11,t 15]),o 74 (.build [.str [],I 0,.val .nilFunc] [⟨0,⟨1,t 68⟩⟩,⟨1,⟨1,t 72⟩⟩,⟨2,⟨1,t 73⟩⟩]),c 75 64 [t 67,t 74],e 76 75 0,e 77 75 1,e 78 75 2,s 2 8 76,s 11 9 77,m 10 78] [[],[],[],[2],[],[3,4],[],[1,5,6],[0,7,3],[8],[8],[8],[9,8,0,1,2,3,4,5,6,7,8,9,10,11],[10,12,0,1,2,3,4,5,6,7,8,9,10,11,12],[11,13,0,1,2,3,4,5,6,7,8,9,10,11,12,13]]) j))))))))⟩
def Tr:CO 12 Fi 4:=bk f12 ak
def yk:FC:=⟨[0,1,2],[⟨2,some (⟨true,11⟩)⟩],R [U 1 26 0,o 2 (.alloc 26 (.agg [I 0,.str [],I 0,I 0,.bool false,.str [],I 0,.nil 2,I 0,I 0,I 0]))] (R [f 3 7 1,l 4 3,c 5 70 [t 4],f 6 7 1,s 1 6 5] (R [L 7 11 1,s 11 2 7] j))⟩
def Jn:CO 13 yk 1:=bk f13 ak
def aGf:PC:=G [2,3,7,8] (g (R [m 46 8,m 47 7,n 48 47,b 49 .lss 46 48] (C 49 w (h 0))) (g (H 1 (g (D [m 52 7,m 53 8,i 54 1 52 53,l 55 54,L 56 2 2,c 57 32 [t 56],b 58 .geq 55 57] [[],[],[0,1],[2],[],[4],[3,5]]) (C 58 (R [M 4 2] j) w))) (r [m 50 8,B 51 .add 50 1,m 8 51])))
def aFv:PC:=G [2,3,7,9] (g (R [m 59 9,m 60 7,n 61 60,b 62 .lss 59 61] (C 62 w (h 2))) (g (H 3 (g (D [m 65 7,m 66 9,i 67 1 65 66,l 68 67,B 69 .neq 68 (-1),m 70 69,q 70 (f 71 1 2),q 70 (l 72 71),q 70 (m 73 7),q 70 (m 74 9),q 70 (i 75 1 73 74),q 70 (l 76 75),q 70 (c 77 72 [t 72,t 76]),q 70 (B 78 .eql 77 0),P 79 70 78] [[],[],[0,1],[2],[3],[4],[5],[6,5],[5],[5],[8,9,5],[10,5],[7,11,5,5],[12,5],[5,13]]) (C 79 (R [M 4 14] j) w))) (r [m 63 9,B 64 .add 63 1,m 9 64])))
def aF9:PC:=D [f 80 8 3,l 81 80,f 82 7 3,l 83 82,c 84 73 [t 83],o 85 (.bin .mul (k 256) (t 84)),b 86 .neq 81 85,m 87 86,Q 87 (m 88 7),Q 87 (N 89 88),Q 87 (L 90 11 3),Q 87 (f 91 9 3),Q 87 (l 92 91),Q 87 (c 93 74 [t 90,t 92]),Q 87 (b 94 .neq 89 93),V 95 87 94,m 96 95,Q 96 (f 97 3 3),Q 96 (l 98 97),Q 96 (B 99 .eql 98 0),Q 96 (m 100 99),q 100 (f 101 7 3),q 100 (l 102 101),q 100 (c 103 73 [t 102]),q 100 (m 104 7),q 100 (N 105 104),q 100 (b 106 .neq 103 105),Q 96 (P 107 100 106),V 108 96 107] [[],[0],[],[2],[3],[4],[1,5],[6,4],[7],[8,7],[7],[7],[11,7],[10,12,7,7],[9,13,7],[7,14],[15,13],[16],[17,16],[18,16],[19,16,16],[20],[21,20],[22,20,20],[20],[24,20],[23,25,20],[20,26,16],[16,27]]
def aFi:PC:=G [2,3,7,10] (g (R [m 112 10,m 113 7,n 114 113,b 115 .lss 112 114] (C 115 w (h 4))) (g (H 5 (R [m 118 10,B 119 .rem 118 16,B 120 .neq 119 0,m 121 120,q 121 (m 122 7),q 121 (m 123 10),q 121 (B 124 .sub 123 1),q 121 (i 125 1 122 124),q 121 (l 126 125),q 121 (B 127 .eql 126 (-1)),P 128 121 127,m 129 128,q 129 (m 130 7),q 129 (m 131 10),q 129 (i 132 1 130 131),q 129 (l 133 132),q 129 (B 134 .neq 133 (-1)),P 135 129 134] (C 135 (R [M 4 3] j) w))) (r [m 116 10,B 117 .add 116 1,m 10 117])))
def aE5:PC:=G [2,3,7,11] (g (R [m 136 11,m 137 7,n 138 137,B 139 .quo 138 16,b 140 .lss 136 139] (C 140 w (h 6))) (g (H 7 (R [L 143 2 2,L 144 11 3,m 145 11,c 146 75 [t 143,t 144,t 145],m 12 146] (R [m 147 12,B 148 .neq 147 0] (C 148 (R [m 149 12,m 4 149] j) w)))) (r [m 141 11,B 142 .add 141 1,m 11 142])))
def Vg:FC:=⟨[0,1,2,3,4,5,6,7,8,9,10,11,12],[⟨4,none⟩],R [U 2 23 0,U 3 26 1,M 4 0] (g (R [L 13 2 2,c 14 48 [t 13],m 5 14] (R [m 15 5,B 16 .neq 15 0] (C 16 (R [m 17 5,m 4 17] j) w))) (g (R [L 18 11 3,c 19 47 [t 18],m 6 19] (R [m 20 6,B 21 .neq 20 0] (C 21 (R [m 22 6,m 4 22] j) w))) (g (R [f 23 0 3,l 24 23,B 25 .neq 24 128,m 26 25,Q 26 (L 27 11 3),Q 26 (c 28 26 [t 27,k 4]),V 29 26 28,m 30 29,Q 30 (f 31 3 3),Q 30 (l 32 31),Q 30 (B 33 .eql 32 3),V 34 30 33] (C 34 (R [M 4 15] j) w)) (g (R [f 35 6 3,l 36 35,B 37 .neq 36 0] (C 37 (R [M 4 20] j) w)) (g (R [f 38 9 3,l 39 38,B 40 .gtr 39 32768] (C 40 (R [M 4 2] j) w)) (g (R [f 41 4 3,l 42 41] (C 42 (R [M 4 0] j) w)) (R [f 43 7 3,l 44 43,c 45 71 [t 44],m 7 45] (g (R [M 8 0] (H 0 aGf)) (g (R [M 9 0] (H 2 aFv)) (g (g aF9 (C 108 (R [M 4 3] j) w)) (g (R [L 109 11 3,c 110 26 [t 109,k 1],u 111 110] (C 111 (R [M 4 0] j) w)) (g (R [M 10 1] (H 4 aFi)) (g (R [M 11 0] (H 6 aE5)) (R [M 4 0] j))))))))))))))⟩
def ais:CO 14 Vg 2:=bk f14 ak
def xg:FC:=⟨[0,1,2,6],[⟨6,none⟩],R [o 6 (.mv F)] (R [m 7 1,m 8 0,b 9 .leq 7 8,m 10 9,q 10 (m 11 0),q 10 (m 12 2),q 10 (b 13 .leq 11 12),P 14 10 13,m 6 14] j)⟩
def DQ:CO 15 xg 3:=bk f15 ak
def KL:FC:=⟨[0,1,2,3,4,5,8],[⟨8,none⟩],R [U 4 23 0,U 5 26 1,o 8 (.mv F)] (R [m 9 2,m 10 3,b 11 .eql 9 10,m 12 11,q 12 (L 13 2 4),q 12 (o 14 (.build [.str [],.str []] [])),q 12 (o 15 (.eqs false [1,1] (t 13) (t 14))),P 16 12 15,m 17 16,q 17 (L 18 11 5),q 17 (o 19 (.build [I 0,.str [],I 0,I 0,.bool false,.str [],I 0,.nil 2,I 0,I 0,I 0] [])),q 17 (c 20 17 [t 18,t 19]),P 21 17 20,m 8 21] j)⟩
def aaD:CO 16 KL 4:=bk f16 ak
def aEW:PC:=r [f 5 0 2,l 6 5,f 7 0 3,l 8 7,b 9 .eql 6 8,m 10 9,q 10 (f 11 1 2),q 10 (l 12 11),q 10 (f 13 1 3),q 10 (l 14 13),q 10 (b 15 .eql 12 14),P 16 10 15,m 17 16,q 17 (f 18 2 2),q 17 (l 19 18),q 17 (f 20 2 3),q 17 (l 21 20),q 17 (b 22 .eql 19 21),P 23 17 22,m 24 23,q 24 (f 25 3 2),q 24 (l 26 25),q 24 (f 27 3 3),q 24 (l 28 27),q 24 (b 29 .eql 26 28),P 30 24 29,m 31 30,q 31 (f 32 4 2),q 31 (l 33 32),q 31 (f 34 4 3),q 31 (l 35 34),q 31 (o 36 (.eqb false (t 33) (t 35))),P 37 31 36,m 38 37,q 38 (f 39 5 2),q 38 (l 40 39),q 38 (f 41 5 3),q 38 (l 42 41),q 38 (b 43 .eql 40 42),P 44 38 43,m 45 44,q 45 (f 46 6 2),q 45 (l 47 46),q 45 (f 48 6 3),q 45 (l 49 48),q 45 (b 50 .eql 47 49),P 51 45 50,m 52 51,q 52 (f 53 7 2),q 52 (l 54 53),q 52 (f 55 7 3),q 52 (l 56 55),q 52 (c 57 49 [t 54,t 56]),P 58 52 57,m 59 58,q 59 (f 60 8 2),q 59 (l 61 60),q 59 (f 62 8 3),q 59 (l 63 62),q 59 (b 64 .eql 61 63),P 65 59 64,m 66 65,q 66 (f 67 9 2),q 66 (l 68 67),q 66 (f 69 9 3),q 66 (l 70 69),q 66 (b 71 .eql 68 70),P 72 66 71,m 73 72,q 73 (f 74 10 2),q 73 (l 75 74),q 73 (f 76 10 3),q 73 (l 77 76),q 73 (b 78 .eql 75 77),P 79 73 78,m 4 79]
def x5:FC:=⟨[0,1,2,3,4],[⟨4,none⟩],R [U 2 26 0,U 3 26 1,o 4 (.mv F)] (g aEW j)⟩
def JT:CO 17 x5 2:=bk f17 ak
def R9:FC:=⟨[0,1,2],[⟨2,none⟩],R [U 1 26 0,M 2 0] (g (R [f 3 4 1,l 4 3] (C 4 (R [f 5 5 1,l 6 5,y 7 6,m 2 7] j) w)) (R [f 8 9 1,l 9 8,m 2 9] j))⟩
def af5:CO 18 R9 1:=bk f18 ak
def aFH:PC:=G [2,3,4,9,10,11] (g (R [m 20 11,m 21 10,n 22 21,b 23 .lss 20 22] (C 23 w (h 0))) (g (H 1 (R [m 26 11,B 27 .mul 26 256,m 28 11,B 29 .add 28 1,B 30 .mul 29 256,m 12 27,m 13 30] (g (R [f 31 4 4,l 32 31] (C 32 (r [m 33 10,m 34 11,m 35 12,f 36 5 4,l 37 36,y 38 37,b 39 .lss 35 38,i 40 1 33 34,s 1 40 39]) (r [m 41 10,m 42 11,m 43 11,m 44 9,n 45 44,b 46 .lss 43 45,m 47 46,q 47 (m 48 9),q 47 (m 49 11),q 47 (i 50 1 48 49),q 47 (l 51 50),q 47 (B 52 .neq 51 (-1)),P 53 47 52,i 54 1 41 42,s 1 54 53]))) (r [m 55 10,m 56 11,m 57 10,m 58 11,i 59 1 57 58,l 60 59,m 61 60,Q 61 (m 62 2),Q 61 (m 63 3),Q 61 (b 64 .lss 62 63),Q 61 (m 65 64),q 65 (m 66 12),q 65 (m 67 3),q 65 (b 68 .lss 66 67),Q 61 (P 69 65 68),Q 61 (m 70 69),q 70 (m 71 2),q 70 (m 72 13),q 70 (b 73 .lss 71 72),Q 61 (P 74 70 73),V 75 61 74,i 76 1 55 56,s 1 76 75])))) (r [m 24 11,B 25 .add 24 1,m 11 25])))
def zH:FC:=⟨[0,1,2,3,4,8,9,10,11,12,13],[⟨8,none⟩],R [U 4 26 0,o 8 (.nilR 4 1)] (R [f 14 7 4,l 15 14,c 16 71 [t 15],m 9 16] (R [m 17 1,c 18 76 [t 17,k 256],o 19 (.mksl 4 1 1 (.bool false) (t 18) (t 18)),m 10 19] (g (R [M 11 0] (H 0 aFH)) (R [m 77 10,m 8 77] j))))⟩
def MY:CO 19 zH 4:=bk f19 ak
def Rq:FC:=⟨[0,1,2,3,4,5,8,9,10,11],[⟨8,none⟩],R [U 4 23 0,U 5 26 1,o 8 (.mv F)] (R [L 13 2 4,L 14 11 5,c 15 77 [t 13,t 14],m 12 15,e 16 12 0,e 17 12 1,m 9 16,m 10 17] (g (R [m 18 2,B 19 .eql 18 8] (C 19 (R [m 20 9,B 21 .gtr 20 16,m 22 21,Q 22 (m 23 10),Q 22 (B 24 .gtr 23 16),V 25 22 24,m 8 25] j) w)) (g (E [L 26 2 4,c 27 37 [t 26],L 28 11 5,c 29 38 [t 28],N 30 29,b 31 .add 27 30,m 11 31] [[],[0],[],[2,1],[3],[1,4],[5,3,0,1,2,3,4,5]]) (R [m 32 2,B 33 .eql 32 16,m 34 33,q 34 (m 35 3),q 34 (m 36 11),q 34 (b 37 .gtr 35 36),P 38 34 37,m 8 38] j))))⟩
def age:CO 20 Rq 4:=bk f20 ak
def FV:FC:=⟨[0,1,2,3,6],[⟨6,none⟩],R [U 3 26 0,M 6 0] (g (R [L 7 11 3,c 8 26 [t 7,k 1]] (C 8 (R [m 9 1,c 10 76 [t 9,k 4096],o 11 (.bin .mul (k 16) (t 10)),m 6 11] j) w)) (g (R [L 12 11 3,c 13 26 [t 12,k 2]] (C 13 (R [m 14 2,c 15 78 [t 14],m 6 15] j) w)) (R [m 16 1,c 17 76 [t 16,k 256],m 6 17] j)))⟩
def Ub:CO 21 FV 3:=bk f21 ak
def aGp:PC:=G [2,3,5,6,7] (g (R [m 17 7,m 18 5,n 19 18,b 20 .lss 17 19] (C 20 w (h 0))) (g (H 1 (R [L 23 11 3,c 24 26 [t 23,k 1]] (C 24 (R [m 25 7,B 26 .rem 25 16,B 27 .eql 26 0] (C 27 (g (E [L 29 2 2,m 30 5,m 31 7,m 32 7,B 33 .add 32 16,o 34 (.slcR 1 (t 30) (some (t 31)) (some (t 33))),c 35 81 [t 29,t 34],c 36 80 [t 35],m 28 36,e 37 28 0,e 38 28 1,m 8 37,m 9 38] [[],[],[],[],[3],[1,2,4],[0,5],[6,6],[7],[8],[8],[9,7,0,1,2,3,4,5,6,7,8,9],[10,11,0,1,2,3,4,5,6,7,8,9,10,11]]) (r [m 39 6,m 40 8,b 41 .add 39 40,m 6 41])) w)) (R [m 42 5,m 43 7,i 44 1 42 43,l 45 44,B 46 .eql 45 (-1)] (C 46 (r [m 47 6,c 48 82 [k 256],b 49 .add 47 48,m 6 49]) (D [m 50 6,L 51 2 2,m 52 5,m 53 7,i 54 1 52 53,l 55 54,c 56 33 [t 51,t 55],b 57 .add 50 56,m 6 57] [[],[],[],[],[2,3],[4],[1,5],[0,6],[7,6,0,1,2,3,4,5,6,7]])))))) (r [m 21 7,B 22 .add 21 1,m 7 22])))
def ID:FC:=⟨[0,1,2,3,4,5,6,7,8],[⟨4,none⟩],R [U 2 23 0,U 3 26 1,o 4 (.mv (Y []))] (g (R [f 10 4 3,l 11 10] (C 11 (R [f 12 5 3,l 13 12,m 4 13] j) w)) (R [f 14 7 3,l 15 14,c 16 71 [t 15],m 5 16] (R [o 6 (.mv (Y []))] (g (R [M 7 0] (H 0 aGp)) (g (D [m 58 6,f 59 10 3,l 60 59,o 61 (.slcS (t 58) none (some (t 60))),f 62 9 3,l 63 62,f 64 10 3,l 65 64,b 66 .sub 63 65,c 67 82 [t 66],b 68 .add 61 67,m 4 68] [[],[],[1],[0,2],[],[4],[],[6],[5,7],[8],[3,9],[10,9,0,1,2,3,4,5,6,7,8,9,10]]) j)))))⟩
def Wo:CO 23 ID 2:=bk f23 ak
def N5:FC:=⟨[0,1,2],[⟨2,none⟩],R [U 1 26 0,M 2 0] (g (R [f 3 4 1,l 4 3] (C 4 (R [f 5 5 1,l 6 5,y 7 6,m 2 7] j) w)) (R [f 8 10 1,l 9 8,m 2 9] j))⟩
def ac7:CO 24 N5 1:=bk f24 ak
def aFW:PC:=D [L 11 2 6,L 12 11 8,c 13 14 [t 11,t 12],B 14 .neq 13 0,m 15 14,Q 15 (L 16 2 5),Q 15 (L 17 2 6),Q 15 (L 18 11 7),Q 15 (L 19 11 8),Q 15 (c 20 83 [t 16,t 17,t 18,t 19]),Q 15 (u 21 20),V 22 15 21,m 23 22,Q 23 (L 24 2 6),Q 23 (L 25 11 8),Q 23 (c 26 23 [t 24,t 25]),Q 23 (f 27 0 9),Q 23 (l 28 27),Q 23 (b 29 .neq 26 28),V 30 23 29,m 31 30,Q 31 (f 32 4 8),Q 31 (l 33 32),Q 31 (f 34 2 9),Q 31 (l 35 34),Q 31 (o 36 (.eqb true (t 33) (t 35))),V 37 31 36,m 38 37,Q 38 (f 39 4 8),Q 38 (l 40 39),Q 38 (u 41 40),Q 38 (m 42 41),q 42 (f 43 10 8),q 42 (l 44 43),q 42 (f 45 1 9),q 42 (l 46 45),q 42 (b 47 .neq 44 46),Q 38 (P 48 42 47),V 49 38 48] [[],[],[0,1],[2],[3,2],[4],[4],[4],[4],[5,6,7,8,4,4],[9,4],[4,10],[11,9],[12],[12],[13,14,12,12],[12],[16,12],[15,17,12],[12,18],[19,15],[20],[21,20],[20],[23,20],[22,24,20],[20,25],[26,20],[27],[28,27],[29,27],[30,27,27],[31],[32,31],[31],[34,31],[33,35,31],[31,36,27],[27,37]]
def NJ:FC:=⟨[0,1,2,3,4,5,6,7,8,9,10],[⟨10,none⟩],R [U 5 23 0,U 6 23 1,U 7 26 2,U 8 26 3,U 9 48 4,o 10 (.mv F)] (g (g aFW (C 49 (R [o 10 (.mv F)] j) w)) (R [f 50 0 8,l 51 50,f 52 0 7,l 53 52,b 54 .eql 51 53,m 55 54,q 55 (f 56 1 8),q 55 (l 57 56),q 55 (f 58 1 7),q 55 (l 59 58),q 55 (b 60 .eql 57 59),P 61 55 60,m 62 61,q 62 (f 63 2 8),q 62 (l 64 63),q 62 (f 65 2 7),q 62 (l 66 65),q 62 (b 67 .eql 64 66),P 68 62 67,m 69 68,q 69 (f 70 3 8),q 69 (l 71 70),q 69 (f 72 3 7),q 69 (l 73 72),q 69 (b 74 .eql 71 73),P 75 69 74,m 10 75] j))⟩
def adb:CO 25 NJ 5:=bk f25 ak
def U1:FC:=⟨[0,1,2,4],[⟨4,none⟩],R [U 2 26 0,o 4 (.mv F)] (R [f 5 3 2,l 6 5,m 7 1,b 8 .quo 6 7,B 9 .rem 8 2,B 10 .eql 9 1,m 4 10] j)⟩
def aka:CO 26 U1 2:=bk f26 ak
def aF2:PC:=G [1,5,6] (g (R [m 15 6,m 16 5,n 17 16,b 18 .lss 15 17] (C 18 w (h 0))) (g (H 1 (g (D [m 21 5,m 22 6,i 23 1 21 22,l 24 23,B 25 .neq 24 (-1),m 26 1,m 27 6,i 28 1 26 27,l 29 28,o 30 (.eqb true (t 25) (t 29))] [[],[],[0,1],[2],[3],[],[],[5,6],[7],[4,8]]) (C 30 (R [o 4 (.mv F)] j) w))) (r [m 19 6,B 20 .add 19 1,m 6 20])))
def zm:FC:=⟨[0,1,2,4,5,6],[⟨4,none⟩],R [U 2 26 0,o 4 (.mv F)] (R [f 7 7 2,l 8 7,c 9 71 [t 8],m 5 9] (g (R [m 10 5,n 11 10,m 12 1,n 13 12,b 14 .neq 11 13] (C 14 (R [o 4 (.mv F)] j) w)) (g (R [M 6 0] (H 0 aF2)) (R [o 4 (.mv T)] j))))⟩
def Ng:CO 27 zm 2:=bk f27 ak
def aac:FC:=⟨[0,1,4],[⟨4,none⟩],R [M 4 0] (R [m 5 0,m 6 1,b 7 .rem 5 6,m 0 7] (g (R [m 8 0,B 9 .lss 8 0] (C 9 (r [m 10 0,m 11 1,b 12 .add 10 11,m 0 12]) w)) (R [m 13 0,m 4 13] j)))⟩
def amG:CO 28 aac 2:=bk f28 ak
def BN:FC:=⟨[0,1,2,3,4,5,6,7],[⟨4,none⟩,⟨5,none⟩],R [U 2 23 0,U 3 26 1,o 4 (.mv (Y [])),M 5 0] (R [L 9 2 2,L 10 11 3,c 11 57 [t 9,t 10],m 8 11,e 12 8 0,e 13 8 1,m 6 12,m 7 13] (g (R [m 14 7,B 15 .neq 14 0] (C 15 (R [m 16 7,o 4 (.mv (Y [])),m 5 16] j) w)) (R [m 17 6,c 18 63 [t 17],m 4 18,M 5 0] j)))⟩
def Pe:CO 29 BN 2:=bk f29 ak
def Gb:FC:=⟨[0,1,2,3,4,6,7,8,9,10,11],[⟨6,some (⟨true,2⟩)⟩,⟨7,some (⟨true,11⟩)⟩,⟨8,none⟩],R [U 3 23 0,U 4 26 1,o 6 (.alloc 23 (.agg [.str [],.str []])),o 7 (.alloc 26 (.agg [I 0,.str [],I 0,I 0,.bool false,.str [],I 0,.nil 2,I 0,I 0,I 0])),M 8 0] (R [L 13 2 3,L 14 11 4,c 15 57 [t 13,t 14],m 12 15,e 16 12 0,e 17 12 1,o 9 (.alloc 83 (.val (.pointer none))),s 1 9 16,m 10 17] (g (R [m 18 10,m 19 2,c 20 60 [t 19],c 21 59 [t 20,k 2],o 22 (.bslice 33 1 [t 18,t 21]),c 23 58 [t 22],m 10 23] (R [m 24 10,B 25 .neq 24 0] (C 25 (R [o 26 (.build [.str [],.str []] []),o 27 (.build [I 0,.str [],I 0,I 0,.bool false,.str [],I 0,.nil 2,I 0,I 0,I 0] []),m 28 10,s 2 6 26,s 11 7 27,m 8 28] j) w))) (R [l 29 9,c 30 63 [t 29],m 31 2,c 32 62 [t 30,t 31],m 33 2,o 34 (.slcS (t 32) none (some (t 33))),m 11 34] (g (E [l 35 9,m 36 11,l 37 9,c 38 65 [t 37],m 39 2,o 40 (.mm false (t 38) (t 39)),o 41 (.mkf 84 [t 9]),o 42 (.build [.str [],I 0,.val .nilFunc] [⟨0,⟨1,t 36⟩⟩,⟨1,⟨1,t 40⟩⟩,⟨2,⟨1,t 41⟩⟩]),c 43 64 [t 35,t 42],e 44 43 0,e 45 43 1,e 46 43 2,s 2 6 44,s 11 7 45,m 8 46] [[],[],[],[2],[],[3,4],[],[1,5,6],[0,7,3],[8],[8],[8],[9,8,0,1,2,3,4,5,6,7,8,9,10,11],[10,12,0,1,2,3,4,5,6,7,8,9,10,11,12],[11,13,0,1,2,3,4,5,6,7,8,9,10,11,12,13]]) j))))⟩
def Us:CO 30 Gb 3:=bk f30 ak
def aFb:PC:=G [0,3] (g (R [m 4 3,m 5 0,y 6 5,b 7 .lss 4 6] (C 7 w (h 0))) (g (H 1 (R [m 10 0,m 11 3,o 12 (.idx (t 10) (t 11)),o 13 (.bin .neq (t 12) (.const (.int .u8 0)))] (C 13 (R [o 2 (.mv F)] j) w))) (r [m 8 3,B 9 .add 8 1,m 3 9])))
def AZ:FC:=⟨[0,2,3],[⟨2,none⟩],R [o 2 (.mv F)] (g (R [M 3 0] (H 0 aFb)) (R [o 2 (.mv T)] j))⟩
def JF:CO 31 AZ 1:=bk f31 ak
def E8:FC:=⟨[0,1,2],[⟨2,none⟩],R [U 1 23 0,M 2 0] (R [f 3 0 1,l 4 3,y 5 4,B 6 .quo 5 256,m 2 6] j)⟩
def S2:CO 32 E8 1:=bk f32 ak
def H6:FC:=⟨[0,1,2,4],[⟨4,none⟩],R [U 2 23 0,o 4 (.mv (Y []))] (R [f 5 0 2,l 6 5,m 7 1,B 8 .mul 7 256,m 9 1,B 10 .add 9 1,B 11 .mul 10 256,o 12 (.slcS (t 6) (some (t 8)) (some (t 11))),m 4 12] j)⟩
def WN:CO 33 H6 2:=bk f33 ak
def QI:FC:=⟨[0,2],[⟨2,none⟩],R [M 2 0] (R [m 3 0,o 4 (.bin .shl (k 1) (t 3)),m 2 4] j)⟩
def ag5:CO 34 QI 1:=bk f34 ak
def aEO:PC:=G [0,1,5,6] (g (R [m 7 6,m 8 1,b 9 .lss 7 8] (C 9 w (h 0))) (g (H 1 (r [m 12 5,m 13 0,b 14 .add 12 13,m 5 14])) (r [m 10 6,B 11 .add 10 1,m 6 11])))
def PS:FC:=⟨[0,1,4,5,6],[⟨4,none⟩],R [o 4 (.mv (Y []))] (R [o 5 (.mv (Y []))] (g (R [M 6 0] (H 0 aEO)) (R [m 15 5,m 4 15] j)))⟩
def afK:CO 35 PS 2:=bk f35 ak
def Q5:FC:=⟨[0,1,2],[⟨2,none⟩],R [U 1 23 0,M 2 0] (g (D [L 3 2 1,c 4 32 [t 3],f 5 1 1,l 6 5,L 7 2 1,c 8 32 [t 7],c 9 89 [t 6,t 8],b 10 .sub 4 9,m 2 10] [[],[0],[],[2],[],[4,1],[3,5,5],[1,6],[7,6,0,1,2,3,4,5,6,7]]) j)⟩
def agI:CO 37 Q5 1:=bk f37 ak
def aFM:PC:=G [3,4,5] (g (R [m 9 5,m 10 4,n 11 10,b 12 .lss 9 11] (C 12 w (h 0))) (g (H 1 (R [m 15 4,m 16 5,i 17 1 15 16,l 18 17,B 19 .neq 18 (-1)] (C 19 (r [m 20 3,m 21 4,m 22 5,i 23 1 21 22,l 24 23,o 25 (.bslice 3 1 [t 24]),o 26 (.app 3 1 8 (t 20) (t 25)),m 3 26]) w))) (r [m 13 5,B 14 .add 13 1,m 5 14])))
def U9:FC:=⟨[0,1,2,3,4,5],[⟨2,none⟩],R [U 1 26 0,o 2 (.nilR 3 1)] (R [o 3 (.nilR 3 1)] (R [f 6 7 1,l 7 6,c 8 71 [t 7],m 4 8] (g (R [M 5 0] (H 0 aFM)) (R [m 27 3,m 2 27] j))))⟩
def ajd:CO 38 U9 1:=bk f38 ak
def NW:FC:=⟨[0,1,4],[⟨4,none⟩],R [o 4 (.mv (Y []))] (g (D [m 5 0,m 6 0,y 7 6,m 8 1,o 9 (.mm false (t 7) (t 8)),o 10 (.slcS (t 5) none (some (t 9))),m 11 1,m 12 0,y 13 12,m 14 1,o 15 (.mm false (t 13) (t 14)),b 16 .sub 11 15,c 17 82 [t 16],b 18 .add 10 17,m 4 18] [[],[],[1],[],[2,3],[0,4],[],[],[7],[],[8,9],[6,10],[11],[5,12],[13,12,0,1,2,3,4,5,6,7,8,9,10,11,12,13]]) j)⟩
def ac3:CO 39 NW 2:=bk f39 ak
def Bm:FC:=⟨[0,1,2],[⟨2,none⟩],R [U 1 23 0,M 2 0] (g (D [f 3 0 1,l 4 3,y 5 4,B 6 .rem 5 256,B 7 .eql 6 0,c 8 59 [t 7,k 10],L 9 2 1,c 10 94 [t 9],B 11 .leq 10 512,c 12 59 [t 11,k 2],f 13 1 1,l 14 13,L 15 2 1,c 16 94 [t 15],o 17 (.mm false (t 16) (k 512)),c 18 95 [t 14,t 17],o 19 (.bslP 33 1 [t 8,t 12,t 18]),c 20 58 [t 19],m 2 20] [[],[0],[1],[2],[3],[4],[],[6,5],[7],[8,7],[],[10],[],[12,9],[13],[11,14,13],[5,9,15],[16,15],[17,17,0,1,2,3,4,5,6,7,8,9,10,11,12,13,14,15,16,17]]) j)⟩
def Pw:CO 42 Bm 1:=bk f42 ak
def Iw:FC:=⟨[0,1,2,3,4,5,8,9,10,11,12,13],[⟨8,none⟩,⟨9,none⟩],R [U 4 23 0,U 5 26 1,o 8 (.mv (Y [])),M 9 0] (R [L 15 2 4,L 16 11 5,c 17 57 [t 15,t 16],m 14 17,e 18 14 0,e 19 14 1,m 10 18,m 11 19] (g (R [m 20 11,m 21 2,c 22 60 [t 21],m 23 22,q 23 (m 24 3),q 23 (c 25 60 [t 24]),P 26 23 25,c 27 59 [t 26,k 2],o 28 (.bslice 33 1 [t 20,t 27]),c 29 58 [t 28],m 11 29] (R [m 30 11,B 31 .neq 30 0] (C 31 (R [m 32 11,o 8 (.mv (Y [])),m 9 32] j) w))) (R [m 33 10,c 34 63 [t 33],m 12 34] (R [m 35 2,m 36 12,y 37 36,o 38 (.mm false (t 35) (t 37)),m 13 38] (R [m 39 12,m 40 13,m 41 12,y 42 41,m 43 13,m 44 3,b 45 .add 43 44,o 46 (.mm false (t 42) (t 45)),o 47 (.slcS (t 39) (some (t 40)) (some (t 46))),m 8 47,M 9 0] j)))))⟩
def VS:CO 44 Iw 4:=bk f44 ak
def Bz:FC:=⟨[0,1,2,6,7,8,9],[⟨6,some (⟨true,11⟩)⟩,⟨7,none⟩],R [o 6 (.alloc 26 (.agg [I 0,.str [],I 0,I 0,.bool false,.str [],I 0,.nil 2,I 0,I 0,I 0])),M 7 0] (R [m 10 0,m 11 1,m 12 2,o 13 (.build [I 0,.str [],I 0,I 0,.bool false,.str [],I 0,.nil 2,I 0,I 0,I 0] [⟨0,⟨1,k 128⟩⟩,⟨1,⟨1,t 10⟩⟩,⟨3,⟨1,t 11⟩⟩,⟨2,⟨1,t 12⟩⟩,⟨4,⟨1,.const (.bool true)⟩⟩]),o 8 (.alloc 26 (.agg [I 0,.str [],I 0,I 0,.bool false,.str [],I 0,.nil 2,I 0,I 0,I 0])),s 11 8 13] (g (R [L 14 11 8,c 15 98 [t 14],m 9 15] (R [m 16 9,B 17 .neq 16 0] (C 17 (R [o 18 (.build [I 0,.str [],I 0,I 0,.bool false,.str [],I 0,.nil 2,I 0,I 0,I 0] []),m 19 9,s 11 6 18,m 7 19] j) w))) (R [L 20 11 8,s 11 6 20,M 7 0] j)))⟩
def OH:CO 46 Bz 3:=bk f46 ak
def Vm:FC:=⟨[0,1,2,3],[⟨2,none⟩],R [U 1 26 0,M 2 0] (g (R [f 4 0 1,l 5 4,c 6 99 [t 5],u 7 6] (C 7 (R [M 2 15] j) w)) (g (R [f 8 1 1,l 9 8,c 10 100 [t 9],u 11 10] (C 11 (R [M 2 4] j) w)) (g (R [f 12 2 1,l 13 12,c 14 15 [t 13,k 0,k 65535],u 15 14,m 16 15,Q 16 (f 17 3 1),Q 16 (l 18 17),Q 16 (c 19 15 [t 18,k 0,k 7]),Q 16 (u 20 19),V 21 16 20] (C 21 (R [M 2 2] j) w)) (R [L 22 11 1,c 23 101 [t 22],m 3 23] (g (R [f 24 4 1,l 25 24] (C 25 (r [L 26 11 1,c 27 102 [t 26],m 3 27]) w)) (g (R [m 28 3,B 29 .eql 28 0,m 30 29,q 30 (L 31 11 1),q 30 (c 32 103 [t 31]),q 30 (y 33 32),q 30 (B 34 .gtr 33 440),P 35 30 34] (C 35 (r [M 3 16]) w)) (R [m 36 3,m 2 36] j)))))))⟩
def ajh:CO 47 Vm 1:=bk f47 ak
def H_:FC:=⟨[0,1,2],[⟨2,none⟩],R [U 1 23 0,M 2 0] (g (R [f 3 0 1,l 4 3,y 5 4,B 6 .rem 5 256,B 7 .neq 6 0] (C 7 (R [M 2 10] j) w)) (g (R [L 8 2 1,c 9 32 [t 8],B 10 .gtr 9 512] (C 10 (R [M 2 2] j) w)) (g (D [f 11 1 1,l 12 11,L 13 2 1,c 14 32 [t 13],c 15 104 [t 12,t 14],m 2 15] [[],[0],[],[2],[1,3,3],[4,4,0,1,2,3,4]]) j)))⟩
def WC:CO 48 H_ 1:=bk f48 ak
def aFg:PC:=G [0,1,5] (g (R [m 11 5,m 12 0,n 13 12,b 14 .lss 11 13] (C 14 w (h 0))) (g (H 1 (g (D [m 17 0,m 18 5,i 19 2 17 18,L 20 2 19,m 21 1,m 22 5,i 23 2 21 22,L 24 2 23,o 25 (.eqs true [0,0] (t 20) (t 24))] [[],[],[0,1],[2],[],[],[4,5],[6],[3,7]]) (C 25 (R [o 4 (.mv F)] j) w))) (r [m 15 5,B 16 .add 15 1,m 5 16])))
def HY:FC:=⟨[0,1,4,5],[⟨4,none⟩],R [o 4 (.mv F)] (g (R [m 6 0,n 7 6,m 8 1,n 9 8,b 10 .neq 7 9] (C 10 (R [o 4 (.mv F)] j) w)) (g (R [M 5 0] (H 0 aFg)) (R [o 4 (.mv T)] j)))⟩
def V8:CO 49 HY 2:=bk f49 ak
def Sk:FC:=⟨[0],[⟨0,some (⟨true,2⟩)⟩],R [o 0 (.alloc 23 (.agg [.str [],.str []]))] (R [c 1 82 [k 16384],c 2 82 [k 7],o 3 (.bin .add (Y [255]) (t 2)),o 4 (.build [.str [],.str []] [⟨0,⟨1,t 1⟩⟩,⟨1,⟨1,t 3⟩⟩]),s 2 0 4] j)⟩
def agR:CO 55 Sk 0:=bk f55 ak
def aFL:PC:=G [0,3,4] (g (R [m 5 4,m 6 0,n 7 6,b 8 .lss 5 7] (C 8 w (h 0))) (g (H 1 (r [m 11 3,m 12 0,m 13 4,i 14 2 12 13,f 15 1 14,l 16 15,b 17 .add 11 16,m 3 17])) (r [m 9 4,B 10 .add 9 1,m 4 10])))
def Jg:FC:=⟨[0,2,3,4],[⟨2,none⟩],R [M 2 0] (R [M 3 0] (g (R [M 4 0] (H 0 aFL)) (R [m 18 3,m 2 18] j)))⟩
def Yd:CO 56 Jg 1:=bk f56 ak
def Of:FC:=⟨[0,1,2,3,4,5,6,7,8,9],[⟨4,none⟩,⟨5,none⟩],R [U 2 23 0,U 3 26 1,o 4 (.mv (.const (.pointer none))),M 5 0] (g (g (D [L 10 2 2,c 11 42 [t 10],L 12 11 3,c 13 98 [t 12],o 14 (.bslP 33 1 [t 11,t 13]),c 15 58 [t 14],m 6 15] [[],[0],[],[2,1],[1,3],[4,3],[5,5,0,1,2,3,4,5]]) (R [m 16 6,B 17 .neq 16 0] (C 17 (R [m 18 6,o 4 (.mv (.const (.pointer none))),m 5 18] j) w))) (g (E [L 19 11 3,L 20 2 2,f 21 7 3,l 22 21,c 23 97 [t 22],o 24 (.build [I 0,.str [],I 0,I 0,.bool false,.str [],I 0,.nil 2,I 0,I 0,I 0,.str [],.str [],.nil 1] [⟨0,⟨11,t 19⟩⟩,⟨11,⟨2,t 20⟩⟩,⟨13,⟨1,t 23⟩⟩]),U 25 112 24,m 7 25] [[],[],[],[2],[3],[0,1,4],[5],[6,4,0,1,2,3,4,5,6]]) (g (R [m 26 7,o 27 (.nilck (t 26)),f 28 0 27,f 29 4 28,l 30 29] (C 30 (R [m 31 7,m 4 31,M 5 0] j) w)) (g (R [m 32 7,c 33 113 [t 32],m 8 33] (R [m 34 8,B 35 .neq 34 0] (C 35 (R [m 36 8,o 4 (.mv (.const (.pointer none))),m 5 36] j) w))) (R [m 37 7,c 38 114 [t 37],m 9 38] (g (R [m 39 9,B 40 .eql 39 0,m 41 40,q 41 (m 42 7),q 41 (c 43 115 [t 42]),P 44 41 43] (C 44 (r [m 45 7,c 46 116 [t 45],m 9 46]) w)) (R [m 47 7,m 48 9,m 4 47,m 5 48] j)))))))⟩
def acu:CO 57 Of 2:=bk f57 ak
def aFR:PC:=G [5,6,7] (R [b 8 .lss 7 6] (g (C 8 w (h 0)) (g (H 1 (R [i 9 1 5 7,l 10 9,m 4 10] (R [m 11 4,B 12 .neq 11 0] (C 12 (R [m 13 4,m 2 13] j) w)))) (r [B 14 .add 7 1,m 7 14]))))
def JS:FC:=⟨[0,2,4,5,6,7],[⟨2,none⟩],R [M 2 0] (g (R [m 5 0,n 6 5,M 7 0] (H 0 aFR)) (R [M 2 0] j))⟩
def X9:CO 58 JS 1:=bk f58 ak
def Ij:FC:=⟨[0,1,4],[⟨4,none⟩],R [M 4 0] (g (R [m 5 0] (C 5 (R [M 4 0] j) w)) (R [m 6 1,m 4 6] j))⟩
def VM:CO 59 Ij 2:=bk f59 ak
def Dj:FC:=⟨[0,2],[⟨2,none⟩],R [o 2 (.mv F)] (R [m 3 0,c 4 117 [t 3,k 0,k 32768],m 2 4] j)⟩
def Qq:CO 60 Dj 1:=bk f60 ak
def eu:FC:=⟨[0,2],[⟨2,none⟩],R [o 2 (.nilR 28 2)] (g (R [m 3 0,o 4 (.isnil false (t 3))] (C 4 (R [o 2 (.nilR 28 2)] j) w)) (R [o 5 (.bslice 28 2 []),m 6 0,o 7 (.app 28 2 16 (t 5) (t 6)),m 2 7] j))⟩
def jS:CO 61 eu 1:=bk f61 ak
def HS:FC:=⟨[0,1,4],[⟨4,none⟩],R [o 4 (.mv (Y []))] (R [m 5 0,m 6 1,m 7 0,y 8 7,b 9 .sub 6 8,c 10 90 [t 9],b 11 .add 5 10,m 4 11] j)⟩
def WH:CO 62 HS 2:=bk f62 ak
def aGc:PC:=G [0,3,23,24,25] (R [b 26 .lss 25 24] (g (C 26 w (h 0)) (g (H 1 (R [i 27 1 23 25,l 28 27,m 5 28] (R [m 30 0,m 31 5,c 32 120 [t 30,t 31],c 33 119 [t 32],m 29 33,e 34 29 0,e 35 29 1,m 6 34,m 7 35] (r [m 36 3,m 37 6,b 38 .add 36 37,m 3 38])))) (r [B 39 .add 25 1,m 25 39]))))
def aE0:PC:=G [0,3,46,47,48] (R [b 49 .lss 48 47] (g (C 49 w (h 2)) (g (H 3 (R [i 50 1 46 48,l 51 50,m 9 51] (g (R [m 52 9,B 53 .eql 52 (-1)] (C 53 (R [m 54 3,c 55 90 [k 256],b 56 .add 54 55,m 3 56] (h 3)) w)) (r [m 57 3,m 58 0,m 59 9,c 60 109 [t 58,t 59],b 61 .add 57 60,m 3 61])))) (r [B 62 .add 48 1,m 48 62]))))
def tB:FC:=⟨[0,2,3,5,6,9,23,24,25,46,47,48],[⟨2,none⟩],R [o 2 (.mv (Y []))] (g (R [m 10 0,o 11 (.nilck (t 10)),f 12 0 11,f 13 4 12,l 14 13] (C 14 (R [m 15 0,o 16 (.nilck (t 15)),f 17 0 16,f 18 5 17,l 19 18,m 2 19] j) w)) (R [o 3 (.mv (Y []))] (g (R [m 20 0,c 21 115 [t 20]] (C 21 (g (R [m 22 0,c 23 118 [t 22],n 24 23,M 25 0] (H 0 aGc)) (R [m 40 0,m 41 3,c 42 121 [t 40,t 41],m 2 42] j)) w)) (g (R [m 43 0,o 44 (.nilck (t 43)),f 45 13 44,l 46 45,n 47 46,M 48 0] (H 2 aE0)) (R [m 63 0,m 64 3,c 65 121 [t 63,t 64],m 2 65] j)))))⟩
def Fx:CO 63 tB 1:=bk f63 ak
def tz:FC:=⟨[0,1,3,4,5,6],[⟨4,some (⟨true,2⟩)⟩,⟨5,some (⟨true,11⟩)⟩,⟨6,none⟩],R [U 3 97 1,o 4 (.alloc 23 (.agg [.str [],.str []])),o 5 (.alloc 26 (.agg [I 0,.str [],I 0,I 0,.bool false,.str [],I 0,.nil 2,I 0,I 0,I 0])),M 6 0] (g (R [m 7 0,o 8 (.nilck (t 7)),f 9 0 8,f 10 4 9,l 11 10,m 12 11,q 12 (f 13 0 3),q 12 (l 14 13),q 12 (y 15 14),q 12 (B 16 .leq 15 200),P 17 12 16] (C 17 (g (D [m 18 0,o 19 (.nilck (t 18)),f 20 11 19,L 21 2 20,m 22 0,f 23 0 3,l 24 23,c 25 88 [t 22,t 24],s 2 4 21,s 11 5 25,M 6 0] [[],[0],[1],[2],[],[],[5],[4,6],[3,7,0,1,2,3],[7,8,0,1,2,3,4,5,6,7,8],[9,0,1,2,3,4,5,6,7,8,9]]) j) w)) (R [m 26 0,L 27 3 3,c 28 91 [t 26,t 27],e 29 28 0,e 30 28 1,e 31 28 2,s 2 4 29,s 11 5 30,m 6 31] j))⟩
def FU:CO 64 tz 2:=bk f64 ak
def wc:FC:=⟨[0,2],[⟨2,none⟩],R [M 2 0] (g (R [m 3 0,o 4 (.nilck (t 3)),f 5 0 4,f 6 4 5,l 7 6] (C 7 (R [m 8 0,o 9 (.nilck (t 8)),f 10 0 9,f 11 5 10,l 12 11,y 13 12,m 2 13] j) w)) (R [m 14 0,o 15 (.nilck (t 14)),f 16 0 15,f 17 10 16,l 18 17,m 2 18] j))⟩
def IJ:CO 65 wc 1:=bk f65 ak
def zF:FC:=⟨[0,1,2,4],[⟨4,none⟩],R [o 4 (.mv F)] (R [l 5 1,m 6 0,c 7 67 [t 5,t 6],m 8 7,Q 8 (L 9 2 2),Q 8 (m 10 0),Q 8 (c 11 68 [t 9,t 10]),V 12 8 11,m 13 12,Q 13 (l 14 1),Q 13 (c 15 69 [t 14]),Q 13 (m 16 0),Q 13 (c 17 68 [t 15,t 16]),V 18 13 17,m 4 18] j)⟩
def MD:CO 66 zF 3:=bk f66 ak
def zw:FC:=⟨[0,1,4],[⟨4,none⟩],R [o 4 (.mv F)] (R [m 5 1,m 6 0,o 7 (.nilck (t 6)),f 8 13 7,l 9 8,n 10 9,b 11 .lss 5 10,m 12 11,q 12 (m 13 0),q 12 (o 14 (.nilck (t 13))),q 12 (f 15 13 14),q 12 (l 16 15),q 12 (m 17 1),q 12 (i 18 1 16 17),q 12 (l 19 18),q 12 (c 20 86 [t 19]),q 12 (u 21 20),P 22 12 21,m 4 22] j)⟩
def MO:CO 67 zw 2:=bk f67 ak
def wh:FC:=⟨[0,1,2,4],[⟨4,none⟩],R [U 2 92 0,o 4 (.mv F)] (R [f 5 0 2,l 6 5,f 7 1 2,l 8 7,m 9 1,B 10 .add 9 1,B 11 .mul 10 256,o 12 (.mm false (t 8) (t 11)),b 13 .lss 6 12,m 14 13,q 14 (m 15 1),q 14 (B 16 .mul 15 256),q 14 (f 17 1 2),q 14 (l 18 17),q 14 (b 19 .lss 16 18),P 20 14 19,m 4 20] j)⟩
def IP:CO 68 wh 2:=bk f68 ak
def zz:FC:=⟨[0,2],[⟨2,some (⟨true,2⟩)⟩],R [o 2 (.alloc 92 (.agg [I 0,I 0]))] (R [m 3 0,o 4 (.nilck (t 3)),f 5 0 4,f 6 5 5,l 7 6,y 8 7,o 9 (.build [I 0,I 0] [⟨0,⟨1,k 0⟩⟩,⟨1,⟨1,t 8⟩⟩]),s 2 2 9] j)⟩
def Nr:CO 69 zz 1:=bk f69 ak
def Ih:FC:=⟨[0,2],[⟨2,none⟩],R [o 2 (.nilR 28 2)] (R [o 3 (.bslice 28 2 []),m 4 0,o 5 (.app 28 2 16 (t 3) (t 4)),m 2 5] j)⟩
def VZ:CO 70 Ih 1:=bk f70 ak
def aGa:PC:=G [0,3,4,5] (g (R [m 12 5,m 13 0,m 14 4,i 15 2 13 14,f 16 1 15,l 17 16,b 18 .lss 12 17] (C 18 w (h 2))) (g (H 3 (R [m 21 0,m 22 4,i 23 2 21 22,f 24 0 23,l 25 24,B 26 .eql 25 (-1)] (C 26 (r [m 27 3,o 28 (.bslice 3 1 [k (-1)]),o 29 (.app 3 1 8 (t 27) (t 28)),m 3 29]) (r [m 30 3,m 31 0,m 32 4,i 33 2 31 32,f 34 0 33,l 35 34,m 36 5,b 37 .add 35 36,o 38 (.bslice 3 1 [t 37]),o 39 (.app 3 1 8 (t 30) (t 38)),m 3 39])))) (r [m 19 5,B 20 .add 19 1,m 5 20])))
def aFh:PC:=G [0,3,4] (g (R [m 6 4,m 7 0,n 8 7,b 9 .lss 6 8] (C 9 w (h 0))) (g (H 1 (R [M 5 0] (H 2 aGa))) (r [m 10 4,B 11 .add 10 1,m 4 11])))
def wC:FC:=⟨[0,2,3,4,5],[⟨2,none⟩],R [o 2 (.nilR 3 1)] (R [o 3 (.nilR 3 1)] (g (R [M 4 0] (H 0 aFh)) (R [m 40 3,m 2 40] j)))⟩
def Fu:CO 71 wC 1:=bk f71 ak
def UL:FC:=⟨[0,1,4],[⟨4,none⟩],R [M 4 0] (g (D [m 5 0,m 6 1,B 7 .quo 6 8,o 8 (.idx (t 5) (t 7)),o 9 (.conv (.toInt .i64) (t 8)),m 10 1,B 11 .rem 10 8,c 12 34 [t 11],b 13 .quo 9 12,B 14 .rem 13 2,m 4 14] [[],[],[1],[0,2],[3],[],[5],[6],[4,7],[8],[9,7,0,1,2,3,4,5,6,7,8,9]]) j)⟩
def aj6:CO 72 UL 2:=bk f72 ak
def aGo:PC:=G [0,3,4] (g (R [m 5 4,m 6 0,n 7 6,b 8 .lss 5 7] (C 8 w (h 0))) (g (H 1 (R [m 11 0,m 12 4,i 13 2 11 12,f 14 0 13,l 15 14,B 16 .neq 15 (-1)] (C 16 (r [m 17 3,m 18 0,m 19 4,i 20 2 18 19,f 21 1 20,l 22 21,b 23 .add 17 22,m 3 23]) w))) (r [m 9 4,B 10 .add 9 1,m 4 10])))
def Dn:FC:=⟨[0,2,3,4],[⟨2,none⟩],R [M 2 0] (R [M 3 0] (g (R [M 4 0] (H 0 aGo)) (R [m 24 3,m 2 24] j)))⟩
def Ql:CO 73 Dn 1:=bk f73 ak
def Jy:FC:=⟨[0,1,2,4],[⟨4,none⟩],R [U 2 26 0,M 4 0] (g (R [L 5 11 2,c 6 26 [t 5,k 1]] (C 6 (R [m 7 1,c 8 76 [t 7,k 4096],o 9 (.bin .mul (k 16) (t 8)),m 4 9] j) w)) (R [m 10 1,c 11 76 [t 10,k 256],m 4 11] j))⟩
def aad:CO 74 Jy 2:=bk f74 ak
def Ib:FC:=⟨[0,1,2,3,4,6,7,8,9,10,11],[⟨6,none⟩],R [U 3 23 0,U 4 26 1,M 6 0] (R [f 12 7 4,l 13 12,c 14 71 [t 13],m 15 2,B 16 .mul 15 16,m 17 2,B 18 .add 17 1,B 19 .mul 18 16,o 20 (.slcR 1 (t 14) (some (t 16)) (some (t 19))),m 7 20] (R [L 21 2 3,m 22 7,c 23 81 [t 21,t 22],m 8 23] (g (R [m 24 8,o 25 (.bin .eql (t 24) (Y []))] (C 25 (R [M 6 0] j) w)) (R [m 27 8,c 28 80 [t 27],m 26 28,e 29 26 0,e 30 26 1,m 9 29,m 10 30] (g (R [m 31 10,B 32 .neq 31 0] (C 32 (R [m 33 10,m 6 33] j) w)) (R [f 34 10 4,l 35 34,m 36 2,B 37 .mul 36 4096,b 38 .sub 35 37,o 39 (.mm false (k 4096) (t 38)),o 40 (.mm true (k 0) (t 39)),m 11 40] (g (R [m 41 9,c 42 31 [t 41],m 43 42,Q 43 (m 44 9),Q 43 (m 45 11),Q 43 (o 46 (.slcS (t 44) (some (t 45)) none)),Q 43 (c 47 31 [t 46]),Q 43 (u 48 47),V 49 43 48] (C 49 (R [M 6 19] j) w)) (R [M 6 0] j))))))))⟩
def Vy:CO 75 Ib 3:=bk f75 ak
def Ln:FC:=⟨[0,1,4],[⟨4,none⟩],R [M 4 0] (R [m 5 0,o 6 (.un .neg (t 5)),m 7 1,c 8 122 [t 6,t 7],o 9 (.un .neg (t 8)),m 4 9] j)⟩
def Vd:CO 76 Ln 2:=bk f76 ak
def JM:FC:=⟨[0,1,2,3,4,5],[⟨4,none⟩,⟨5,none⟩],R [U 2 23 0,U 3 26 1,M 4 0,M 5 0] (g (E [f 6 7 3,l 7 6,N 8 7,f 9 1 2,l 10 9,L 11 2 2,c 12 32 [t 11],c 13 123 [t 10,t 12,k 0],N 14 13,m 4 8,m 5 14] [[],[0],[1],[],[3],[],[5],[4,6,6],[7],[2,7,0,1,2],[8,9,0,1,2,3,4,5,6,7,8,9]]) j)⟩
def aaB:CO 77 JM 2:=bk f77 ak
def aER:PC:=G [0,3,4] (g (R [m 5 4,m 6 0,n 7 6,b 8 .lss 5 7] (C 8 w (h 0))) (g (H 1 (r [m 11 3,m 12 0,m 13 4,i 14 1 12 13,l 15 14,c 16 105 [t 15],b 17 .add 11 16,m 3 17])) (r [m 9 4,B 10 .add 9 1,m 4 10])))
def NP:FC:=⟨[0,2,3,4],[⟨2,none⟩],R [M 2 0] (R [M 3 0] (g (R [M 4 0] (H 0 aER)) (R [m 18 3,m 2 18] j)))⟩
def acE:CO 78 NP 1:=bk f78 ak
def R_:FC:=⟨[0,1,2,6],[⟨6,none⟩],R [o 6 (.mv (Y []))] (g (D [m 7 0,m 8 1,o 9 (.slcS (t 7) none (some (t 8))),m 10 2,b 11 .add 9 10,m 12 0,m 13 1,m 14 2,y 15 14,b 16 .add 13 15,o 17 (.slcS (t 12) (some (t 16)) none),b 18 .add 11 17,m 6 18] [[],[],[0,1],[],[2,3],[],[],[],[7],[6,8],[5,9],[4,10],[11,0,1,2,3,4,5,6,7,8,9,10,11]]) j)⟩
def afz:CO 79 R_ 3:=bk f79 ak
def Cc:FC:=⟨[0,2,3,4,5,6,7,8,9],[⟨2,none⟩,⟨3,none⟩],R [o 2 (.mv (Y [])),M 3 0] (g (R [m 10 0,y 11 10,B 12 .gtr 11 4096,m 13 12,Q 13 (m 14 0),Q 13 (y 15 14),Q 13 (B 16 .rem 15 256),Q 13 (B 17 .neq 16 0),V 18 13 17] (C 18 (R [o 2 (.mv (Y [])),M 3 10] j) w)) (g (R [m 19 0,y 20 19,B 21 .eql 20 0] (C 21 (R [c 22 82 [k 4096],m 2 22,M 3 0] j) w)) (g (R [m 23 0,y 24 23,B 25 .eql 24 4096] (C 25 (R [m 26 0,m 2 26,M 3 0] j) w)) (R [m 28 0,c 29 124 [t 28],m 27 29,e 30 27 0,e 31 27 1,e 32 27 2,m 4 30,m 5 31,m 6 32] (g (R [m 33 6,B 34 .neq 33 0] (C 34 (R [m 35 6,o 2 (.mv (Y [])),m 3 35] j) w)) (g (R [m 36 4,u 37 36] (C 37 (R [o 2 (.mv (Y [])),M 3 15] j) w)) (R [m 38 0,c 39 125 [t 38,k 0,k 2],B 40 .rem 39 4096,B 41 .add 40 1,m 7 41] (g (R [m 42 7,m 43 5,y 44 43,b 45 .gtr 42 44] (C 45 (R [o 2 (.mv (Y [])),M 3 10] j) w)) (R [m 47 5,m 48 7,o 49 (.slcS (t 47) none (some (t 48))),c 50 126 [t 49],m 46 50,e 51 46 0,e 52 46 1,m 8 51,m 6 52] (g (R [m 53 6,B 54 .neq 53 0] (C 54 (R [m 55 6,o 2 (.mv (Y [])),m 3 55] j) w)) (R [m 56 8,c 57 127 [t 56],m 9 57] (g (R [m 58 9,y 59 58,B 60 .neq 59 4096] (C 60 (R [o 2 (.mv (Y [])),M 3 10] j) w)) (g (R [m 61 5,m 62 7,o 63 (.slcS (t 61) (some (t 62)) none),c 64 31 [t 63],u 65 64,m 66 65,Q 66 (m 67 5),Q 66 (y 68 67),Q 66 (m 69 7),Q 66 (b 70 .sub 68 69),Q 66 (B 71 .geq 70 256),V 72 66 71] (C 72 (R [o 2 (.mv (Y [])),M 3 3] j) w)) (R [m 73 9,m 2 73,M 3 0] j))))))))))))))⟩
def Ld:CO 80 Cc 1:=bk f80 ak
def aET:PC:=G [1,2,5,6] (g (R [m 7 6,m 8 1,n 9 8,b 10 .lss 7 9] (C 10 w (h 0))) (g (H 1 (R [m 13 1,m 14 6,i 15 1 13 14,l 16 15,B 17 .neq 16 (-1)] (C 17 (D [m 18 5,L 19 2 2,m 20 1,m 21 6,i 22 1 20 21,l 23 22,c 24 33 [t 19,t 23],b 25 .add 18 24,m 5 25] [[],[],[],[],[2,3],[4],[1,5],[0,6],[7,6,0,1,2,3,4,5,6,7]]) w))) (r [m 11 6,B 12 .add 11 1,m 6 12])))
def LI:FC:=⟨[0,1,2,4,5,6],[⟨4,none⟩],R [U 2 23 0,o 4 (.mv (Y []))] (R [o 5 (.mv (Y []))] (g (R [M 6 0] (H 0 aET)) (R [m 26 5,m 4 26] j)))⟩
def aaT:CO 81 LI 2:=bk f81 ak
def Ha:FC:=⟨[0,2],[⟨2,none⟩],R [o 2 (.mv (Y []))] (R [m 3 0,o 4 (.mm false (t 3) (k 200000)),o 5 (.mm true (k 0) (t 4)),o 6 (.mksl 5 1 1 (.int .u8 0) (t 5) (t 5)),o 7 (.conv .bts (t 6)),m 2 7] j)⟩
def Qc:CO 82 Ha 1:=bk f82 ak
def aE8:PC:=D [m 47 12,u 48 47,m 49 48,q 49 (m 50 13),q 49 (u 51 50),P 52 49 51,m 53 52,q 53 (f 54 1 5),q 53 (l 55 54),q 53 (m 56 11),q 53 (c 57 72 [t 55,t 56]),q 53 (m 58 14),q 53 (b 59 .neq 57 58),q 53 (m 60 59),Q 60 (L 61 2 4),Q 60 (m 62 11),Q 60 (c 63 33 [t 61,t 62]),Q 60 (L 64 2 5),Q 60 (m 65 11),Q 60 (c 66 33 [t 64,t 65]),Q 60 (b 67 .neq 63 66),q 53 (V 68 60 67),P 69 53 68] [[],[0],[1],[2],[3,2],[2,4],[5,2],[6],[7,6],[6],[8,9,6,6],[6],[10,11,6],[12,10,6],[13],[13],[14,15,13,13],[13],[13],[17,18,16,13],[16,19,13],[13,20,6],[6,21]]
def aFa:PC:=r [m 70 12,m 71 70,q 71 (m 72 13),q 71 (u 73 72),P 74 71 73,m 75 74,q 75 (f 76 1 5),q 75 (l 77 76),q 75 (m 78 11),q 75 (c 79 72 [t 77,t 78]),q 75 (B 80 .neq 79 0),P 81 75 80,m 82 81,Q 82 (m 83 13),Q 82 (m 84 83),q 84 (f 85 1 5),q 84 (l 86 85),q 84 (m 87 11),q 84 (c 88 72 [t 86,t 87]),q 84 (B 89 .neq 88 1),Q 82 (P 90 84 89),V 91 82 90,m 92 91,Q 92 (m 93 13),Q 92 (m 94 93),q 94 (m 95 12),q 94 (u 96 95),Q 92 (P 97 94 96),Q 92 (m 98 97),q 98 (m 99 14),q 98 (B 100 .neq 99 0),Q 92 (P 101 98 100),V 102 92 101]
def aFm:PC:=G [4,5,9,10,11] (g (R [m 31 11,L 32 2 4,c 33 32 [t 32],b 34 .lss 31 33] (C 34 w (h 0))) (g (H 1 (R [m 37 9,m 38 11,c 39 128 [t 37,t 38],m 40 10,m 41 11,c 42 128 [t 40,t 41],m 12 39,m 13 42] (R [f 43 1 4,l 44 43,m 45 11,c 46 72 [t 44,t 45],m 14 46] (g (g aE8 (C 69 (R [o 8 (.mv F)] j) w)) (g aFa (C 102 (R [o 8 (.mv F)] j) w)))))) (r [m 35 11,B 36 .add 35 1,m 11 36])))
def Kk:FC:=⟨[0,1,2,3,4,5,6,7,8,9,10,11,12,13,14],[⟨8,none⟩],R [U 4 23 0,U 5 23 1,U 6 26 2,U 7 26 3,o 8 (.mv F)] (g (R [f 15 0 4,l 16 15,y 17 16,f 18 0 5,l 19 18,y 20 19,b 21 .neq 17 20,m 22 21,Q 22 (L 23 2 5),Q 22 (c 24 48 [t 23]),Q 22 (B 25 .neq 24 0),V 26 22 25] (C 26 (R [o 8 (.mv F)] j) w)) (g (E [L 27 11 6,c 28 38 [t 27],L 29 11 7,c 30 38 [t 29],m 9 28,m 10 30] [[],[0],[],[2,1],[1,3,0,1],[3,4,0,1,2,3,4]]) (g (R [M 11 0] (H 0 aFm)) (R [o 8 (.mv T)] j))))⟩
def Yh:CO 83 Kk 4:=bk f83 ak
def zW:FC:=⟨[0,1,3],[⟨3,none⟩],R [o 3 (.mv F)] (R [l 4 1,m 5 0,c 6 67 [t 4,t 5],m 7 6,Q 7 (l 8 1),Q 7 (c 9 69 [t 8]),Q 7 (m 10 0),Q 7 (c 11 68 [t 9,t 10]),V 12 7 11,m 3 12] j)⟩
def M1:CO 84 zW 2:=bk f84 ak
def aF6:PC:=G [1,3,4,10,11] (R [b 12 .lss 11 10] (g (C 12 w (h 0)) (g (H 1 (R [m 13 11,m 5 13] (R [f 15 1 1,l 16 15,m 17 4,m 18 5,c 19 129 [t 16,t 17,t 18],m 14 19,e 20 14 0,e 21 14 1,m 6 20,m 7 21] (r [m 22 3,m 23 6,B 24 .eql 23 1,o 25 (.bslice 4 1 [t 24]),o 26 (.app 4 1 1 (t 22) (t 25)),m 3 26])))) (r [B 27 .add 11 1,m 11 27]))))
def Lf:FC:=⟨[0,1,2,3,4,5,6,10,11],[⟨2,none⟩],R [U 1 23 0,o 2 (.nilR 4 1)] (R [o 3 (.nilR 4 1)] (R [L 8 2 1,c 9 94 [t 8],m 4 9] (g (R [m 10 4,M 11 0] (H 0 aF6)) (R [m 28 3,m 2 28] j))))⟩
def Zs:CO 85 Lf 1:=bk f85 ak
def HV:FC:=⟨[0,2],[⟨2,none⟩],R [o 2 (.mv F)] (R [m 3 0,B 4 .eql 3 (-1),m 2 4] j)⟩
def VF:CO 86 HV 1:=bk f86 ak
def aE4:PC:=G [5,16,17,18] (R [b 19 .lss 18 17] (g (C 19 w (h 0)) (g (H 1 (R [m 20 18,i 21 1 16 18,l 22 21,m 6 20,m 7 22] (R [m 23 7] (C 23 (D [m 24 5,m 25 6,B 26 .quo 25 8,i 27 1 24 26,l 28 27,m 29 6,B 30 .rem 29 8,o 31 (.bin .shl (.const (.int .u8 1)) (t 30)),b 32 .or 28 31,i 33 1 24 26,s 1 33 32] [[],[],[1],[0,2],[3],[],[5],[6],[4,7],[0,2,0,1,2,3,4,5,6,7,8],[9,8,0,1,2,3,4,5,6,7,8]]) w)))) (r [B 34 .add 18 1,m 18 34]))))
def J_:FC:=⟨[0,2,3,5,6,7,16,17,18],[⟨2,none⟩],R [o 2 (.mv (Y []))] (R [m 9 0,n 10 9,c 11 130 [t 10],m 8 11,e 12 8 0,e 13 8 1,m 3 12,m 4 13] (R [m 14 3,o 15 (.conv (.stb 5) (t 14)),m 5 15] (g (R [m 16 0,n 17 16,M 18 0] (H 0 aE4)) (R [m 35 5,o 36 (.conv .bts (t 35)),m 2 36] j))))⟩
def aa6:CO 87 J_ 1:=bk f87 ak
def aFc:PC:=D [m 5 0,o 6 (.nilck (t 5)),f 7 0 6,f 8 0 7,l 9 8,m 10 0,o 11 (.nilck (t 10)),f 12 0 11,f 13 1 12,l 14 13,m 15 0,o 16 (.nilck (t 15)),f 17 0 16,f 18 2 17,l 19 18,m 20 0,o 21 (.nilck (t 20)),f 22 0 21,f 23 3 22,l 24 23,m 25 1,o 26 (.build [I 0,.str [],I 0,I 0,.bool false,.str [],I 0,.nil 2,I 0,I 0,I 0] [⟨0,⟨1,t 9⟩⟩,⟨1,⟨1,t 14⟩⟩,⟨2,⟨1,t 19⟩⟩,⟨3,⟨1,t 24⟩⟩,⟨4,⟨1,.const (.bool true)⟩⟩,⟨5,⟨1,t 25⟩⟩]),s 11 4 26] [[],[0],[1],[2],[3],[],[5],[6],[7],[8],[],[10],[11],[12],[13],[],[15],[16],[17],[18],[],[4,9,14,19,20],[21,0,1,2,3,4,5,6,7,8,9,10,11,12,13,14,15,16,17,18,19,20,21]]
def vq:FC:=⟨[0,1,4],[⟨4,some (⟨true,11⟩)⟩],R [o 4 (.alloc 26 (.agg [I 0,.str [],I 0,I 0,.bool false,.str [],I 0,.nil 2,I 0,I 0,I 0]))] (g aFc j)⟩
def Hn:CO 88 vq 2:=bk f88 ak
def aFG:PC:=G [0,1,5,6] (g (R [m 7 6,m 8 1,b 9 .lss 7 8] (C 9 w (h 0))) (g (H 1 (r [m 12 5,m 13 0,m 14 6,c 15 72 [t 13,t 14],b 16 .add 12 15,m 5 16])) (r [m 10 6,B 11 .add 10 1,m 6 11])))
def NX:FC:=⟨[0,1,4,5,6],[⟨4,none⟩],R [M 4 0] (R [M 5 0] (g (R [M 6 0] (H 0 aFG)) (R [m 17 5,m 4 17] j)))⟩
def acw:CO 89 NX 2:=bk f89 ak
def KU:FC:=⟨[0,2],[⟨2,none⟩],R [o 2 (.mv (Y []))] (R [m 3 0,o 4 (.mm true (k 0) (t 3)),c 5 131 [.const (.string (ByteArray.mk (Array.mk [0]))),t 4],m 2 5] j)⟩
def Zn:CO 90 KU 1:=bk f90 ak
def aF8:PC:=E [m 35 0,o 36 (.nilck (t 35)),f 37 0 36,f 38 0 37,l 39 38,m 40 0,o 41 (.nilck (t 40)),f 42 0 41,f 43 1 42,l 44 43,m 45 0,o 46 (.nilck (t 45)),f 47 0 46,f 48 2 47,l 49 48,m 50 0,o 51 (.nilck (t 50)),f 52 0 51,f 53 3 52,l 54 53,m 55 9,c 56 134 [t 55],m 57 9,c 58 135 [t 57],B 59 .mul 58 256,f 60 0 3,l 61 60,y 62 61,f 63 1 3,l 64 63,o 65 (.build [I 0,.str [],I 0,I 0,.bool false,.str [],I 0,.nil 2,I 0,I 0,I 0] [⟨0,⟨1,t 39⟩⟩,⟨1,⟨1,t 44⟩⟩,⟨2,⟨1,t 49⟩⟩,⟨3,⟨1,t 54⟩⟩,⟨7,⟨1,t 56⟩⟩,⟨8,⟨1,t 59⟩⟩,⟨9,⟨1,t 62⟩⟩,⟨10,⟨1,t 64⟩⟩]),o 11 (.alloc 26 (.agg [I 0,.str [],I 0,I 0,.bool false,.str [],I 0,.nil 2,I 0,I 0,I 0])),s 11 11 65] [[],[0],[1],[2],[3],[],[5],[6],[7],[8],[],[10],[11],[12],[13],[],[15],[16],[17],[18],[],[20],[],[22,21],[23],[],[25],[26],[],[28],[4,9,14,19,21,24,27,29],[],[31,30,23,0,1,2,3,4,5,6,7,8,9,10,11,12,13,14,15,16,17,18,19,20,21,22,23,24,25,26,27,28,29,30,31]]
def aE1:PC:=G [4,5,8,9,11,12,83,84,85] (R [b 86 .lss 85 84] (g (C 86 w (h 0)) (g (H 1 (R [m 87 85,i 88 1 83 85,l 89 88,m 13 87,m 14 89] (R [m 90 14,o 91 (.bin .neq (t 90) (Y []))] (C 91 (r [m 92 12,m 93 9,m 94 13,i 95 1 93 94,l 96 95,B 97 .mul 96 256,o 98 (.slcR 1 (t 92) (some (t 97)) none),m 99 14,o 100 (.cpyS (t 98) (t 99))]) w)))) (r [B 101 .add 85 1,m 85 101]))))
def x4:FC:=⟨[0,1,3,4,5,6,7,8,9,10,11,12,13,14,83,84,85],[⟨4,some (⟨true,2⟩)⟩,⟨5,some (⟨true,11⟩)⟩,⟨6,none⟩],R [U 3 97 1,o 4 (.alloc 23 (.agg [.str [],.str []])),o 5 (.alloc 26 (.agg [I 0,.str [],I 0,I 0,.bool false,.str [],I 0,.nil 2,I 0,I 0,I 0])),M 6 0] (R [m 15 0,L 16 3 3,c 17 132 [t 15,t 16],m 7 17] (R [m 18 0,o 19 (.nilck (t 18)),f 20 11 19,L 21 2 20,c 22 85 [t 21],m 8 22] (R [m 24 0,m 25 7,m 26 8,c 27 133 [t 24,t 25,t 26],m 23 27,e 28 23 0,e 29 23 1,m 9 28,m 10 29] (g (R [m 30 10,B 31 .neq 30 0] (C 31 (R [o 32 (.build [.str [],.str []] []),o 33 (.build [I 0,.str [],I 0,I 0,.bool false,.str [],I 0,.nil 2,I 0,I 0,I 0] []),m 34 10,s 2 4 32,s 11 5 33,m 6 34] j) w)) (g aF8 (g (R [f 66 7 11,l 67 66,n 68 67,B 69 .gtr 68 64,m 70 69,Q 70 (L 71 11 11),Q 70 (c 72 96 [t 71]),Q 70 (B 73 .neq 72 0),V 74 70 73] (C 74 (R [o 75 (.build [.str [],.str []] []),o 76 (.build [I 0,.str [],I 0,I 0,.bool false,.str [],I 0,.nil 2,I 0,I 0,I 0] []),s 2 4 75,s 11 5 76,M 6 8] j) w)) (R [m 77 0,o 78 (.nilck (t 77)),f 79 11 78,f 80 0 79,l 81 80,o 82 (.conv (.stb 5) (t 81)),m 12 82] (g (R [m 83 7,n 84 83,M 85 0] (H 0 aE1)) (g (E [m 102 12,o 103 (.conv .bts (t 102)),m 104 8,c 105 87 [t 104],o 106 (.build [.str [],.str []] [⟨0,⟨1,t 103⟩⟩,⟨1,⟨1,t 105⟩⟩]),L 107 11 11,s 2 4 106,s 11 5 107,M 6 0] [[],[0],[],[2],[1,3],[],[4,3,0,1,2,3,4],[5,6,0,1,2,3,4,5,6],[7,0,1,2,3,4,5,6,7]]) j)))))))))⟩
def K_:CO 91 x4 2:=bk f91 ak
def BI:FC:=⟨[0,1,2,3,5],[⟨5,none⟩],R [o 5 (.mv F)] (R [l 6 1,m 7 0,c 8 67 [t 6,t 7],m 9 8,q 9 (L 10 2 2),q 9 (m 11 0),q 9 (l 12 3),q 9 (y 13 12),q 9 (c 14 93 [t 10,t 11,t 13]),q 9 (u 15 14),P 16 9 15,m 5 16] j)⟩
def OY:CO 92 BI 4:=bk f92 ak
def xB:FC:=⟨[0,1,2,3,6],[⟨6,none⟩],R [U 3 92 0,o 6 (.mv F)] (R [f 7 0 3,l 8 7,m 9 1,B 10 .mul 9 256,b 11 .leq 8 10,m 12 11,q 12 (m 13 2),q 12 (m 14 1),q 12 (B 15 .add 14 1),q 12 (B 16 .mul 15 256),q 12 (o 17 (.mm false (t 13) (t 16))),q 12 (f 18 1 3),q 12 (l 19 18),q 12 (b 20 .leq 17 19),P 21 12 20,m 6 21] j)⟩
def Kz:CO 93 xB 3:=bk f93 ak
def zy:FC:=⟨[0,1,2],[⟨2,none⟩],R [U 1 23 0,M 2 0] (R [f 3 0 1,l 4 3,y 5 4,B 6 .quo 5 256,m 2 6] j)⟩
def MV:CO 94 zy 1:=bk f94 ak
def xX:FC:=⟨[0,1,4,5],[⟨4,none⟩],R [M 4 0] (g (R [m 6 1,c 7 136 [t 6,k 0,k 4096],u 8 7] (C 8 (R [M 4 2] j) w)) (g (R [m 9 0,y 10 9,m 11 1,c 12 137 [t 11],b 13 .neq 10 12] (C 13 (R [M 4 10] j) w)) (R [m 14 1,B 15 .rem 14 8,m 5 15] (R [m 16 5,B 17 .eql 16 0,m 18 17,Q 18 (m 19 0),Q 18 (m 20 0),Q 18 (y 21 20),Q 18 (B 22 .sub 21 1),Q 18 (o 23 (.idx (t 19) (t 22))),Q 18 (m 24 5),Q 18 (b 25 .shr 23 24),Q 18 (o 26 (.bin .eql (t 25) (.const (.int .u8 0)))),V 27 18 26,c 28 138 [t 27,k 3],m 4 28] j))))⟩
def JV:CO 95 xX 2:=bk f95 ak
def qn:FC:=⟨[0,1,2,3],[⟨2,none⟩],R [U 1 26 0,M 2 0] (g (D [f 4 0 1,l 5 4,c 6 141 [t 5],c 7 140 [t 6,k 15],f 8 1 1,l 9 8,c 10 142 [t 9],f 11 2 1,l 12 11,c 13 143 [t 12,k 0,k 65535],m 14 13,q 14 (f 15 3 1),q 14 (l 16 15),q 14 (c 17 143 [t 16,k 0,k 7]),P 18 14 17,c 19 140 [t 18,k 2],o 20 (.bslP 33 1 [t 7,t 10,t 19]),c 21 139 [t 20],m 3 21] [[],[0],[1],[2,2],[],[4],[5,3],[],[7],[8,6],[9,9],[10],[11,10],[12,10,10],[10,13],[14,13],[3,6,15],[16,15],[17,17,0,1,2,3,4,5,6,7,8,9,10,11,12,13,14,15,16,17]]) (g (R [m 22 3,B 23 .neq 22 0] (C 23 (R [m 24 3,m 2 24] j) w)) (g (R [f 25 4 1,l 26 25] (C 26 (r [L 27 11 1,c 28 144 [t 27],m 3 28]) (r [L 29 11 1,c 30 145 [t 29],m 3 30]))) (g (R [m 31 3,B 32 .neq 31 0] (C 32 (R [m 33 3,m 2 33] j) w)) (R [L 34 11 1,c 35 146 [t 34],y 36 35,B 37 .leq 36 440,c 38 140 [t 37,k 16],m 2 38] j)))))⟩
def Bp:CO 96 qn 1:=bk f96 ak
def aFz:PC:=G [3,5,7,8,9,14,15] (R [b 16 .lss 15 14] (g (C 16 w (h 2)) (g (H 3 (R [m 17 15,m 6 17] (g (R [f 18 0 5,l 19 18,B 20 .eql 19 (-1)] (C 20 (R [m 21 3,o 22 (.bslice 3 1 [k (-1)]),o 23 (.app 3 1 8 (t 21) (t 22)),m 3 23] (h 3)) w)) (r [m 24 3,f 25 0 5,l 26 25,m 27 6,b 28 .add 26 27,o 29 (.bslice 3 1 [t 28]),o 30 (.app 3 1 8 (t 24) (t 29)),m 3 30])))) (r [B 31 .add 15 1,m 15 31]))))
def aGd:PC:=G [3,7,8,9] (R [b 10 .lss 9 8] (g (C 10 w (h 0)) (g (H 1 (R [i 11 2 7 9,L 12 2 11,o 5 (.alloc 28 (.agg [I 0,I 0])),s 2 5 12] (R [f 13 1 5,l 14 13,M 15 0] (H 2 aFz)))) (r [B 32 .add 9 1,m 9 32]))))
def DC:FC:=⟨[0,2,3,5,6,7,8,9,14,15],[⟨2,none⟩],R [o 2 (.nilR 3 1)] (R [o 3 (.nilR 3 1)] (g (R [m 7 0,n 8 7,M 9 0] (H 0 aGd)) (R [m 33 3,m 2 33] j)))⟩
def QY:CO 97 DC 1:=bk f97 ak
def B3:FC:=⟨[0,1,2,3,4],[⟨2,none⟩],R [U 1 26 0,M 2 0] (R [M 3 3] (R [f 5 0 1,l 6 5,B 7 .neq 6 128,m 8 7,Q 8 (f 9 3 1),Q 8 (l 10 9),Q 8 (B 11 .and 10 4),Q 8 (B 12 .neq 11 0),V 13 8 12,m 14 13,Q 14 (f 15 3 1),Q 14 (l 16 15),Q 14 (m 17 3),Q 14 (b 18 .and 16 17),Q 14 (m 19 3),Q 14 (b 20 .eql 18 19),V 21 14 20,m 4 21] (g (D [L 22 11 1,c 23 96 [t 22],m 24 4,u 25 24,c 26 59 [t 25,k 15],f 27 6 1,l 28 27,B 29 .eql 28 0,c 30 59 [t 29,k 20],f 31 9 1,l 32 31,B 33 .leq 32 32768,c 34 59 [t 33,k 2],o 35 (.bslP 33 1 [t 23,t 26,t 30,t 34]),c 36 58 [t 35],m 2 36] [[],[0],[],[2],[3,1],[],[5],[6],[7,4],[],[9],[10],[11,8],[1,4,8,12],[13,12],[14,14,0,1,2,3,4,5,6,7,8,9,10,11,12,13,14]]) j)))⟩
def OK:CO 98 B3 1:=bk f98 ak
def JA:FC:=⟨[0,2],[⟨2,none⟩],R [o 2 (.mv F)] (R [o 3 (.bslice 3 1 [k 16,k 32,k 48,k 64,k 96,k 112,k 128,k 144,k 160,k 176,k 192]),m 4 0,c 5 128 [t 3,t 4],m 2 5] j)⟩
def Z3:CO 99 JA 1:=bk f99 ak
def tQ:FC:=⟨[0,2],[⟨2,none⟩],R [o 2 (.mv F)] (R [m 3 0,o 4 (.bin .eql (t 3) (Y [])),m 5 4,Q 5 (m 6 0),Q 5 (c 7 147 [t 6]),Q 5 (B 8 .eql 7 0),V 9 5 8,m 2 9] j)⟩
def E7:CO 100 tQ 1:=bk f100 ak
def EB:FC:=⟨[0,1,2,3,4],[⟨2,none⟩],R [U 1 26 0,M 2 0] (g (R [f 5 0 1,l 6 5,c 7 148 [t 6]] (C 7 (R [M 2 20] j) w)) (g (R [f 8 5 1,l 9 8,o 10 (.bin .neq (t 9) (Y []))] (C 10 (R [M 2 3] j) w)) (g (R [f 11 6 1,l 12 11,c 13 15 [t 12,k 0,k 4096],u 14 13] (C 14 (R [M 2 2] j) w)) (g (R [f 15 7 1,l 16 15,c 17 149 [t 16],m 3 17] (R [m 18 3,B 19 .neq 18 0] (C 19 (R [m 20 3,m 2 20] j) w))) (g (R [f 21 6 1,l 22 21,B 23 .gtr 22 0,m 24 23,q 24 (f 25 7 1),q 24 (l 26 25),q 24 (n 27 26),q 24 (B 28 .eql 27 0),P 29 24 28] (C 29 (R [M 2 17] j) w)) (g (g (D [f 30 6 1,l 31 30,f 32 7 1,l 33 32,c 34 56 [t 33],b 35 .add 31 34,B 36 .gtr 35 4096] [[],[0],[],[2],[3],[1,4],[5]]) (C 36 (R [M 2 8] j) w)) (g (R [f 37 6 1,l 38 37,B 39 .gtr 38 0,m 40 39,q 40 (f 41 8 1),q 40 (l 42 41),q 40 (B 43 .neq 42 0),q 40 (m 44 43),Q 44 (f 45 9 1),Q 44 (l 46 45),Q 44 (B 47 .neq 46 0),q 40 (V 48 44 47),q 40 (m 49 48),Q 49 (f 50 10 1),Q 49 (l 51 50),Q 49 (B 52 .neq 51 0),q 40 (V 53 49 52),P 54 40 53] (C 54 (R [M 2 3] j) w)) (R [M 4 1048576] (g (R [f 55 8 1,l 56 55,m 57 4,c 58 15 [t 56,k 0,t 57],u 59 58,m 60 59,Q 60 (f 61 9 1),Q 60 (l 62 61),Q 60 (m 63 4),Q 60 (c 64 15 [t 62,k 0,t 63]),Q 60 (u 65 64),V 66 60 65,m 67 66,Q 67 (f 68 10 1),Q 67 (l 69 68),Q 67 (m 70 4),Q 67 (c 71 15 [t 69,k 0,t 70]),Q 67 (u 72 71),V 73 67 72] (C 73 (R [M 2 2] j) w)) (g (R [f 74 10 1,l 75 74,f 76 9 1,l 77 76,b 78 .gtr 75 77] (C 78 (R [M 2 9] j) w)) (R [M 2 0] j)))))))))))⟩
def TZ:CO 101 EB 1:=bk f101 ak
def zV:FC:=⟨[0,1,2],[⟨2,none⟩],R [U 1 26 0,M 2 0] (g (R [f 3 7 1,l 4 3,n 5 4,B 6 .gtr 5 0,m 7 6,Q 7 (f 8 6 1),Q 7 (l 9 8),Q 7 (B 10 .neq 9 0),V 11 7 10,m 12 11,Q 12 (f 13 8 1),Q 12 (l 14 13),Q 12 (B 15 .neq 14 0),V 16 12 15,m 17 16,Q 17 (f 18 9 1),Q 17 (l 19 18),Q 17 (B 20 .neq 19 0),V 21 17 20,m 22 21,Q 22 (f 23 10 1),Q 22 (l 24 23),Q 22 (B 25 .neq 24 0),V 26 22 25] (C 26 (R [M 2 3] j) w)) (g (R [f 27 5 1,l 28 27,y 29 28,B 30 .gtr 29 400] (C 30 (R [M 2 8] j) w)) (R [M 2 0] j)))⟩
def Ni:CO 102 zV 1:=bk f102 ak
def KX:FC:=⟨[0,1,2,3,4,5,6,7,8],[⟨2,none⟩],R [U 1 26 0,o 2 (.mv (Y []))] (g (D [f 9 5 1,l 10 9,M 3 24,m 4 10] [[],[0],[],[1,2,0,1,2]]) (g (R [f 11 4 1,l 12 11,u 13 12] (C 13 (r [f 14 7 1,l 15 14,c 16 150 [t 15],M 3 40,m 4 16]) w)) (R [m 17 3,f 18 1 1,l 19 18,y 20 19,b 21 .add 17 20,c 22 76 [t 21,k 8],o 23 (.bin .mul (k 8) (t 22)),m 5 23] (g (D [f 24 4 1,l 25 24,u 26 25,c 27 105 [t 26],c 28 151 [t 27,k 1],f 29 1 1,l 30 29,y 31 30,c 32 151 [t 31,k 1],b 33 .add 28 32,m 34 3,c 35 151 [t 34,k 2],b 36 .add 33 35,f 37 3 1,l 38 37,c 39 151 [t 38,k 2],b 40 .add 36 39,f 41 2 1,l 42 41,c 43 151 [t 42,k 2],b 44 .add 40 43,m 6 44] [[],[0],[1],[2],[3,3],[],[5],[6],[7,4],[4,8],[],[10,8],[9,11],[],[13],[14,11],[12,15],[],[17],[18,15],[16,19],[20,19,0,1,2,3,4,5,6,7,8,9,10,11,12,13,14,15,16,17,18,19,20]]) (g (R [f 45 4 1,l 46 45] (C 46 (r [m 47 6,f 48 5 1,l 49 48,y 50 49,c 51 151 [t 50,k 4],b 52 .add 47 51,m 53 5,c 54 151 [t 53,k 4],b 55 .add 52 54,m 6 55]) (g (D [f 56 6 1,l 57 56,f 58 7 1,l 59 58,c 60 56 [t 59],b 61 .add 57 60,B 62 .sub 61 1,c 63 28 [t 62,k 4294967296],m 7 63] [[],[0],[],[2],[3],[1,4],[5],[6,4],[7,7,0,1,2,3,4,5,6,7]]) (D [m 64 6,f 65 6 1,l 66 65,c 67 151 [t 66,k 4],b 68 .add 64 67,m 69 7,c 70 151 [t 69,k 4],b 71 .add 68 70,m 72 5,c 73 151 [t 72,k 2],b 74 .add 71 73,c 75 82 [k 2],b 76 .add 74 75,f 77 8 1,l 78 77,c 79 151 [t 78,k 4],b 80 .add 76 79,f 81 9 1,l 82 81,c 83 151 [t 82,k 4],b 84 .add 80 83,f 85 10 1,l 86 85,c 87 151 [t 86,k 4],b 88 .add 84 87,m 6 88] [[],[],[1],[2],[0,3],[],[5,3],[4,6],[],[8,6],[7,9],[9],[10,11],[],[13],[14,11],[12,15],[],[17],[18,15],[16,19],[],[21],[22,19],[20,23],[24,23,0,1,2,3,4,5,6,7,8,9,10,11,12,13,14,15,16,17,18,19,20,21,22,23,24]])))) (g (D [m 89 6,f 90 1 1,l 91 90,b 92 .add 89 91,m 93 5,m 94 3,b 95 .sub 93 94,f 96 1 1,l 97 96,y 98 97,b 99 .sub 95 98,c 100 82 [t 99],b 101 .add 92 100,m 102 4,b 103 .add 101 102,c 104 152 [t 103],o 105 (.bin .add (t 104) (Y [])),m 6 105] [[],[],[1],[0,2],[],[],[4,5],[],[7],[8],[6,9],[10],[3,11],[],[12,13],[14,11],[15],[16,15,0,1,2,3,4,5,6,7,8,9,10,11,12,13,14,15,16]]) (R [m 106 6,y 107 106,B 108 .add 107 8,c 109 76 [t 108,k 8],o 110 (.bin .mul (k 8) (t 109)),m 8 110] (R [f 111 0 1,l 112 111,c 113 151 [t 112,k 4],m 114 8,c 115 151 [t 114,k 4],b 116 .add 113 115,m 117 6,b 118 .add 116 117,m 2 118] j))))))))⟩
def abI:CO 103 KX 1:=bk f103 ak
def az6:PC:=G [0,6] (g (R [m 18 6,m 19 0,y 20 19,o 21 (.bin .mul (k 8) (t 20)),b 22 .lss 18 21] (C 22 w (h 0))) (g (H 1 (R [m 25 0,m 26 6,c 27 72 [t 25,t 26],B 28 .neq 27 0] (C 28 (R [M 4 3] j) w))) (r [m 23 6,B 24 .add 23 1,m 6 24])))
def UP:FC:=⟨[0,1,4,5,6],[⟨4,none⟩],R [M 4 0] (g (R [m 7 1,c 8 153 [t 7],m 5 8] (R [m 9 5,B 10 .neq 9 0] (C 10 (R [m 11 5,m 4 11] j) w))) (g (R [m 12 0,y 13 12,m 14 1,c 15 76 [t 14,k 8],b 16 .neq 13 15] (C 16 (R [M 4 10] j) w)) (g (R [m 17 1,m 6 17] (H 0 az6)) (R [M 4 0] j))))⟩
def ah9:CO 104 UP 2:=bk f104 ak
def Pq:FC:=⟨[0,2],[⟨2,none⟩],R [M 2 0] (g (R [m 3 0] (C 3 (R [M 2 1] j) w)) (R [M 2 0] j))⟩
def aaz:CO 105 Pq 1:=bk f105 ak
def aBx:PC:=G [0,1,5,6] (g (R [m 7 6,m 8 0,n 9 8,b 10 .lss 7 9] (C 10 w (h 0))) (g (H 1 (g (R [m 13 0,m 14 6,i 15 1 13 14,l 16 15,m 17 1,b 18 .neq 16 17] (C 18 (h 1) w)) (R [m 19 6,B 20 .gtr 19 0,m 21 20,q 21 (m 22 0),q 21 (m 23 6),q 21 (B 24 .sub 23 1),q 21 (i 25 1 22 24),q 21 (l 26 25),q 21 (m 27 1),q 21 (b 28 .eql 26 27),P 29 21 28] (C 29 (r [m 30 5,m 31 5,n 32 31,B 33 .sub 32 1,i 34 2 30 33,f 35 1 34,l 36 35,B 37 .add 36 1,i 38 2 30 33,f 39 1 38,s 1 39 37]) (r [m 40 5,m 41 6,o 42 (.build [I 0,I 0] [⟨0,⟨1,t 41⟩⟩,⟨1,⟨1,k 1⟩⟩]),o 43 (.bslice 28 2 [t 42]),o 44 (.app 28 2 16 (t 40) (t 43)),m 5 44]))))) (r [m 11 6,B 12 .add 11 1,m 6 12])))
def JL:FC:=⟨[0,1,4,5,6],[⟨4,none⟩],R [o 4 (.nilR 28 2)] (R [o 5 (.nilR 28 2)] (g (R [M 6 0] (H 0 aBx)) (R [m 45 5,m 4 45] j)))⟩
def Yj:CO 106 JL 2:=bk f106 ak
def tP:FC:=⟨[0,1,4],[⟨4,none⟩],R [o 4 (.mv (Y []))] (R [m 5 0,o 6 (.nilck (t 5)),f 7 11 6,f 8 0 7,l 9 8,m 10 1,B 11 .mul 10 256,m 12 1,B 13 .add 12 1,B 14 .mul 13 256,o 15 (.slcS (t 9) (some (t 11)) (some (t 14))),m 4 15] j)⟩
def Fk:CO 109 tP 2:=bk f109 ak
def aCl:PC:=G [0,1,5,6] (g (R [m 7 6,m 8 1,b 9 .lss 7 8] (C 9 w (h 0))) (g (H 1 (r [m 12 5,m 13 0,m 14 6,c 15 72 [t 13,t 14],o 16 (.bslice 3 1 [t 15]),o 17 (.app 3 1 8 (t 12) (t 16)),m 5 17])) (r [m 10 6,B 11 .add 10 1,m 6 11])))
def Hf:FC:=⟨[0,1,4,5,6],[⟨4,none⟩],R [o 4 (.nilR 3 1)] (R [o 5 (.nilR 3 1)] (g (R [M 6 0] (H 0 aCl)) (R [m 18 5,m 4 18] j)))⟩
def R2:CO 111 Hf 2:=bk f111 ak
def aAd:PC:=G [0,3,22,23,24] (R [b 25 .lss 24 23] (g (C 25 w (h 0)) (g (H 1 (R [i 26 1 22 24,l 27 26,m 5 27] (R [m 28 5,c 29 86 [t 28],u 30 29] (C 30 (g (D [m 32 0,o 33 (.nilck (t 32)),f 34 11 33,f 35 1 34,l 36 35,l 37 3,m 38 5,c 39 129 [t 36,t 37,t 38],m 31 39,e 40 31 0,e 41 31 1,m 6 40,m 7 41] [[],[0],[1],[2],[3],[],[],[4,5,6],[7],[8],[8],[9,7,0,1,2,3,4,5,6,7,8,9],[10,11,0,1,2,3,4,5,6,7,8,9,10,11]]) (R [m 42 6,B 43 .eql 42 0] (C 43 (R [M 2 14] j) w))) w)))) (r [B 44 .add 24 1,m 24 44]))))
def rq:FC:=⟨[0,2,3,5,6,22,23,24],[⟨2,none⟩],R [M 2 0] (R [m 8 0,o 9 (.nilck (t 8)),f 10 11 9,L 11 2 10,c 12 94 [t 11],o 3 (.alloc 3 (.int .i64 0)),s 1 3 12] (g (R [m 13 0,o 14 (.nilck (t 13)),f 15 13 14,l 16 15,o 17 (.mkf 162 [t 3]),c 18 161 [t 16,t 17]] (C 18 (R [M 2 2] j) w)) (g (R [m 19 0,o 20 (.nilck (t 19)),f 21 13 20,l 22 21,n 23 22,M 24 0] (H 0 aAd)) (R [M 2 0] j))))⟩
def CD:CO 113 rq 1:=bk f113 ak
def aBY:PC:=G [3,71,72,73] (R [b 74 .lss 73 72] (g (C 74 w (h 1)) (g (H 2 (R [i 75 1 71 73,l 76 75,m 5 76] (R [m 77 5,c 78 164 [t 77,k (-1)],m 6 78] (r [m 79 3,m 80 79,q 80 (m 81 6),q 80 (B 82 .lss 81 0),q 80 (m 83 82),Q 83 (m 84 5),Q 83 (m 85 6),Q 83 (o 86 (.slcR 1 (t 84) (some (t 85)) none)),Q 83 (c 87 135 [t 86]),Q 83 (B 88 .eql 87 0),q 80 (V 89 83 88),P 90 80 89,m 3 90])))) (r [B 91 .add 73 1,m 73 91]))))
def aBm:PC:=D [m 19 3,m 20 19,q 20 (m 21 0),q 20 (o 22 (.nilck (t 21))),q 20 (f 23 13 22),q 20 (l 24 23),q 20 (N 25 24),q 20 (m 26 0),q 20 (o 27 (.nilck (t 26))),q 20 (f 28 0 27),q 20 (f 29 9 28),q 20 (l 30 29),q 20 (c 31 163 [t 30,k 256]),q 20 (b 32 .eql 25 31),P 33 20 32,m 34 33,q 34 (m 35 0),q 34 (c 36 165 [t 35]),q 34 (m 37 36),Q 37 (m 38 0),Q 37 (o 39 (.nilck (t 38))),Q 37 (f 40 13 39),Q 37 (l 41 40),Q 37 (c 42 135 [t 41]),Q 37 (m 43 0),Q 37 (o 44 (.nilck (t 43))),Q 37 (f 45 13 44),Q 37 (l 46 45),Q 37 (N 47 46),Q 37 (b 48 .eql 42 47),q 34 (V 49 37 48),P 50 34 49,m 3 50] [[],[0],[1],[2,1],[3,1],[4,1],[5,1],[1],[7,1],[8,1],[9,1],[10,1],[11,1,1],[6,12,1],[1,13],[14,12],[15],[16,15,15],[17,17,15],[18],[19,18],[20,18],[21,18],[22,18,18],[18],[24,18],[25,18],[26,18],[27,18],[23,28,18],[18,29,15],[15,30],[31,23,0,1,2,3,4,5,6,7,8,9,10,11,12,13,14,15,16,17,18,19,20,21,22,23,24,25,26,27,28,29,30,31]]
def r7:FC:=⟨[0,2,3,5,6,71,72,73],[⟨2,none⟩],R [M 2 0] (g (D [m 7 0,o 8 (.nilck (t 7)),f 9 0 8,f 10 8 9,l 11 10,m 12 0,o 13 (.nilck (t 12)),f 14 13 13,l 15 14,c 16 135 [t 15],B 17 .mul 16 256,b 18 .eql 11 17,m 3 18] [[],[0],[1],[2],[3],[],[5],[6],[7],[8],[9],[4,10],[11,9,0,1,2,3,4,5,6,7,8,9,10,11]]) (g (H 0 (R [m 52 0,c 53 115 [t 52],m 51 53] (C 51 (g (D [m 54 3,m 55 54,q 55 (m 56 0),q 55 (o 57 (.nilck (t 56))),q 55 (f 58 13 57),q 55 (l 59 58),q 55 (N 60 59),q 55 (m 61 0),q 55 (o 62 (.nilck (t 61))),q 55 (f 63 0 62),q 55 (f 64 9 63),q 55 (l 65 64),q 55 (c 66 163 [t 65,k 4096]),q 55 (B 67 .mul 66 16),q 55 (b 68 .eql 60 67),P 69 55 68,m 3 69] [[],[0],[1],[2,1],[3,1],[4,1],[5,1],[1],[7,1],[8,1],[9,1],[10,1],[11,1,1],[12,1],[6,13,1],[1,14],[15,12,0,1,2,3,4,5,6,7,8,9,10,11,12,13,14,15]]) (R [m 70 0,c 71 118 [t 70],n 72 71,M 73 0] (H 1 aBY))) aBm))) (R [m 92 3,c 93 59 [t 92,k 3],m 2 93] j)))⟩
def Ei:CO 114 r7 1:=bk f114 ak
def oS:FC:=⟨[0,2],[⟨2,none⟩],R [o 2 (.mv F)] (R [m 3 0,o 4 (.nilck (t 3)),f 5 0 4,f 6 3 5,l 7 6,B 8 .and 7 1,B 9 .neq 8 0,m 2 9] j)⟩
def yF:CO 115 oS 1:=bk f115 ak
def aCx:PC:=G [0,10,11,12] (R [b 13 .lss 12 11] (g (C 13 w (h 0)) (g (H 1 (R [m 14 12,i 15 1 10 12,l 16 15,m 3 14,m 4 16] (R [m 18 0,m 19 4,c 20 120 [t 18,t 19],c 21 119 [t 20],m 17 21,e 22 17 0,e 23 17 1,m 5 22,m 6 23] (g (R [m 24 6,B 25 .neq 24 0] (C 25 (R [m 26 6,m 2 26] j) w)) (R [m 27 4,c 28 135 [t 27],B 29 .gtr 28 0,m 30 29,q 30 (m 31 5),q 30 (c 32 90 [k 4096]),q 30 (b 33 .eql 31 32),P 34 30 33,m 7 34] (R [m 35 0,o 36 (.nilck (t 35)),f 37 0 36,f 38 10 37,l 39 38,m 40 3,B 41 .mul 40 4096,b 42 .sub 39 41,o 43 (.mm true (k 0) (t 42)),o 44 (.mm false (t 43) (k 4096)),m 8 44] (g (D [m 45 7,m 46 45,Q 46 (m 47 5),Q 46 (m 48 8),Q 46 (o 49 (.slcS (t 47) (some (t 48)) none)),Q 46 (m 50 8),Q 46 (o 51 (.bin .sub (k 4096) (t 50))),Q 46 (c 52 90 [t 51]),Q 46 (b 53 .neq 49 52),V 54 46 53] [[],[0],[1],[1],[2,3,1],[1],[5,1],[6,1,1],[4,7,1],[1,8]]) (C 54 (R [M 2 19] j) w)))))))) (r [B 55 .add 12 1,m 12 55]))))
def sm:FC:=⟨[0,2,3,4,5,6,7,8,10,11,12],[⟨2,none⟩],R [M 2 0] (g (R [m 9 0,c 10 118 [t 9],n 11 10,M 12 0] (H 0 aCx)) (R [M 2 0] j))⟩
def DR:CO 116 sm 1:=bk f116 ak
def Ic:FC:=⟨[0,1,2,6],[⟨6,none⟩],R [o 6 (.mv F)] (R [m 7 1,m 8 0,b 9 .leq 7 8,m 10 9,q 10 (m 11 0),q 10 (m 12 2),q 10 (b 13 .leq 11 12),P 14 10 13,m 6 14] j)⟩
def VT:CO 117 Ic 3:=bk f117 ak
def vW:FC:=⟨[0,2],[⟨2,none⟩],R [o 2 (.nilR 63 1)] (R [m 3 0,o 4 (.nilck (t 3)),f 5 13 4,l 6 5,c 7 167 [t 6,k 16],c 8 166 [t 7],m 2 8] j)⟩
def IL:CO 118 vW 1:=bk f118 ak
def aCu:PC:=D [m 60 8,y 61 60,B 62 .eql 61 4096,c 63 171 [t 62,k 10],m 64 0,m 65 9,o 66 (.slcS (t 64) (some (t 65)) none),m 67 0,y 68 67,m 69 9,b 70 .sub 68 69,c 71 168 [t 70],b 72 .eql 66 71,m 73 72,q 73 (m 74 9),q 73 (c 75 174 [t 74]),q 73 (m 76 0),q 73 (y 77 76),q 73 (B 78 .quo 77 256),q 73 (b 79 .eql 75 78),P 80 73 79,c 81 171 [t 80,k 3],o 82 (.bslP 33 1 [t 63,t 81]),c 83 170 [t 82],m 6 83] [[],[0],[1],[2],[],[],[4,5],[],[7],[],[8,9],[10,3],[6,11],[12,11],[13],[14,13,13],[13],[16,13],[17,13],[15,18,13],[13,19],[20,15],[3,21],[22,21],[23,23,0,1,2,3,4,5,6,7,8,9,10,11,12,13,14,15,16,17,18,19,20,21,22,23]]
def wb:FC:=⟨[0,2,3,4,5,6,7,8,9,20],[⟨2,none⟩,⟨3,none⟩],R [o 2 (.mv (Y [])),M 3 0] (g (R [m 10 0,y 11 10,B 12 .gtr 11 4096,m 13 12,Q 13 (m 14 0),Q 13 (y 15 14),Q 13 (B 16 .rem 15 256),Q 13 (B 17 .neq 16 0),V 18 13 17] (C 18 (R [o 2 (.mv (Y [])),M 3 10] j) w)) (g (R [m 19 0,y 20 19] (H 0 (R [B 22 .eql 20 0,m 21 22] (C 21 (R [c 23 168 [k 4096],m 2 23,M 3 0] j) (R [B 25 .eql 20 4096,m 24 25] (C 24 (R [m 26 0,m 2 26,M 3 0] j) w)))))) (R [m 28 0,c 29 169 [t 28,.const (.bool false)],m 27 29,e 30 27 0,e 31 27 1,e 32 27 2,m 4 30,m 5 31,m 6 32] (g (R [m 33 6,B 34 .eql 33 0,m 35 34,Q 35 (m 36 6),Q 35 (B 37 .eql 36 10),V 38 35 37] (C 38 (r [m 39 5,c 40 171 [t 39,k 15],m 41 6,o 42 (.bslice 33 1 [t 40,t 41]),c 43 170 [t 42],m 6 43]) w)) (g (R [m 44 6,B 45 .neq 44 0] (C 45 (R [m 46 6,o 2 (.mv (Y [])),m 3 46] j) w)) (R [m 48 4,c 49 172 [t 48],m 47 49,e 50 47 0,e 51 47 1,m 7 50,m 6 51] (g (R [m 52 6,B 53 .neq 52 0] (C 53 (R [m 54 6,o 2 (.mv (Y [])),m 3 54] j) w)) (R [m 55 7,c 56 173 [t 55],m 8 56] (R [m 57 4,y 58 57,o 59 (.bin .add (k 2) (t 58)),m 9 59] (g aCu (g (R [m 84 6,B 85 .neq 84 0] (C 85 (R [m 86 6,o 2 (.mv (Y [])),m 3 86] j) w)) (R [m 87 8,m 2 87,M 3 0] j))))))))))))⟩
def I4:CO 119 wb 1:=bk f119 ak
def aBq:PC:=G [0,5,8,9,10] (R [b 11 .lss 10 9] (g (C 11 w (h 0)) (g (H 1 (R [i 12 1 8 10,l 13 12,m 7 13] (R [m 14 7,B 15 .neq 14 (-1)] (C 15 (r [m 16 5,m 17 0,m 18 7,c 19 109 [t 17,t 18],b 20 .add 16 19,m 5 20]) w)))) (r [B 21 .add 10 1,m 10 21]))))
def va:FC:=⟨[0,1,4,5,7,8,9,10],[⟨4,none⟩],R [o 4 (.mv (Y []))] (R [o 5 (.mv (Y []))] (g (R [m 8 1,n 9 8,M 10 0] (H 0 aBq)) (R [m 22 5,m 4 22] j)))⟩
def HP:CO 120 va 2:=bk f120 ak
def v7:FC:=⟨[0,1,4],[⟨4,none⟩],R [o 4 (.mv (Y []))] (g (D [m 5 1,m 6 1,y 7 6,m 8 0,o 9 (.nilck (t 8)),f 10 0 9,f 11 10 10,l 12 11,o 13 (.mm false (t 7) (t 12)),o 14 (.slcS (t 5) none (some (t 13))),m 15 0,o 16 (.nilck (t 15)),f 17 0 16,f 18 9 17,l 19 18,c 20 62 [t 14,t 19],m 21 0,o 22 (.nilck (t 21)),f 23 0 22,f 24 9 23,l 25 24,o 26 (.slcS (t 20) none (some (t 25))),m 4 26] [[],[],[1],[],[3],[4],[5],[6],[2,7],[0,8],[],[10],[11],[12],[13],[9,14],[],[16],[17],[18],[19],[15,20],[21,15,0,1,2,3,4,5,6,7,8,9,10,11,12,13,14,15,16,17,18,19,20,21]]) j)⟩
def IS:CO 121 v7 2:=bk f121 ak
def QD:FC:=⟨[0,1,4,5],[⟨4,none⟩],R [M 4 0] (R [m 6 0,m 7 1,b 8 .quo 6 7,m 5 8] (g (R [m 9 0,m 10 1,b 11 .rem 9 10,B 12 .lss 11 0] (C 12 (r [m 13 5,B 14 .sub 13 1,m 5 14]) w)) (R [m 15 5,m 4 15] j)))⟩
def aeZ:CO 122 QD 2:=bk f122 ak
def y3:FC:=⟨[0,1,2,6],[⟨6,none⟩],R [o 6 (.nilR 28 2)] (R [m 7 0,m 8 1,c 9 111 [t 7,t 8],m 10 2,c 11 106 [t 9,t 10],m 6 11] j)⟩
def Wp:CO 123 y3 3:=bk f123 ak
def NH:FC:=⟨[0,2,3,4,5],[⟨2,none⟩,⟨3,none⟩,⟨4,none⟩],R [o 2 (.mv F),o 3 (.mv (Y [])),M 4 0] (g (R [m 6 0,y 7 6,B 8 .lss 7 2] (C 8 (R [o 2 (.mv F),o 3 (.mv (Y [])),M 4 14] j) w)) (R [m 9 0,c 10 125 [t 9,k 0,k 2],m 5 10] (g (R [m 11 5,B 12 .quo 11 4096,B 13 .rem 12 8,B 14 .neq 13 3] (C 14 (R [o 2 (.mv F),o 3 (.mv (Y [])),M 4 3] j) w)) (g (D [m 15 5,B 16 .geq 15 32768,m 17 0,o 18 (.slcS (t 17) (some (k 2)) none),m 2 16,m 3 18,M 4 0] [[],[0],[],[2],[1,0,1],[3,4,0,1,2,3,4],[5,0,1,2,3,4,5]]) j))))⟩
def adn:CO 124 NH 1:=bk f124 ak
def aCn:PC:=G [0,1,7,8] (g (R [m 11 8,B 12 .geq 11 0] (C 12 w (h 0))) (g (H 1 (r [m 15 7,B 16 .mul 15 256,m 17 0,m 18 1,m 19 8,b 20 .add 18 19,o 21 (.idx (t 17) (t 20)),o 22 (.conv (.toInt .i64) (t 21)),b 23 .add 16 22,m 7 23])) (r [m 13 8,B 14 .sub 13 1,m 8 14])))
def Iu:FC:=⟨[0,1,2,6,7,8],[⟨6,none⟩],R [M 6 0] (R [M 7 0] (g (R [m 9 2,B 10 .sub 9 1,m 8 10] (H 0 aCn)) (R [m 24 7,m 6 24] j)))⟩
def Wq:CO 125 Iu 3:=bk f125 ak
def aBk:PC:=G [0,4,5,6,7,8] (g (R [m 14 6,m 15 0,y 16 15,b 17 .lss 14 16] (C 17 w (h 0))) (g (H 1 (g (R [m 20 8,B 21 .rem 20 8,B 22 .eql 21 0] (C 22 (R [m 23 0,m 24 6,o 25 (.idx (t 23) (t 24)),o 26 (.conv (.toInt .i64) (t 25)),m 7 26] (R [m 27 6,B 28 .add 27 1,m 6 28] (R [m 29 6,m 30 0,y 31 30,b 32 .eql 29 31] (C 32 (R [o 2 (.nilR 170 3),M 3 14] j) w)))) w)) (R [m 33 7,B 34 .rem 33 2,B 35 .eql 34 1,m 9 35] (R [m 36 7,B 37 .quo 36 2,m 7 37] (R [m 38 0,m 39 6,o 40 (.idx (t 38) (t 39)),o 41 (.conv (.toInt .i64) (t 40)),o 42 (.build [I 0,I 0,I 0] [⟨2,⟨1,t 41⟩⟩]),o 10 (.alloc 170 (.agg [I 0,I 0,I 0])),s 3 10 42] (g (R [m 43 9] (C 43 (g (R [m 44 6,B 45 .add 44 2,m 46 0,y 47 46,b 48 .gtr 45 47] (C 48 (R [o 2 (.nilR 170 3),M 3 14] j) w)) (R [m 49 0,m 50 6,c 51 125 [t 49,t 50,k 2],m 11 51] (R [c 52 34 [k 16],m 12 52] (g (R [m 53 5,B 54 .lss 53 4096] (C 54 (r [m 55 5,c 56 175 [t 55],o 57 (.bin .sub (k 16) (t 56)),c 58 34 [t 57],m 12 58]) w)) (D [m 59 11,m 60 12,b 61 .quo 59 60,B 62 .add 61 1,m 63 11,m 64 12,b 65 .rem 63 64,B 66 .add 65 3,o 67 (.build [I 0,I 0,I 0] [⟨0,⟨1,t 62⟩⟩,⟨1,⟨1,t 66⟩⟩]),s 3 10 67] [[],[],[0,1],[2],[],[],[4,5],[6],[3,7],[8,0,1,2,3,4,5,6,7,8]]))))) w)) (R [m 68 6,B 69 .add 68 1,m 70 9,c 71 105 [t 70],b 72 .add 69 71,m 6 72] (R [m 73 5,L 74 3 10,c 75 176 [t 74],b 76 .add 73 75,m 5 76] (r [m 77 4,L 78 3 10,o 79 (.bslice 170 3 [t 78]),o 80 (.app 170 3 24 (t 77) (t 79)),m 4 80]))))))))) (r [m 18 8,B 19 .add 18 1,m 8 19])))
def Kh:FC:=⟨[0,2,3,4,5,6,7,8,9,10,11,12,13],[⟨2,none⟩,⟨3,none⟩],R [o 2 (.nilR 170 3),M 3 0] (R [o 4 (.nilR 170 3)] (R [M 5 0,M 6 0,M 7 0] (g (R [M 8 0] (H 0 aBk)) (g (R [m 81 7,B 82 .neq 81 0] (C 82 (R [o 2 (.nilR 170 3),M 3 3] j) w)) (g (R [m 83 4,c 84 177 [t 83],m 13 84] (R [m 85 13,B 86 .neq 85 0] (C 86 (R [m 87 13,o 2 (.nilR 170 3),m 3 87] j) w))) (R [m 88 4,m 2 88,M 3 0] j))))))⟩
def ZT:CO 126 Kh 1:=bk f126 ak
def aAS:PC:=G [0,3,4,5] (g (R [m 27 5,m 28 0,m 29 4,i 30 3 28 29,f 31 1 30,l 32 31,b 33 .lss 27 32] (C 33 w (h 2))) (g (H 3 (r [m 36 3,m 37 3,m 38 3,n 39 38,m 40 0,m 41 4,i 42 3 40 41,f 43 0 42,l 44 43,b 45 .sub 39 44,i 46 1 37 45,l 47 46,o 48 (.bslice 5 1 [t 47]),o 49 (.app 5 1 1 (t 36) (t 48)),m 3 49])) (r [m 34 5,B 35 .add 34 1,m 5 35])))
def aBK:PC:=G [0,3,4] (g (R [m 6 4,m 7 0,n 8 7,b 9 .lss 6 8] (C 9 w (h 0))) (g (H 1 (g (R [m 12 0,m 13 4,i 14 3 12 13,L 15 3 14,c 16 178 [t 15],u 17 16] (C 17 (R [m 18 3,m 19 0,m 20 4,i 21 3 19 20,f 22 2 21,l 23 22,o 24 (.conv (.toInt .u8) (t 23)),o 25 (.bslice 5 1 [t 24]),o 26 (.app 5 1 1 (t 18) (t 25)),m 3 26] (h 1)) w)) (R [M 5 0] (H 2 aAS)))) (r [m 10 4,B 11 .add 10 1,m 4 11])))
def Ey:FC:=⟨[0,2,3,4,5],[⟨2,none⟩],R [o 2 (.mv (Y []))] (R [o 3 (.nilR 5 1)] (g (R [M 4 0] (H 0 aBK)) (R [m 50 3,o 51 (.conv .bts (t 50)),m 2 51] j)))⟩
def TV:CO 127 Ey 1:=bk f127 ak
def aCk:PC:=G [0,1,5] (g (R [m 6 5,m 7 0,n 8 7,b 9 .lss 6 8] (C 9 w (h 0))) (g (H 1 (R [m 12 0,m 13 5,i 14 1 12 13,l 15 14,m 16 1,b 17 .eql 15 16] (C 17 (R [o 4 (.mv T)] j) w))) (r [m 10 5,B 11 .add 10 1,m 5 11])))
def ZL:FC:=⟨[0,1,4,5],[⟨4,none⟩],R [o 4 (.mv F)] (g (R [M 5 0] (H 0 aCk)) (R [o 4 (.mv F)] j))⟩
def alj:CO 128 ZL 2:=bk f128 ak
def Lm:FC:=⟨[0,1,2,6,7,8,9],[⟨6,none⟩,⟨7,none⟩],R [M 6 0,M 7 0] (R [m 11 0,m 12 1,c 13 179 [t 11,t 12],m 10 13,e 14 10 0,e 15 10 1,o 8 (.alloc 175 (.agg [.nil 1,I 0])),s 2 8 14,m 9 15] (g (R [m 16 9,m 17 2,m 18 1,B 19 .sub 18 1,c 20 136 [t 17,k 0,t 19],c 21 138 [t 20,k 2],o 22 (.bslice 33 1 [t 16,t 21]),c 23 180 [t 22],m 9 23] (R [m 24 9,B 25 .neq 24 0] (C 25 (R [m 26 9,M 6 0,m 7 26] j) w))) (R [L 27 2 8,m 28 2,c 29 181 [t 27,t 28],m 6 29,M 7 0] j)))⟩
def X7:CO 129 Lm 3:=bk f129 ak
def Ch:FC:=⟨[0,2,3,4,5],[⟨2,none⟩,⟨3,none⟩],R [o 2 (.mv (Y [])),M 3 0] (R [m 7 0,c 8 182 [t 7],m 6 8,e 9 6 0,e 10 6 1,o 4 (.alloc 175 (.agg [.nil 1,I 0])),s 2 4 9,m 5 10] (R [f 11 0 4,l 12 11,o 13 (.conv .bts (t 12)),m 14 5,m 2 13,m 3 14] j))⟩
def Pg:CO 130 Ch 1:=bk f130 ak
def aCp:PC:=G [3,5,6,8,39] (R [B 40 .lss 39 16] (g (C 40 w (h 2)) (g (H 3 (R [m 41 39,m 10 41] (R [m 42 8,y 43 42,m 44 10,B 45 .mul 44 256,o 46 (.mm false (t 43) (t 45)),m 11 46] (r [m 47 5,m 48 8,m 49 11,m 50 8,y 51 50,m 52 11,B 53 .add 52 256,o 54 (.mm false (t 51) (t 53)),o 55 (.slcS (t 48) (some (t 49)) (some (t 54))),o 56 (.bslice 9 1 [t 55]),o 57 (.app 9 1 16 (t 47) (t 56)),m 5 57])))) (r [B 58 .add 39 1,m 39 58]))))
def aCC:PC:=G [3,5,6] (g (R [m 16 6,f 17 0 3,l 18 17,y 19 18,b 20 .lss 16 19] (C 20 w (h 0))) (g (H 1 (R [f 23 0 3,l 24 23,m 25 6,f 26 0 3,l 27 26,y 28 27,m 29 6,B 30 .add 29 4096,o 31 (.mm false (t 28) (t 30)),o 32 (.slcS (t 24) (some (t 25)) (some (t 31))),m 7 32] (R [m 34 7,c 35 62 [t 34,k 4096],c 36 189 [t 35],m 33 36,e 37 33 0,e 38 33 1,m 8 37,m 9 38] (R [M 39 0] (H 2 aCp))))) (r [m 21 6,B 22 .add 21 4096,m 6 22])))
def aCy:PC:=G [0,3,5,63,64] (R [b 65 .lss 64 63] (g (C 65 w (h 4)) (g (H 5 (R [m 66 64,m 12 66] (g (R [m 67 0,c 68 165 [t 67],m 69 68,q 69 (f 70 2 3),q 69 (l 71 70),q 69 (m 72 12),q 69 (o 73 (.callv (t 71) [t 72])),q 69 (u 74 73),P 75 69 74] (C 75 (R [m 76 5,o 77 (.bslice 9 1 [.const (.string (ByteArray.mk (Array.mk [])))]),o 78 (.app 9 1 16 (t 76) (t 77)),m 5 78] (h 5)) w)) (R [f 79 0 3,l 80 79,m 81 12,B 82 .mul 81 256,f 83 0 3,l 84 83,y 85 84,m 86 12,B 87 .add 86 1,B 88 .mul 87 256,o 89 (.mm false (t 85) (t 88)),o 90 (.slcS (t 80) (some (t 82)) (some (t 89))),m 13 90] (r [m 91 5,m 92 13,c 93 62 [t 92,k 256],o 94 (.bslice 9 1 [t 93]),o 95 (.app 9 1 16 (t 91) (t 94)),m 5 95]))))) (r [B 96 .add 64 1,m 64 96]))))
def uw:FC:=⟨[0,1,3,4,5,6,7,8,10,11,12,13,39,63,64],[⟨4,none⟩],R [U 3 97 1,o 4 (.nilR 9 1)] (R [o 5 (.nilR 9 1)] (g (R [m 14 0,c 15 115 [t 14]] (C 15 (g (R [M 6 0] (H 0 aCC)) (R [m 59 5,m 4 59] j)) w)) (g (R [f 60 0 3,l 61 60,y 62 61,c 63 163 [t 62,k 256],M 64 0] (H 4 aCy)) (R [m 97 5,m 4 97] j))))⟩
def He:CO 132 uw 2:=bk f132 ak
def aBt:PC:=G [0,1,2,8,9,10,21,22,23] (R [b 24 .lss 23 22] (g (C 24 w (h 0)) (g (H 1 (R [m 25 23,i 26 1 21 23,l 27 26,m 11 25,m 12 27] (R [M 13 (-1)] (g (R [m 28 12,o 29 (.bin .neq (t 28) (Y [])),m 30 29,q 30 (m 31 0),q 30 (m 32 11),q 30 (c 33 67 [t 31,t 32]),P 34 30 33] (C 34 (R [m 35 0,o 36 (.nilck (t 35)),f 37 13 36,l 38 37,m 39 11,i 40 1 38 39,l 41 40,m 13 41] (r [m 42 13,m 10 42])) w)) (g (R [m 43 12,o 44 (.bin .neq (t 43) (Y [])),m 45 44,q 45 (m 46 13),q 45 (c 47 86 [t 46]),P 48 45 47] (C 48 (r [m 49 9,B 50 .add 49 1,m 9 50]) w)) (r [m 51 8,m 52 13,o 53 (.bslice 3 1 [t 52]),o 54 (.app 3 1 8 (t 51) (t 53)),m 8 54])))))) (r [B 55 .add 23 1,m 23 55]))))
def aCw:PC:=G [1,2,8,9,10,59,60,61] (R [b 62 .lss 61 60] (g (C 62 w (h 2)) (g (H 3 (R [i 63 1 59 61,l 64 63,m 15 64] (R [m 65 15,c 66 86 [t 65],u 67 66] (C 67 (r [m 68 2,m 69 15,m 70 8,m 71 15,c 72 190 [t 70,t 71],i 73 1 68 69,s 1 73 72]) w)))) (r [B 74 .add 61 1,m 61 74]))))
def aBC:PC:=G [2,8,18,94,95,96] (R [b 97 .lss 96 95] (g (C 97 w (h 4)) (g (H 5 (R [m 98 96,i 99 1 94 96,l 100 99,m 19 98,m 20 100] (R [m 101 20,o 102 (.bin .neq (t 101) (Y [])),m 103 102,q 103 (m 104 8),q 103 (m 105 19),q 103 (i 106 1 104 105),q 103 (l 107 106),q 103 (c 108 86 [t 107]),P 109 103 108] (C 109 (g (E [m 110 8,m 111 19,m 112 18,o 113 (.idxA 1 (t 112) (k 0)),l 114 113,m 115 18,o 116 (.slcR 1 (t 115) (some (k 1)) none),i 117 1 110 111,s 1 117 114,m 18 116] [[],[],[],[2],[3],[],[5],[0,1,0,1,2,3,4],[7,4,0,1,2,3,4],[6,8,0,1,2,3,4,5,6,7,8]]) (r [m 118 2,m 119 8,m 120 19,i 121 1 119 120,l 122 121,i 123 1 118 122,O (.store 1 (t 123) T)])) w)))) (r [B 124 .add 96 1,m 96 124]))))
def uf:FC:=⟨[0,1,2,6,7,8,9,10,11,12,13,15,16,17,18,19,20,21,22,23,59,60,61,94,95,96],[⟨6,none⟩,⟨7,none⟩],R [o 6 (.nilR 3 1),M 7 0] (R [o 8 (.nilR 3 1)] (R [M 9 0] (R [M 10 0] (g (R [m 21 1,n 22 21,M 23 0] (H 0 aBt)) (g (R [m 56 0,o 57 (.nilck (t 56)),f 58 13 57,l 59 58,n 60 59,M 61 0] (H 2 aCw)) (g (R [m 75 9,B 76 .eql 75 0] (C 76 (R [m 77 8,m 6 77,M 7 0] j) w)) (R [m 79 2,c 80 87 [t 79],m 81 2,n 82 81,m 83 9,m 84 10,o 85 (.build [I 0,I 0] [⟨0,⟨1,t 83⟩⟩,⟨1,⟨1,t 84⟩⟩]),c 86 191 [t 80,t 82,t 85],m 78 86,e 87 78 0,e 88 78 1,m 16 87,m 17 88] (g (R [m 89 17,B 90 .neq 89 0] (C 90 (R [m 91 17,o 6 (.nilR 3 1),m 7 91] j) w)) (R [m 92 16,c 93 97 [t 92],m 18 93] (g (R [m 94 1,n 95 94,M 96 0] (H 4 aBC)) (R [m 125 8,m 6 125,M 7 0] j)))))))))))⟩
def Hw:CO 133 uf 3:=bk f133 ak
def aBa:PC:=D [m 15 6,B 16 .gtr 15 0,m 17 16,q 17 (m 18 5),q 17 (c 19 86 [t 18]),q 17 (m 20 19),q 20 (m 21 3),q 20 (m 22 6),q 20 (B 23 .sub 22 1),q 20 (i 24 2 21 23),q 20 (f 25 0 24),q 20 (l 26 25),q 20 (c 27 86 [t 26]),q 17 (P 28 20 27),q 17 (m 29 28),Q 29 (m 30 5),Q 29 (c 31 86 [t 30]),Q 29 (u 32 31),Q 29 (m 33 32),q 33 (m 34 3),q 33 (m 35 6),q 33 (B 36 .sub 35 1),q 33 (i 37 2 34 36),q 33 (f 38 0 37),q 33 (l 39 38),q 33 (c 40 86 [t 39]),q 33 (u 41 40),Q 29 (P 42 33 41),Q 29 (m 43 42),q 43 (m 44 3),q 43 (m 45 6),q 43 (B 46 .sub 45 1),q 43 (i 47 2 44 46),q 43 (f 48 0 47),q 43 (l 49 48),q 43 (m 50 3),q 43 (m 51 6),q 43 (B 52 .sub 51 1),q 43 (i 53 2 50 52),q 43 (f 54 1 53),q 43 (l 55 54),q 43 (b 56 .add 49 55),q 43 (m 57 5),q 43 (b 58 .eql 56 57),Q 29 (P 59 43 58),q 17 (V 60 29 59),P 61 17 60] [[],[0],[1],[2],[3,2,2],[4,4,2],[5],[5],[7,5],[6,8,5],[9,5],[10,5],[11,5,5],[5,12,2],[13,12,2],[14],[15,14,14],[16,14],[17,16,14],[18],[18],[20,18],[19,21,18],[22,18],[23,18],[24,18,18],[25,18],[18,26,14],[27,25,14],[28],[28],[30,28],[29,31,28],[32,28],[33,28],[28],[28],[36,28],[35,37,28],[38,28],[39,28],[34,40,28],[28],[41,42,28],[28,43,14],[14,44,2],[2,45]]
def aAO:PC:=G [3,7,8,9] (R [b 10 .lss 9 8] (g (C 10 w (h 0)) (g (H 1 (R [i 11 1 7 9,l 12 11,m 5 12] (R [m 13 3,n 14 13,m 6 14] (g (g aBa (C 61 (R [m 62 3,m 63 6,B 64 .sub 63 1,i 65 2 62 64,f 66 1 65,l 67 66,B 68 .add 67 1,i 69 2 62 64,f 70 1 69,s 1 70 68] (h 1)) w)) (r [m 71 3,m 72 5,o 73 (.build [I 0,I 0] [⟨0,⟨1,t 72⟩⟩,⟨1,⟨1,k 1⟩⟩]),o 74 (.bslice 28 2 [t 73]),o 75 (.app 28 2 16 (t 71) (t 74)),m 3 75]))))) (r [B 76 .add 9 1,m 9 76]))))
def Is:FC:=⟨[0,2,3,5,6,7,8,9],[⟨2,none⟩],R [o 2 (.nilR 28 2)] (R [o 3 (.nilR 28 2)] (g (R [m 7 0,n 8 7,M 9 0] (H 0 aAO)) (R [m 77 3,m 2 77] j)))⟩
def VH:CO 134 Is 1:=bk f134 ak
def aAR:PC:=G [3,6,7,8] (R [b 9 .lss 8 7] (g (C 9 w (h 0)) (g (H 1 (R [i 10 1 6 8,l 11 10,m 5 11] (R [m 12 5,c 13 86 [t 12],u 14 13] (C 14 (r [m 15 3,B 16 .add 15 1,m 3 16]) w)))) (r [B 17 .add 8 1,m 8 17]))))
def NQ:FC:=⟨[0,2,3,5,6,7,8],[⟨2,none⟩],R [M 2 0] (R [M 3 0] (g (R [m 6 0,n 7 6,M 8 0] (H 0 aAR)) (R [m 18 3,m 2 18] j)))⟩
def acJ:CO 135 NQ 1:=bk f135 ak
def ze:FC:=⟨[0,1,2,6],[⟨6,none⟩],R [o 6 (.mv F)] (R [m 7 1,m 8 0,b 9 .leq 7 8,m 10 9,q 10 (m 11 0),q 10 (m 12 2),q 10 (b 13 .leq 11 12),P 14 10 13,m 6 14] j)⟩
def Iz:CO 136 ze 3:=bk f136 ak
def Oc:FC:=⟨[0,2],[⟨2,none⟩],R [M 2 0] (R [m 3 0,B 4 .add 3 8,B 5 .sub 4 1,B 6 .quo 5 8,m 2 6] j)⟩
def acL:CO 137 Oc 1:=bk f137 ak
def Ig:FC:=⟨[0,1,4],[⟨4,none⟩],R [M 4 0] (g (R [m 5 0] (C 5 (R [M 4 0] j) w)) (R [m 6 1,m 4 6] j))⟩
def Vz:CO 138 Ig 2:=bk f138 ak
def aBH:PC:=G [5,6,7] (R [b 8 .lss 7 6] (g (C 8 w (h 0)) (g (H 1 (R [i 9 1 5 7,l 10 9,m 4 10] (R [m 11 4,B 12 .neq 11 0] (C 12 (R [m 13 4,m 2 13] j) w)))) (r [B 14 .add 7 1,m 7 14]))))
def DG:FC:=⟨[0,2,4,5,6,7],[⟨2,none⟩],R [M 2 0] (g (R [m 5 0,n 6 5,M 7 0] (H 0 aBH)) (R [M 2 0] j))⟩
def QM:CO 139 DG 1:=bk f139 ak
def AX:FC:=⟨[0,1,4],[⟨4,none⟩],R [M 4 0] (g (R [m 5 0] (C 5 (R [M 4 0] j) w)) (R [m 6 1,m 4 6] j))⟩
def OP:CO 140 AX 2:=bk f140 ak
def BQ:FC:=⟨[0,2,4],[⟨2,none⟩],R [o 2 (.mv F)] (R [c 6 192 [],m 7 0,o 8 (.look true (t 6) (t 7)),m 5 8,e 9 5 0,e 10 5 1,m 3 9,m 4 10] (R [m 11 4,m 2 11] j))⟩
def O8:CO 141 BQ 1:=bk f141 ak
def zB:FC:=⟨[0,2],[⟨2,none⟩],R [M 2 0] (R [m 3 0,o 4 (.bin .eql (t 3) (Y [])),m 5 4,Q 5 (m 6 0),Q 5 (c 7 193 [t 6]),Q 5 (B 8 .eql 7 0),V 9 5 8,c 10 140 [t 9,k 4],m 2 10] j)⟩
def MX:CO 142 zB 1:=bk f142 ak
def Cr:FC:=⟨[0,1,2,6],[⟨6,none⟩],R [o 6 (.mv F)] (R [m 7 1,m 8 0,b 9 .leq 7 8,m 10 9,q 10 (m 11 0),q 10 (m 12 2),q 10 (b 13 .leq 11 12),P 14 10 13,m 6 14] j)⟩
def OM:CO 143 Cr 3:=bk f143 ak
def tl:FC:=⟨[0,1,2,3],[⟨2,none⟩],R [U 1 26 0,M 2 0] (R [f 4 7 1,l 5 4,n 6 5,B 7 .eql 6 0,m 8 7,q 8 (f 9 6 1),q 8 (l 10 9),q 8 (B 11 .eql 10 0),P 12 8 11,m 13 12,q 13 (f 14 8 1),q 13 (l 15 14),q 13 (B 16 .eql 15 0),P 17 13 16,m 18 17,q 18 (f 19 9 1),q 18 (l 20 19),q 18 (B 21 .eql 20 0),P 22 18 21,m 23 22,q 23 (f 24 10 1),q 23 (l 25 24),q 23 (B 26 .eql 25 0),P 27 23 26,m 3 27] (g (D [m 28 3,c 29 140 [t 28,k 3],f 30 5 1,l 31 30,y 32 31,B 33 .leq 32 400,c 34 140 [t 33,k 8],o 35 (.bslP 33 1 [t 29,t 34]),c 36 139 [t 35],m 2 36] [[],[0],[],[2],[3],[4],[5,1],[1,6],[7,6],[8,8,0,1,2,3,4,5,6,7,8]]) j))⟩
def EF:CO 144 tl 1:=bk f144 ak
def aBw:PC:=D [m 66 6,u 67 66,m 68 67,Q 68 (f 69 7 1),Q 68 (l 70 69),Q 68 (N 71 70),Q 68 (B 72 .gtr 71 0),V 73 68 72,c 74 140 [t 73,k 17],f 75 6 1,l 76 75,L 77 11 1,c 78 195 [t 77],b 79 .add 76 78,B 80 .leq 79 4096,c 81 140 [t 80,k 8],m 82 6,u 83 82,m 84 83,Q 84 (m 85 7),Q 84 (u 86 85),V 87 84 86,c 88 140 [t 87,k 3],m 89 8,c 90 140 [t 89,k 2],f 91 10 1,l 92 91,f 93 9 1,l 94 93,b 95 .leq 92 94,c 96 140 [t 95,k 9],o 97 (.bslP 33 1 [t 74,t 81,t 88,t 90,t 96]),c 98 139 [t 97],m 2 98] [[],[0],[1],[2],[3,2],[4,2],[5,2],[2,6],[7,2],[],[9],[],[11,8],[10,12],[13],[14,12],[],[16],[17,15],[18],[19,18],[18,20],[21,18],[],[23,22],[],[25],[],[27],[26,28],[29,24],[8,15,22,24,30],[31,30],[32,32,0,1,2,3,4,5,6,7,8,9,10,11,12,13,14,15,16,17,18,19,20,21,22,23,24,25,26,27,28,29,30,31,32]]
def xW:FC:=⟨[0,1,2,3,5,6,7,8],[⟨2,none⟩],R [U 1 26 0,M 2 0] (g (g (E [c 9 192 [],f 10 0 1,l 11 10,o 12 (.look false (t 9) (t 11)),u 13 12,c 14 140 [t 13,k 20],f 15 5 1,l 16 15,o 17 (.bin .eql (t 16) (Y [])),c 18 140 [t 17,k 3],f 19 6 1,l 20 19,c 21 143 [t 20,k 0,k 4096],c 22 140 [t 21,k 2],o 23 (.bslP 33 1 [t 14,t 18,t 22]),c 24 139 [t 23],m 3 24] [[],[],[1],[0,2],[3],[4,0],[],[6],[7],[8,5],[],[10],[11,9],[12,12],[5,9,13],[14,13],[15,15,0,1,2,3,4,5,6,7,8,9,10,11,12,13,14,15]]) (R [m 25 3,B 26 .neq 25 0] (C 26 (R [m 27 3,m 2 27] j) w))) (g (R [f 29 7 1,l 30 29,c 31 194 [t 30],m 28 31,e 32 28 0,e 33 28 1,m 4 32,m 5 33] (R [m 34 5,B 35 .neq 34 0] (C 35 (R [m 36 5,m 2 36] j) w))) (R [f 37 6 1,l 38 37,B 39 .gtr 38 0,m 6 39] (R [f 40 8 1,l 41 40,B 42 .neq 41 0,m 43 42,Q 43 (f 44 9 1),Q 43 (l 45 44),Q 43 (B 46 .neq 45 0),V 47 43 46,m 48 47,Q 48 (f 49 10 1),Q 48 (l 50 49),Q 48 (B 51 .neq 50 0),V 52 48 51,m 7 52] (R [f 53 8 1,l 54 53,c 55 143 [t 54,k 0,k 1048576],m 56 55,q 56 (f 57 9 1),q 56 (l 58 57),q 56 (c 59 143 [t 58,k 0,k 1048576]),P 60 56 59,m 61 60,q 61 (f 62 10 1),q 61 (l 63 62),q 61 (c 64 143 [t 63,k 0,k 1048576]),P 65 61 64,m 8 65] (g aBw j))))))⟩
def KZ:CO 145 xW 1:=bk f145 ak
def zr:FC:=⟨[0,1,2,3,4,5,6],[⟨2,none⟩],R [U 1 26 0,o 2 (.mv (Y []))] (R [f 7 5 1,l 8 7,m 3 8] (g (R [f 9 4 1,l 10 9,u 11 10] (C 11 (r [f 13 7 1,l 14 13,c 15 196 [t 14],m 12 15,e 16 12 0,e 17 12 1,m 3 16]) w)) (R [f 18 4 1,l 19 18,c 20 197 [t 19],m 4 20] (R [m 21 4,f 22 1 1,l 23 22,y 24 23,b 25 .add 21 24,c 26 198 [t 25],m 5 26] (R [m 27 5,m 28 3,y 29 28,b 30 .add 27 29,c 31 198 [t 30],o 32 (.mksl 5 1 1 (.int .u8 0) (t 31) (t 31)),m 6 32] (R [m 33 6,f 34 0 1,l 35 34,c 36 199 [t 33,k 0,k 4,t 35]] (R [m 37 6,m 38 6,n 39 38,c 40 199 [t 37,k 4,k 4,t 39]] (R [m 41 6,f 42 1 1,l 43 42,y 44 43,c 45 199 [t 41,k 9,k 1,t 44]] (R [m 46 6,m 47 4,c 48 199 [t 46,k 10,k 2,t 47]] (R [m 49 6,f 50 3 1,l 51 50,c 52 199 [t 49,k 12,k 2,t 51]] (R [m 53 6,f 54 2 1,l 55 54,c 56 199 [t 53,k 14,k 2,t 55]] (g (R [f 57 4 1,l 58 57] (C 58 (R [m 59 6,m 60 3,y 61 60,c 62 199 [t 59,k 16,k 4,t 61]] (r [m 63 6,m 64 5,c 65 199 [t 63,k 20,k 4,t 64]])) (R [m 66 6,c 67 199 [t 66,k 8,k 1,k 1]] (R [m 68 6,f 69 6 1,l 70 69,c 71 199 [t 68,k 16,k 4,t 70]] (g (D [m 72 6,f 73 6 1,l 74 73,L 75 11 1,c 76 195 [t 75],b 77 .add 74 76,B 78 .sub 77 1,c 79 199 [t 72,k 20,k 4,t 78]] [[],[],[1],[],[3],[2,4],[5],[0,6,4]]) (R [m 80 6,m 81 5,c 82 199 [t 80,k 24,k 2,t 81]] (R [m 83 6,f 84 8 1,l 85 84,c 86 199 [t 83,k 28,k 4,t 85]] (R [m 87 6,f 88 9 1,l 89 88,c 90 199 [t 87,k 32,k 4,t 89]] (r [m 91 6,f 92 10 1,l 93 92,c 94 199 [t 91,k 36,k 4,t 93]]))))))))) (g (E [m 95 6,m 96 4,o 97 (.slcR 1 (t 95) (some (t 96)) none),f 98 1 1,l 99 98,o 100 (.cpyS (t 97) (t 99))] [[],[],[0,1],[],[3],[2,4]]) (R [m 101 6,m 102 5,o 103 (.slcR 1 (t 101) (some (t 102)) none),m 104 3,o 105 (.cpyS (t 103) (t 104))] (R [m 106 6,o 107 (.conv .bts (t 106)),m 2 107] j)))))))))))))))⟩
def MZ:CO 146 zr 1:=bk f146 ak
def aAh:PC:=r [m 7 0,o 8 (.bin .eql (t 7) (Y [])),m 9 8,Q 9 (m 10 0),Q 9 (o 11 (.bin .eql (t 10) (Y [46]))),V 12 9 11,m 13 12,Q 13 (m 14 0),Q 13 (o 15 (.bin .eql (t 14) (Y [46,46]))),V 16 13 15,m 17 16,Q 17 (m 18 0),Q 17 (m 19 0),Q 17 (y 20 19),Q 17 (B 21 .sub 20 1),Q 17 (o 22 (.idx (t 18) (t 21))),Q 17 (o 23 (.bin .eql (t 22) (.const (.int .u8 32)))),V 24 17 23,m 25 24,Q 25 (m 26 0),Q 25 (m 27 0),Q 25 (y 28 27),Q 25 (B 29 .sub 28 1),Q 25 (o 30 (.idx (t 26) (t 29))),Q 25 (o 31 (.bin .eql (t 30) (.const (.int .u8 46)))),V 32 25 31]
def aAa:PC:=G [0,3] (g (R [m 33 3,m 34 0,y 35 34,b 36 .lss 33 35] (C 36 w (h 0))) (g (H 1 (R [m 39 0,m 40 3,o 41 (.idx (t 39) (t 40)),c 42 200 [t 41],u 43 42] (C 43 (R [M 2 4] j) w))) (r [m 37 3,B 38 .add 37 1,m 3 38])))
def Io:FC:=⟨[0,2,3],[⟨2,none⟩],R [M 2 0] (g (R [m 4 0,y 5 4,B 6 .gtr 5 32] (C 6 (R [M 2 8] j) w)) (g (g aAh (C 32 (R [M 2 4] j) w)) (g (R [M 3 0] (H 0 aAa)) (R [M 2 0] j))))⟩
def VD:CO 147 Io 1:=bk f147 ak
def FH:FC:=⟨[0,2],[⟨2,none⟩],R [o 2 (.mv F)] (R [o 3 (.bslice 3 1 [k 16,k 48,k 96,k 112,k 144]),m 4 0,c 5 128 [t 3,t 4],m 2 5] j)⟩
def TM:CO 148 FH 1:=bk f148 ak
def UM:FC:=⟨[0,2,4],[⟨2,none⟩],R [M 2 0] (R [m 6 0,c 7 201 [t 6],m 5 7,e 8 5 0,e 9 5 1,m 3 8,m 4 9] (R [m 10 4,m 2 10] j))⟩
def ahF:CO 149 UM 1:=bk f149 ak
def aA8:PC:=G [0,3,4,5] (g (R [m 8 5,m 9 0,n 10 9,b 11 .lss 8 10] (C 11 w (h 0))) (g (H 1 (R [m 14 0,m 15 5,i 16 2 14 15,f 17 1 16,l 18 17,c 19 202 [t 18],m 6 19] (g (R [m 20 0,m 21 5,i 22 2 20 21,f 23 0 22,l 24 23,B 25 .eql 24 (-1)] (C 25 (R [m 26 3,m 27 6,y 28 27,c 29 151 [t 28,k 1],b 30 .add 26 29,m 31 6,b 32 .add 30 31,m 3 32] (h 1)) w)) (R [m 33 0,m 34 5,i 35 2 33 34,f 36 0 35,l 37 36,m 38 4,b 39 .sub 37 38,c 40 202 [t 39],m 7 40] (R [m 41 0,m 42 5,i 43 2 41 42,f 44 0 43,l 45 44,m 4 45] (r [m 46 3,m 47 6,y 48 47,m 49 7,y 50 49,o 51 (.bin .mul (k 16) (t 50)),b 52 .add 48 51,c 53 151 [t 52,k 1],b 54 .add 46 53,m 55 6,b 56 .add 54 55,m 57 7,b 58 .add 56 57,m 3 58])))))) (r [m 12 5,B 13 .add 12 1,m 5 13])))
def JB:FC:=⟨[0,2,3,4,5,6,7],[⟨2,none⟩],R [o 2 (.mv (Y []))] (R [o 3 (.mv (Y [])),M 4 0] (g (R [M 5 0] (H 0 aA8)) (R [m 59 3,c 60 82 [k 1],b 61 .add 59 60,m 2 61] j)))⟩
def aaZ:CO 150 JB 1:=bk f150 ak
def aAi:PC:=G [0,1,5,6] (g (R [m 7 6,m 8 1,b 9 .lss 7 8] (C 9 w (h 0))) (g (H 1 (R [m 12 5,m 13 0,B 14 .rem 13 256,o 15 (.conv (.toInt .u8) (t 14)),o 16 (.bslice 5 1 [t 15]),o 17 (.app 5 1 1 (t 12) (t 16)),m 5 17] (r [m 18 0,B 19 .quo 18 256,m 0 19]))) (r [m 10 6,B 11 .add 10 1,m 6 11])))
def N1:FC:=⟨[0,1,4,5,6],[⟨4,none⟩],R [o 4 (.mv (Y []))] (R [o 5 (.nilR 5 1)] (g (R [M 6 0] (H 0 aAi)) (R [m 20 5,o 21 (.conv .bts (t 20)),m 4 21] j)))⟩
def acQ:CO 151 N1 2:=bk f151 ak
def Jd:FC:=⟨[0,2],[⟨2,none⟩],R [o 2 (.mv (Y []))] (R [m 3 0,m 4 0,y 5 4,c 6 76 [t 5,k 8],o 7 (.bin .mul (k 8) (t 6)),m 8 0,y 9 8,b 10 .sub 7 9,c 11 82 [t 10],b 12 .add 3 11,m 2 12] j)⟩
def Y_:CO 152 Jd 1:=bk f152 ak
def H4:FC:=⟨[0,2],[⟨2,none⟩],R [M 2 0] (g (R [m 3 0,c 4 15 [t 3,k 0,k 4096],u 5 4] (C 5 (R [M 2 2] j) w)) (R [M 2 0] j))⟩
def WJ:CO 153 H4 1:=bk f153 ak
def aBf:PC:=G [7,8,9] (R [b 10 .lss 9 8] (g (C 10 w (h 0)) (g (H 1 (R [i 11 1 7 9,l 12 11,m 4 12] (R [m 14 4,c 15 194 [t 14],m 13 15,e 16 13 0,e 17 13 1,m 5 16,m 6 17] (R [m 18 6,B 19 .neq 18 0] (C 19 (R [m 20 6,m 2 20] j) w))))) (r [B 21 .add 9 1,m 9 21]))))
def J3:FC:=⟨[0,2,4,6,7,8,9],[⟨2,none⟩],R [M 2 0] (g (R [m 7 0,n 8 7,M 9 0] (H 0 aBf)) (R [M 2 0] j))⟩
def aaM:CO 155 J3 1:=bk f155 ak
def aAK:PC:=G [3,6,7,8] (R [b 9 .lss 8 7] (g (C 9 w (h 0)) (g (H 1 (R [i 10 2 6 8,L 11 2 10,o 5 (.alloc 28 (.agg [I 0,I 0])),s 2 5 11] (r [m 12 3,f 13 1 5,l 14 13,b 15 .add 12 14,m 3 15]))) (r [B 16 .add 8 1,m 8 16]))))
def NI:FC:=⟨[0,2,3,5,6,7,8],[⟨2,none⟩],R [M 2 0] (R [M 3 0] (g (R [m 6 0,n 7 6,M 8 0] (H 0 aAK)) (R [m 17 3,m 2 17] j)))⟩
def ac8:CO 156 NI 1:=bk f156 ak
def nT:FC:=⟨[0,1,4],[⟨4,none⟩],R [o 4 (.mv F)] (R [m 5 0,m 6 1,c 7 211 [t 5,t 6],B 8 .geq 7 0,m 4 8] j)⟩
def ya:CO 161 nT 2:=bk f161 ak
def oI:FC:=⟨[0,1,3],[⟨3,none⟩],R [o 3 (.mv F)] (R [m 4 0,l 5 1,b 6 .geq 4 5,m 3 6] j)⟩
def yM:CO 162 oI 2:=bk f162 ak
def H8:FC:=⟨[0,1,4],[⟨4,none⟩],R [M 4 0] (R [m 5 0,m 6 1,b 7 .add 5 6,B 8 .sub 7 1,m 9 1,b 10 .quo 8 9,m 4 10] j)⟩
def WM:CO 163 H8 2:=bk f163 ak
def aB4:PC:=G [0,1,7,8] (R [b 9 .lss 8 7] (g (C 9 w (h 0)) (g (H 1 (R [m 10 8,m 5 10] (R [m 11 1,m 12 0,m 13 5,i 14 1 12 13,l 15 14,b 16 .eql 11 15] (C 16 (R [m 17 5,m 4 17] j) w)))) (r [B 18 .add 8 1,m 8 18]))))
def u7:FC:=⟨[0,1,4,5,7,8],[⟨4,none⟩],R [M 4 0] (g (R [m 6 0,n 7 6,M 8 0] (H 0 aB4)) (R [M 4 (-1)] j))⟩
def GF:CO 164 u7 2:=bk f164 ak
def sw:FC:=⟨[0,2],[⟨2,none⟩],R [o 2 (.mv F)] (R [m 3 0,o 4 (.nilck (t 3)),f 5 0 4,f 6 3 5,l 7 6,B 8 .and 7 2,B 9 .neq 8 0,m 2 9] j)⟩
def Eh:CO 165 sw 1:=bk f165 ak
def x8:FC:=⟨[0,2],[⟨2,none⟩],R [o 2 (.nilR 63 1)] (R [m 3 0,c 4 212 [.const (.slice none 0 0),t 3],m 2 4] j)⟩
def Km:CO 166 x8 1:=bk f166 ak
def uE:FC:=⟨[0,1,2,3,4],[⟨4,none⟩],R [U 2 63 0,U 3 3 1,o 4 (.mv (.const .nilFunc))] (g (R [l 5 3,B 6 .lss 5 1] (C 6 (r [o 7 .junk,O .fail]) w)) (R [o 8 (.mkf 213 [t 2,t 3]),m 4 8] j))⟩
def Hi:CO 167 uE 2:=bk f167 ak
def Ev:FC:=⟨[0,2],[⟨2,none⟩],R [o 2 (.mv (Y []))] (R [m 3 0,c 4 131 [.const (.string (ByteArray.mk (Array.mk [0]))),t 3],m 2 4] j)⟩
def TY:CO 168 Ev 1:=bk f168 ak
def C6:FC:=⟨[0,1,4,5,6,7,8,9,10,11],[⟨4,none⟩,⟨5,none⟩,⟨6,none⟩],R [o 4 (.mv (Y [])),o 5 (.mv F),M 6 0] (g (R [m 12 0,y 13 12,B 14 .lss 13 2] (C 14 (R [o 4 (.mv (Y [])),o 5 (.mv F),M 6 14] j) w)) (R [m 15 0,c 16 214 [t 15],m 7 16] (R [m 17 7,B 18 .and 17 4095,B 19 .add 18 1,m 8 19] (R [m 20 0,o 21 (.slcS (t 20) (some (k 2)) none),m 9 21] (R [m 22 7,o 23 (.bin .shr (t 22) (.const (.int .u64 12))),B 24 .and 23 7,B 25 .eql 24 3,c 26 171 [t 25,k 3],m 10 26] (R [m 27 7,B 28 .and 27 32768,B 29 .neq 28 0,m 11 29] (g (R [m 30 10,B 31 .neq 30 0] (C 31 (R [m 32 11,m 33 10,o 4 (.mv (Y [])),m 5 32,m 6 33] j) w)) (g (R [m 34 9,y 35 34,m 36 8,b 37 .lss 35 36,m 38 37,Q 38 (m 39 1),Q 38 (m 40 39),q 40 (m 41 9),q 40 (y 42 41),q 40 (m 43 8),q 40 (b 44 .gtr 42 43),Q 38 (P 45 40 44),V 46 38 45] (C 46 (R [m 47 11,o 4 (.mv (Y [])),m 5 47,M 6 10] j) w)) (R [m 48 9,m 49 8,o 50 (.slcS (t 48) none (some (t 49))),m 51 11,m 4 50,m 5 51,M 6 0] j)))))))))⟩
def RH:CO 169 C6 2:=bk f169 ak
def aCv:PC:=G [5,6,7] (R [b 8 .lss 7 6] (g (C 8 w (h 0)) (g (H 1 (R [i 9 1 5 7,l 10 9,m 4 10] (R [m 11 4,B 12 .neq 11 0] (C 12 (R [m 13 4,m 2 13] j) w)))) (r [B 14 .add 7 1,m 7 14]))))
def Fm:FC:=⟨[0,2,4,5,6,7],[⟨2,none⟩],R [M 2 0] (g (R [m 5 0,n 6 5,M 7 0] (H 0 aCv)) (R [M 2 0] j))⟩
def Tz:CO 170 Fm 1:=bk f170 ak
def Dw:FC:=⟨[0,1,4],[⟨4,none⟩],R [M 4 0] (g (R [m 5 0] (C 5 (R [M 4 0] j) w)) (R [m 6 1,m 4 6] j))⟩
def Rh:CO 171 Dw 2:=bk f171 ak
def aA7:PC:=G [0,4,5,6,22] (R [B 23 .lss 22 8] (g (C 23 w (h 2)) (g (H 3 (R [m 24 22,m 7 24] (R [m 25 6,m 26 7,b 27 .shr 25 26,o 28 (.bin .and (t 27) (.const (.int .u8 1))),m 8 28] (g (R [m 29 0,o 30 (.bin .eql (t 29) (Y []))] (C 30 (g (R [m 31 8,o 32 (.bin .eql (t 31) (.const (.int .u8 1)))] (C 32 (R [o 2 (.nilR 170 3),M 3 3] j) w)) (h 3)) w)) (R [m 33 0,o 34 (.idx (t 33) (k 0)),o 35 (.conv (.toInt .i64) (t 34)),o 36 (.build [I 0,I 0,I 0] [⟨2,⟨1,t 35⟩⟩]),o 9 (.alloc 170 (.agg [I 0,I 0,I 0])),s 3 9 36] (g (R [m 37 8,o 38 (.bin .eql (t 37) (.const (.int .u8 1)))] (C 38 (g (R [m 39 0,y 40 39,B 41 .lss 40 2] (C 41 (R [o 2 (.nilR 170 3),M 3 14] j) w)) (R [m 42 5,o 43 (.mm false (t 42) (k 4095)),c 44 215 [t 43],o 45 (.bin .sub (k 16) (t 44)),m 10 45] (R [m 46 0,c 47 214 [t 46],m 11 47] (g (D [m 48 11,m 49 10,b 50 .shr 48 49,B 51 .add 50 1,m 52 11,m 53 10,o 54 (.bin .shl (k 1) (t 53)),B 55 .sub 54 1,b 56 .and 52 55,B 57 .add 56 3,o 58 (.build [I 0,I 0,I 0] [⟨0,⟨1,t 51⟩⟩,⟨1,⟨1,t 57⟩⟩]),s 3 9 58] [[],[],[0,1],[2],[],[],[5],[6],[4,7],[8],[3,9],[10,0,1,2,3,4,5,6,7,8,9,10]]) (r [m 59 0,o 60 (.slcS (t 59) (some (k 1)) none),m 0 60]))))) w)) (R [m 61 0,o 62 (.slcS (t 61) (some (k 1)) none),m 0 62] (R [m 63 4,L 64 3 9,o 65 (.bslice 170 3 [t 64]),o 66 (.app 170 3 24 (t 63) (t 65)),m 4 66] (r [m 67 5,L 68 3 9,c 69 216 [t 68],b 70 .add 67 69,m 5 70]))))))))) (r [B 71 .add 22 1,m 22 71]))))
def aBl:PC:=G [0,4,5] (g (R [m 14 0,o 15 (.bin .neq (t 14) (Y []))] (C 15 w (h 0))) (H 1 (R [m 16 0,o 17 (.idx (t 16) (k 0)),m 6 17] (R [m 18 0,o 19 (.slcS (t 18) (some (k 1)) none),m 0 19] (g (R [m 20 0,o 21 (.bin .eql (t 20) (Y []))] (C 21 (R [o 2 (.nilR 170 3),M 3 14] j) w)) (R [M 22 0] (H 2 aA7)))))))
def Ds:FC:=⟨[0,2,3,4,5,6,7,8,9,10,11,13,22],[⟨2,none⟩,⟨3,none⟩],R [o 2 (.nilR 170 3),M 3 0] (R [o 4 (.nilR 170 3)] (R [M 5 0] (g (H 0 aBl) (g (R [m 73 4,c 74 217 [t 73],m 72 74,e 75 72 0,e 76 72 1,m 12 75,m 13 76] (R [m 77 13,B 78 .neq 77 0] (C 78 (R [m 79 13,o 2 (.nilR 170 3),m 3 79] j) w))) (R [m 80 4,m 2 80,M 3 0] j)))))⟩
def QZ:CO 172 Ds 1:=bk f172 ak
def aA5:PC:=G [3,5,6,7,8,22,23] (R [b 24 .lss 23 22] (g (C 24 w (h 2)) (g (H 3 (r [m 25 3,m 26 3,m 27 3,n 28 27,f 29 0 5,l 30 29,b 31 .sub 28 30,i 32 1 26 31,l 33 32,o 34 (.bslice 5 1 [t 33]),o 35 (.app 5 1 1 (t 25) (t 34)),m 3 35])) (r [B 36 .add 23 1,m 23 36]))))
def aBB:PC:=G [3,6,7,8] (R [b 9 .lss 8 7] (g (C 9 w (h 0)) (g (H 1 (R [i 10 3 6 8,L 11 3 10,o 5 (.alloc 170 (.agg [I 0,I 0,I 0])),s 3 5 11] (g (R [L 12 3 5,c 13 218 [t 12],u 14 13] (C 14 (R [m 15 3,f 16 2 5,l 17 16,o 18 (.conv (.toInt .u8) (t 17)),o 19 (.bslice 5 1 [t 18]),o 20 (.app 5 1 1 (t 15) (t 19)),m 3 20] (h 1)) w)) (R [f 21 1 5,l 22 21,M 23 0] (H 2 aA5))))) (r [B 37 .add 8 1,m 8 37]))))
def zI:FC:=⟨[0,2,3,5,6,7,8,22,23],[⟨2,none⟩],R [o 2 (.mv (Y []))] (R [o 3 (.nilR 5 1)] (g (R [m 6 0,n 7 6,M 8 0] (H 0 aBB)) (R [m 38 3,o 39 (.conv .bts (t 38)),m 2 39] j)))⟩
def M3:CO 173 zI 1:=bk f173 ak
def zx:FC:=⟨[0,2],[⟨2,none⟩],R [M 2 0] (R [m 3 0,B 4 .add 3 256,B 5 .sub 4 1,B 6 .quo 5 256,m 2 6] j)⟩
def MR:CO 174 zx 1:=bk f174 ak
def aBi:PC:=G [0,3] (g (R [m 4 3,c 5 34 [t 4],m 6 0,b 7 .lss 5 6] (C 7 w (h 0))) (H 1 (r [m 8 3,B 9 .add 8 1,m 3 9])))
def Oe:FC:=⟨[0,2,3],[⟨2,none⟩],R [M 2 0] (R [M 3 4] (g (H 0 aBi) (R [m 10 3,m 2 10] j)))⟩
def adF:CO 175 Oe 1:=bk f175 ak
def N7:FC:=⟨[0,1,2],[⟨2,none⟩],R [U 1 170 0,M 2 0] (g (R [L 3 3 1,c 4 178 [t 3]] (C 4 (R [f 5 1 1,l 6 5,m 2 6] j) w)) (R [M 2 1] j))⟩
def acq:CO 176 N7 1:=bk f176 ak
def Dm:FC:=⟨[0,2,4],[⟨2,none⟩],R [M 2 0] (R [m 6 0,c 7 219 [t 6],m 5 7,e 8 5 0,e 9 5 1,m 3 8,m 4 9] (R [m 10 4,m 2 10] j))⟩
def PM:CO 177 Dm 1:=bk f177 ak
def Ru:FC:=⟨[0,1,2],[⟨2,none⟩],R [U 1 170 0,o 2 (.mv F)] (R [f 3 0 1,l 4 3,B 5 .neq 4 0,m 2 5] j)⟩
def aeW:CO 178 Ru 1:=bk f178 ak
def NM:FC:=⟨[0,1,4,5],[⟨4,some (⟨true,2⟩)⟩,⟨5,none⟩],R [o 4 (.alloc 175 (.agg [.nil 1,I 0])),M 5 0] (R [m 6 0,o 7 (.conv (.stb 5) (t 6)),m 8 1,o 9 (.build [.nil 1,I 0] [⟨0,⟨1,t 7⟩⟩,⟨1,⟨1,t 8⟩⟩]),m 10 0,m 11 1,c 12 95 [t 10,t 11],s 2 4 9,m 5 12] j)⟩
def acs:CO 179 NM 2:=bk f179 ak
def azZ:PC:=G [5,6,7] (R [b 8 .lss 7 6] (g (C 8 w (h 0)) (g (H 1 (R [i 9 1 5 7,l 10 9,m 4 10] (R [m 11 4,B 12 .neq 11 0] (C 12 (R [m 13 4,m 2 13] j) w)))) (r [B 14 .add 7 1,m 7 14]))))
def Bv:FC:=⟨[0,2,4,5,6,7],[⟨2,none⟩],R [M 2 0] (g (R [m 5 0,n 6 5,M 7 0] (H 0 azZ)) (R [M 2 0] j))⟩
def Yw:CO 180 Bv 1:=bk f180 ak
def AR:FC:=⟨[0,1,2,4],[⟨4,none⟩],R [U 2 175 0,M 4 0] (R [f 5 0 2,l 6 5,m 7 1,B 8 .quo 7 8,i 9 1 6 8,l 10 9,o 11 (.conv (.toInt .i64) (t 10)),m 12 1,B 13 .rem 12 8,b 14 .shr 11 13,B 15 .and 14 1,m 4 15] j)⟩
def Pr:CO 181 AR 2:=bk f181 ak
def Jz:FC:=⟨[0,2,3],[⟨2,some (⟨true,2⟩)⟩,⟨3,none⟩],R [o 2 (.alloc 175 (.agg [.nil 1,I 0])),M 3 0] (g (R [m 4 0,c 5 136 [t 4,k 0,k 4096],u 6 5] (C 6 (R [o 7 (.build [.nil 1,I 0] []),s 2 2 7,M 3 2] j) w)) (R [m 8 0,c 9 137 [t 8],o 10 (.mksl 5 1 1 (.int .u8 0) (t 9) (t 9)),m 11 0,o 12 (.build [.nil 1,I 0] [⟨0,⟨1,t 10⟩⟩,⟨1,⟨1,t 11⟩⟩]),s 2 2 12,M 3 0] j))⟩
def ZZ:CO 182 Jz 1:=bk f182 ak
def nM:FC:=⟨[0,1,4,5],[⟨4,none⟩,⟨5,none⟩],R [M 4 0,o 5 (.mv (.const .nilIface))] (R [m 6 0,c 7 223 [t 6]] (R [m 8 0,m 9 0,o 10 (.nilck (t 9)),f 11 1 10,l 12 11,m 13 1,o 14 (.appS 5 1 (t 12) (t 13)),o 15 (.nilck (t 8)),f 16 1 15,s 1 16 14] (R [m 17 1,y 18 17,m 4 18,o 5 (.mv (.const .nilIface))] j)))⟩
def yq:CO 186 nM 2:=bk f186 ak
def wi:FC:=⟨[0,2],[⟨2,none⟩],R [M 2 0] (R [m 3 0,o 4 (.nilck (t 3)),f 5 1 4,l 6 5,n 7 6,m 2 7] j)⟩
def IM:CO 187 wi 1:=bk f187 ak
def zu:FC:=⟨[0,2,3,4,5,6],[⟨2,none⟩,⟨3,none⟩],R [o 2 (.mv (Y [])),M 3 0] (g (R [m 7 0,y 8 7,B 9 .neq 8 4096] (C 9 (R [o 2 (.mv (Y [])),M 3 10] j) w)) (g (R [m 10 0,m 11 0,y 12 11,c 13 168 [t 12],b 14 .eql 10 13] (C 14 (R [o 2 (.mv (Y [])),M 3 0] j) w)) (R [m 16 0,c 17 226 [t 16],c 18 225 [t 17],m 15 18,e 19 15 0,e 20 15 1,m 4 19,m 5 20] (R [m 21 4,y 22 21,c 23 174 [t 22],B 24 .mul 23 256,m 6 24] (g (R [m 25 5,B 26 .neq 25 0,m 27 26,Q 27 (m 28 6),Q 27 (B 29 .geq 28 4096),V 30 27 29] (C 30 (R [m 31 0,m 2 31,M 3 0] j) w)) (R [m 32 4,m 33 6,m 34 4,y 35 34,b 36 .sub 33 35,c 37 168 [t 36],b 38 .add 32 37,m 2 38,M 3 0] j))))))⟩
def MS:CO 189 zu 1:=bk f189 ak
def rp:FC:=⟨[0,1,4],[⟨4,none⟩],R [o 4 (.mv F)] (R [m 5 0,m 6 1,c 7 164 [t 5,t 6],B 8 .geq 7 0,m 4 8] j)⟩
def CG:CO 190 rp 2:=bk f190 ak
def aCb:PC:=G [13,14,47,48,49] (R [b 50 .lss 49 48] (g (C 50 w (h 0)) (g (H 1 (R [i 51 2 47 49,L 52 2 51,o 16 (.alloc 28 (.agg [I 0,I 0])),s 2 16 52] (g (R [m 53 14,B 54 .eql 53 0] (C 54 (h 0) w)) (R [f 55 1 16,l 56 55,m 57 14,o 58 (.mm false (t 56) (t 57)),f 59 1 16,s 1 59 58] (R [m 60 14,f 61 1 16,l 62 61,b 63 .sub 60 62,m 14 63] (r [m 64 13,L 65 2 16,o 66 (.bslice 28 2 [t 65]),o 67 (.app 28 2 16 (t 64) (t 66)),m 13 67])))))) (r [B 68 .add 49 1,m 49 68]))))
def uW:FC:=⟨[0,1,2,5,6,7,8,9,10,11,12,13,14,16,17,47,48,49],[⟨6,none⟩,⟨7,none⟩],R [U 5 193 2,o 6 (.nilR 28 2),M 7 0] (R [m 19 0,m 20 1,L 21 2 5,c 22 227 [t 19,t 20,t 21],m 18 22,e 23 18 0,e 24 18 1,o 8 (.alloc 175 (.agg [.nil 1,I 0])),s 2 8 23,m 9 24] (g (R [m 25 9,B 26 .neq 25 0] (C 26 (R [m 27 9,o 6 (.nilR 28 2),m 7 27] j) w)) (g (R [L 29 2 8,L 30 2 5,c 31 228 [t 29,t 30],m 28 31,e 32 28 0,e 33 28 1,m 10 32,m 11 33] (R [m 34 11] (C 34 (R [m 35 10,f 36 0 5,l 37 36,o 38 (.build [I 0,I 0] [⟨0,⟨1,t 35⟩⟩,⟨1,⟨1,t 37⟩⟩]),o 39 (.bslice 28 2 [t 38]),m 6 39,M 7 0] j) w))) (R [L 40 2 8,c 41 229 [t 40,k 0],m 12 41] (R [m 42 12,o 43 (.mkf 231 [t 5]),c 44 230 [t 42,t 43]] (R [o 13 (.nilR 28 2)] (R [f 45 0 5,l 46 45,m 14 46] (g (R [m 47 12,n 48 47,M 49 0] (H 0 aCb)) (g (R [m 69 14,B 70 .eql 69 0,c 71 138 [t 70,k 16],m 72 13,n 73 72,B 74 .leq 73 64,c 75 138 [t 74,k 8],o 76 (.bslice 33 1 [t 71,t 75]),c 77 180 [t 76],m 17 77] (R [m 78 17,B 79 .neq 78 0] (C 79 (R [m 80 17,o 6 (.nilR 28 2),m 7 80] j) w))) (R [m 81 13,m 6 81,M 7 0] j))))))))))⟩
def R1:CO 191 uW 3:=bk f191 ak
def C7:FC:=⟨[0,2],[⟨2,none⟩],R [M 2 0] (R [m 3 0,y 4 3,B 5 .leq 4 32,c 6 236 [t 5,k 8],m 7 0,c 8 237 [t 7],c 9 236 [t 8,k 4],o 10 (.bslice 33 1 [t 6,t 9]),c 11 235 [t 10],m 2 11] j)⟩
def Sg:CO 193 C7 1:=bk f193 ak
def aAn:PC:=G [0,4,11,12,13] (R [b 14 .lss 13 12] (g (C 14 w (h 0)) (g (H 1 (R [m 15 13,i 16 2 11 13,L 17 2 16,o 6 (.alloc 28 (.agg [I 0,I 0])),m 5 15,s 2 6 17] (g (R [L 18 2 6,c 19 238 [t 18],m 7 19] (R [m 20 7,B 21 .neq 20 0] (C 21 (R [m 22 5,m 23 7,m 2 22,m 3 23] j) w))) (g (g (D [m 24 5,B 25 .gtr 24 0,m 26 25,q 26 (m 27 0),q 26 (m 28 5),q 26 (B 29 .sub 28 1),q 26 (i 30 2 27 29),q 26 (L 31 2 30),q 26 (L 32 2 6),q 26 (c 33 239 [t 31,t 32]),P 34 26 33] [[],[0],[1],[2],[2],[4,2],[3,5,2],[6,2],[2],[7,8,2,2],[2,9]]) (C 34 (R [m 35 5,m 2 35,M 3 3] j) w)) (R [L 36 2 6,c 37 240 [t 4,t 36],u 38 37] (C 38 (R [m 39 5,m 2 39,M 3 23] j) w)))))) (r [B 40 .add 13 1,m 13 40]))))
def FW:FC:=⟨[0,2,3,4,5,6,7,11,12,13],[⟨2,none⟩,⟨3,none⟩],R [M 2 0,M 3 0] (g (R [m 8 0,n 9 8,B 10 .gtr 9 64] (C 10 (R [M 2 0,M 3 8] j) w)) (R [o 4 (.mkarr 233 1 (.bool false) 512)] (g (R [m 11 0,n 12 11,M 13 0] (H 0 aAn)) (R [m 41 0,c 42 156 [t 41],B 43 .leq 42 4096,c 44 205 [t 43,k 8],M 2 0,m 3 44] j))))⟩
def TO:CO 194 FW 1:=bk f194 ak
def aBS:PC:=G [3,7,8,9] (R [b 10 .lss 9 8] (g (C 10 w (h 0)) (g (H 1 (R [i 11 2 7 9,L 12 2 11,o 5 (.alloc 28 (.agg [I 0,I 0])),s 2 5 12] (r [m 13 3,f 14 1 5,l 15 14,b 16 .add 13 15,m 3 16]))) (r [B 17 .add 9 1,m 9 17]))))
def xQ:FC:=⟨[0,1,2,3,5,7,8,9],[⟨2,none⟩],R [U 1 26 0,M 2 0] (R [M 3 0] (g (R [f 6 7 1,l 7 6,n 8 7,M 9 0] (H 0 aBS)) (R [m 18 3,m 2 18] j)))⟩
def Js:CO 195 xQ 1:=bk f195 ak
def aBI:PC:=G [5,6,17,18,19] (R [b 20 .lss 19 18] (g (C 20 w (h 0)) (g (H 1 (R [i 21 2 17 19,L 22 2 21,o 8 (.alloc 28 (.agg [I 0,I 0])),s 2 8 22] (R [f 23 1 8,l 24 23,c 25 241 [t 24],m 9 25] (R [M 10 0] (g (R [L 26 2 8,c 27 209 [t 26],u 28 27] (C 28 (r [f 29 0 8,l 30 29,m 31 6,b 32 .sub 30 31,c 33 241 [t 32],m 10 33]) w)) (R [m 34 5,m 35 10,o 36 (.bin .shl (t 35) (.const (.int .u64 4))),m 37 9,b 38 .or 36 37,o 39 (.conv (.toInt .u8) (t 38)),o 40 (.bslice 5 1 [t 39]),o 41 (.app 5 1 1 (t 34) (t 40)),m 5 41] (R [m 42 5,f 43 1 8,l 44 43,m 45 9,c 46 242 [t 44,t 45],o 47 (.app 5 1 1 (t 42) (t 46)),m 5 47] (R [L 48 2 8,c 49 209 [t 48],u 50 49] (C 50 (R [m 51 5,f 52 0 8,l 53 52,m 54 6,b 55 .sub 53 54,m 56 10,c 57 242 [t 55,t 56],o 58 (.app 5 1 1 (t 51) (t 57)),m 5 58] (r [f 59 0 8,l 60 59,m 6 60])) w))))))))) (r [B 61 .add 19 1,m 19 61]))))
def C5:FC:=⟨[0,2,3,4,5,6,8,9,10,17,18,19],[⟨2,none⟩,⟨3,none⟩],R [o 2 (.mv (Y [])),M 3 0] (g (R [m 11 0,o 12 (.bslice 24 1 [t 11]),c 13 155 [t 12],m 4 13] (R [m 14 4,B 15 .neq 14 0] (C 15 (R [m 16 4,o 2 (.mv (Y [])),m 3 16] j) w))) (R [o 5 (.nilR 5 1)] (R [M 6 0] (g (R [m 17 0,n 18 17,M 19 0] (H 0 aBI)) (R [m 62 5,o 63 (.bslice 5 1 [.const (.int .u8 0)]),o 64 (.app 5 1 1 (t 62) (t 63)),o 65 (.conv .bts (t 64)),m 2 65,M 3 0] j)))))⟩
def QA:CO 196 C5 1:=bk f196 ak
def Fl:FC:=⟨[0,2],[⟨2,none⟩],R [M 2 0] (g (R [m 3 0] (C 3 (R [M 2 24] j) w)) (R [M 2 40] j))⟩
def TG:CO 197 Fl 1:=bk f197 ak
def zo:FC:=⟨[0,2],[⟨2,none⟩],R [M 2 0] (R [m 3 0,B 4 .add 3 8,B 5 .sub 4 1,B 6 .quo 5 8,B 7 .mul 6 8,m 2 7] j)⟩
def MJ:CO 198 zo 1:=bk f198 ak
def aAj:PC:=G [0,1,3,9,10] (R [b 11 .lss 10 9] (g (C 11 w (h 0)) (g (H 1 (R [m 12 10,m 8 12] (R [m 13 0,m 14 1,m 15 8,b 16 .add 14 15,m 17 3,o 18 (.conv (.toInt .u8) (t 17)),i 19 1 13 16,s 1 19 18] (r [m 20 3,o 21 (.bin .shr (t 20) (.const (.int .u64 8))),m 3 21])))) (r [B 22 .add 10 1,m 10 22]))))
def yG:FC:=⟨[0,1,2,3,8,9,10],[],R [m 9 2,M 10 0] (H 0 aAj)⟩
def Wz:CO 199 yG 4:=bk f199 ak
def aCo:PC:=G [0,3] (g (R [m 10 3,B 11 .lss 10 9] (C 11 w (h 0))) (g (H 1 (R [m 14 3,o 15 (.idx (Y [34,42,47,58,60,62,63,92,124]) (t 14)),m 16 0,b 17 .eql 15 16] (C 17 (R [o 2 (.mv F)] j) w))) (r [m 12 3,B 13 .add 12 1,m 3 13])))
def Oa:FC:=⟨[0,2,3],[⟨2,none⟩],R [o 2 (.mv F)] (g (R [m 4 0,o 5 (.bin .lss (t 4) (.const (.int .u8 32))),m 6 5,Q 6 (m 7 0),Q 6 (o 8 (.bin .gtr (t 7) (.const (.int .u8 126)))),V 9 6 8] (C 9 (R [o 2 (.mv F)] j) w)) (g (R [M 3 0] (H 0 aCo)) (R [o 2 (.mv T)] j)))⟩
def acv:CO 200 Oa 1:=bk f200 ak
def aAD:PC:=G [0,4] (g (R [m 8 4,m 9 0,n 10 9,b 11 .lss 8 10] (C 11 w (h 0))) (g (H 1 (g (R [m 14 0,m 15 4,i 16 2 14 15,L 17 2 16,c 18 243 [t 17],u 19 18] (C 19 (R [m 20 4,m 2 20,M 3 2] j) w)) (g (g (D [m 21 4,B 22 .gtr 21 0,m 23 22,q 23 (m 24 0),q 23 (m 25 4),q 23 (B 26 .sub 25 1),q 23 (i 27 2 24 26),q 23 (L 28 2 27),q 23 (m 29 0),q 23 (m 30 4),q 23 (i 31 2 29 30),q 23 (L 32 2 31),q 23 (c 33 210 [t 28,t 32]),P 34 23 33] [[],[0],[1],[2],[2],[4,2],[3,5,2],[6,2],[2],[2],[8,9,2],[10,2],[7,11,2,2],[2,12]]) (C 34 (R [m 35 4,m 2 35,M 3 3] j) w)) (R [m 36 0,m 37 4,c 38 244 [t 36,t 37]] (C 38 (R [m 39 4,m 2 39,M 3 23] j) w))))) (r [m 12 4,B 13 .add 12 1,m 4 13])))
def NK:FC:=⟨[0,2,3,4],[⟨2,none⟩,⟨3,none⟩],R [M 2 0,M 3 0] (g (R [m 5 0,n 6 5,B 7 .gtr 6 64] (C 7 (R [M 2 0,M 3 8] j) w)) (g (R [M 4 0] (H 0 aAD)) (g (R [m 40 0,c 41 56 [t 40],B 42 .gtr 41 4096] (C 42 (R [M 2 0,M 3 8] j) w)) (R [M 2 0,M 3 0] j))))⟩
def acR:CO 201 NK 1:=bk f201 ak
def J9:FC:=⟨[0,2],[⟨2,none⟩],R [o 2 (.mv (Y []))] (g (R [m 3 0,c 4 15 [t 3,k (-128),k 127]] (C 4 (R [m 5 0,c 6 28 [t 5,k 256],c 7 151 [t 6,k 1],m 2 7] j) w)) (R [m 8 0,c 9 28 [t 8,k 65536],c 10 151 [t 9,k 2],m 2 10] j))⟩
def X4:CO 202 J9 1:=bk f202 ak
def N_:FC:=⟨[0,1,4],[⟨4,none⟩],R [M 4 0] (g (R [m 5 0] (C 5 (R [M 4 0] j) w)) (R [m 6 1,m 4 6] j))⟩
def ac9:CO 205 N_ 2:=bk f205 ak
def N2:FC:=⟨[0,1,2,6],[⟨6,none⟩],R [o 6 (.mv F)] (R [m 7 1,m 8 0,b 9 .leq 7 8,m 10 9,q 10 (m 11 0),q 10 (m 12 2),q 10 (b 13 .leq 11 12),P 14 10 13,m 6 14] j)⟩
def acA:CO 206 N2 3:=bk f206 ak
def N4:FC:=⟨[0,1,2],[⟨2,none⟩],R [U 1 28 0,o 2 (.mv F)] (R [f 3 0 1,l 4 3,B 5 .eql 4 (-1),m 2 5] j)⟩
def acP:CO 209 N4 1:=bk f209 ak
def Ob:FC:=⟨[0,1,2,3,4],[⟨4,none⟩],R [U 2 28 0,U 3 28 1,o 4 (.mv F)] (g (R [f 5 0 2,l 6 5,B 7 .eql 6 (-1),m 8 7,Q 8 (f 9 0 3),Q 8 (l 10 9),Q 8 (B 11 .eql 10 (-1)),V 12 8 11] (C 12 (R [f 13 0 2,l 14 13,f 15 0 3,l 16 15,b 17 .eql 14 16,m 4 17] j) w)) (R [f 18 0 3,l 19 18,f 20 0 2,l 21 20,f 22 1 2,l 23 22,b 24 .add 21 23,b 25 .eql 19 24,m 4 25] j))⟩
def acZ:CO 210 Ob 2:=bk f210 ak
def aBP:PC:=G [0,1,7,8] (R [b 9 .lss 8 7] (g (C 9 w (h 0)) (g (H 1 (R [m 10 8,m 5 10] (R [m 11 1,m 12 0,m 13 5,i 14 1 12 13,l 15 14,o 16 (.callv (t 11) [t 15])] (C 16 (R [m 17 5,m 4 17] j) w)))) (r [B 18 .add 8 1,m 8 18]))))
def qE:FC:=⟨[0,1,4,5,7,8],[⟨4,none⟩],R [M 4 0] (g (R [m 6 0,n 7 6,M 8 0] (H 0 aBP)) (R [M 4 (-1)] j))⟩
def Cq:CO 211 qE 2:=bk f211 ak
def aAu:PC:=.rangeF (t 6) [7] [m 5 7] (H 1 (r [l 8 2,m 9 5,o 10 (.bslice 63 1 [t 9]),o 11 (.app 63 1 24 (t 8) (t 10)),s 1 2 11]))
def qj:FC:=⟨[0,1,2,4,5,6],[⟨4,none⟩],R [U 2 129 0,o 4 (.nilR 63 1)] (g (R [m 6 1] (H 0 aAu)) (R [l 12 2,m 4 12] j))⟩
def Bs:CO 212 qj 2:=bk f212 ak
def Db:FC:=⟨[0,2],[⟨2,none⟩],R [M 2 0] (g (D [m 3 0,o 4 (.idx (t 3) (k 0)),o 5 (.conv (.toInt .i64) (t 4)),m 6 0,o 7 (.idx (t 6) (k 1)),o 8 (.conv (.toInt .i64) (t 7)),o 9 (.bin .shl (t 8) (.const (.int .u64 8))),b 10 .or 5 9,m 2 10] [[],[0],[1],[],[3],[4],[5],[2,6],[7,0,1,2,3,4,5,6,7]]) j)⟩
def Si:CO 214 Db 1:=bk f214 ak
def FA:FC:=⟨[0,2],[⟨2,none⟩],R [M 2 0] (R [m 3 0,B 4 .sub 3 1,o 5 (.mm true (t 4) (k 0)),o 6 (.conv (.toInt .u64) (t 5)),c 7 246 [t 6],o 8 (.mm true (k 4) (t 7)),m 2 8] j)⟩
def Ul:CO 215 FA 1:=bk f215 ak
def Ia:FC:=⟨[0,1,2],[⟨2,none⟩],R [U 1 170 0,M 2 0] (g (R [L 3 3 1,c 4 218 [t 3]] (C 4 (R [f 5 1 1,l 6 5,m 2 6] j) w)) (R [M 2 1] j))⟩
def WK:CO 216 Ia 1:=bk f216 ak
def aBO:PC:=G [4,11,12,13] (R [b 14 .lss 13 12] (g (C 14 w (h 0)) (g (H 1 (R [m 15 13,i 16 3 11 13,L 17 3 16,o 6 (.alloc 170 (.agg [I 0,I 0,I 0])),m 5 15,s 3 6 17] (g (R [L 18 3 6,m 19 4,c 20 247 [t 18,t 19],m 7 20] (R [m 21 7,B 22 .neq 21 0] (C 22 (R [m 23 5,m 24 7,m 2 23,m 3 24] j) w))) (r [m 25 4,L 26 3 6,c 27 216 [t 26],b 28 .add 25 27,m 4 28])))) (r [B 29 .add 13 1,m 13 29]))))
def vo:FC:=⟨[0,2,3,4,5,6,7,11,12,13],[⟨2,none⟩,⟨3,none⟩],R [M 2 0,M 3 0] (g (R [m 8 0,n 9 8,B 10 .eql 9 0] (C 10 (R [M 2 0,M 3 17] j) w)) (R [M 4 0] (g (R [m 11 0,n 12 11,M 13 0] (H 0 aBO)) (R [M 2 0,M 3 0] j))))⟩
def GU:CO 217 vo 1:=bk f217 ak
def DH:FC:=⟨[0,1,2],[⟨2,none⟩],R [U 1 170 0,o 2 (.mv F)] (R [f 3 0 1,l 4 3,B 5 .neq 4 0,m 2 5] j)⟩
def Sh:CO 218 DH 1:=bk f218 ak
def az0:PC:=G [0,4,5] (g (R [m 10 5,m 11 0,n 12 11,b 13 .lss 10 12] (C 13 w (h 0))) (g (H 1 (g (R [m 16 0,m 17 5,i 18 3 16 17,L 19 3 18,m 20 4,c 21 248 [t 19,t 20],m 6 21] (R [m 22 6,B 23 .neq 22 0] (C 23 (R [m 24 5,m 25 6,m 2 24,m 3 25] j) w))) (r [m 26 4,m 27 0,m 28 5,i 29 3 27 28,L 30 3 29,c 31 176 [t 30],b 32 .add 26 31,m 4 32]))) (r [m 14 5,B 15 .add 14 1,m 5 15])))
def zN:FC:=⟨[0,2,3,4,5,6],[⟨2,none⟩,⟨3,none⟩],R [M 2 0,M 3 0] (g (R [m 7 0,n 8 7,B 9 .eql 8 0] (C 9 (R [M 2 0,M 3 17] j) w)) (R [M 4 0] (g (R [M 5 0] (H 0 az0)) (R [M 2 0,M 3 0] j))))⟩
def Nh:CO 219 zN 1:=bk f219 ak
def aA9:PC:=G [0,4,5,6,7,8,19,20,21] (R [b 22 .lss 21 20] (g (C 22 w (h 2)) (g (H 3 (R [m 23 21,i 24 3 19 21,L 25 3 24,o 10 (.alloc 170 (.agg [I 0,I 0,I 0])),m 9 23,s 3 10 25] (g (R [L 26 3 10,c 27 218 [t 26]] (C 27 (r [m 28 6,m 29 9,o 30 (.bin .shl (.const (.int .u8 1)) (t 29)),b 31 .or 28 30,m 6 31]) w)) (R [m 32 7,L 33 3 10,m 34 5,c 35 251 [t 33,t 34],b 36 .add 32 35,m 7 36] (r [m 37 5,L 38 3 10,c 39 216 [t 38],b 40 .add 37 39,m 5 40]))))) (r [B 41 .add 21 1,m 21 41]))))
def aAL:PC:=G [0,4,5] (g (R [m 11 0,n 12 11,B 13 .gtr 12 0] (C 13 w (h 0))) (H 1 (R [o 6 (.mv (.const (.int .u8 0))),o 7 (.mv (Y []))] (R [m 14 0,n 15 14,o 16 (.mm false (t 15) (k 8)),m 8 16] (g (R [m 17 0,m 18 8,o 19 (.slcR 3 (t 17) none (some (t 18))),n 20 19,M 21 0] (H 2 aA9)) (R [m 42 6,c 43 252 [t 4,t 42]] (R [m 44 7,c 45 186 [t 4,t 44]] (r [m 46 0,m 47 8,o 48 (.slcR 3 (t 46) (some (t 47)) none),m 0 48]))))))))
def E6:FC:=⟨[0,2,3,4,5,6,7,8,9,10,19,20,21],[⟨2,none⟩,⟨3,none⟩],R [o 2 (.mv (Y [])),M 3 0] (R [o 4 (.alloc 185 (.agg [.val (.pointer none),.nil 1]))] (R [M 5 0] (g (H 0 aAL) (g (R [c 49 187 [t 4],B 50 .gtr 49 4096] (C 50 (R [o 2 (.mv (Y [])),M 3 8] j) w)) (R [c 51 187 [t 4],c 52 253 [t 51,.const (.bool true)],c 53 188 [t 4],b 54 .add 52 53,m 2 54,M 3 0] j)))))⟩
def S5:CO 225 E6 1:=bk f225 ak
def az1:PC:=G [0,3,4,5,6,7] (g (g (D [m 28 3,m 29 5,m 30 7,b 31 .add 29 30,i 32 1 28 31,l 33 32,o 34 (.bin .add (k 17) (t 33)),m 35 3,m 36 5,i 37 1 35 36,l 38 37,b 39 .neq 34 38] [[],[],[],[1,2],[0,3],[4],[5],[],[],[7,8],[9],[6,10]]) (C 39 w (h 2))) (H 3 (r [m 40 7,B 41 .add 40 1,m 7 41])))
def aBg:PC:=G [0,3,4,5] (g (R [m 10 5,m 11 0,y 12 11,b 13 .lss 10 12] (C 13 w (h 0))) (H 1 (R [m 14 0,m 15 5,c 16 255 [t 14,t 15],o 6 (.alloc 170 (.agg [I 0,I 0,I 0])),s 3 6 16] (g (g (D [m 17 3,m 18 5,B 19 .add 18 1,i 20 1 17 19,l 21 20,o 22 (.bin .add (k 9) (t 21)),m 23 3,m 24 5,i 25 1 23 24,l 26 25,b 27 .neq 22 26] [[],[],[1],[0,2],[3],[4],[],[],[6,7],[8],[5,9]]) (C 27 (R [M 7 3] (g (H 2 az1) (r [m 42 0,m 43 5,m 44 7,c 45 256 [t 42,t 43,t 44],m 46 7,o 47 (.build [I 0,I 0,I 0] [⟨0,⟨1,t 45⟩⟩,⟨1,⟨1,t 46⟩⟩]),s 3 6 47]))) w)) (R [m 48 4,L 49 3 6,o 50 (.bslice 170 3 [t 49]),o 51 (.app 170 3 24 (t 48) (t 50)),m 4 51] (r [m 52 5,L 53 3 6,c 54 216 [t 53],b 55 .add 52 54,m 5 55]))))))
def tL:FC:=⟨[0,2,3,4,5,6,7],[⟨2,none⟩],R [o 2 (.nilR 170 3)] (R [m 8 0,c 9 254 [t 8],m 3 9] (R [o 4 (.nilR 170 3)] (g (R [M 5 0] (H 0 aBg)) (R [m 56 4,m 2 56] j))))⟩
def Ez:CO 226 tL 1:=bk f226 ak
def ES:FC:=⟨[0,1,2,5,6,7,8,9],[⟨6,some (⟨true,2⟩)⟩,⟨7,none⟩],R [U 5 193 2,o 6 (.alloc 175 (.agg [.nil 1,I 0])),M 7 0] (R [m 11 0,m 12 1,c 13 179 [t 11,t 12],m 10 13,e 14 10 0,e 15 10 1,o 8 (.alloc 175 (.agg [.nil 1,I 0])),s 2 8 14,m 9 15] (g (E [L 16 2 8,m 17 9,f 18 0 5,l 19 18,c 20 136 [t 19,k 1,k 4096],m 21 20,q 21 (f 22 1 5),q 21 (l 23 22),q 21 (c 24 136 [t 23,k 0,k 4095]),P 25 21 24,c 26 138 [t 25,k 2],o 27 (.bslP 33 1 [t 17,t 26]),c 28 180 [t 27],s 2 6 16,m 7 28] [[],[],[],[2],[3],[4,4],[5],[6,5],[7,5,5],[5,8],[9,8],[1,10],[11,10],[0,12,0],[12,13,0,1,2,3,4,5,6,7,8,9,10,11,12,13]]) j))⟩
def Uy:CO 227 ES 3:=bk f227 ak
def aBL:PC:=G [3,6,7,14,15,16] (R [b 17 .lss 16 15] (g (C 17 w (h 0)) (g (H 1 (R [i 18 2 14 16,L 19 2 18,o 9 (.alloc 28 (.agg [I 0,I 0])),s 2 9 19] (R [f 20 1 3,l 21 20,f 22 0 9,l 23 22,o 24 (.mm true (t 21) (t 23)),f 25 0 9,l 26 25,f 27 1 9,l 28 27,b 29 .add 26 28,f 30 0 3,l 31 30,b 32 .sub 29 31,o 33 (.mm false (t 24) (t 32)),m 10 33] (g (D [m 34 7,u 35 34,m 36 35,Q 36 (m 37 10),Q 36 (f 38 1 3),Q 36 (l 39 38),Q 36 (c 40 234 [t 37,t 39]),Q 36 (m 41 6),Q 36 (f 42 1 3),Q 36 (l 43 42),Q 36 (c 44 234 [t 41,t 43]),Q 36 (b 45 .lss 40 44),V 46 36 45] [[],[0],[1],[2],[2],[4,2],[3,5,2,2],[2],[2],[8,2],[7,9,6,2],[6,10,2],[2,11]]) (C 46 (r [m 47 10,m 6 47,o 7 (.mv T)]) w))))) (r [B 48 .add 16 1,m 16 48]))))
def xG:FC:=⟨[0,1,2,3,4,5,6,7,9,10,14,15,16],[⟨4,none⟩,⟨5,none⟩],R [U 2 175 0,U 3 193 1,M 4 0,o 5 (.mv F)] (R [M 6 0,o 7 (.mv F)] (g (R [L 11 2 2,f 12 0 3,l 13 12,c 14 257 [t 11,t 13],n 15 14,M 16 0] (H 0 aBL)) (R [m 49 6,m 50 7,m 4 49,m 5 50] j)))⟩
def LH:CO 228 xG 2:=bk f228 ak
def tC:FC:=⟨[0,1,2,3,4],[⟨4,none⟩],R [U 2 175 0,U 3 3 1,o 4 (.nilR 28 2)] (R [L 5 2 2,o 6 (.mkf 259 [t 2,t 3]),c 7 258 [t 5,t 6],m 4 7] j)⟩
def Ga:CO 229 tC 2:=bk f229 ak
def db:FC:=⟨[0,1],[],r [m 4 0,m 5 0,n 6 5,m 7 1,c 8 260 [t 4,t 6,t 7]]⟩
def gU:CO 230 db 2:=bk f230 ak
def xZ:FC:=⟨[0,1,2,3,4,5],[⟨5,none⟩],R [U 3 28 0,U 4 28 1,M 5 0] (g (D [f 6 1 4,l 7 6,f 8 1 3,l 9 8,c 10 233 [t 7,t 9],f 11 0 3,l 12 11,f 13 1 2,l 14 13,c 15 234 [t 12,t 14],f 16 0 4,l 17 16,f 18 1 2,l 19 18,c 20 234 [t 17,t 19],c 21 233 [t 15,t 20],f 22 0 3,l 23 22,f 24 0 4,l 25 24,c 26 233 [t 23,t 25],o 27 (.bslP 3 1 [t 10,t 21,t 26]),c 28 232 [t 27],m 5 28] [[],[0],[],[2],[1,3],[],[5],[],[7],[6,8,4],[],[10],[],[12],[11,13,9],[9,14,14],[],[16],[],[18],[17,19,15],[4,15,20],[21,20],[22,22,0,1,2,3,4,5,6,7,8,9,10,11,12,13,14,15,16,17,18,19,20,21,22]]) j)⟩
def KN:CO 231 xZ 3:=bk f231 ak
def az7:PC:=G [3,6,7,8] (R [b 9 .lss 8 7] (g (C 9 w (h 0)) (g (H 1 (R [i 10 1 6 8,l 11 10,m 5 11] (R [m 12 5,m 13 3,b 14 .neq 12 13] (C 14 (R [m 15 5,m 2 15] j) w)))) (r [B 16 .add 8 1,m 8 16]))))
def Sa:FC:=⟨[0,2,3,5,6,7,8],[⟨2,none⟩],R [M 2 0] (R [M 3 0] (g (R [m 6 0,n 7 6,M 8 0] (H 0 az7)) (R [m 17 3,m 2 17] j)))⟩
def afq:CO 232 Sa 1:=bk f232 ak
def DA:FC:=⟨[0,1,4,5,6],[⟨4,none⟩],R [M 4 0] (R [m 7 0,c 8 261 [t 7],m 5 8] (R [m 9 1,c 10 261 [t 9],m 6 10] (g (R [m 11 5] (C 11 (g (R [m 12 6] (C 12 (R [M 4 0] j) w)) (R [M 4 (-1)] j)) w)) (g (R [m 13 6] (C 13 (R [M 4 1] j) w)) (g (R [m 14 0,m 15 1,b 16 .lss 14 15] (C 16 (R [M 4 (-1)] j) w)) (g (R [m 17 0,m 18 1,b 19 .gtr 17 18] (C 19 (R [M 4 1] j) w)) (R [M 4 0] j)))))))⟩
def Q_:CO 233 DA 2:=bk f233 ak
def NF:FC:=⟨[0,1,4],[⟨4,none⟩],R [M 4 0] (R [m 5 0,m 6 1,b 7 .sub 5 6,m 8 1,m 9 0,b 10 .sub 8 9,o 11 (.mm true (t 7) (t 10)),m 4 11] j)⟩
def adp:CO 234 NF 2:=bk f234 ak
def aAc:PC:=G [5,6,7] (R [b 8 .lss 7 6] (g (C 8 w (h 0)) (g (H 1 (R [i 9 1 5 7,l 10 9,m 4 10] (R [m 11 4,B 12 .neq 11 0] (C 12 (R [m 13 4,m 2 13] j) w)))) (r [B 14 .add 7 1,m 7 14]))))
def N6:FC:=⟨[0,2,4,5,6,7],[⟨2,none⟩],R [M 2 0] (g (R [m 5 0,n 6 5,M 7 0] (H 0 aAc)) (R [M 2 0] j))⟩
def adw:CO 235 N6 1:=bk f235 ak
def LJ:FC:=⟨[0,1,4],[⟨4,none⟩],R [M 4 0] (g (R [m 5 0] (C 5 (R [M 4 0] j) w)) (R [m 6 1,m 4 6] j))⟩
def ZC:CO 236 LJ 2:=bk f236 ak
def aAY:PC:=r [m 3 0,o 4 (.bin .neq (t 3) (Y [])),m 5 4,q 5 (m 6 0),q 5 (y 7 6),q 5 (B 8 .leq 7 32),P 9 5 8,m 10 9,q 10 (m 11 0),q 10 (c 12 262 [t 11,.func 263]),P 13 10 12,m 14 13,q 14 (m 15 0),q 14 (o 16 (.bin .neq (t 15) (Y [46,46]))),P 17 14 16,m 18 17,q 18 (m 19 0),q 18 (c 20 264 [t 19,.const (.string (ByteArray.mk (Array.mk [32])))]),q 18 (u 21 20),P 22 18 21,m 23 22,q 23 (m 24 0),q 23 (c 25 264 [t 24,.const (.string (ByteArray.mk (Array.mk [46])))]),q 23 (u 26 25),P 27 23 26,m 2 27]
def H3:FC:=⟨[0,2],[⟨2,none⟩],R [o 2 (.mv F)] (g aAY j)⟩
def V3:CO 237 H3 1:=bk f237 ak
def HT:FC:=⟨[0,1,2],[⟨2,none⟩],R [U 1 28 0,M 2 0] (g (R [L 3 2 1,c 4 209 [t 3]] (C 4 (R [f 5 1 1,l 6 5,c 7 206 [t 6,k 1,k 4096],c 8 205 [t 7,k 2],m 2 8] j) w)) (g (R [f 9 0 1,l 10 9,c 11 206 [t 10,k 0,k 511],u 12 11] (C 12 (R [M 2 2] j) w)) (R [f 13 1 1,l 14 13,f 15 0 1,l 16 15,o 17 (.bin .sub (k 512) (t 16)),c 18 206 [t 14,k 1,t 17],c 19 205 [t 18,k 2],m 2 19] j)))⟩
def Wh:CO 238 HT 1:=bk f238 ak
def Sf:FC:=⟨[0,1,2,3,4],[⟨4,none⟩],R [U 2 28 0,U 3 28 1,o 4 (.mv F)] (g (D [L 5 2 2,c 6 209 [t 5],L 7 2 3,c 8 209 [t 7],o 9 (.eqb false (t 6) (t 8)),m 10 9,q 10 (L 11 2 2),q 10 (c 12 209 [t 11]),q 10 (m 13 12),Q 13 (f 14 0 2),Q 13 (l 15 14),Q 13 (f 16 1 2),Q 13 (l 17 16),Q 13 (b 18 .add 15 17),Q 13 (f 19 0 3),Q 13 (l 20 19),Q 13 (b 21 .eql 18 20),q 10 (V 22 13 21),P 23 10 22,m 4 23] [[],[0],[],[2,1],[1,3],[4,3],[5],[6,5,5],[7,7,5],[8],[9,8],[8],[11,8],[10,12,8],[8],[14,8],[13,15,8],[8,16,5],[5,17],[18,8,0,1,2,3,4,5,6,7,8,9,10,11,12,13,14,15,16,17,18]]) j)⟩
def agd:CO 239 Sf 2:=bk f239 ak
def aCq:PC:=G [0,3,5,6] (g (R [m 11 6,f 12 0 3,l 13 12,f 14 1 3,l 15 14,b 16 .add 13 15,b 17 .lss 11 16] (C 17 w (h 0))) (g (H 1 (R [m 20 5,m 21 20,q 21 (m 22 0),q 21 (m 23 6),q 21 (o 24 (.nilck (t 22))),q 21 (o 25 (.idxAr 512 1 (t 24) (t 23))),q 21 (l 26 25),q 21 (u 27 26),P 28 21 27,m 5 28] (r [m 29 0,m 30 6,o 31 (.nilck (t 29)),o 32 (.idxAr 512 1 (t 31) (t 30)),O (.store 1 (t 32) T)]))) (r [m 18 6,B 19 .add 18 1,m 6 19])))
def Gi:FC:=⟨[0,1,3,4,5,6],[⟨4,none⟩],R [U 3 28 1,o 4 (.mv F)] (g (R [L 7 2 3,c 8 209 [t 7]] (C 8 (R [o 4 (.mv T)] j) w)) (R [o 5 (.mv T)] (g (R [f 9 0 3,l 10 9,m 6 10] (H 0 aCq)) (R [m 33 5,m 4 33] j))))⟩
def Th:CO 240 Gi 2:=bk f240 ak
def aA3:PC:=G [0,3] (g (g (D [m 4 0,m 5 3,o 6 (.bin .mul (k 8) (t 5)),B 7 .sub 6 1,o 8 (.bin .shl (k (-1)) (t 7)),m 9 3,o 10 (.bin .mul (k 8) (t 9)),B 11 .sub 10 1,o 12 (.bin .shl (k 1) (t 11)),B 13 .sub 12 1,c 14 206 [t 4,t 8,t 13],u 15 14] [[],[],[1],[2],[3],[],[5],[6],[7],[8],[0,4,9],[10]]) (C 15 w (h 0))) (H 1 (r [m 16 3,B 17 .add 16 1,m 3 17])))
def NN:FC:=⟨[0,2,3],[⟨2,none⟩],R [M 2 0] (R [M 3 1] (g (H 0 aA3) (R [m 18 3,m 2 18] j)))⟩
def acK:CO 241 NN 1:=bk f241 ak
def aCH:PC:=G [0,5,6,7] (R [b 8 .lss 7 6] (g (C 8 w (h 0)) (g (H 1 (R [m 9 5,m 10 0,o 11 (.conv (.toInt .u8) (t 10)),o 12 (.bslice 5 1 [t 11]),o 13 (.app 5 1 1 (t 9) (t 12)),m 5 13] (r [m 14 0,o 15 (.bin .shr (t 14) (.const (.int .u64 8))),m 0 15]))) (r [B 16 .add 7 1,m 7 16]))))
def Od:FC:=⟨[0,1,4,5,6,7],[⟨4,none⟩],R [o 4 (.nilR 5 1)] (R [o 5 (.nilR 5 1)] (g (R [m 6 1,M 7 0] (H 0 aCH)) (R [m 17 5,m 4 17] j)))⟩
def adl:CO 242 Od 2:=bk f242 ak
def Og:FC:=⟨[0,1,2],[⟨2,none⟩],R [U 1 28 0,o 2 (.mv F)] (g (R [f 3 0 1,l 4 3,B 5 .eql 4 (-1)] (C 5 (R [f 6 1 1,l 7 6,c 8 15 [t 7,k 1,k 4096],m 2 8] j) w)) (R [f 9 0 1,l 10 9,c 11 15 [t 10,k 0,k 511],m 12 11,q 12 (f 13 1 1),q 12 (l 14 13),q 12 (f 15 0 1),q 12 (l 16 15),q 12 (o 17 (.bin .sub (k 512) (t 16))),q 12 (c 18 15 [t 14,k 1,t 17]),P 19 12 18,m 2 19] j))⟩
def adj:CO 243 Og 1:=bk f243 ak
def aCz:PC:=G [0,1,5] (g (R [m 6 5,m 7 1,b 8 .lss 6 7] (C 8 w (h 0))) (g (H 1 (g (D [m 11 0,m 12 5,i 13 2 11 12,L 14 2 13,m 15 0,m 16 1,i 17 2 15 16,L 18 2 17,c 19 265 [t 14,t 18]] [[],[],[0,1],[2],[],[],[4,5],[6],[3,7]]) (C 19 (R [o 4 (.mv T)] j) w))) (r [m 9 5,B 10 .add 9 1,m 5 10])))
def IE:FC:=⟨[0,1,4,5],[⟨4,none⟩],R [o 4 (.mv F)] (g (R [M 5 0] (H 0 aCz)) (R [o 4 (.mv F)] j))⟩
def V0:CO 244 IE 2:=bk f244 ak
def Ip:FC:=⟨[0,2],[⟨2,none⟩],R [M 2 0] (g (.cond F (R [m 3 0,o 4 (.conv (.toInt .u32) (t 3)),c 5 266 [t 4],m 2 5] j) w) (R [m 6 0,c 7 267 [t 6],m 2 7] j))⟩
def Wl:CO 246 Ip 1:=bk f246 ak
def aAb:PC:=D [m 7 1,B 8 .lss 7 4096,c 9 171 [t 8,k 8],L 10 3 2,c 11 218 [t 10],m 12 11,q 12 (f 13 2 2),q 12 (l 14 13),q 12 (B 15 .eql 14 0),P 16 12 15,m 17 16,Q 17 (L 18 3 2),Q 17 (c 19 218 [t 18]),Q 17 (u 20 19),Q 17 (m 21 20),q 21 (f 22 1 2),q 21 (l 23 22),q 21 (B 24 .eql 23 0),Q 17 (P 25 21 24),V 26 17 25,c 27 171 [t 26,k 3],o 28 (.bslP 33 1 [t 9,t 27]),c 29 170 [t 28],m 5 29] [[],[0],[1],[],[3,2],[4,4],[5],[6,5],[7,5],[5,8],[9,5],[10],[11,10,10],[12,10],[13,12,10],[14],[15,14],[16,14],[14,17,10],[10,18],[19,14],[2,20],[21,20],[22,22,0,1,2,3,4,5,6,7,8,9,10,11,12,13,14,15,16,17,18,19,20,21,22]]
def zO:FC:=⟨[0,1,2,4,5,6],[⟨4,none⟩],R [U 2 170 0,M 4 0] (g aAb (g (R [m 30 5,B 31 .neq 30 0] (C 31 (R [m 32 5,m 4 32] j) w)) (R [f 33 2 2,l 34 33,c 35 268 [t 34,k 0,k 255],m 6 35] (g (R [L 36 3 2,c 37 218 [t 36]] (C 37 (D [f 38 0 2,l 39 38,m 40 1,c 41 268 [t 39,k 1,t 40],m 42 41,q 42 (f 43 1 2),q 42 (l 44 43),q 42 (m 45 1),q 42 (c 46 269 [t 45]),q 42 (c 47 268 [t 44,k 3,t 46]),P 48 42 47,m 6 48] [[],[0],[],[1,2],[3,3],[4],[5,4],[4],[7,4,4],[6,8,8,4],[4,9],[10,9,0,1,2,3,4,5,6,7,8,9,10]]) w)) (g (D [m 49 6,c 50 171 [t 49,k 2],L 51 3 2,c 52 216 [t 51],m 53 1,o 54 (.bin .sub (k 4096) (t 53)),b 55 .leq 52 54,c 56 171 [t 55,k 8],o 57 (.bslP 33 1 [t 50,t 56]),c 58 170 [t 57],m 4 58] [[],[0],[],[2,1],[],[4],[3,5],[6,3],[1,7],[8,7],[9,9,0,1,2,3,4,5,6,7,8,9]]) j)))))⟩
def MA:CO 247 zO 2:=bk f247 ak
def Fp:FC:=⟨[0,1,2,4],[⟨4,none⟩],R [U 2 170 0,M 4 0] (g (R [m 5 1,B 6 .geq 5 4096] (C 6 (R [M 4 8] j) w)) (g (R [L 7 3 2,c 8 178 [t 7],u 9 8,m 10 9,q 10 (f 11 1 2),q 10 (l 12 11),q 10 (B 13 .neq 12 0),P 14 10 13,m 15 14,Q 15 (L 16 3 2),Q 15 (c 17 178 [t 16]),Q 15 (m 18 17),q 18 (f 19 2 2),q 18 (l 20 19),q 18 (B 21 .neq 20 0),Q 15 (P 22 18 21),V 23 15 22] (C 23 (R [M 4 3] j) w)) (g (R [L 24 3 2,c 25 178 [t 24],u 26 25,m 27 26,q 27 (f 28 2 2),q 27 (l 29 28),q 27 (c 30 15 [t 29,k 0,k 255]),q 27 (u 31 30),P 32 27 31] (C 32 (R [M 4 2] j) w)) (g (g (D [L 33 3 2,c 34 178 [t 33],m 35 34,q 35 (f 36 0 2),q 35 (l 37 36),q 35 (m 38 1),q 35 (c 39 15 [t 37,k 1,t 38]),q 35 (u 40 39),q 35 (m 41 40),Q 41 (f 42 1 2),Q 41 (l 43 42),Q 41 (m 44 1),Q 41 (c 45 270 [t 44]),Q 41 (c 46 15 [t 43,k 3,t 45]),Q 41 (u 47 46),q 35 (V 48 41 47),P 49 35 48] [[],[0],[1,1],[2],[3,2],[2],[4,5,2,2],[6,2],[7,6,2],[8],[9,8],[8],[11,8,8],[10,12,12,8],[13,8],[8,14,2],[2,15]]) (C 49 (R [M 4 2] j) w)) (g (R [L 50 3 2,c 51 178 [t 50],m 52 51,q 52 (f 53 1 2),q 52 (l 54 53),q 52 (m 55 1),q 52 (o 56 (.bin .sub (k 4096) (t 55))),q 52 (b 57 .gtr 54 56),P 58 52 57] (C 58 (R [M 4 8] j) w)) (R [M 4 0] j))))))⟩
def T7:CO 248 Fp 2:=bk f248 ak
def vY:FC:=⟨[0,1,2,4],[⟨4,none⟩],R [U 2 170 0,o 4 (.mv (Y []))] (g (R [L 5 3 2,c 6 218 [t 5],u 7 6] (C 7 (R [f 8 2 2,l 9 8,o 10 (.conv (.toInt .u8) (t 9)),o 11 (.bslice 5 1 [t 10]),o 12 (.conv .bts (t 11)),m 4 12] j) w)) (g (D [f 13 0 2,l 14 13,B 15 .sub 14 1,m 16 1,c 17 215 [t 16],o 18 (.bin .sub (k 16) (t 17)),b 19 .shl 15 18,f 20 1 2,l 21 20,b 22 .add 19 21,B 23 .sub 22 3,c 24 271 [t 23],m 4 24] [[],[0],[1],[],[3],[4],[2,5],[],[7],[6,8],[9],[10,4],[11,11,0,1,2,3,4,5,6,7,8,9,10,11]]) j))⟩
def I6:CO 251 vY 2:=bk f251 ak
def pK:FC:=⟨[0,1,4],[⟨4,none⟩],R [o 4 (.mv (.const .nilIface))] (R [m 5 0,c 6 223 [t 5]] (R [m 7 0,m 8 0,o 9 (.nilck (t 8)),f 10 1 9,l 11 10,m 12 1,o 13 (.bslice 5 1 [t 12]),o 14 (.app 5 1 1 (t 11) (t 13)),o 15 (.nilck (t 7)),f 16 1 15,s 1 16 14] (R [o 4 (.mv (.const .nilIface))] j)))⟩
def Ap:CO 252 pK 2:=bk f252 ak
def IC:FC:=⟨[0,1,4,5],[⟨4,none⟩],R [o 4 (.mv (Y []))] (R [m 6 0,B 7 .sub 6 1,B 8 .or 7 12288,m 5 8] (g (R [m 9 1] (C 9 (r [m 10 5,B 11 .or 10 32768,m 5 11]) w)) (R [m 12 5,c 13 271 [t 12],m 4 13] j)))⟩
def VY:CO 253 IC 2:=bk f253 ak
def aCm:PC:=G [0,3,4] (g (R [m 12 4,B 13 .geq 12 0] (C 13 w (h 0))) (g (H 1 (r [m 16 3,m 17 4,m 18 0,m 19 3,m 20 4,c 21 272 [t 18,t 19,t 20],i 22 1 16 17,s 1 22 21])) (r [m 14 4,B 15 .sub 14 1,m 4 15])))
def vX:FC:=⟨[0,2,3,4],[⟨2,none⟩],R [o 2 (.nilR 3 1)] (R [m 5 0,y 6 5,B 7 .add 6 1,o 8 (.mksl 3 1 8 (.int .i64 0) (t 7) (t 7)),m 3 8] (g (R [m 9 0,y 10 9,B 11 .sub 10 1,m 4 11] (H 0 aCm)) (R [m 23 3,m 2 23] j)))⟩
def IN:CO 254 vX 1:=bk f254 ak
def tp:FC:=⟨[0,1,4],[⟨4,some (⟨true,3⟩)⟩],R [o 4 (.alloc 170 (.agg [I 0,I 0,I 0]))] (R [m 5 0,m 6 1,o 7 (.idx (t 5) (t 6)),o 8 (.conv (.toInt .i64) (t 7)),o 9 (.build [I 0,I 0,I 0] [⟨2,⟨1,t 8⟩⟩]),s 3 4 9] j)⟩
def Gc:CO 255 tp 2:=bk f255 ak
def aBu:PC:=.rangeF (t 11) [12,13] [m 7 12,m 8 13] (H 1 (R [m 14 8,l 15 5,b 16 .geq 14 15] (C 16 (R [m 17 7,s 1 6 17] j) w)))
def tu:FC:=⟨[0,1,2,5,6,7,8,11],[⟨6,some (⟨false,1⟩)⟩],R [U 5 3 2,o 6 (.alloc 3 (.int .i64 0))] (g (R [m 9 0,m 10 1,c 11 273 [t 9,t 10]] (H 0 aBu)) (R [S 1 6 0] j))⟩
def EU:CO 256 tu 3:=bk f256 ak
def yt:FC:=⟨[0,1,2,3,4],[⟨4,none⟩],R [U 2 175 0,U 3 3 1,o 4 (.nilR 28 2)] (R [L 5 2 2,c 6 229 [t 5,k 0],o 7 (.mkf 275 [t 3]),c 8 274 [t 6,t 7],m 4 8] j)⟩
def K8:CO 257 yt 2:=bk f257 ak
def aAH:PC:=G [1,5,9,10] (R [b 11 .lss 10 9] (g (C 11 w (h 0)) (g (H 1 (R [m 12 10,m 6 12] (R [m 13 5,n 14 13,m 7 14] (H 2 (R [m 21 1,m 22 6,o 23 (.callv (t 21) [t 22]),u 24 23,m 20 24] (C 20 w (g (D [m 26 7,B 27 .gtr 26 0,m 28 27,q 28 (m 29 5),q 28 (m 30 7),q 28 (B 31 .sub 30 1),q 28 (i 32 2 29 31),q 28 (f 33 0 32),q 28 (l 34 33),q 28 (m 35 5),q 28 (m 36 7),q 28 (B 37 .sub 36 1),q 28 (i 38 2 35 37),q 28 (f 39 1 38),q 28 (l 40 39),q 28 (b 41 .add 34 40),q 28 (m 42 6),q 28 (b 43 .eql 41 42),P 44 28 43,m 25 44] [[],[0],[1],[2],[2],[4,2],[3,5,2],[6,2],[7,2],[2],[2],[10,2],[9,11,2],[12,2],[13,2],[8,14,2],[2],[15,16,2],[2,17],[18,2]]) (C 25 (r [m 45 5,m 46 7,B 47 .sub 46 1,i 48 2 45 47,f 49 1 48,l 50 49,B 51 .add 50 1,i 52 2 45 47,f 53 1 52,s 1 53 51]) (r [m 15 5,m 16 6,o 17 (.build [I 0,I 0] [⟨0,⟨1,t 16⟩⟩,⟨1,⟨1,k 1⟩⟩]),o 18 (.bslice 28 2 [t 17]),o 19 (.app 28 2 16 (t 15) (t 18)),m 5 19]))))))))) (r [B 54 .add 10 1,m 10 54]))))
def yo:FC:=⟨[0,1,2,4,5,6,7,9,10],[⟨4,none⟩],R [U 2 175 0,o 4 (.nilR 28 2)] (R [o 5 (.nilR 28 2)] (g (R [f 8 1 2,l 9 8,M 10 0] (H 0 aAH)) (R [m 55 5,m 4 55] j)))⟩
def LK:CO 258 yo 2:=bk f258 ak
def pW:FC:=⟨[0,1,2,4],[⟨4,none⟩],R [o 4 (.mv F)] (g (D [L 5 2 1,m 6 0,c 7 181 [t 5,t 6],l 8 2,b 9 .eql 7 8,m 4 9] [[],[],[0,1],[],[2,3],[4,2,0,1,2,3,4]]) j)⟩
def BK:CO 259 pW 3:=bk f259 ak
def aCe:PC:=G [0,1,2,6,7,8] (g (R [m 11 8,m 12 1,b 13 .leq 11 12] (C 13 w (h 0))) (H 1 (R [m 14 0,m 15 7,m 16 8,m 17 2,c 18 276 [t 14,t 15,t 16,t 17]] (R [m 19 8,m 7 19] (r [m 20 8,m 21 6,b 22 .add 20 21,m 8 22])))))
def aBr:PC:=G [0,1,2,6,7,8] (g (R [m 33 8,m 34 1,b 35 .leq 33 34] (C 35 w (h 4))) (H 5 (R [m 36 0,m 37 7,m 38 7,m 39 6,b 40 .add 38 39,m 41 8,m 42 2,c 43 277 [t 36,t 37,t 40,t 41,t 42]] (R [m 44 8,m 7 44] (r [m 45 8,m 46 6,o 47 (.bin .mul (k 2) (t 46)),b 48 .add 45 47,m 8 48])))))
def aAw:PC:=G [0,1,2,6] (g (R [m 28 6,m 29 1,b 30 .lss 28 29] (C 30 w (h 2))) (H 3 (R [m 31 6,o 32 (.bin .mul (k 2) (t 31)),M 7 0,m 8 32] (g (H 4 aBr) (g (R [m 49 7,m 50 6,b 51 .add 49 50,m 9 51] (R [m 52 9,m 53 1,b 54 .lss 52 53] (C 54 (r [m 55 0,m 56 7,m 57 9,m 58 1,m 59 2,c 60 277 [t 55,t 56,t 57,t 58,t 59]]) w))) (r [m 61 6,B 62 .mul 61 2,m 6 62]))))))
def gW:FC:=⟨[0,1,2,6,7,8,9],[],R [M 6 20] (R [m 10 6,M 7 0,m 8 10] (g (H 0 aCe) (R [m 23 0,m 24 7,m 25 1,m 26 2,c 27 276 [t 23,t 24,t 25,t 26]] (H 2 aAw))))⟩
def oJ:CO 260 gW 3:=bk f260 ak
def HZ:FC:=⟨[0,2],[⟨2,none⟩],R [o 2 (.mv F)] (R [m 3 0,m 4 0,b 5 .neq 3 4,m 2 5] j)⟩
def VK:CO 261 HZ 1:=bk f261 ak
def FX:FC:=⟨[0,1,3,4],[⟨4,none⟩],R [U 3 200 1,o 4 (.mv F)] (R [m 5 0,o 6 (.conv (.stb 5) (t 5)),o 7 (.mkf 279 [t 3]),c 8 278 [t 6,t 7],u 9 8,m 4 9] j)⟩
def S9:CO 262 FX 2:=bk f262 ak
def zt:FC:=⟨[0,2],[⟨2,none⟩],R [o 2 (.mv F)] (R [m 3 0,o 4 (.bin .leq (.const (.int .u8 32)) (t 3)),m 5 4,q 5 (m 6 0),q 5 (o 7 (.bin .leq (t 6) (.const (.int .u8 126)))),P 8 5 7,m 9 8,q 9 (m 10 0),q 9 (c 11 280 [.const (.string (ByteArray.mk (Array.mk [34,42,47,58,60,62,63,92,124]))),t 10]),q 9 (B 12 .lss 11 0),P 13 9 12,m 2 13] j)⟩
def Nk:CO 263 zt 1:=bk f263 ak
def zT:FC:=⟨[0,1,4],[⟨4,none⟩],R [o 4 (.mv F)] (R [m 5 0,m 6 1,c 7 281 [t 5,t 6],m 4 7] j)⟩
def MN:CO 264 zT 2:=bk f264 ak
def Ks:FC:=⟨[0,1,2,3,4],[⟨4,none⟩],R [U 2 28 0,U 3 28 1,o 4 (.mv F)] (R [f 5 0 2,l 6 5,B 7 .neq 6 (-1),m 8 7,q 8 (f 9 0 3),q 8 (l 10 9),q 8 (B 11 .neq 10 (-1)),P 12 8 11,m 13 12,q 13 (f 14 0 2),q 13 (l 15 14),q 13 (f 16 0 3),q 13 (l 17 16),q 13 (f 18 1 3),q 13 (l 19 18),q 13 (b 20 .add 17 19),q 13 (b 21 .lss 15 20),P 22 13 21,m 23 22,q 23 (f 24 0 3),q 23 (l 25 24),q 23 (f 26 0 2),q 23 (l 27 26),q 23 (f 28 1 2),q 23 (l 29 28),q 23 (b 30 .add 27 29),q 23 (b 31 .lss 25 30),P 32 23 31,m 4 32] j)⟩
def aat:CO 265 Ks 2:=bk f265 ak
def aAz:PC:=r [m 19 2,m 20 0,o 21 (.conv (.toInt .u8) (t 20)),o 22 (.idx (Y [0,1,2,2,3,3,3,3,4,4,4,4,4,4,4,4,5,5,5,5,5,5,5,5,5,5,5,5,5,5,5,5,6,6,6,6,6,6,6,6,6,6,6,6,6,6,6,6,6,6,6,6,6,6,6,6,6,6,6,6,6,6,6,6,7,7,7,7,7,7,7,7,7,7,7,7,7,7,7,7,7,7,7,7,7,7,7,7,7,7,7,7,7,7,7,7,7,7,7,7,7,7,7,7,7,7,7,7,7,7,7,7,7,7,7,7,7,7,7,7,7,7,7,7,7,7,7,7,8,8,8,8,8,8,8,8,8,8,8,8,8,8,8,8,8,8,8,8,8,8,8,8,8,8,8,8,8,8,8,8,8,8,8,8,8,8,8,8,8,8,8,8,8,8,8,8,8,8,8,8,8,8,8,8,8,8,8,8,8,8,8,8,8,8,8,8,8,8,8,8,8,8,8,8,8,8,8,8,8,8,8,8,8,8,8,8,8,8,8,8,8,8,8,8,8,8,8,8,8,8,8,8,8,8,8,8,8,8,8,8,8,8,8,8,8,8,8,8,8,8,8,8,8,8,8,8]) (t 21)),o 23 (.conv (.toInt .i64) (t 22)),b 24 .add 19 23,m 2 24]
def De:FC:=⟨[0,2],[⟨2,none⟩],R [M 2 0] (g (R [m 3 0,o 4 (.bin .geq (t 3) (.const (.int .u64 4294967296)))] (C 4 (R [m 5 0,o 6 (.bin .shr (t 5) (.const (.int .u64 32))),m 0 6] (r [M 2 32])) w)) (g (R [m 7 0,o 8 (.bin .geq (t 7) (.const (.int .u64 65536)))] (C 8 (R [m 9 0,o 10 (.bin .shr (t 9) (.const (.int .u64 16))),m 0 10] (r [m 11 2,B 12 .add 11 16,m 2 12])) w)) (g (R [m 13 0,o 14 (.bin .geq (t 13) (.const (.int .u64 256)))] (C 14 (R [m 15 0,o 16 (.bin .shr (t 15) (.const (.int .u64 8))),m 0 16] (r [m 17 2,B 18 .add 17 8,m 2 18])) w)) (g aAz j))))⟩
def Qi:CO 267 De 1:=bk f267 ak
def CZ:FC:=⟨[0,1,2,6],[⟨6,none⟩],R [o 6 (.mv F)] (R [m 7 1,m 8 0,b 9 .leq 7 8,m 10 9,q 10 (m 11 0),q 10 (m 12 2),q 10 (b 13 .leq 11 12),P 14 10 13,m 6 14] j)⟩
def Q7:CO 268 CZ 3:=bk f268 ak
def Co:FC:=⟨[0,2],[⟨2,none⟩],R [M 2 0] (R [m 3 0,c 4 215 [t 3],o 5 (.bin .sub (k 16) (t 4)),o 6 (.bin .shl (k 1) (t 5)),B 7 .add 6 3,B 8 .sub 7 1,m 2 8] j)⟩
def Ov:CO 269 Co 1:=bk f269 ak
def HW:FC:=⟨[0,2],[⟨2,none⟩],R [M 2 0] (R [m 3 0,c 4 175 [t 3],o 5 (.bin .sub (k 16) (t 4)),c 6 34 [t 5],B 7 .add 6 2,m 2 7] j)⟩
def VC:CO 270 HW 1:=bk f270 ak
def Iq:FC:=⟨[0,2],[⟨2,none⟩],R [o 2 (.mv (Y []))] (R [m 3 0,o 4 (.conv (.toInt .u8) (t 3)),m 5 0,o 6 (.bin .shr (t 5) (.const (.int .u64 8))),o 7 (.conv (.toInt .u8) (t 6)),o 8 (.bslice 5 1 [t 4,t 7]),o 9 (.conv .bts (t 8)),m 2 9] j)⟩
def VU:CO 271 Iq 1:=bk f271 ak
def aBM:PC:=G [1,2,7,8,9] (g (R [m 19 8,m 20 9,b 21 .leq 19 20] (C 21 w (h 0))) (g (H 1 (r [m 24 7,m 25 1,m 26 2,m 27 8,b 28 .add 26 27,i 29 1 25 28,l 30 29,o 31 (.bin .add (k 17) (t 30)),o 32 (.mm false (t 24) (t 31)),m 7 32])) (r [m 22 8,B 23 .add 22 1,m 8 23])))
def xE:FC:=⟨[0,1,2,6,7,8,9],[⟨6,none⟩],R [M 6 0] (R [m 10 1,m 11 2,B 12 .add 11 1,i 13 1 10 12,l 14 13,o 15 (.bin .add (k 9) (t 14)),m 7 15] (g (R [m 16 0,m 17 2,c 18 282 [t 16,t 17],M 8 3,m 9 18] (H 0 aBM)) (R [m 33 7,m 6 33] j)))⟩
def J6:CO 272 xE 3:=bk f272 ak
def tI:FC:=⟨[0,1,2,3,4],[⟨4,none⟩],R [U 2 223 0,U 3 3 1,o 4 (.mv (.const .nilFunc))] (R [o 5 (.mkf 283 [t 2,t 3]),m 4 5] j)⟩
def EO:CO 273 tI 2:=bk f273 ak
def aB0:PC:=G [0,1,5,6] (g (R [m 16 6,m 17 0,n 18 17,b 19 .lss 16 18] (C 19 w (h 0))) (g (H 1 (R [m 22 0,m 23 6,i 24 2 22 23,L 25 2 24,o 7 (.alloc 28 (.agg [I 0,I 0])),s 2 7 25] (R [m 26 1,L 27 2 7,o 28 (.callv (t 26) [t 27]),u 29 28] (C 29 (R [m 30 0,m 31 5,L 32 2 7,i 33 2 30 31,s 2 33 32] (r [m 34 5,B 35 .add 34 1,m 5 35])) w)))) (r [m 20 6,B 21 .add 20 1,m 6 21])))
def dE:FC:=⟨[0,1,4,5,6,7],[⟨4,none⟩],R [o 4 (.nilR 28 2)] (R [m 8 0,m 9 1,c 10 286 [t 8,t 9],m 5 10] (g (R [m 11 5,B 12 .eql 11 (-1)] (C 12 (R [m 13 0,m 4 13] j) w)) (g (R [m 14 5,B 15 .add 14 1,m 6 15] (H 0 aB0)) (R [m 36 0,m 37 5,o 38 (.slcR 2 (t 36) (some (t 37)) none),O (.clr 2 (.agg [I 0,I 0]) (t 38))] (R [m 39 0,m 40 5,o 41 (.slcR 2 (t 39) none (some (t 40))),m 4 41] j)))))⟩
def iL:CO 274 dE 2:=bk f274 ak
def tM:FC:=⟨[0,1,2,3],[⟨3,none⟩],R [U 2 28 0,o 3 (.mv F)] (R [f 4 1 2,l 5 4,l 6 1,b 7 .lss 5 6,m 3 7] j)⟩
def Gh:CO 275 tM 2:=bk f275 ak
def az_:PC:=G [0,1,2,3,8,9] (g (g (D [m 18 9,m 19 1,b 20 .gtr 18 19,m 21 20,q 21 (m 22 3),q 21 (m 23 0),q 21 (m 24 9),q 21 (i 25 2 23 24),q 21 (L 26 2 25),q 21 (m 27 0),q 21 (m 28 9),q 21 (B 29 .sub 28 1),q 21 (i 30 2 27 29),q 21 (L 31 2 30),q 21 (o 32 (.callv (t 22) [t 26,t 31])),q 21 (B 33 .lss 32 0),P 34 21 33] [[],[],[0,1],[2],[3],[3],[3],[5,6,3],[7,3],[3],[3],[10,3],[9,11,3],[12,3],[4,8,13,3,3],[14,3],[3,15]]) (C 34 w (h 2))) (g (H 3 (E [m 37 0,m 38 9,m 39 0,m 40 9,B 41 .sub 40 1,m 42 0,m 43 9,B 44 .sub 43 1,i 45 2 42 44,L 46 2 45,m 47 0,m 48 9,i 49 2 47 48,L 50 2 49,i 51 2 37 38,s 2 51 46,i 52 2 39 41,s 2 52 50] [[],[],[],[],[3],[],[],[6],[5,7],[8],[],[],[10,11],[12],[0,1,0,1,5,6,7,8,9,13],[14,9,0,1,5,6,7,8,9,13],[2,4,0,1,2,3,4,5,6,7,8,9,10,11,12,13,14,15],[16,13,15,0,1,2,3,4,5,6,7,8,9,10,11,12,13,14,15]])) (r [m 35 9,B 36 .sub 35 1,m 9 36])))
def aBA:PC:=G [0,1,2,3,8] (g (R [m 12 8,m 13 2,b 14 .lss 12 13] (C 14 w (h 0))) (g (H 1 (R [m 17 8,m 9 17] (H 2 az_))) (r [m 15 8,B 16 .add 15 1,m 8 16])))
def eX:FC:=⟨[0,1,2,3,8,9],[],R [m 10 1,B 11 .add 10 1,m 8 11] (H 0 aBA)⟩
def lx:CO 276 eX 4:=bk f276 ak
def aBh:PC:=G [0,1,4,10,11] (g (R [m 31 10,m 32 11,b 33 .lss 31 32] (C 33 w (h 0))) (H 1 (R [m 34 10,m 35 11,b 36 .add 34 35,o 37 (.conv (.toInt .u64) (t 36)),o 38 (.bin .shr (t 37) (.const (.int .u64 1))),o 39 (.conv (.toInt .i64) (t 38)),m 12 39] (g (D [m 40 4,m 41 0,m 42 12,i 43 2 41 42,L 44 2 43,m 45 0,m 46 1,i 47 2 45 46,L 48 2 47,o 49 (.callv (t 40) [t 44,t 48]),B 50 .lss 49 0] [[],[],[],[1,2],[3],[],[],[5,6],[7],[0,4,8],[9]]) (C 50 (r [m 51 12,B 52 .add 51 1,m 10 52]) (r [m 53 12,m 11 53]))))))
def aB5:PC:=G [0,10,13] (g (R [m 55 13,m 56 10,B 57 .sub 56 1,b 58 .lss 55 57] (C 58 w (h 2))) (g (H 3 (E [m 61 0,m 62 13,m 63 0,m 64 13,B 65 .add 64 1,m 66 0,m 67 13,B 68 .add 67 1,i 69 2 66 68,L 70 2 69,m 71 0,m 72 13,i 73 2 71 72,L 74 2 73,i 75 2 61 62,s 2 75 70,i 76 2 63 65,s 2 76 74] [[],[],[],[],[3],[],[],[6],[5,7],[8],[],[],[10,11],[12],[0,1,0,1,5,6,7,8,9,13],[14,9,0,1,5,6,7,8,9,13],[2,4,0,1,2,3,4,5,6,7,8,9,10,11,12,13,14,15],[16,13,15,0,1,2,3,4,5,6,7,8,9,10,11,12,13,14,15]])) (r [m 59 13,B 60 .add 59 1,m 13 60])))
def aAM:PC:=G [0,2,4,14,15] (g (R [m 83 14,m 84 15,b 85 .lss 83 84] (C 85 w (h 4))) (H 5 (R [m 86 14,m 87 15,b 88 .add 86 87,o 89 (.conv (.toInt .u64) (t 88)),o 90 (.bin .shr (t 89) (.const (.int .u64 1))),o 91 (.conv (.toInt .i64) (t 90)),m 16 91] (g (D [m 92 4,m 93 0,m 94 2,i 95 2 93 94,L 96 2 95,m 97 0,m 98 16,i 99 2 97 98,L 100 2 99,o 101 (.callv (t 92) [t 96,t 100]),B 102 .lss 101 0,u 103 102] [[],[],[],[1,2],[3],[],[],[5,6],[7],[0,4,8],[9],[10]]) (C 103 (r [m 104 16,B 105 .add 104 1,m 14 105]) (r [m 106 16,m 15 106]))))))
def aBn:PC:=G [0,14,17] (g (R [m 108 17,m 109 14,b 110 .gtr 108 109] (C 110 w (h 6))) (g (H 7 (E [m 113 0,m 114 17,m 115 0,m 116 17,B 117 .sub 116 1,m 118 0,m 119 17,B 120 .sub 119 1,i 121 2 118 120,L 122 2 121,m 123 0,m 124 17,i 125 2 123 124,L 126 2 125,i 127 2 113 114,s 2 127 122,i 128 2 115 117,s 2 128 126] [[],[],[],[],[3],[],[],[6],[5,7],[8],[],[],[10,11],[12],[0,1,0,1,5,6,7,8,9,13],[14,9,0,1,5,6,7,8,9,13],[2,4,0,1,2,3,4,5,6,7,8,9,10,11,12,13,14,15],[16,13,15,0,1,2,3,4,5,6,7,8,9,10,11,12,13,14,15]])) (r [m 111 17,B 112 .sub 111 1,m 17 112])))
def aA6:PC:=G [0,1,2,3,4,18,19,20,21,22] (g (R [m 149 20,m 150 21,b 151 .lss 149 150] (C 151 w (h 8))) (H 9 (R [m 152 20,m 153 21,b 154 .add 152 153,o 155 (.conv (.toInt .u64) (t 154)),o 156 (.bin .shr (t 155) (.const (.int .u64 1))),o 157 (.conv (.toInt .i64) (t 156)),m 23 157] (g (D [m 158 4,m 159 0,m 160 22,m 161 23,b 162 .sub 160 161,i 163 2 159 162,L 164 2 163,m 165 0,m 166 23,i 167 2 165 166,L 168 2 167,o 169 (.callv (t 158) [t 164,t 168]),B 170 .lss 169 0,u 171 170] [[],[],[],[],[2,3],[1,4],[5],[],[],[7,8],[9],[0,6,10],[11],[12]]) (C 171 (r [m 172 23,B 173 .add 172 1,m 20 173]) (r [m 174 23,m 21 174]))))))
def gn:FC:=⟨[0,1,2,3,4,10,11,12,13,14,15,16,17,18,19,20,21,22,23,24],[],g (R [m 25 2,m 26 1,b 27 .sub 25 26,B 28 .eql 27 1] (C 28 (R [m 29 2,m 10 29] (R [m 30 3,m 11 30] (g (H 0 aBh) (g (R [m 54 1,m 13 54] (H 2 aB5)) j)))) w)) (g (R [m 77 3,m 78 2,b 79 .sub 77 78,B 80 .eql 79 1] (C 80 (R [m 81 1,m 14 81] (R [m 82 2,m 15 82] (g (H 4 aAM) (g (R [m 107 2,m 17 107] (H 6 aBn)) j)))) w)) (R [m 129 1,m 130 3,b 131 .add 129 130,o 132 (.conv (.toInt .u64) (t 131)),o 133 (.bin .shr (t 132) (.const (.int .u64 1))),o 134 (.conv (.toInt .i64) (t 133)),m 18 134] (R [m 135 18,m 136 2,b 137 .add 135 136,m 19 137] (R [M 20 0,M 21 0] (g (R [m 138 2,m 139 18,b 140 .gtr 138 139] (C 140 (R [m 141 19,m 142 3,b 143 .sub 141 142,m 20 143] (r [m 144 18,m 21 144])) (R [m 145 1,m 20 145] (r [m 146 2,m 21 146])))) (R [m 147 19,B 148 .sub 147 1,m 22 148] (g (H 8 aA6) (R [m 175 19,m 176 20,b 177 .sub 175 176,m 24 177] (g (R [m 178 20,m 179 2,b 180 .lss 178 179,m 181 180,q 181 (m 182 2),q 181 (m 183 24),q 181 (b 184 .lss 182 183),P 185 181 184] (C 185 (r [m 186 0,m 187 20,m 188 2,m 189 24,m 190 4,c 191 287 [t 186,t 187,t 188,t 189,t 190]]) w)) (g (R [m 192 1,m 193 20,b 194 .lss 192 193,m 195 194,q 195 (m 196 20),q 195 (m 197 18),q 195 (b 198 .lss 196 197),P 199 195 198] (C 199 (r [m 200 0,m 201 1,m 202 20,m 203 18,m 204 4,c 205 277 [t 200,t 201,t 202,t 203,t 204]]) w)) (R [m 206 18,m 207 24,b 208 .lss 206 207,m 209 208,q 209 (m 210 24),q 209 (m 211 3),q 209 (b 212 .lss 210 211),P 213 209 212] (C 213 (r [m 214 0,m 215 18,m 216 24,m 217 3,m 218 4,c 219 277 [t 214,t 215,t 216,t 217,t 218]]) w))))))))))))⟩
def nE:CO 277 gn 5:=bk f277 ak
def mr:FC:=⟨[0,1,4],[⟨4,none⟩],R [o 4 (.mv F)] (R [m 5 0,m 6 1,c 7 288 [t 5,t 6],B 8 .geq 7 0,m 4 8] j)⟩
def vI:CO 278 mr 2:=bk f278 ak
def zJ:FC:=⟨[0,1,3],[⟨3,none⟩],R [o 3 (.mv F)] (R [l 4 1,m 5 0,o 6 (.callv (t 4) [t 5]),u 7 6,m 3 7] j)⟩
def M6:CO 279 zJ 2:=bk f279 ak
def zR:FC:=⟨[0,1,4],[⟨4,none⟩],R [M 4 0] (R [m 5 0,m 6 1,c 7 289 [t 5,t 6],m 4 7] j)⟩
def MC:CO 280 zR 2:=bk f280 ak
def lG:FC:=⟨[0,1,4],[⟨4,none⟩],R [o 4 (.mv F)] (R [m 5 0,y 6 5,m 7 1,y 8 7,b 9 .geq 6 8,m 10 9,q 10 (m 11 0),q 10 (m 12 0),q 10 (y 13 12),q 10 (m 14 1),q 10 (y 15 14),q 10 (b 16 .sub 13 15),q 10 (o 17 (.slcS (t 11) (some (t 16)) none)),q 10 (m 18 1),q 10 (b 19 .eql 17 18),P 20 10 19,m 4 20] j)⟩
def uY:CO 281 lG 2:=bk f281 ak
def azX:PC:=.rangeF (t 10) [11,12] [m 7 12] (H 1 (r [m 13 7,s 1 5 13]))
def si:FC:=⟨[0,1,4,5,7,10],[⟨4,none⟩],R [M 4 0] (R [o 5 (.alloc 3 (.int .i64 0)),S 1 5 0] (g (R [m 8 0,m 9 1,c 10 273 [t 8,t 9]] (H 0 azX)) (R [l 14 5,m 4 14] j)))⟩
def DS:CO 282 si 2:=bk f282 ak
def xF:FC:=⟨[0,1,4],[⟨4,none⟩],R [M 4 0] (R [m 5 1,c 6 269 [t 5],m 7 0,y 8 7,m 9 1,b 10 .sub 8 9,o 11 (.mm false (t 6) (t 10)),m 4 11] j)⟩
def Kr:CO 284 xF 2:=bk f284 ak
def aCd:PC:=G [0,1,2,7,8] (g (g (D [m 12 7,m 13 8,b 14 .lss 12 13,m 15 14,q 15 (m 16 0),q 15 (m 17 1),q 15 (m 18 7),q 15 (b 19 .add 17 18),q 15 (o 20 (.idx (t 16) (t 19))),q 15 (m 21 0),q 15 (m 22 1),q 15 (m 23 7),q 15 (b 24 .add 22 23),q 15 (m 25 2),q 15 (b 26 .sub 24 25),q 15 (o 27 (.idx (t 21) (t 26))),q 15 (b 28 .eql 20 27),P 29 15 28] [[],[],[0,1],[2],[3],[3],[3],[5,6,3],[4,7,3],[3],[3],[3],[10,11,3],[3],[12,13,3],[9,14,3],[8,15,3],[3,16]]) (C 29 w (h 0))) (H 1 (r [m 30 7,B 31 .add 30 1,m 7 31])))
def v8:FC:=⟨[0,1,2,6,7,8],[⟨6,none⟩],R [M 6 0] (R [m 9 0,m 10 1,c 11 284 [t 9,t 10],M 7 0,m 8 11] (g (H 0 aCd) (R [m 32 7,m 6 32] j)))⟩
def IK:CO 285 v8 3:=bk f285 ak
def aBJ:PC:=G [0,1,7,8] (R [b 9 .lss 8 7] (g (C 9 w (h 0)) (g (H 1 (R [m 10 8,m 5 10] (R [m 11 1,m 12 0,m 13 5,i 14 2 12 13,L 15 2 14,o 16 (.callv (t 11) [t 15])] (C 16 (R [m 17 5,m 4 17] j) w)))) (r [B 18 .add 8 1,m 8 18]))))
def dI:FC:=⟨[0,1,4,5,7,8],[⟨4,none⟩],R [M 4 0] (g (R [m 6 0,n 7 6,M 8 0] (H 0 aBJ)) (R [M 4 (-1)] j))⟩
def iO:CO 286 dI 2:=bk f286 ak
def aB1:PC:=G [0,2,4,10,11] (g (R [m 18 10,m 19 11,b 20 .neq 18 19] (C 20 w (h 0))) (H 1 (R [m 21 10,m 22 11,b 23 .gtr 21 22] (C 23 (R [m 24 0,m 25 2,m 26 10,b 27 .sub 25 26,m 28 2,m 29 11,m 30 4,c 31 290 [t 24,t 27,t 28,t 29,t 30]] (r [m 32 10,m 33 11,b 34 .sub 32 33,m 10 34])) (R [m 35 0,m 36 2,m 37 10,b 38 .sub 36 37,m 39 2,m 40 11,b 41 .add 39 40,m 42 10,b 43 .sub 41 42,m 44 10,m 45 4,c 46 290 [t 35,t 38,t 43,t 44,t 45]] (r [m 47 11,m 48 10,b 49 .sub 47 48,m 11 49]))))))
def gY:FC:=⟨[0,1,2,3,4,10,11],[],R [m 12 2,m 13 1,b 14 .sub 12 13,m 10 14] (R [m 15 3,m 16 2,b 17 .sub 15 16,m 11 17] (g (H 0 aB1) (r [m 50 0,m 51 2,m 52 10,b 53 .sub 51 52,m 54 2,m 55 10,m 56 4,c 57 290 [t 50,t 53,t 54,t 55,t 56]])))⟩
def oL:CO 287 gY 5:=bk f287 ak
def aAQ:PC:=G [0,1,7,8] (R [b 9 .lss 8 7] (g (C 9 w (h 0)) (g (H 1 (R [m 10 8,m 5 10] (R [m 11 1,m 12 0,m 13 5,i 14 1 12 13,l 15 14,o 16 (.callv (t 11) [t 15])] (C 16 (R [m 17 5,m 4 17] j) w)))) (r [B 18 .add 8 1,m 8 18]))))
def oO:FC:=⟨[0,1,4,5,7,8],[⟨4,none⟩],R [M 4 0] (g (R [m 6 0,n 7 6,M 8 0] (H 0 aAQ)) (R [M 4 (-1)] j))⟩
def zj:CO 288 oO 2:=bk f288 ak
def aA_:PC:=G [0,1,2,3,10] (g (R [m 11 10,m 12 3,b 13 .lss 11 12] (C 13 w (h 0))) (g (H 1 (E [m 16 0,m 17 1,m 18 10,b 19 .add 17 18,m 20 0,m 21 2,m 22 10,b 23 .add 21 22,m 24 0,m 25 2,m 26 10,b 27 .add 25 26,i 28 2 24 27,L 29 2 28,m 30 0,m 31 1,m 32 10,b 33 .add 31 32,i 34 2 30 33,L 35 2 34,i 36 2 16 19,s 2 36 29,i 37 2 20 23,s 2 37 35] [[],[],[],[1,2],[],[],[],[5,6],[],[],[],[9,10],[8,11],[12],[],[],[],[15,16],[14,17],[18],[0,3,0,1,2,3,8,9,10,11,12,13,19],[20,13,0,1,2,3,8,9,10,11,12,13,19],[4,7,0,1,2,3,4,5,6,7,8,9,10,11,12,13,14,15,16,17,18,19,20,21],[22,19,21,0,1,2,3,4,5,6,7,8,9,10,11,12,13,14,15,16,17,18,19,20,21]])) (r [m 14 10,B 15 .add 14 1,m 10 15])))
def fW:FC:=⟨[0,1,2,3,10],[],R [M 10 0] (H 0 aA_)⟩
def nw:CO 290 fW 5:=bk f290 ak
end Go.Dv.Try
namespace Go.Proofs
def Tryz.fZ:Go.Shelf.Ren:=⟨λ|105=>131|212=>183|99=>184|165=>185|166=>186|170=>187|169=>188|263=>220|264=>221|206=>222|240=>223|241=>224|276=>249|277=>250|n=>n,λ|9=>9|3=>3|4=>4|20=>20|0=>0|46=>179|109=>180|5=>5|72=>185|76=>189|51=>215|146=>216|53=>218|148=>219|70=>183|37=>123|75=>188|127=>221|164=>242|80=>90|n=>n,λ|n=>n⟩
def Tryz.GL:Go.Proofs.Lays.n105 Tryz.prog Tryz.fZ:={
 mixed:=by kernel_rfl
 f99:=Tryz.func184.trans (congrArg some (by kernel_rfl))
 f105:=Tryz.func131.trans (congrArg some (by kernel_rfl))
 f165:=Tryz.func185.trans (congrArg some (by kernel_rfl))
 f166:=Tryz.func186.trans (congrArg some (by kernel_rfl))
 f169:=Tryz.func188.trans (congrArg some (by kernel_rfl))
 f170:=Tryz.func187.trans (congrArg some (by kernel_rfl))
 f206:=Tryz.func222.trans (congrArg some (by kernel_rfl))
 f212:=Tryz.func183.trans (congrArg some (by kernel_rfl))
 f240:=Tryz.func223.trans (congrArg some (by kernel_rfl))
 f241:=Tryz.func224.trans (congrArg some (by kernel_rfl))
 f263:=Tryz.func220.trans (congrArg some (by kernel_rfl))
 f264:=Tryz.func221.trans (congrArg some (by kernel_rfl))
 f276:=Tryz.func249.trans (congrArg some (by kernel_rfl))
 f277:=Tryz.func250.trans (congrArg some (by kernel_rfl))
 t0:=Tryz.underlying0
 a0:=Tryz.isAgg0
 z0:=Tryz.sizeOf0
 v0:=Tryz.zeroValue0
 t3:=Tryz.underlying3
 a3:=Tryz.isAgg3
 z3:=Tryz.sizeOf3
 v3:=Tryz.zeroValue3
 t4:=Tryz.underlying4
 a4:=Tryz.isAgg4
 z4:=Tryz.sizeOf4
 v4:=Tryz.zeroValue4
 t5:=Tryz.underlying5
 a5:=Tryz.isAgg5
 z5:=Tryz.sizeOf5
 v5:=Tryz.zeroValue5
 t9:=Tryz.underlying9
 a9:=Tryz.isAgg9
 z9:=Tryz.sizeOf9
 v9:=Tryz.zeroValue9
 t20:=Tryz.underlying20
 a20:=Tryz.isAgg20
 z20:=Tryz.sizeOf20
 v20:=Tryz.zeroValue20
 t37:=Tryz.underlying123
 a37:=Tryz.isAgg123
 z37:=Tryz.sizeOf123
 v37:=Tryz.zeroValue123
 t46:=Tryz.underlying179
 a46:=Tryz.isAgg179
 z46:=Tryz.sizeOf179
 v46:=Tryz.zeroValue179
 t51:=Tryz.underlying215
 a51:=Tryz.isAgg215
 z51:=Tryz.sizeOf215
 v51:=Tryz.zeroValue215
 t53:=Tryz.underlying218
 a53:=Tryz.isAgg218
 z53:=Tryz.sizeOf218
 v53:=Tryz.zeroValue218
 t70:=Tryz.underlying183
 a70:=Tryz.isAgg183
 z70:=Tryz.sizeOf183
 v70:=Tryz.zeroValue183
 t72:=Tryz.underlying185
 a72:=Tryz.isAgg185
 z72:=Tryz.sizeOf185
 v72:=Tryz.zeroValue185
 t75:=Tryz.underlying188
 a75:=Tryz.isAgg188
 z75:=Tryz.sizeOf188
 v75:=Tryz.zeroValue188
 t76:=Tryz.underlying189
 a76:=Tryz.isAgg189
 z76:=Tryz.sizeOf189
 v76:=Tryz.zeroValue189
 t109:=Tryz.underlying180
 a109:=Tryz.isAgg180
 z109:=Tryz.sizeOf180
 v109:=Tryz.zeroValue180
 t127:=Tryz.underlying221
 a127:=Tryz.isAgg221
 z127:=Tryz.sizeOf221
 v127:=Tryz.zeroValue221
 t146:=Tryz.underlying216
 a146:=Tryz.isAgg216
 z146:=Tryz.sizeOf216
 v146:=Tryz.zeroValue216
 t148:=Tryz.underlying219
 a148:=Tryz.isAgg219
 z148:=Tryz.sizeOf219
 v148:=Tryz.zeroValue219
 t164:=Tryz.underlying242
 a164:=Tryz.isAgg242
 z164:=Tryz.sizeOf242
 v164:=Tryz.zeroValue242 }
def Tryz.pH:Builder.Extra Tryz.prog Tryz.fZ:={
 sizeBuilder:=by kernel_rfl
 liesBuilder:=by kernel_rfl
 t5:=Tryz.underlying5
 a5:=Tryz.isAgg5
 z5:=Tryz.sizeOf5
 v5:=Tryz.zeroValue5
 infoByte:=by kernel_rfl
 cellsByte:=by kernel_rfl
 sizeByte:=by kernel_rfl
 neB5:=by decide }
end Go.Proofs
namespace Go.Dv.Try
open Go Go.Dv Go.RowKit
section
def alf(l:List UInt8):Nat->List UInt8
 |0=>[]
 |c+1=>l++alf l c
def am6(l:List UInt8):∀c,Lib.repeatL l c=alf l c
 |0=>rfl
 |c+1=>by simp only[Lib.repeatL,alf,am6 l c]
def ank{P:Program}{f:FuncId}(R:List PV->PV->Prop)(avv:Enters P f)(akn:∀ps x,R ps x->x.flat)(h:∀(w:World) (ok:Nat->Prop) (ps:List PV) (x:PV) (vs:Array Value),ew ok w ps vs.toList->R ps x->Calls P f vs w λe w'=>∃v,e=.returned v/\Rd (λ_=>False) w' x v/\Below w.heap.size w w'):an P f (ah R):=by
 refine⟨λe=>((ax R).1 e).2,λ_=>⟨rfl,rfl⟩,?_,λ_ _ _ _ _ _ _ _ h=>(show False from h).elim,λ_ _ _ _ _ _ _ _ e=>(by cases e)⟩;rintro w ok ps vs K _ di rT ⟨x,hx,hK⟩;refine⟨avv,(h w ok ps x vs rT hx).mono ?_⟩;rintro e w' ⟨v,rfl,h1,h2⟩;exact⟨v,.pv x,[],rfl,hK,h2,by simp only[RR];exact⟨anW (akn ps x hx) h1,trivial⟩,by simp,λi j u t b _ hu=>by simp at hu⟩
def Lo(ps:List PV)(x:PV):Prop:=∃(l:List UInt8) (c:Int),ps=[.str l,.int .i64 c]/\(0<=c/\c<=1000000/\l.length<=1000000)/\x=.str (alf l c.toNat)
def aqk:an Go.Proofs.Tryz.prog rf (ah Lo):=by
 refine ank Lo (Go.Proofs.enters_of Go.Proofs.Tryz.GL.f105 (by kernel_rfl) rfl) ?_ ?_
 ·rintro ps x ⟨l,c,rfl,_,rfl⟩;trivial
 ·rintro w ok ps x vs rT ⟨l,c,rfl,⟨h1,h2,h3⟩,rfl⟩;simp only[ew,Rd]at rT;obtain⟨_,_,e,rfl,_,_,rfl,rfl,rfl⟩:=rT;have:vs= #[.string ⟨l.toArray⟩,.int .i64 c]:=by rw[<-zb2];exact e
  subst this;have hb:l.length*c.toNat<=1000000*1000000:=Nat.mul_le_mul h3 (by omega);have:=Go.Proofs.Any.strings_Repeat Go.Proofs.Tryz.GL Go.Proofs.Tryz.pH ⟨l.toArray⟩ c.toNat w (by omega) (by show l.length*c.toNat<=_;omega);rw[show((c.toNat:Nat):Int)=c by omega]at this;refine this.mono ?_;rintro e w' ⟨rfl,h⟩;exact⟨_,rfl,by simp only[Rd,am6],h⟩
def aA1:PV:=.val (.pointer none)
def ak2:aF:=[.box cT [.pv aA1,.pv (.nil 1)]]
def ach(l:List UInt8):aF:=[.box cT [.ref 0 0 0,.own 1],.row 5 1 true (l.map aL)]
def C4(xs:List AV)(σ:aF)(K:AV->aF->Prop):Prop:=
 xs=[.ref 0 0 0]/\((σ=ak2/\K (.tup []) [.box cT [.ref 0 0 0,.pv (.nil 1)]])∨∃l,σ=ach l/\K (.tup []) (ach l))
def TC:Enters Go.Proofs.Tryz.prog ei:=Go.Proofs.enters_of Go.Proofs.Tryz.GL.f240 (by kernel_rfl) rfl
def af2:an Go.Proofs.Tryz.prog ei (sB C4):=by
 refine⟨λe=>(by cases e),λe=>(by cases e),λ_ _ _ _ _ e=>(by cases e),λ_ _ _ _ _ _ _ _ h=>(show False from h).elim,?_⟩;rintro w ok di σ0 eR xs vs K _ PD ub ⟨rfl,hK⟩;refine⟨TC,?_⟩;simp only[fY]at ub;obtain⟨v,_,hv,Vo,rfl⟩:=ub;have y9:vs= #[v]:=by rw[<-zb2];exact hv
 subst y9;rcases hK with⟨rfl,hK⟩|⟨l,rfl,hK⟩
 ·have hl:=PD.len;obtain⟨u,rfl⟩:∃u,eR=[u]:=by
   cases eR with
   |nil=>simp[ak2]at hl
   |cons u t=>cases t with
    |nil=>exact⟨u,rfl⟩
    |cons _ _=>simp[ak2]at hl
  have tZ:=PD.sV 0 _ u rfl rfl;obtain⟨b,arr,rfl,eh,hb,h1,h2⟩:=tZ;simp only[RA]at Vo;obtain⟨_,_,_,xe⟩:=Vo;obtain⟨u,b',hu,Cs,rfl⟩:=xe _ rfl rfl;simp at hu;subst hu;simp[cE]at Cs;subst Cs;simp only[fY,RA,Rd,aA1]at h2;obtain⟨x,r,e,⟨rfl,_⟩,y,r2,rfl,rfl,rfl⟩:=h2;have UE:arr= #[.pointer none,.slice none 0 0]:=by rw[<-zb2];exact e
  subst UE;refine(Go.Proofs.Any.Builder_copyCheck_fresh { Go.Proofs.Tryz.GL with } Go.Proofs.Tryz.pH.toX72 b w (by simp[World.cell?,hb]) (by simp[World.shape?,hb];rfl) (by simp[World.frozen?,hb])).mono ?_;rintro e w' ⟨rfl,rfl⟩;have cb:∀k,k≠b->(w.setCell ⟨b,0,none⟩ (.pointer (some ⟨b,0,none⟩))).heap[k]?=w.heap[k]?:=λk hk=>Below.heap_setCell _ _ _ _ hk
  have PB:(w.setCell ⟨b,0,none⟩ (.pointer (some ⟨b,0,none⟩))).heap[b]?=some (.cells #[.pointer (some ⟨b,0,none⟩),.slice none 0 0] cT (0,0)):=by
   simp[World.setCell,zcn,hb]
  obtain⟨h3,_⟩:=PD.write (id:=0) (s:=.box cT [.pv aA1,.pv (.nil 1)]) (s':=.box cT [.ref 0 0 0,.pv (.nil 1)]) (u:=.pointer (some ⟨b,0,none⟩)) (g:=b) rfl rfl rfl trivial rfl rfl cb (by simp[World.setCell]) rfl rfl rfl
   (λ_=>⟨b,_,rfl,eh,PB,by simp[AV.one,PV.one],by
     simp only[fY,RA,Rd];refine⟨_,_,rfl,⟨by simp[ak2],⟨_,rfl⟩,λe sz ap aC h=>by simp[ak2]at h,λe cs h=>⟨_,b,rfl,rfl,rfl⟩⟩,_,_,rfl,rfl,rfl⟩⟩)
  exact⟨_,_,_,_,rfl,hK,h3,by simp only[RA];exact⟨#[],rfl,by simp[fY]⟩⟩
 ·obtain⟨u,t,rfl⟩:∃u t,eR=[u,t]:=by
   have hl:=PD.len
   match eR,hl with
   |[u,t],_=>exact⟨u,t,rfl⟩
  have tZ:=PD.sV 0 _ u rfl rfl;obtain⟨b,arr,rfl,eh,hb,h1,h2⟩:=tZ;simp only[RA]at Vo;obtain⟨_,_,_,xe⟩:=Vo;obtain⟨u,b',hu,Cs,rfl⟩:=xe _ rfl rfl;simp at hu;subst hu;simp[cE]at Cs;subst Cs;simp only[fY,RA]at h2;obtain⟨x,r,e,⟨_,_,_,hx⟩,y,r2,rfl,hy,rfl⟩:=h2;obtain⟨u,b',hu,Cs,rfl⟩:=hx _ rfl rfl;simp at hu;subst hu;simp[cE]at Cs;subst Cs;have UE:arr= #[.pointer (some ⟨b,0,none⟩),y]:=by rw[<-zb2];exact e
  subst UE;refine(Go.Proofs.Any.Builder_copyCheck_used { Go.Proofs.Tryz.GL with } Go.Proofs.Tryz.pH.toX72 b w (by simp[World.cell?,hb])).mono ?_;rintro e w' ⟨rfl,rfl⟩;exact⟨_,_,_,_,rfl,hK,PD,by simp only[RA];exact⟨#[],rfl,by simp[fY]⟩⟩
open Go.Shelf Go.Proofs in
set_option maxHeartbeats 2000000 in
set_option maxRecDepth 100000 in
def amz(b g cap:Nat)(q:Value)(cur:Array Value)(l:List UInt8)(w:World)(hbk:w.heap[b]?=some (.cells #[q,.slice (some ⟨g,0,none⟩) l.length cap] cT (0,0)))(hg:w.heap[g]?=some (.cells cur 5 (0,0)))(h0:l≠[])(mO:l.length<=cap)(AQ:cap<=maxLen)(sH:cur.size=cap*1)
 (aeP:cur.toList.take (l.length*1)=Lib.byteCells l):
 Calls Go.Proofs.Tryz.prog 188 #[.pointer (some ⟨b,0,none⟩)] w λe w'=>e=.returned (.string ⟨l.toArray⟩)/\(w'.os=w.os/\w'.tape=w.tape/\w'.output=w.output/\w'.heap.size=w.heap.size∧∀k,k≠g->w'.heap[k]?=w.heap[k]?):=by
 have hl0:l.length≠0:=by simpa using h0
 have L:Go.Proofs.Lays.n169 Go.Proofs.Tryz.prog Go.Proofs.Tryz.fZ:={ Go.Proofs.Tryz.GL with }
 have X:=Go.Proofs.Tryz.pH;have eh:w.ownsRow 0 5 1 (.slice (some ⟨g,0,none⟩) l.length cap) l.length (Lib.byteCells l):=⟨by rw[Lib.byteCells_length,Nat.mul_one],.inr ⟨g,cap,cur,rfl,zbV _,hg,mO,AQ,sH,aeP⟩⟩
 have c1:w.drew.cell? ⟨b,1,none⟩=some (.slice (some ⟨g,0,none⟩) l.length cap):=by
  have:w.drew.heap[b]?=some (.cells #[q,.slice (some ⟨g,0,none⟩) l.length cap] cT (0,0)):=hbk;rw[Lib.cell_of_heap this];rfl
 have hSD:(Builtin.unsafeSliceData_ #[(Go.Proofs.Tryz.fZ.t 37)] (Go.Proofs.Tryz.fZ.t 127) #[.slice (some ⟨g,0,none⟩) l.length cap]).run Go.Proofs.Tryz.prog w.drew=.ok (.pointer (some ⟨g,0,none⟩)) w.drew:=
  Lib.run_unsafeSliceData_row _ _ _ _ _ _ (by omega)
 have hUS:(Builtin.unsafeString_ #[(Go.Proofs.Tryz.fZ.t 127),(Go.Proofs.Tryz.fZ.t 3)] (Go.Proofs.Tryz.fZ.t 9) #[.pointer (some ⟨g,0,none⟩),.int .i64 l.length]).run Go.Proofs.Tryz.prog w.drew=.ok (.string ⟨l.toArray⟩) (w.drew.freeze ⟨g,0,none⟩ l.length):=by
  refine Lib.run_unsafeString_row w.drew (Go.Proofs.Tryz.fZ.t 127) (Go.Proofs.Tryz.fZ.t 3) (Go.Proofs.Tryz.fZ.t 9) (Go.Proofs.Tryz.fZ.t 5) L.t127 X.cellsByte g cur.size (by have jA:w.drew.heap[g]?=some (.cells cur 5 (0,0)):=hg;simp[World.shape?,jA];rfl) l h0 (by omega) (by unfold maxLen at AQ;omega) ?_;intro j x hx;have:=eh.cells (g:=g) rfl j (.int .u8 x.toNat) (by simp[Lib.byteCells,hx]);exact this
 have mixed:=L.mixed;have t72:=L.t72;have a72:=L.a72;have z72:=L.z72;have v72:=L.v72;have u72:=run_underlying L.t72;have t70:=L.t70;have a70:=L.a70;have z70:=L.z70;have v70:=L.v70;have u70:=run_underlying L.t70;have t37:=L.t37;have a37:=L.a37;have z37:=L.z37;have v37:=L.v37;have u37:=run_underlying L.t37;have t127:=L.t127;have a127:=L.a127;have z127:=L.z127;have v127:=L.v127;have aO6:=run_underlying L.t127;have t3:=L.t3;have a3:=L.a3;have z3:=L.z3;have v3:=L.v3;have u3:=run_underlying L.t3;have t9:=L.t9;have a9:=L.a9;have z9:=L.z9;have v9:=L.v9;have u9:=run_underlying L.t9;have t5:=X.t5;have a5:=X.a5;have z5:=X.z5;have v5:=X.v5;have u5:=run_underlying X.t5;have fin:∀n,(w.drew.freeze ⟨g,0,none⟩ n).os=w.os/\(w.drew.freeze ⟨g,0,none⟩ n).tape=w.tape/\(w.drew.freeze ⟨g,0,none⟩ n).output=w.output/\(w.drew.freeze ⟨g,0,none⟩ n).heap.size=w.heap.size∧∀k,k≠g->(w.drew.freeze ⟨g,0,none⟩ n).heap[k]?=w.heap[k]?:=by
  intro n;unfold World.freeze;split
  ·exact⟨rfl,rfl,rfl,rfl,λ_ _=>rfl⟩
  ·refine⟨rfl,rfl,rfl,by simp,λk hk=>?_⟩;simp only[zcn];rw[if_neg (λe=>hk e.symm)];rfl
 go_enter L.f169,Body.n169_ntmps Go.Proofs.Tryz.fZ
 go_wp2
 go_region_o
 all_goals(go_wp2;go_ret;exact⟨rfl,fin _⟩)
def ZR(xs:List AV)(σ:aF)(K:AV->aF->Prop):Prop:=
 xs=[.ref 0 0 0]∧∃l:List UInt8,l≠[]/\σ=ach l/\K (.pv (.str l)) [.dead,.dead]
def aqS:an Go.Proofs.Tryz.prog mn (sB ZR):=by
 refine⟨λe=>(by cases e),λe=>(by cases e),λ_ _ _ _ _ e=>(by cases e),λ_ _ _ _ _ _ _ _ h=>(show False from h).elim,?_⟩;rintro w ok di σ0 eR xs vs K _ PD ub ⟨rfl,l,h0,rfl,hK⟩;refine⟨Go.Proofs.enters_of Go.Proofs.Tryz.GL.f169 (by kernel_rfl) rfl,?_⟩;simp only[fY]at ub;obtain⟨v,_,hv,Vo,rfl⟩:=ub;have y9:vs= #[v]:=by rw[<-zb2];exact hv
 subst y9;obtain⟨u,t,rfl⟩:∃u t,eR=[u,t]:=by
  have hl:=PD.len
  match eR,hl with
  |[u,t],_=>exact⟨u,t,rfl⟩
 have tZ:=PD.sV 0 _ u rfl rfl;obtain⟨b,arr,rfl,eh,hb,h1,h2⟩:=tZ;simp only[RA]at Vo;obtain⟨_,_,_,xe⟩:=Vo;obtain⟨u,b',hu,Cs,rfl⟩:=xe _ rfl rfl;simp at hu;subst hu;simp[cE]at Cs;subst Cs;simp only[fY,RA]at h2;obtain⟨x,r,e,⟨_,_,_,hx⟩,y,r2,rfl,hy,rfl⟩:=h2;obtain⟨u,b',hu,Cs,rfl⟩:=hx _ rfl rfl;simp at hu;subst hu;simp[cE]at Cs;subst Cs;simp at hy;subst hy;have UE:arr= #[.pointer (some ⟨b,0,none⟩),t]:=by rw[<-zb2];exact e
 subst UE;have ly:=PD.sV 1 _ t rfl rfl;obtain⟨_,cells,h3,h4,h5,h6⟩:=ly;have UD:cells=Lib.byteCells l:=by
  rw[l_,EJ]at h6;exact h6
 subst UD;rw[zav]at h3;rcases h3.2 with⟨_,hz⟩|⟨g,cap,cur,fr,rfl,hog,hg,mO,AQ,sH,aeP,pe⟩
 ·exact absurd (zae hz) h0
 have aKI:fr=(0,0):=by
  rcases pe with h|⟨h,_⟩
  ·exact h
  ·cases h
 subst aKI;refine(amz b g cap _ cur l w hb hg h0 mO AQ sH aeP).mono ?_;rintro e w' ⟨rfl,ho,ht,hou,mD,zZ⟩;refine⟨_,.pv (.str l),[.dead,.dead],[.pointer (some ⟨b,0,none⟩),.slice (some ⟨g,0,none⟩) l.length cap],rfl,hK,?_,by simp only[RA,Rd]⟩;have kp:∀b2,¬WB [dC.dead,dC.dead] [Value.pointer (some ⟨b,0,none⟩),Value.slice (some ⟨g,0,none⟩) l.length cap] b2:=by
  rintro b2 ⟨i,s,v,hi,hl,_⟩;rcases i with _|_|i
  ·cases hi;cases hl
  ·cases hi;cases hl
  ·simp at hi
 refine⟨⟨ho,ht,hou,by rw[mD];exact zai _,λk hk tT=>zZ k (λe=>tT (e▸hog))⟩,PD.one,rfl,λi s v hi hv=>?_,λi j s t u v b2 _ hi _ hl=>?_,⟨by rw[mD];exact zai _,λ_ h=>h.elim,λb2 hm=>absurd hm (kp b2)⟩,⟨λi v h=>h,by simp[nY,ach],λi hi e sz ap aC h=>?_,λi hi s h s9=>?_⟩⟩
 ·rcases i with _|_|i
  ·cases hi;trivial
  ·cases hi;trivial
  ·simp at hi
 ·rcases i with _|_|i
  ·cases hi;cases hl
  ·cases hi;cases hl
  ·simp at hi
 ·rcases i with _|_|i
  ·cases h
  ·cases h
  ·simp at h
 ·rcases i with _|_|i
  ·cases h;cases s9
  ·cases h;cases s9
  ·simp at h
end
end Go.Dv.Try
namespace Go.Proofs
def Tryz.ajR:Go.Shelf.Ren:=⟨λ|217=>289|266=>291|n=>n,λ|9=>9|5=>5|3=>3|n=>n,λ|n=>n⟩
def Tryz.ane:Go.Proofs.Lays.n217 Tryz.prog Tryz.ajR:={
 mixed:=by kernel_rfl
 f217:=Tryz.func289.trans (congrArg some (by kernel_rfl))
 f266:=Tryz.func291.trans (congrArg some (by kernel_rfl))
 t3:=Tryz.underlying3
 a3:=Tryz.isAgg3
 z3:=Tryz.sizeOf3
 v3:=Tryz.zeroValue3
 t5:=Tryz.underlying5
 a5:=Tryz.isAgg5
 z5:=Tryz.sizeOf5
 v5:=Tryz.zeroValue5
 t9:=Tryz.underlying9
 a9:=Tryz.isAgg9
 z9:=Tryz.sizeOf9
 v9:=Tryz.zeroValue9 }
end Go.Proofs
namespace Go.Dv.Try
open Go Go.Dv Go.RowKit
def qc(ps:List PV)(x:PV):Prop:=∃(l:List UInt8) (c:UInt8),ps=[.str l,aL c]/\x=pI (Lib.indexByte l c)
def af6:an Go.Proofs.Tryz.prog gF (ah qc):=by
 refine ank qc (Go.Proofs.enters_of Go.Proofs.Tryz.ane.f217 (by kernel_rfl) rfl) ?_ ?_
 ·rintro ps x ⟨l,c,rfl,rfl⟩;trivial
 ·rintro w ok ps x vs rT ⟨l,c,rfl,rfl⟩;simp only[ew,Rd,aL]at rT;obtain⟨_,_,e,rfl,_,_,rfl,rfl,rfl⟩:=rT;have:vs= #[.string ⟨l.toArray⟩,.int .u8 (c.toNat:Nat)]:=by rw[<-zb2];exact e
  subst this;refine(Go.Proofs.Any.stringslite_IndexByte Go.Proofs.Tryz.ane ⟨l.toArray⟩ (c.toNat:Nat) w).mono ?_;rintro e w' ⟨rfl,rfl⟩;refine⟨_,rfl,?_,Below.refl _ _⟩;simp only[Rd,pI];simp
end Go.Dv.Try
namespace Go.Dv.Try
open Go Go.Dv
def Qh(n:Nat):Nat:=if n=0 then 0 else Nat.log2 n+1
def Qk{n k:Nat}:Qh n<=k↔n<2^k:=by
 unfold Qh;split
 ·rename_i h;subst h;simp[zcj]
 ·rename_i h;rw[Nat.succ_le_iff];exact Nat.log2_lt h
def dh(a:Nat):Nat:=max 4 (Qh (a-1))
def pY(a:Int):Int:=(dh a.toNat:Int)
def KK(a:Nat):Nat:=2^(16-dh a)+2
def zE(a:Int):Int:=(KK a.toNat:Int)
def tw{a:Nat}(h:a<=4096):dh a<=12:=by
 unfold dh;rw[Nat.max_le];exact⟨ab,Qk.2 ab⟩
def wJ(a:Nat):4<=dh a:=Nat.le_max_left ..
def Hk{a:Int}(h:a<=4096):4<=pY a/\pY a<=12:=by
 have:=tw (a:=a.toNat) ab;have:=wJ a.toNat;unfold pY;omega
def UQ{a:Int}(h:a<=4096):18<=zE a/\zE a<=4098:=by
 have h1:=tw (a:=a.toNat) ab;have h2:=wJ a.toNat;unfold zE KK;have h3:2^4<=2^(16-dh a.toNat):=zb6 ab ab;have h4:2^(16-dh a.toNat)<=2^12:=zb6 ab ab;omega
def aiG{a s:Nat}(h:4<=s):dh a<=s↔a<=2^s:=by
 unfold dh;rw[Nat.max_le,Qk];have:=zcj s;omega
structure cI where
 d:Int
 l:Int
 b:Int
deriving DecidableEq
def cI.pv(t:cI):PV:=.agg [pI t.d,pI t.l,pI t.b]
def cI.copy(t:cI):Bool:=decide (t.d≠0)
def cI.made(t:cI):Int:=if t.d≠0 then t.l else 1
def qS(d:List UInt8)(a k n:Nat):Nat->Nat
 |0=>n
 |m+1=>if d[a+n]?=d[a+n-k]? then qS d a k (n+1) m else n
def e_(d:List UInt8)(a:Nat):Nat:=min (KK a) (d.length-a)
def dY(d:List UInt8)(a k:Nat):Nat:=qS d a k 0 (e_ d a)
def awE(d:List UInt8)(a k:Nat):∀(m n:Nat),n<=qS d a k n m/\qS d a k n m<=n+m:=by
 intro m
 induction m with
 |zero=>intro n;simp[qS]
 |succ m ih=>
  intro n;unfold qS;split
  ·have:=ih (n+1);omega
  ·omega
def S1(d:List UInt8)(a k:Nat):dY d a k<=e_ d a:=by
 have:=awE d a k (e_ d a) 0;unfold dY;omega
def bu{a b:Int}(h:a=b):pI a=pI b:=by rw[h]
def oH{a b:Bool}(h:a=true↔b=true):pB a=pB b:=by
 cases a<;>cases b<;>simp_all
def Pn(n:Int):IntKind.u8.wrap n=n%256:=by
 have hb:IntKind.u8.bits=8:=rfl;simp only[IntKind.wrap,IntKind.signed,hb];simp
def awV{n:Int}(h:0<=n/\n<18446744073709551616):IntKind.u64.wrap n=n:=by
 have hb:IntKind.u64.bits=64:=rfl;simp only[IntKind.wrap,IntKind.signed,hb];have:(2:Int)^64=18446744073709551616:=ao
 simp_all
 omega
def jj(ps:List PV)(x:PV):Prop:=∃n:Int,ps=[.int .u64 n]/\(0<=n/\n<=65535)/\x=pI (Qh n.toNat)
def at4:List UInt8:=[0,1,2,2,3,3,3,3,4,4,4,4,4,4,4,4,5,5,5,5,5,5,5,5,5,5,5,5,5,5,5,5,6,6,6,6,6,6,6,6,6,6,6,6,6,6,6,6,6,6,6,6,6,6,6,6,6,6,6,6,6,6,6,6,7,7,7,7,7,7,7,7,7,7,7,7,7,7,7,7,7,7,7,7,7,7,7,7,7,7,7,7,7,7,7,7,7,7,7,7,7,7,7,7,7,7,7,7,7,7,7,7,7,7,7,7,7,7,7,7,7,7,7,7,7,7,7,7,8,8,8,8,8,8,8,8,8,8,8,8,8,8,8,8,8,8,8,8,8,8,8,8,8,8,8,8,8,8,8,8,8,8,8,8,8,8,8,8,8,8,8,8,8,8,8,8,8,8,8,8,8,8,8,8,8,8,8,8,8,8,8,8,8,8,8,8,8,8,8,8,8,8,8,8,8,8,8,8,8,8,8,8,8,8,8,8,8,8,8,8,8,8,8,8,8,8,8,8,8,8,8,8,8,8,8,8,8,8,8,8,8,8,8,8,8,8,8,8,8,8,8,8,8,8,8,8]
def asR(i:Nat)(h:i<256):at4[i]?=some (UInt8.ofNat (Qh i)):=by
 have:(List.range 256).all (λi=>at4[i]?==some (UInt8.ofNat (Qh i)))=true:=ak;rw[List.all_eq_true]at this;exact eq_of_beq (this i (List.mem_range.2 h))
def ajX{n:Nat}(h:256<=n):Qh n=Qh (n/256)+8:=by
 unfold Qh;have h1:n≠0:=ab;have h2:n/256≠0:=ab;rw[if_neg h1,if_neg h2];have:Nat.log2 n=Nat.log2 (n/256)+8:=by
  apply(zcB h1).2;have h3:=(zcB h2).1 rfl;generalize Nat.log2 (n/256)=k at h3;rw[zcw,show k+8+1=(k+1)+8 from by omega,zcw];have:2^8=256:=ao;rw[this];omega
 omega
def ay0{n:Nat}(h:n<256):(UInt8.ofNat (Qh n)).toNat=Qh n:=by
 have:Qh n<=8:=Qk.2 ab;simp;omega
def I0:MT (ay []) De (ah jj):=by
 rintro _ K ⟨_,⟨n,rfl,⟨h1,h2⟩,rfl⟩,hK⟩;refine λb hb=>?_
 rcases cmp hb with⟨rfl,h⟩|⟨rfl,h⟩
 ·omega
 refine λb hb=>?_
 rcases cmp hb with⟨rfl,h'⟩|⟨rfl,h'⟩
 ·omega
 refine λb hb=>?_
 rcases cmp hb with⟨rfl,h3⟩|⟨rfl,h3⟩
 ·refine⟨ao,?_⟩;refine λx hx=>?_
  have hx:x=((n.toNat/256:Nat):Int):=by
   rw[hx];show n.fdiv (2^8)=_;rw[zb7 _ ao];omega
  refine λy hy=>?_
  replace hy:=dB hy ao;subst hy;refine λz hz=>?_
  rw[Pn]at hz;have hz:z=((n.toNat/256:Nat):Int):=ab;subst hz;refine⟨_,⟨ab,asR (n.toNat/256) ab⟩,?_⟩;refine λu hu=>?_
  rw[ay0 ab]at hu;have hle:Qh (n.toNat/256)<=8:=Qk.2 ab;replace hu:=dB hu ab;refine λv hv=>?_
  replace hv:=dB hv ab;refine⟨.pv (pI _),?_,trivial,hK⟩;refine bu ?_;rw[ajX ab];omega
 ·refine λz hz=>?_
  rw[Pn]at hz;have hz:z=((n.toNat:Nat):Int):=ab;subst hz;refine⟨_,⟨ab,asR n.toNat ab⟩,?_⟩;refine λu hu=>?_
  rw[ay0 ab]at hu;have hle:Qh n.toNat<=8:=Qk.2 ab;replace hu:=dB hu ab;refine λv hv=>?_
  replace hv:=dB hv ab;refine⟨.pv (pI _),?_,trivial,hK⟩;refine bu ?_;omega
def No:MT (ay [(267,ah jj)]) Ip (ah jj):=by
 rintro _ K ⟨_,⟨n,rfl,h,rfl⟩,hK⟩;refine⟨_,⟨n,rfl,h,rfl⟩,?_⟩;exact aG
def eS(ps:List PV)(x:PV):Prop:=∃a:Int,ps=[pI a]/\(0<=a/\a<=4096)/\x=pI (pY a)
def Ki:MT (ay [(246,ah jj)]) FA (ah eS):=by
 rintro _ K ⟨_,⟨a,rfl,⟨h1,h2⟩,rfl⟩,hK⟩;refine λx hx=>?_
 replace hx:=dB hx ab;subst hx;refine λx hx=>?_
 refine λy hy=>?_
 rw[awV ab]at hy;refine⟨_,⟨y,rfl,ab,rfl⟩,?_⟩;refine λz hz=>?_
 refine⟨.pv (pI _),bu ?_,trivial,hK⟩;rw[hz];have:y.toNat=a.toNat-1:=ab;rw[this];unfold pY dh;omega
def fF(ps:List PV)(x:PV):Prop:=∃a:Int,ps=[pI a]/\(0<=a/\a<=4096)/\x=pI (zE a)
def aGh{s:Int}(h:0<=s/\s<=62):IntKind.i64.wrap (1*2^min s.toNat IntKind.i64.bits)=((2^s.toNat:Nat):Int):=by
 have hb:IntKind.i64.bits=64:=rfl;have:min s.toNat IntKind.i64.bits=s.toNat:=ab;rw[this,Int.one_mul];have hp:2^s.toNat<=2^62:=zb6 ab ab;have e:((2:Int)^s.toNat)=((2^s.toNat:Nat):Int):=aj;rw[e];generalize 2^s.toNat=p at hp;exact wrap64 ab
def Hr:MT (ay [(215,ah eS)]) Co (ah fF):=by
 rintro _ K ⟨_,⟨a,rfl,⟨h1,h2⟩,rfl⟩,hK⟩;have hb:=Hk h2;have hl:=UQ h2;refine⟨_,⟨a,rfl,⟨h1,h2⟩,rfl⟩,?_⟩;refine λx hx=>?_
 replace hx:=dB hx ab;refine⟨ab,?_⟩;refine λy hy=>?_
 rw[aGh ab]at hy;have cj:y=zE a-2:=by
  rw[hy,hx];unfold zE KK pY;have:(16-(dh a.toNat:Int)).toNat=16-dh a.toNat:=ab;rw[this];omega
 refine λz hz=>?_
 replace hz:=dB hz ab;refine λu hu=>?_
 replace hu:=dB hu ab;refine⟨.pv (pI _),bu ?_,trivial,hK⟩;omega
def jl(ps:List PV)(x:PV):Prop:=∃n lo hi:Int,ps=[pI n,pI lo,pI hi]/\x=pB (decide (lo<=n/\n<=hi))
def IT:MT (ay []) CZ (ah jl):=by
 rintro _ K ⟨_,⟨n,lo,hi,rfl,rfl⟩,hK⟩;refine λb hb=>?_
 rcases cmp hb with⟨rfl,h⟩|⟨rfl,h⟩
 ·refine λb hb=>?_
  refine⟨.pv (pB _),oH ?_,trivial,hK⟩;rw[decide_eq_true_iff,hb];omega
 ·refine⟨.pv (pB _),oH ?_,trivial,hK⟩;rw[decide_eq_true_iff];simp only[zct,iff_false];omega
def Sj:MT (ay []) xg (ah jl):=by
 rintro _ K ⟨_,⟨n,lo,hi,rfl,rfl⟩,hK⟩;refine λb hb=>?_
 rcases cmp hb with⟨rfl,h⟩|⟨rfl,h⟩
 ·refine λb hb=>?_
  refine⟨.pv (pB _),oH ?_,trivial,hK⟩;rw[decide_eq_true_iff,hb];omega
 ·refine⟨.pv (pB _),oH ?_,trivial,hK⟩;rw[decide_eq_true_iff];simp only[zct,iff_false];omega
def dZ(ok:Bool)(e:Int):Int:=match ok with|true=>0|false=>e
def l5(ps:List PV)(x:PV):Prop:=∃(ok:Bool) (e:Int),ps=[pB ok,pI e]/\x=pI (dZ ok e)
def IX:MT (ay []) Dw (ah l5):=by
 rintro _ K ⟨_,⟨ok,e,rfl,rfl⟩,hK⟩;cases ok with
 |true=>exact aG
 |false=>exact aG
def bQ:List Int->Int
 |[]=>0
 |e::l=>if e=0 then bQ l else e
def qZ(ps:List PV)(x:PV):Prop:=∃l:List Int,ps=[.sl 1 (l.map pI)]/\x=pI (bQ l)
def ke(l:List Int)(n:Nat)(h:∀j,j<n->l[j]?=some 0):bQ l=bQ (l.drop n):=by
 induction n generalizing l with
 |zero=>rfl
 |succ n ih=>
  cases l with
  |nil=>rfl
  |cons e l=>
   have:=h 0 ab;simp at this;subst this;exact ih l λj hj=>by simpa using h (j+1) ab
def JC:MT (ay []) Fm (ah qZ):=by
 rintro _ K ⟨_,⟨l,rfl,rfl⟩,hK⟩;refine λhl=>?_
 rw[zav]at hl;refine⟨λm env σ=>∃n:Nat,(n+m=l.length∧∀j,j<n->l[j]?=some 0)/\σ=[]/\env=[(5,.pv (.sl 1 (l.map pI))),eN 6 ((l.map pI).length:Nat),eN 7 n],l.length,⟨0,⟨ab,λj hj=>ab⟩,rfl,rfl⟩,?_⟩;rintro m env σ ⟨n,⟨hn,h0⟩,rfl,rfl⟩;refine λb hb=>?_
 rw[zav]at hb;rcases cmp hb with⟨rfl,h⟩|⟨rfl,h⟩
 ·have aU:n<l.length:=by omega
  refine⟨pI l[n],⟨ab,?_⟩,?_⟩
  ·show(l.map pI)[n]?=some (pI l[n]);simp[aU]
  refine λb hb=>?_
  rcases cmp hb with⟨rfl,h⟩|⟨rfl,h⟩
  ·refine⟨.pv (pI _),bu ?_,trivial,hK⟩;rw[ke l n h0,List.drop_eq_getElem_cons aU];simp[bQ,h]
  ·refine λx hx=>?_
   replace hx:=dB hx ab;subst hx;refine⟨m-1,ab,n+1,⟨ab,λj hj=>?_⟩,rfl,rfl⟩;by_cases nd:j<n
   ·exact h0 j nd
   ·have:j=n:=by omega
    subst this;rw[zah aU];simpa using h
 ·refine⟨.pv (pI _),bu ?_,trivial,hK⟩;rw[ke l n h0,zb8 ab];rfl
def cm(ps:List PV)(x:PV):Prop:=∃t:cI,ps=[t.pv]/\x=pB t.copy
def I5:MT (ay []) DH (ah cm):=by
 rintro _ K ⟨_,⟨t,rfl,rfl⟩,hK⟩;refine λb hb=>?_
 refine⟨.pv (pB _),oH ?_,trivial,hK⟩;rw[hb];simp[cI.copy]
def dW(ps:List PV)(x:PV):Prop:=∃t:cI,ps=[t.pv]/\x=pI t.made
def MP:MT (ay [(218,ah cm)]) Ia (ah dW):=by
 rintro _ K ⟨_,⟨t,rfl,rfl⟩,hK⟩;refine⟨_,⟨t,rfl,rfl⟩,?_⟩;generalize hc:t.copy=c;unfold cI.copy at hc;cases c with
 |true=>
  refine⟨.pv (pI _),bu ?_,trivial,hK⟩;simp at hc;simp[cI.made,hc]
 |false=>
  refine⟨.pv (pI _),bu ?_,trivial,hK⟩;simp at hc;simp[cI.made,hc]
def iS(ps:List PV)(x:PV):Prop:=∃(d:List UInt8) (a:Int),ps=[.str d,pI a]/\(d.length<=4096/\0<=a/\a<=(d.length:Int))/\x=pI (e_ d a.toNat:Nat)
def Xh(d:List UInt8){a:Int}(h:0<=a/\a<=(d.length:Int)):((e_ d a.toNat:Nat):Int)=min (zE a) ((d.length:Int)-a):=by
 unfold e_ zE;omega
def Er:MT (ay [(269,ah fF)]) xF (ah iS):=by
 rintro _ K ⟨_,⟨d,a,rfl,⟨h1,h2,h3⟩,rfl⟩,hK⟩;refine⟨_,⟨a,rfl,⟨h2,ab⟩,rfl⟩,?_⟩;refine λx hx=>?_
 replace hx:=dB hx ab;refine λr hr=>?_
 refine⟨.pv (pI _),bu ?_,trivial,hK⟩;rw[Xh d ⟨h2,h3⟩,hr,hx]
def kY(ps:List PV)(x:PV):Prop:=∃(d:List UInt8) (a k:Int),ps=[.str d,pI a,pI k]/\(d.length<=4096/\0<=a/\a<=(d.length:Int)/\1<=k/\k<=a)/\x=pI (dY d a.toNat k.toNat:Nat)
def get_eq{d:List UInt8}{i j:Nat}(hi:i<d.length)(hj:j<d.length):((d[i].toNat:Int)=(d[j].toNat:Int))↔d[i]?=d[j]?:=by
 rw[zah hi,zah hj];constructor
 ·intro h;congr 1;exact UInt8.toNat_inj.1 ab
 ·intro h;rw[Option.some.inj h]
def CI:MT (ay [(284,ah iS)]) v8 (ah kY):=by
 rintro _ K ⟨_,⟨d,a,k,rfl,⟨h1,h2,h3,h4,h5⟩,rfl⟩,hK⟩;refine⟨_,⟨d,a,rfl,⟨h1,h2,h3⟩,rfl⟩,?_⟩;have hr:=Xh d ⟨h2,h3⟩;refine⟨λm env σ=>∃n:Nat,(n+m=e_ d a.toNat/\qS d a.toNat k.toNat n m=dY d a.toNat k.toNat)/\σ=[]/\env=[(0,.pv (.str d)),eN 1 a,eN 2 k,eN 7 n,eN 8 (e_ d a.toNat:Nat)],e_ d a.toNat,⟨0,⟨ab,rfl⟩,rfl,rfl⟩,?_⟩;rintro m env σ ⟨n,⟨hn,hm⟩,rfl,rfl⟩;refine⟨ak,?_⟩;refine λb hb=>?_
 rcases cmp hb with⟨rfl,h⟩|⟨rfl,h⟩
 ·have aU:a.toNat+n<d.length:=by omega
  refine λx hx=>?_
  replace hx:=dB hx ab;subst hx;refine⟨_,⟨ab,zah ab⟩,?_⟩;refine λx hx=>?_
  replace hx:=dB hx ab;subst hx;refine λx hx=>?_
  replace hx:=dB hx ab;subst hx;refine⟨_,⟨ab,zah ab⟩,?_⟩;refine λb hb=>?_
  have e1:(a+n).toNat=a.toNat+n:=ab;have e2:(a+n-k).toNat=a.toNat+n-k.toNat:=ab;rw[get_eq,e1,e2]at hb;cases m with
  |zero=>omega
  |succ m=>
   unfold qS at hm;rcases cmp hb with⟨rfl,h'⟩|⟨rfl,h'⟩
   ·rw[if_pos h']at hm;refine λx hx=>?_
    replace hx:=dB hx ab;subst hx;exact⟨m,ab,n+1,⟨ab,hm⟩,rfl,rfl⟩
   ·rw[if_neg h']at hm;exact⟨.pv (pI _),bu ab,trivial,hK⟩
 ·have:m=0:=by omega
  subst this;unfold qS at hm;exact⟨.pv (pI _),bu ab,trivial,hK⟩
def Ws(d:List UInt8)(a:Nat):cI:=⟨0,0,((d[a]?.getD 0).toNat:Int)⟩
def Am(d:List UInt8)(a:Nat):Nat->Nat->Nat->Nat->Nat×Nat
 |0,_,LS,pC=>(LS,pC)
 |m+1,k,LS,pC=>
  if pC<e_ d a then(if pC<dY d a k then Am d a m (k+1) k (dY d a k)else Am d a m (k+1) LS pC)
  else(LS,pC)
def uV(d:List UInt8)(a:Nat):Nat×Nat:=Am d a a 1 0 0
def abj(p:Nat×Nat):cI:=⟨(p.1:Int),(p.2:Int),0⟩
def amq(d:List UInt8)(a:Nat):∀(m k LS pC:Nat),pC<=e_ d a->(pC=0\/1<=LS)->1<=k->(Am d a m k LS pC).2<=e_ d a/\((Am d a m k LS pC).2=0\/1<=(Am d a m k LS pC).1):=by
 intro m
 induction m with
 |zero=>intro k LS pC h1 h2 _;exact⟨h1,h2⟩
 |succ m ih=>
  intro k LS pC h1 h2 h3;unfold Am;split
  ·split
   ·exact ih _ _ _ (S1 d a k) (.inr h3) ab
   ·exact ih _ _ _ h1 h2 ab
  ·exact⟨h1,h2⟩
def SA(d:List UInt8)(a:Nat):(uV d a).2<=e_ d a/\((uV d a).2=0\/1<=(uV d a).1):=amq d a a 1 0 0 (zbV _) (.inl rfl) (zai _)
def fv(d:List UInt8)(a:Nat):Nat->Nat->Nat->List (Nat×Nat)
 |0,_,_=>[]
 |m+1,k,pC=>if pC<e_ d a then(if pC<dY d a k then(k,dY d a k)::fv d a m (k+1) (dY d a k)else fv d a m (k+1) pC)else[]
def nB(d:List UInt8)(a:Nat):List (Nat×Nat):=fv d a a 1 0
def Sc(d:List UInt8)(a:Nat):∀(m k LS pC:Nat),Am d a m k LS pC=((LS,pC)::fv d a m k pC).getLast aj:=by
 intro m
 induction m with
 |zero=>intro k LS pC;rfl
 |succ m ih=>
  intro k LS pC;unfold Am fv;split
  ·split
   ·rw[ih];exact(zcf (a:=(LS,pC)) aj).symm
   ·exact ih _ _ _
  ·rfl
end Go.Dv.Try
namespace Go.Dv.Try
open Go Go.Dv Go.RowKit
def axr:PC:=.region [
 ⟨some 8,none,.load false 1 (.tmp 1)⟩,
 ⟨some 9,none,.load false 1 (.tmp 2)⟩,
 ⟨some 10,none,.call 284 [.tmp 8,.tmp 9]⟩,
 ⟨some 4,none,.mv (.const (.int .i64 0))⟩,
 ⟨some 5,none,.mv (.tmp 10)⟩]
def aFu:PC:=axr
def axD:PC:=.region [
 ⟨some 6,none,.mv (.const (.int .i64 1))⟩]
def aGm:PC:=axD
def az4:PC:=.region [
 ⟨some 11,none,.mv (.tmp 6)⟩,
 ⟨some 12,none,.load false 1 (.tmp 2)⟩,
 ⟨some 13,none,.bin .leq (.tmp 11) (.tmp 12)⟩,
 ⟨some 14,none,.mv (.tmp 13)⟩,
 ⟨some 15,some (⟨14,true⟩),.mv (.tmp 4)⟩,
 ⟨some 16,some (⟨14,true⟩),.mv (.tmp 5)⟩,
 ⟨some 17,some (⟨14,true⟩),.bin .lss (.tmp 15) (.tmp 16)⟩,
 ⟨some 18,none,.pick (.tmp 14) (.tmp 17) (.const (.bool false))⟩]
def aAE:PC:=.cond (.tmp 18) .skip (.exit 0)
def aAA:PC:=.seq az4 aAE
def aJy:PC:=aAA
def axu:PC:=.draw [
 ⟨some 21,none,.load false 1 (.tmp 1)⟩,
 ⟨some 22,none,.load false 1 (.tmp 2)⟩,
 ⟨some 23,none,.mv (.tmp 4)⟩,
 ⟨some 24,none,.bin .add (.tmp 22) (.tmp 23)⟩,
 ⟨some 25,none,.idx (.tmp 21) (.tmp 24)⟩,
 ⟨some 26,none,.load false 1 (.tmp 1)⟩,
 ⟨some 27,none,.load false 1 (.tmp 2)⟩,
 ⟨some 28,none,.mv (.tmp 4)⟩,
 ⟨some 29,none,.bin .add (.tmp 27) (.tmp 28)⟩,
 ⟨some 30,none,.mv (.tmp 6)⟩,
 ⟨some 31,none,.bin .sub (.tmp 29) (.tmp 30)⟩,
 ⟨some 32,none,.idx (.tmp 26) (.tmp 31)⟩,
 ⟨some 33,none,.bin .neq (.tmp 25) (.tmp 32)⟩]
 [[],[],[],[1,2],[0,3],[],[],[],[6,7],[],[8,9],[5,10],[4,11]]
def awK:PC:=.cond (.tmp 33) (.exit 1) .skip
def awS:PC:=.seq axu awK
def aF5:PC:=awS
def awQ:PC:=.region [
 ⟨some 34,none,.load false 1 (.tmp 1)⟩,
 ⟨some 35,none,.load false 1 (.tmp 2)⟩,
 ⟨some 36,none,.mv (.tmp 6)⟩,
 ⟨some 37,none,.call 285 [.tmp 34,.tmp 35,.tmp 36]⟩,
 ⟨some 7,none,.mv (.tmp 37)⟩]
def aFQ:PC:=awQ
def axb:PC:=.region [
 ⟨some 38,none,.mv (.tmp 7)⟩,
 ⟨some 39,none,.mv (.tmp 4)⟩,
 ⟨some 40,none,.bin .gtr (.tmp 38) (.tmp 39)⟩]
def aGl:PC:=axb
def awC:PC:=.region [
 ⟨some 41,none,.mv (.tmp 7)⟩,
 ⟨some 4,none,.mv (.tmp 41)⟩]
def aE2:PC:=awC
def axm:PC:=.region [
 ⟨some 19,none,.mv (.tmp 6)⟩,
 ⟨some 20,none,.bin .add (.tmp 19) (.const (.int .i64 1))⟩,
 ⟨some 6,none,.mv (.tmp 20)⟩]
def aGq:PC:=axm
def aFw:List Nat:=[1,2,4,5,6,7]
def asq:∃(A1 A2 B C1 R5 R6 R7 R3:Code) (id:Nat) (o0 o1 o2 o3 o4:Oper),
 Go.Proofs.Tryz.f283.body=some (.seq A1 (.seq A2 (.block 0 (.loop (.seq B (.seq (.block 1 (.seq C1 (.seq R5 (.seq R6 (.cond (.tmp 40) (.seq R7 (.seq (.region id #[o0,o1,o2,o3,o4] false) (.cond (.tmp 46) .ret .skip))) .skip))))) R3))))))/\
 nR Go.Proofs.Tryz.prog 47 A1=some (strip aFu)/\nR Go.Proofs.Tryz.prog 47 A2=some (strip aGm)/\nR Go.Proofs.Tryz.prog 47 B=some (strip aJy)/\nR Go.Proofs.Tryz.prog 47 C1=some (strip aF5)/\
 nR Go.Proofs.Tryz.prog 47 R5=some (strip aFQ)/\nR Go.Proofs.Tryz.prog 47 R6=some (strip aGl)/\nR Go.Proofs.Tryz.prog 47 R7=some (strip aE2)/\nR Go.Proofs.Tryz.prog 47 R3=some (strip aGq)/\
 Lr 47 o0=some ⟨some 42,none,.mv (.tmp 0)⟩/\Lr 47 o1=some ⟨some 43,none,.mv (.tmp 6)⟩/\Lr 47 o2=some ⟨some 44,none,.mv (.tmp 7)⟩/\
 (o3.guard=none/\o3.dst=some 45∧∃c,o3.op=.call c/\c.callee=.value (.tmp 42)/\c.args= #[.tmp 43,.tmp 44])/\(o4.guard=none/\o4.dst=some 46∧∃t,o4.op=.unOp .not t (.tmp 45)):=
 ⟨_,_,_,_,_,_,_,_,_,_,_,_,_,_,rfl,ak,ak,ak,ak,ak,ak,ak,ak,ak,ak,ak,⟨rfl,rfl,_,rfl,rfl,rfl⟩,⟨rfl,rfl,_,rfl⟩⟩
end Go.Dv.Try
namespace Go.Dv.Try
open Go Go.Dv Go.RowKit Go.Shelf
section
structure Jt(N:Nat)(jN:Nat->Prop)(l:Nat)(v1 v2:Value)(X1 X2:PV)(act:Act)(W:World):Prop where
 size:act.tmps.size=N
 defs:act.defers=[]
 t0:act.tmps.getD 0 undef=.func (.yield l) #[] #[]
 t1:act.tmps.getD 1 undef=v1
 t2:act.tmps.getD 2 undef=v2
 r1:Rd jN W X1 v1
 r2:Rd jN W X2 v2
 ok:∀b,jN b->b<W.heap.size
noncomputable def abA(jN:Nat->Prop)(act:Act)(W:World)(di:∀b,jN b->b<W.heap.size):Cx:=
 { P:=Go.Proofs.Tryz.prog,w0:=W,eC:=jN,hA:=di,fj:=λb=>b<W.heap.size,hk:=λ_ h=>h,lo:=3,base:=λp=>act.tmps.getD p undef }
variable {N:Nat} {jN:Nat->Prop} {l:Nat} {v1 v2:Value} {X1 X2:PV} {act:Act} {W:World}
def Jt.rel(h:Jt N jN l v1 v2 X1 X2 act W)(env:Env)(he:∀p x,aE p env=.pv x->p=1/\x=X1\/p=2/\x=X2∨∃n,x=pI n/\act.tmps.getD p undef=.int .i64 n)
 (hp:∀p,aE p env=.bad∨∃x,aE p env=.pv x):Rel (abA jN act W h.ok) env [] [] act W:=by
 have di:∀b,jN b->Ok (abA jN act W h.ok) [] [] W b:=λb hb=>⟨.inl hb,h.ok b hb,λ⟨i,s,v,hi,_⟩=>r_⟩
 refine⟨⟨Cg.refl _ _,aj,rfl,λi s v hi=>r_,λi j s t u v b _ hi=>r_,⟨zai _,λ_ _=>rfl,λb hm=>?_⟩,⟨λi v h=>by simp[abA]at h,by simp[abA],λi hi=>by simp[abA]at hi,λi hi=>by simp[abA]at hi⟩⟩,λp=>?_,h.defs,λx v hg=>hg.elim,λp _=>rfl⟩
 ·obtain⟨i,s,v,hi,_⟩:=hm;simp at hi
 ·rcases hp p with hb|⟨x,hx⟩
  ·rw[hb];simp only[RA]
  ·rw[hx];simp only[RA];rcases he p x hx with⟨rfl,rfl⟩|⟨rfl,rfl⟩|⟨n,rfl,hn⟩
   ·rw[h.t1];exact Rd.mono di (λ_ _ _=>rfl) _ _ h.r1
   ·rw[h.t2];exact Rd.mono di (λ_ _ _=>rfl) _ _ h.r2
   ·rw[hn];simp only[Rd]
def Jt.after{tk:Act}{W':World}(h:Jt N jN l v1 v2 X1 X2 act W){env:Env}{σ:aF}{vals:List Value}(hs:tk.tmps.size=N)(hr:Rel (abA jN act W h.ok) env σ vals tk W'):
 Jt N jN l v1 v2 X1 X2 tk W'/\W.grownBy W' none:=by
 have hg:W.grownBy W' none:=⟨hr.s.below.os,hr.s.below.tape,hr.s.below.output,hr.s.below.size,λk hk _=>hr.s.fr.same k hk⟩
 have hc:∀b o,jN b->W'.cell? ⟨b,o,none⟩=W.cell? ⟨b,o,none⟩:=λb o hb=>World.cell?_of_block (hr.s.fr.same b (h.ok b hb))
 exact⟨⟨hs,hr.defers,(hr.lo 0 (show 0<3 by decide)).trans h.t0,(hr.lo 1 (show 1<3 by decide)).trans h.t1,(hr.lo 2 (show 2<3 by decide)).trans h.t2,Rd.mono (λ_ h=>h) hc _ _ h.r1,Rd.mono (λ_ h=>h) hc _ _ h.r2,
  λb hb=>zaf (h.ok b hb) hr.s.below.size⟩,hg⟩
def Jt.num{cx:Cx}{env:Env}{σ:aF}{vals:List Value}{act:Act}{W:World}(hr:Rel cx env σ vals act W){p:Nat}{n:Int}(h:aE p env=.pv (pI n)):act.tmps.getD p undef=.int .i64 n:=by
 have:=hr.env p;rw[h]at this;simpa only[RA,Rd]using this
noncomputable def atj(q:Ex->(Nat->AV)->Prop):Ex->Env->aF->Prop:=λe env _=>q e λp=>aE p env
def alJ(q:Ex->(Nat->AV)->Prop):∀e,BP (atj q e):=by
 intro e env env' σ h;show q e (λp=>aE p env')=q e λp=>aE p env
 rw[show(λp=>aE p env')=λp=>aE p env from funext h]
def Jt.piece{Γ:Ctx}(hΓ:Sound Go.Proofs.Tryz.prog Γ)(h:Jt N jN l v1 v2 X1 X2 act W){ps:List Nat}{c:Code}{pc:PC}(hc:nR Go.Proofs.Tryz.prog N c=some (strip pc))(hs:fw pc=true)(hg:ma 3 pc=true)
 {env:Env} (hr:Rel (abA jN act W h.ok) env [] [] act W) {q:Ex->(Nat->AV)->Prop} (hv:vc Γ [] ps pc (atj q) env []) (m:Nat) (R:Exit->Act->World->Prop)
 (hR:∀e tk W' env σ vals,Jt N jN l v1 v2 X1 X2 tk W'->W.grownBy W' none->Rel (abA jN act W h.ok) env σ vals tk W'->(match e with| .normal=>q .normal (λp=>aE p env)| .exit i=>q (.exit i) (λp=>aE p env)| .ret=>q .ret (λp=>aE p env)|_=>False)->R e tk W'):
 c.wpIn Fence.wide m Go.Proofs.Tryz.prog R act W:=by
 have:=GH (P:=Go.Proofs.Tryz.prog) (ps:=ps) hΓ mixed c pc hc (· =abA jN act W h.ok) Fence.wide m _ (atj q) env [] [] act W (.inl hs) (.inr ⟨3,λcx uu=>by rw[uu];exact zai _,hg⟩) (.inl rfl) rfl (λcx uu=>by rw[uu];rfl) (alJ q) h.size hr hv;refine wpIn_mono this ?_;intro e tk W' hp;cases e with
 |normal=>
  obtain⟨cx,env,σ,vals,rfl,Et,ic,hq⟩:=hp;obtain⟨h1,h2⟩:=h.after Et ic;exact hR .normal tk W' env σ vals h1 h2 ic hq
 |exit i=>
  obtain⟨cx,env,σ,vals,rfl,Et,ic,hq⟩:=hp;obtain⟨h1,h2⟩:=h.after Et ic;exact hR (.exit i) tk W' env σ vals h1 h2 ic hq
 |ret=>
  obtain⟨cx,env,σ,vals,rfl,Et,ic,hq⟩:=hp;obtain⟨h1,h2⟩:=h.after Et ic;exact hR .ret tk W' env σ vals h1 h2 ic hq
 |_=>exact hp.elim
def KH(l:List (Nat×Int)):Env:=l.map λq=>(q.1,.pv (pI q.2))
def aFV(X1 X2:PV)(l:List (Nat×Int)):Env:=(1,.pv X1)::(2,.pv X2)::KH l
def aAP{a b:Nat}(h:a≠b):Nat.beq a b=false:=by
 cases hb:Nat.beq a b with
 |true=>exact absurd (zab hb) h
 |false=>rfl
def US(l:List (Nat×Int))(p:Nat):aE p (KH l)=.bad∨∃q∈l,q.1=p/\aE p (KH l)=.pv (pI q.2):=by
 induction l with
 |nil=>exact .inl rfl
 |cons q l ih=>
  show(bif Nat.beq q.1 p then AV.pv (pI q.2)else aE p (KH l))=.bad∨∃q'∈q::l,q'.1=p/\(bif Nat.beq q.1 p then AV.pv (pI q.2)else aE p (KH l))=.pv (pI q'.2);by_cases e:q.1=p
  ·exact .inr ⟨q,aj,e,by simp[e]⟩
  ·rw[aAP e];rcases ih with h|⟨q',h1,h2,h3⟩
   ·exact .inl h
   ·exact .inr ⟨q',by simp[h1],h2,h3⟩
def Jt.TR(h:Jt N jN l v1 v2 X1 X2 act W)(ns:List (Nat×Int))(xc:∀q∈ns,act.tmps.getD q.1 undef=.int .i64 q.2):Rel (abA jN act W h.ok) (aFV X1 X2 ns) [] [] act W:=by
 refine h.rel _ (λp x hx=>?_) (λp=>?_)
 ·have hx:(bif Nat.beq 1 p then AV.pv X1 else bif Nat.beq 2 p then AV.pv X2 else aE p (KH ns))=.pv x:=hx;by_cases e1:1=p
  ·subst e1;simp at hx;exact .inl ⟨rfl,hx.symm⟩
  ·rw[aAP e1,cond_false]at hx;by_cases e2:2=p
   ·subst e2;simp at hx;exact .inr (.inl ⟨rfl,hx.symm⟩)
   ·rw[aAP e2,cond_false]at hx;rcases US ns p with h'|⟨q,h1,h2,h3⟩
    ·rw[h']at hx;cases hx
    ·rw[h3]at hx;cases hx;exact .inr (.inr ⟨q.2,rfl,h2▸xc q h1⟩)
 ·show(bif Nat.beq 1 p then AV.pv X1 else bif Nat.beq 2 p then AV.pv X2 else aE p (KH ns))=.bad∨∃x,(bif Nat.beq 1 p then AV.pv X1 else bif Nat.beq 2 p then AV.pv X2 else aE p (KH ns))=.pv x;cases Nat.beq 1 p<;>cases Nat.beq 2 p<;>simp;rcases US ns p with h'|⟨q,h1,h2,h3⟩
  ·exact .inl h'
  ·exact .inr ⟨_,h3⟩
def cW{a:Act}{d p:Nat}{v:Value}(hd:d<a.tmps.size):(a.put (some d) v).tmps.getD p undef=if d=p then v else a.tmps.getD p undef:=by
 show(a.tmps.setIfInBounds d v).getD p undef=_;rw[getD_eq,getD_eq,Array.getElem?_setIfInBounds];by_cases h:d=p
 ·subst h;simp[hd]
 ·simp[h]
def Jt.put(h:Jt N jN l v1 v2 X1 X2 act W){q:Nat}{v:Value}(hq:3<=q)(hs:q<N):Jt N jN l v1 v2 X1 X2 (act.put (some q) v) W:=by
 have aU:q<act.tmps.size:=by rw[h.size];exact hs
 refine⟨(xL ..).trans h.size,h.defs,?_,?_,?_,h.r1,h.r2,h.ok⟩
 ·rw[cW aU,if_neg ab];exact h.t0
 ·rw[cW aU,if_neg ab];exact h.t1
 ·rw[cW aU,if_neg ab];exact h.t2
def Jt.kept{W':World}(h:Jt N jN l v1 v2 X1 X2 act W)(hk:ayb jN W W'):Jt N jN l v1 v2 X1 X2 act W':=by
 have hc:∀b o,jN b->W'.cell? ⟨b,o,none⟩=W.cell? ⟨b,o,none⟩:=λb o hb=>World.cell?_of_block (hk.2 b hb)
 exact⟨h.size,h.defs,h.t0,h.t1,h.t2,Rd.mono (λ_ h=>h) hc _ _ h.r1,Rd.mono (λ_ h=>h) hc _ _ h.r2,λb hb=>zaf (h.ok b hb) hk.1⟩
def ao8(y v1 v2:Value)(n:Nat):((#[y]++ #[v1,v2])++Array.replicate n undef).getD 0 undef=y/\((#[y]++ #[v1,v2])++Array.replicate n undef).getD 1 undef=v1/\((#[y]++ #[v1,v2])++Array.replicate n undef).getD 2 undef=v2/\((#[y]++ #[v1,v2])++Array.replicate n undef).size=n+3:=by
 refine⟨?_,?_,?_,?_⟩
 ·rw[getD_eq,zb4 aj];rfl
 ·rw[getD_eq,zb4 aj];rfl
 ·rw[getD_eq,zb4 aj];rfl
 ·simp;omega
section
variable {P:Program} {ops:Array Oper} {Q:Exit->Act->World->Prop} {a:Act} {w:World} {n m:Nat}
def oR{i d:Nat}{rest:List Nat}{o:Oper}{v:Value}(ho:ops[i]?=some o)(hg:o.guard=none)(hd:o.dst=some d)(cL:(execOp a.eval o).run P w=.ok (.value v) w)(tT:∀c,o.op≠.defer c)
 (h:wpOpsIn Fence.wide m P ops Q rest (a.put (some d) v) w):wpOpsIn Fence.wide m P ops Q (i::rest) a w:=by
 rw[wpOpsIn_cons];unfold wpOpIn;simp only[ho];have hw:Region.wanted o (yielded ops a.tmps)=true:=BT;rw[if_pos hw];refine Qy (.inl rfl) tT ?_;unfold Oper.wp;rw[cL,Oper.upon_value,hd];exact h
def aa1(a:Act)(F:List (Nat×Value)):Prop:=∀t v,F.lookup t=some v->a.tmps.getD t undef=v
def aa1.ag7:aa1 a []:=λ_ _ h=>bV
def aa1.aba{F:List (Nat×Value)}{d:Nat}{v:Value}(h:a.tmps.getD d undef=v)(hF:aa1 a F):aa1 a ((d,v)::F):=by
 intro t u hu;by_cases e:t=d
 ·subst e;simp[List.lookup]at hu;exact h.trans hu
 ·rw[List.lookup,beq_false_of_ne e]at hu;exact hF t u hu
def aa1.abl{F:List (Nat×Value)}{d:Nat}{v:Value}(hF:aa1 a F)(hd:d<a.tmps.size):aa1 (a.put (some d) v) ((d,v)::F):=by
 intro t u hu;rw[cW hd];by_cases e:t=d
 ·subst e;rw[if_pos rfl];simpa[List.lookup]using hu
 ·rw[if_neg (Ne.symm e)];rw[List.lookup,beq_false_of_ne e]at hu;exact hF t u hu
def Jt.FG{N:Nat}{jN:Nat->Prop}{l:Nat}{v1 v2:Value}{X1 X2:PV}{F:List (Nat×Value)}(h:Jt N jN l v1 v2 X1 X2 a w)(hF:aa1 a F){i d:Nat}{rest:List Nat}{o:Oper}{v:Value}{X:_}(ho:ops[i]?=some o)(hg:o.guard=none)(hd:o.dst=some d)(p:o.op=X)
 (cL:(execOp a.eval o).run P w=.ok (.value v) w) (k:∀a',Jt N jN l v1 v2 X1 X2 a' w->aa1 a' ((d,v)::F)->wpOpsIn Fence.wide m P ops Q rest a' w) (h3:3<=d/\d<N:=by decide) (hX:∀c,X≠.defer c:=by intro _ h;cases h):wpOpsIn Fence.wide m P ops Q (i::rest) a w:=
 oR ho hg hd cL (λc hc=>hX c (p.symm.trans hc)) (k _ (h.put h3.1 h3.2) (hF.abl (by rw[h.size];exact h3.2)))
def Fg{o:Oper}{t:Nat}(ho:o.op=.move (.tmp t)):(execOp a.eval o).run P w=.ok (.value (a.tmps.getD t undef)) w:=by
 have e:a.tmps.getD t undef=a.eval (.tmp t):=rfl;rw[e];simp[execOp,ho]
def Jt.Qt{N:Nat}{jN:Nat->Prop}{l:Nat}{v1 v2:Value}{X1 X2:PV}{F:List (Nat×Value)}(h:Jt N jN l v1 v2 X1 X2 a w)(hF:aa1 a F){i d t:Nat}{rest:List Nat}{o:Oper}{v:Value}(ho:ops[i]?=some o)(hg:o.guard=none)(hd:o.dst=some d)(p:o.op=.move (.tmp t))
 (hv:F.lookup t=some v) (k:∀a',Jt N jN l v1 v2 X1 X2 a' w->aa1 a' ((d,v)::F)->wpOpsIn Fence.wide m P ops Q rest a' w) (h3:3<=d/\d<N:=by decide):wpOpsIn Fence.wide m P ops Q (i::rest) a w:=
 h.FG hF ho hg hd p ((Fg p).trans (by rw[hF _ _ hv])) k h3
def Jt.mvO{N n:Nat}{jN:Nat->Prop}{l:Nat}{v1 v2:Value}{X1 X2:PV}{F:List (Nat×Value)}(h:Jt N jN l v1 v2 X1 X2 a w)(hF:aa1 a F){i d t:Nat}{rest:List Nat}{o:Oper}{v:Value}(ho:ops[i]?=some o)(hm:Lr n o=some ⟨some d,none,.mv (.tmp t)⟩)
 (hv:F.lookup t=some v) (k:∀a',Jt N jN l v1 v2 X1 X2 a' w->aa1 a' ((d,v)::F)->wpOpsIn Fence.wide m P ops Q rest a' w) (h3:3<=d/\d<N:=by decide):wpOpsIn Fence.wide m P ops Q (i::rest) a w:=by
 obtain⟨d',t',hg,hd,_,sM,e⟩:=Pm hm;cases e;refine oR ho hg hd (v:=v) ?_ (λc hc=>aiR) (k _ (h.put h3.1 h3.2) (hF.abl (by rw[h.size];exact h3.2)));have e:a.eval (.tmp t)=v:=hF _ _ hv;rcases sM with sM|sM<;>simp[execOp,sM,e]
def ahv{i d f x l:Nat}{rest:List Nat}{o:Oper}{cc:Call}(ho:ops[i]?=some o)(hg:o.guard=none)(hd:o.dst=some d)(sM:o.op=.call cc)(Nu:cc.callee=.value (.tmp f))(aDq:cc.args= #[.tmp x])
 (hf:a.tmps.getD f undef=.func (.yield l) #[] #[]) (hY:YieldAt Fence.wide (m-1) P l #[a.tmps.getD x undef] w λe w'=>∃v,e=.returned v/\wpOpsIn Fence.wide m P ops Q rest (a.put (some d) v) w'):wpOpsIn Fence.wide m P ops Q (i::rest) a w:=by
 obtain⟨fn,tmps,assign,body,hr,hR⟩:=hY;have cL:(execOp a.eval o).run P w=.ok (.round l fn tmps assign body) w:=by
  have D0:a.eval (.tmp f)=.func (.yield l) #[] #[]:=hf;rw[<-hr];unfold execOp;rw[sM];simp only[resolve,Nu,aDq,D0,zcz,zat,zcg];rfl
 rw[wpOpsIn_cons];unfold wpOpIn;simp only[ho];have hw:Region.wanted o (yielded ops a.tmps)=true:=BT;rw[if_pos hw];refine⟨λf _=>trivial,?_⟩;rw[Oper.semAt_eq _ _ _ (λc hc=>by rw[sM]at hc;cases hc),cL,Oper.uponIn_round,hd];refine⟨λh=>bV,hR.mono ?_⟩;rintro e w' ⟨v,rfl,h⟩;exact h
def ans{o:Oper}{t:Nat}{b:Bool}{ty:TypeId}(ho:o.op=.unOp .not ty (.tmp t))(hb:a.tmps.getD t undef=.bool b):(execOp a.eval o).run P w=.ok (.value (.bool (!b))) w:=by
 have Cs:a.eval (.tmp t)=.bool b:=hb;simp[execOp,ho,Cs,Op.unary]
def aoe{o:Oper}{s t:Nat}{x y:Int}{ty ty':TypeId}(ho:o.op=.binOp .add ty (.tmp s) (.tmp t) ty')(hx:a.tmps.getD s undef=.int .i64 x)(hy:a.tmps.getD t undef=.int .i64 y)(hr: -9223372036854775808<=x+y/\x+y<=9223372036854775807):
 (execOp a.eval o).run P w=.ok (.value (.int .i64 (x+y))) w:=by
 have dR:a.eval (.tmp s)=.int .i64 x:=hx;have hy':a.eval (.tmp t)=.int .i64 y:=hy;obtain⟨r,v,h1,h2,h3,h4⟩:=aju (cx:={ P:=P,w0:=w,eC:=λ_=>False,hA:=λ_ h=>h.elim }) (σ:=[]) (vals:=[]) (w:=w) P .add ty (pI x) (pI y) (a.eval (.tmp s)) (a.eval (.tmp t)) (λr=>r=pI (x+y)) (by rw[dR];simp[Rd]) (by rw[hy'];simp[Rd]) (by
  show ∀r:Int,r=IntKind.i64.wrap (x+y)->PV.int .i64 r=pI (x+y);intro r ic;rw[ic,wrap64 hr])
 subst h3;simp only[Rd]at h2;subst h2;simp[execOp,ho,h1,h4]
def ati{o:Oper}{s t:Nat}{b off:Nat}{v:Value}(ho:o.op=.load t (.tmp s))(hx:a.tmps.getD s undef=.pointer (some ⟨b,off,none⟩))(Cd:∀w,(isAgg t).run P w=.ok false w)(hc:w.cell? ⟨b,off,none⟩=some v):
 (execOp a.eval o).run P w=.ok (.value v) w:=by
 have dR:a.eval (.tmp s)=.pointer (some ⟨b,off,none⟩):=hx;simp[execOp,ho,dR,Instr.loadAt,Instr.sureAddr,loadVar,Cd,hc,Go.run_load]
def amD{o:Oper}{s lo hi mx:Nat}{t e:TypeId}{ad:Option Addr}{n c l h:Nat}(ho:o.op=.slice t (.tmp s) (some (.tmp lo)) (some (.tmp hi)) (some (.tmp mx)))(he:P.underlying t=some (.slice e))(hz:∀w,(sizeOf e).run P w=.ok 1 w)
 (hx:a.tmps.getD s undef=.slice ad n c) (hl:a.tmps.getD lo undef=.int .i64 (l:Nat)) (hh:a.tmps.getD hi undef=.int .i64 (h:Nat)) (hm:a.tmps.getD mx undef=.int .i64 (h:Nat)) (h1:l<=h) (h2:h<=c):
 (execOp a.eval o).run P w=.ok (.value (.slice (if h=l then ad else ad.map (·.add (l*1))) (h-l) (h-l))) w:=by
 have dR:a.eval (.tmp s)=.slice ad n c:=hx;have cK:a.eval (.tmp lo)=.int .i64 (l:Nat):=hl;have hh':a.eval (.tmp hi)=.int .i64 (h:Nat):=hh;have hm':a.eval (.tmp mx)=.int .i64 (h:Nat):=hm;have b1:(Instr.sliceBound (.int .i64 (h:Nat)) c .slice3Acap).run P w=.ok h w:=by
  simp[Instr.sliceBound,asIntOf,h2]
 have b2:(Instr.sliceBound (.int .i64 (h:Nat)) h .slice3B).run P w=.ok h w:=by
  simp[Instr.sliceBound,asIntOf]
 have b3:(Instr.sliceBound (.int .i64 (l:Nat)) h .slice3C).run P w=.ok l w:=by
  simp[Instr.sliceBound,asIntOf,h1]
 have b:(Instr.sliceBounds true n c (some (.int .i64 (l:Nat))) (some (.int .i64 (h:Nat))) (some (.int .i64 (h:Nat)))).run P w=.ok (l,h,h) w:=by
  simp[Instr.sliceBounds,b1,b2,b3]
 simp[execOp,ho,dR,cK,hh',hm',Instr.sliceAt,Instr.slice,run_underlying he,b,hz]
end
end
end Go.Dv.Try
namespace Go.Dv.Try
open Go Go.Dv Go.RowKit
abbrev It(jN:Nat->Prop)(l:Nat)(v1 v2:Value)(d:List UInt8)(a:Int)(act:Act)(W:World):Prop:=Jt 47 jN l v1 v2 (.cptr (.str d)) (.cptr (pI a)) act W
def It.bool{cx:Cx}{env:Env}{σ:aF}{vals:List Value}{act:Act}{W:World}(hr:Rel cx env σ vals act W){p:Nat}{b:Bool}(h:aE p env=.pv (pB b)):act.tmps.getD p undef=.bool b:=by
 have:=hr.env p;rw[h]at this;simpa only[RA,Rd]using this
end Go.Dv.Try
namespace Go.Dv.Try
open Go Go.Dv Go.RowKit Go.Shelf
section
section
variable {P:Program} {ops:Array Oper} {Q:Exit->Act->World->Prop} {a:Act} {w:World} {n m:Nat}
def ala{i d f x y l:Nat}{rest:List Nat}{o:Oper}{cc:Call}(ho:ops[i]?=some o)(hg:o.guard=none)(hd:o.dst=some d)(sM:o.op=.call cc)(Nu:cc.callee=.value (.tmp f))(aDq:cc.args= #[.tmp x,.tmp y])
 (hf:a.tmps.getD f undef=.func (.yield l) #[] #[]) (hY:YieldAt Fence.wide (m-1) P l #[a.tmps.getD x undef,a.tmps.getD y undef] w λe w'=>∃v,e=.returned v/\wpOpsIn Fence.wide m P ops Q rest (a.put (some d) v) w'):wpOpsIn Fence.wide m P ops Q (i::rest) a w:=by
 obtain⟨fn,tmps,assign,body,hr,hR⟩:=hY;have cL:(execOp a.eval o).run P w=.ok (.round l fn tmps assign body) w:=by
  have D0:a.eval (.tmp f)=.func (.yield l) #[] #[]:=hf;rw[<-hr];unfold execOp;rw[sM];simp only[resolve,Nu,aDq,D0,zcz,zat,zcg];rfl
 rw[wpOpsIn_cons];unfold wpOpIn;simp only[ho];have hw:Region.wanted o (yielded ops a.tmps)=true:=BT;rw[if_pos hw];refine⟨λf _=>trivial,?_⟩;rw[Oper.semAt_eq _ _ _ (λc hc=>by rw[sM]at hc;cases hc),cL,Oper.uponIn_round,hd];refine⟨λh=>bV,hR.mono ?_⟩;rintro e w' ⟨v,rfl,h⟩;exact h
end
def mI(l:List (Nat×Nat)):List (List PV):=l.map λp=>[pI (p.1:Nat),pI (p.2:Nat)]
def asf(jh:List PV)(L:List (List PV)):Prop:=
 ∃(d:List UInt8) (a:Int),jh=[.cptr (.str d),.cptr (pI a)]/\(d.length<=4096/\0<=a/\a<=(d.length:Int))/\L=mI (nB d a.toNat)
structure Rnd(jN:Nat->Prop)(l:Nat)(v1 v2:Value)(d:List UInt8)(a:Int){α:Type}(val:α->List PV)(L:List (List PV))(J:List α->World->Prop)(k m:Nat)(act:Act)(W:World):Prop where
 it:It jN l v1 v2 d a act W
 rest:∃(oD:Nat) (pre:List α),act.tmps.getD 4 undef=.int .i64 oD/\oD<=e_ d a.toNat/\J pre W/\pre.map val++mI (fv d a.toNat m k oD)=L
 t5:act.tmps.getD 5 undef=.int .i64 (e_ d a.toNat:Nat)
def apB(d:List UInt8)(a k:Nat):∀(m n b:Nat),n<=b->b<n+m->d[a+b]?≠d[a+b-k]?->qS d a k n m<=b:=by
 intro m
 induction m with
 |zero=>intro n b h1 h2;omega
 |succ m ih=>
  intro n b h1 h2 h3;unfold qS;split
  ·rename_i he;by_cases hb:n=b
   ·subst hb;exact absurd he h3
   ·exact ih _ _ ab ab h3
  ·omega
def ahR(d:List UInt8)(a k b:Nat)(h:b<e_ d a)(h3:d[a+b]?≠d[a+b-k]?):dY d a k<=b:=apB d a k _ 0 b (zbV _) ab h3
def ali(hΓ:Sound Go.Proofs.Tryz.prog (ay [(284,ah iS),(285,ah kY)])):akR Go.Proofs.Tryz.prog 283 asf:=by
 intro m w jN jh vs L di rT kW;obtain⟨d,a,rfl,⟨h1,h2,h3⟩,rfl⟩:=kW;have hf:Go.Proofs.Tryz.prog.funcs[283]?=some Go.Proofs.Tryz.f283:=ak;obtain⟨A1,A2,B,C1,R5,R6,R7,R3,id,o0,o1,o2,o3,o4,ab0,cA1,cA2,cB,cC1,cR5,cR6,cR7,cR3,m0,m1,m2,⟨g3,d3,cc,op3,aKJ,aKK⟩,⟨g4,d4,tt,op4⟩⟩:=asq;refine⟨⟨{ x:List PV//x∈mI (nB d a.toNat) },(λx=>x.1),λx=>(x.1.map aAq).toArray,λx=>⟨x.2,?_⟩,?_⟩,Go.Proofs.enters_of hf ak ab0⟩
 ·obtain⟨x,hx⟩:=x;unfold mI at hx;obtain⟨p,_,rfl⟩:=zaX.1 hx;simp only[zat,zcg,ew];exact⟨_,_,rfl,by simp only[Rd,aAq,aw1],_,_,rfl,by simp only[Rd,aAq,aw1],rfl⟩
 intro l J Jx W hb hJ hJx hY h0;obtain⟨v1,v2,rfl,r1,r2⟩:∃v1 v2,vs= #[v1,v2]/\Rd jN w (.cptr (.str d)) v1/\Rd jN w (.cptr (pI a)) v2:=by
  simp only[ew]at rT;obtain⟨v1,t,e1,r1,v2,t2,rfl,r2,rfl⟩:=rT;exact⟨v1,v2,by rw[<-zb2];exact e1,r1,r2⟩
 have hcW:∀b o,jN b->W.cell? ⟨b,o,none⟩=w.cell? ⟨b,o,none⟩:=λb o Cs=>World.cell?_of_block (hb.block b (di b Cs))
 refine callsIn_of_wp hf ab0 trivial ?_;have GY:It jN l v1 v2 d a { tmps:=(#[Value.func (.yield l) #[] #[]]++ #[v1,v2])++Array.replicate (Go.Proofs.Tryz.f283.ntmps-(#[Value.func (.yield l) #[] #[]]++ #[v1,v2]).size) undef,defers:=[] } W:=by
  have hn:Go.Proofs.Tryz.f283.ntmps-(#[Value.func (.yield l) #[] #[]]++ #[v1,v2]).size=44:=by
   rw[show Go.Proofs.Tryz.f283.ntmps=47 by kernel_rfl];rfl
  rw[hn];obtain⟨a0,a1,a2,a3⟩:=ao8 (Value.func (.yield l) #[] #[]) v1 v2 44;exact⟨a3,rfl,a0,a1,a2,Rd.mono (λ_ h=>h) hcW _ _ r1,Rd.mono (λ_ h=>h) hcW _ _ r2,λb Cs=>zaf (di b Cs) hb.size⟩
 generalize aMw:({ tmps:=(#[Value.func (.yield l) #[] #[]]++ #[v1,v2])++Array.replicate (Go.Proofs.Tryz.f283.ntmps-(#[Value.func (.yield l) #[] #[]]++ #[v1,v2]).size) undef,defers:=[] }:Act)=aKL at GY;refine wpIn_seq (GY.piece (ps:=aFw) hΓ cA1 rfl rfl (GY.TR [] aj) (q:=λe f=>e=.normal/\f 4=.pv (pI 0)/\f 5=.pv (pI (e_ d a.toNat:Nat))) ⟨_,⟨d,a,rfl,⟨h1,h2,h3⟩,rfl⟩,rfl,rfl,rfl⟩ m _ ?_);intro e aKM W1 amV σ1 kh it1 hg1 Gw j0;cases e with
 |normal=>
  obtain⟨_,dV,zg⟩:=j0;have t14:=Jt.num Gw dV;have t15:=Jt.num Gw zg;have j1:J [] W1:=hJ [] W W1 none h0 hg1 (λr e=>cz);refine wpIn_seq (it1.piece (ps:=aFw) hΓ cA2 rfl rfl (it1.TR [(4,0),(5,(e_ d a.toNat:Nat))] (by intro q hq;simp only[zaw,zb3,or_false]at hq;rcases hq with rfl|rfl;exact t14;exact t15)) (q:=λe f=>e=.normal/\f 4=.pv (pI 0)/\f 5=.pv (pI (e_ d a.toNat:Nat))/\f 6=.pv (pI 1)) ⟨rfl,rfl,rfl,rfl⟩ m _ ?_);intro e aKN W2 ahb σ2 lh zX mU CW jx;cases e with
  |normal=>
   obtain⟨_,h24,h25,h26⟩:=jx;have t24:=Jt.num CW h24;have t25:=Jt.num CW h25;have t26:=Jt.num CW h26;have j2:J [] W2:=hJ [] W1 W2 none j1 mU (λr e=>cz);clear Gw CW dV zg h24 h25 h26 hg1 mU j1 t14 t15 it1;refine wpIn_block ?_;have LP:=Xh d ⟨h2,h3⟩;refine wpIn_loop (λact W=>∃k m,Rnd jN l v1 v2 d a (λx:{ x:List PV//x∈mI (nB d a.toNat) }=>x.1) (mI (nB d a.toNat)) J k m act W/\act.tmps.getD 6 undef=.int .i64 (k:Nat)/\1<=k/\(k:Int)+m=a+1) (λact _=>(a+1-intOf (act.tmps.getD 6 undef)).toNat)
    ⟨1,a.toNat,⟨zX,⟨0,[],t24,zbV _,j2,rfl⟩,t25⟩,t26,zai _,ab⟩ ?_
   clear t24 t25 t26 j2 zX;rintro act W ⟨k,mm,⟨it,⟨oD,pre,t4,aoF,hj,hL⟩,t5⟩,t6,SH,hk⟩;have aG3:∀q∈[((4:Nat),(oD:Int)),(5,(e_ d a.toNat:Nat)),(6,(k:Int))],act.tmps.getD q.1 undef=.int .i64 q.2:=by
    intro q hq;simp only[zaw,zb3,or_false]at hq;rcases hq with rfl|rfl|rfl;exact t4;exact t5;exact t6
   refine wpIn_seq (it.piece (ps:=aFw) hΓ cB rfl rfl (it.TR _ aG3) (q:=λe f=>f 4=.pv (pI oD)/\f 5=.pv (pI (e_ d a.toNat:Nat))/\f 6=.pv (pI k)/\((e=.normal/\(k:Int)<=a/\oD<e_ d a.toNat)\/(e=.exit 0∧¬((k:Int)<=a/\oD<e_ d a.toNat)))) ?vcB m _ ?_)
   case vcB=>
    refine λb hb=>?_
    rcases cmp hb with⟨rfl,h⟩|⟨rfl,h⟩
    ·refine λb hb=>?_
     rcases cmp hb with⟨rfl,h'⟩|⟨rfl,h'⟩
     ·exact⟨rfl,rfl,rfl,.inl ⟨rfl,h,ab⟩⟩
     ·exact⟨rfl,rfl,rfl,.inr ⟨rfl,ab⟩⟩
    ·exact⟨rfl,rfl,rfl,.inr ⟨rfl,ab⟩⟩
   intro e amY W3 ahc σ3 II uv hg3 pq ry;have j3:J pre W3:=hJ pre W W3 none hj hg3 (λr e=>cz);cases e with
   |normal=>
    obtain⟨h34,h35,h36,hc⟩:=ry;have t34:=Jt.num pq h34;have t35:=Jt.num pq h35;have t36:=Jt.num pq h36;obtain⟨hka,hbr⟩:(k:Int)<=a/\oD<e_ d a.toNat:=aht;clear pq h34 h35 h36 hc;clear hg3 it;cases mm with
    |zero=>omega
    |succ mm=>
    have hM:∀(UG:Act) (W5:World) (ab3:Nat) (ab4:List { x:List PV//x∈mI (nB d a.toNat) }),It jN l v1 v2 d a UG W5->UG.tmps.getD 4 undef=.int .i64 ab3->UG.tmps.getD 5 undef=.int .i64 (e_ d a.toNat:Nat)->UG.tmps.getD 6 undef=.int .i64 (k:Nat)->
     ab3<=e_ d a.toNat->J ab4 W5->ab4.map (·.1)++mI (fv d a.toNat mm (k+1) ab3)=mI (nB d a.toNat)->
     R3.wpIn Fence.wide m Go.Proofs.Tryz.prog (Exit.then (λtk W'=>(∃k m,Rnd jN l v1 v2 d a (λx:{ x:List PV//x∈mI (nB d a.toNat) }=>x.1) (mI (nB d a.toNat)) J k m tk W'/\tk.tmps.getD 6 undef=.int .i64 (k:Nat)/\1<=k/\(k:Int)+m=a+1)/\(a+1-intOf (tk.tmps.getD 6 undef)).toNat<(a+1-intOf (act.tmps.getD 6 undef)).toNat)
      (Exit.inBlock 0 (bodyPost Go.Proofs.Tryz.prog Go.Proofs.Tryz.f283 λe W'=>(∃v,e=.returned v)/\((∃xs,(λxs=>xs.map (λx:{ x:List PV//x∈mI (nB d a.toNat) }=>x.1)=mI (nB d a.toNat)) xs/\J xs W')\/(∃pre,(λpre=>pre.map (λx:{ x:List PV//x∈mI (nB d a.toNat) }=>x.1)<+:mI (nB d a.toNat)) pre/\Jx pre W'))))) UG W5:=by
     intro UG W5 ab3 ab4 uA t54 t55 t56 hb5 j5 hL5;refine uA.piece (ps:=aFw) hΓ cR3 rfl rfl (uA.TR [((4:Nat),(ab3:Int)),(5,(e_ d a.toNat:Nat)),(6,(k:Int))] ?_) (q:=λe f=>e=.normal/\f 4=.pv (pI ab3)/\f 5=.pv (pI (e_ d a.toNat:Nat))/\f 6=.pv (pI (k+1))) ?_ m _ ?_
     ·intro q hq;simp only[zaw,zb3,or_false]at hq;rcases hq with rfl|rfl|rfl;exact t54;exact t55;exact t56
     ·refine λx hx=>?_
      replace hx:=dB hx ab;subst hx;exact⟨rfl,rfl,rfl,rfl⟩
     ·intro e ayy W6 aG4 σ6 azG zY JU pz wH;cases e with
      |normal=>
       obtain⟨_,iG,h65,h66⟩:=wH;have t64:=Jt.num pz iG;have t65:=Jt.num pz h65;have t66:=Jt.num pz h66;refine⟨⟨k+1,mm,⟨zY,⟨ab3,ab4,t64,hb5,hJ ab4 W5 W6 none j5 JU (λr e=>cz),hL5⟩,t65⟩,t66,ab,ab⟩,?_⟩;rw[t66,t6];show(a+1-((k:Int)+1)).toNat<(a+1-(k:Int)).toNat;omega
      |exit i=>exact FF
      |ret=>exact FF
      |_=>exact wH.elim
    refine wpIn_seq (wpIn_block ?_);have LP:=Xh d ⟨h2,h3⟩;have aDt:∀q∈[((4:Nat),(oD:Int)),(5,(e_ d a.toNat:Nat)),(6,(k:Int))],amY.tmps.getD q.1 undef=.int .i64 q.2:=by
     intro q hq;simp only[zaw,zb3,or_false]at hq;rcases hq with rfl|rfl|rfl;exact t34;exact t35;exact t36
    refine wpIn_seq (uv.piece (ps:=aFw) hΓ cC1 rfl rfl (uv.TR _ aDt) (q:=λe f=>f 4=.pv (pI oD)/\f 5=.pv (pI (e_ d a.toNat:Nat))/\f 6=.pv (pI k)/\((e=.normal/\d[a.toNat+oD]?=d[a.toNat+oD-k]?)\/(e=.exit 1/\d[a.toNat+oD]?≠d[a.toNat+oD-k]?))) ?vcC m _ ?_)
    case vcC=>
     refine⟨ak,?_⟩;refine λx hx=>?_
     replace hx:=dB hx ab;subst hx;refine⟨_,⟨ab,zah ab⟩,?_⟩;refine λx hx=>?_
     replace hx:=dB hx ab;subst hx;refine λx hx=>?_
     replace hx:=dB hx ab;subst hx;refine⟨_,⟨ab,zah ab⟩,?_⟩;refine λb hb=>?_
     have e1:(a+oD).toNat=a.toNat+oD:=ab;have e2:(a+oD-k).toNat=a.toNat+oD-k:=ab;rw[ne_eq,get_eq,e1,e2]at hb;rcases cmp hb with⟨rfl,h'⟩|⟨rfl,h'⟩
     ·exact⟨rfl,rfl,rfl,.inr ⟨rfl,h'⟩⟩
     ·exact⟨rfl,rfl,rfl,.inl ⟨rfl,zco h'⟩⟩
    intro e aG5 W4 aKu σ4 azB it4 hg4 uC hq4;have j4:J pre W4:=hJ pre W3 W4 none j3 hg4 (λr e=>cz);cases e with
    |normal=>
     obtain⟨h44,h45,h46,hc⟩:=hq4;have t44:=Jt.num uC h44;have t45:=Jt.num uC h45;have t46:=Jt.num uC h46;clear uC h44 h45 h46 hc hg4 uv;have hkt:(a+oD-k).toNat=a.toNat+oD-k:=ab;have aDu:∀q∈[((4:Nat),(oD:Int)),(5,(e_ d a.toNat:Nat)),(6,(k:Int))],aG5.tmps.getD q.1 undef=.int .i64 q.2:=by
      intro q hq;simp only[zaw,zb3,or_false]at hq;rcases hq with rfl|rfl|rfl;exact t44;exact t45;exact t46
     refine wpIn_seq (it4.piece (ps:=aFw) hΓ cR5 rfl rfl (it4.TR _ aDu) (q:=λe f=>e=.normal/\f 4=.pv (pI oD)/\f 5=.pv (pI (e_ d a.toNat:Nat))/\f 6=.pv (pI k)/\f 7=.pv (pI (dY d a.toNat k:Nat))) ⟨_,⟨d,a,k,rfl,⟨h1,h2,h3,ab,hka⟩,rfl⟩,rfl,rfl,rfl,rfl,rfl⟩ m _ ?_);intro e UG W5 aPh σ5 aMB uA hg5 hr5 hq5;have j5:J pre W5:=hJ pre W4 W5 none j4 hg5 (λr e=>cz);cases e with
     |normal=>
      obtain⟨_,h54,h55,h56,h57⟩:=hq5;have t54:=Jt.num hr5 h54;have t55:=Jt.num hr5 h55;have t56:=Jt.num hr5 h56;have t57:=Jt.num hr5 h57;clear hr5 h54 h55 h56 h57 hg5 it4;have aDv:∀q∈[((4:Nat),(oD:Int)),(5,(e_ d a.toNat:Nat)),(6,(k:Int)),(7,(dY d a.toNat k:Nat))],UG.tmps.getD q.1 undef=.int .i64 q.2:=by
       intro q hq;simp only[zaw,zb3,or_false]at hq;rcases hq with rfl|rfl|rfl|rfl;exact t54;exact t55;exact t56;exact t57
      refine wpIn_seq (uA.piece (ps:=aFw) hΓ cR6 rfl rfl (uA.TR _ aDv) (q:=λe f=>e=.normal/\f 4=.pv (pI oD)/\f 5=.pv (pI (e_ d a.toNat:Nat))/\f 6=.pv (pI k)/\f 7=.pv (pI (dY d a.toNat k:Nat))∧∃b:Bool,f 40=.pv (pB b)/\(b=true↔oD<dY d a.toNat k)) ?vcR6 m _ ?_)
      case vcR6=>
       refine λb hb=>?_
       exact⟨rfl,rfl,rfl,rfl,rfl,b,rfl,hb.trans ab⟩
      intro e ayy W6 aG4 σ6 azG zY JU pz wH;have j6:J pre W6:=hJ pre W5 W6 none j5 JU (λr e=>cz);cases e with
      |normal=>
       obtain⟨_,iG,h65,h66,h67,b,h6b,hb⟩:=wH;have t64:=Jt.num pz iG;have t65:=Jt.num pz h65;have t66:=Jt.num pz h66;have t67:=Jt.num pz h67;have t6b:=It.bool pz h6b;clear pz iG h65 h66 h67 h6b JU uA;have pd:fv d a.toNat (mm+1) k oD=if oD<dY d a.toNat k then(k,dY d a.toNat k)::fv d a.toNat mm (k+1) (dY d a.toNat k)else fv d a.toNat mm (k+1) oD:=by
        rw[fv,if_pos hbr]
       rw[pd]at hL;refine wpIn_cond (t:=b) t6b ?_;cases b with
       |false=>
        have kr:¬oD<dY d a.toNat k:=λh=>by have:=hb.2 h;cases this
        rw[if_neg kr]at hL;exact wpIn_skip (hM ayy W6 oD pre zY t64 t65 t66 aoF j6 hL)
       |true=>
        have kr:oD<dY d a.toNat k:=hb.1 rfl;rw[if_pos kr]at hL;have aDw:∀q∈[((4:Nat),(oD:Int)),(5,(e_ d a.toNat:Nat)),(6,(k:Int)),(7,(dY d a.toNat k:Nat))],ayy.tmps.getD q.1 undef=.int .i64 q.2:=by
         intro q hq;simp only[zaw,zb3,or_false]at hq;rcases hq with rfl|rfl|rfl|rfl;exact t64;exact t65;exact t66;exact t67
        rw[if_pos rfl];refine wpIn_seq (zY.piece (ps:=aFw) hΓ cR7 rfl rfl (zY.TR _ aDw) (q:=λe f=>e=.normal/\f 4=.pv (pI (dY d a.toNat k:Nat))/\f 5=.pv (pI (e_ d a.toNat:Nat))/\f 6=.pv (pI k)/\f 7=.pv (pI (dY d a.toNat k:Nat))) ⟨rfl,rfl,rfl,rfl,rfl⟩ m _ ?_);intro e WV W7 aPj σ7 aMJ it7 hg7 hr7 hq7;have j7:J pre W7:=hJ pre W6 W7 none j6 hg7 (λr e=>cz);cases e with
        |normal=>
         obtain⟨_,h74,h75,h76,h77⟩:=hq7;have t74:=Jt.num hr7 h74;have t75:=Jt.num hr7 h75;have t76:=Jt.num hr7 h76;have t77:=Jt.num hr7 h77;clear hr7 h74 h75 h76 h77 hg7 zY;have SF:[pI (k:Nat),pI (dY d a.toNat k:Nat)]∈mI (nB d a.toNat):=by
          rw[<-hL];simp[mI]
         have hlen:pre.length<(mI (nB d a.toNat)).length:=by
          have e:=congrArg List.length hL;rw[zad,zav]at e;have:0<(mI ((k,dY d a.toNat k)::fv d a.toNat mm (k+1) (dY d a.toNat k))).length:=by simp[mI]
          omega
         refine wpIn_seq (wpIn_region ?_);show wpOpsIn Fence.wide m _ _ _ [0,1,2,3,4] WV W7;have hF:=aa1.aba it7.t0 (.aba t74 (.aba t75 (.aba t76 (.aba t77 .ag7))));refine it7.mvO hF rfl m0 rfl λb1 i1 hF=>?_
         refine i1.mvO hF rfl m1 rfl λb2 i2 hF=>?_
         refine i2.mvO hF rfl m2 rfl λb3 i3 hF=>?_
         refine ala rfl g3 d3 op3 aKJ aKK (l:=l) (hF 42 _ rfl) ?_;rw[hF 43 _ rfl,hF 44 _ rfl];obtain⟨fn,tm,qJ,bd,hy,hR⟩:=hY pre ⟨_,SF⟩ W7 j7 hlen;refine⟨fn,tm,qJ,bd,hy,hR.mono ?_⟩;rintro e W8 (⟨rfl,j8,k8⟩|⟨rfl,jx8⟩)
         ·refine⟨_,rfl,?_⟩;have i8:=i3.kept k8;have hF:=hF.abl (d:=45) (v:=.bool true) (by rw[i3.size];omega);refine(i8.put (q:=45) (v:=.bool true) ab ab).FG hF rfl g4 d4 op4 (ans op4 (hF 45 _ rfl)) λb5 i5 hF=>?_
          refine wpIn_cond_false (hF 46 _ rfl) (wpIn_skip ?_);refine hM b5 W8 (dY d a.toNat k) (pre++[⟨_,SF⟩]) i5 (hF 4 _ rfl) (hF 5 _ rfl) (hF 6 _ rfl) (S1 d a.toNat k) j8 ?_;refine Eq.trans ?_ hL;rw[zbu,zaj];rfl
         ·refine⟨_,rfl,?_⟩;have mD:b3.tmps.size=47:=i3.size;have e45:(b3.put (some 45) (.bool false)).tmps.getD 45 undef=.bool false:=by
           rw[cW (by rw[mD];omega),if_pos rfl]
          have s45:(b3.put (some 45) (.bool false)).tmps.size=47:=(xL ..).trans mD;have d45:(b3.put (some 45) (.bool false)).defers=[]:=i3.defs;generalize b3.put (some 45) (.bool false)=b4 at e45 s45 d45;refine oR rfl g4 d4 (ans op4 e45) (λc hc=>by have:=op4.symm.trans hc;cases this) ?_;have e46:(b4.put (some 46) (.bool (!false))).tmps.getD 46 undef=.bool true:=by
           rw[cW (by rw[s45];omega),if_pos rfl];rfl
          have d46:(b4.put (some 46) (.bool (!false))).defers=[]:=d45;generalize b4.put (some 46) (.bool (!false))=b5 at e46 d46;refine wpIn_cond_true e46 (wpIn_ret ?_);refine⟨d46,.tuple #[],results_none rfl _ _ _,⟨_,rfl⟩,.inr ⟨pre++[⟨_,SF⟩],?_,jx8⟩⟩;refine⟨mI (fv d a.toNat mm (k+1) (dY d a.toNat k)),?_⟩;show List.map (·.1) (pre++[_])++_=_;refine Eq.trans ?_ hL;rw[zbu,zaj];rfl
        |exit i=>exact(by obtain⟨h,_⟩:=hq7;cases h)
        |ret=>exact(by obtain⟨h,_⟩:=hq7;cases h)
        |_=>exact hq7.elim
      |exit i=>exact FF
      |ret=>exact FF
      |_=>exact wH.elim
     |exit i=>exact(by obtain⟨h,_⟩:=hq5;cases h)
     |ret=>exact(by obtain⟨h,_⟩:=hq5;cases h)
     |_=>exact hq5.elim
    |exit i=>
     obtain⟨h44,h45,h46,hc⟩:=hq4;obtain⟨rfl,WS⟩:i=1/\d[a.toNat+oD]?≠d[a.toNat+oD-k]?:=by
      rcases hc with⟨h,_⟩|⟨h,h'⟩
      ·cases h
      ·injection h with h;exact⟨h,h'⟩
     refine hM aG5 W4 oD pre it4 (Jt.num uC h44) (Jt.num uC h45) (Jt.num uC h46) aoF j4 ?_;unfold fv at hL;rw[if_pos hbr,if_neg (by have:=ahR d a.toNat k oD hbr WS;omega)]at hL;exact hL
    |ret=>exact(by obtain⟨_,_,_,hc⟩:=hq4;rcases hc with⟨h,_⟩|⟨h,_⟩<;>cases h)
    |_=>exact hq4.elim
   |exit i=>
    obtain⟨h34,h35,h36,hc⟩:=ry;obtain⟨rfl,hc⟩:i=0∧¬((k:Int)<=a/\oD<e_ d a.toNat):=by
     rcases hc with⟨h,_⟩|⟨h,h'⟩
     ·cases h
     ·injection h with h;exact⟨h,h'⟩
    refine⟨uv.defs,.tuple #[],results_none rfl _ _ _,⟨_,rfl⟩,.inl ⟨pre,?_,j3⟩⟩;have:fv d a.toNat mm k oD=[]:=by
     cases mm with
     |zero=>rfl
     |succ mm=>unfold fv;rw[if_neg ab]
    rw[this]at hL;simpa[mI]using hL
   |ret=>exact(by obtain⟨_,_,_,hc⟩:=ry;rcases hc with⟨h,_⟩|⟨h,_⟩<;>cases h)
   |_=>exact ry.elim
  |exit i=>exact(by obtain⟨h,_⟩:=jx;cases h)
  |ret=>exact(by obtain⟨h,_⟩:=jx;cases h)
  |_=>exact jx.elim
 |exit i=>exact QF
 |ret=>exact QF
 |_=>exact j0.elim
end
end Go.Dv.Try
namespace Go.Dv.Try
open Go Go.Dv
def yK(t:List Int):Nat->Nat->Int->Int
 |0,_,o=>o
 |m+1,n,o=>yK t m (n+1) (min o (17+t.getD (n-1) 0))
def NL(d:List UInt8)(a:Nat)(t:List Int):Int:=yK t ((uV d a).2-2) 3 (9+t.getD 0 0)
def kE(d:List UInt8):Nat->List Int
 |0=>[0]
 |m+1=>NL d (d.length-(m+1)) (kE d m)::kE d m
def aY(d:List UInt8):List Int:=kE d d.length
def Ow(d:List UInt8):∀m,(kE d m).length=m+1
 |0=>rfl
 |m+1=>by simp[kE,Ow d m]
def apa(t:List Int):∀(m n:Nat) (o:Int),yK t m n o<=o:=by
 intro m
 induction m with
 |zero=>intro n o;exact Int.le_refl _
 |succ m ih=>intro n o;have:=ih (n+1) (min o (17+t.getD (n-1) 0));unfold yK;omega
def aqK(t:List Int)(b:Int):∀(m n:Nat) (o:Int),b<=o->(∀k,n<=k->k<n+m->b<=17+t.getD (k-1) 0)->b<=yK t m n o:=by
 intro m
 induction m with
 |zero=>intro n o h _;exact h
 |succ m ih=>
  intro n o h1 h2;unfold yK;refine ih (n+1) _ ?_ (λk hk AP=>h2 k ab ab);have:=h2 n (zai _) ab;omega
def ao3(t:List Int):∀(m n:Nat) (o:Int),yK t m n o=o∨∃k,n<=k/\k<n+m/\yK t m n o=17+t.getD (k-1) 0:=by
 intro m
 induction m with
 |zero=>intro n o;exact .inl rfl
 |succ m ih=>
  intro n o;unfold yK;rcases ih (n+1) (min o (17+t.getD (n-1) 0))with h|⟨k,h1,h2,h3⟩
  ·rw[h];rcases Int.le_total o (17+t.getD (n-1) 0)with h'|h'
   ·exact .inl ab
   ·exact .inr ⟨n,zai _,ab,ab⟩
  ·exact .inr ⟨k,ab,ab,h3⟩
def U6{t:List Int}(h:∀x∈t,0<=x)(i:Nat):0<=t.getD i 0:=by
 rw[zbr];cases hx:t[i]? with
 |none=>simp
 |some x=>exact h x (zag hx)
def agc(d:List UInt8)(a:Nat)(t:List Int)(h:∀x∈t,0<=x):0<=NL d a t/\NL d a t<=9+t.getD 0 0:=by
 unfold NL;refine⟨aqK _ _ _ _ _ (by have:=U6 h 0;omega) (λk _ _=>by have:=U6 h (k-1);omega),apa _ _ _ _⟩
def ND(d:List UInt8):∀m,∀x∈kE d m,0<=x/\x<=9*m:=by
 intro m
 induction m with
 |zero=>intro x hx;simp[kE]at hx;omega
 |succ m ih=>
  intro x hx;simp only[kE,zaw]at hx;rcases hx with rfl|hx
  ·have h1:=agc d (d.length-(m+1)) (kE d m) (λx hx=>(ih x hx).1);have h2:(kE d m).getD 0 0<=9*m:=by
    cases hc:kE d m with
    |nil=>simp;omega
    |cons y ys=>have:=ih y (by rw[hc];simp);simp;omega
   omega
  ·have:=ih x hx;omega
def UI(d:List UInt8):∀m k,k<=m->(kE d m).drop k=kE d (m-k):=by
 intro m
 induction m with
 |zero=>intro k h;have:k=0:=by omega
        subst this;rfl
 |succ m ih=>
  intro k h;cases k with
  |zero=>rfl
  |succ k=>simp only[kE,List.drop_succ_cons];rw[ih k ab];congr 1;omega
def apG(d:List UInt8)(a:Nat)(h:a<d.length):(aY d)[a]?=some (NL d a ((aY d).drop (a+1))):=by
 unfold aY;have h1:=UI d d.length a ab;have h2:=UI d d.length (a+1) ab;rw[h2];have h3:(kE d d.length)[a]?=((kE d d.length).drop a)[0]?:=aj;rw[h3,h1];obtain⟨m,hm⟩:∃m,d.length-a=m+1:=⟨d.length-a-1,ab⟩
 rw[hm];simp only[kE,List.getElem?_cons_zero];congr 2
 ·omega
 ·congr 1;omega
def fc(c:List Int)(a:Nat):Nat->Nat->Nat
 |0,n=>n
 |m+1,n=>if 17+c.getD (a+n) 0≠c.getD a 0 then fc c a m (n+1)else n
def C2(d:List UInt8)(a n:Nat):Nat->Nat->Nat
 |0,k=>k
 |m+1,k=>if dY d a k<n then C2 d a n m (k+1)else k
def PX(c:List Int)(a:Nat):∀(m n k:Nat),n<=k->k<n+m->17+c.getD (a+k) 0=c.getD a 0->n<=fc c a m n/\fc c a m n<=k/\17+c.getD (a+fc c a m n) 0=c.getD a 0:=by
 intro m
 induction m with
 |zero=>intro n k h1 h2;omega
 |succ m ih=>
  intro n k h1 h2 h3;unfold fc;split
  ·rename_i h;by_cases he:n=k
   ·subst he;exact absurd h3 h
   ·have:=ih (n+1) k ab ab h3;omega
  ·rename_i h;have:17+c.getD (a+n) 0=c.getD a 0:=zco h;exact⟨zai _,h1,this⟩
def Om(c:List Int)(a n:Nat)(h:1<=n):(c.drop (a+1)).getD (n-1) 0=c.getD (a+n) 0:=by
 rw[zbr,zbr,List.getElem?_drop];congr 2;omega
def ad1(d:List UInt8)(a:Nat)(h:a<d.length)(cb:9+(aY d).getD (a+1) 0≠(aY d).getD a 0):∃k,3<=k/\k<=(uV d a).2/\17+(aY d).getD (a+k) 0=(aY d).getD a 0:=by
 have h1:=apG d a h;have h2:(aY d).getD a 0=NL d a ((aY d).drop (a+1)):=by rw[zbr,h1];rfl
 have h3:=Om (aY d) a 1 (zai _);unfold NL at h2;rcases ao3 ((aY d).drop (a+1)) ((uV d a).2-2) 3 (9+((aY d).drop (a+1)).getD 0 0)with h4|⟨k,h4,h5,h6⟩
 ·rw[h4]at h2;rw[h2,<-h3]at cb;exact absurd rfl cb
 ·refine⟨k,h4,ab,?_⟩;rw[h2,h6,Om _ _ _ ab]
def aph(d:List UInt8)(a n:Nat):∀(m k pC:Nat),(∃p∈fv d a m k pC,n<=p.2)->((fv d a m k pC).find? λp=>decide (n<=p.2)).elim 0 (·.1)=C2 d a n m k\/n<=pC:=by
 intro m
 induction m with
 |zero=>intro k pC ⟨p,hp,_⟩;simp[fv]at hp
 |succ m ih=>
  intro k pC hp;by_cases hn:n<=pC
  ·exact .inr hn
  refine .inl ?_;unfold fv at hp ⊢;unfold C2;split at hp
  ·rename_i hr;rw[if_pos hr];split at hp
   ·rename_i hm;rw[if_pos hm];by_cases h:n<=dY d a k
    ·rw[zcm ky,if_neg ab];rfl
    ·rw[List.find?_cons_of_neg ky,if_pos ab];obtain⟨p,hp,IH⟩:=hp;rcases zaw.1 hp with rfl|hp
     ·exact absurd IH h
     ·rcases ih (k+1) (dY d a k) ⟨p,hp,IH⟩with h'|h'
      ·exact h'
      ·exact absurd h' h
   ·rename_i hm;rw[if_neg hm,if_pos ab];rcases ih (k+1) pC hp with h'|h'
    ·exact h'
    ·exact absurd h' hn
  ·obtain⟨p,hp,_⟩:=hp;simp at hp
def KO(d:List UInt8)(a n:Nat):Nat:=((nB d a).find? λp=>decide (n<=p.2)).elim 0 (·.1)
def aim(d:List UInt8)(a:Nat)(h:0<(uV d a).2):uV d a∈nB d a:=by
 unfold uV at h ⊢;rw[Sc]at h ⊢;show _∈fv d a a 1 0;generalize fv d a a 1 0=l at h;cases l with
 |nil=>simp at h
 |cons x l=>rw[zcf aj];exact List.getLast_mem _
def awW(d:List UInt8)(a n:Nat)(h1:1<=n)(h2:n<=(uV d a).2):KO d a n=C2 d a n a 1:=by
 rcases aph d a n a 1 0 ⟨_,aim d a ab,h2⟩with h|h
 ·exact h
 ·omega
def amo(d:List UInt8)(a:Nat):∀(m k pC:Nat),∀p∈fv d a m k pC,k<=p.1/\p.1<k+m/\p.2=dY d a p.1:=by
 intro m
 induction m with
 |zero=>intro k pC p hp;simp[fv]at hp
 |succ m ih=>
  intro k pC p hp;unfold fv at hp;split at hp
  ·split at hp
   ·rcases zaw.1 hp with rfl|hp
    ·exact⟨zai _,by simp only;omega,rfl⟩
    ·have:=ih _ _ p hp;omega
   ·have:=ih _ _ p hp;omega
  ·simp at hp
def agz(d:List UInt8)(a n:Nat):∀(m k q:Nat),k<=q->q<k+m->n<=dY d a q->k<=C2 d a n m k/\C2 d a n m k<=q/\n<=dY d a (C2 d a n m k):=by
 intro m
 induction m with
 |zero=>intro k q h1 h2;omega
 |succ m ih=>
  intro k q h1 h2 h3;unfold C2;split
  ·rename_i h;by_cases he:k=q
   ·subst he;omega
   ·have:=ih (k+1) q ab ab h3;omega
  ·exact⟨zai _,h1,ab⟩
def mz(d:List UInt8)(c:List Int)(a:Nat):cI:=
 if 9+c.getD (a+1) 0≠c.getD a 0 then abj (KO d a (fc c a (d.length-a) 3),fc c a (d.length-a) 3)else Ws d a
def qB(d:List UInt8)(c:List Int):Nat->Nat->List cI
 |0,_=>[]
 |m+1,a=>if a<d.length then mz d c a::qB d c m (a+(mz d c a).made.toNat)else[]
def Eb(d:List UInt8):List cI:=qB d (aY d) d.length 0
def Q0(d:List UInt8)(a:Nat)(h:a<d.length)(cb:9+(aY d).getD (a+1) 0≠(aY d).getD a 0):
 3<=fc (aY d) a (d.length-a) 3/\fc (aY d) a (d.length-a) 3<=(uV d a).2/\a+fc (aY d) a (d.length-a) 3<=d.length/\17+(aY d).getD (a+fc (aY d) a (d.length-a) 3) 0=(aY d).getD a 0:=by
 obtain⟨k,h1,h2,h3⟩:=ad1 d a h cb;have hb:=SA d a;have hr:e_ d a<=d.length-a:=zch _ _;have:=PX (aY d) a (d.length-a) 3 k h1 ab h3;omega
def Y5(d:List UInt8)(a n:Nat)(h1:1<=n)(h2:n<=(uV d a).2):1<=KO d a n/\KO d a n<=a/\n<=dY d a (KO d a n):=by
 rw[awW d a n h1 h2];have hm:=aim d a ab;have:=amo d a a 1 0 _ hm;have h3:=agz d a n a 1 (uV d a).1 ab ab ab;omega
def Ck(d:List UInt8)(a:Nat)(h:a<d.length):1<=(mz d (aY d) a).made/\a+(mz d (aY d) a).made<=d.length:=by
 unfold mz;split
 ·rename_i cb;have h1:=Q0 d a h cb;have h2:=Y5 d a _ ab h1.2.1;unfold cI.made abj;simp only;rw[if_pos ab];omega
 ·simp[Ws,cI.made];omega
def ajl(d:List UInt8):∀(m a:Nat),d.length<=a+m->qB d (aY d) m a=qB d (aY d) (m+1) a:=by
 intro m
 induction m with
 |zero=>intro a h;unfold qB;rw[if_neg ab]
 |succ m ih=>
  intro a h;show(if a<d.length then mz d (aY d) a::qB d (aY d) m (a+(mz d (aY d) a).made.toNat)else[])=(if a<d.length then mz d (aY d) a::qB d (aY d) (m+1) (a+(mz d (aY d) a).made.toNat)else[])
  split
  ·rename_i aU;have h1:=Ck d a aU;rw[ih _ ab]
  ·rfl
def ai4(d:List UInt8)(a:Nat):∀(j k:Nat),d.length<=a+k->qB d (aY d) (k+j) a=qB d (aY d) k a:=by
 intro j
 induction j with
 |zero=>intro k _;rfl
 |succ j ih=>intro k hb;rw[<-zaJ,<-ajl d (k+j) a ab,ih k hb]
def C9(d:List UInt8)(m a:Nat)(hm:a+(m+1)=d.length):qB d (aY d) (m+1) a=mz d (aY d) a::qB d (aY d) (m+1-(mz d (aY d) a).made.toNat) (a+(mz d (aY d) a).made.toNat):=by
 have h1:=Ck d a ab;show(if a<d.length then mz d (aY d) a::qB d (aY d) m (a+(mz d (aY d) a).made.toNat)else[])=_;rw[if_pos ab];congr 1;have:=ai4 d (a+(mz d (aY d) a).made.toNat) ((mz d (aY d) a).made.toNat-1) (m+1-(mz d (aY d) a).made.toNat) ab;rw[<-this];congr 1;omega
def yg:Spec:={ lone:=false,fn:=false,run:=λ_ _=>False,iter:=asf,mu:=false,qS:=λ_ _ _=>False }
def agN(hΓ:Sound Go.Proofs.Tryz.prog (ay [(284,ah iS),(285,ah kY)])):an Go.Proofs.Tryz.prog 283 yg:=
 ⟨(λe=>cz),(λe=>cz),(λ_ _ _ _ _ _ _ _ h=>(show False from h).elim),ali hΓ,(λ_ _ _ _ _ _ _ _ e=>cz)⟩
def Mu:Spec:=EM false false λps K=>∃(d:List UInt8) (a:Int),ps=[.str d,pI a]/\K (.pv (.clo 283 [.cptr (.str d),.cptr (pI a)]))
def acI:MT (ay [(283,yg)]) tI Mu:=by
 rintro _ K ⟨d,a,rfl,hK⟩;exact FI
def auZ(l:List (Nat×Nat)):(l.map (·.2)).getLastD 0=(((0,0)::l).getLast aj).2:=by
 cases l with
 |nil=>rfl
 |cons x l=>
  rw[zcf aj,List.getLastD_eq_getLast?,List.getLast?_map,List.getLast?_eq_some_getLast aj];rfl
def aqC(d:List UInt8)(a:Nat):((nB d a).map (·.2)).getLastD 0=(uV d a).2:=by
 unfold uV;rw[Sc d a a 1 0 0,auZ];rfl
def O4(ps:List PV)(x:PV):Prop:=∃(d:List UInt8) (a:Int),ps=[.str d,pI a]/\(d.length<=4096/\0<=a/\a<=(d.length:Int))/\x=pI ((uV d a.toNat).2:Nat)
def Zb:MT (ay [(273,Mu),(283,yg)]) si (ah O4):=by
 rintro _ K ⟨_,⟨d,a,rfl,h,rfl⟩,hK⟩;refine⟨rfl,?_⟩;refine⟨d,a,rfl,?_⟩;refine⟨mI (nB d a.toNat),λpre σ=>∃l:List (Nat×Nat),pre=mI l/\σ=[.box 3 [.pv (pI ((l.map (·.2)).getLastD 0:Nat))]],⟨d,a,rfl,h,rfl⟩,?_,⟨rfl,([]:List (Nat×Nat)),rfl,rfl⟩,?_,?_⟩
 ·intro x hx;simp only[mI,zaX]at hx;obtain⟨p,_,rfl⟩:=hx;rfl
 ·rintro pre x σ hx _ ⟨l,rfl,rfl⟩;simp only[mI,zaX]at hx;obtain⟨p,_,rfl⟩:=hx;refine⟨rfl,rfl,rfl,l++[p],by simp[mI],?_⟩;simp
 ·rintro σ ⟨l,hl,rfl⟩;have:l=nB d a.toNat:=by
   unfold mI at hl;exact(zce (λx y e=>abf)).1 hl.symm
  subst this;rw[aqC];exact FI
def T2(ps:List PV)(x:PV):Prop:=∃(d:List UInt8) (a n:Int),ps=[.str d,pI a,pI n]/\(d.length<=4096/\0<=a/\a<=(d.length:Int)/\0<=n)/\x=pI (KO d a.toNat n.toNat:Nat)
def acM:MT (ay [(273,Mu),(283,yg)]) tu (ah T2):=by
 rintro _ K ⟨_,⟨d,a,n,rfl,⟨h1,h2,h3,h4⟩,rfl⟩,hK⟩;refine⟨d,a,rfl,?_⟩;refine⟨mI (nB d a.toNat),λpre σ=>∃l:List (Nat×Nat),(pre=mI l∧∀p∈l,¬n.toNat<=p.2)/\σ=[.box 3 [.pv (pI n)],.box 3 [.pv (pI 0)]],⟨d,a,rfl,⟨h1,h2,h3⟩,rfl⟩,?_,⟨rfl,[],⟨rfl,aj⟩,rfl⟩,?_,?_⟩
 ·intro x hx;simp only[mI,zaX]at hx;obtain⟨p,_,rfl⟩:=hx;rfl
 ·rintro pre x σ hx _ ⟨l,⟨rfl,hl⟩,rfl⟩;simp only[mI,zaX]at hx;obtain⟨p,_,rfl⟩:=hx;refine λb hb=>?_
  rcases cmp hb with⟨rfl,h⟩|⟨rfl,h⟩
  ·refine⟨rfl,rfl,λhp=>?_⟩;refine⟨.pv (pI _),bu ?_,trivial,hK⟩;obtain⟨t,ht⟩:=hp;have e:mI (l++[p])++t=mI (nB d a.toNat):=by rw[<-ht];simp[mI]
   obtain⟨u,hu⟩:∃u,nB d a.toNat=(l++[p])++u:=by
    refine⟨(nB d a.toNat).drop (l++[p]).length,?_⟩;have e2:(nB d a.toNat).take (l++[p]).length=l++[p]:=by
     have h5:mI ((nB d a.toNat).take (l++[p]).length)=mI (l++[p]):=by
      unfold mI at e ⊢;rw[List.map_take,<-e,<-zav (f:=λp:Nat×Nat=>[pI (p.1:Nat),pI (p.2:Nat)]),List.take_left]
     unfold mI at h5;exact(zce (λx y e=>abf)).1 h5
    rw[<-e2,List.length_take];have hlen:(l++[p]).length<=(nB d a.toNat).length:=by
     have:=congrArg List.length e;simp only[mI,zad,zav]at this ⊢;omega
    rw[Nat.min_eq_left hlen];exact(zaD _ _).symm
   unfold KO;rw[hu,zaj,List.find?_append,zcu.2 Lu];have:n.toNat<=p.2:=ab;show((((p::u).find? λp=>decide (n.toNat<=p.2)).elim 0 (·.1):Nat):Int)=_;rw[zcm (by simpa using this)];rfl
  ·exact⟨rfl,rfl,l++[p],⟨by simp[mI],by
    intro q hq;rcases zaA.1 hq with hq|hq
    ·exact hl q hq
    ·simp at hq;subst hq;omega⟩,rfl⟩
 ·rintro σ ⟨l,⟨hl,hn⟩,rfl⟩;have:l=nB d a.toNat:=by
   unfold mI at hl;exact(zce (λx y e=>abf)).1 hl.symm
  subst this;refine⟨rfl,?_⟩;refine⟨.pv (pI _),bu ?_,trivial,hK⟩;unfold KO;rw[zcu.2 (by simpa using hn)];rfl
def mP(ps:List PV)(x:PV):Prop:=∃(d:List UInt8) (a:Int),ps=[.str d,pI a]/\(0<=a/\a<(d.length:Int))/\x=(Ws d a.toNat).pv
def aA2(d:List UInt8){a:Int}(h:0<=a/\a<(d.length:Int)){x:Int}(hx:x=((d[a.toNat]'ab).toNat:Int)):PV.agg [pI 0,pI 0,pI x]=(Ws d a.toNat).pv:=by
 unfold Ws cI.pv;rw[zah ab,hx];rfl
def Ah:MT (ay []) tp (ah mP):=by
 rintro _ K ⟨_,⟨d,a,rfl,⟨h1,h2⟩,rfl⟩,hK⟩;refine⟨_,⟨h1,zah ab⟩,?_⟩;refine λx hx=>?_
 replace hx:=dB hx (by have:=(d[a.toNat]'ab).toNat_lt;omega);refine⟨rfl,?_⟩;refine⟨rfl,?_⟩;rw[<-aA2 d ⟨h1,h2⟩ hx]at hK;refine⟨.pv (.agg [pI 0,pI 0,pI x]),rfl,?_,hK⟩;intro c hc;simp at hc;rcases hc with rfl|rfl<;>trivial
def Ui(l:List cI):∀x∈l.map cI.pv,x.flat:=by
 intro x hx;obtain⟨t,_,rfl⟩:=zaX.1 hx;intro c hc;simp at hc;rcases hc with rfl|rfl|rfl<;>trivial
def Small(c:List Int)(a:Nat):Prop:=∀i,a<i→∀x,c[i]?=some x-> -1000000<=x/\x<=1000000
def ame(t:List Int):∀(m n:Nat) (o:Int),yK t (m+1) n o=yK t m (n+1) (min o (17+t.getD (n-1) 0)):=λ_ _ _=>rfl
def ak1(ps:List PV)(x:PV):Prop:=∃(d:List UInt8) (c:List Int) (a:Int),ps=[.str d,.sl 1 (c.map pI),pI a]/\(d.length<=4096/\0<=a/\a<(d.length:Int)/\c.length=d.length+1/\Small c a.toNat)/\x=pI (NL d a.toNat (c.drop (a.toNat+1)))
def alW:MT (ay [(282,ah O4)]) xE (ah ak1):=by
 rintro _ K ⟨_,⟨d,c,a,rfl,⟨h1,h2,h3,h4,h5⟩,rfl⟩,hK⟩;have hb:=SA d a.toNat;have hr:e_ d a.toNat<=d.length-a.toNat:=zch _ _;have Gr:∀n:Nat,1<=n->n<=d.length-a.toNat->(c.map pI)[a.toNat+n]?=some (pI ((c.drop (a.toNat+1)).getD (n-1) 0))/\ -1000000<=(c.drop (a.toNat+1)).getD (n-1) 0/\(c.drop (a.toNat+1)).getD (n-1) 0<=1000000:=by
  intro n Kt LD;have aU:a.toNat+n<c.length:=ab;rw[Om _ _ _ Kt,zbr,za9,zah aU];exact⟨rfl,h5 (a.toNat+n) ab _ (zah aU)⟩
 generalize hT:c.drop (a.toNat+1)=T at Gr hK;refine λx hx=>?_
 obtain rfl:=dB hx ab;obtain⟨g1,g2,g3⟩:=Gr 1 (zai _) ab;refine⟨_,⟨ab,by rw[show(a+1).toNat=a.toNat+1 by omega];exact g1⟩,?_⟩;refine λx hx=>?_
 obtain rfl:=dB hx ab;refine⟨_,⟨d,a,rfl,⟨h1,h2,ab⟩,rfl⟩,?_⟩;refine⟨λm env σ=>∃(n:Nat) (o:Int),(3<=n/\(n:Int)+m=max 3 ((uV d a.toNat).2+1)/\ -1000000<=o/\o<=2000000/\yK T m n o=NL d a.toNat T)/\σ=[]/\env=[(1,.pv (.sl 1 (c.map pI))),eN 2 a,eN 7 o,eN 8 n,eN 9 ((uV d a.toNat).2:Nat)],(uV d a.toNat).2-2,⟨3,_,⟨ab,ab,?_,?_,rfl⟩,rfl,rfl⟩,?_⟩
 ·simp only[zb9]at g2 ⊢;omega
 ·simp only[zb9]at g3 ⊢;omega
 rintro m env σ ⟨n,o,⟨hn,hm,ho1,ho2,cL⟩,rfl,rfl⟩;refine λb Cs=>?_
 rcases cmp Cs with⟨rfl,h⟩|⟨rfl,h⟩
 ·cases m with
  |zero=>omega
  |succ m=>
  obtain⟨g1,g2,g3⟩:=Gr n ab ab;refine λx hx=>?_
  obtain rfl:=dB hx ab;refine⟨_,⟨ab,by rw[show(a+n).toNat=a.toNat+n by omega];exact g1⟩,?_⟩;refine λx hx=>?_
  obtain rfl:=dB hx ab;refine λx hx=>?_
  refine λy hy=>?_
  obtain rfl:=dB hy ab;rw[ame]at cL;subst hx;exact⟨m,ab,n+1,_,⟨ab,ab,ab,ab,cL⟩,rfl,rfl⟩
 ·have:m=0:=by omega
  subst this;have:o=NL d a.toNat T:=cL;subst this;exact aG
def Uf(m:Nat)(t:List Int):List Int:=List.replicate m 0++t
def as3(m:Nat)(t:List Int):(Uf m t).length=m+t.length:=by simp[Uf]
def apw(m:Nat)(t:List Int):(Uf m t).drop m=t:=by
 unfold Uf;rw[List.drop_append_of_le_length aj];simp
def aum(m:Nat)(t:List Int)(x:Int):((Uf (m+1) t).map pI).set m (pI x)=(Uf m (x::t)).map pI:=by
 unfold Uf;rw[zcp,zaj,zbu,List.set_append_right _ _ aj,zav,List.length_replicate,zb9,zbu,zbu];rfl
def amv(m:Nat)(t:List Int)(a:Nat)(h:∀x∈t,-1000000<=x/\x<=1000000):Small (Uf m t) a:=by
 intro i _ x hx;rcases zaA.1 (zag hx)with h'|h'
 ·simp at h';omega
 ·exact h x h'
def ao9(l:List Int):∀x∈l.map pI,x.flat:=by
 intro x hx;obtain⟨t,_,rfl⟩:=zaX.1 hx;trivial
def aff:Spec:=EM true false λps K=>∃d:List UInt8,ps=[.str d]/\d.length<=4096/\K (.fresh 3 1 ((aY d).map pI))
def akd:MT (ay [(272,ah ak1)]) vX aff:=by
 rintro _ K ⟨d,rfl,h1,hK⟩;refine λx hx=>?_
 obtain rfl:=dB hx ab;refine⟨ab,?_⟩;refine λx hx=>?_
 obtain rfl:=dB hx ab;refine⟨λm env σ=>(m<=d.length)/\σ=[.row 3 1 true ((Uf m (kE d (d.length-m))).map pI)]/\env=[(0,.pv (.str d)),(3,.own 0),eN 4 ((m:Int)-1)],d.length,⟨zai _,?_,rfl⟩,?_⟩
 ·have:((d.length:Int)+1).toNat=d.length+1:=by omega
  rw[this,zb9];simp only[Uf,kE,zbu,List.map_replicate,zat,zcg,zcp]
 rintro m env σ ⟨hm,rfl,rfl⟩;refine λb hb=>?_
 rcases cmp hb with⟨rfl,h⟩|⟨rfl,h⟩
 ·cases m with
  |zero=>omega
  |succ m=>
  have e:((m+1:Nat):Int)-1=(m:Int):=ab;rw[e]at*;have hlen:=as3 (m+1) (kE d (d.length-(m+1)));rw[Ow]at hlen;refine⟨_,⟨d,Uf (m+1) (kE d (d.length-(m+1))),m,rfl,⟨h1,ab,ab,ab,amv _ _ _ (λx hx=>by have:=ND d _ x hx;omega)⟩,rfl⟩,?_⟩;rw[zaC,apw];refine⟨⟨ab,PR⟩,?_⟩;refine⟨pI 0,?_,?_⟩
  ·rw[zaC,za9];unfold Uf;rw[List.getElem?_append_left aj,List.getElem?_replicate,if_pos ab];rfl
  refine⟨rfl,?_⟩;refine λx hx=>?_
  obtain rfl:=dB hx ab;refine⟨m,ab,ab,?_,rfl⟩;have e2:d.length-m=(d.length-(m+1))+1:=ab;have e3:d.length-(d.length-(m+1)+1)=m:=ab;rw[e2];show[dC.row 3 1 true (((Uf (m+1) (kE d (d.length-(m+1)))).map pI).set ((m:Int).toNat) _)]=_;rw[zaC,aum,kE,e3]
 ·have:m=0:=by omega
  subst this;exact⟨.fresh _ _ _,⟨rfl,rfl,rfl,rfl⟩,ao9 _,hK⟩
def XS(d:List UInt8):(aY d).length=d.length+1:=Ow d d.length
def O_(d:List UInt8){i:Nat}(h:i<=d.length):((aY d).map pI)[i]?=some (pI ((aY d).getD i 0))/\0<=(aY d).getD i 0/\(aY d).getD i 0<=9*d.length:=by
 have hl:=XS d;have aU:i<(aY d).length:=ab;rw[za9,zbr,zah aU];exact⟨rfl,ND d d.length _ (List.getElem_mem aU)⟩
def Um:Spec:=EM true false λps K=>∃d:List UInt8,ps=[.str d]/\d.length<=4096/\K (.fresh 170 3 ((Eb d).map cI.pv))
def ac1:MT (ay [(254,aff),(255,ah mP),(256,ah T2),(216,ah dW)]) tL Um:=by
 rintro _ K ⟨d,rfl,h1,hK⟩;refine⟨d,rfl,h1,?_⟩;refine⟨λm env σ=>∃(done:List cI) (a:Nat),(a+m=d.length/\done.length<=a/\Eb d=done++qB d (aY d) m a)/\σ=[.row 3 1 true ((aY d).map pI),.row 170 3 true (done.map cI.pv)]/\env=[(0,.pv (.str d)),(3,.own 0),(4,.own 1),eN 5 a],d.length,⟨[],0,⟨ab,aj,rfl⟩,rfl,rfl⟩,?_⟩;rintro m env σ ⟨done,a,⟨hm,hlen,cL⟩,rfl,rfl⟩;refine λb hb=>?_
 rcases cmp hb with⟨rfl,h⟩|⟨rfl,h⟩
 ·cases m with
  |zero=>omega
  |succ m=>
  rw[C9 d m a hm]at cL;have azI:=Ck d a ab;have hl:=XS d;have ha:=O_ d (i:=a) ab;have ha1:=O_ d (i:=a+1) ab;have fin:∀t:cI,t=mz d (aY d) a→∃m',m'<m+1∧∃(ab5:List cI) (a':Nat),(a'+m'=d.length/\ab5.length<=a'/\Eb d=ab5++qB d (aY d) m' a')/\done.map cI.pv++[t.pv]=ab5.map cI.pv/\(a:Int)+t.made=a':=by
   rintro t rfl;exact⟨m+1-(mz d (aY d) a).made.toNat,ab,done++[mz d (aY d) a],a+(mz d (aY d) a).made.toNat,⟨ab,aH,by rw[cL];simp⟩,aj,ab⟩
  refine⟨_,⟨d,a,rfl,⟨ab,ab⟩,rfl⟩,?_⟩;refine⟨rfl,?_⟩;refine⟨ak,?_⟩;refine λx hx=>?_
  obtain rfl:=dB hx ab;have e1:((a:Int)+1).toNat=a+1:=ab;refine⟨⟨ab,by rw[zav,e1];omega⟩,?_⟩;rw[e1];refine⟨_,ha1.1,?_⟩;refine λx hx=>?_
  obtain rfl:=dB hx ab;refine⟨⟨ab,PR⟩,?_⟩;refine⟨_,by rw[zaC];exact ha.1,?_⟩;refine λb hb=>?_
  rcases cmp hb with⟨rfl,h'⟩|⟨rfl,h'⟩
  ·have hf:=Q0 d a ab h';have aoF:=SA d a;have aq1:mz d (aY d) a=abj (KO d a (fc (aY d) a (d.length-a) 3),fc (aY d) a (d.length-a) 3):=by unfold mz;rw[if_pos h']
   refine⟨λm env σ=>∃n:Nat,(3<=n/\n+m=d.length-a+3/\fc (aY d) a m n=fc (aY d) a (d.length-a) 3)/\σ=[.row 3 1 true ((aY d).map pI),.row 170 3 true (done.map cI.pv),.box 170 [.pv (pI 0),.pv (pI 0),.pv (pI (Ws d a).b)]]/\env=[(0,.pv (.str d)),(3,.own 0),(4,.own 1),eN 5 a,(6,.ref 2 0 0),eN 7 n],d.length-a,⟨3,⟨zai _,ab,rfl⟩,rfl,rfl⟩,?_⟩;rintro k env σ ⟨n,⟨hn,hk,pe⟩,rfl,rfl⟩;have hnf:k=0\/n<=fc (aY d) a (d.length-a) 3:=by
    cases k with
    |zero=>exact .inl rfl
    |succ k=>
     right;obtain⟨q,j0,jx,ry⟩:=ad1 d a ab h';by_cases rD:n<=q
     ·have:=PX (aY d) a (k+1) n q rD (by have:=aoF.1;have:e_ d a<=d.length-a:=zch _ _;omega) ry;omega
     ·rw[<-pe];have:∀m n,n<=fc (aY d) a m n:=by
       intro m
       induction m with
       |zero=>intro n;exact zai _
       |succ m ih=>intro n;unfold fc;split;have:=ih (n+1);omega;exact zai _
      exact this _ _
   refine⟨ak,?_⟩;have han:a+n<=d.length:=by
    rcases hnf with rfl|hnf
    ·have:n=fc (aY d) a (d.length-a) 3:=pe;omega
    ·omega
   have cM:=O_ d (i:=a+n) han;refine λx hx=>?_
   obtain rfl:=dB hx ab;have e2:((a:Int)+n).toNat=a+n:=ab;refine⟨⟨ab,by rw[zav,e2];omega⟩,?_⟩;refine⟨_,by rw[e2];exact cM.1,?_⟩;refine λx hx=>?_
   obtain rfl:=dB hx ab;refine⟨⟨ab,PR⟩,?_⟩;refine⟨_,by rw[zaC];exact ha.1,?_⟩;refine λb hb=>?_
   rcases cmp hb with⟨rfl,h2⟩|⟨rfl,h2⟩
   ·refine λx hx=>?_
    obtain rfl:=dB hx ab;cases k with
    |zero=>
     have:n=fc (aY d) a (d.length-a) 3:=pe;rw[<-this]at hf;exact absurd hf.2.2.2 h2
    |succ k=>
     have e3:fc (aY d) a (k+1) n=fc (aY d) a k (n+1):=by rw[fc,if_pos h2]
     rw[e3]at pe;exact⟨k,ab,n+1,⟨ab,ab,pe⟩,rfl,rfl⟩
   ·have z_:n=fc (aY d) a (d.length-a) 3:=by
     cases k with
     |zero=>exact pe
     |succ k=>
      have e3:fc (aY d) a (k+1) n=n:=by rw[fc,if_neg h2]
      rw[e3]at pe;exact pe
    refine⟨_,⟨d,a,n,rfl,⟨h1,ab,ab,ab⟩,rfl⟩,?_⟩;rw[zaC,zaC];refine⟨rfl,?_⟩;refine⟨rfl,?_⟩;refine⟨rfl,?_⟩;refine⟨rfl,?_⟩;refine⟨⟨?_,?_⟩,?_⟩
    ·rw[zav];show(done.length+1)*24<=_;omega
    ·rw[zav];show done.length+1<=_;omega
    refine⟨_,⟨abj (KO d a n,n),rfl,rfl⟩,?_⟩;have et:abj (KO d a n,n)=mz d (aY d) a:=by rw[aq1,<-z_]
    obtain⟨m',f1,ab5,a',f2,f3,f4⟩:=fin _ et;refine λx hx=>?_
    obtain rfl:=dB hx ab;refine⟨m',f1,ab5,a',f2,?_,?_⟩
    ·exact congrArg (λl=>[dC.row 3 1 true ((aY d).map pI),dC.row 170 3 true l]) f3
    ·rw[f4]
  ·have aq1:Ws d a=mz d (aY d) a:=by unfold mz;rw[if_neg h']
   refine⟨rfl,?_⟩;refine⟨⟨?_,?_⟩,?_⟩
   ·rw[zav];show(done.length+1)*24<=_;omega
   ·rw[zav];show done.length+1<=_;omega
   refine⟨_,⟨Ws d a,rfl,rfl⟩,?_⟩;obtain⟨m',f1,ab5,a',f2,f3,f4⟩:=fin _ aq1;refine λx hx=>?_
   obtain rfl:=dB hx ab;refine⟨m',f1,ab5,a',f2,?_,?_⟩
   ·exact congrArg (λl=>[dC.row 3 1 true ((aY d).map pI),dC.row 170 3 true l]) f3
   ·rw[f4]
 ·have:m=0:=by omega
  subst this;have e:Eb d=done:=by rw[cL];simp[qB]
  rw[e]at hK;exact⟨.fresh _ _ _,⟨rfl,rfl,rfl,rfl⟩,Ui _,hK⟩
def ng{n:Nat}{w:Nat}(h:n<2^w):(BitVec.ofInt w (n:Int)).toNat=n:=by
 rw[BitVec.ofInt_natCast,BitVec.toNat_ofNat,zcy h]
def Rm{n:Nat}(h:n<2^62):IntKind.i64.wrap (n:Int)=n:=by
 have:(2:Nat)^62=4611686018427387904:=ao;exact wrap64 ab
def axa{a b:Nat}(ha:a<2^62)(hb:b<2^62):iz .or .i64 (a:Int) (b:Int)=((a|||b:Nat):Int):=by
 unfold iz;have h1:=zcv ha hb;have e:IntKind.i64.bits=64:=rfl;simp only[e,BitVec.toNat_or];rw[ng (zaf ha ao),ng (zaf hb ao)];exact Rm h1
def aiF{a b:Nat}(ha:a<2^62)(hb:b<2^62):iz .and .i64 (a:Int) (b:Int)=((a&&&b:Nat):Int):=by
 unfold iz;have h1:a&&&b<2^62:=zcc zci ha;have e:IntKind.i64.bits=64:=rfl;simp only[e,BitVec.toNat_and];rw[ng (zaf ha ao),ng (zaf hb ao)];exact Rm h1
def ZV{n:Nat}(h:n<256):IntKind.u8.wrap (n:Int)=n:=by
 have hb:IntKind.u8.bits=8:=rfl;simp only[IntKind.wrap,IntKind.signed,hb];simp;omega
def or8{a b:Nat}(ha:a<256)(hb:b<256):iz .or .u8 (a:Int) (b:Int)=((a|||b:Nat):Int):=by
 unfold iz;have h1:a|||b<2^8:=zcv ha hb;have e:IntKind.u8.bits=8:=rfl;simp only[e,BitVec.toNat_or];rw[ng ha,ng hb];exact ZV h1
def aJu{a b:Nat}(ha:a<256)(hb:b<256):iz .and .u8 (a:Int) (b:Int)=((a&&&b:Nat):Int):=by
 unfold iz;have h1:a&&&b<256:=zcc zci ha;have e:IntKind.u8.bits=8:=rfl;simp only[e,BitVec.toNat_and];rw[ng ha,ng hb];exact ZV h1
def O7{a k b:Nat}(h:a<2^k):a|||(2^k*b)=a+2^k*b:=by
 rw[Nat.or_comm,<-zcd h,zcr]
def PZ(a k:Nat):a&&&(2^k-1)=a%2^k:=zca a k
def lV(n:Nat):UInt8:=UInt8.ofNat n
def qd{n:Nat}(h:n<256):(lV n).toNat=n:=by simp[lV];omega
def ue{n:Int}(h:0<=n/\n<256):PV.int .u8 n=aL (lV n.toNat):=by
 unfold aL;rw[qd ab];congr 1;omega
def JR(n:Nat):List UInt8:=[lV (n%256),lV (n/256%256)]
def B7(t:cI)(a:Nat):List UInt8:=if t.d≠0 then JR ((t.d.toNat-1)*2^(16-dh a)+t.l.toNat-3)else[lV t.b.toNat]
def vm(t:cI)(a:Nat):Prop:=a<4096/\if t.d≠0 then t.b=0/\1<=t.d/\t.d<=a/\3<=t.l/\t.l<=KK a/\a+t.l<=4096 else t.l=0/\0<=t.b/\t.b<=255
def hZ:List cI->Nat->Prop
 |[],_=>True
 |t::l,a=>vm t a/\hZ l (a+t.made.toNat)
def ur{t:cI}{a:Nat}(h:vm t a):1<=t.made/\a+t.made<=4096:=by
 unfold vm at h;unfold cI.made;obtain⟨h1,h2⟩:=h;split at h2
 ·rw[if_pos ‹_›];omega
 ·rw[if_neg ‹_›];omega
def aoq{t:cI}{a:Nat}(h:vm t a)(hd:t.d≠0):(t.d.toNat-1)*2^(16-dh a)+t.l.toNat-3<65536/\(t.d.toNat-1)<2^dh a/\t.l.toNat-3<2^(16-dh a):=by
 unfold vm at h;rw[if_pos hd]at h;obtain⟨h0,_,h1,h2,h3,h4,h5⟩:=h;have hs:=tw (a:=a) ab;have h6:t.d.toNat<=2^dh a:=by
  have:=(aiG (a:=a) (wJ a)).1 (zai _);omega
 have h7:t.l.toNat<=2^(16-dh a)+2:=by unfold KK at h4;omega
 have h8:2^dh a*2^(16-dh a)=65536:=by
  rw[<-zcw,show dh a+(16-dh a)=16 by omega]
 have h9:(t.d.toNat-1)*2^(16-dh a)<=(2^dh a-1)*2^(16-dh a):=Nat.mul_le_mul_right _ ab;rw[Nat.sub_mul (2^dh a),h8,zbc]at h9;have:=zcj (16-dh a);have XK:2^(16-dh a)<=2^16:=zb6 ab ab;refine⟨?_,?_,?_⟩
 ·generalize 2^(16-dh a)=p at*;generalize (t.d.toNat-1)*p=q at*;have:(2:Nat)^16=65536:=ao;omega
 ·omega
 ·omega
def fa:Nat->List cI->Nat
 |_,[]=>0
 |k,t::l=>(if t.d≠0 then 2^k else 0)+fa (k+1) l
def Ky:∀(l:List cI) (k:Nat),fa k l+2^k<=2^(k+l.length):=by
 intro l
 induction l with
 |nil=>intro k;simp[fa]
 |cons t l ih=>
  intro k;have:=ih (k+1);simp only[fa,zam];rw[show k+(l.length+1)=k+1+l.length by omega];have e:2^(k+1)=2*2^k:=by rw[Nat.pow_succ];omega
  split<;>omega
def Ar:∀(l m:List cI) (k:Nat),fa k (l++m)=fa k l+fa (k+l.length) m:=by
 intro l
 induction l with
 |nil=>intro m k;simp[fa]
 |cons t l ih=>
  intro m k;simp only[zbd,fa,zam,ih];rw[show k+1+l.length=k+(l.length+1) by omega];omega
def eA:List cI->Nat->List UInt8
 |[],_=>[]
 |t::l,a=>B7 t a++eA l (a+t.made.toNat)
def jH:List cI->Nat->Nat
 |[],a=>a
 |t::l,a=>jH l (a+t.made.toNat)
def adD:∀(l m:List cI) (a:Nat),eA (l++m) a=eA l a++eA m (jH l a):=by
 intro l
 induction l with
 |nil=>intro m a;rfl
 |cons t l ih=>intro m a;simp only[zbd,eA,jH,ih,zaj]
def U3:∀(l m:List cI) (a:Nat),jH (l++m) a=jH m (jH l a):=by
 intro l
 induction l with
 |nil=>intro m a;rfl
 |cons t l ih=>intro m a;simp only[zbd,jH,ih]
def oY:∀(l m:List cI) (a:Nat),hZ (l++m) a↔hZ l a/\hZ m (jH l a):=by
 intro l
 induction l with
 |nil=>intro m a;simp[hZ,jH]
 |cons t l ih=>intro m a;simp only[zbd,hZ,jH,ih,and_assoc]
def gK:Nat->List cI->Nat->List UInt8
 |0,_,_=>[]
 |n+1,l,a=>if l=[]then[]else lV (fa 0 (l.take 8))::(eA (l.take 8) a++gK n (l.drop 8) (jH (l.take 8) a))
def uK(l:List cI):List UInt8:=gK l.length l 0
def ae3:∀(n:Nat) (l:List cI) (a:Nat),l.length<=n->gK n l a=gK (n+1) l a:=by
 intro n
 induction n with
 |zero=>intro l a h;have:l=[]:=zae ab
        subst this;rfl
 |succ n ih=>
  intro l a h;unfold gK;split
  ·rfl
  ·rename_i hl;have:0<l.length:=List.length_pos_iff.2 hl;rw[ih _ _ aH]
def B8(count:Nat)(pk:Bool):List UInt8:=JR (count-1+12288+(if pk then 32768 else 0))
end Go.Dv.Try
