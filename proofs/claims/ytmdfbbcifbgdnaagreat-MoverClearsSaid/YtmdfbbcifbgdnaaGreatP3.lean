/- Own work: parts of the proof, shortened and laid together by a tool of our own. -/
import Derived.Test.YtmdfbbcifbgdnaaGreatP2
import Derived.OwnWalk
import Derived.RangeFuncLeaves
import Derived.WalkKit
import Derived.ProofKit
import Derived.OpenShut
import Derived.Carry
import Derived.Deep.Slices
import Derived.Test.YtmdfbbcifbgdnaaGreatProg
import Derived.KernelRfl
import Derived.Shelf.Abstract
import Derived.Shelf.Strings.Builder1
import Derived.Shelf.Strings.Repeat
import Derived.Shelf.Strings.Search1
import Derived.MapKept
set_option linter.defProp false
set_option linter.unusedSimpArgs false
set_option linter.unusedVariables false
open List renaming getElem?_eq_getElem→zah, length_map→zaw, getElem?_map→za9, length_drop→zay, mem_of_getElem?→zag, drop_eq_nil_of_le→zb1, flatMap_cons→zao, getElem?_eq_some_iff→zaa, drop_eq_getElem_cons→zb3, length_append→zad, map_append→zbs, mem_append_right→zb5, getElem?_eq_none→zaK, mem_cons→zax, length_cons→zam, take_of_length_le→za1, mem_append_left→zb7, mem_map→zaX, length_pos_iff→zb8, eq_nil_of_length_eq_zero→zaf, nodup_append→zcc, map_cons→zau, getElem?_take_of_lt→zch, map_replicate→zci, take_add_one→zck, getElem?_set_self→zcm, not_mem_nil→zcp, take_append_drop→zaD, mem_append→zaA, getElem?_set_ne→zct, length_range→zcw, getElem?_replicate→zcz, length_nil→zaY, length_eq_one_iff→zcC, drop_drop→zaQ, length_replicate→zaq, map_congr_left→zbC, getElem?_range→zbz, map_inj_right→zcI, ext_getElem?→zba, any_eq_false→zcJ, getElem_mem→zcN, mem_range→zbm
open Nat renaming eq_of_beq_eq_true→zab, lt_of_lt_of_le→zae, le_refl→zai, lt_or_eq_of_le→zcb, pow_le_pow_right→zce, le_of_lt_succ→zcl, div_div_eq_div_mul→zcn, le_of_ble_eq_true→za3, not_lt_zero→zcq, sub_zero→zcr, and_two_pow_sub_one_eq_mod→zcs, lt_of_le_of_lt→zbT, two_pow_add_eq_or_of_lt→zcv, mod_eq_of_lt→zcx, and_le_left→zcA, two_pow_pos→zcB, pow_add→zcE, testBit_two_pow→zcG, sub_self→zcH, or_comm→zcK, zero_testBit→zcM, log2_eq_iff→zcP, testBit_and→zcQ, div_le_self→zcR
open Int renaming toNat_natCast→zaC, fdiv_eq_ediv_of_nonneg→zbY, tdiv_eq_ediv_of_nonneg→zb6, ediv_ediv_of_nonneg→zca, tmod_eq_emod_of_nonneg→zcf, natCast_nonneg→zcg, eq_ofNat_of_zero_le→zcj, pow_succ→zcy, pow_nonneg→zcF, ediv_le_self→zcL, ediv_nonneg→zcO
open Bool renaming false_eq_true→zbZ, and_eq_true→zaU, eq_iff_iff→zaN
open Decidable renaming of_not_not→zb0, not_not→zb2
open Array renaming getElem?_append_left→zb4, toList_inj→zco, getElem?_eq_getElem→zaG, getElem?_eq_none→zcD
open Option renaming bind_eq_some_iff→zb9, getD_some→zbx, map_some→zbJ
open And renaming intro→zcd
open UInt8 renaming toNat_lt→zcu
namespace Go.Dv
open Go.RowKit
section
def DB{env aal:Env}(h:∀p,aE p aal=aE p env)(σ:aF)(rs:List (Nat×Option (Bool×Nat))):∀K:List AV->Prop,sT σ aal rs K=sT σ env rs K:=by
 induction rs with
 |nil=>intro K;rfl
 |cons p rs ih=>
  intro K;show look p.1 (λv=>match p.2 with
   |none=>sT σ aal rs λl=>K (v::l)
   |some q=>Nw σ q.1 q.2 v λv=>sT σ aal rs λl=>K (v::l)) aal=look p.1 (λv=>match p.2 with
   |none=>sT σ env rs λl=>K (v::l)
   |some q=>Nw σ q.1 q.2 v λv=>sT σ env rs λl=>K (v::l)) env
  rw[look_eq,look_eq]
  grind
def ao5(lone:Bool)(rs:List (Nat×Option (Bool×Nat)))(K:RV->Prop):∀e,BP (aCA lone rs K e):=by
 intro e env aal σ h;cases e with
 |normal=>exact DB h σ rs _
 |ret=>exact DB h σ rs _
 |exit i=>rfl
def aiH(l:List PV):∀(n:Nat) (K:Env->Prop),auq l n K→∃env,K env∧∀p,aE p env=if n<=p then(match l[p-n]? with|some x=>.pv x|none=>.bad)else .bad:=by
 induction l with
 |nil=>intro n K h;exact⟨[],h,λp=>by simp[aE]⟩
 |cons x l ih=>
  intro n K h;obtain⟨env,h1,h2⟩:=ih (n+1) _ h;refine⟨_,h1,λp=>?_⟩;show(bif Nat.beq n p then AV.pv x else aE p env)=_;by_cases hp:n=p
  ·simp_all
  ·rw[VI hp]
   grind
section flat
variable {ok wj:Nat->Prop} {w:World}
def awR{x:PV}{v:Value}(hx:x.au_)(h:Rd ok w x v):Rd wj w x v:=by
 cases x<;>first|exact hx.elim|assumption
def YA:∀(l:List PV) (vs:List Value),(∀c∈l,c.au_)->bS ok w l vs->bS wj w l vs
 |[],vs,_,h=>by assumption
 |x::xs,vs,hx,h=>by
  obtain⟨v,t,h1,h2,h3⟩:=h;exact⟨v,t,h1,awR (hx x aj) h2,YA xs t (λc hc=>hx c ql) h3⟩
def anW{x:PV}{v:Value}(hx:x.flat)(h:Rd ok w x v):Rd wj w x v:=by
 cases x with
 |agg cs=>
  obtain⟨h1,vs,h2,h3⟩:=h;exact⟨h1,vs,h2,YA cs _ hx h3⟩
 |_=>first|exact hx.elim|assumption
def alU{x:PV}(h:x.flat):∀c∈x.cells,c.au_:=by
 cases x with
 |agg cs=>exact h
 |_=>first|exact h.elim|(intro c hc;simp[PV.cells]at hc;subst hc;exact h)
end flat
section
variable {cx:Cx} {env:Env} {σ:aF} {vals:List Value} {a:Act} {w':World}
def XY(r:RV)(v:Value):List Value:=match r with| .fresh _ _ _=>[v]| .row _ _ _=>[v]|_=>[]
def T1:List RV->List Value->List Value
 |r::rs,v::vs=>XY r v++T1 rs vs
 |_,_=>[]
def UJ(r:RV)(v:Value):List Value:=match r with
 | .agg rs=>match v with| .agg vs=>T1 rs vs.toList|_=>[]
 |r=>XY r v
def yW:List RV->List Value->List Value
 |r::rs,v::vs=>UJ r v++yW rs vs
 |_,_=>[]
def bX:AV->List Nat
 | .own id=>[id]
 | .ref id _ _=>[id]
 | .sub id _ _ _=>[id]
 |_=>[]
def uU:AV->List Nat
 | .agg cs=>cs.flatMap bX
 |a=>bX a
def ak0:∀(l:List AV) (seen:List Nat) (K:List Nat->Bool),adS l seen K=true→∃LR,K LR=true/\(l.flatMap bX).Nodup/\(∀i∈l.flatMap bX,i∉seen)∧∀i,i∈LR↔i∈seen\/i∈l.flatMap bX:=by
 intro l
 induction l with
 |nil=>intro seen K h;exact⟨seen,h,aj,aj,aj⟩
 |cons a l ih=>
  intro seen K h;have main:∀id,bX a=[id]->Bool.rec (adS l (id::seen) K) false (afB id seen)=true→∃LR,K LR=true/\((a::l).flatMap bX).Nodup/\(∀i∈(a::l).flatMap bX,i∉seen)∧∀i,i∈LR↔i∈seen\/i∈(a::l).flatMap bX:=by
   intro id hid h;cases hm:afB id seen with
   |true=>simp_all
   |false=>
    rw[hm]at h;obtain⟨LR,h1,h2,h3,h4⟩:=ih _ _ h;rw[zao,hid];refine⟨LR,h1,?_,λi hi=>?_,λi=>?_⟩
    ·grind
    ·rcases zaA.1 hi with hi|hi
     ·simp at hi;subst hi;exact ad8 _ _ hm
     grind
    grind
  have none:bX a=[]->adS l seen K=true→∃LR,K LR=true/\((a::l).flatMap bX).Nodup/\(∀i∈(a::l).flatMap bX,i∉seen)∧∀i,i∈LR↔i∈seen\/i∈(a::l).flatMap bX:=by
   grind
  cases a with
  |own id=>exact main id rfl h
  |ref id _ _=>exact main id rfl h
  |sub id _ _ _=>exact main id rfl h
  |_=>exact none rfl h
def z6:∀(l:List AV) (seen:List Nat),Xm l seen=true->(l.flatMap uU).Nodup∧∀i∈l.flatMap uU,i∉seen:=by
 intro l
 induction l with
 |nil=>simp
 |cons a l ih=>
  intro seen h;have main:∀cs,cs.flatMap bX=uU a->adS cs seen (Xm l)=true->((a::l).flatMap uU).Nodup∧∀i∈(a::l).flatMap uU,i∉seen:=by
   intro cs sH h;obtain⟨LR,h1,h2,h3,h4⟩:=ak0 cs seen _ h
   grind
  cases a with
  |agg cs=>exact main cs rfl h
  |bad=>exact main [.bad] rfl h
  |pv x=>exact main [.pv x] rfl h
  |own i=>exact main [.own i] rfl h
  |ref i j k=>exact main [.ref i j k] rfl h
  |sub i j k m=>exact main [.sub i j k m] rfl h
  |tup vs=>exact main [.tup vs] rfl h
  |clo f vs=>exact main [.clo f vs] rfl h
def Ve(cx:Cx)(σ:aF)(vals:List Value)(w:World)(av:AV)(r:RV)(v:Value):Prop:=
 match r with
 | .pv x=>Rd (Ok cx σ vals w) w x v/\(av.one=true->x.one=true)
 | .fresh e sz aC=>(v=.slice none 0 0/\aC=[]/\0<sz)∨∃id,id∈bX av/\σ[id]?=some (.row e sz true aC)/\vals[id]?=some v
 | .row e sz aC=>(v=.slice none 0 0/\aC=[]/\0<sz)∨∃id ap,id∈bX av/\σ[id]?=some (.row e sz ap aC)/\vals[id]?=some v
 |_=>False
def Ko(cx:Cx)(σ:aF)(vals:List Value)(w:World):List AV->List RV->List Value->Prop
 |[],rs,vs=>rs=[]/\vs=[]
 |a::aLq,rs,vs=>∃r fo v KC,rs=r::fo/\vs=v::KC/\Ve cx σ vals w a r v/\Ko cx σ vals w aLq fo KC
def Item(cx:Cx)(σ:aF)(vals:List Value)(w:World)(av:AV)(r:RV)(v:Value):Prop:=
 match r with
 | .agg rs=>∃cs vs,av=.agg cs/\v=.agg vs/\(∀c∈cs,c.one=true)/\Ko cx σ vals w cs rs vs.toList
 | .pv x=>Rd (Ok cx σ vals w) w x v
 |r=>bX av=uU av/\Ve cx σ vals w av r v
def anY(cx:Cx)(σ:aF)(vals:List Value)(w:World):List AV->List RV->List Value->Prop
 |[],rs,vs=>rs=[]/\vs=[]
 |a::aLq,rs,vs=>∃r fo v KC,rs=r::fo/\vs=v::KC/\Item cx σ vals w a r v/\anY cx σ vals w aLq fo KC
def agn{σ σ':aF}{c:AV}(hc:c.one=true)(h:∀i∈bX c,σ'[i]?=σ[i]?){K:PV->Prop}(hk:jD σ c K):jD σ' c K:=by
 cases c with
 |pv x=>exact hk
 |own id=>obtain⟨b,h1,h2⟩:=aS _ _ _ hk;exact Lw
 |sub id sz lo n=>obtain⟨b,h1,h2⟩:=aS _ _ _ hk;exact Lw
 |ref id idx off=>
  cases idx with
  |succ _=>assumption
  |zero=>cases off with
   |succ _=>assumption
   |zero=>obtain⟨b,h1,h2⟩:=aS σ id (λb=>adh b K) hk;exact dP σ' id b (λb=>adh b K) ((h id Q2).trans h1) h2
 |clo _ _=>assumption
 |_=>cases hc
def NT{σ σ':aF}:∀(cs:List AV),(∀c∈cs,c.one=true)->(∀i∈cs.flatMap bX,σ'[i]?=σ[i]?)→∀{K:List PV->Prop},aQ σ cs K->aQ σ' cs K:=by
 intro cs
 induction cs with
 |nil=>intro _ _ K h;exact h
 |cons c cs ih=>
  intro h1 h K hk;have hk:jD σ c λx=>aQ σ cs λl=>K (x::l):=hk
  have h2:=agn (h1 c aj) (λi hi=>h i (zb7 _ hi)) hk;show jD σ' c λx=>aQ σ' cs λl=>K (x::l)
  cases c with
  |pv x=>exact ih (λd hd=>h1 d yf) (λi hi=>h i (zb5 _ hi)) hk
  |own id=>
   obtain⟨b,g1,g2⟩:=aS _ _ _ h2;refine dP _ _ b _ g1 ?_
   grind
  |sub id sz lo n=>
   obtain⟨b,g1,g2⟩:=aS _ _ _ h2;refine dP _ _ b _ g1 ?_;have one:∀(s:Nat) (aC:List PV),(match Nat.beq s sz with
    |true=>lo+n<=aC.length/\aQ σ cs (λl=>K (.sl sz (cut lo (lo+n) aC)::l))
    |false=>False)->(match Nat.beq s sz with
    |true=>lo+n<=aC.length/\aQ σ' cs (λl=>K (.sl sz (cut lo (lo+n) aC)::l))
    |false=>False):=by
    grind
   cases b with
   |row e s ap aC=>exact one s aC g2
   |fz x=>cases x with
    |sl s aC=>exact one s aC g2
    |_=>assumption
   |_=>assumption
  |ref id idx off=>
   cases idx with
   |succ _=>assumption
   |zero=>cases off with
    |succ _=>assumption
    |zero=>
     obtain⟨b,g1,g2⟩:=aS σ' id (λb=>adh b λx=>aQ σ cs λl=>K (x::l)) h2;obtain⟨x,g3,g4⟩:=an3 b g2;exact dP σ' id b (λb=>adh b λx=>aQ σ' cs λl=>K (x::l)) g1 (g4 _ (ih (λd hd=>h1 d yf) (λi hi=>h i (zb5 _ hi)) g3))
  |clo _ _=>assumption
  |_=>have:=h1 _ (List.mem_cons_self ..);cases this
def Lp(hr:dH cx σ vals w'){c:AV}{v:Value}(hc:c.one=true)(hv:RA (Ok cx σ vals w') σ vals w' c v){K:PV->Prop}(hk:jD σ c K):
 ∃x σ',K x/\dH cx σ' vals w'/\ct cx σ vals w' σ' vals w'/\(∀i,i∉bX c->σ'[i]?=σ[i]?)/\Rd (Ok cx σ' vals w') w' x v/\x.one=true:=by
 have fz:∀id,bX c=[id]->(∃b,σ[id]?=some b/\((∃e sz ap aC,b=.row e sz ap aC)∨∃x,b=.fz x))->lP c σ (λσ'=>∀i,i∉bX c->σ'[i]?=σ[i]?)->
  ∃x σ',K x/\dH cx σ' vals w'/\ct cx σ vals w' σ' vals w'/\(∀i,i∉bX c->σ'[i]?=σ[i]?)/\Rd (Ok cx σ' vals w') w' x v/\x.one=true:=by
  intro id hid _ oC;obtain⟨x,σ',h1,h2,_,h4,h5,h6,h7⟩:=Jm c σ σ v K _ (Fz.refl σ) hr hv hk oC;exact⟨x,σ',h1,h4,h5,h2,h6,h7 hc⟩
 have mk:∀id,bX c=[id]→∀b:dC,σ[id]?=some b->(match b with
  | .row _ sz _ aC=>wu σ id (.fz (.sl sz aC)) (λσ'=>∀i,i∉bX c->σ'[i]?=σ[i]?)
  | .fz _=>∀i,i∉bX c->σ[i]?=σ[i]?
  |_=>False)\/((b=.dead∨∃l,b=.mp l)∨∃e cs,b=.box e cs):=by
  intro id hid b hb;have aU:=(zaa.1 hb).1;cases b with
  |row e sz ap aC=>
   left;have:∀(l:aF) (n:Nat) (y:dC) (K:aF->Prop),n<l.length->K (l.set n y)->wu l n y K:=by
    intro l
    induction l with
    |nil=>intro n y K h;simp at h
    |cons z l ih=>
     intro n y K h hk;cases n with
     |zero=>exact hk
     |succ n=>exact ih n y (λt=>K (z::t)) ky hk
   refine this _ _ _ _ aU λi hi=>?_
   rw[nZ aU,if_neg (λe=>hi (by rw[hid];simp[e]))]
  |fz x=>exact .inl λ_ _=>rfl
  |dead=>exact .inr (.inl (.inl rfl))
  |mp l=>exact .inr (.inl (.inr ⟨l,rfl⟩))
  |box e cs=>exact .inr (.inr ⟨e,cs,rfl⟩)
 cases c with
 |pv x=>exact⟨x,σ,hk,hr,ct.refl,λ_ _=>rfl,aaQ,hc⟩
 |own id=>
  obtain⟨b,h1,h2⟩:=aS _ _ _ hk;rcases mk id rfl b h1 with h|(rfl|⟨l,rfl⟩)|⟨e,cs,rfl⟩
  ·refine fz id rfl ⟨b,h1,?_⟩ (dP _ _ b _ h1 h);cases b with
   |row e sz ap aC=>exact .inl ⟨_,_,_,_,rfl⟩
   |fz x=>exact .inr ⟨_,rfl⟩
   |_=>exact gn
  ·exact gn
  ·exact gn
  ·exact gn
 |sub id sz lo n=>
  obtain⟨b,h1,h2⟩:=aS _ _ _ hk;rcases mk id rfl b h1 with h|(rfl|⟨l,rfl⟩)|⟨e,cs,rfl⟩
  ·refine fz id rfl ⟨b,h1,?_⟩ (dP _ _ b _ h1 h);cases b with
   |row e sz ap aC=>exact .inl ⟨_,_,_,_,rfl⟩
   |fz x=>exact .inr ⟨_,rfl⟩
   |_=>exact gn
  ·exact gn
  ·exact gn
  ·exact gn
 |ref id idx off=>
  cases idx with
  |succ _=>exact kK
  |zero=>cases off with
   |succ _=>exact kK
   |zero=>
    obtain⟨b,hb,hk⟩:=aS σ id (λb=>adh b K) hk;simp only[RA]at hv;obtain⟨aU,_,_,xe⟩:=hv;cases b with
    |box e cs=>
     rcases nQ cs (λt=>qm t λx=>K (.cptr x)) False hk with⟨qU,rfl,AP⟩|AP
     ·obtain⟨u,hu,tZ⟩:=hr.val hb;obtain⟨u',g,gA,jA,hv⟩:=xe _ hb rfl;have hg:bl u'=some g:=by rw[jA];rfl
      rw[hu]at gA;cases gA;have kR:∀c∈qU,c.one=true:=by
       obtain⟨_,_,_,_,_,h4,_⟩:=tZ;exact λc hc=>h4 (.pv c) BH
      obtain⟨x,I_,vR⟩:=TK qU AP;obtain⟨x',rfl,hx⟩:=Dg (w:=w') (vR (λy=>y=x) rfl) kR;obtain⟨Gw,SH⟩:=hr.Qw (x:=.cptr x') hb rfl (λwj v' _ aDk di Gn=>by
       obtain⟨b',avm,e1,_,e3,_,e5⟩:=aDk;subst e1;rw[iw]at e5;exact hx wj avm b' _ _ e3 (bS.mono di (λ_ _ _=>rfl) _ _ e5) (Gn b' rfl)) (λ_=>rfl)
      refine⟨_,_,I_,Gw,SH,λi hi=>?_,?_,rfl⟩
      ·rw[nZ aU,if_neg (λe=>hi (by simp[bX,e]))]
      ·have:=Gw.sV id _ _ (by rw[zcm aU]) hu;have DY:v=u:=by
        obtain⟨b,arr,h1,_⟩:=tZ;rw[h1]at hg;cases hg;rw[hv,h1]
       rw[DY];exact this
     ·exact AP.elim
    |_=>exact kK
 |clo _ _=>exact kK
 |_=>cases hc
def ago:∀(cs:List AV) (σ:aF) (vs:List Value) (K:List PV->Prop),dH cx σ vals w'->(∀c∈cs,c.one=true)->fY (Ok cx σ vals w') σ vals w' cs vs->aQ σ cs K->(cs.flatMap bX).Nodup->
 ∃xs σ',K xs/\dH cx σ' vals w'/\ct cx σ vals w' σ' vals w'/\(∀i,i∉cs.flatMap bX->σ'[i]?=σ[i]?)/\bS (Ok cx σ' vals w') w' xs vs∧∀x∈xs,x.one=true:=by
 intro cs
 induction cs with
 |nil=>
  intro σ vs K hr _ hv hk _;simp only[fY]at hv;subst hv;exact⟨[],σ,hk,hr,ct.refl,λ_ _=>rfl,Fo,aj⟩
 |cons c cs ih=>
  intro σ vs K hr h1 hv hk hn;simp only[fY]at hv;obtain⟨v,r,rfl,qR,Oh⟩:=hv;rw[zao,zcc]at hn;obtain⟨n1,n2,n3⟩:=hn;obtain⟨x,σ1,k1,k2,k3,k4,k5,k6⟩:=Lp hr (h1 c aj) qR (show jD σ c λx=>aQ σ cs λl=>K (x::l)from hk);have xx:aQ σ1 cs λl=>K (x::l):=NT cs (λd hd=>h1 d yf) (λi hi=>k4 i λhc=>n3 i hc i hi rfl) k1
  obtain⟨xs,σ2,g1,g2,g3,g4,g5,g6⟩:=ih σ1 r _ k2 (λd hd=>h1 d yf) (k3.kZ _ _ Oh) xx n2;refine⟨x::xs,σ2,g1,g2,k3.trans g3,λi hi=>?_,by simp only[bS];exact⟨v,r,rfl,g3.rd k5,g5⟩,λy hy=>?_⟩
  ·grind
  ·rcases zax.1 hy with rfl|hy
   ·exact k6
   ·exact g6 y hy
def GK{σ σ':aF}{a:AV}{r:RV}(h:∀i∈bX a,σ'[i]?=σ[i]?)(hk:ah0 σ a r):ah0 σ' a r:=by
 cases a with
 |pv x=>exact hk
 |own id=>obtain⟨b,h1,h2⟩:=aS _ _ _ hk;exact Lw
 |sub id sz lo n=>obtain⟨b,h1,h2⟩:=aS _ _ _ hk;exact Lw
 |ref id idx off=>
  cases r with
  |pv y=>
   cases idx with
   |succ _=>assumption
   |zero=>cases off with
    |succ _=>assumption
    |zero=>obtain⟨b,h1,h2⟩:=aS _ _ _ (show g_ σ id _ from hk);exact Lw
  |_=>assumption
 |_=>assumption
def U7{σ σ':aF}:∀(cs:List AV) (rs:List RV),(∀i∈cs.flatMap bX,σ'[i]?=σ[i]?)->Yc σ cs rs->Yc σ' cs rs:=by
 intro cs
 induction cs with
 |nil=>intro rs _ h;exact h
 |cons c cs ih=>
  intro rs hs h;cases rs with
  |nil=>assumption
  |cons r rs=>
   obtain⟨g1,g2⟩:=(show ah0 σ c r/\Yc σ cs rs from h)
   exact⟨GK (λi hi=>hs i (zb7 _ hi)) g1,ih rs (λi hi=>hs i (zb5 _ hi)) g2⟩
def ajI{σ σ':aF}{a:AV}{r:RV}{v:Value}{ok:Nat->Prop}{w:World}(hv:RA ok σ vals w a v)(h:∀i∈uU a,σ'[i]?=σ[i]?)(hk:Yp σ a r):Yp σ' a r:=by
 cases a with
 |agg cs=>
  cases r with
  |pv y=>exact NT cs hv.1 h (show aQ σ cs _ from hk)
  |agg rs=>exact U7 cs rs h hk
  |_=>assumption
 |bad=>assumption
 |pv x=>assumption
 |own id=>exact GK (a:=.own id) (r:=r) h hk
 |ref id i o=>exact GK (a:=.ref id i o) (r:=r) h hk
 |sub id s l n=>exact GK (a:=.sub id s l n) (r:=r) h hk
 |tup vs=>assumption
 |clo f cs=>assumption
def YB(hr:dH cx σ vals w'){a:AV}{r:RV}{v:Value}(hv:RA (Ok cx σ vals w') σ vals w' a v)(hk:ah0 σ a r):
 ∃σ',dH cx σ' vals w'/\ct cx σ vals w' σ' vals w'/\(∀i,i∉bX a->σ'[i]?=σ[i]?)/\Ve cx σ' vals w' a r v:=by
 cases a with
 |pv x=>
  refine⟨σ,hr,ct.refl,λ_ _=>rfl,?_⟩;simp only[RA]at hv;have nil:∀s s' aC,x=.nil s'->(s=s'/\aC=([]:List PV))/\0<s->v=.slice none 0 0/\aC=[]/\0<s:=by
   intro s s' aC hx h;subst hx;simp only[Rd]at hv
   grind
  cases r with
  |pv y=>
   show Rd (Ok cx σ vals w') w' y v/\_;cases x with
   |nil s=>
    simp only[Rd]at hv;rcases(show y=.nil s\/y=.sl s []from hk)with rfl|rfl
    ·simp only[Rd];exact⟨hv,λ_=>rfl⟩
    ·simp only[Rd];exact⟨⟨none,0,ab,aj,ao,.inl trivial⟩,λ_=>rfl⟩
   |_=>cases (show y=_ from hk);exact⟨hv,λh=>h⟩
  |fresh e sz aC=>
   cases x with
   |nil s=>exact .inl (nil sz s aC rfl hk)
   |_=>trivial
  |row e sz aC=>
   cases x with
   |nil s=>exact .inl (nil sz s aC rfl hk)
   |_=>trivial
  |_=>assumption
 |own id=>
  have Mz:=hv;simp only[RA]at Mz;obtain⟨b,h1,h2⟩:=aS _ _ _ hk;cases r with
  |pv y=>
   obtain⟨x,σ',k1,k2,k3,k4,k5,k6⟩:=Lp (K:=λx=>x=y) hr rfl hv (dP _ _ b _ h1 (by
    grind))
   subst k1;exact⟨σ',k2,k3,k4,k5,λ_=>k6⟩
  |fresh e sz aC=>
   refine⟨σ,hr,ct.refl,λ_ _=>rfl,.inr ⟨id,Q2,?_,Mz⟩⟩
   grind
  |row e sz aC=>
   cases b with
   |row e' mM ap els'=>
    obtain⟨rfl,rfl,rfl⟩:=(show e=e'/\sz=mM/\aC=els' from h2)
    exact⟨σ,hr,ct.refl,λ_ _=>rfl,.inr ⟨id,ap,Q2,h1,Mz⟩⟩
   |_=>exact h2.elim
  |_=>grind
 |sub id sz lo n=>
  cases r with
  |pv y=>
   obtain⟨b,h1,h2⟩:=aS _ _ _ hk;have h3:jD σ (.sub id sz lo n) (λx=>x=y):=by
    refine dP _ _ b _ h1 ?_
    grind
   obtain⟨x,σ',k1,k2,k3,k4,k5,k6⟩:=Lp hr rfl hv h3;subst k1;exact⟨σ',k2,k3,k4,k5,λ_=>k6⟩
  |_=>
   obtain⟨b,h1,h2⟩:=aS _ _ _ hk;have:∀b:dC,YG sz lo n b (λ_=>False)->False:=by
    intro b h;cases b with
    |row e s ap aC=>
     have h:(match Nat.beq s sz with|true=>lo+n<=aC.length/\False|false=>False):=h
     grind
    |fz x=>cases x with
     |sl s aC=>
      have h:(match Nat.beq s sz with|true=>lo+n<=aC.length/\False|false=>False):=h
      grind
     |_=>exact h
    |_=>exact h
   grind
 |ref id idx off=>
  cases r with
  |pv y=>
   cases idx with
   |succ _=>trivial
   |zero=>cases off with
    |succ _=>trivial
    |zero=>
     obtain⟨b,hb,hk⟩:=aS _ _ _ (show g_ σ id _ from hk);simp only[RA]at hv;obtain⟨aU,_,_,xe⟩:=hv;cases b with
     |box e cs=>
      rcases nQ cs (λt=>qm t λx=>y=.cptr x) False hk with⟨qU,rfl,AP⟩|AP
      ·obtain⟨u,hu,tZ⟩:=hr.val hb;obtain⟨u',g,gA,jA,hv⟩:=xe _ hb rfl;have hg:bl u'=some g:=by rw[jA];rfl
       rw[hu]at gA;cases gA;have kR:∀c∈qU,c.one=true:=by
        obtain⟨_,_,_,_,_,h4,_⟩:=tZ;exact λc hc=>h4 (.pv c) bf
       obtain⟨x,LO,hx⟩:=Dg (w:=w') AP kR;obtain⟨Gw,SH⟩:=hr.Qw (x:=.cptr x) hb rfl (λwj v' _ aDk di Gn=>by
        obtain⟨b',avm,e1,_,e3,_,e5⟩:=aDk;subst e1;rw[iw]at e5;exact hx wj avm b' _ _ e3 (bS.mono di (λ_ _ _=>rfl) _ _ e5) (Gn b' rfl)) (λ_=>rfl)
       refine⟨_,Gw,SH,λi hi=>?_,?_,λ_=>by rw[LO];rfl⟩
       ·rw[nZ aU,if_neg (λe=>hi (by simp[bX,e]))]
       ·show Rd _ w' y v;rw[LO];have:=Gw.sV id _ _ (by rw[zcm aU]) hu;have DY:v=u:=by
         grind
        rw[DY];exact this
      grind
     |_=>grind
  |_=>trivial
 |_=>trivial
def Ve.keep{σ':aF}{a:AV}{r:RV}{v:Value}(h:Ve cx σ vals w' a r v)(hk:ct cx σ vals w' σ' vals w')(hs:∀i∈bX a,σ'[i]?=σ[i]?):Ve cx σ' vals w' a r v:=by
 cases r with
 |pv x=>exact⟨hk.rd h.1,h.2⟩
 |fresh e sz aC=>
  rcases(show _\/_ from h)with h|⟨id,h1,h2,h3⟩
  ·exact .inl h
  ·exact .inr ⟨id,h1,(hs id h1).trans h2,h3⟩
 |row e sz aC=>
  rcases(show _\/_ from h)with h|⟨id,ap,h1,h2,h3⟩
  ·exact .inl h
  ·exact .inr ⟨id,ap,h1,(hs id h1).trans h2,h3⟩
 |_=>assumption
def Ko.keep{σ':aF}:∀{aLq:List AV} {rs:List RV} {vs:List Value},Ko cx σ vals w' aLq rs vs->ct cx σ vals w' σ' vals w'->(∀i∈aLq.flatMap bX,σ'[i]?=σ[i]?)->Ko cx σ' vals w' aLq rs vs:=by
 intro aLq
 induction aLq with
 |nil=>intro rs vs h _ _;exact h
 |cons a aLq ih=>
  rintro rs vs ⟨r,fo,v,KC,rfl,rfl,h1,h2⟩ hk hs;exact⟨r,_,v,_,rfl,rfl,h1.keep hk (λi hi=>hs i (zb7 _ hi)),ih h2 hk (λi hi=>hs i (zb5 _ hi))⟩
def ahW:∀(aLq:List AV) (rs:List RV) (vs:List Value) (σ:aF),dH cx σ vals w'->fY (Ok cx σ vals w') σ vals w' aLq vs->Yc σ aLq rs->(aLq.flatMap bX).Nodup->
 ∃σ',dH cx σ' vals w'/\ct cx σ vals w' σ' vals w'/\(∀i,i∉aLq.flatMap bX->σ'[i]?=σ[i]?)/\Ko cx σ' vals w' aLq rs vs:=by
 intro aLq
 induction aLq with
 |nil=>
  intro rs vs σ hr hv hk _;simp only[fY]at hv;cases rs with
  |nil=>exact⟨σ,hr,ct.refl,λ_ _=>rfl,rfl,hv⟩
  |cons r rs=>exact kK
 |cons a aLq ih=>
  intro rs vs σ hr hv hk hn;cases rs with
  |nil=>exact kK
  |cons r rs=>
   obtain⟨h1,h2⟩:=(show ah0 σ a r/\Yc σ aLq rs from hk)
   simp only[fY]at hv;obtain⟨v,t,rfl,h3,h4⟩:=hv;rw[zao,zcc]at hn;obtain⟨n1,n2,n3⟩:=hn;obtain⟨σ1,k1,k2,k3,k4⟩:=YB hr h3 h1;have pr:Yc σ1 aLq rs:=U7 aLq rs (λi hi=>k3 i λhc=>n3 i hc i hi rfl) h2;obtain⟨σ2,g1,g2,g3,g4⟩:=ih rs t σ1 k1 (k2.kZ _ _ h4) pr n2;refine⟨σ2,g1,k2.trans g2,λi hi=>?_,r,rs,v,t,rfl,rfl,k4.keep g2 (λi hi=>g3 i λhc=>n3 i hi i hc rfl),g4⟩;rw[zao,zaA]at hi;rw[g3 i (λh=>hi (.inr h)),k3 i (λh=>hi (.inl h))]
def apo(hr:dH cx σ vals w'){a:AV}{r:RV}{v:Value}(hv:RA (Ok cx σ vals w') σ vals w' a v)(hk:Yp σ a r)(hn:(uU a).Nodup):
 ∃σ',dH cx σ' vals w'/\ct cx σ vals w' σ' vals w'/\(∀i,i∉uU a->σ'[i]?=σ[i]?)/\Item cx σ' vals w' a r v:=by
 have main:bX a=uU a->ah0 σ a r→∃σ',dH cx σ' vals w'/\ct cx σ vals w' σ' vals w'/\(∀i,i∉uU a->σ'[i]?=σ[i]?)/\Item cx σ' vals w' a r v:=by
  intro he hk;obtain⟨σ',h1,h2,h3,h4⟩:=YB hr hv hk;refine⟨_,h1,h2,he▸h3,?_⟩;cases r with
  |pv x=>exact h4.1
  |fresh e sz aC=>trivial
  |row e sz aC=>trivial
  |_=>trivial
 cases a with
 |agg cs=>
  obtain⟨h0,vs,rfl,hl⟩:=hv;cases r with
  |pv y=>
   obtain⟨xs,σ',k1,k2,k3,k4,k5,k6⟩:=ago cs σ _ _ hr h0 hl (show aQ σ cs _ from hk) hn;refine⟨_,k2,k3,k4,?_⟩;show Rd _ w' y _;rw[k1];simp only[Rd]
   grind
  |agg rs=>
   obtain⟨σ',k1,k2,k3,k4⟩:=ahW cs rs _ σ hr hl hk hn;exact⟨_,k1,k2,k3,cs,vs,rfl,rfl,h0,k4⟩
  |_=>trivial
 |bad=>trivial
 |pv x=>exact main rfl hk
 |own id=>exact main rfl hk
 |ref id i o=>exact main rfl hk
 |sub id s l n=>exact main rfl hk
 |tup vs=>trivial
 |clo f cs=>trivial
def Item.keep{σ':aF}{a:AV}{r:RV}{v:Value}(h:Item cx σ vals w' a r v)(hk:ct cx σ vals w' σ' vals w')(hs:∀i∈uU a,σ'[i]?=σ[i]?):Item cx σ' vals w' a r v:=by
 cases r with
 |pv x=>exact hk.rd h
 |fresh e sz aC=>exact⟨h.1,h.2.keep hk (by rw[h.1];exact hs)⟩
 |row e sz aC=>exact⟨h.1,h.2.keep hk (by rw[h.1];exact hs)⟩
 |agg rs=>
  obtain⟨cs,vs,rfl,rfl,h0,h1⟩:=h;exact⟨cs,vs,rfl,rfl,h0,h1.keep hk hs⟩
 |_=>assumption
def Z2:∀(aLq:List AV) (rs:List RV) (vs:List Value) (σ:aF),dH cx σ vals w'->fY (Ok cx σ vals w') σ vals w' aLq vs->UK σ aLq rs->(aLq.flatMap uU).Nodup->
 ∃σ',dH cx σ' vals w'/\ct cx σ vals w' σ' vals w'/\(∀i,i∉aLq.flatMap uU->σ'[i]?=σ[i]?)/\anY cx σ' vals w' aLq rs vs:=by
 intro aLq
 induction aLq with
 |nil=>
  intro rs vs σ hr hv hk _;simp only[fY]at hv;cases rs with
  |nil=>exact⟨σ,hr,ct.refl,λ_ _=>rfl,rfl,hv⟩
  |cons r rs=>exact kK
 |cons a aLq ih=>
  intro rs vs σ hr hv hk hn;cases rs with
  |nil=>exact kK
  |cons r rs=>
   obtain⟨h1,h2⟩:=(show Yp σ a r/\UK σ aLq rs from hk)
   simp only[fY]at hv;obtain⟨v,t,rfl,h3,h4⟩:=hv;rw[zao,zcc]at hn;obtain⟨n1,n2,n3⟩:=hn;obtain⟨σ1,k1,k2,k3,k4⟩:=apo hr h3 h1 n1;have pr:UK σ1 aLq rs:=by
    have:∀(aLq:List AV) (rs:List RV) (vs:List Value),fY (Ok cx σ vals w') σ vals w' aLq vs->(∀i∈aLq.flatMap uU,σ1[i]?=σ[i]?)->UK σ aLq rs->UK σ1 aLq rs:=by
     intro aLq
     induction aLq with
     |nil=>intro rs vs _ _ h;exact h
     |cons a aLq ih=>
      intro rs vs hv hs h;cases rs with
      |nil=>exact B4
      |cons r rs=>
       obtain⟨g1,g2⟩:=(show Yp σ a r/\UK σ aLq rs from h)
       simp only[fY]at hv;obtain⟨v,t,rfl,h3,h4⟩:=hv;rw[zao]at hs;exact⟨ajI h3 (λi hi=>hs i (zb7 _ hi)) g1,ih rs t h4 (λi hi=>hs i (zb5 _ hi)) g2⟩
    exact this aLq rs t h4 (λi hi=>k3 i λhc=>n3 i hc i hi rfl) h2
   obtain⟨σ2,g1,g2,g3,g4⟩:=ih rs t σ1 k1 (k2.kZ _ _ h4) pr n2;refine⟨σ2,g1,k2.trans g2,λi hi=>?_,r,rs,v,t,rfl,rfl,k4.keep g2 (λi hi=>g3 i λhc=>n3 i hi i hc rfl),g4⟩;rw[zao,zaA]at hi;rw[g3 i (λh=>hi (.inr h)),k3 i (λh=>hi (.inl h))]
def WO(σ:aF)(vals:List Value)(ids:List Nat)(u:Value):Prop:=
 u=.slice none 0 0∨∃id s,id∈ids/\σ[id]?=some s/\s.live=true/\vals[id]?=some u
def Jp.imp{M M':Nat->Prop}{w:World}{e:TypeId}{sz:Nat}{ap:Bool}{v:Value}{n:Nat}{xs:List Value}(h:Jp w M e sz ap v n xs)(hm:∀b,M b->M' b):Jp w M' e sz ap v n xs:=by
 refine⟨h.1,?_⟩;rcases h.2 with h2|⟨g,cap,cur,fr,h1,h2,h3⟩
 ·grind
 ·exact .inr ⟨g,_,_,fr,h1,hm g h2,h3⟩
def aeH(ho:∀b,cx.own b->cx.w0.heap.size<=b){lone:Bool}{ids:List Nat}{us:List Value}(gx:∀u∈us,WO σ vals ids u)(hl:lone=false):∀b,Ok cx σ vals w' b->qb cx.eC lone cx.w0 w' us b:=by
 rintro b ⟨h1,h2,h3⟩;refine⟨h1.imp (λh=>⟨hl,h⟩) (ho b),h2,λu hu hb=>h3 ?_⟩;rcases gx u hu with rfl|⟨id,s,_,g1,g2,g3⟩
 ·cases hb
 ·exact⟨id,s,u,g1,g2,g3,hb⟩
def L_(ho:∀b,cx.own b->cx.w0.heap.size<=b)(hr:dH cx σ vals w'){av:AV}{r:RV}{v:Value}(h:Ve cx σ vals w' av r v){lone:Bool}(hl:lone=true->r.aaE){ids:List Nat}{us:List Value}(gx:∀u∈us,WO σ vals ids u):
 RR (qb cx.eC lone cx.w0 w' us) (λb=>cx.w0.heap.size<=b) w' r v (XY r v):=by
 have plain:∀x,(lone=true->x.flat)->Rd (Ok cx σ vals w') w' x v->Rd (qb cx.eC lone cx.w0 w' us) w' x v:=by
  intro x hx h;cases Vq:lone with
  |false=>exact Rd.mono (aeH ho gx rfl) (λ_ _ _=>rfl) x v h
  |true=>exact anW (hx Vq) h
 have aGV:∀(aC:List PV) (cells:List Value),(lone=true→∀x∈aC,x.flat)->bS (Ok cx σ vals w') w' (aC.flatMap PV.cells) cells->bS (qb cx.eC lone cx.w0 w' us) w' (aC.flatMap PV.cells) cells:=by
  intro aC cells hx h;cases Vq:lone with
  |false=>exact bS.mono (aeH ho gx rfl) (λ_ _ _=>rfl) _ _ h
  |true=>
   refine YA _ _ (λc hc=>?_) h;obtain⟨x,dR,hc⟩:=List.mem_flatMap.1 hc;exact alU (hx Vq x dR) c hc
 cases r with
 |pv y=>exact⟨plain _ (λe=>hl e) h.1,rfl⟩
 |fresh e sz aC=>
  rcases(show _\/_ from h)with⟨rfl,rfl,h0⟩|⟨id,_,h1,h2⟩
  ·exact⟨rfl,h0,[],QE _ _ _ _ _,aj,aj,by rfl⟩
  ·obtain⟨h0,cells,g1,g2,g3,g4⟩:=hr.sV id _ v h1 h2;exact⟨rfl,h0,_,g1.imp ho,g2,g3,aGV aC cells (λe=>hl e) g4⟩
 |row e sz aC=>
  rcases(show _\/_ from h)with⟨rfl,rfl,h0⟩|⟨id,ap,_,h1,h2⟩
  ·exact⟨rfl,h0,[],QE _ _ _ _ _,aj,aj,by rfl⟩
  ·obtain⟨h0,cells,g1,g2,g3,g4⟩:=hr.sV id _ v h1 h2;refine⟨rfl,h0,_,?_,g2,g3,aGV aC cells (λe=>hl e) g4⟩;have g1:=g1.imp ho;refine⟨g1.1,g1.2.imp_right ?_⟩;rintro⟨g,cap,cur,fr,f1,f2,f3,f4,f5,f6,f7,f8⟩;exact⟨g,_,_,fr,f1,f2,f3,f4,f5,f6,f7,f8.imp_right λh=>⟨rfl,h.2⟩⟩
 |_=>trivial
def aic(ho:∀b,cx.own b->cx.w0.heap.size<=b)(hr:dH cx σ vals w'){av:AV}{r:RV}{v:Value}(h:Item cx σ vals w' av r v){lone:Bool}(hl:lone=true->r.aaE){ids:List Nat}{us:List Value}(gx:∀u∈us,WO σ vals ids u):
 RR (qb cx.eC lone cx.w0 w' us) (λb=>cx.w0.heap.size<=b) w' r v (UJ r v):=by
 cases r with
 |pv y=>exact L_ (av:=.bad) ho hr (r:=.pv y) ⟨h,λe=>cz⟩ hl gx
 |fresh e sz aC=>exact L_ ho hr h.2 hl gx
 |row e sz aC=>exact L_ ho hr h.2 hl gx
 |agg rs=>
  obtain⟨cs,vs,rfl,rfl,h0,h1⟩:=h;have Vq:lone=false:=by
   cases lone with
   |false=>rfl
   |true=>trivial
  have main:∀(cs:List AV) (rs:List RV) (vs:List Value),(∀c∈cs,c.one=true)->Ko cx σ vals w' cs rs vs->XW (qb cx.eC lone cx.w0 w' us) (λb=>cx.w0.heap.size<=b) w' rs vs (T1 rs vs)/\
   ∀r∈rs,match r with| .pv x=>x.one=true| .fresh _ _ _=>True| .row _ _ _=>True|_=>False:=by
   intro cs
   induction cs with
   |nil=>rintro rs vs _ ⟨rfl,rfl⟩;exact⟨by trivial,aj⟩
   |cons c cs ih=>
    rintro rs vs h0 ⟨r,fo,v,KC,rfl,rfl,h1,h2⟩;obtain⟨g1,g2⟩:=ih fo KC (λd hd=>h0 d yf) h2;refine⟨?_,λq hq=>?_⟩
    ·exact⟨v,_,_,_,rfl,rfl,L_ ho hr h1 (λe=>bf) gx,g1⟩
    ·rcases zax.1 hq with rfl|hq
     ·cases q with
      |pv x=>exact h1.2 (h0 c aj)
      |fresh _ _ _=>trivial
      |row _ _ _=>trivial
      |_=>assumption
     grind
  obtain⟨g1,g2⟩:=main cs rs _ h0 h1;exact⟨vs,rfl,g2,g1⟩
 |_=>exact(show False from h.2).elim
def aug(ho:∀b,cx.own b->cx.w0.heap.size<=b)(hr:dH cx σ vals w'){lone:Bool}{ids:List Nat}{us:List Value}(gx:∀u∈us,WO σ vals ids u):
 ∀(aLq:List AV) (rs:List RV) (vs:List Value),anY cx σ vals w' aLq rs vs->(lone=true->am7 rs)->XW (qb cx.eC lone cx.w0 w' us) (λb=>cx.w0.heap.size<=b) w' rs vs (yW rs vs):=by
 intro aLq
 induction aLq with
 |nil=>
  rintro rs vs ⟨rfl,rfl⟩ _;trivial
 |cons av aLq ih=>
  rintro rs vs ⟨r,fo,v,KC,rfl,rfl,h1,h2⟩ hl;exact⟨v,_,_,_,rfl,rfl,aic ho hr h1 (λe=>(show r.aaE/\am7 fo from hl e).1) gx,ih fo KC h2 λe=>(show r.aaE/\am7 fo from hl e).2⟩
def aa3{av:AV}{r:RV}{v:Value}(h:Ve cx σ vals w' av r v):∀u∈XY r v,WO σ vals (bX av) u:=by
 intro u hu;cases r with
 |fresh e sz aC=>
  simp[XY]at hu;subst hu;rcases(show _\/_ from h)with⟨h,_⟩|⟨id,h1,h2,h3⟩
  ·exact .inl h
  ·exact .inr ⟨id,_,h1,h2,rfl,h3⟩
 |row e sz aC=>
  simp[XY]at hu;subst hu;rcases(show _\/_ from h)with⟨h,_⟩|⟨id,ap,h1,h2,h3⟩
  ·exact .inl h
  ·exact .inr ⟨id,_,h1,h2,rfl,h3⟩
 |_=>trivial
def ahN(hr:dH cx σ vals w'){l m:List Value}{i j:List Nat}(hl:∀u∈l,WO σ vals i u)(hm:∀u∈m,WO σ vals j u)(zk:∀a∈i,∀b∈j,a≠b)(h1:l.Pairwise λu t=>∀b,bl u=some b->bl t≠some b)(h2:m.Pairwise λu t=>∀b,bl u=some b->bl t≠some b):
 (∀u∈l++m,WO σ vals (i++j) u)/\(l++m).Pairwise λu t=>∀b,bl u=some b->bl t≠some b:=by
 refine⟨λu hu=>?_,?_⟩
 ·rcases zaA.1 hu with hu|hu
  ·rcases hl u hu with h|⟨id,s,k1,k2⟩
   ·exact .inl h
   ·exact .inr ⟨id,s,zb7 _ k1,k2⟩
  ·rcases hm u hu with h|⟨id,s,k1,k2⟩
   ·exact .inl h
   ·exact .inr ⟨id,s,zb5 _ k1,k2⟩
 ·rw[List.pairwise_append];refine⟨h1,h2,λu hu x hx b hb s9=>?_⟩;rcases hl u hu with rfl|⟨id,s,k1,k2,k3,k4⟩
  ·cases hb
  ·rcases hm x hx with rfl|⟨pC,s2,j1,j2,j3,j4⟩
   ·cases s9
   ·exact hr.Xl id pC _ _ _ _ b (zk id k1 pC j1) k2 j2 k3 j3 k4 j4 hb s9
def atk(hr:dH cx σ vals w'){av:AV}{r:RV}{v:Value}(h:Item cx σ vals w' av r v)(hn:(uU av).Nodup):(∀u∈UJ r v,WO σ vals (uU av) u)/\(UJ r v).Pairwise λu t=>∀b,bl u=some b->bl t≠some b:=by
 cases r with
 |pv x=>simp[UJ,XY]
 |fresh e sz aC=>exact⟨by rw[<-h.1];exact aa3 h.2,by simp[UJ,XY]⟩
 |row e sz aC=>exact⟨by rw[<-h.1];exact aa3 h.2,by simp[UJ,XY]⟩
 |agg rs=>
  obtain⟨cs,vs,rfl,rfl,_,h1⟩:=h;have main:∀(cs:List AV) (rs:List RV) (vs:List Value),Ko cx σ vals w' cs rs vs->(cs.flatMap bX).Nodup->(∀u∈T1 rs vs,WO σ vals (cs.flatMap bX) u)/\(T1 rs vs).Pairwise λu t=>∀b,bl u=some b->bl t≠some b:=by
   intro cs
   induction cs with
   |nil=>rintro rs vs ⟨rfl,rfl⟩ _;simp[T1]
   |cons c cs ih=>
    rintro rs vs ⟨r,fo,v,KC,rfl,rfl,h1,h2⟩ hn;rw[zao,zcc]at hn;obtain⟨g1,g2⟩:=ih fo KC h2 hn.2.1;exact ahN hr (aa3 h1) g1 hn.2.2 (by cases r<;>simp[XY]) g2
  exact main cs rs _ h1 hn
 |_=>exact(show False from h.2).elim
def ajW(hr:dH cx σ vals w'):∀(aLq:List AV) (rs:List RV) (vs:List Value),anY cx σ vals w' aLq rs vs->(aLq.flatMap uU).Nodup->
 (∀u∈yW rs vs,WO σ vals (aLq.flatMap uU) u)/\(yW rs vs).Pairwise λu t=>∀b,bl u=some b->bl t≠some b:=by
 intro aLq
 induction aLq with
 |nil=>
  rintro rs vs ⟨rfl,rfl⟩ _;simp[yW]
 |cons av aLq ih=>
  rintro rs vs ⟨r,fo,v,KC,rfl,rfl,h1,h2⟩ hn;rw[zao,zcc]at hn;obtain⟨n1,n2,n3⟩:=hn;obtain⟨g1,g2⟩:=ih fo KC h2 n2;obtain⟨f1,f2⟩:=atk hr h1 n1;exact ahN hr f1 g1 n3 f2 g2
def YR(ho:∀b,cx.own b->cx.w0.heap.size<=b)(hr:dH cx σ vals w'){ids:List Nat}{u:Value}(h:WO σ vals ids u):∀b,bl u=some b->cx.w0.heap.size<=b:=by
 intro b hb;rcases h with rfl|⟨id,s,_,h1,h2,h3⟩
 ·cases hb
 ·exact ho b ((hr.sV id s u h1 h3).block h2 hb).1
def Rg:List Value->Value
 |[v]=>v
 |vs=>.tuple vs.toArray
def OL(tmps:Array Value):ResultVar->Sem Value
 | .tmp t=>pure (tmps.getD t undef)
 | .cell a t=>do loadVar t (<-asAddr (tmps.getD a undef))
def Vj{fn:Func}{l:List ResultVar}(h:fn.results=l.toArray)(hl:l.length<=4)(tmps:Array Value)(P:Program)(w:World)(vs:List Value)(hlen:vs.length=l.length)
 (hv:∀(i:Nat) (r:ResultVar) (v:Value),l[i]?=some r->vs[i]?=some v->(OL tmps r).run P w=.ok v w):
 (results fn tmps).run P w=.ok (Rg vs) w:=by
 have e:results fn tmps=(do
  let vs<-l.toArray.mapM (OL tmps)
  pure (if h:vs.size=1 then vs[0]else .tuple vs)):=by
  unfold results;congr 2
 rw[e]
 match l,vs,hl,hlen,hv with
 |[],[],_,_,hv=>simp[Rg]
 |[a],[x],_,_,hv=>
  have h0:=hv 0 a x rfl rfl;simp[h0,Rg]
 |[a,b],[x,y],_,_,hv=>
  have h0:=hv 0 a x rfl rfl;have h1:=hv 1 b y rfl rfl;simp[h0,h1,Rg]
 |[a,b,c],[x,y,z],_,_,hv=>
  have h0:=hv 0 a x rfl rfl;have h1:=hv 1 b y rfl rfl;have h2:=hv 2 c z rfl rfl;simp[h0,h1,h2,Rg]
 |[a,b,c,d],[x,y,z,u],_,_,hv=>
  have h0:=hv 0 a x rfl rfl;have h1:=hv 1 b y rfl rfl;have h2:=hv 2 c z rfl rfl;have h3:=hv 3 d u rfl rfl;simp[h0,h1,h2,h3,Rg]
 |_::_::_::_::_::_,_,hl,_,_=>grind
def abt(hr:Rel cx env σ vals a w'):∀(l:List ResultVar) (rs:List (Nat×Option (Bool×Nat))) (K:List AV->Prop),l.map (aib cx.P)=rs.map some->sT σ env rs K->
 ∃aLq vs,K aLq/\fY (Ok cx σ vals w') σ vals w' aLq vs/\vs.length=l.length∧∀(i:Nat) (r:ResultVar) (v:Value),l[i]?=some r->vs[i]?=some v->(OL a.tmps r).run cx.P w'=.ok v w':=by
 intro l
 induction l with
 |nil=>
  intro rs K hm h;cases rs with
  |nil=>exact⟨[],[],h,by rfl,rfl,λi r v hr=>aj⟩
  |cons p rs=>grind
 |cons r l ih=>
  intro rs K hm h;cases rs with
  |nil=>grind
  |cons p rs=>
   simp only[zau,List.cons.injEq]at hm;obtain⟨hp,hm⟩:=hm;have h:=Mh _ _ _ (show look p.1 (λv=>match p.2 with
    |none=>sT σ env rs λl=>K (v::l)
    |some q=>Nw σ q.1 q.2 v λv=>sT σ env rs λl=>K (v::l)) env from h)
   have fin:∀(av:AV) (v:Value),RA (Ok cx σ vals w') σ vals w' av v->(OL a.tmps r).run cx.P w'=.ok v w'->(sT σ env rs λl=>K (av::l))->
    ∃aLq vs,K aLq/\fY (Ok cx σ vals w') σ vals w' aLq vs/\vs.length=(r::l).length∧∀(i:Nat) (r':ResultVar) (v:Value),(r::l)[i]?=some r'->vs[i]?=some v->(OL a.tmps r').run cx.P w'=.ok v w':=by
    intro av v Bb cL hk;obtain⟨aLq,vs,h1,h2,h3,h4⟩:=ih rs _ hm hk;refine⟨av::aLq,v::vs,h1,by simp only[fY];grind,by simp[h3],λi r' v' hi hv=>?_⟩
    grind
   cases r with
   |tmp t=>
    cases hp;exact fin _ _ (hr.env t) (by rfl) h
   |cell s t=>
    obtain⟨sh,yB,hp⟩:=aX (show opt (V5 cx.P t) (λq=>match q.1 with
     |true=>some (s,some (true,q.2))
     |false=>some (s,some (false,1)))=some p from hp)
    have aDm:=xU yB;obtain⟨ag,n⟩:=sh;have main:∀m,p=(s,some (ag,m))->m=(if ag then n else 1)→∃aLq vs,K aLq/\fY (Ok cx σ vals w') σ vals w' aLq vs/\vs.length=(ResultVar.cell s t::l).length∧∀(i:Nat) (r':ResultVar) (v:Value),(ResultVar.cell s t::l)[i]?=some r'->vs[i]?=some v->(OL a.tmps r').run cx.P w'=.ok v w':=by
     intro m um iE;subst um;obtain⟨b,off,us,av,hv,hl,UD,Ql,hk⟩:=adY hr.s ag m (hr.env s) h;refine fin av _ Ql ?_ hk;have:=run_load aDm b off us bf UD;simp only[OL,hv,asAddr,Sem.run_bind,Sem.run_pure,Result.andThen_ok,this]
    grind
def aqJ(eh:∀b,cx.own b->cx.w0.heap.size<=b)(hr:Rel cx env σ vals a w'){aLq:List AV}{vs:List Value}(l9:fY (Ok cx σ vals w') σ vals w' aLq vs){lone:Bool}{K:RV->Prop}(h:auM lone σ aLq K):
 ∃r us,K r/\RR (qb cx.eC lone cx.w0 w' us) (λb=>cx.w0.heap.size<=b) w' r (Rg vs) us/\
  (∀u∈us,∀b,bl u=some b->cx.w0.heap.size<=b)∧∀(i j:Nat) (u t:Value) (b:Nat),i≠j->us[i]?=some u->us[j]?=some t->bl u=some b->bl t≠some b:=by
 have pw:∀us:List Value,(us.Pairwise λu t=>∀b,bl u=some b->bl t≠some b)→∀(i j:Nat) (u t:Value) (b:Nat),i≠j->us[i]?=some u->us[j]?=some t->bl u=some b->bl t≠some b:=by
  intro us hp i j u t b zk hu ht hb uq;rw[List.pairwise_iff_getElem]at hp;obtain⟨hi,rfl⟩:=zaa.1 hu;obtain⟨hj,rfl⟩:=zaa.1 ht;rcases Nat.lt_or_gt_of_ne zk with aU|aU
  ·exact hp i j hi hj aU b hb uq
  ·exact hp j i hj hi aU b uq hb
 unfold auM at h;cases ho:Xm aLq []with
 |false=>simp only[ho]at h
 |true=>
  simp only[ho]at h;cases aLq with
  |nil=>
   simp only[fY]at l9;subst l9;exact⟨_,[],h,by simp[RR,XW,Rg],aj,aj⟩
  |cons av aLq=>
   simp only[fY]at l9;obtain⟨v,t,rfl,h1,h2⟩:=l9;cases aLq with
   |nil=>
    simp only[fY]at h2;subst h2;obtain⟨r,h3,h4,h5⟩:=h;have tY:UK σ [av] [r]:=⟨h3,trivial⟩
    have Mz:fY (Ok cx σ vals w') σ vals w' [av] [v]:=by simp only[fY];exact⟨v,[],rfl,h1,rfl⟩
    obtain⟨σ',k1,k2,k3,k4⟩:=Z2 _ _ _ σ hr.s Mz tY (z6 _ _ ho).1;obtain⟨g1,g2⟩:=ajW k1 _ _ _ k4 (z6 _ _ ho).1;have e:yW [r] [v]=UJ r v:=by simp[yW]
    rw[e]at g1 g2;obtain⟨_,_,_,_,e1,e2,k5,_⟩:=k4;cases e1;cases e2;exact⟨r,UJ r v,h5,aic eh k1 k5 (λel=>by subst el;exact h4) g1,λu hu=>YR eh k1 (g1 u hu),pw _ g2⟩
   |cons bv aLq=>
    obtain⟨fo,h3,h4,h5⟩:=h;have Mz:fY (Ok cx σ vals w') σ vals w' (av::bv::aLq) (v::t):=by simp only[fY]at h2 ⊢;exact⟨v,t,rfl,h1,h2⟩
    obtain⟨σ',k1,k2,k3,k4⟩:=Z2 _ _ _ σ hr.s Mz h3 (z6 _ _ ho).1;obtain⟨g1,g2⟩:=ajW k1 _ _ _ k4 (z6 _ _ ho).1;simp only[fY]at h2;obtain⟨v2,t2,rfl,_,_⟩:=h2;refine⟨.tup fo,yW fo (v::v2::t2),h5,?_,λu hu=>YR eh k1 (g1 u hu),pw _ g2⟩;simp only[RR];exact⟨_,rfl,aug eh k1 g1 _ _ _ k4 (λel=>by subst el;exact h4)⟩
noncomputable def ay(l:List (Nat×Spec)):Ctx:=λf=>
 List.rec (EM false false λ_ _=>False) (λp _ ih=>Bool.rec ih p.2 (Nat.beq p.1 f)) l
def apQ{P:Program}:∀(l:List (Nat×Spec)),(∀p∈l,bU P p.1 p.2)->Sound P (ay l):=by
 intro l
 induction l with
 |nil=>intro _ f;exact⟨(by intro h;cases h),(by intro h;cases h),(λ_ _ _ _ _ _ _ _ h=>(show False from h).elim),(λ_ _ _ _ _ _ _ _ h=>(show False from h).elim),λ_ _ _ _ _ _ _ _ h=>bV⟩
 |cons p l ih=>
  intro h f;show bU P f (Bool.rec (ay l f) p.2 (Nat.beq p.1 f));cases hb:Nat.beq p.1 f with
  |true=>
   simp_all
  |false=>exact ih (λq hq=>h q kF) f
def ah(R:List PV->PV->Prop):Spec:=EM true true λps K=>∃x,R ps x/\K (.pv x)
def ajo(S:Spec):Prop:=(S.fn=true->S.lone=true∧∀ps K,S.run ps K→∃x,K (.pv x)∧∀K':RV->Prop,K' (.pv x)->S.run ps K')/\(∀ps L,¬S.iter ps L)/\S.mu=false
def ax(R:List PV->PV->Prop):ajo (ah R):=⟨λ_=>⟨rfl,λ_ _ ⟨x,h1,h2⟩=>⟨x,h2,λ_ h=>⟨x,h1,h⟩⟩⟩,λ_ _ h=>h,rfl⟩
def azL(lone:Bool)(run:List PV->(RV->Prop)->Prop):ajo (EM lone false run):=⟨λe=>cz,λ_ _ h=>h,rfl⟩
def aan{P:Program}{f:FuncId}{fn:Func}{c:Code}(hf:P.funcs[f]?=some fn)(akw:(fn.name== "runtime.NumGoroutine")=false)(hb:fn.body=some c):Enters P f:=by
 intro args w;simp[callFunc,hf,hb]at akw ⊢;omega
structure CF(P:Program)(w0:World)(ok own:Nat->Prop)(pS:List dC)(pV:List Value)(cx:Cx):Prop where
 hP:cx.P=P
 uX:cx.w0=w0
 eh:cx.own=own
 NS:cx.Le=pS
 F3:cx.acm=pV
 di:cx.eC=ok
 gh:∀x v,¬cx.gh x v
 lo:cx.lo=0
 keep:∀b,cx.keep b→∃o:Obj,cx.w1.heap[b]?=some o/\o.isCells=false
 defers:∀d∈cx.defers,∃D,d={ target:=.collected D,args:= #[] }/\cx.keep D/\cx.w1.heap[D]?=some (.deferred (some []))/\w0.heap.size<=D
 once:cx.defers.Pairwise (λa b=>a≠b)
def anQ(P:Program)(w0:World)(ok own:Nat->Prop)(pS:List dC)(pV:List Value)(qG:pV.length=pS.length):au0 P (List.range pS.length) (CF P w0 ok own pS pV):=by
 refine⟨λcx h=>⟨by rw[h.NS],by rw[h.NS,h.F3];exact qG⟩,λcx h=>h.gh,λcx h=>h.lo,λcx h=>h.keep,λcx w D hD hs h hk h0 h1 hK=>?_⟩;refine⟨h.hP,h.uX,h.eh,h.NS,h.F3,h.di,h.gh,h.lo,?_,?_,?_⟩
 ·rintro b (hb|rfl)
  ·obtain⟨o,ho,hc⟩:=h.keep b hb;exact⟨o,(hk b hb).trans ho,hc⟩
  ·exact⟨_,hK,rfl⟩
 ·intro d hd;rcases zax.1 hd with rfl|hd
  ·exact⟨D,rfl,.inr rfl,hK,by rw[<-h.uX];exact h0⟩
  ·obtain⟨D',h2,h3,h4,h5⟩:=h.defers d hd;exact⟨D',h2,.inl h3,(hk D' h3).trans h4,h5⟩
 ·refine List.Pairwise.cons (λd hd e=>?_) h.once;obtain⟨D',h2,h3,_,_⟩:=h.defers d hd
  grind
def leaves{P:Program}{fn:Func}{m:Nat}{R:Ending->World->Prop}{env:Env}{σ:aF}{vals:List Value}{tmps:Array Value}(fin:∀w,Rel cx env σ vals ⟨tmps,[]⟩ w→∃v,(results fn tmps).run P w=.ok v w/\R (.returned v) w)(hk:∀b,¬cx.keep b)(Vt:cx.w1.heap.size<=cx.w0.heap.size):
 ∀(ds:List Deferred) (w:World),(∀d∈ds,∃D,d={ target:=.collected D,args:= #[] }/\w.heap[D]?=some (.deferred (some []))/\cx.w0.heap.size<=D)->ds.Pairwise (λa b=>a≠b)->Rel cx env σ vals ⟨tmps,[]⟩ w->LeavesInM Fence.wide m P fn tmps R ds .returning w:=by
 intro ds
 induction ds with
 |nil=>intro w _ _ hr;exact fin w hr
 |cons d ds ih=>
  intro w hd hp hr;obtain⟨D,rfl,hK,h0⟩:=hd d aj;rw[List.pairwise_cons]at hp;refine⟨aj,.inl ⟨D,_,rfl,run_takeDeferred hK,ih _ (λd' zc=>?_) hp.2 (TD hr (grownBy_putObj' w D (.deferred none)) (λr e=>by cases e;exact⟨cx.eh _ h0,Nat.le_trans Vt h0,_,hK,rfl⟩) (.inr λr e es n h=>bf))⟩⟩;obtain⟨D',rfl,gR,na⟩:=hd d' bf;refine⟨D',rfl,(World.putObj_heap_other (λe=>?_)).trans gR,na⟩
  grind
def ahG{P:Program}{f:Nat}{fn:Func}{c:Code}{pc:PC}{Γ:Ctx}{ps:List Nat}{rs:List (Nat×Option (Bool×Nat))}{S:Spec}(hΓ:Sound P Γ)(hm:P.follows .mixedOrders=true)(hf:P.funcs[f]?=some fn)(akw:(fn.name== "runtime.NumGoroutine")=false)(hb:fn.body=some c)
 (hc:nR P fn.ntmps c=some (strip pc)) {l:List ResultVar} (zl:fn.results=l.toArray) (c_:l.map (aib P)=rs.map some) (hl:l.length<=4) (hS:ajo S) (akx:Nat) (hn:akx<=fn.ntmps) (cP:∀args K,S.run args K->args.length=akx) (h:atQ Γ ps pc rs S):bU P f S:=by
 refine⟨λe=>(hS.1 e).2,λe=>⟨(hS.1 e).1,hS.2.2⟩,?_,λ_ _ _ _ _ _ _ _ h=>absurd h (hS.2.1 _ _),λ_ _ _ _ _ _ _ _ h=>by rw[hS.2.2]at h;cases h⟩;intro w ok args vs K _ di rT cL;refine⟨aan hf akw hb,?_⟩;have hlen:vs.size=args.length:=by simpa using rT.length
 have hle:args.length<=fn.ntmps:=by rw[cP args K cL];exact hn
 obtain⟨env,aku,avI⟩:=aiH args 0 _ (h args K cL)
 let cx:Cx:={ P:=P,w0:=w,eC:=ok,hA:=di }
 let a:Act:={ tmps:=vs++Array.replicate (fn.ntmps-vs.size) undef,defers:=[] }
 have aKy:∀b,ok b->Ok cx [] [] w b:=λb hb=>⟨.inl hb,di b hb,λ⟨i,s,v,hi,_⟩=>r_⟩
 have hr:Rel cx env [] [] a w:=by
  refine⟨⟨Cg.refl _ _,aj,rfl,λi s v hi=>r_,λi j s t u v b _ hi=>r_,⟨zai _,λb hb=>hb.elim,λ_ _ hb=>hb⟩,⟨λi v h=>by simp[cx]at h,by simp[cx],λi hi=>by simp[cx]at hi,λi hi=>by simp[cx]at hi⟩⟩,λp=>?_,rfl,λx v hg=>hg.elim,λp hp=>absurd hp (zcq p)⟩;rw[avI p];simp only[Nat.zero_le,if_true,zcr];cases hx:args[p]? with
  |none=>simp only[RA]
  |some x=>
   simp only[RA];have hp:p<args.length:=(zaa.1 hx).1;have rS:a.tmps.getD p undef=vs[p]'ab:=by
    rw[getD_eq];show((vs++Array.replicate (fn.ntmps-vs.size) undef)[p]?).getD undef=_;rw[zb4 ab,zaG ab];rfl
   rw[rS];exact Rd.mono aKy (λ_ _ _=>rfl) x _ (((uo args _).1 rT).2 p x _ hx (by simp[show p<vs.size from by omega]))
 have hC:CF P w ok (λb=>w.heap.size<=b) [] [] cx:=⟨rfl,rfl,rfl,rfl,rfl,rfl,λ_ _ h=>h,rfl,λb h=>h.elim,λd hd=>(by cases hd),List.Pairwise.nil⟩
 have Ss:=GH (ps:=ps) hΓ hm c pc hc (CF P w ok (λb=>w.heap.size<=b) [] []) Fence.wide 1 cx (aCA S.lone rs K) env [] [] a w (.inr ⟨rfl,zai _,anQ P w ok _ [] [] rfl,λcx h=>h.hP⟩) (.inl λcx h=>h.lo) (.inl rfl) hC (λcx h=>h.hP) (ao5 _ _ _) (by simp[a];omega) hr aku;refine(callsIn_wide (n:=1)).1 (callsIn_of_wp_marks hf hb trivial (wpIn_mono Ss ?_));have fin:∀a' w',(∃cx env σ vals,CF P w ok (λb=>w.heap.size<=b) [] [] cx/\a'.tmps.size=fn.ntmps/\Rel cx env σ vals a' w'/\sT σ env rs λaLq=>auM S.lone σ aLq K)->LeavesInM Fence.wide 1 P fn a'.tmps (λe w'=>∃v' r us,e=.returned v'/\K r/\Below w.heap.size w w'/\RR (qb ok S.lone w w' us) (λb=>w.heap.size<=b) w' r v' us/\
  (∀u∈us,∀b,bl u=some b->w.heap.size<=b)∧∀(i j:Nat) (u t:Value) (b:Nat),i≠j->us[i]?=some u->us[j]?=some t->bl u=some b->bl t≠some b) a'.defers .returning w':=by
  rintro a' w' ⟨ET,aal,σ',aO,zK,ba,ic,hk⟩
  let iZ:Cx:={ P:=P,w0:=w,eC:=ok,hA:=di }
  obtain⟨P',uN,wj,xz,xB,aGY,sN,ayw,xE,xF,aGZ,aDn,ako,SR,S6⟩:=ET;obtain⟨rfl,aDo,amW,rfl,rfl,rfl,mX,UC,sQ,Ub,avJ⟩:=zK;have WT:uN=w:=aDo;subst WT;have avK:aDn=λb=>uN.heap.size<=b:=amW
  subst avK;have ji:Rel iZ aal σ' aO ⟨a'.tmps,[]⟩ w':=⟨⟨ic.s.below,ic.s.one,ic.s.len,ic.s.sV,ic.s.Xl,⟨ic.s.below.size,λb hb=>hb.elim,λ_ _ hb=>hb⟩,⟨ic.s.pin.vs,ic.s.pin.len,ic.s.pin.Rj,ic.s.pin.Qz⟩⟩,ic.env,rfl,λx v hg=>hg.elim,λp hp=>absurd hp (zcq p)⟩
  refine leaves (cx:=iZ) ?_ (λ_ h=>h) (zai _) a'.defers w' ?_ ?_ ji
  ·intro w2 CW;obtain⟨aLq,KC,hk,l9,Oj,avM⟩:=abt CW l rs _ c_ hk;obtain⟨r,us,h1,h2,h3,h4⟩:=aqJ (λ_ h=>h) CW l9 hk;exact⟨_,Vj zl hl _ _ w2 KC Oj avM,_,r,us,rfl,h1,CW.s.below.arP (λ_ h=>h),h2,h3,h4⟩
  ·intro d hd;rw[ic.defers]at hd;obtain⟨D,h2,h3,h4,h5⟩:=Ub d hd;exact⟨D,h2,(ic.s.fr.same D h3).trans h4,h5⟩
  ·rw[ic.defers];exact avJ
 intro e a' w' hp;cases e with
 |normal=>exact fin a' w' hp
 |ret=>exact fin a' w' hp
 |exit i=>
  obtain⟨_,_,_,_,_,_,_,hk⟩:=hp;exact kK
 |_=>exact hp.elim
end
end
end Go.Dv
namespace Go.Dv
open Go.RowKit
section
def akX(n:Nat):∀m,(List.range (m+1)).map (· +n)=n::(List.range m).map (· +(n+1)):=by
 intro m;rw[List.range_succ_eq_map,zau,List.map_map];congr 1
 ·omega
 ·apply zbC;intro x _;simp only[Function.comp];omega
def aqw(σ:aF):∀(n:Nat) (K:List Nat->Prop),aFo σ n K->K ((List.range σ.length).map (· +n)):=by
 induction σ with
 |nil=>intro n K h;exact h
 |cons s σ ih=>
  intro n K h;have:=ih (n+1) (λt=>K (n::t)) h;rw[zam,akX];exact this
def afs(l:List AV):∀(n:Nat) (K:Env->Prop),anZ l n K→∃env,K env∧∀p,aE p env=if n<=p then(l[p-n]?).getD .bad else .bad:=by
 induction l with
 |nil=>intro n K h;exact⟨[],h,λp=>by simp[aE]⟩
 |cons x l ih=>
  intro n K h;obtain⟨env,h1,h2⟩:=ih (n+1) _ h;refine⟨_,h1,λp=>?_⟩;show(bif Nat.beq n p then x else aE p env)=_;by_cases hp:n=p
  ·subst hp;simp
  ·rw[VI hp,cond_false,h2 p];by_cases aU:n<=p
   ·rw[if_pos (show n+1<=p by omega),if_pos aU];have:p-n=(p-(n+1))+1:=ab;rw[this];rfl
   ·rw[if_neg ab,if_neg aU]
def aqh(pin:List Nat)(rs:List (Nat×Option (Bool×Nat)))(K:AV->aF->Prop):∀e,BP (aBs pin rs K e):=by
 intro e env aal σ h;cases e with
 |normal=>exact DB h σ rs _
 |ret=>exact DB h σ rs _
 |exit i=>rfl
def axQ{ok:Nat->Prop}{σ:aF}{vals:List Value}{w:World}(cs:List AV):∀vs:List Value,fY ok σ vals w cs vs->vs.length=cs.length∧∀(j:Nat) (c:AV) (v:Value),cs[j]?=some c->vs[j]?=some v->RA ok σ vals w c v:=by
 induction cs with
 |nil=>intro vs h;simp only[fY]at h;subst h;exact⟨rfl,λj c v hc=>by simp at hc⟩
 |cons c cs ih=>
  intro vs h;simp only[fY]at h;obtain⟨v,t,rfl,h1,h2⟩:=h;obtain⟨h3,h4⟩:=ih t h2;refine⟨by simp[h3],λj c' v' hc hv=>?_⟩;cases j with
  |zero=>simp at hc hv;subst hc hv;exact h1
  |succ j=>exact h4 j c' v' BH (by simpa using hv)
def au8{ok:Nat->Prop}{σ:aF}{vals:List Value}{w:World}{aLq:List AV}{vs:List Value}(h:fY ok σ vals w aLq vs):RA ok σ vals w (ar3 aLq) (Rg vs):=by
 have tup:RA ok σ vals w (.tup aLq) (.tuple vs.toArray):=by
  simp only[RA];exact⟨_,rfl,ky⟩
 cases aLq with
 |nil=>
  have h':=h;simp only[fY]at h';subst h';exact tup
 |cons a aLq=>
  have h':=h;simp only[fY]at h';obtain⟨v,t,rfl,h1,h2⟩:=h';cases aLq with
  |nil=>simp only[fY]at h2;subst h2;exact h1
  |cons b aLq=>
   simp only[fY]at h2;obtain⟨v2,t2,rfl,_,_⟩:=h2;exact tup
section
variable {cx:Cx} {env:Env} {σ:aF} {vals:List Value} {a:Act} {w':World}
def af1{P:Program}{f:Nat}{fn:Func}{c:Code}{pc:PC}{Γ:Ctx}{ps:List Nat}{rs:List (Nat×Option (Bool×Nat))}{qS:List AV->aF->(AV->aF->Prop)->Prop}(hΓ:Sound P Γ)(hm:P.follows .mixedOrders=true)(hf:P.funcs[f]?=some fn)(akw:(fn.name== "runtime.NumGoroutine")=false)(hb:fn.body=some c)
 (hc:nR P fn.ntmps c=some (strip pc)) {l:List ResultVar} (zl:fn.results=l.toArray) (c_:l.map (aib P)=rs.map some) (hl:l.length<=4) (akx:Nat) (hn:akx<=fn.ntmps) (cP:∀aLq σ K,qS aLq σ K->aLq.length=akx) (h:alk Γ ps pc rs (sB qS)):bU P f (sB qS):=by
 refine⟨λe=>cz,λe=>cz,λ_ _ _ _ _ e=>cz,λ_ _ _ _ _ _ _ _ h=>(show False from h).elim,?_⟩;intro w ok di σ0 db aLq vs K _ PD l9 cL;refine⟨aan hf akw hb,?_⟩;have hlen:vs.size=aLq.length:=by simpa using l9.length
 have hle:aLq.length<=fn.ntmps:=by rw[cP aLq σ0 K cL];exact hn
 obtain⟨env,aku,avI⟩:=afs aLq 0 _ (h aLq σ0 K cL);have aku:=aqw σ0 0 _ aku;simp only[Nat.add_zero,List.map_id']at aku;have qG:db.length=σ0.length:=PD.len
 let cx:Cx:=nY P w ok di σ0 db
 let own:Nat->Prop:=λb=>w.heap.size<=b\/WB σ0 db b
 let a:Act:={ tmps:=vs++Array.replicate (fn.ntmps-vs.size) undef,defers:=[] }
 have hr:Rel cx env σ0 db a w:=by
  refine⟨PD,λp=>?_,rfl,λx v hg=>hg.elim,λp hp=>absurd hp (zcq p)⟩;rw[avI p];simp only[Nat.zero_le,if_true,zcr];cases hx:aLq[p]? with
  |none=>simp only[Option.getD_none,RA]
  |some x=>
   simp only[zbx];have hp:p<aLq.length:=(zaa.1 hx).1;have rS:a.tmps.getD p undef=vs[p]'ab:=by
    rw[getD_eq];show((vs++Array.replicate (fn.ntmps-vs.size) undef)[p]?).getD undef=_;rw[zb4 ab,zaG ab];rfl
   rw[rS];exact(axQ aLq _ l9).2 p x _ hx (by simp[show p<vs.size from by omega])
 have hC:CF P w ok own σ0 db cx:=⟨rfl,rfl,rfl,rfl,rfl,rfl,λ_ _ h=>h,rfl,λb h=>h.elim,λd hd=>(by cases hd),List.Pairwise.nil⟩
 have Ss:=GH (ps:=ps) hΓ hm c pc hc (CF P w ok own σ0 db) Fence.wide 1 cx (aBs (List.range σ0.length) rs K) env σ0 db a w (.inr ⟨rfl,zai _,anQ P w ok own σ0 db qG,λcx h=>h.hP⟩) (.inl λcx h=>h.lo) (.inl rfl) hC (λcx h=>h.hP) (aqh _ _ _) (by simp[a];omega) hr aku;refine(callsIn_wide (n:=1)).1 (callsIn_of_wp_marks hf hb trivial (wpIn_mono Ss ?_));have fin:∀a' w',(∃cx env σ vals,CF P w ok own σ0 db cx/\a'.tmps.size=fn.ntmps/\Rel cx env σ vals a' w'/\sT σ env rs λaLq=>abE aLq (List.range σ0.length) λl=>X_ σ l l λr=>Zk r aLq λaLq=>aap σ r r λσ=>K (ar3 aLq) σ)->
  LeavesInM Fence.wide 1 P fn a'.tmps (λe w'=>∃v res σ1 kh,e=.returned v/\K res σ1/\dH (nY P w ok di σ0 db) σ1 kh w'/\RA (Ok (nY P w ok di σ0 db) σ1 kh w') σ1 kh w' res v) a'.defers .returning w':=by
  rintro a' w' ⟨ET,aal,σ',aO,zK,ba,ic,hk⟩;obtain⟨P',uN,wj,xz,xB,aGY,sN,ayw,xE,xF,aGZ,aDn,ako,SR,S6⟩:=ET;obtain⟨rfl,aDo,amW,aKD,aKE,WU,mX,UC,sQ,Ub,avJ⟩:=zK;have WT:uN=w:=aDo;subst WT;have avK:aDn=own:=amW;subst avK;have eQ:SR=σ0:=aKD;subst eQ;have xG:S6=db:=aKE;subst xG;have UF:wj=ok:=WU;subst UF
  let iZ:Cx:=nY P' uN wj di SR S6
  have ji:Rel iZ aal σ' aO ⟨a'.tmps,[]⟩ w':=⟨⟨ic.s.below,ic.s.one,ic.s.len,ic.s.sV,ic.s.Xl,⟨ic.s.below.size,λb hb=>hb.elim,λ_ _ hb=>hb⟩,⟨ic.s.pin.vs,ic.s.pin.len,ic.s.pin.Rj,ic.s.pin.Qz⟩⟩,ic.env,rfl,λx v hg=>hg.elim,λp hp=>absurd hp (zcq p)⟩
  refine leaves (cx:=iZ) ?_ (λ_ h=>h) (zai _) a'.defers w' ?_ ?_ ji
  ·intro w2 CW;obtain⟨aLq,KC,hk,l9,Oj,avM⟩:=abt CW l rs _ c_ hk;obtain⟨l1,hk,pj,XN⟩:=Kx aLq _ _ List.nodup_range hk;obtain⟨r,hk,lF,eQ⟩:=LN σ' l1 l1 _ pj hk;obtain⟨D7,hk,has⟩:=LG r aLq _ hk;obtain⟨σ2,hk,h1,h2⟩:=KB σ' r r _ hk;obtain⟨lh,hA,ZI,UF⟩:=anG (cx:=iZ) ⟨rfl,qG⟩ (XN.trans eQ) lF h1 h2 CW.s;exact⟨_,Vj zl hl _ _ w2 KC Oj avM,_,_,σ2,lh,rfl,hk,ZI,au8 (kC.ra hA UF _ _ _ has l9)⟩
  ·intro d hd;rw[ic.defers]at hd;obtain⟨D,h2,h3,h4,h5⟩:=Ub d hd;exact⟨D,h2,(ic.s.fr.same D h3).trans h4,h5⟩
  ·rw[ic.defers];exact avJ
 intro e a' w' hp;cases e with
 |normal=>exact fin a' w' hp
 |ret=>exact fin a' w' hp
 |exit i=>
  obtain⟨_,_,_,_,_,_,_,hk⟩:=hp;exact kK
 |_=>exact hp.elim
end
end
end Go.Dv
namespace Go.Dv
def wrap64{n:Int}(h: -9223372036854775808<=n/\n<=9223372036854775807):IntKind.i64.wrap n=n:=by
 have hb:IntKind.i64.bits=64:=rfl;simp only[IntKind.wrap,IntKind.signed,hb];have:(2:Int)^64=18446744073709551616:=ao;have:(2:Int)^(64-1)=9223372036854775808:=ao
 simp_all
 omega
def dB{r n:Int}(hr:r=IntKind.i64.wrap n)(h: -9223372036854775808<=n/\n<=9223372036854775807):r=n:=hr.trans (wrap64 h)
def cmp{b:Bool}{p:Prop}(h:b=true↔p):(b=true/\p)\/(b=false∧¬p):=by
 cases b with
 |true=>exact .inl ⟨rfl,h.1 rfl⟩
 |false=>exact .inr ⟨rfl,λhp=>by have:=h.2 hp;cases this⟩
def bj{n:Int}{K:Int->Prop}(h: -9223372036854775808<=n/\n<=9223372036854775807)(k:K n):∀r:Int,r=IntKind.i64.wrap n->K r:=λr hr=>by
 rw[dB hr h];exact k
def de{p:Prop}{K:Bool->Prop}(ht:p->K true)(hf:¬p->K false):∀b:Bool,(b=true↔p)->K b:=λb hb=>by
 cases b with
 |true=>exact ht (hb.1 rfl)
 |false=>exact hf λhp=>by have:=hb.2 hp;cases this
def aq{P:Program}:Sound P (ay []):=apQ [] (λ_ h=>bV)
def aaB{P:Program}{f:Nat}{S:Spec}{l:List (Nat×Spec)}(h:bU P f S)(ht:Sound P (ay l)):Sound P (ay ((f,S)::l)):=by
 intro g;show bU P g (Bool.rec (ay l g) S (Nat.beq f g));cases hb:Nat.beq f g with
 |true=>
  have:=zab hb;subst this;exact h
 |false=>exact ht g
end Go.Dv
namespace Go.Dv
open Go Go.ChangeShapes Go.WideShapes Go.ChangeAt Go.RowKit
def alN{P:Program}{f:FuncId}{S:Spec}(h:bU P f S)(Um:S.mu=false){W:World}{args:Array Value}{ps:List PV}(rT:bS (λb=>b<W.heap.size) W ps args.toList)(cL:S.run ps λr=>r=.pv (.bool true)):
 Calls P f args W λe w'=>e=.returned (.bool true)/\Below W.heap.size W w':=by
 refine(h.2.2.1 W (λb=>b<W.heap.size) ps args _ Um (λ_ hb=>hb) rT cL).2.mono λe w' he=>?_
 obtain⟨v,r,us,rfl,rfl,hb,hr,_⟩:=he;simp only[RR,Rd]at hr;exact⟨by rw[hr.1],hb⟩
def acB{H:Type}{enc:TypeId×Value->H}{P:Program}(hl:laidOutB P=true){W W':World}(hb:Below W.heap.size W W'):∀(ts:List TypeId) (vs:List Value) (ds:List (DataW H)) (ps:List MemPlace),
 (∀t∈ts,P.readableRec t=true/\t<P.types.size)->DataW.TrodAll enc P W 0 (λ_=>true) true ts vs ds ps->(∀x∈ps,x.block<W.heap.size)->DataW.TrodAll enc P W' 0 (λb=>decide (b<W.heap.size)) true ts vs ds ps:=by
 intro ts
 induction ts with
 |nil=>
  intro vs ds ps _ h _;obtain⟨rfl,rfl,rfl⟩:=trodAll_nil h;exact trodAll_mk0
 |cons t ts ih=>
  intro vs ds ps ht h aU;obtain⟨v,KC,d,pK,p,q,rfl,rfl,rfl,h1,h2⟩:=trodAll_cons h;exact⟨p,q,Below.trod hl (ht t aj).1 (ht t aj).2 h1 hb (λx hx=>aU x iP),ih _ _ _ (λt' h'=>ht t' (by simp[h'])) h2 (λx hx=>aU x iP),rfl⟩
def xb{H:Type}{enc:TypeId×Value->H}{P:Program}(hl:laidOutB P=true){f:Func}{s:ChangeSpec}{apart fresh handsOn:Bool}{W W':World}{args:Array Value}{ds gs:List (DataW H)}{before:List MemPlace}{tb:TypeId}
 (xH:∀t∈f.params.toList,P.readableRec t=true/\t<P.types.size) (xN:f.resultTypes= #[tb]) (xP:P.underlying tb=some .bool) (azE:s.vars=[])
 (sD:s.fn H (ds++gs)={ results:=[.lit (.bool true)],args:=ds })
 (hW:DataW.Whole enc P f.params.toList s.vars apart W args.toList ds gs before) (hb:Below W.heap.size W W'):
 s.post enc P f apart fresh handsOn false W args (.bool true) W':=by
 have aU:=hW.lt;have iA:=hW;obtain⟨p,q,hA,hV,rfl,_,_⟩:=hW;rw[azE]at hV;obtain⟨rfl,rfl⟩:=trodVars_none hV;refine⟨ds,[],p++[],[],p,[],iA,?_,?_,?_,Below.frame hb _,λh=>bV⟩
 ·rw[sD,xN];exact trodAll_cons_mk (shut_bool xP _) trodAll_mk0
 ·rw[sD];exact acB hl hb _ _ _ _ xH hA (λx hx=>by simpa using aU x (by simpa using hx))
 ·rw[sD,azE];simp[DataW.TrodVars]
end Go.Dv
namespace Go.Dv
open Go Go.ChangeShapes Go.WideShapes Go.Deep
section
inductive CT where
 |bool
 |int (k:IntKind)
 |str
 |sl (ag:Bool) (cs:List CT)
mutual
def MD:CT->PV->Prop
 | .bool,x=>∃b,x=.bool b
 | .int k,x=>∃n,x=.int k n/\(Lit.int k n).wf=true
 | .str,x=>∃l,x=.str l/\l.length<=maxLen
 | .sl ag cs,x=>∃aC,x=.sl cs.length aC/\aC.length<=maxLen∧∀y∈aC,(ag=true→∃zs,y=.agg zs/\ou cs zs)/\(ag=false->ou cs [y])
def ou:List CT->List PV->Prop
 |[],xs=>xs=[]
 |c::cs,xs=>∃y ys,xs=y::ys/\MD c y/\ou cs ys
end
def Je:∀(cs ds:List CT) (xs ys:List PV),ou cs xs->ou ds ys->ou (cs++ds) (xs++ys)
 |[],_,_,_,h,h2=>by simp only[ou]at h;subst h;exact h2
 |c::cs,ds,xs,ys,h,h2=>by
  simp only[ou]at h;obtain⟨y,zs,rfl,h3,h4⟩:=h;simp only[List.cons_append,ou];exact⟨_,_,rfl,h3,Je cs ds zs ys h4 h2⟩
def P7:∀(cs:List CT) (xs:List PV),ou cs xs->xs.length=cs.length
 |[],_,h=>by simp only[ou]at h;subst h;rfl
 |c::cs,xs,h=>by
  simp only[ou]at h;obtain⟨y,zs,rfl,h3,h4⟩:=h;simp[P7 cs zs h4]
def ajB:∀(c:CT) (x:PV),MD c x->x.one=true∧∀l,x≠.agg l
 | .bool,x,h=>by simp only[MD]at h;obtain⟨b,rfl⟩:=h;exact⟨rfl,aj⟩
 | .int k,x,h=>by simp only[MD]at h;obtain⟨b,rfl,_⟩:=h;exact⟨rfl,aj⟩
 | .str,x,h=>by simp only[MD]at h;obtain⟨b,rfl,_⟩:=h;exact⟨rfl,aj⟩
 | .sl _ _,x,h=>by simp only[MD]at h;obtain⟨b,rfl,_⟩:=h;exact⟨rfl,aj⟩
def Q9:∀(cs:List CT) (xs:List PV),ou cs xs→∀x∈xs,x.one=true
 |[],_,h=>by simp only[ou]at h;subst h;simp
 |c::cs,xs,h=>by
  simp only[ou]at h;obtain⟨y,zs,rfl,h3,h4⟩:=h;intro x hx;rcases zax.1 hx with rfl|hx
  ·exact(ajB c _ h3).1
  ·exact Q9 cs zs h4 x hx
def M_(P:Program)(e:TypeId):Bool:=match P.underlying e with|some (.struct _)=>true|some (.array _ _)=>true|_=>false
noncomputable def TB(P:Program)(g:TypeId->Option (List CT)):List Field->Nat->Option (List CT):=
 λl=>List.rec (λ_=>some []) (λf _ ih off=>
  (g f.type).bind λcs=>bif Nat.beq f.offset off&&Nat.beq cs.length (P.cellsOf f.type)then(ih (off+cs.length)).map λds=>cs++ds else none) l
noncomputable def awD(cs:List CT)(m:Nat):List CT:=Nat.rec [] (λ_ ih=>cs++ih) m
noncomputable def EE(P:Program)(n:Nat):TypeId->Option (List CT):=
 Nat.rec (λ_=>none) (λ_ ih t=>
  match P.underlying t with
  |some .bool=>some [.bool]
  |some (.int k)=>some [.int k]
  |some .string=>some [.str]
  |some (.slice e)=>(ih e).bind λcs=>bif Nat.beq cs.length (P.cellsOf e)&&Nat.ble 1 cs.length&&(M_ P e||Nat.beq cs.length 1)then some [.sl (M_ P e) cs]else none
  |some (.struct fs)=>(TB P ih fs.toList 0).bind λcs=>bif Nat.beq cs.length (P.cellsOf t)then some cs else none
  |some (.array m e)=>bif Nat.ble m 64 then(ih e).bind λcs=>bif Nat.beq cs.length (P.cellsOf e)&&Nat.beq (m*cs.length) (P.cellsOf t)then some (awD cs m)else none else none
  |_=>none) n
section
variable {H:Type} {enc:TypeId×Value->H} {P:Program} {w:World} {base:Nat} {spare:Nat->Bool} {held:Bool}
def axk(ok:Nat->Prop)(b:Nat):∀(xs:List PV) (vs:List Value) (o:Nat),bS ok w xs vs->(∀j,j<vs.length->w.cell? ⟨b,o+j,none⟩=vs[j]?)->(∀x∈xs,x.one=true)->te ok w b o xs:=by
 intro xs
 induction xs with
 |nil=>intro vs o _ _ _;simp[te]
 |cons x xs ih=>
  intro vs o h hc h1;simp only[bS]at h;obtain⟨v,r,rfl,h2,h3⟩:=h;simp only[te];refine⟨⟨h1 x aj,v,by simpa using hc 0 aj,h2⟩,ih r (o+1) h3 (λj hj=>?_) (λy hy=>h1 y pT)⟩;have:=hc (j+1) aH;simp at this;rw[<-this];congr 2;omega
def asC(ok:Nat->Prop)(b sz:Nat)(f:Nat->PV):∀(k i o:Nat),(∀j,i<=j->j<i+k->fC ok w b sz (o+(j-i)*sz) [f j])->fC ok w b sz o ((List.range' i k).map f):=by
 intro k
 induction k with
 |zero=>intro i o _;simp[fC]
 |succ k ih=>
  intro i o h;rw[List.range'_succ,zau];have h0:=h i (zai _) ab;rw[zcH,Nat.zero_mul,Nat.add_zero]at h0;have h1:=ih (i+1) (o+sz) (λj h1 h2=>by
   have:=h j ab ab;rw[show o+sz+(j-(i+1))*sz=o+(j-i)*sz by
    obtain⟨q,rfl⟩:∃q,j=i+1+q:=⟨j-(i+1),ab⟩
    rw[show i+1+q-(i+1)=q by omega,show i+1+q-i=q+1 by omega,Nat.add_mul,Nat.one_mul];omega]
   exact this)
  generalize f i=x at h0;cases x<;>(simp only[fC]at h0 ⊢;exact⟨h0.1,h1⟩)
def ap0(ok:Nat->Prop){n k:Nat}(ih:∀(t:TypeId) (cs:List Value) (x:DataW H×List MemPlace) (iD:List CT),EE P n t=some iD->DataW.trod enc P w base spare held k t cs=some x→∃xs,ou iD xs/\bS ok w xs cs)(cs:List Value):
 ∀(l:List Field) (off:Nat) (iD:List CT),TB P (EE P n) l off=some iD->off+iD.length=cs.length->(∀(i:Nat) (f:Field),l[i]?=some f→∃x,DataW.trod enc P w base spare held k f.type ((cs.drop f.offset).take (P.cellsOf f.type))=some x)→∃xs,ou iD xs/\bS ok w xs (cs.drop off):=by
 intro l
 induction l with
 |nil=>
  intro off iD h hl _;simp only[TB]at h;injection h with h
  subst h;exact⟨[],by simp[ou],by simp only[bS];exact zb1 (by simp at hl;omega)⟩
 |cons f l xV=>
  intro off iD h hl hx;have h':((EE P n f.type).bind λcs=>bif Nat.beq f.offset off&&Nat.beq cs.length (P.cellsOf f.type)then(TB P (EE P n) l (off+cs.length)).map λds=>cs++ds else none)=some iD:=h;obtain⟨c1,h1,h2⟩:=zb9.1 h';cases hb:(Nat.beq f.offset off&&Nat.beq c1.length (P.cellsOf f.type))with
  |false=>rw[hb]at h2;cases h2
  |true=>
   rw[hb]at h2;simp only[cond_true]at h2;obtain⟨c2,h3,rfl⟩:=Option.map_eq_some_iff.1 h2;rw[zaU]at hb;have e1:=zab hb.1;have e2:=zab hb.2;obtain⟨x,SI⟩:=hx 0 f rfl;obtain⟨xZ,g1,g2⟩:=ih _ _ _ _ h1 SI;rw[zad]at hl;obtain⟨n_,g3,g4⟩:=xV (off+c1.length) c2 h3 ab (λi f' hf=>hx (i+1) f' (by simpa using hf));refine⟨xZ++n_,Je _ _ _ _ g1 g3,?_⟩;rw[eG];rw[e1,<-e2]at g2;refine⟨_,_,?_,g2,g4⟩;rw[<-zaQ,zaD]
def axi(ok:Nat->Prop)(di:∀b,b<w.heap.size->ok b):∀(n k:Nat) (t:TypeId) (cs:List Value) (x:DataW H×List MemPlace) (iD:List CT),EE P n t=some iD->DataW.trod enc P w base spare held k t cs=some x→∃xs,ou iD xs/\bS ok w xs cs:=by
 intro n
 induction n with
 |zero=>intro k t cs x iD h;cases h
 |succ n ih=>
  intro k t cs x iD h hx;have h':(match P.underlying t with
   |some .bool=>some [CT.bool]
   |some (.int k)=>some [CT.int k]
   |some .string=>some [CT.str]
   |some (.slice e)=>(EE P n e).bind λcs=>bif Nat.beq cs.length (P.cellsOf e)&&Nat.ble 1 cs.length&&(M_ P e||Nat.beq cs.length 1)then some [CT.sl (M_ P e) cs]else none
   |some (.struct fs)=>(TB P (EE P n) fs.toList 0).bind λcs=>bif Nat.beq cs.length (P.cellsOf t)then some cs else none
   |some (.array m e)=>bif Nat.ble m 64 then(EE P n e).bind λcs=>bif Nat.beq cs.length (P.cellsOf e)&&Nat.beq (m*cs.length) (P.cellsOf t)then some (awD cs m)else none else none
   |_=>none)=some iD:=h
  split at h'
  ·rename_i ht;injection h' with h';subst h'
   obtain⟨b,rfl,_⟩:=DataW.trod_bool ht hx;exact⟨[.bool b],by simp[ou,MD],by simp[bS,Rd]⟩
  ·rename_i kk ht;injection h' with h';subst h'
   obtain⟨b,rfl,_,hw⟩:=DataW.trod_int ht hx;exact⟨[.int kk b],by simp[ou,MD,hw],by simp[bS,Rd]⟩
  ·rename_i ht;injection h' with h';subst h'
   obtain⟨s,rfl,_,hs⟩:=DataW.trod_string ht hx;exact⟨[.str s.data.toList],by simp[ou,MD];exact hs,by simp[bS,Rd]⟩
  ·rename_i e ht;obtain⟨c1,h1,h2⟩:=zb9.1 h';cases hb:(Nat.beq c1.length (P.cellsOf e)&&Nat.ble 1 c1.length&&(M_ P e||Nat.beq c1.length 1))with
   |false=>rw[hb]at h2;cases h2
   |true=>
    rw[hb]at h2;simp only[cond_true,Option.some.injEq]at h2;subst h2;rw[zaU,zaU]at hb;have e1:=zab hb.1.1;have e2:=za3 hb.1.2;rcases open_slice ht hx with⟨rfl,_⟩|⟨a,len,cap,m,q,D,Pl,rfl,Be,hl,hm,x0,_,lj⟩
    ·refine⟨[.sl c1.length []],?_,?_⟩
     ·simp only[ou,MD];exact⟨_,_,rfl,⟨[],rfl,aj,aj⟩,rfl⟩
     ·simp only[bS,Rd];exact⟨_,_,rfl,⟨none,0,rfl,aj,by simp[maxLen],.inl trivial⟩,rfl⟩
    ·have gJ:len<=m:=by rw[x0];split<;>omega
     have each:∀i,i<len→∃q:List PV×List Value,ou c1 q.1/\bS ok w q.1 q.2/\q.2.length=c1.length∧∀j,j<c1.length->w.cell? ((a.add (i*c1.length)).add j)=q.2[j]?:=by
      intro i hi;obtain⟨Ea,g1,g2⟩:=lj i ab;obtain⟨xs,g3,g4⟩:=ih _ _ _ _ _ h1 g2;obtain⟨_,g5,g6⟩:=World.cells?_some g1;exact⟨(xs,Ea),g3,g4,by rw[g5,e1],λj hj=>by rw[e1];exact g6 j ab⟩
     obtain⟨f,hf⟩:=choose_lt each;have jm:((List.range' 0 len).map λi=>if M_ P e=true then PV.agg (f i).1 else(f i).1.headD (.nil 0)).length=len:=aj;refine⟨[.sl c1.length ((List.range' 0 len).map λi=>if M_ P e=true then PV.agg (f i).1 else(f i).1.headD (.nil 0))],?_,?_⟩
     ·simp only[ou,MD];refine⟨_,_,rfl,⟨_,rfl,by rw[jm];omega,?_⟩,rfl⟩;intro y hy;obtain⟨i,hi,rfl⟩:=zaX.1 hy;have hi:i<len:=by simp at hi;exact hi
      refine⟨λhg=>?_,λhg=>?_⟩
      ·rw[if_pos hg];exact⟨_,rfl,(hf i hi).1⟩
      ·rw[if_neg (by rw[hg];decide)];rw[hg,Bool.false_or]at hb;have e3:=zab hb.2;have h6:=(hf i hi).1;have h7:=P7 _ _ h6;rw[e3]at h7;obtain⟨z,hz⟩:=zcC.1 h7;rw[hz]at h6 ⊢;exact h6
     ·simp only[bS,Rd];refine⟨_,_,rfl,⟨some a,cap,by rw[jm],by rw[jm];exact hl,hm,?_⟩,rfl⟩;by_cases h0:len=0
      ·left;subst h0;rfl
      right;obtain⟨g1,g2,g3,g4⟩:=hf 0 ab;have jF:=g4 0 ab;rw[Nat.zero_mul]at jF;have ea:(a.add 0).add 0=a:=rfl;rw[ea]at jF;obtain⟨v,hv⟩:∃v,(f 0).2[0]?=some v:=qp;rw[hv]at jF;have aoE:a.spot=none:=by
       unfold World.cell? at jF;split at jF
       ·split at jF
        ·cases jF
        ·rename_i hs;simpa using hs
       ·cases jF
      have aU:a.block<w.heap.size:=by
       unfold World.cell? at jF;split at jF
       ·rename_i hs;by_cases hh:a.block<w.heap.size
        ·exact hh
        ·rw[zcD ab]at hs;cases hs
       ·cases jF
      have aKF:∀j,a.add j=⟨a.block,a.off+j,none⟩:=by
       intro j;unfold Addr.add;split
       ·rename_i h;subst h;obtain⟨b,o,s⟩:=a;simp only at aoE;subst aoE;rfl
       ·rfl
      refine⟨a.block,a.off,?_,di _ aU,?_⟩
      ·obtain⟨b,o,s⟩:=a;simp only at aoE;subst aoE;rfl
      refine asC ok _ _ _ len 0 a.off (λi _ hi=>?_);obtain⟨g1,g2,g3,g4⟩:=hf i ab;rw[zcr];have pN:∀j,j<(f i).2.length->w.cell? ⟨a.block,a.off+i*c1.length+j,none⟩=(f i).2[j]?:=by
       intro j hj;rw[<-g4 j ab,add_add,aKF,Nat.add_assoc]
      by_cases hg:M_ P e=true
      ·rw[if_pos hg];simp only[fC];exact⟨⟨P7 _ _ g1,axk ok _ _ _ _ g2 pN (Q9 _ _ g1)⟩,trivial⟩
      ·rw[if_neg hg];have jA:M_ P e=false:=by simpa using hg
       rw[jA,Bool.false_or]at hb;have e3:=zab hb.2;have h7:=P7 _ _ g1;rw[e3]at h7;obtain⟨z,hz⟩:=zcC.1 h7;rw[hz]at g1 g2 ⊢;have h8:=Q9 _ _ g1 z aj;simp only[bS]at g2;obtain⟨v',r,Mz,h9,rfl⟩:=g2;have XK:=pN 0 (by rw[Mz];simp);rw[Mz]at XK;have Cd:∀l,z≠.agg l:=by
        match c1,g1 with
        |c::cs,g1=>simp only[ou]at g1;obtain⟨y,ys,hy,gT,_⟩:=g1;injection hy with hy _;subst hy;exact(ajB c _ gT).2
       show fC ok w a.block c1.length _ [z];cases z with
       |agg l=>exact absurd rfl (Cd l)
       |_=>simp only[fC];exact⟨⟨e3,h8,v',by simpa using XK,h9⟩,trivial⟩
  ·rename_i fs ht;obtain⟨c1,h1,h2⟩:=zb9.1 h';cases hb:Nat.beq c1.length (P.cellsOf t)with
   |false=>rw[hb]at h2;cases h2
   |true=>
    rw[hb]at h2;simp only[cond_true,Option.some.injEq]at h2;subst h2;have e1:=zab hb;obtain⟨xs,q,rfl,_,hl,Pd,hf⟩:=DataW.trod_struct ht hx;have:=ap0 (k:=q) ok (λt cs x iD=>ih q t cs x iD) cs fs.toList 0 c1 h1 ab (λi f hi=>?_)
    ·simpa using this
    ·have Vp:fs[i]?=some f:=by simpa using hi
     rw[hf i f Vp];have:i<fs.size:=by
      by_cases hh:i<fs.size
      ·exact hh
      ·rw[zcD ab]at Vp;cases Vp
     rw[zah ab];exact⟨_,rfl⟩
  ·rename_i m e ht;cases hm:Nat.ble m 64 with
   |false=>rw[hm]at h';cases h'
   |true=>
    rw[hm]at h';simp only[cond_true]at h';obtain⟨c1,h1,h2⟩:=zb9.1 h';cases hb:(Nat.beq c1.length (P.cellsOf e)&&Nat.beq (m*c1.length) (P.cellsOf t))with
    |false=>rw[hb]at h2;cases h2
    |true=>
     rw[hb]at h2;simp only[cond_true,Option.some.injEq]at h2;subst h2;rw[zaU]at hb;have e1:=zab hb.1;have e2:=zab hb.2;obtain⟨xs,q,rfl,_,hl,Pd,hf⟩:=DataW.trod_array ht hx;have main:∀(k i:Nat),i+k=m→∃ys,ou (awD c1 k) ys/\bS ok w ys (cs.drop (i*c1.length)):=by
      intro k
      induction k with
      |zero=>
       intro i hi;refine⟨[],by show ou [] [];simp[ou],?_⟩;simp only[bS];exact zb1 (by rw[hl,<-e2,show i=m by omega];exact zai _)
      |succ k x4=>
       intro i hi;have Gr:=hf i ab;have:i<xs.length:=ab;rw[zah this]at Gr;obtain⟨x9,g1,g2⟩:=ih _ _ _ _ _ h1 Gr;obtain⟨pP,g3,g4⟩:=x4 (i+1) ab;refine⟨x9++pP,Je _ _ _ _ g1 g3,?_⟩;rw[eG];rw[<-e1]at g2;refine⟨_,_,?_,g2,g4⟩;rw[Nat.add_mul,Nat.one_mul,<-zaQ,zaD]
     obtain⟨ys,g1,g2⟩:=main m 0 ab;exact⟨ys,g1,by simpa using g2⟩
  ·cases h'
end
end
end Go.Dv
namespace Go.Dv
open Go Go.ChangeShapes Go.WideShapes Go.Deep Go.RowKit
section
def xS:List (Bool×List CT)->List PV->Prop
 |[],xs=>xs=[]
 |p::r,xs=>∃y ys,xs=y::ys/\(p.1=true→∃zs,y=.agg zs/\ou p.2 zs)/\(p.1=false->ou p.2 [y])/\xS r ys
noncomputable def H0(P:Program)(ts:List TypeId):List (Bool×Option (List CT)):=ts.map λt=>(M_ P t,EE P 8 t)
section
variable {H:Type} {enc:TypeId×Value->H} {P:Program} {w:World} {base:Nat}
def amL{n:Nat}{t:TypeId}{c:List CT}{v:Value}{r:Reach}{b0:Nat}(hf:EE P n t=some c)(ha:M_ P t=false)(hv:Value.okWide P w r b0 t v):v.cells.toList=[v]:=by
 cases n with
 |zero=>cases hf
 |succ n=>
  have h':(match P.underlying t with
   |some .bool=>some [CT.bool]
   |some (.int k)=>some [CT.int k]
   |some .string=>some [CT.str]
   |some (.slice e)=>(EE P n e).bind λcs=>bif Nat.beq cs.length (P.cellsOf e)&&Nat.ble 1 cs.length&&(M_ P e||Nat.beq cs.length 1)then some [CT.sl (M_ P e) cs]else none
   |some (.struct fs)=>(TB P (EE P n) fs.toList 0).bind λcs=>bif Nat.beq cs.length (P.cellsOf t)then some cs else none
   |some (.array m e)=>bif Nat.ble m 64 then(EE P n e).bind λcs=>bif Nat.beq cs.length (P.cellsOf e)&&Nat.beq (m*cs.length) (P.cellsOf t)then some (awD cs m)else none else none
   |_=>none)=some c:=hf
  unfold M_ at ha;split at h'
  ·rename_i ht;obtain⟨b,rfl⟩:=okWide_bool ht hv;rfl
  ·rename_i ht;obtain⟨b,rfl⟩:=okWide_int ht hv;rfl
  ·rename_i ht;obtain⟨b,rfl⟩:=okWide_string ht hv;rfl
  ·rename_i ht;obtain⟨a,l,c,rfl⟩:=okWide_slice ht hv;rfl
  ·rename_i ht;rw[ht]at ha;cases ha
  ·rename_i ht;rw[ht]at ha;cases ha
  ·cases h'
def awT(ok:Nat->Prop)(di:∀b,b<w.heap.size->ok b){sp:Nat->Bool}{held:Bool}{r:Reach}{b0:Nat}:∀(ts:List TypeId) (sig:List (Bool×List CT)) (vs:List Value) (ds:List (DataW H)) (ps:List MemPlace),
 H0 P ts=sig.map (λp=>(p.1,some p.2))->(∀(j:Nat) t v,ts[j]?=some t->vs[j]?=some v->Value.okWide P w r b0 t v)->DataW.TrodAll enc P w base sp held ts vs ds ps→∃xs,xS sig xs/\bS ok w xs vs:=by
 intro ts
 induction ts with
 |nil=>
  intro sig vs ds ps hs _ h;obtain⟨rfl,rfl,rfl⟩:=trodAll_nil h;cases sig with
  |nil=>exact⟨[],by simp[xS],Fo⟩
  |cons=>simp[H0]at hs
 |cons t ts ih=>
  intro sig vs ds ps hs rS h;obtain⟨v,KC,d,pK,p,q,rfl,rfl,rfl,h1,h2⟩:=trodAll_cons h;cases sig with
  |nil=>simp[H0]at hs
  |cons s sig=>
   simp only[H0,zau,List.cons.injEq,Prod.mk.injEq]at hs;obtain⟨⟨lX,ZI⟩,kI⟩:=hs;obtain⟨xs,g1,g2⟩:=ih sig KC pK q kI (λj t v ht hv=>rS (j+1) t v (by simpa using ht) (by simpa using hv)) h2;obtain⟨k,hk⟩:=h1;obtain⟨ys,g3,g4⟩:=axi ok di 8 k t _ _ _ ZI hk;have hv:=rS 0 t v rfl rfl;cases Vs:M_ P t with
   |false=>
    rw[amL ZI Vs hv]at g4
    match ys,g4 with
    |[],g4=>simp only[bS]at g4;cases g4
    |y::ys,g4=>
     simp only[bS]at g4;obtain⟨v',r,e,g5,g6⟩:=g4;injection e with e1 e2
     subst e1;subst e2;have:ys=[]:=by
      cases ys with
      |nil=>rfl
      |cons z zs=>simp only[bS]at g6;obtain⟨_,_,e,_⟩:=g6;cases e
     subst this;refine⟨y::xs,?_,?_⟩
     ·simp only[xS];exact⟨y,xs,rfl,λh=>absurd (lX.trans h) (by rw[Vs];decide),λ_=>g3,g1⟩
     ·simp only[bS];exact⟨v,KC,rfl,g5,g2⟩
   |true=>
    have fM:∃cs,v=.agg cs:=by
     unfold M_ at Vs;split at Vs
     ·rename_i fs h;obtain⟨cs,h,_⟩:=okWide_struct h hv;exact⟨cs,h⟩
     ·rename_i m e h;simp only[Value.okWide,h]at hv;obtain⟨cs,h1,_⟩:=hv;exact⟨cs,h1⟩
     ·cases Vs
    obtain⟨cs,rfl⟩:=fM;refine⟨.agg ys::xs,?_,?_⟩
    ·simp only[xS];exact⟨_,xs,rfl,λ_=>⟨ys,rfl,g3⟩,λh=>absurd (lX.trans h) (by rw[Vs];decide),g1⟩
    ·simp only[bS,Rd];exact⟨_,KC,rfl,⟨λc hc=>by exact Q9 _ _ g3 c hc,cs,rfl,by simpa[Value.cells]using g4⟩,g2⟩
def wT{f:FuncId}{S:Spec}(h:bU P f S)(Um:S.mu=false){sig:List (Bool×List CT)}(cL:∀xs,xS sig xs->S.run xs λr=>r=.pv (.bool true)){ts:List TypeId}(aKG:H0 P ts=sig.map (λp=>(p.1,some p.2)))
 {args:Array Value} {ds:List (DataW H)} {ps:List MemPlace} {r:Reach} {b0:Nat} (rS:∀(j:Nat) t v,ts[j]?=some t->args.toList[j]?=some v->Value.okWide P w r b0 t v) (hA:DataW.TrodAll enc P w 0 (λ_=>true) true ts args.toList ds ps):
 Calls P f args w λe w'=>e=.returned (.bool true)/\Below w.heap.size w w':=by
 obtain⟨xs,h1,h2⟩:=awT (λb=>b<w.heap.size) (λ_ hb=>hb) ts sig _ _ _ aKG rS hA;exact alN h Um h2 (cL xs h1)
end
def awZ{α:Type}{g:α->PV}{q:α->Prop}:∀{aC:List PV},(∀y∈aC,∃t,y=g t/\q t)→∃l:List α,aC=l.map g∧∀t∈l,q t:=by
 intro aC
 induction aC with
 |nil=>intro _;exact⟨[],rfl,aj⟩
 |cons y ys ih=>
  intro h;obtain⟨t,rfl,ht⟩:=h y aj;obtain⟨l,rfl,hl⟩:=ih λz hz=>h z (by simp[hz])
  exact⟨t::l,rfl,by simpa using⟨ht,hl⟩⟩
end
end Go.Dv
namespace Go.Dv
def aN{K:Bool->Prop}(k:K false):∀r:Bool,(r=true↔(true=false))->K r:=λr hr=>by
 cases r with
 |false=>exact k
 |true=>exact absurd (hr.1 rfl) ao
def bP{K:Bool->Prop}(k:K true):∀r:Bool,(r=true↔(false=false))->K r:=λr hr=>by
 cases r with
 |true=>exact k
 |false=>exact absurd (hr.2 rfl) ao
def au{p:Prop}{K:Bool->Prop}(h:p)(k:K true):∀b:Bool,(b=true↔p)->K b:=λb hb=>by
 rw[hb.2 h];exact k
def aw{p:Prop}{K:Bool->Prop}(h:¬p)(k:K false):∀b:Bool,(b=true↔p)->K b:=λb hb=>by
 cases b with
 |false=>exact k
 |true=>exact absurd (hb.1 rfl) h
def fQ{a b:Int}{K:Int->Prop}(k:K (max a b)):∀r:Int,r=max a b->K r:=λr hr=>by subst hr;exact k
def MIN{a b:Int}{K:Int->Prop}(k:K (min a b)):∀r:Int,r=min a b->K r:=λr hr=>by subst hr;exact k
def l7{a b:Int}{K:Int->Prop}(h:0<=a/\0<b/\a<=9223372036854775807)(k:K (a/b)):b≠0∧∀r:Int,r=IntKind.i64.wrap (a.tdiv b)->K r:=by
 refine⟨ab,λr hr=>?_⟩;rw[zb6 h.1]at hr;have h1:=zcL b h.1;have h2:=zcO h.1 (Int.le_of_lt h.2.1);rw[wrap64 ab]at hr;subst hr;exact k
def lW{a b:Int}{K:Int->Prop}(h:0<=a/\0<b)(k:K (a%b)):b≠0∧∀r:Int,r=a.tmod b->K r:=by
 refine⟨ab,λr hr=>?_⟩;rw[zcf h.1]at hr;subst hr;exact k
def Q3{α:Type}{f:α->PV}{l:List α}{i:Int}{p:Prop}(h:0<=i/\i<l.length)(k:p):(0<=i/\i.toNat<(l.map f).length)/\p:=by
 rw[zaw];exact⟨⟨h.1,ab⟩,k⟩
def U8{n:Int}{K:Int->Prop}(h:0<=n/\n<=255)(k:K n):∀r:Int,r=IntKind.u8.wrap n->K r:=λr hr=>by
 have e:IntKind.u8.wrap n=n:=by
  have hb:IntKind.u8.bits=8:=rfl;simp only[IntKind.wrap,IntKind.signed,hb];simp;omega
 rw[hr,e];exact k
def Oo{n:Int}{K:Int->Prop}(k:K (n%256)):∀r:Int,r=IntKind.u8.wrap n->K r:=λr hr=>by
 have e:IntKind.u8.wrap n=n%256:=by
  have hb:IntKind.u8.bits=8:=rfl;simp only[IntKind.wrap,IntKind.signed,hb];simp
 rw[hr,e];exact k
def sU{j:IntKind}{a b:Int}{K:Int->Prop}(hj:8<=j.bits)(h:0<=b/\b<=8/\0<=a)(k:0<=a/(2^b.toNat:Nat)/\a/(2^b.toNat:Nat)<=a->K (a/(2^b.toNat:Nat))):0<=b∧∀r:Int,r=a.fdiv (2^min b.toNat j.bits)->K r:=by
 refine⟨h.1,λr hr=>?_⟩;have e8:min b.toNat j.bits=b.toNat:=ab;have hp:0<=((2^b.toNat:Nat):Int):=zcg _;rw[e8,show((2:Int)^b.toNat)=((2^b.toNat:Nat):Int) by simp,zbY _ hp]at hr;subst hr;exact k ⟨zcO h.2.2 hp,zcL _ h.2.2⟩
def aii{α:Type}{f:α->PV}{l:List α}{i:Nat}{K:PV->Prop}(h:i<l.length)(k:∀x,l[i]?=some x->K (f x)):∃y,(0<=(i:Int)/\(l.map f)[(i:Int).toNat]?=some y)/\K y:=
 ⟨f l[i],⟨ab,QQ⟩,k _ (zah h)⟩
def bF(R:List PV->Prop->Prop):Spec:=EM true true λps K=>∃p,R ps p∧∀r:Bool,(r=true↔p)->K (.pv (.bool r))
def b_(R:List PV->Prop->Prop):ajo (bF R):=by
 refine⟨λ_=>⟨rfl,λps K h=>?_⟩,λ_ _ h=>h,rfl⟩;obtain⟨p,h1,h2⟩:=h;refine⟨.bool (@decide p (Classical.propDecidable p)),h2 _ aj,λK' h=>⟨p,h1,λr hr=>?_⟩⟩;have:r= @decide p (Classical.propDecidable p):=by
  cases r<;>simp_all
 rw[this];exact h
def aJn{l:List UInt8}{i:Int}{K:PV->Prop}(h:0<=i/\i<l.length)(k:∀x,l[i.toNat]?=some x->x.toNat<256->K (aL x)):∃y,(0<=i/\(l.map aL)[i.toNat]?=some y)/\K y:=by
 have aU:i.toNat<l.length:=ab;exact⟨aL l[i.toNat],⟨h.1,by rw[za9,zah aU];rfl⟩,k _ (zah aU) (zcu _)⟩
def aGr{a:Int}{K:Int->Prop}(h:0<=a/\a<=4611686018427387903)(k:K (a%2)):∀r:Int,r=iz .and .i64 a 1->K r:=λr hr=>by
 have e:iz .and .i64 a 1=a%2:=by
  obtain⟨n,rfl⟩:∃n:Nat,a=n:=⟨a.toNat,ab⟩
  have hb:IntKind.i64.bits=64:=rfl;have e1:(BitVec.ofInt 64 (n:Int)&&&BitVec.ofInt 64 1).toNat=n%2:=by
   rw[BitVec.toNat_and,BitVec.toNat_ofInt,BitVec.toNat_ofInt];have:((n:Int)%((2:Nat)^64:Nat)).toNat=n:=ab;rw[this];exact Nat.and_one_is_mod n
  show IntKind.i64.wrap ((BitVec.ofInt 64 (n:Int)&&&BitVec.ofInt 64 1).toNat:Int)=_;rw[e1,wrap64 ab];rfl
 rw[hr,e];exact k
def aFZ{op:BinOp}{j:IntKind}{a b:Int}{K:Int->Prop}(k:K (iz op j a b)):∀r:Int,r=iz op j a b->K r:=λr hr=>by rw[hr];exact k
def UA(P:Program)(f:Nat)(pc:PC)(ps:List Nat)(rs:List (Nat×Option (Bool×Nat)))(np:Nat):Prop:=
 ∃fn c l,P.funcs[f]?=some fn/\(fn.name== "runtime.NumGoroutine")=false/\fn.body=some c/\nR P fn.ntmps c=some (strip pc)/\fn.results=List.toArray l/\l.map (aib P)=rs.map some/\l.length<=4/\np<=fn.ntmps
def bk{P:Program}{f:Nat}{pc:PC}{ps:List Nat}{rs:List (Nat×Option (Bool×Nat))}{np:Nat}(fn:Func)
 (h:(P.funcs[f]?,(fn.name== "runtime.NumGoroutine"),fn.body.map (nR P fn.ntmps),fn.results.toList.map (aib P),Nat.ble fn.results.toList.length 4,Nat.ble np fn.ntmps)=(some fn,false,some (some (strip pc)),rs.map some,true,true)):UA P f pc ps rs np:=by
 simp only[Prod.mk.injEq]at h;obtain⟨h1,h2,h3,h4,h5,h6⟩:=h;cases hb:fn.body with
 |none=>rw[hb]at h3;cases h3
 |some c=>
  rw[hb]at h3;exact⟨fn,c,fn.results.toList,h1,h2,hb,Option.some.inj h3,aj,h4,za3 h5,za3 h6⟩
def UA.sound{P:Program}{f:Nat}{pc:PC}{ps:List Nat}{rs:List (Nat×Option (Bool×Nat))}{np:Nat}(w:UA P f pc ps rs np)(hm:P.follows .mixedOrders=true){Γ:Ctx}{S:Spec}(hΓ:Sound P Γ)(hS:ajo S)(cP:∀args K,S.run args K->args.length=np)(h:atQ Γ ps pc rs S):bU P f S:=by
 obtain⟨fn,c,l,h1,h2,h3,h4,h5,h6,h7,h8⟩:=w;exact ahG hΓ hm h1 h2 h3 h4 h5 h6 h7 hS np h8 cP h
def UA.rJ{P:Program}{f:Nat}{pc:PC}{ps:List Nat}{rs:List (Nat×Option (Bool×Nat))}{np:Nat}(w:UA P f pc ps rs np)(hm:P.follows .mixedOrders=true){Γ:Ctx}{qS:List AV->aF->(AV->aF->Prop)->Prop}(hΓ:Sound P Γ)(cP:∀xs σ K,qS xs σ K->xs.length=np)(h:alk Γ ps pc rs (sB qS)):bU P f (sB qS):=by
 obtain⟨fn,c,l,h1,h2,h3,h4,h5,h6,h7,h8⟩:=w;exact af1 hΓ hm h1 h2 h3 h4 h5 h6 h7 np h8 cP h
noncomputable def CS(P:Program)(l:List (Nat×Spec)):Prop:=List.rec True (λa _ ih=>bU P a.1 a.2/\ih) l
def CS.ok{P:Program}:∀l,CS P l->Sound P (ay l)
 |[],_=>aq
 |(_,_)::l,⟨a,b⟩=>aaB a (CS.ok l b)
def UA.snd{P:Program}{f:Nat}{pc:PC}{ps:List Nat}{rs:List (Nat×Option (Bool×Nat))}{np:Nat}(w:UA P f pc ps rs np){Γ:List (Nat×Spec)}{S:Spec}(hΓ:CS P Γ)(h:atQ (ay Γ) ps pc rs S)(hm:P.follows .mixedOrders=true:=by exact mixed)(hS:ajo S:=by first|exact ax _|exact b_ _|exact dQ _ _|exact azL _ _)(ha:∀args K,S.run args K->args.length=np:=by first|(rintro _ _ ⟨_,⟨_,rfl,_⟩,_⟩;rfl)|(rintro _ _ ⟨_,⟨_,_,rfl,_⟩,_⟩;rfl)|(rintro _ _ ⟨_,⟨_,_,_,rfl,_⟩,_⟩;rfl)|(rintro _ _ ⟨_,rfl,_⟩;rfl)|(rintro _ _ ⟨_,⟨_,_,_,_,rfl,_⟩,_⟩;rfl)|(rintro _ _ ⟨_,_,rfl,_⟩;rfl)|(rintro _ _ ⟨_,⟨_,_,_,_,_,_,rfl,_⟩,_⟩;rfl)|(rintro _ _ ⟨_,_,_,rfl,_⟩;rfl)|(rintro _ _ ⟨_,⟨_,_,_,_,_,rfl,_⟩,_⟩;rfl)|(rintro _ _ ⟨_,_,_,_,rfl,_⟩;rfl)|(rintro _ _ ⟨_,⟨_,_,_,_,_,_,_,_,_,_,_,_,_,_,_,_,_,_,_,rfl,_⟩,_⟩;rfl)|(rintro _ _ ⟨_,⟨rfl,_⟩,_⟩;rfl)|(rintro _ _ ⟨_,⟨_,_,_,_,_,_,_,rfl,_⟩,_⟩;rfl)):bU P f S:=w.sound hm (CS.ok _ hΓ) hS ha h
def UA.aD{P:Program}{f:Nat}{pc:PC}{ps:List Nat}{rs:List (Nat×Option (Bool×Nat))}{np:Nat}(w:UA P f pc ps rs np){Γ:List (Nat×Spec)}{qS:List AV->aF->(AV->aF->Prop)->Prop}(hΓ:CS P Γ)(h:alk (ay Γ) ps pc rs (sB qS))(hm:P.follows .mixedOrders=true:=by exact mixed)(ha:∀xs σ K,qS xs σ K->xs.length=np:=by first|(rintro _ _ _ ⟨_,rfl,_⟩;rfl)|(rintro _ _ _ ⟨_,_,rfl,_⟩;rfl)|(rintro _ _ _ ⟨_,_,_,rfl,_⟩;rfl)|(rintro _ _ _ ⟨_,_,_,_,rfl,_⟩;rfl)|(rintro _ _ _ ⟨_,_,_,_,_,rfl,_⟩;rfl)|(rintro _ _ _ ⟨_,_,_,_,_,_,rfl,_⟩;rfl)|(rintro _ _ _ ⟨_,_,_,_,_,_,_,rfl,_⟩;rfl)|(rintro _ _ _ ⟨_,_,_,_,_,_,_,_,rfl,_⟩;rfl)|(rintro _ _ _ ⟨_,_,_,_,_,_,_,_,_,rfl,_⟩;rfl)):bU P f (sB qS):=w.rJ hm (CS.ok _ hΓ) ha h
section
section
variable (P:Program)
def Nb(t:TypeId)(K:TypeDesc->Prop):Prop:=match P.underlying t with|some d=>K d|none=>False
def gnI(t:TypeId)(K:Nat->Nat->Option Value->Prop):Prop:=match P.info? t with|some ⟨_,_,n,b,_,_,_,z,_,_⟩=>K n b z|none=>False
def gnL(t:TypeId)(K:TypeId->Nat->Nat->Prop):Prop:=Nb P t λd=>match d with| .slice e=>gnI P e λn b _=>K e n b|_=>False
def abx(t:TypeId)(K:Bool->Nat->Prop):Prop:=gnI P t λn _ _=>Nb P t λd=>match d with| .struct _=>K true n| .array _ _=>K true n|_=>K false 1
noncomputable def kH{α:Type}(l m:List α)(K:List α->Prop):Prop:=List.rec (λK=>K m) (λa _ ih K=>ih λt=>K (a::t)) l K
noncomputable def ZA{α β:Type}(f:α->(β->Prop)->Prop)(l:List α):(List β->Prop)->Prop:=List.rec (λK=>K []) (λa _ ih K=>f a λb=>ih λt=>K (b::t)) l
noncomputable def nv(n:Nat)(K:Nat->Prop):Prop:=Nat.rec (K 0) (λm _=>K (Nat.succ m)) n
noncomputable def tC{α:Type}(x:List α)(n:Nat):(List α->Prop)->Prop:=Nat.rec (λK=>K []) (λ_ ih K=>ih λt=>kH x t K) n
noncomputable def ta(n:Nat):TypeId->(List PV->Prop)->Prop:=Nat.rec (λ_ _=>False) (λ_ ih t K=>Nb P t λd=>match d with
 | .struct ⟨fs⟩=>List.rec (λK=>K []) (λf _ r K=>ih f.type λl=>r λm=>kH l m K) fs K
 | .array m e=>ih e λl=>tC l m K
 | .bool=>K [.bool false]
 | .int k=>K [.int k 0]
 | .string=>K [.str []]
 | .slice e=>gnI P e λn _ _=>K [.nil n]
 | .pointer _=>K [.val (.pointer none)]
 | .interface _=>K [.val .nilIface]
 | .func _ _ _=>K [.val .nilFunc]
 |_=>False) n
noncomputable def abo(t:TypeId)(K:PV->Prop):Prop:=abx P t λa _=>ta P 8 t λl=>match a with
 |true=>K (.agg l)
 |false=>(match l with
  |[x]=>K x
  |_=>False)
noncomputable def ab1(t:TypeId)(K:PV->Nat->Prop)(E:Prop):Prop:=Nb P t λd=>match d with
 | .array n e=>(match Nat.blt 8 n with
  |true=>abo P e λz=>K z n
  |false=>E)
 |_=>E
noncomputable def sZ(l:List Field):(List Nat->Prop)->Prop:=List.rec (λK=>K []) (λf _ ih K=>Nb P f.type λd=>match d with
 | .int _=>ih λt=>K (0::t)
 | .string=>ih λt=>K (1::t)
 | .bool=>ih λt=>K (2::t)
 |_=>False) l
def m_(x:Operand)(K:Int->Prop)(E:Prop):Prop:=match x with| .const (.int _ n)=>K n|_=>E
noncomputable def ab2(n:Int)(s:Nat)(K:Nat->Prop):Prop:=nv (n.toNat*s) K
noncomputable def mL(t:TypeId)(f:Nat)(K:Nat->Bool->Nat->Prop):Prop:=Nb P t λd=>match d with
 | .struct ⟨fs⟩=>g_ fs f λ⟨_,ty,o,_,_,_,_⟩=>abx P ty λa n=>K o a n
 |_=>False
def ab7(x:Operand):Bool:=match x with| .const (.slice none 0 0)=>true|_=>false
noncomputable def abX(dr:Bool)(x:Operand)(t:TypeId)(K:PK->Prop):Prop:=match ab7 x with
 |true=>gnL P t λe n _=>(match dr with|true=>K (.nilS n)|false=>K (.nilR e n))
 |false=>K (.mv x)
noncomputable def mn(b:Bool)(t:TypeId)(x y:Operand)(K:PK->Prop):Prop:=Nb P t λd=>match d with
 | .bool=>K (.eqb b x y)
 | .slice _=>K (.isnil b x)
 | .struct ⟨fs⟩=>sZ P fs λks=>K (.eqs b ks x y)
 |_=>(match b with|true=>K (.bin .neq x y)|false=>K (.bin .eql x y))
noncomputable def GI(dr:Bool)(c:Call)(K:PK->Prop):Prop:=match c with
 |⟨cl,⟨aLq⟩,⟨ts⟩⟩=>match cl with
  | .value f=>(match f with
   | .func f=>(match P.funcs[f]? with
    |some fn=>(match fn.body with
     |some _=>K (.call f aLq)
     |none=>K .fail)
    |none=>False)
   |_=>K (.callv f aLq))
  | .builtin b=>(match b,aLq,ts with
   | .len,[x],[t]=>(Nb P t λd=>match d with
    | .string=>K (.lenS x)
    |_=>(match dr with|true=>K (.lenN x)|false=>K (.lenR x)))
   | .append,[x,y],[t,u]=>(gnL P t λe n b=>Nb P u λd=>match d with
    | .string=>K (.appS e b x y)
    |_=>K (.app e n b x y))
   | .copy,[x,y],[t,u]=>(gnL P t λ_ n _=>Nb P u λd=>match d with
    | .string=>K (.cpyS x y)
    |_=>K (.cpy n x y))
   | .clear,[x],[t]=>gnL P t λe n _=>abo P e λz=>K (.clr n z x)
   | .min,[x,y],_=>K (.mm false x y)
   | .max,[x,y],_=>K (.mm true x y)
   |_,_,_=>K .fail)
  |_=>K .fail
noncomputable def td(dr:Bool)(o:Op)(ty:TypeId)(K:PK->Prop):Prop:=match o with
 | .move x=>abX P dr x ty K
 | .assign x=>abX P dr x ty K
 | .pick c a b=>K (.pick c a b)
 | .binOp op t x y _=>(match op with
  | .eql=>mn P false t x y K
  | .neq=>mn P true t x y K
  |op=>K (.bin op x y))
 | .unOp op _ x=>K (.un op x)
 | .lookup _ x k c=>K (.look c x k)
 | .convert s d x=>(Nb P s λs=>Nb P d λd=>match s,d with
  | .string,.slice e=>K (.conv (.stb e) x)
  | .slice _,_=>K (.conv .bts x)
  | .string,_=>K (.conv .same x)
  |_,.int k=>K (.conv (.toInt k) x)
  |_,_=>False)
 | .load t x=>abx P t λa n=>K (.load a n x)
 | .store t x v=>gnI P t λn _ _=>K (.store n x v)
 | .alloc e=>ab1 P e (λz n=>K (.mkarr e 1 z n)) (abo P e λz=>K (.alloc e z))
 | .box e x=>K (.box e x)
 | .build t ⟨ps⟩=>(abo P t λz=>ZA (λp K=>match p with
  |(i,x)=>Nb P t λd=>match d with
   | .struct ⟨fs⟩=>g_ fs i λ⟨_,f,o,_,_,_,_⟩=>gnI P f λn _ _=>K (o,n,x)
   | .array _ e=>gnI P e λn _ _=>nv (Nat.mul i n) λo=>K (o,n,x)
   |_=>False) ps λps=>match z with
   | .agg cs=>K (.build cs ps)
   |_=>False)
 | .buildSlice t _ ⟨ps⟩=>gnL P t λe n _=>ZA (λp K=>match p with|(_,x)=>K x) ps λps=>(match dr with|true=>K (.bslP e n ps)|false=>K (.bslice e n ps))
 | .call c=>GI P dr c K
 | .extract x i=>K (.ext x i)
 | .slice t x lo hi _=>(Nb P t λd=>match d with
  | .string=>K (.slcS x lo hi)
  | .slice e=>gnI P e λn _ _=>K (.slcR n x lo hi)
  | .array n _=>K (.slcA n 1 x lo hi)
  |_=>False)
 | .index t x i=>(Nb P t λd=>match d with
  | .array m e=>abx P e λa n=>m_ i (λk=>ab2 k n λo=>K (.fld o a n x)) (K (.idxV m n a n x i))
  |_=>K (.idx x i))
 | .indexAddr t x i=>(Nb P t λd=>match d with
  | .array m e=>ab1 P t (λ_ n=>K (.idxAr n 1 x i)) (gnI P e λn _ _=>m_ i (λk=>ab2 k n λo=>K (.fldA o x)) (K (.fldV m n x i)))
  |_=>gnL P t λ_ n _=>K (.idxA n x i))
 | .fieldAddr t x f=>mL P t f λo _ _=>K (.fldA o x)
 | .field t x f=>mL P t f λo a n=>K (.fld o a n x)
 | .nilCheck x=>K (.nilck x)
 | .makeFunc f _ ⟨cs⟩=>(match f with
  | .func f=>K (.mkf f cs)
  |_=>False)
 | .makeSlice t l c=>gnL P t λe n b=>abo P e λz=>K (.mksl e n b z l c)
 | .panic _=>K .fail
 | .makeInterface _ _=>K .junk
 |_=>False
noncomputable def mi(dr:Bool)(ops:List Oper)(o:Oper)(K:PO->Prop):Prop:=match o with
 |⟨d,op,ty,_,_,g⟩=>td P dr op ty λk=>match g with
  |none=>K ⟨d,none,k⟩
  |some (j,w)=>g_ ops j λq=>match q with
   |⟨e,_,_,_,_,_⟩=>match e with
    |some e=>K ⟨d,some (e,w),k⟩
    |none=>False
noncomputable def s_(l:List Edge):(List Nat->Prop)->Prop:=List.rec (λK=>K []) (λe _ ih K=>match e with
 |⟨i,gd⟩=>match gd with
  | .textOnly _=>ih K
  | .gcOnly _=>ih K
  |_=>ih λt=>K (i::t)) l
noncomputable def acb(c:Code):(List PO->Prop)->Prop:=
 Code.rec (motive:=λ_=>(List PO->Prop)->Prop) (λK=>K [])
  (λ_ ops _=>match ops with|⟨os⟩=>ZA (mi P false os) os)
  (λ_ _ x y K=>x λl=>y λm=>kH l m K)
  (λ_ _ _ _ _ _=>False) (λ_ _ _ _=>False) (λ_ _ _=>False) (λ_ _ _ _ _ _ _=>False) (λ_ _=>False) (λ_ _ _=>False) (λ_ _=>False) (λ_ _=>False) (λ_=>False) (λ_ _=>False) c
noncomputable def tz(c:Code):List Bool->List (List Nat)->(PC->List Bool->List (List Nat)->Prop)->Prop:=
 Code.rec (motive:=λ_=>List Bool->List (List Nat)->(PC->List Bool->List (List Nat)->Prop)->Prop)
  (λb l K=>K .skip b l)
  (λ_ ops dr b l K=>match ops with
    |⟨ops⟩=>ZA (mi P dr ops) ops λos=>match dr with
     |false=>K (.region os) b l
     |true=>ZA (λo K=>match o with|⟨_,_,_,_,⟨es⟩,_⟩=>s_ es K) ops λaf=>match b with
      |true::b=>K (.drawD os af) b l
      |_::b=>K (.draw os af) b l
      |b=>K (.draw os af) b l)
  (λ_ _ x y b l K=>x b l λp b l=>y b l λq b l=>K (.seq p q) b l)
  (λc _ _ x y b l K=>x b l λp b l=>y b l λq b l=>K (.cond c p q) b l)
  (λi _ x b l K=>x b l λp b l=>K (.block i p) b l)
  (λ_ x b l K=>match l with
    |v::l=>x b l λp b l=>K (.loop v p) b l
    |_=>False)
  (λf ps aLq _ _ y b l K=>match ps with
    |⟨ps⟩=>acb P aLq λos=>y b l λp b l=>K (.rangeF f ps os p) b l)
  (λi b l K=>K (.exit i) b l)
  (λ_ _ _ _ _=>False) (λ_ _ _ _=>False) (λ_ _ _ _=>False)
  (λb l K=>K .ret b l)
  (λ_ _ _ _=>False) c
noncomputable def aca(f:Func)(b:List Bool)(l:List (List Nat))(K:PC->Prop):Prop:=match f.body with|some c=>tz P c b l λp _ _=>K p|none=>False
end
end
section
abbrev pI(n:Int):PV:=.int .i64 n
abbrev eN(k:Nat)(n:Int):Nat×AV:=(k,.pv (pI n))
abbrev pB(b:Bool):PV:=.bool b
def ng{n:Nat}{w:Nat}(h:n<2^w):(BitVec.ofInt w (n:Int)).toNat=n:=by
 rw[BitVec.ofInt_natCast,BitVec.toNat_ofNat,zcx h]
def Rm{n:Nat}(h:n<2^62):IntKind.i64.wrap (n:Int)=n:=by
 have:(2:Nat)^62=4611686018427387904:=ao;exact wrap64 ab
def aiF{a b:Nat}(ha:a<2^62)(hb:b<2^62):iz .and .i64 (a:Int) (b:Int)=((a&&&b:Nat):Int):=by
 unfold iz;have h1:a&&&b<2^62:=zbT zcA ha;have e:IntKind.i64.bits=64:=rfl;simp only[e,BitVec.toNat_and];rw[ng (zae ha ao),ng (zae hb ao)];exact Rm h1
def ZV{n:Nat}(h:n<256):IntKind.u8.wrap (n:Int)=n:=by
 have hb:IntKind.u8.bits=8:=rfl;simp only[IntKind.wrap,IntKind.signed,hb];simp;omega
def O7{a k b:Nat}(h:a<2^k):a|||(2^k*b)=a+2^k*b:=by
 rw[zcK,<-zcv h,Nat.add_comm]
def PZ(a k:Nat):a&&&(2^k-1)=a%2^k:=zcs a k
def lV(n:Nat):UInt8:=UInt8.ofNat n
def qd{n:Nat}(h:n<256):(lV n).toNat=n:=by simp[lV];omega
def ue{n:Int}(h:0<=n/\n<256):PV.int .u8 n=aL (lV n.toNat):=by
 unfold aL;rw[qd ab];congr 1;omega
def bu{a b:Int}(h:a=b):pI a=pI b:=by rw[h]
def oH{a b:Bool}(h:a=true↔b=true):pB a=pB b:=by
 cases a<;>cases b<;>simp_all
def dn(l:List Int):∀x∈l.map pI,x.flat:=by
 intro x hx;obtain⟨t,_,rfl⟩:=zaX.1 hx;trivial
def aGn{l:List UInt8}{i:Nat}{K:PV->Prop}(h:i<l.length)(k:∀x,l[i]?=some x->x.toNat<256->K (aL x)):∃y,(0<=(i:Int)/\(l.map aL)[(i:Int).toNat]?=some y)/\K y:=
 ⟨aL l[i],⟨ab,QQ⟩,k _ (zah h) (zcu _)⟩
def aFU{l:List UInt8}{i:Nat}{K:PV->Prop}(h:i<l.length)(k:∀x,l[i]?=some x->x.toNat<256->K (aL x)):∃y,(l.map aL)[(i:Int).toNat]?=some y/\K y:=
 ⟨aL l[i],QQ,k _ (zah h) (zcu _)⟩
def aJm{l:List UInt8}{i:Nat}{K:PV->Prop}(h:i<l.length)(k:∀x,l[i]?=some x->x.toNat<256->K (aL x)):∃y,(l.map aL)[i]?=some y/\K y:=
 ⟨aL l[i],by rw[za9,zah h];rfl,k _ (zah h) (zcu _)⟩
def iY{α:Type}{f:α->PV}{l:List α}{i:Nat}{x:α}{K:PV->Prop}(h:l[i]?=some x)(k:K (f x)):∃y,(0<=(i:Int)/\(l.map f)[(i:Int).toNat]?=some y)/\K y:=
 ⟨f x,⟨ab,by rw[zaC,za9,h];rfl⟩,k⟩
def anF{α:Type}{f:α->PV}{l:List α}{i:Int}{x:α}{K:PV->Prop}(h0:0<=i)(h:l[i.toNat]?=some x)(k:K (f x)):∃y,(0<=i/\(l.map f)[i.toNat]?=some y)/\K y:=
 ⟨f x,⟨h0,by rw[za9,h];rfl⟩,k⟩
def aFA{α:Type}{f:α->PV}{l:List α}{i:Nat}{x:α}{K:PV->Prop}(h:l[i]?=some x)(k:K (f x)):∃y,(l.map f)[i]?=some y/\K y:=
 ⟨f x,by rw[za9,h];rfl,k⟩
def uM{α:Type}{f:α->PV}{l:List α}{i:Nat}{x:α}{K:PV->Prop}(h:l[i]?=some x)(k:K (f x)):∃y,(l.map f)[(i:Int).toNat]?=some y/\K y:=
 ⟨f x,by rw[zaC,za9,h];rfl,k⟩
def aJH{j:IntKind}{n:Int}{K:Int->Prop}(k:∀r,K r):∀r:Int,r=j.wrap n->K r:=λr _=>k r
def mj{p:RV->Prop}(x:RV)(h:p x):∃x,p x:=⟨x,h⟩
def mI{p:List RV->Prop}(x:List RV)(h:p x):∃x,p x:=⟨x,h⟩
def mP{k:Nat}{p:Nat->Prop}(x:Nat)(h:x<k)(g:p x):∃x,x<k/\p x:=⟨x,h,g⟩
def yR{l:List UInt8}{K:List UInt8->Prop}(k:K l):∃l',l.map aL=l'.map aL/\K l':=⟨l,rfl,k⟩
def aJi{K:List UInt8->Prop}(k:K []):∃l':List UInt8,[]=l'.map aL/\K l':=⟨[],rfl,k⟩
def LX{α β:Type}{f:α->β}{a b:Nat}{l:List α}:cut a b (l.map f)=(cut a b l).map f:=by simp[cut]
def aqo{α:Type}{a b i:Nat}{l:List α}(h:a+i<b):(cut a b l)[i]?=l[a+i]?:=by
 unfold cut;rw[List.getElem?_drop,zch h]
def awU{α:Type}{a b:Nat}{l:List α}(h:b<=l.length):(cut a b l).length=b-a:=by simp[cut];omega
def jk{α:Type}{l:List α}{x:α}:x∈l↔∃i:Nat,l[i]?=some x:=List.mem_iff_getElem?
def eT{α:Type}{l:List α}{i:Nat}{x:α}(h:l[i]?=some x):i<l.length:=by
 by_cases hi:i<l.length
 ·exact hi
 ·rw[zaK ab]at h;cases h
def get_inj{α:Type}{l:List α}{i:Nat}{x y:α}(h:l[i]?=some x)(h':l[i]?=some y):x=y:=Option.some.inj (h.symm.trans h')
def as_{α:Type}{f:α->PV}{x:α}{n:Nat}:List.replicate n (f x)=(List.replicate n x).map f:=by rw[zci]
def oU{α β:Type}{f:α->β}{l:List α}{i:Nat}{x:α}:(l.map f).set i (f x)=(l.set i x).map f:=by rw[List.map_set]
def cQ{α:Type}(f:Nat->α)(n:Nat):List α:=(List.range n).map f
section
variable {α:Type} {f g:Nat->α} {n:Nat}
@[simp] theorem ck:(cQ f n).length=n:=by simp[cQ]
def bO{i:Nat}(h:i<n):(cQ f n)[i]?=some (f i):=by simp[cQ,h]
def kT(h:∀i,i<n->f i=g i):cQ f n=cQ g n:=by
 unfold cQ;apply zbC;intro i hi;exact h i (by simpa using hi)
def tg{i:Nat}{x:α}:(cQ f n).set i x=cQ (λj=>if j=i then x else f j) n:=by
 apply zba;intro j;by_cases hj:j<n
 ·rw[bO hj];by_cases h:j=i
  ·subst h;simp[hj]
  ·rw[zct ab,bO hj,if_neg h]
 ·rw[zaK aH,zaK aH]
def Lt:cQ f (n+1)=cQ f n++[f n]:=by simp[cQ,List.range_succ]
def ard{x:α}:List.replicate n x=cQ (λ_=>x) n:=by
 apply zba;intro j;by_cases hj:j<n
 ·rw[bO hj];simp[hj]
 ·rw[zaK aH,zaK aH]
def Vx{F:α->PV}{i:Nat}{K:PV->Prop}(h:i<n)(k:K (F (f i))):∃y,((cQ f n).map F)[i]?=some y/\K y:=⟨_,by rw[za9,bO h];rfl,k⟩
def Ug{F:α->PV}{i:Int}{p:Prop}(h:0<=i/\i<n)(k:p):(0<=i/\i.toNat<((cQ f n).map F).length)/\p:=by
 rw[zaw,ck];exact⟨⟨h.1,ab⟩,k⟩
end
end
end Go.Dv
namespace Go.Dv.Try
open Go Go.Dv Go.Proofs.Tryz Go.Proofs.Tryz
abbrev RL:=List (Nat×Option (Bool×Nat))
def mixed:Go.Proofs.Tryz.prog.follows .mixedOrders=true:=ak
noncomputable abbrev bb:Program:=Go.Proofs.Tryz.prog
structure FC where
 s:List Nat
 r:RL
 c:PC
abbrev MT(Γ:Ctx)(f:FC)(S:Spec):=atQ Γ f.s f.c f.r S
abbrev gO(Γ:Ctx)(f:FC)(S:Spec):=alk Γ f.s f.c f.r S
abbrev CO(n:Nat)(f:FC)(k:Nat):=UA bb n f.c f.s f.r k
set_option maxRecDepth 100000
def aaq(f:Func)(b:List Bool)(l:List (List Nat)){x:PC}(h:aca bb f b l (· =x):=by conv=>whnf):PC:=x
abbrev rf:Nat:=131
abbrev gF:Nat:=297
def si:FC:=⟨[0,1,2,3,4,5,6,7,8,9,10,11,12,13,14,15,16,17,18,19,20,21,22,23],[⟨4,none⟩],aaq f8 [true,false,true,false,true,false,true] [[2,3,5,8,9],[2,3,5,8,9,11,13,14,15]]⟩
def LH:CO 8 si 2:=bk f8 ak
def WC:FC:=⟨[0,1,2,3,4,5,6,8,10],[⟨0,none⟩],aaq f12 [] []⟩
def ahh:CO 12 WC 0:=bk f12 ak
def adK:FC:=⟨[0,1,2,3],[⟨2,none⟩],aaq f13 [] [[1,3]]⟩
def amU:CO 13 adK 1:=bk f13 ak
def MG:FC:=⟨[0,1,2,4,5,6,7],[⟨4,none⟩,⟨5,none⟩],aaq f14 [] []⟩
def aci:CO 14 MG 2:=bk f14 ak
def Zt:FC:=⟨[0,1,2],[⟨2,some (⟨true,3⟩)⟩],aaq f15 [true] []⟩
def aj6:CO 15 Zt 1:=bk f15 ak
def Jy:FC:=⟨[0,1,2,4],[⟨2,none⟩],aaq f16 [] []⟩
def abG:CO 16 Jy 1:=bk f16 ak
def Li:FC:=⟨[0,1,2,4],[⟨4,none⟩],aaq f17 [] []⟩
def acF:CO 17 Li 2:=bk f17 ak
def HY:FC:=⟨[0,1,4,5],[⟨4,none⟩],aaq f18 [] [[0,1,5]]⟩
def V8:CO 18 HY 2:=bk f18 ak
def S0:FC:=⟨[0,1,2,3,4,5,6],[⟨2,none⟩],aaq f19 [] [[3,4,5]]⟩
def ag8:CO 19 S0 1:=bk f19 ak
def E8:FC:=⟨[0,1,2,3,4,5],[⟨2,none⟩,⟨3,none⟩],aaq f20 [] []⟩
def Vm:CO 20 E8 1:=bk f20 ak
def Qb:FC:=⟨[0,1,2,3,4,5,6,7,8,34,35],[⟨2,some (⟨true,4⟩)⟩,⟨3,none⟩],aaq f22 [true] [[2,4,7,34,35]]⟩
def aef:CO 22 Qb 1:=bk f22 ak
def Wv:FC:=⟨[0,1,2,3,4,5,6,7],[⟨2,none⟩,⟨3,none⟩],aaq f23 [true] [[1,6]]⟩
def ahl:CO 23 Wv 1:=bk f23 ak
def Sk:FC:=⟨[0,1,2,3,4,5,6],[⟨2,none⟩],aaq f25 [] [[1,3,4],[1,3,4,5,6]]⟩
def agX:CO 25 Sk 1:=bk f25 ak
def Wq:FC:=⟨[0,1,2,3,4,5,6],[⟨2,some (⟨true,4⟩)⟩],aaq f26 [true,true] [[1,2,3,4],[2,3,5,6]]⟩
def ahg:CO 26 Wq 1:=bk f26 ak
def Nh:FC:=⟨[0,1,2,4,5],[⟨4,some (⟨true,3⟩)⟩,⟨5,none⟩],aaq f27 [] []⟩
def acQ:CO 27 Nh 2:=bk f27 ak
def tN:FC:=⟨[0,1,2,3,4,5,6,7,8,9,11,41,42,43],[⟨4,some (⟨true,3⟩)⟩,⟨5,none⟩],aaq f29 [true] [[4,8,9,41,42,43]]⟩
def ES:CO 29 tN 2:=bk f29 ak
def ab_:FC:=⟨[0,1,2],[⟨2,none⟩],aaq f30 [] []⟩
def ai0:CO 30 ab_ 1:=bk f30 ak
def Lk:FC:=⟨[0,1,2],[⟨2,none⟩],aaq f31 [] []⟩
def acr:CO 31 Lk 1:=bk f31 ak
def xg:FC:=⟨[0,1,2,6],[⟨6,none⟩],aaq f32 [] []⟩
def DQ:CO 32 xg 3:=bk f32 ak
def Bf:FC:=⟨[0,1,2,4,5,6,7,8],[⟨4,some (⟨true,3⟩)⟩,⟨5,none⟩],aaq f33 [true] [[1,2,4,6,7]]⟩
def Gb:CO 33 Bf 2:=bk f33 ak
def Zo:FC:=⟨[0,1,2,3,4],[⟨4,none⟩],aaq f34 [] []⟩
def ajw:CO 34 Zo 2:=bk f34 ak
def Ay:FC:=⟨[0,1,2,3,4,5],[⟨4,none⟩],aaq f36 [] []⟩
def F2:CO 36 Ay 2:=bk f36 ak
def Cz:FC:=⟨[0,1,2,3,4,5,6,7,8],[⟨4,some (⟨true,3⟩)⟩,⟨5,none⟩],aaq f37 [] [[2,3,4,6,7]]⟩
def Gy:CO 37 Cz 2:=bk f37 ak
def P4:FC:=⟨[0,1,2,4,5,6,7,8,9,10],[⟨4,some (⟨true,3⟩)⟩,⟨5,none⟩,⟨6,none⟩],aaq f41 [true] [[1,4,7,8]]⟩
def adV:CO 41 P4 2:=bk f41 ak
def NJ:FC:=⟨[0,1,2,3,4,5,6,7,8,9,10],[⟨4,none⟩,⟨5,none⟩],aaq f42 [true,true,true,true] []⟩
def acv:CO 42 NJ 2:=bk f42 ak
def WI:FC:=⟨[0,1,2,3,4,5,6,7,8,9,10],[⟨4,some (⟨true,3⟩)⟩,⟨5,none⟩],aaq f43 [true,true] []⟩
def ahF:CO 43 WI 2:=bk f43 ak
def ME:FC:=⟨[0,1,2,3,4,5,6,7],[⟨2,none⟩,⟨3,none⟩],aaq f45 [true] [[1,4,5]]⟩
def acH:CO 45 ME 1:=bk f45 ak
def abd:FC:=⟨[0,1,4,5],[⟨4,none⟩],aaq f46 [] [[0,1,5]]⟩
def akr:CO 46 abd 2:=bk f46 ak
def Fj:FC:=⟨[0,1,2,3,4,5,6,7,8,9,10,11,12,13,14,29,41],[⟨4,none⟩,⟨5,none⟩],aaq f47 [false,false,false,true] [[4096,8,11,12]]⟩
def MS:CO 47 Fj 2:=bk f47 ak
def CR:FC:=⟨[0,1,2,3,4,5,6,7],[⟨4,none⟩],aaq f48 [] [[3,5,6,7]]⟩
def Gv:CO 48 CR 2:=bk f48 ak
def J0:FC:=⟨[0,1,2,3,4,5,6,7],[⟨4,none⟩],aaq f49 [] [[3,5,6,7]]⟩
def NL:CO 49 J0 2:=bk f49 ak
def JQ:FC:=⟨[0,1,2,3,4,5,6,7],[⟨4,none⟩],aaq f50 [] [[2,3,5]]⟩
def NP:CO 50 JQ 2:=bk f50 ak
def Mc:FC:=⟨[0,1,2,4,5,7,8,9,10,11],[⟨4,none⟩],aaq f51 [true] []⟩
def Qj:CO 51 Mc 2:=bk f51 ak
def abI:FC:=⟨[0,1,2,3,4,5],[⟨2,none⟩],aaq f53 [] [[1,3,4],[1,3,4,5]]⟩
def aj2:CO 53 abI 1:=bk f53 ak
def yk:FC:=⟨[0,1,2],[⟨2,some (⟨true,11⟩)⟩],aaq f55 [] []⟩
def Jn:CO 55 yk 1:=bk f55 ak
def S2:FC:=⟨[0,1,2],[⟨0,some (⟨true,3⟩)⟩],aaq f62 [true] []⟩
def afS:CO 62 S2 0:=bk f62 ak
def Iu:FC:=⟨[0,1,2,4,5,6,7],[⟨4,some (⟨true,3⟩)⟩,⟨5,none⟩],aaq f63 [true] []⟩
def Mu:CO 63 Iu 2:=bk f63 ak
def AT:FC:=⟨[0,1,2,4,5,7,8,15,16,17],[⟨4,none⟩],aaq f64 [] [[5,15,16,17]]⟩
def QO:CO 64 AT 2:=bk f64 ak
def Al:FC:=⟨[0,2,3,4],[⟨2,none⟩],aaq f65 [] [[0,3,4]]⟩
def QD:CO 65 Al 1:=bk f65 ak
def Xg:FC:=⟨[0,2,4,5,6,7],[⟨2,none⟩],aaq f66 [] [[5,6,7]]⟩
def ahj:CO 66 Xg 1:=bk f66 ak
def Bm:FC:=⟨[0,1,2],[⟨2,none⟩],aaq f67 [] []⟩
def Pw:CO 67 Bm 1:=bk f67 ak
def Tg:FC:=⟨[0,1,4],[⟨4,none⟩],aaq f68 [] []⟩
def agB:CO 68 Tg 2:=bk f68 ak
def aay:FC:=⟨[0,1,2,3,4,5,11,12],[⟨2,none⟩],aaq f69 [] [[1,3,11,12]]⟩
def aj1:CO 69 aay 1:=bk f69 ak
def eA:FC:=⟨[0,1,4,5,6,7,8,9,10,11],[⟨4,none⟩,⟨5,none⟩],aaq f70 [] [[1,9,10,11]]⟩
def wI:CO 70 eA 2:=bk f70 ak
def y0:FC:=⟨[0,1,2,3,5,6,7],[⟨6,none⟩],aaq f71 [] []⟩
def OH:CO 71 y0 4:=bk f71 ak
def xD:FC:=⟨[0,1,2,3,4,6],[⟨4,none⟩],aaq f72 [] []⟩
def Kp:CO 72 xD 2:=bk f72 ak
def WN:FC:=⟨[0,1,2,4,6,8,9,11,12,13],[⟨6,none⟩],aaq f73 [] [[0,2,11,12,13],[0,2,8,9,11,12,13]]⟩
def ahn:CO 73 WN 3:=bk f73 ak
def acd:FC:=⟨[0,1,2,3,5],[⟨2,some (⟨true,3⟩)⟩,⟨3,none⟩],aaq f74 [] []⟩
def ajc:CO 74 acd 1:=bk f74 ak
def AU:FC:=⟨[0,1,2,3,4,5,12,13,14],[⟨2,none⟩],aaq f75 [] [[3,12,13,14]]⟩
def Q5:CO 75 AU 1:=bk f75 ak
def Ey:FC:=⟨[0,1,2,4,5,6,7,8,10,11,12],[⟨4,none⟩],aaq f76 [] [[1,5,10,11,12]]⟩
def VX:CO 76 Ey 2:=bk f76 ak
def NU:FC:=⟨[2],[⟨2,none⟩],aaq f77 [] []⟩
def acz:CO 77 NU 1:=bk f77 ak
def adB:FC:=⟨[0,2,3,5,6,7,8],[⟨2,none⟩],aaq f78 [] [[3,6,7,8]]⟩
def anc:CO 78 adB 1:=bk f78 ak
def dy:FC:=⟨[0,1,4,5,6],[⟨4,some (⟨true,2⟩)⟩],aaq f79 [] [[0,1,4,5,6]]⟩
def mC:CO 79 dy 2:=bk f79 ak
def Mp:FC:=⟨[0,1,2,3,4],[⟨4,none⟩],aaq f80 [] []⟩
def acw:CO 80 Mp 2:=bk f80 ak
def WJ:FC:=⟨[0,2,3,4,5,6],[⟨2,none⟩],aaq f81 [] [[0,3,4],[0,3,4,5,6]]⟩
def ahe:CO 81 WJ 1:=bk f81 ak
def Sr:FC:=⟨[0,1,2,4],[⟨4,none⟩],aaq f82 [] []⟩
def agI:CO 82 Sr 2:=bk f82 ak
def ZL:FC:=⟨[0,1,4,5],[⟨4,none⟩],aaq f83 [] [[0,1,5]]⟩
def alj:CO 83 ZL 2:=bk f83 ak
def Z3:FC:=⟨[0,1,2,3,4,5],[⟨2,none⟩],aaq f84 [] [[1,3,4]]⟩
def akE:CO 84 Z3 1:=bk f84 ak
def PF:FC:=⟨[0,1,2,3,4,8,9,10,11,12,13],[⟨8,some (⟨true,3⟩)⟩,⟨9,none⟩],aaq f85 [] []⟩
def adZ:CO 85 PF 4:=bk f85 ak
def LB:FC:=⟨[0,1,2],[⟨2,none⟩],aaq f86 [] []⟩
def acy:CO 86 LB 1:=bk f86 ak
def Ar:FC:=⟨[0,1,2,3,4,5,6,7],[⟨4,some (⟨true,3⟩)⟩,⟨5,none⟩],aaq f87 [true] []⟩
def FU:CO 87 Ar 2:=bk f87 ak
def nT:FC:=⟨[0,1,4],[⟨4,none⟩],aaq f88 [] []⟩
def ya:CO 88 nT 2:=bk f88 ak
def gN:FC:=⟨[0,2],[⟨2,none⟩],aaq f89 [] []⟩
def CP:CO 89 gN 1:=bk f89 ak
def H_:FC:=⟨[0,1,2,3,4,5,14,15,16],[⟨2,some (⟨true,3⟩)⟩],aaq f90 [true] [[2,3,14,15,16]]⟩
def Xz:CO 90 H_ 1:=bk f90 ak
def kA:FC:=⟨[0,1,3],[⟨3,none⟩],aaq f91 [] []⟩
def C9:CO 91 kA 2:=bk f91 ak
def Q8:FC:=⟨[0,1,2,6],[⟨6,none⟩],aaq f92 [] []⟩
def af0:CO 92 Q8 3:=bk f92 ak
def PL:FC:=⟨[0,1,2,6,7],[⟨6,none⟩,⟨7,none⟩],aaq f93 [] []⟩
def ad7:CO 93 PL 3:=bk f93 ak
def vf:FC:=⟨[0,1,2,3,4],[⟨2,none⟩],aaq f94 [] [[1,3,4]]⟩
def Dn:CO 94 vf 1:=bk f94 ak
def rV:FC:=⟨[0,2,3,4,5,6],[⟨2,none⟩],aaq f95 [] [[0,3,4],[0,3,4,5,6]]⟩
def Gc:CO 95 rV 1:=bk f95 ak
def AS:FC:=⟨[0,1,4,5],[⟨4,none⟩],aaq f96 [] [[0,1,5]]⟩
def Qn:CO 96 AS 2:=bk f96 ak
def Ha:FC:=⟨[0,2],[⟨2,none⟩],aaq f97 [] []⟩
def Qc:CO 97 Ha 1:=bk f97 ak
def Cb:FC:=⟨[0,1,2,3,4,5,6,7,8],[⟨4,some (⟨true,3⟩)⟩,⟨5,none⟩],aaq f99 [true] []⟩
def Ri:CO 99 Cb 2:=bk f99 ak
def D3:FC:=⟨[0,1,2,3,4,5,7,8,9],[⟨8,some (⟨true,3⟩)⟩],aaq f100 [true] []⟩
def VD:CO 100 D3 4:=bk f100 ak
def JW:FC:=⟨[0,1,2,3,4,5,7,8,9,10,11,12,13,14,15,16,17,61,62],[⟨8,some (⟨true,2⟩)⟩,⟨9,some (⟨true,11⟩)⟩,⟨10,none⟩],aaq f101 [true,true] [[2,5,7,8,9,11,14,15,61,62]]⟩
def ZH:CO 101 JW 4:=bk f101 ak
def BN:FC:=⟨[0,1,2,3,4,5,6,7],[⟨4,none⟩,⟨5,none⟩],aaq f102 [] []⟩
def Pe:CO 102 BN 2:=bk f102 ak
def Dm:FC:=⟨[0,1,3],[⟨3,none⟩],aaq f103 [] []⟩
def SK:CO 103 Dm 2:=bk f103 ak
def ku:FC:=⟨[0,1,2,3,4],[⟨4,none⟩],aaq f104 [] []⟩
def Ky:CO 104 ku 2:=bk f104 ak
def bW:FC:=⟨[0,1,3,4,5,7,8],[⟨4,none⟩],aaq f105 [] [[0,3,7,8]]⟩
def eX:CO 105 bW 2:=bk f105 ak
def ru:FC:=⟨[0,1,2,4,5,8],[⟨4,none⟩,⟨5,none⟩],aaq f106 [] []⟩
def LW:CO 106 ru 2:=bk f106 ak
def CJ:FC:=⟨[0,2],[⟨2,none⟩],aaq f107 [] []⟩
def UO:CO 107 CJ 1:=bk f107 ak
def JS:FC:=⟨[0,2,4,5,6,7],[⟨2,none⟩],aaq f111 [] [[5,6,7]]⟩
def agP:CO 111 JS 1:=bk f111 ak
def qn:FC:=⟨[0,1,2,3],[⟨2,none⟩],aaq f112 [] []⟩
def Bp:CO 112 qn 1:=bk f112 ak
def Ij:FC:=⟨[0,1,4],[⟨4,none⟩],aaq f113 [] []⟩
def VM:CO 113 Ij 2:=bk f113 ak
def DC:FC:=⟨[0,2,3,5,6,7,8,9,14,15],[⟨2,none⟩],aaq f114 [] [[3,7,8,9],[3,5,7,8,9,14,15]]⟩
def QY:CO 114 DC 1:=bk f114 ak
def HV:FC:=⟨[0,2],[⟨2,none⟩],aaq f115 [] []⟩
def VF:CO 115 HV 1:=bk f115 ak
def Ih:FC:=⟨[0,2],[⟨2,none⟩],aaq f116 [] []⟩
def VZ:CO 116 Ih 1:=bk f116 ak
def zy:FC:=⟨[0,1,2],[⟨2,none⟩],aaq f124 [] []⟩
def MV:CO 124 zy 1:=bk f124 ak
def xX:FC:=⟨[0,1,4,5],[⟨4,none⟩],aaq f125 [] []⟩
def JV:CO 125 xX 2:=bk f125 ak
def Lm:FC:=⟨[0,1,2,6,7,8,9],[⟨6,none⟩,⟨7,none⟩],aaq f126 [] []⟩
def X7:CO 126 Lm 3:=bk f126 ak
def Of:FC:=⟨[0,1,2,3,4,5,6,7,8,9],[⟨4,none⟩,⟨5,none⟩],aaq f127 [false,true] []⟩
def acu:CO 127 Of 2:=bk f127 ak
def DA:FC:=⟨[0,1,4,5,6],[⟨4,none⟩],aaq f128 [] []⟩
def Q_:CO 128 DA 2:=bk f128 ak
def QI:FC:=⟨[0,2],[⟨2,none⟩],aaq f129 [] []⟩
def ag5:CO 129 QI 1:=bk f129 ak
def Ml:FC:=⟨[0,1,2,6,7,8,9,10,11,29,30],[⟨6,none⟩,⟨7,none⟩],aaq f130 [] [[2,8,10,29,30]]⟩
def ac7:CO 130 Ml 3:=bk f130 ak
def CQ:FC:=⟨[0,1,2,3,4,5],[⟨4,none⟩],aaq f132 [] []⟩
def Hm:CO 132 CQ 2:=bk f132 ak
def qE:FC:=⟨[0,1,4,5,7,8],[⟨4,none⟩],aaq f133 [] [[0,1,7,8]]⟩
def Cq:CO 133 qE 2:=bk f133 ak
def dc:FC:=⟨[0,2],[⟨2,none⟩],aaq f134 [] []⟩
def iH:CO 134 dc 1:=bk f134 ak
def eu:FC:=⟨[0,2],[⟨2,none⟩],aaq f135 [] []⟩
def jS:CO 135 eu 1:=bk f135 ak
def Ld:FC:=⟨[0,1,2,3,8,9,10,11],[⟨8,none⟩,⟨9,none⟩],aaq f136 [] []⟩
def acn:CO 136 Ld 4:=bk f136 ak
def Ma:FC:=⟨[0,1,4,5,6],[⟨4,none⟩],aaq f137 [] [[0,1,5,6]]⟩
def CX:CO 137 Ma 2:=bk f137 ak
def x5:FC:=⟨[0,1,2,3,4],[⟨4,none⟩],aaq f138 [] []⟩
def JT:CO 138 x5 2:=bk f138 ak
def JB:FC:=⟨[0,1,2,4,5,6,7,8],[⟨4,some (⟨true,3⟩)⟩,⟨5,none⟩,⟨6,none⟩],aaq f139 [] []⟩
def aaZ:CO 139 JB 2:=bk f139 ak
def tx:FC:=⟨[0,1,2,5,6,7,8,9,10],[⟨6,none⟩],aaq f140 [false,true] []⟩
def EH:CO 140 tx 3:=bk f140 ak
def H9:FC:=⟨[0,1,2,6,7,8,9],[⟨6,none⟩,⟨7,none⟩],aaq f141 [] []⟩
def VE:CO 141 H9 3:=bk f141 ak
def Lf:FC:=⟨[0,1,2,3,4,5,6,10,11],[⟨2,none⟩],aaq f142 [] [[1,3,4,10,11]]⟩
def Zs:CO 142 Lf 1:=bk f142 ak
def tP:FC:=⟨[0,1,4],[⟨4,none⟩],aaq f143 [] []⟩
def Fk:CO 143 tP 2:=bk f143 ak
def J_:FC:=⟨[0,2,3,5,6,7,16,17,18],[⟨2,none⟩],aaq f144 [] [[5,16,17,18]]⟩
def aa6:CO 144 J_ 1:=bk f144 ak
def tB:FC:=⟨[0,2,3,5,6,9,23,24,25,46,47,48],[⟨2,none⟩],aaq f145 [] [[0,3,23,24,25],[0,3,46,47,48]]⟩
def Fx:CO 145 tB 1:=bk f145 ak
def DG:FC:=⟨[0,2,4,5,6,7],[⟨2,none⟩],aaq f148 [] [[5,6,7]]⟩
def QM:CO 148 DG 1:=bk f148 ak
def AX:FC:=⟨[0,1,4],[⟨4,none⟩],aaq f149 [] []⟩
def OP:CO 149 AX 2:=bk f149 ak
def BQ:FC:=⟨[0,2,4],[⟨2,none⟩],aaq f150 [] []⟩
def O8:CO 150 BQ 1:=bk f150 ak
def zB:FC:=⟨[0,2],[⟨2,none⟩],aaq f151 [] []⟩
def MX:CO 151 zB 1:=bk f151 ak
def Cr:FC:=⟨[0,1,2,6],[⟨6,none⟩],aaq f152 [] []⟩
def OM:CO 152 Cr 3:=bk f152 ak
def tl:FC:=⟨[0,1,2,3],[⟨2,none⟩],aaq f153 [] []⟩
def EF:CO 153 tl 1:=bk f153 ak
def xW:FC:=⟨[0,1,2,3,5,6,7,8],[⟨2,none⟩],aaq f154 [true] []⟩
def KZ:CO 154 xW 1:=bk f154 ak
def zr:FC:=⟨[0,1,2,3,4,5,6],[⟨2,none⟩],aaq f155 [false,true] []⟩
def MZ:CO 155 zr 1:=bk f155 ak
def HS:FC:=⟨[0,1,4],[⟨4,none⟩],aaq f157 [] []⟩
def WH:CO 157 HS 2:=bk f157 ak
def KU:FC:=⟨[0,2],[⟨2,none⟩],aaq f165 [] []⟩
def Zn:CO 165 KU 1:=bk f165 ak
def ze:FC:=⟨[0,1,2,6],[⟨6,none⟩],aaq f170 [] []⟩
def Iz:CO 170 ze 3:=bk f170 ak
def Oc:FC:=⟨[0,2],[⟨2,none⟩],aaq f171 [] []⟩
def acL:CO 171 Oc 1:=bk f171 ak
def Ig:FC:=⟨[0,1,4],[⟨4,none⟩],aaq f172 [] []⟩
def Vz:CO 172 Ig 2:=bk f172 ak
def NM:FC:=⟨[0,1,4,5],[⟨4,some (⟨true,2⟩)⟩,⟨5,none⟩],aaq f173 [] []⟩
def acs:CO 173 NM 2:=bk f173 ak
def Bv:FC:=⟨[0,2,4,5,6,7],[⟨2,none⟩],aaq f174 [] [[5,6,7]]⟩
def Yw:CO 174 Bv 1:=bk f174 ak
def AR:FC:=⟨[0,1,2,4],[⟨4,none⟩],aaq f175 [] []⟩
def Pr:CO 175 AR 2:=bk f175 ak
def B3:FC:=⟨[0,1,2,3,4],[⟨2,none⟩],aaq f176 [] []⟩
def OK:CO 176 B3 1:=bk f176 ak
def rq:FC:=⟨[0,2,3,5,6,22,23,24],[⟨2,none⟩],aaq f177 [] [[0,3,22,23,24]]⟩
def CD:CO 177 rq 1:=bk f177 ak
def gz:FC:=⟨[0,2,3,5,6,71,72,73],[⟨2,none⟩],aaq f178 [] [[3,71,72,73]]⟩
def Ei:CO 178 gz 1:=bk f178 ak
def oS:FC:=⟨[0,2],[⟨2,none⟩],aaq f179 [] []⟩
def yF:CO 179 oS 1:=bk f179 ak
def sm:FC:=⟨[0,2,3,4,5,6,7,8,10,11,12],[⟨2,none⟩],aaq f180 [] [[0,10,11,12]]⟩
def DR:CO 180 sm 1:=bk f180 ak
def HZ:FC:=⟨[0,2],[⟨2,none⟩],aaq f181 [] []⟩
def VK:CO 181 HZ 1:=bk f181 ak
def Jz:FC:=⟨[0,2,3],[⟨2,some (⟨true,2⟩)⟩,⟨3,none⟩],aaq f182 [] []⟩
def ZZ:CO 182 Jz 1:=bk f182 ak
def Fp:FC:=⟨[0,1,2,3,6],[],aaq f183 [] []⟩
def VC:CO 183 Fp 3:=bk f183 ak
def Fv:FC:=⟨[0,1,2,3,6,7,9,10,17,18,19,24,25],[⟨6,none⟩],aaq f190 [] [[2,3,17,18,19],[2,3,9,17,18,19,24,25]]⟩
def Wf:CO 190 Fv 3:=bk f190 ak
def jR:FC:=⟨[0,1,4,5,6,7,8,9,10,11],[⟨4,none⟩,⟨5,none⟩],aaq f191 [] [[1,9,10,11]]⟩
def wV:CO 191 jR 2:=bk f191 ak
def Br:FC:=⟨[1,2,4,5],[⟨5,none⟩],aaq f192 [] []⟩
def Sm:CO 192 Br 3:=bk f192 ak
def Ic:FC:=⟨[0,1,2,6],[⟨6,none⟩],aaq f193 [] []⟩
def VT:CO 193 Ic 3:=bk f193 ak
def NQ:FC:=⟨[0,2,3,5,6,7,8],[⟨2,none⟩],aaq f194 [] [[3,6,7,8]]⟩
def acJ:CO 194 NQ 1:=bk f194 ak
def jO:FC:=⟨[0,1,4],[⟨4,none⟩],aaq f195 [] []⟩
def Ac:CO 195 jO 2:=bk f195 ak
def J3:FC:=⟨[0,2,4,6,7,8,9],[⟨2,none⟩],aaq f196 [] [[7,8,9]]⟩
def aaM:CO 196 J3 1:=bk f196 ak
def NI:FC:=⟨[0,2,3,5,6,7,8],[⟨2,none⟩],aaq f197 [] [[3,6,7,8]]⟩
def ac8:CO 197 NI 1:=bk f197 ak
def EL:FC:=⟨[0,1,2,3,8],[⟨8,none⟩],aaq f198 [] []⟩
def Ud:CO 198 EL 4:=bk f198 ak
def U_:FC:=⟨[0,2,3,4,6,7,8,9],[⟨2,none⟩,⟨3,none⟩],aaq f199 [] [[4,7,8,9]]⟩
def aiQ:CO 199 U_ 1:=bk f199 ak
def Va:FC:=⟨[0,1,2,6,7,9,10,11,12,13,14,15],[⟨6,none⟩],aaq f200 [] [[1,2,7,13,14,15]]⟩
def ail:CO 200 Va 3:=bk f200 ak
def Ch:FC:=⟨[0,2,3,4,5],[⟨2,none⟩,⟨3,none⟩],aaq f201 [] []⟩
def Pg:CO 201 Ch 1:=bk f201 ak
def vW:FC:=⟨[0,2],[⟨2,none⟩],aaq f202 [] []⟩
def IL:CO 202 vW 1:=bk f202 ak
def wb:FC:=⟨[0,2,3,4,5,6,7,8,9,20],[⟨2,none⟩,⟨3,none⟩],aaq f203 [] []⟩
def J6:CO 203 wb 1:=bk f203 ak
def va:FC:=⟨[0,1,4,5,7,8,9,10],[⟨4,none⟩],aaq f204 [] [[0,5,8,9,10]]⟩
def HP:CO 204 va 2:=bk f204 ak
def lx:FC:=⟨[0,1,4],[⟨4,none⟩],aaq f205 [] []⟩
def IS:CO 205 lx 2:=bk f205 ak
def C7:FC:=⟨[0,2],[⟨2,none⟩],aaq f207 [] []⟩
def Sg:CO 207 C7 1:=bk f207 ak
def FW:FC:=⟨[0,2,3,4,5,6,7,11,12,13],[⟨2,none⟩,⟨3,none⟩],aaq f208 [] [[0,4,11,12,13]]⟩
def TO:CO 208 FW 1:=bk f208 ak
def xQ:FC:=⟨[0,1,2,3,5,7,8,9],[⟨2,none⟩],aaq f209 [] [[3,7,8,9]]⟩
def Js:CO 209 xQ 1:=bk f209 ak
def C5:FC:=⟨[0,2,3,4,5,6,8,9,10,17,18,19],[⟨2,none⟩,⟨3,none⟩],aaq f210 [] [[5,6,17,18,19]]⟩
def QA:CO 210 C5 1:=bk f210 ak
def Fl:FC:=⟨[0,2],[⟨2,none⟩],aaq f211 [] []⟩
def TG:CO 211 Fl 1:=bk f211 ak
def zo:FC:=⟨[0,2],[⟨2,none⟩],aaq f212 [] []⟩
def MJ:CO 212 zo 1:=bk f212 ak
def yG:FC:=⟨[0,1,2,3,8,9,10],[],aaq f213 [] [[0,1,3,9,10]]⟩
def Wz:CO 213 yG 4:=bk f213 ak
def oI:FC:=⟨[0,1,3],[⟨3,none⟩],aaq f217 [] []⟩
def yM:CO 217 oI 2:=bk f217 ak
def H8:FC:=⟨[0,1,4],[⟨4,none⟩],aaq f218 [] []⟩
def WM:CO 218 H8 2:=bk f218 ak
def u7:FC:=⟨[0,1,4,5,7,8],[⟨4,none⟩],aaq f219 [] [[0,1,7,8]]⟩
def GF:CO 219 u7 2:=bk f219 ak
def eS:FC:=⟨[0,2],[⟨2,none⟩],aaq f220 [] []⟩
def Eh:CO 220 eS 1:=bk f220 ak
def yT:FC:=⟨[0,1,2,4,5,7,8,9,16,17,18,52,53],[⟨4,none⟩],aaq f226 [] [[2,5,16,17,18],[2,5,8,16,17,18,52,53]]⟩
def Ni:CO 226 yT 2:=bk f226 ak
def sr:FC:=⟨[0,1,4,5,7,8],[⟨4,none⟩],aaq f227 [] [[0,1,7,8]]⟩
def DK:CO 227 sr 2:=bk f227 ak
def RZ:FC:=⟨[0,2,4,5,6,7],[⟨2,none⟩],aaq f228 [] [[5,6,7]]⟩
def afb:CO 228 RZ 1:=bk f228 ak
def N_:FC:=⟨[0,1,4],[⟨4,none⟩],aaq f229 [] []⟩
def ac9:CO 229 N_ 2:=bk f229 ak
def N2:FC:=⟨[0,1,2,6],[⟨6,none⟩],aaq f230 [] []⟩
def acA:CO 230 N2 3:=bk f230 ak
def BA:FC:=⟨[0,1,5,6,7,8],[],aaq f231 [] [[0,6,7,8]]⟩
def Pu:CO 231 BA 2:=bk f231 ak
def EG:FC:=⟨[0,2,3,4,5,7,8,12,13,14],[⟨2,none⟩,⟨3,none⟩],aaq f232 [] [[0,4,5,12,13,14]]⟩
def SW:CO 232 EG 1:=bk f232 ak
def N4:FC:=⟨[0,1,2],[⟨2,none⟩],aaq f233 [] []⟩
def acP:CO 233 N4 1:=bk f233 ak
def x8:FC:=⟨[0,2],[⟨2,none⟩],aaq f234 [] []⟩
def Km:CO 234 x8 1:=bk f234 ak
def uE:FC:=⟨[0,1,2,3,4],[⟨4,none⟩],aaq f235 [] []⟩
def Hi:CO 235 uE 2:=bk f235 ak
def Ev:FC:=⟨[0,2],[⟨2,none⟩],aaq f236 [] []⟩
def TY:CO 236 Ev 1:=bk f236 ak
def C6:FC:=⟨[0,1,4,5,6,7,8,9,10,11],[⟨4,none⟩,⟨5,none⟩,⟨6,none⟩],aaq f237 [] []⟩
def RH:CO 237 C6 2:=bk f237 ak
def Fm:FC:=⟨[0,2,4,5,6,7],[⟨2,none⟩],aaq f238 [] [[5,6,7]]⟩
def Tz:CO 238 Fm 1:=bk f238 ak
def Dw:FC:=⟨[0,1,4],[⟨4,none⟩],aaq f239 [] []⟩
def Rh:CO 239 Dw 2:=bk f239 ak
def Ds:FC:=⟨[0,2,3,4,5,6,7,8,9,10,11,13,22],[⟨2,none⟩,⟨3,none⟩],aaq f240 [] [[0,4,5],[0,4,5,6,22]]⟩
def QZ:CO 240 Ds 1:=bk f240 ak
def zI:FC:=⟨[0,2,3,5,6,7,8,22,23],[⟨2,none⟩],aaq f241 [] [[3,6,7,8],[3,5,6,7,8,22,23]]⟩
def M3:CO 241 zI 1:=bk f241 ak
def zx:FC:=⟨[0,2],[⟨2,none⟩],aaq f242 [] []⟩
def MR:CO 242 zx 1:=bk f242 ak
def N6:FC:=⟨[0,2,4,5,6,7],[⟨2,none⟩],aaq f243 [] [[5,6,7]]⟩
def adw:CO 243 N6 1:=bk f243 ak
def LJ:FC:=⟨[0,1,4],[⟨4,none⟩],aaq f244 [] []⟩
def ZC:CO 244 LJ 2:=bk f244 ak
def H3:FC:=⟨[0,2],[⟨2,none⟩],aaq f245 [] []⟩
def V3:CO 245 H3 1:=bk f245 ak
def HT:FC:=⟨[0,1,2],[⟨2,none⟩],aaq f246 [] []⟩
def Wh:CO 246 HT 1:=bk f246 ak
def Sf:FC:=⟨[0,1,2,3,4],[⟨4,none⟩],aaq f247 [] []⟩
def agd:CO 247 Sf 2:=bk f247 ak
def Gi:FC:=⟨[0,1,3,4,5,6],[⟨4,none⟩],aaq f248 [] [[0,3,5,6]]⟩
def Th:CO 248 Gi 2:=bk f248 ak
def NN:FC:=⟨[0,2,3],[⟨2,none⟩],aaq f249 [] [[0,3]]⟩
def acK:CO 249 NN 1:=bk f249 ak
def Od:FC:=⟨[0,1,4,5,6,7],[⟨4,none⟩],aaq f250 [] [[0,5,6,7]]⟩
def adl:CO 250 Od 2:=bk f250 ak
def Ie:FC:=⟨[0,1,3,4],[],aaq f256 [false,false,true] []⟩
def Wn:CO 256 Ie 2:=bk f256 ak
def qj:FC:=⟨[0,1,2,4,5,6],[⟨4,none⟩],aaq f257 [] []⟩
def Bs:CO 257 qj 2:=bk f257 ak
def Db:FC:=⟨[0,2],[⟨2,none⟩],aaq f259 [] []⟩
def Si:CO 259 Db 1:=bk f259 ak
def FA:FC:=⟨[0,2],[⟨2,none⟩],aaq f260 [] []⟩
def Ul:CO 260 FA 1:=bk f260 ak
def Ia:FC:=⟨[0,1,2],[⟨2,none⟩],aaq f261 [] []⟩
def WK:CO 261 Ia 1:=bk f261 ak
def vo:FC:=⟨[0,2,3,4,5,6,7,11,12,13],[⟨2,none⟩,⟨3,none⟩],aaq f262 [] [[4,11,12,13]]⟩
def GU:CO 262 vo 1:=bk f262 ak
def DH:FC:=⟨[0,1,2],[⟨2,none⟩],aaq f263 [] []⟩
def My:CO 263 DH 1:=bk f263 ak
def FX:FC:=⟨[0,1,3,4],[⟨4,none⟩],aaq f264 [] []⟩
def S9:CO 264 FX 2:=bk f264 ak
def zt:FC:=⟨[0,2],[⟨2,none⟩],aaq f265 [] []⟩
def Nk:CO 265 zt 1:=bk f265 ak
def zT:FC:=⟨[0,1,4],[⟨4,none⟩],aaq f266 [] []⟩
def MN:CO 266 zT 2:=bk f266 ak
def Ip:FC:=⟨[0,2],[⟨2,none⟩],aaq f276 [] []⟩
def Wl:CO 276 Ip 1:=bk f276 ak
def zO:FC:=⟨[0,1,2,4,5,6],[⟨4,none⟩],aaq f277 [] []⟩
def MA:CO 277 zO 2:=bk f277 ak
def mr:FC:=⟨[0,1,4],[⟨4,none⟩],aaq f278 [] []⟩
def vI:CO 278 mr 2:=bk f278 ak
def zJ:FC:=⟨[0,1,3],[⟨3,none⟩],aaq f279 [] []⟩
def M6:CO 279 zJ 2:=bk f279 ak
def zR:FC:=⟨[0,1,4],[⟨4,none⟩],aaq f280 [] []⟩
def MC:CO 280 zR 2:=bk f280 ak
def lG:FC:=⟨[0,1,4],[⟨4,none⟩],aaq f281 [] []⟩
def uY:CO 281 lG 2:=bk f281 ak
def De:FC:=⟨[0,2],[⟨2,none⟩],aaq f293 [] []⟩
def Qi:CO 293 De 1:=bk f293 ak
def CZ:FC:=⟨[0,1,2,6],[⟨6,none⟩],aaq f294 [] []⟩
def Q7:CO 294 CZ 3:=bk f294 ak
def Co:FC:=⟨[0,2],[⟨2,none⟩],aaq f295 [] []⟩
def Ov:CO 295 Co 1:=bk f295 ak
def oO:FC:=⟨[0,1,4,5,7,8],[⟨4,none⟩],aaq f296 [] [[0,1,7,8]]⟩
def zj:CO 296 oO 2:=bk f296 ak
end Go.Dv.Try
namespace Go.Dv.Try
open Go Go.Dv
def Qh(n:Nat):Nat:=if n=0 then 0 else Nat.log2 n+1
def Qk{n k:Nat}:Qh n<=k↔n<2^k:=by
 unfold Qh;split
 ·rename_i h;subst h;simp[zcB]
 ·rename_i h;rw[Nat.succ_le_iff];exact Nat.log2_lt h
def dh(a:Nat):Nat:=max 4 (Qh (a-1))
def pY(a:Int):Int:=(dh a.toNat:Int)
def KK(a:Nat):Nat:=2^(16-dh a)+2
def zE(a:Int):Int:=(KK a.toNat:Int)
def lC{a:Nat}(h:a<=4096):dh a<=12:=by
 unfold dh;rw[Nat.max_le];exact⟨ab,Qk.2 ab⟩
def wJ(a:Nat):4<=dh a:=Nat.le_max_left ..
def Hk{a:Int}(h:a<=4096):4<=pY a/\pY a<=12:=by
 have:=lC (a:=a.toNat) ab;have:=wJ a.toNat;unfold pY;omega
def UQ{a:Int}(h:a<=4096):18<=zE a/\zE a<=4098:=by
 have h1:=lC (a:=a.toNat) ab;have h2:=wJ a.toNat;unfold zE KK;have h3:2^4<=2^(16-dh a.toNat):=zce ab ab;have h4:2^(16-dh a.toNat)<=2^12:=zce ab ab;omega
structure cI where
 d:Int
 l:Int
 b:Int
deriving DecidableEq
def cI.pv(t:cI):PV:=.agg [pI t.d,pI t.l,pI t.b]
def cI.copy(t:cI):Bool:=decide (t.d≠0)
def cI.made(t:cI):Int:=if t.d≠0 then t.l else 1
def bu{a b:Int}(h:a=b):pI a=pI b:=by rw[h]
def oH{a b:Bool}(h:a=true↔b=true):pB a=pB b:=by
 cases a<;>cases b<;>simp_all
def Pn(n:Int):IntKind.u8.wrap n=n%256:=by
 have hb:IntKind.u8.bits=8:=rfl;simp only[IntKind.wrap,IntKind.signed,hb];simp
def awV{n:Int}(h:0<=n/\n<18446744073709551616):IntKind.u64.wrap n=n:=by
 have hb:IntKind.u64.bits=64:=rfl;simp only[IntKind.wrap,IntKind.signed,hb];have:(2:Int)^64=18446744073709551616:=ao
 simp_all
 omega
def jj(ps:List PV)(x:PV):Prop:=∃n:Int,ps=[.int .u64 n]/\(0<=n/\n<=65535)/\x=pI (Qh n.toNat)
def at4:List UInt8:=[0,1,2,2,3,3,3,3,4,4,4,4,4,4,4,4,5,5,5,5,5,5,5,5,5,5,5,5,5,5,5,5,6,6,6,6,6,6,6,6,6,6,6,6,6,6,6,6,6,6,6,6,6,6,6,6,6,6,6,6,6,6,6,6,7,7,7,7,7,7,7,7,7,7,7,7,7,7,7,7,7,7,7,7,7,7,7,7,7,7,7,7,7,7,7,7,7,7,7,7,7,7,7,7,7,7,7,7,7,7,7,7,7,7,7,7,7,7,7,7,7,7,7,7,7,7,7,7,8,8,8,8,8,8,8,8,8,8,8,8,8,8,8,8,8,8,8,8,8,8,8,8,8,8,8,8,8,8,8,8,8,8,8,8,8,8,8,8,8,8,8,8,8,8,8,8,8,8,8,8,8,8,8,8,8,8,8,8,8,8,8,8,8,8,8,8,8,8,8,8,8,8,8,8,8,8,8,8,8,8,8,8,8,8,8,8,8,8,8,8,8,8,8,8,8,8,8,8,8,8,8,8,8,8,8,8,8,8,8,8,8,8,8,8,8,8,8,8,8,8,8,8,8,8,8,8]
def asR(i:Nat)(h:i<256):at4[i]?=some (UInt8.ofNat (Qh i)):=by
 have:(List.range 256).all (λi=>at4[i]?==some (UInt8.ofNat (Qh i)))=true:=ak;rw[List.all_eq_true]at this;exact eq_of_beq (this i (zbm.2 h))
def ajX{n:Nat}(h:256<=n):Qh n=Qh (n/256)+8:=by
 unfold Qh;have h1:n≠0:=ab;have h2:n/256≠0:=ab;rw[if_neg h1,if_neg h2];have:Nat.log2 n=Nat.log2 (n/256)+8:=by
  apply(zcP h1).2;have h3:=(zcP h2).1 rfl;generalize Nat.log2 (n/256)=k at h3;rw[zcE,show k+8+1=(k+1)+8 from by omega,zcE];have:2^8=256:=ao;rw[this];omega
 omega
def ay0{n:Nat}(h:n<256):(UInt8.ofNat (Qh n)).toNat=Qh n:=by
 have:Qh n<=8:=Qk.2 ab;simp;omega
def Kv:MT (ay []) De (ah jj):=by
 rintro _ K ⟨_,⟨n,rfl,⟨h1,h2⟩,rfl⟩,hK⟩;refine λb hb=>?_
 rcases cmp hb with⟨rfl,h⟩|⟨rfl,h⟩
 ·omega
 refine λb hb=>?_
 rcases cmp hb with⟨rfl,h'⟩|⟨rfl,h'⟩
 ·omega
 refine λb hb=>?_
 rcases cmp hb with⟨rfl,h3⟩|⟨rfl,h3⟩
 ·refine⟨ao,?_⟩;refine λx hx=>?_
  have hx:x=((n.toNat/256:Nat):Int):=by
   rw[hx];show n.fdiv (2^8)=_;rw[zbY _ ao];omega
  refine λy hy=>?_
  replace hy:=dB hy ao;subst hy;refine λz hz=>?_
  rw[Pn]at hz;have hz:z=((n.toNat/256:Nat):Int):=ab;subst hz;refine⟨_,⟨ab,asR (n.toNat/256) ab⟩,?_⟩;refine λu hu=>?_
  rw[ay0 ab]at hu;have hle:Qh (n.toNat/256)<=8:=Qk.2 ab;replace hu:=dB hu ab;refine λv hv=>?_
  replace hv:=dB hv ab;refine⟨.pv (pI _),?_,trivial,hK⟩;refine bu ?_;rw[ajX ab];omega
 ·refine λz hz=>?_
  rw[Pn]at hz;have hz:z=((n.toNat:Nat):Int):=ab;subst hz;refine⟨_,⟨ab,asR n.toNat ab⟩,?_⟩;refine λu hu=>?_
  rw[ay0 ab]at hu;have hle:Qh n.toNat<=8:=Qk.2 ab;replace hu:=dB hu ab;refine λv hv=>?_
  replace hv:=dB hv ab;refine⟨.pv (pI _),?_,trivial,hK⟩;refine bu ?_;omega
def No:MT (ay [(293,ah jj)]) Ip (ah jj):=by
 rintro _ K ⟨_,⟨n,rfl,h,rfl⟩,hK⟩;refine⟨_,⟨n,rfl,h,rfl⟩,?_⟩;exact aG
def rU(ps:List PV)(x:PV):Prop:=∃a:Int,ps=[pI a]/\(0<=a/\a<=4096)/\x=pI (pY a)
def Ki:MT (ay [(276,ah jj)]) FA (ah rU):=by
 rintro _ K ⟨_,⟨a,rfl,⟨h1,h2⟩,rfl⟩,hK⟩;refine λx hx=>?_
 replace hx:=dB hx ab;subst hx;refine λx hx=>?_
 refine λy hy=>?_
 rw[awV ab]at hy;refine⟨_,⟨y,rfl,ab,rfl⟩,?_⟩;refine λz hz=>?_
 refine⟨.pv (pI _),bu ?_,trivial,hK⟩;rw[hz];have:y.toNat=a.toNat-1:=ab;rw[this];unfold pY dh;omega
def fF(ps:List PV)(x:PV):Prop:=∃a:Int,ps=[pI a]/\(0<=a/\a<=4096)/\x=pI (zE a)
def aGh{s:Int}(h:0<=s/\s<=62):IntKind.i64.wrap (1*2^min s.toNat IntKind.i64.bits)=((2^s.toNat:Nat):Int):=by
 have hb:IntKind.i64.bits=64:=rfl;have:min s.toNat IntKind.i64.bits=s.toNat:=ab;rw[this,Int.one_mul];have hp:2^s.toNat<=2^62:=zce ab ab;have e:((2:Int)^s.toNat)=((2^s.toNat:Nat):Int):=aj;rw[e];generalize 2^s.toNat=p at hp;exact wrap64 ab
def Hr:MT (ay [(260,ah rU)]) Co (ah fF):=by
 rintro _ K ⟨_,⟨a,rfl,⟨h1,h2⟩,rfl⟩,hK⟩;have hb:=Hk h2;have hl:=UQ h2;refine⟨_,⟨a,rfl,⟨h1,h2⟩,rfl⟩,?_⟩;refine λx hx=>?_
 replace hx:=dB hx ab;refine⟨ab,?_⟩;refine λy hy=>?_
 rw[aGh ab]at hy;have cj:y=zE a-2:=by
  rw[hy,hx];unfold zE KK pY;have:(16-(dh a.toNat:Int)).toNat=16-dh a.toNat:=ab;rw[this];omega
 refine λz hz=>?_
 replace hz:=dB hz ab;refine λu hu=>?_
 replace hu:=dB hu ab;refine⟨.pv (pI _),bu ?_,trivial,hK⟩;omega
def jl(ps:List PV)(x:PV):Prop:=∃n lo hi:Int,ps=[pI n,pI lo,pI hi]/\x=pB (decide (lo<=n/\n<=hi))
def IT:MT (ay []) CZ (ah jl):=by
 rintro _ K ⟨_,⟨n,lo,hi,rfl,rfl⟩,hK⟩;refine λb hb=>?_
 rcases cmp hb with⟨rfl,h⟩|⟨rfl,h⟩
 ·refine λb hb=>?_
  refine⟨.pv (pB _),oH ?_,trivial,hK⟩;rw[decide_eq_true_iff,hb];omega
 ·refine⟨.pv (pB _),oH ?_,trivial,hK⟩;rw[decide_eq_true_iff];simp only[zbZ,iff_false];omega
def dZ(ok:Bool)(e:Int):Int:=match ok with|true=>0|false=>e
def l5(ps:List PV)(x:PV):Prop:=∃(ok:Bool) (e:Int),ps=[pB ok,pI e]/\x=pI (dZ ok e)
def IX:MT (ay []) Dw (ah l5):=by
 rintro _ K ⟨_,⟨ok,e,rfl,rfl⟩,hK⟩;cases ok with
 |true=>exact aG
 |false=>exact aG
def bQ:List Int->Int
 |[]=>0
 |e::l=>if e=0 then bQ l else e
def qZ(ps:List PV)(x:PV):Prop:=∃l:List Int,ps=[.sl 1 (l.map pI)]/\x=pI (bQ l)
def ke(l:List Int)(n:Nat)(h:∀j,j<n->l[j]?=some 0):bQ l=bQ (l.drop n):=by
 induction n generalizing l with
 |zero=>rfl
 |succ n ih=>
  cases l with
  |nil=>rfl
  |cons e l=>
   have:=h 0 ab;simp at this;subst this;exact ih l λj hj=>by simpa using h (j+1) ab
def JC:MT (ay []) Fm (ah qZ):=by
 rintro _ K ⟨_,⟨l,rfl,rfl⟩,hK⟩;refine λhl=>?_
 rw[zaw]at hl;refine⟨λm env σ=>∃n:Nat,(n+m=l.length∧∀j,j<n->l[j]?=some 0)/\σ=[]/\env=[(5,.pv (.sl 1 (l.map pI))),eN 6 ((l.map pI).length:Nat),eN 7 n],l.length,⟨0,⟨ab,λj hj=>ab⟩,rfl,rfl⟩,?_⟩;rintro m env σ ⟨n,⟨hn,h0⟩,rfl,rfl⟩;refine λb hb=>?_
 rw[zaw]at hb;rcases cmp hb with⟨rfl,h⟩|⟨rfl,h⟩
 ·have aU:n<l.length:=by omega
  refine⟨pI l[n],⟨ab,?_⟩,?_⟩
  ·show(l.map pI)[n]?=some (pI l[n]);simp[aU]
  refine λb hb=>?_
  rcases cmp hb with⟨rfl,h⟩|⟨rfl,h⟩
  ·refine⟨.pv (pI _),bu ?_,trivial,hK⟩;rw[ke l n h0,zb3 aU];simp[bQ,h]
  ·refine λx hx=>?_
   replace hx:=dB hx ab;subst hx;refine⟨m-1,ab,n+1,⟨ab,λj hj=>?_⟩,rfl,rfl⟩;by_cases nd:j<n
   ·exact h0 j nd
   ·have:j=n:=by omega
    subst this;rw[zah aU];simpa using h
 ·refine⟨.pv (pI _),bu ?_,trivial,hK⟩;rw[ke l n h0,zb1 ab];rfl
def cm(ps:List PV)(x:PV):Prop:=∃t:cI,ps=[t.pv]/\x=pB t.copy
def Ku:MT (ay []) DH (ah cm):=by
 rintro _ K ⟨_,⟨t,rfl,rfl⟩,hK⟩;refine λb hb=>?_
 refine⟨.pv (pB _),oH ?_,trivial,hK⟩;rw[hb];simp[cI.copy]
def dW(ps:List PV)(x:PV):Prop:=∃t:cI,ps=[t.pv]/\x=pI t.made
def MP:MT (ay [(263,ah cm)]) Ia (ah dW):=by
 rintro _ K ⟨_,⟨t,rfl,rfl⟩,hK⟩;refine⟨_,⟨t,rfl,rfl⟩,?_⟩;generalize hc:t.copy=c;unfold cI.copy at hc;cases c with
 |true=>
  refine⟨.pv (pI _),bu ?_,trivial,hK⟩;simp at hc;simp[cI.made,hc]
 |false=>
  refine⟨.pv (pI _),bu ?_,trivial,hK⟩;simp at hc;simp[cI.made,hc]
end Go.Dv.Try
namespace Go.Dv.Try
open Go Go.Dv Go.RowKit Go.Shelf
section
structure Jt(N:Nat)(jN:Nat->Prop)(l:Nat)(v1 v2:Value)(X1 X2:PV)(act:Act)(W:World):Prop where
 size:act.tmps.size=N
 defs:act.defers=[]
 t0:act.tmps.getD 0 undef=.func (.yield l) #[] #[]
 t1:act.tmps.getD 1 undef=v1
 t2:act.tmps.getD 2 undef=v2
 r1:Rd jN W X1 v1
 r2:Rd jN W X2 v2
 ok:∀b,jN b->b<W.heap.size
noncomputable def abA(jN:Nat->Prop)(act:Act)(W:World)(di:∀b,jN b->b<W.heap.size):Cx:=
 { P:=Go.Proofs.Tryz.prog,w0:=W,eC:=jN,hA:=di,keep:=λb=>b<W.heap.size,hk:=λ_ h=>h,lo:=3,base:=λp=>act.tmps.getD p undef }
variable {N:Nat} {jN:Nat->Prop} {l:Nat} {v1 v2:Value} {X1 X2:PV} {act:Act} {W:World}
def Jt.rel(h:Jt N jN l v1 v2 X1 X2 act W)(env:Env)(he:∀p x,aE p env=.pv x->p=1/\x=X1\/p=2/\x=X2∨∃n,x=pI n/\act.tmps.getD p undef=.int .i64 n)
 (hp:∀p,aE p env=.bad∨∃x,aE p env=.pv x):Rel (abA jN act W h.ok) env [] [] act W:=by
 have di:∀b,jN b->Ok (abA jN act W h.ok) [] [] W b:=λb hb=>⟨.inl hb,h.ok b hb,λ⟨i,s,v,hi,_⟩=>r_⟩
 refine⟨⟨Cg.refl _ _,aj,rfl,λi s v hi=>r_,λi j s t u v b _ hi=>r_,⟨zai _,λ_ _=>rfl,λb hm=>?_⟩,⟨λi v h=>by simp[abA]at h,by simp[abA],λi hi=>by simp[abA]at hi,λi hi=>by simp[abA]at hi⟩⟩,λp=>?_,h.defs,λx v hg=>hg.elim,λp _=>rfl⟩
 ·obtain⟨i,s,v,hi,_⟩:=hm;simp at hi
 ·rcases hp p with hb|⟨x,hx⟩
  ·rw[hb];simp only[RA]
  ·rw[hx];simp only[RA];rcases he p x hx with⟨rfl,rfl⟩|⟨rfl,rfl⟩|⟨n,rfl,hn⟩
   ·rw[h.t1];exact Rd.mono di (λ_ _ _=>rfl) _ _ h.r1
   ·rw[h.t2];exact Rd.mono di (λ_ _ _=>rfl) _ _ h.r2
   ·rw[hn];simp only[Rd]
def Jt.after{tk:Act}{W':World}(h:Jt N jN l v1 v2 X1 X2 act W){env:Env}{σ:aF}{vals:List Value}(hs:tk.tmps.size=N)(hr:Rel (abA jN act W h.ok) env σ vals tk W'):
 Jt N jN l v1 v2 X1 X2 tk W'/\W.grownBy W' none:=by
 have hg:W.grownBy W' none:=⟨hr.s.below.os,hr.s.below.tape,hr.s.below.output,hr.s.below.size,λk hk _=>hr.s.fr.same k hk⟩
 have hc:∀b o,jN b->W'.cell? ⟨b,o,none⟩=W.cell? ⟨b,o,none⟩:=λb o hb=>World.cell?_of_block (hr.s.fr.same b (h.ok b hb))
 exact⟨⟨hs,hr.defers,(hr.lo 0 (show 0<3 by decide)).trans h.t0,(hr.lo 1 (show 1<3 by decide)).trans h.t1,(hr.lo 2 (show 2<3 by decide)).trans h.t2,Rd.mono (λ_ h=>h) hc _ _ h.r1,Rd.mono (λ_ h=>h) hc _ _ h.r2,
  λb hb=>zae (h.ok b hb) hr.s.below.size⟩,hg⟩
def Jt.num{cx:Cx}{env:Env}{σ:aF}{vals:List Value}{act:Act}{W:World}(hr:Rel cx env σ vals act W){p:Nat}{n:Int}(h:aE p env=.pv (pI n)):act.tmps.getD p undef=.int .i64 n:=by
 have:=hr.env p;rw[h]at this;simpa only[RA,Rd]using this
noncomputable def atj(q:Ex->(Nat->AV)->Prop):Ex->Env->aF->Prop:=λe env _=>q e λp=>aE p env
def alJ(q:Ex->(Nat->AV)->Prop):∀e,BP (atj q e):=by
 intro e env aal σ h;show q e (λp=>aE p aal)=q e λp=>aE p env
 rw[show(λp=>aE p aal)=λp=>aE p env from funext h]
def Jt.piece{Γ:Ctx}(hΓ:Sound Go.Proofs.Tryz.prog Γ)(h:Jt N jN l v1 v2 X1 X2 act W){ps:List Nat}{c:Code}{pc:PC}(hc:nR Go.Proofs.Tryz.prog N c=some (strip pc))(hs:fw pc=true)(hg:P6 3 pc=true)
 {env:Env} (hr:Rel (abA jN act W h.ok) env [] [] act W) {q:Ex->(Nat->AV)->Prop} (hv:vc Γ [] ps pc (atj q) env []) (m:Nat) (R:Exit->Act->World->Prop)
 (hR:∀e tk W' env σ vals,Jt N jN l v1 v2 X1 X2 tk W'->W.grownBy W' none->Rel (abA jN act W h.ok) env σ vals tk W'->(match e with| .normal=>q .normal (λp=>aE p env)| .exit i=>q (.exit i) (λp=>aE p env)| .ret=>q .ret (λp=>aE p env)|_=>False)->R e tk W'):
 c.wpIn Fence.wide m Go.Proofs.Tryz.prog R act W:=by
 have:=GH (P:=Go.Proofs.Tryz.prog) (ps:=ps) hΓ mixed c pc hc (· =abA jN act W h.ok) Fence.wide m _ (atj q) env [] [] act W (.inl hs) (.inr ⟨3,λcx uu=>by rw[uu];exact zai _,hg⟩) (.inl rfl) rfl (λcx uu=>by rw[uu];rfl) (alJ q) h.size hr hv;refine wpIn_mono this ?_;intro e tk W' hp;cases e with
 |normal=>
  obtain⟨cx,env,σ,vals,rfl,Et,ic,hq⟩:=hp;obtain⟨h1,h2⟩:=h.after Et ic;exact hR .normal tk W' env σ vals h1 h2 ic hq
 |exit i=>
  obtain⟨cx,env,σ,vals,rfl,Et,ic,hq⟩:=hp;obtain⟨h1,h2⟩:=h.after Et ic;exact hR (.exit i) tk W' env σ vals h1 h2 ic hq
 |ret=>
  obtain⟨cx,env,σ,vals,rfl,Et,ic,hq⟩:=hp;obtain⟨h1,h2⟩:=h.after Et ic;exact hR .ret tk W' env σ vals h1 h2 ic hq
 |_=>exact hp.elim
def KH(l:List (Nat×Int)):Env:=l.map λq=>(q.1,.pv (pI q.2))
def aFV(X1 X2:PV)(l:List (Nat×Int)):Env:=(1,.pv X1)::(2,.pv X2)::KH l
def aAP{a b:Nat}(h:a≠b):Nat.beq a b=false:=by
 cases hb:Nat.beq a b with
 |true=>exact absurd (zab hb) h
 |false=>rfl
def US(l:List (Nat×Int))(p:Nat):aE p (KH l)=.bad∨∃q∈l,q.1=p/\aE p (KH l)=.pv (pI q.2):=by
 induction l with
 |nil=>exact .inl rfl
 |cons q l ih=>
  show(bif Nat.beq q.1 p then AV.pv (pI q.2)else aE p (KH l))=.bad∨∃q'∈q::l,q'.1=p/\(bif Nat.beq q.1 p then AV.pv (pI q.2)else aE p (KH l))=.pv (pI q'.2);by_cases e:q.1=p
  ·exact .inr ⟨q,aj,e,by simp[e]⟩
  ·rw[aAP e];rcases ih with h|⟨q',h1,h2,h3⟩
   ·exact .inl h
   ·exact .inr ⟨q',by simp[h1],h2,h3⟩
def Jt.TR(h:Jt N jN l v1 v2 X1 X2 act W)(ns:List (Nat×Int))(xc:∀q∈ns,act.tmps.getD q.1 undef=.int .i64 q.2):Rel (abA jN act W h.ok) (aFV X1 X2 ns) [] [] act W:=by
 refine h.rel _ (λp x hx=>?_) (λp=>?_)
 ·have hx:(bif Nat.beq 1 p then AV.pv X1 else bif Nat.beq 2 p then AV.pv X2 else aE p (KH ns))=.pv x:=hx;by_cases e1:1=p
  ·subst e1;simp at hx;exact .inl ⟨rfl,hx.symm⟩
  ·rw[aAP e1,cond_false]at hx;by_cases e2:2=p
   ·subst e2;simp at hx;exact .inr (.inl ⟨rfl,hx.symm⟩)
   ·rw[aAP e2,cond_false]at hx;rcases US ns p with h'|⟨q,h1,h2,h3⟩
    ·rw[h']at hx;cases hx
    ·rw[h3]at hx;cases hx;exact .inr (.inr ⟨q.2,rfl,h2▸xc q h1⟩)
 ·show(bif Nat.beq 1 p then AV.pv X1 else bif Nat.beq 2 p then AV.pv X2 else aE p (KH ns))=.bad∨∃x,(bif Nat.beq 1 p then AV.pv X1 else bif Nat.beq 2 p then AV.pv X2 else aE p (KH ns))=.pv x;cases Nat.beq 1 p<;>cases Nat.beq 2 p<;>simp;rcases US ns p with h'|⟨q,h1,h2,h3⟩
  ·exact .inl h'
  ·exact .inr ⟨_,h3⟩
def Jb{a:Act}{d p:Nat}{v:Value}(hd:d<a.tmps.size):(a.put (some d) v).tmps.getD p undef=if d=p then v else a.tmps.getD p undef:=by
 show(a.tmps.setIfInBounds d v).getD p undef=_;rw[getD_eq,getD_eq,Array.getElem?_setIfInBounds];by_cases h:d=p
 ·subst h;simp[hd]
 ·simp[h]
def Jt.put(h:Jt N jN l v1 v2 X1 X2 act W){q:Nat}{v:Value}(hq:3<=q)(hs:q<N):Jt N jN l v1 v2 X1 X2 (act.put (some q) v) W:=by
 have aU:q<act.tmps.size:=by rw[h.size];exact hs
 refine⟨(xL ..).trans h.size,h.defs,?_,?_,?_,h.r1,h.r2,h.ok⟩
 ·rw[Jb aU,if_neg ab];exact h.t0
 ·rw[Jb aU,if_neg ab];exact h.t1
 ·rw[Jb aU,if_neg ab];exact h.t2
def Jt.kept{W':World}(h:Jt N jN l v1 v2 X1 X2 act W)(hk:ayb jN W W'):Jt N jN l v1 v2 X1 X2 act W':=by
 have hc:∀b o,jN b->W'.cell? ⟨b,o,none⟩=W.cell? ⟨b,o,none⟩:=λb o hb=>World.cell?_of_block (hk.2 b hb)
 exact⟨h.size,h.defs,h.t0,h.t1,h.t2,Rd.mono (λ_ h=>h) hc _ _ h.r1,Rd.mono (λ_ h=>h) hc _ _ h.r2,λb hb=>zae (h.ok b hb) hk.1⟩
def ao8(y v1 v2:Value)(n:Nat):((#[y]++ #[v1,v2])++Array.replicate n undef).getD 0 undef=y/\((#[y]++ #[v1,v2])++Array.replicate n undef).getD 1 undef=v1/\((#[y]++ #[v1,v2])++Array.replicate n undef).getD 2 undef=v2/\((#[y]++ #[v1,v2])++Array.replicate n undef).size=n+3:=by
 refine⟨?_,?_,?_,?_⟩
 ·rw[getD_eq,zb4 aj];rfl
 ·rw[getD_eq,zb4 aj];rfl
 ·rw[getD_eq,zb4 aj];rfl
 ·simp;omega
section
variable {P:Program} {ops:Array Oper} {Q:Exit->Act->World->Prop} {a:Act} {w:World} {n m:Nat}
def oR{i d:Nat}{rest:List Nat}{o:Oper}{v:Value}(ho:ops[i]?=some o)(hg:o.guard=none)(hd:o.dst=some d)(cL:(execOp a.eval o).run P w=.ok (.value v) w)(tT:∀c,o.op≠.defer c)
 (h:wpOpsIn Fence.wide m P ops Q rest (a.put (some d) v) w):wpOpsIn Fence.wide m P ops Q (i::rest) a w:=by
 rw[wpOpsIn_cons];unfold wpOpIn;simp only[ho];have hw:Region.wanted o (yielded ops a.tmps)=true:=BT;rw[if_pos hw];refine Qy (.inl rfl) tT ?_;unfold Oper.wp;rw[cL,Oper.upon_value,hd];exact h
def aa1(a:Act)(F:List (Nat×Value)):Prop:=∀t v,F.lookup t=some v->a.tmps.getD t undef=v
def aa1.ag7:aa1 a []:=λ_ _ h=>bV
def aa1.aba{F:List (Nat×Value)}{d:Nat}{v:Value}(h:a.tmps.getD d undef=v)(hF:aa1 a F):aa1 a ((d,v)::F):=by
 intro t u hu;by_cases e:t=d
 ·subst e;simp[List.lookup]at hu;exact h.trans hu
 ·rw[List.lookup,beq_false_of_ne e]at hu;exact hF t u hu
def aa1.abl{F:List (Nat×Value)}{d:Nat}{v:Value}(hF:aa1 a F)(hd:d<a.tmps.size):aa1 (a.put (some d) v) ((d,v)::F):=by
 intro t u hu;rw[Jb hd];by_cases e:t=d
 ·subst e;rw[if_pos rfl];simpa[List.lookup]using hu
 ·rw[if_neg (Ne.symm e)];rw[List.lookup,beq_false_of_ne e]at hu;exact hF t u hu
def Jt.FG{N:Nat}{jN:Nat->Prop}{l:Nat}{v1 v2:Value}{X1 X2:PV}{F:List (Nat×Value)}(h:Jt N jN l v1 v2 X1 X2 a w)(hF:aa1 a F){i d:Nat}{rest:List Nat}{o:Oper}{v:Value}{X:_}(ho:ops[i]?=some o)(hg:o.guard=none)(hd:o.dst=some d)(p:o.op=X)
 (cL:(execOp a.eval o).run P w=.ok (.value v) w) (k:∀a',Jt N jN l v1 v2 X1 X2 a' w->aa1 a' ((d,v)::F)->wpOpsIn Fence.wide m P ops Q rest a' w) (h3:3<=d/\d<N:=by decide) (hX:∀c,X≠.defer c:=by intro _ h;cases h):wpOpsIn Fence.wide m P ops Q (i::rest) a w:=
 oR ho hg hd cL (λc hc=>hX c (p.symm.trans hc)) (k _ (h.put h3.1 h3.2) (hF.abl (by rw[h.size];exact h3.2)))
def Fg{o:Oper}{t:Nat}(ho:o.op=.move (.tmp t)):(execOp a.eval o).run P w=.ok (.value (a.tmps.getD t undef)) w:=by
 have e:a.tmps.getD t undef=a.eval (.tmp t):=rfl;rw[e];simp[execOp,ho]
def Jt.Qt{N:Nat}{jN:Nat->Prop}{l:Nat}{v1 v2:Value}{X1 X2:PV}{F:List (Nat×Value)}(h:Jt N jN l v1 v2 X1 X2 a w)(hF:aa1 a F){i d t:Nat}{rest:List Nat}{o:Oper}{v:Value}(ho:ops[i]?=some o)(hg:o.guard=none)(hd:o.dst=some d)(p:o.op=.move (.tmp t))
 (hv:F.lookup t=some v) (k:∀a',Jt N jN l v1 v2 X1 X2 a' w->aa1 a' ((d,v)::F)->wpOpsIn Fence.wide m P ops Q rest a' w) (h3:3<=d/\d<N:=by decide):wpOpsIn Fence.wide m P ops Q (i::rest) a w:=
 h.FG hF ho hg hd p ((Fg p).trans (by rw[hF _ _ hv])) k h3
def ahv{i d f x l:Nat}{rest:List Nat}{o:Oper}{cc:Call}(ho:ops[i]?=some o)(hg:o.guard=none)(hd:o.dst=some d)(sM:o.op=.call cc)(Nu:cc.callee=.value (.tmp f))(aDq:cc.args= #[.tmp x])
 (hf:a.tmps.getD f undef=.func (.yield l) #[] #[]) (hY:YieldAt Fence.wide (m-1) P l #[a.tmps.getD x undef] w λe w'=>∃v,e=.returned v/\wpOpsIn Fence.wide m P ops Q rest (a.put (some d) v) w'):wpOpsIn Fence.wide m P ops Q (i::rest) a w:=by
 obtain⟨fn,tmps,assign,body,hr,hR⟩:=hY;have cL:(execOp a.eval o).run P w=.ok (.round l fn tmps assign body) w:=by
  have D0:a.eval (.tmp f)=.func (.yield l) #[] #[]:=hf;rw[<-hr];unfold execOp;rw[sM];simp only[resolve,Nu,aDq,D0,List.map_toArray,zau,List.map_nil];rfl
 rw[wpOpsIn_cons];unfold wpOpIn;simp only[ho];have hw:Region.wanted o (yielded ops a.tmps)=true:=BT;rw[if_pos hw];refine⟨λf _=>trivial,?_⟩;rw[Oper.semAt_eq _ _ _ (λc hc=>by rw[sM]at hc;cases hc),cL,Oper.uponIn_round,hd];refine⟨λh=>bV,hR.mono ?_⟩;rintro e w' ⟨v,rfl,h⟩;exact h
def ans{o:Oper}{t:Nat}{b:Bool}{ty:TypeId}(ho:o.op=.unOp .not ty (.tmp t))(hb:a.tmps.getD t undef=.bool b):(execOp a.eval o).run P w=.ok (.value (.bool (!b))) w:=by
 have Cs:a.eval (.tmp t)=.bool b:=hb;simp[execOp,ho,Cs,Op.unary]
def aoe{o:Oper}{s t:Nat}{x y:Int}{ty ye:TypeId}(ho:o.op=.binOp .add ty (.tmp s) (.tmp t) ye)(hx:a.tmps.getD s undef=.int .i64 x)(hy:a.tmps.getD t undef=.int .i64 y)(hr: -9223372036854775808<=x+y/\x+y<=9223372036854775807):
 (execOp a.eval o).run P w=.ok (.value (.int .i64 (x+y))) w:=by
 have dR:a.eval (.tmp s)=.int .i64 x:=hx;have cn:a.eval (.tmp t)=.int .i64 y:=hy;obtain⟨r,v,h1,h2,h3,h4⟩:=aju (cx:={ P:=P,w0:=w,eC:=λ_=>False,hA:=λ_ h=>h.elim }) (σ:=[]) (vals:=[]) (w:=w) P .add ty (pI x) (pI y) (a.eval (.tmp s)) (a.eval (.tmp t)) (λr=>r=pI (x+y)) (by rw[dR];simp[Rd]) (by rw[cn];simp[Rd]) (by
  show ∀r:Int,r=IntKind.i64.wrap (x+y)->PV.int .i64 r=pI (x+y);intro r ic;rw[ic,wrap64 hr])
 subst h3;simp only[Rd]at h2;subst h2;simp[execOp,ho,h1,h4]
def ati{o:Oper}{s t:Nat}{b off:Nat}{v:Value}(ho:o.op=.load t (.tmp s))(hx:a.tmps.getD s undef=.pointer (some ⟨b,off,none⟩))(Cd:∀w,(isAgg t).run P w=.ok false w)(hc:w.cell? ⟨b,off,none⟩=some v):
 (execOp a.eval o).run P w=.ok (.value v) w:=by
 have dR:a.eval (.tmp s)=.pointer (some ⟨b,off,none⟩):=hx;simp[execOp,ho,dR,Instr.loadAt,Instr.sureAddr,loadVar,Cd,hc,Go.run_load]
def amD{o:Oper}{s lo hi mx:Nat}{t e:TypeId}{ad:Option Addr}{n c l h:Nat}(ho:o.op=.slice t (.tmp s) (some (.tmp lo)) (some (.tmp hi)) (some (.tmp mx)))(he:P.underlying t=some (.slice e))(hz:∀w,(sizeOf e).run P w=.ok 1 w)
 (hx:a.tmps.getD s undef=.slice ad n c) (hl:a.tmps.getD lo undef=.int .i64 (l:Nat)) (hh:a.tmps.getD hi undef=.int .i64 (h:Nat)) (hm:a.tmps.getD mx undef=.int .i64 (h:Nat)) (h1:l<=h) (h2:h<=c):
 (execOp a.eval o).run P w=.ok (.value (.slice (if h=l then ad else ad.map (·.add (l*1))) (h-l) (h-l))) w:=by
 have dR:a.eval (.tmp s)=.slice ad n c:=hx;have cK:a.eval (.tmp lo)=.int .i64 (l:Nat):=hl;have yg:a.eval (.tmp hi)=.int .i64 (h:Nat):=hh;have R4:a.eval (.tmp mx)=.int .i64 (h:Nat):=hm;have b1:(Instr.sliceBound (.int .i64 (h:Nat)) c .slice3Acap).run P w=.ok h w:=by
  simp[Instr.sliceBound,asIntOf,h2]
 have b2:(Instr.sliceBound (.int .i64 (h:Nat)) h .slice3B).run P w=.ok h w:=by
  simp[Instr.sliceBound,asIntOf]
 have b3:(Instr.sliceBound (.int .i64 (l:Nat)) h .slice3C).run P w=.ok l w:=by
  simp[Instr.sliceBound,asIntOf,h1]
 have b:(Instr.sliceBounds true n c (some (.int .i64 (l:Nat))) (some (.int .i64 (h:Nat))) (some (.int .i64 (h:Nat)))).run P w=.ok (l,h,h) w:=by
  simp[Instr.sliceBounds,b1,b2,b3]
 simp[execOp,ho,dR,cK,yg,R4,Instr.sliceAt,Instr.slice,run_underlying he,b,hz]
end
end
def bq{α:Type}(l:List α)(k:Nat):List α:=(l.drop (16*k)).take 16
def ew(n:Nat):Nat:=(n+15)/16
def chunks{α:Type}(l:List α):List (List α):=(List.range (ew l.length)).map (bq l)
def ait{α:Type}(l:List α)(k:Nat):bq l k=cut (16*k) (min (16*k+16) l.length) l:=by
 unfold bq cut;rw[List.drop_take];rcases Nat.lt_or_ge l.length (16*k+16)with h|h
 ·rw[Nat.min_eq_right ab,za1 aH,za1 aj]
 ·rw[Nat.min_eq_left h];congr 1;omega
def yb{α:Type}(l:List α)(k:Nat):(bq l k).length=min 16 (l.length-16*k):=by
 simp[bq]
def pZ{α β:Type}(f:α->β)(l:List α)(k:Nat):bq (l.map f) k=(bq l k).map f:=by
 simp[bq]
def me(l:List Int):List (List PV):=(chunks l).map λc=>[.sl 1 (c.map pI)]
def ay4(jh:List PV)(L:List (List PV)):Prop:=
 ∃l:List Int,jh=[.cptr (.sl 1 (l.map pI)),.cptr (pI 16)]/\l.length<=1000000/\L=me l
def aJh:PC:=.region [⟨some 4,none,.mv (.const (.int .i64 0))⟩]
def aJg:PC:=.seq (.region [⟨some 6,none,.mv (.tmp 4)⟩,⟨some 7,none,.load false 1 (.tmp 1)⟩,⟨some 8,none,.lenR (.tmp 7)⟩,⟨some 9,none,.bin .lss (.tmp 6) (.tmp 8)⟩]) (.cond (.tmp 9) .skip (.exit 0))
def aJj:PC:=.drawD [⟨some 13,none,.load false 1 (.tmp 2)⟩,⟨some 14,none,.load false 1 (.tmp 1)⟩,⟨some 15,none,.mv (.tmp 4)⟩,⟨some 16,none,.slcR 1 (.tmp 14) (some (.tmp 15)) none⟩,⟨some 17,none,.lenN (.tmp 16)⟩,⟨some 18,none,.mm false (.tmp 13) (.tmp 17)⟩,⟨some 5,none,.mv (.tmp 18)⟩]
 [[],[],[],[1,2],[3],[0,4],[5,0,1,2,3,4,5]]
def aJA:PC:=.region [⟨some 10,none,.mv (.tmp 4)⟩,⟨some 11,none,.load false 1 (.tmp 2)⟩,⟨some 12,none,.bin .add (.tmp 10) (.tmp 11)⟩,⟨some 4,none,.mv (.tmp 12)⟩]
def axJ:∃(A B C R:Code) (id:Nat) (o0 o1 o2 o3 o4 o5 o6 o7 o8 o9 zp zq:Oper),
 Go.Proofs.Tryz.f258.body=some (.seq A (.block 0 (.loop (.seq B (.seq (.block 1 (.seq C (.seq (.region id #[o0,o1,o2,o3,o4,o5,o6,o7,o8,o9,zp,zq] false) (.cond (.tmp 30) .ret .skip)))) R)))))/\
 nR Go.Proofs.Tryz.prog 31 A=some (strip aJh)/\nR Go.Proofs.Tryz.prog 31 B=some (strip aJg)/\nR Go.Proofs.Tryz.prog 31 C=some (strip aJj)/\nR Go.Proofs.Tryz.prog 31 R=some (strip aJA)/\
 (o0.guard=none/\o0.dst=some 19/\o0.op=.move (.tmp 0))/\(o1.guard=none/\o1.dst=some 20/\o1.op=.load 45 (.tmp 1))/\(o2.guard=none/\o2.dst=some 21/\o2.op=.move (.tmp 4))/\
 (o3.guard=none/\o3.dst=some 22/\o3.op=.move (.tmp 4))/\(o4.guard=none/\o4.dst=some 23/\o4.op=.move (.tmp 5))/\(o5.guard=none/\o5.dst=some 24/\o5.op=.binOp .add 3 (.tmp 22) (.tmp 23) 3)/\
 (o6.guard=none/\o6.dst=some 25/\o6.op=.move (.tmp 4))/\(o7.guard=none/\o7.dst=some 26/\o7.op=.move (.tmp 5))/\(o8.guard=none/\o8.dst=some 27/\o8.op=.binOp .add 3 (.tmp 25) (.tmp 26) 3)/\
 (o9.guard=none/\o9.dst=some 28/\o9.op=.slice 45 (.tmp 20) (some (.tmp 21)) (some (.tmp 24)) (some (.tmp 27)))/\
 (zp.guard=none/\zp.dst=some 29∧∃c,zp.op=.call c/\c.callee=.value (.tmp 19)/\c.args= #[.tmp 28])/\(zq.guard=none/\zq.dst=some 30∧∃t,zq.op=.unOp .not t (.tmp 29)):=
 ⟨_,_,_,_,_,_,_,_,_,_,_,_,_,_,_,_,_,rfl,ak,ak,ak,ak,⟨rfl,rfl,rfl⟩,⟨rfl,rfl,rfl⟩,⟨rfl,rfl,rfl⟩,⟨rfl,rfl,rfl⟩,⟨rfl,rfl,rfl⟩,⟨rfl,rfl,rfl⟩,⟨rfl,rfl,rfl⟩,⟨rfl,rfl,rfl⟩,⟨rfl,rfl,rfl⟩,⟨rfl,rfl,rfl⟩,⟨rfl,rfl,_,rfl,rfl,rfl⟩,⟨rfl,rfl,_,rfl⟩⟩
def axO{ok:Nat->Prop}{w:World}{aC:List PV}{ad:Option Addr}{c l h:Nat}(hs:Rd ok w (.sl 1 aC) (.slice ad aC.length c))(EA:l<h)(hx:h<=aC.length):
 Rd ok w (.sl 1 (cut l h aC)) (.slice (ad.map (·.add (l*1))) (h-l) (h-l)):=by
 simp only[Rd]at hs ⊢;obtain⟨G2,c0,hv,h1,h2,h3⟩:=hs;cases hv;refine⟨_,_,by rw[wL _ _ _ hx],ZG,ab,.inr ?_⟩;rcases h3 with h3|⟨b,o,rfl,di,h4⟩
 ·subst h3;simp at hx;omega
 ·exact⟨b,o+l*1,by simp[ik],di,SP l h aC ab hx o h4⟩
def mz{a b:Int}(h:a=b):AV.pv (pI a)=AV.pv (pI b):=by rw[h]
def al4(hΓ:Sound Go.Proofs.Tryz.prog (ay [])):akR Go.Proofs.Tryz.prog 258 ay4:=by
 intro m w jN jh vs L di rT kW;obtain⟨l,rfl,hl,rfl⟩:=kW;have hf:Go.Proofs.Tryz.prog.funcs[258]?=some Go.Proofs.Tryz.f258:=ak;obtain⟨A,B,C,R,id,o0,o1,o2,o3,o4,o5,o6,o7,o8,o9,zp,zq,ab0,cA,cB,cC,cR,⟨g0,d0,p0⟩,⟨g1,d1,p1⟩,⟨g2,d2,p2⟩,⟨g3,d3,p3⟩,⟨g4,d4,p4⟩,⟨g5,d5,p5⟩,⟨g6,d6,p6⟩,⟨g7,d7,p7⟩,⟨g8,d8,p8⟩,⟨g9,d9,p9⟩,⟨g10,d10,cc,yo,aHl,aHm⟩,⟨g11,d11,tt,Lj⟩⟩:=axJ;refine⟨?_,Go.Proofs.enters_of hf ak ab0⟩;obtain⟨v1,v2,rfl,r1,r2⟩:∃v1 v2,vs= #[v1,v2]/\Rd jN w (.cptr (.sl 1 (l.map pI))) v1/\Rd jN w (.cptr (pI 16)) v2:=by
  simp only[bS]at rT;obtain⟨v1,t,e1,r1,v2,t2,rfl,r2,rfl⟩:=rT;exact⟨v1,v2,by rw[<-zco];exact e1,r1,r2⟩
 have pW:=r1;simp only[Rd]at pW;obtain⟨b1,q1,rfl,G1,_,u1,Oi,ad,cp,ov,hle,Aw,ly⟩:=pW;have Yh:Rd jN w (.sl 1 (l.map pI)) u1:=by simp only[Rd];exact⟨ad,cp,ov,hle,Aw,ly⟩
 subst ov;have hlen:(l.map pI).length=l.length:=zaw ..
 let en:{ k:Nat//k<ew l.length }->Array Value:=λk=> #[.slice (ad.map (·.add (16*k.1*1))) (min (16*k.1+16) l.length-16*k.1) (min (16*k.1+16) l.length-16*k.1)]
 let yl:{ k:Nat//k<ew l.length }->List PV:=λk=>[.sl 1 ((bq l k.1).map pI)]
 have aU:∀k,k<ew l.length->16*k<l.length:=by intro k hk;unfold ew at hk;omega
 refine⟨{ k:Nat//k<ew l.length },yl,en,λk=>⟨?_,?_⟩,?_⟩
 ·show _∈me l;unfold me chunks;rw[List.map_map];exact zaX.2 ⟨k.1,zbm.2 k.2,rfl⟩
 ·show bS jN w [_] [_];simp only[bS];refine⟨_,_,rfl,?_,rfl⟩;rw[<-pZ,ait,hlen];exact axO Yh (by have:=aU k.1 k.2;omega) (by rw[hlen];omega)
 intro yy J Jx W hb hJ HG hY h0;have u4:∀b o,jN b->W.cell? ⟨b,o,none⟩=w.cell? ⟨b,o,none⟩:=λb o Cs=>World.cell?_of_block (hb.block b (di b Cs))
 refine callsIn_of_wp hf ab0 trivial ?_;have GY:Jt 31 jN yy (.pointer (some ⟨b1,q1,none⟩)) v2 (.cptr (.sl 1 (l.map pI))) (.cptr (pI 16)) { tmps:=(#[Value.func (.yield yy) #[] #[]]++ #[.pointer (some ⟨b1,q1,none⟩),v2])++Array.replicate (Go.Proofs.Tryz.f258.ntmps-(#[Value.func (.yield yy) #[] #[]]++ #[.pointer (some ⟨b1,q1,none⟩),v2]).size) undef,defers:=[] } W:=by
  have hn:Go.Proofs.Tryz.f258.ntmps-(#[Value.func (.yield yy) #[] #[]]++ #[.pointer (some ⟨b1,q1,none⟩),v2]).size=28:=by
   rw[show Go.Proofs.Tryz.f258.ntmps=31 by kernel_rfl];rfl
  rw[hn];obtain⟨a0,a1,a2,a3⟩:=ao8 (Value.func (.yield yy) #[] #[]) (.pointer (some ⟨b1,q1,none⟩)) v2 28;exact⟨a3,rfl,a0,a1,a2,Rd.mono (λ_ h=>h) u4 _ _ r1,Rd.mono (λ_ h=>h) u4 _ _ r2,λb Cs=>zae (di b Cs) hb.size⟩
 generalize ({ tmps:=(#[Value.func (.yield yy) #[] #[]]++ #[.pointer (some ⟨b1,q1,none⟩),v2])++Array.replicate (Go.Proofs.Tryz.f258.ntmps-(#[Value.func (.yield yy) #[] #[]]++ #[.pointer (some ⟨b1,q1,none⟩),v2]).size) undef,defers:=[] }:Act)=aKL at GY;refine wpIn_seq (GY.piece hΓ (ps:=[1,2,4,5]) cA rfl rfl (GY.TR [] aj) (q:=λe f=>e=.normal/\f 4=.pv (pI 0)) ⟨rfl,rfl⟩ m _ ?_);intro e aKM W1 amV σ1 kh Vd vA Gw j0;cases e with
 |exit i=>exact QF
 |ret=>exact QF
 |normal=>
  obtain⟨_,dV⟩:=j0;have t14:=Jt.num Gw dV;have j1:J [] W1:=hJ [] W W1 none h0 vA (λr e=>cz);have Gp:∀W':World,W'.heap[b1]?=w.heap[b1]?->W'.cell? ⟨b1,q1,none⟩=some (.slice ad l.length cp):=by
   intro W' h;rw[World.cell?_of_block h,Oi,hlen]
  have n9:∀{A B:World},A.grownBy B none->b1<A.heap.size->A.heap[b1]?=w.heap[b1]?->B.heap[b1]?=w.heap[b1]?:=λhg h1 h2=>(hg.block b1 h1 (λe=>cz)).trans h2
  have yq:W1.heap[b1]?=w.heap[b1]?:=n9 vA (zae (di b1 G1) hb.size) (hb.block b1 (di b1 G1));refine wpIn_block ?_;refine wpIn_loop (λact W=>∃(k:Nat) (pre:List { k:Nat//k<ew l.length }),Jt 31 jN yy (.pointer (some ⟨b1,q1,none⟩)) v2 (.cptr (.sl 1 (l.map pI))) (.cptr (pI 16)) act W/\W.heap[b1]?=w.heap[b1]?/\act.tmps.getD 4 undef=.int .i64 ((16*k:Nat):Int)/\J pre W/\pre.map yl=(me l).take k/\k<=ew l.length) (λact _=>(l.length+16-intOf (act.tmps.getD 4 undef)).toNat)
   ⟨0,[],Vd,yq,t14,j1,aj,ab⟩ ?_
  clear t14 j1 Vd Gw dV;rintro act W ⟨k,pre,it,hW,t4,hj,hL,hk⟩;refine wpIn_seq (it.piece hΓ (ps:=[1,2,4,5]) cB rfl rfl (it.TR [(4,((16*k:Nat):Int))] (by intro q hq;simp only[zax,zcp,or_false]at hq;rcases hq with rfl;exact t4)) (q:=λe f=>f 4=.pv (pI ((16*k:Nat):Int))/\((e=.normal/\16*k<l.length)\/(e=.exit 0∧¬16*k<l.length))) ?vcB m _ ?_)
  case vcB=>
   refine λ_=>?_
   refine λb hb=>?_
   rw[hlen]at hb;rcases cmp hb with⟨rfl,h⟩|⟨rfl,h⟩
   ·exact⟨rfl,.inl ⟨rfl,ab⟩⟩
   ·exact⟨rfl,.inr ⟨rfl,ab⟩⟩
  intro e aKN W2 ahb σ2 lh zX mU CW hq2;have j2:J pre W2:=hJ pre W W2 none hj mU (λr e=>cz);have qa:=n9 mU (it.ok b1 G1) hW;cases e with
  |ret=>exact(by obtain⟨_,h|h⟩:=hq2<;>cases h.1)
  |exit i=>
   obtain⟨Vw,hc⟩:=hq2;obtain⟨rfl,hc⟩:i=0∧¬16*k<l.length:=by
    rcases hc with⟨h,_⟩|⟨h,h'⟩
    ·cases h
    ·injection h with h;exact⟨h,h'⟩
   refine⟨zX.defs,.tuple #[],results_none rfl _ _ _,⟨_,rfl⟩,.inl ⟨pre,?_,j2⟩⟩;show pre.map yl=me l;rw[hL,za1];simp only[me,chunks,zaw,zcw];unfold ew at hk ⊢;omega
  |normal=>
   obtain⟨Vw,hc⟩:=hq2;have Eo:16*k<l.length:=aht;have LL:k<ew l.length:=FO;have t24:=Jt.num CW Vw;clear CW Vw hc mU it hj hW;have hM:∀(UG:Act) (W5:World) (ab4:List { k:Nat//k<ew l.length }),Jt 31 jN yy (.pointer (some ⟨b1,q1,none⟩)) v2 (.cptr (.sl 1 (l.map pI))) (.cptr (pI 16)) UG W5->W5.heap[b1]?=w.heap[b1]?->UG.tmps.getD 4 undef=.int .i64 ((16*k:Nat):Int)->J ab4 W5->ab4.map yl=(me l).take (k+1)->
    R.wpIn Fence.wide m Go.Proofs.Tryz.prog (Exit.then (λtk W'=>(∃(k:Nat) (pre:List { k:Nat//k<ew l.length }),Jt 31 jN yy (.pointer (some ⟨b1,q1,none⟩)) v2 (.cptr (.sl 1 (l.map pI))) (.cptr (pI 16)) tk W'/\W'.heap[b1]?=w.heap[b1]?/\tk.tmps.getD 4 undef=.int .i64 ((16*k:Nat):Int)/\J pre W'/\pre.map yl=(me l).take k/\k<=ew l.length)/\(l.length+16-intOf (tk.tmps.getD 4 undef)).toNat<(l.length+16-intOf (act.tmps.getD 4 undef)).toNat)
     (Exit.inBlock 0 (bodyPost Go.Proofs.Tryz.prog Go.Proofs.Tryz.f258 λe W'=>(∃v,e=.returned v)/\((∃xs,(λxs=>xs.map yl=me l) xs/\J xs W')\/(∃pre,(λpre=>pre.map yl<+:me l) pre/\Jx pre W'))))) UG W5:=by
    intro UG W5 ab4 uA yr t54 j5 VB;refine uA.piece hΓ (ps:=[1,2,4,5]) cR rfl rfl (uA.TR [(4,((16*k:Nat):Int))] (by intro q hq;simp only[zax,zcp,or_false]at hq;rcases hq with rfl;exact t54)) (q:=λe f=>e=.normal/\f 4=.pv (pI ((16*(k+1):Nat):Int))) ?_ m _ ?_
    ·refine λx hx=>?_
     replace hx:=dB hx ab;subst hx;exact⟨rfl,mz (by push_cast;omega)⟩
    ·intro e ayy W6 aG4 σ6 azG zY JU pz wH;cases e with
     |normal=>
      obtain⟨_,iG⟩:=wH;have t64:=Jt.num pz iG;refine⟨⟨k+1,ab4,zY,n9 JU (uA.ok b1 G1) yr,t64,hJ ab4 W5 W6 none j5 JU (λr e=>cz),VB,LL⟩,?_⟩;rw[t64,t4];show((l.length:Int)+16-((16*(k+1):Nat):Int)).toNat<((l.length:Int)+16-((16*k:Nat):Int)).toNat;omega
     |exit i=>exact FF
     |ret=>exact FF
     |_=>exact wH.elim
   have qG:pre.length=k:=by
    have:=congrArg List.length hL;simp only[zaw,List.length_take,me,chunks,zcw]at this;omega
   have hx:k<ew l.length:=LL;have Gs:(pre++[(⟨k,hx⟩:{ k:Nat//k<ew l.length })]).map yl=(me l).take (k+1):=by
    have e:(me l)[k]?=some (yl ⟨k,hx⟩):=by
     simp only[me,chunks,za9,zbz hx,zbJ];rfl
    rw[zbs,hL,zck,e];rfl
   have qh:((min (16*k+16) l.length:Nat):Int)=((16*k:Nat):Int)+min 16 ((l.length:Int)-16*k):=ab;refine wpIn_seq (wpIn_block ?_);refine wpIn_seq (zX.piece hΓ (ps:=[1,2,4,5]) cC rfl rfl (zX.TR [(4,((16*k:Nat):Int))] (by intro q hq;simp only[zax,zcp,or_false]at hq;rcases hq with rfl;exact t24)) (q:=λe f=>e=.normal/\f 4=.pv (pI ((16*k:Nat):Int))/\f 5=.pv (pI (min 16 ((l.length:Int)-16*k)))) ?vcC m _ ?_)
   case vcC=>
    refine oQ ?_
    (conv=>whnf)
    refine zcd ⟨ab,by rw[hlen];omega⟩ ?_
    (conv=>whnf)
    refine λx hx=>?_
    rw[wL _ _ _ (zai _),hlen]at hx;refine zcd ak ⟨rfl,rfl,mz ?_⟩;rw[hx];omega
   intro e amY W3 ahc σ3 II uv jI pq ry;have j3:J pre W3:=hJ pre W2 W3 none j2 jI (λr e=>cz);have qi:=n9 jI (zX.ok b1 G1) qa;cases e with
   |exit i=>exact(by obtain⟨h,_⟩:=ry;cases h)
   |ret=>exact(by obtain⟨h,_⟩:=ry;cases h)
   |normal=>
    obtain⟨_,jT,V7⟩:=ry;have t34:=Jt.num pq jT;have t35:=Jt.num pq V7;clear pq jT V7 jI zX j2 qa t24;refine wpIn_seq (wpIn_region ?_);show wpOpsIn Fence.wide m _ _ _ [0,1,2,3,4,5,6,7,8,9,10,11] amY W3;have hF:=aa1.aba uv.t0 (.aba uv.t1 (.aba t34 (.aba t35 .ag7)));refine uv.Qt hF rfl g0 d0 p0 rfl λa0 i0 hF=>?_
    refine i0.FG hF rfl g1 d1 p1 (ati p1 (hF 1 _ rfl) Go.Proofs.Tryz.isAgg45 (Gp W3 qi)) λa1 i1 hF=>?_
    refine i1.Qt hF rfl g2 d2 p2 rfl λa2 i2 hF=>?_
    refine i2.Qt hF rfl g3 d3 p3 rfl λa3 i3 hF=>?_
    refine i3.Qt hF rfl g4 d4 p4 rfl λa4 i4 hF=>?_
    refine i4.FG hF rfl g5 d5 p5 (aoe p5 (hF 22 _ rfl) (hF 23 _ rfl) ab) λa5 i5 hF=>?_
    refine i5.Qt hF rfl g6 d6 p6 rfl λa6 i6 hF=>?_
    refine i6.Qt hF rfl g7 d7 p7 rfl λa7 i7 hF=>?_
    refine i7.FG hF rfl g8 d8 p8 (aoe p8 (hF 25 _ rfl) (hF 26 _ rfl) ab) λa8 i8 hF=>?_
    refine i8.FG (v:=.slice (ad.map (·.add (16*k*1))) (min (16*k+16) l.length-16*k) (min (16*k+16) l.length-16*k)) hF rfl g9 d9 p9 ((amD p9 Go.Proofs.Tryz.underlying45 Go.Proofs.Tryz.sizeOf3 (hF 20 _ rfl) (hF 21 _ rfl) (by rw[hF 24 _ rfl,<-qh]) (by rw[hF 27 _ rfl,<-qh]) ab (by rw[hlen]at hle;omega)).trans (by rw[if_neg ab])) λa9 k9 hF=>?_
    obtain⟨fn,tm,qJ,bd,hy,hR⟩:=hY pre ⟨k,hx⟩ W3 j3 (by show(me l)[pre.length]?=some (yl ⟨k,hx⟩);rw[qG];simp only[me,chunks,za9,zbz hx,zbJ];rfl);refine ahv rfl g10 d10 yo aHl aHm (l:=yy) (hF 19 _ rfl) ?_;rw[hF 28 _ rfl];refine⟨fn,tm,qJ,bd,hy,hR.mono ?_⟩;rintro e W8 (⟨rfl,j8,k8⟩|⟨rfl,G5⟩)
    ·refine⟨_,rfl,?_⟩;have i8:=k9.kept k8;have zm:W8.heap[b1]?=w.heap[b1]?:=(k8.2 b1 G1).trans qi;have hF:=hF.abl (d:=29) (v:=.bool true) (by rw[k9.size];omega);refine(i8.put (q:=29) (v:=.bool true) ab ab).FG hF rfl g11 d11 Lj (ans Lj (hF 29 _ rfl)) λqo yt hF=>?_
     exact wpIn_cond_false (hF 30 _ rfl) (wpIn_skip (hM qo W8 (pre++[⟨k,hx⟩]) yt zm (hF 4 _ rfl) j8 Gs))
    ·refine⟨_,rfl,?_⟩;have qv:(a9.put (some 29) (.bool false)).tmps.getD 29 undef=.bool false:=by rw[Jb (by rw[k9.size];omega),if_pos rfl]
     have qy:(a9.put (some 29) (.bool false)).tmps.size=31:=(xL ..).trans k9.size;have e10:(a9.put (some 29) (.bool false)).defers=[]:=k9.defs;generalize a9.put (some 29) (.bool false)=Yj at qv qy e10;refine oR rfl g11 d11 (ans Lj qv) (λc hc=>by have:=Lj.symm.trans hc;cases this) ?_;have qA:(Yj.put (some 30) (.bool (!false))).tmps.getD 30 undef=.bool true:=by rw[Jb (by rw[qy];omega),if_pos rfl];rfl
     have qB:(Yj.put (some 30) (.bool (!false))).defers=[]:=e10;generalize Yj.put (some 30) (.bool (!false))=qo at qA qB;refine wpIn_cond_true qA (wpIn_ret ?_);refine⟨qB,.tuple #[],results_none rfl _ _ _,⟨_,rfl⟩,.inr ⟨pre++[⟨k,hx⟩],?_,G5⟩⟩;show(pre++[(⟨k,hx⟩:{ k:Nat//k<ew l.length })]).map yl<+:me l;rw[Gs];exact List.take_prefix _ _
   |_=>exact ry.elim
  |_=>exact hq2.elim
 |_=>exact j0.elim
end Go.Dv.Try
namespace Go.Dv.Try
open Go Go.Dv
def L7:Spec:={ lone:=false,fn:=false,run:=λ_ _=>False,iter:=ay4,mu:=false,qS:=λ_ _ _=>False }
def alX(hΓ:Sound Go.Proofs.Tryz.prog (ay [])):bU Go.Proofs.Tryz.prog 258 L7:=
 ⟨(λe=>cz),(λe=>cz),(λ_ _ _ _ _ _ _ _ h=>(show False from h).elim),(al4 hΓ).x,(λ_ _ _ _ _ _ _ _ e=>cz)⟩
abbrev rI(l:List Int):PV:=.sl 1 (l.map pI)
def aeV:Spec:=EM false false λps K=>∃(l:List Int),ps=[rI l,pI 16]/\K (.pv (.clo 258 [.cptr (rI l),.cptr (pI 16)]))
def ahK:MT (ay [(258,L7)]) uE aeV:=by
 rintro _ K ⟨l,rfl,hK⟩;refine aw (p:=(16:Int)<1) ab ?_;exact FI
def nP(cs:List (List Int)):PV:=match cs with|[]=>.nil 0|cs=>.sl 1 (cs.map rI)
def alP{cs:List (List Int)}(h:cs≠[]):nP cs=.sl 1 (cs.map rI):=by
 cases cs with
 |nil=>exact kN
 |cons _ _=>rfl
def CS{cs:List (List Int)}{σ:aF}{K:Nat->List PV->Prop}(k:∀s,K s (cs.map rI)):Ef σ (.pv (nP cs)) K:=by
 cases cs with
 |nil=>exact k 0
 |cons c cs=>exact k 1
def auV:Spec:=EM false false λps K=>∃(l:List Int),ps=[.nil 0,.clo 258 [.cptr (rI l),.cptr (pI 16)]]/\l.length<=1000000/\K (.pv (nP (chunks l)))
def VJ:MT (ay [(258,L7)]) qj auV:=by
 rintro _ K ⟨l,rfl,hl,hK⟩;refine⟨me l,λpre σ=>∃cs:List (List Int),pre=cs.map (λc=>[rI c])/\σ=(match cs with|[]=>[.box 235 [.pv (.nil 0)],.row 45 1 true []]|cs=>[.box 235 [.own 2],.row 45 1 true [],.row 45 1 true (cs.map rI)]),⟨l,rfl,hl,rfl⟩,?_,⟨rfl,[],rfl,rfl⟩,?_,?_⟩
 ·intro x hx;simp only[me,zaX]at hx;obtain⟨p,_,rfl⟩:=hx;rfl
 ·rintro pre x σ hx hlen ⟨cs,rfl,rfl⟩;simp only[me,zaX]at hx;obtain⟨c,_,rfl⟩:=hx;have hlen:=(zaa.1 hlen).1;have mE:cs.length<70000:=by
   simp only[zaw,me,chunks,zcw,ew]at hlen;omega
  cases cs with
  |nil=>
   refine⟨rfl,?_⟩;refine⟨⟨aj,aj⟩,?_⟩;refine⟨rfl,?_⟩;exact⟨rfl,rfl,[c],rfl,rfl⟩
  |cons d cs=>
   refine⟨rfl,?_⟩;refine⟨⟨by simp at mE ⊢;omega,by simp at mE ⊢;omega⟩,?_⟩;refine⟨rfl,?_⟩;exact⟨rfl,rfl,d::cs++[c],aj,aj⟩
 ·rintro σ ⟨cs,sH,rfl⟩;have:cs=chunks l:=by
   unfold me at sH;have h2:=congrArg (List.map λx:List PV=>x) sH;exact(zcI (f:=λc:List Int=>[rI c]) (λx y e=>by
    simp only[List.cons.injEq,PV.sl.injEq,true_and,and_true]at e;exact(zcI (λa b e=>by cases e;rfl)).1 e)).1 sH.symm
  subst this;unfold nP at hK;cases h:chunks l with
  |nil=>
   rw[h]at hK;exact Zg
  |cons d cs=>
   rw[h]at hK;exact FI
def Ti:Spec:=EM false false λps K=>∃(l:List Int),ps=[.clo 258 [.cptr (rI l),.cptr (pI 16)]]/\l.length<=1000000/\K (.pv (nP (chunks l)))
def acY:MT (ay [(257,auV)]) x8 Ti:=by
 rintro _ K ⟨l,rfl,hl,hK⟩;refine⟨l,rfl,hl,?_⟩;cases h:chunks l with
 |nil=>rw[h]at hK;exact Zg
 |cons d cs=>rw[h]at hK;exact FI
end Go.Dv.Try
namespace Go.Proofs
def Tryz.fZ:Go.Shelf.Ren:=⟨λ|105=>131|212=>184|99=>185|165=>186|166=>187|170=>188|169=>189|263=>221|264=>222|206=>223|240=>224|241=>225|276=>254|277=>255|n=>n,λ|9=>9|3=>3|4=>4|20=>20|0=>0|46=>213|109=>214|5=>5|72=>219|76=>223|51=>251|146=>252|53=>254|148=>255|70=>217|37=>186|75=>222|127=>257|164=>284|80=>192|n=>n,λ|n=>n⟩
def Tryz.GL:Go.Proofs.Lays.n105 Tryz.prog Tryz.fZ:={
 mixed:=by kernel_rfl
 f99:=Tryz.func185.trans (congrArg some (by kernel_rfl))
 f105:=Tryz.func131.trans (congrArg some (by kernel_rfl))
 f165:=Tryz.func186.trans (congrArg some (by kernel_rfl))
 f166:=Tryz.func187.trans (congrArg some (by kernel_rfl))
 f169:=Tryz.func189.trans (congrArg some (by kernel_rfl))
 f170:=Tryz.func188.trans (congrArg some (by kernel_rfl))
 f206:=Tryz.func223.trans (congrArg some (by kernel_rfl))
 f212:=Tryz.func184.trans (congrArg some (by kernel_rfl))
 f240:=Tryz.func224.trans (congrArg some (by kernel_rfl))
 f241:=Tryz.func225.trans (congrArg some (by kernel_rfl))
 f263:=Tryz.func221.trans (congrArg some (by kernel_rfl))
 f264:=Tryz.func222.trans (congrArg some (by kernel_rfl))
 f276:=Tryz.func254.trans (congrArg some (by kernel_rfl))
 f277:=Tryz.func255.trans (congrArg some (by kernel_rfl))
 t0:=Tryz.underlying0
 a0:=Tryz.isAgg0
 z0:=Tryz.sizeOf0
 v0:=Tryz.zeroValue0
 t3:=Tryz.underlying3
 a3:=Tryz.isAgg3
 z3:=Tryz.sizeOf3
 v3:=Tryz.zeroValue3
 t4:=Tryz.underlying4
 a4:=Tryz.isAgg4
 z4:=Tryz.sizeOf4
 v4:=Tryz.zeroValue4
 t5:=Tryz.underlying5
 a5:=Tryz.isAgg5
 z5:=Tryz.sizeOf5
 v5:=Tryz.zeroValue5
 t9:=Tryz.underlying9
 a9:=Tryz.isAgg9
 z9:=Tryz.sizeOf9
 v9:=Tryz.zeroValue9
 t20:=Tryz.underlying20
 a20:=Tryz.isAgg20
 z20:=Tryz.sizeOf20
 v20:=Tryz.zeroValue20
 t37:=Tryz.underlying186
 a37:=Tryz.isAgg186
 z37:=Tryz.sizeOf186
 v37:=Tryz.zeroValue186
 t46:=Tryz.underlying213
 a46:=Tryz.isAgg213
 z46:=Tryz.sizeOf213
 v46:=Tryz.zeroValue213
 t51:=Tryz.underlying251
 a51:=Tryz.isAgg251
 z51:=Tryz.sizeOf251
 v51:=Tryz.zeroValue251
 t53:=Tryz.underlying254
 a53:=Tryz.isAgg254
 z53:=Tryz.sizeOf254
 v53:=Tryz.zeroValue254
 t70:=Tryz.underlying217
 a70:=Tryz.isAgg217
 z70:=Tryz.sizeOf217
 v70:=Tryz.zeroValue217
 t72:=Tryz.underlying219
 a72:=Tryz.isAgg219
 z72:=Tryz.sizeOf219
 v72:=Tryz.zeroValue219
 t75:=Tryz.underlying222
 a75:=Tryz.isAgg222
 z75:=Tryz.sizeOf222
 v75:=Tryz.zeroValue222
 t76:=Tryz.underlying223
 a76:=Tryz.isAgg223
 z76:=Tryz.sizeOf223
 v76:=Tryz.zeroValue223
 t109:=Tryz.underlying214
 a109:=Tryz.isAgg214
 z109:=Tryz.sizeOf214
 v109:=Tryz.zeroValue214
 t127:=Tryz.underlying257
 a127:=Tryz.isAgg257
 z127:=Tryz.sizeOf257
 v127:=Tryz.zeroValue257
 t146:=Tryz.underlying252
 a146:=Tryz.isAgg252
 z146:=Tryz.sizeOf252
 v146:=Tryz.zeroValue252
 t148:=Tryz.underlying255
 a148:=Tryz.isAgg255
 z148:=Tryz.sizeOf255
 v148:=Tryz.zeroValue255
 t164:=Tryz.underlying284
 a164:=Tryz.isAgg284
 z164:=Tryz.sizeOf284
 v164:=Tryz.zeroValue284 }
def Tryz.pH:Builder.Extra Tryz.prog Tryz.fZ:={
 sizeBuilder:=by kernel_rfl
 liesBuilder:=by kernel_rfl
 t5:=Tryz.underlying5
 a5:=Tryz.isAgg5
 z5:=Tryz.sizeOf5
 v5:=Tryz.zeroValue5
 infoByte:=by kernel_rfl
 cellsByte:=by kernel_rfl
 sizeByte:=by kernel_rfl
 neB5:=by decide }
end Go.Proofs
namespace Go.Dv.Try
open Go Go.Dv Go.RowKit
section
def alf(l:List UInt8):Nat->List UInt8
 |0=>[]
 |c+1=>l++alf l c
def am6(l:List UInt8):∀c,Lib.repeatL l c=alf l c
 |0=>rfl
 |c+1=>by simp only[Lib.repeatL,alf,am6 l c]
def ank{P:Program}{f:FuncId}(R:List PV->PV->Prop)(avv:Enters P f)(akn:∀ps x,R ps x->x.flat)(h:∀(w:World) (ok:Nat->Prop) (ps:List PV) (x:PV) (vs:Array Value),bS ok w ps vs.toList->R ps x->Calls P f vs w λe w'=>∃v,e=.returned v/\Rd (λ_=>False) w' x v/\Below w.heap.size w w'):bU P f (ah R):=by
 refine⟨λe=>((ax R).1 e).2,λ_=>⟨rfl,rfl⟩,?_,λ_ _ _ _ _ _ _ _ h=>(show False from h).elim,λ_ _ _ _ _ _ _ _ e=>(by cases e)⟩;rintro w ok ps vs K _ di rT ⟨x,hx,hK⟩;refine⟨avv,(h w ok ps x vs rT hx).mono ?_⟩;rintro e w' ⟨v,rfl,h1,h2⟩;exact⟨v,.pv x,[],rfl,hK,h2,by simp only[RR];exact⟨anW (akn ps x hx) h1,trivial⟩,by simp,λi j u t b _ hu=>by simp at hu⟩
def Lo(ps:List PV)(x:PV):Prop:=∃(l:List UInt8) (c:Int),ps=[.str l,.int .i64 c]/\(0<=c/\c<=1000000/\l.length<=1000000)/\x=.str (alf l c.toNat)
def aqk:bU Go.Proofs.Tryz.prog rf (ah Lo):=by
 refine ank Lo (Go.Proofs.enters_of Go.Proofs.Tryz.GL.f105 (by kernel_rfl) rfl) ?_ ?_
 ·rintro ps x ⟨l,c,rfl,_,rfl⟩;trivial
 ·rintro w ok ps x vs rT ⟨l,c,rfl,⟨h1,h2,h3⟩,rfl⟩;simp only[bS,Rd]at rT;obtain⟨_,_,e,rfl,_,_,rfl,rfl,rfl⟩:=rT;have:vs= #[.string ⟨l.toArray⟩,.int .i64 c]:=by rw[<-zco];exact e
  subst this;have hb:l.length*c.toNat<=1000000*1000000:=Nat.mul_le_mul h3 (by omega);have:=Go.Proofs.Any.strings_Repeat Go.Proofs.Tryz.GL Go.Proofs.Tryz.pH ⟨l.toArray⟩ c.toNat w (by omega) (by show l.length*c.toNat<=_;omega);rw[show((c.toNat:Nat):Int)=c by omega]at this;refine this.mono ?_;rintro e w' ⟨rfl,h⟩;exact⟨_,rfl,by simp only[Rd,am6],h⟩
open Go.Shelf Go.Proofs in
end
end Go.Dv.Try
namespace Go.Proofs
def Tryz.ajR:Go.Shelf.Ren:=⟨λ|217=>297|266=>304|n=>n,λ|9=>9|5=>5|3=>3|n=>n,λ|n=>n⟩
def Tryz.ane:Go.Proofs.Lays.n217 Tryz.prog Tryz.ajR:={
 mixed:=by kernel_rfl
 f217:=Tryz.func297.trans (congrArg some (by kernel_rfl))
 f266:=Tryz.func304.trans (congrArg some (by kernel_rfl))
 t3:=Tryz.underlying3
 a3:=Tryz.isAgg3
 z3:=Tryz.sizeOf3
 v3:=Tryz.zeroValue3
 t5:=Tryz.underlying5
 a5:=Tryz.isAgg5
 z5:=Tryz.sizeOf5
 v5:=Tryz.zeroValue5
 t9:=Tryz.underlying9
 a9:=Tryz.isAgg9
 z9:=Tryz.sizeOf9
 v9:=Tryz.zeroValue9 }
end Go.Proofs
namespace Go.Dv.Try
open Go Go.Dv Go.RowKit
def qc(ps:List PV)(x:PV):Prop:=∃(l:List UInt8) (c:UInt8),ps=[.str l,aL c]/\x=pI (Lib.indexByte l c)
def af6:bU Go.Proofs.Tryz.prog gF (ah qc):=by
 refine ank qc (Go.Proofs.enters_of Go.Proofs.Tryz.ane.f217 (by kernel_rfl) rfl) ?_ ?_
 ·rintro ps x ⟨l,c,rfl,rfl⟩;trivial
 ·rintro w ok ps x vs rT ⟨l,c,rfl,rfl⟩;simp only[bS,Rd,aL]at rT;obtain⟨_,_,e,rfl,_,_,rfl,rfl,rfl⟩:=rT;have:vs= #[.string ⟨l.toArray⟩,.int .u8 (c.toNat:Nat)]:=by rw[<-zco];exact e
  subst this;refine(Go.Proofs.Any.stringslite_IndexByte Go.Proofs.Tryz.ane ⟨l.toArray⟩ (c.toNat:Nat) w).mono ?_;rintro e w' ⟨rfl,rfl⟩;refine⟨_,rfl,?_,Below.refl _ _⟩;simp only[Rd,pI];simp
end Go.Dv.Try
namespace Go.Dv.Try
open Go Go.Dv
def Ui(l:List cI):∀x∈l.map cI.pv,x.flat:=by
 intro x hx;obtain⟨t,_,rfl⟩:=zaX.1 hx;intro c hc;simp at hc;rcases hc with rfl|rfl|rfl<;>trivial
def ng{n:Nat}{w:Nat}(h:n<2^w):(BitVec.ofInt w (n:Int)).toNat=n:=by
 rw[BitVec.ofInt_natCast,BitVec.toNat_ofNat,zcx h]
def Rm{n:Nat}(h:n<2^62):IntKind.i64.wrap (n:Int)=n:=by
 have:(2:Nat)^62=4611686018427387904:=ao;exact wrap64 ab
def axa{a b:Nat}(ha:a<2^62)(hb:b<2^62):iz .or .i64 (a:Int) (b:Int)=((a|||b:Nat):Int):=by
 unfold iz;have h1:=Nat.or_lt_two_pow ha hb;have e:IntKind.i64.bits=64:=rfl;simp only[e,BitVec.toNat_or];rw[ng (zae ha ao),ng (zae hb ao)];exact Rm h1
def aiF{a b:Nat}(ha:a<2^62)(hb:b<2^62):iz .and .i64 (a:Int) (b:Int)=((a&&&b:Nat):Int):=by
 unfold iz;have h1:a&&&b<2^62:=zbT zcA ha;have e:IntKind.i64.bits=64:=rfl;simp only[e,BitVec.toNat_and];rw[ng (zae ha ao),ng (zae hb ao)];exact Rm h1
def ZV{n:Nat}(h:n<256):IntKind.u8.wrap (n:Int)=n:=by
 have hb:IntKind.u8.bits=8:=rfl;simp only[IntKind.wrap,IntKind.signed,hb];simp;omega
def aJu{a b:Nat}(ha:a<256)(hb:b<256):iz .and .u8 (a:Int) (b:Int)=((a&&&b:Nat):Int):=by
 unfold iz;have h1:a&&&b<256:=zbT zcA ha;have e:IntKind.u8.bits=8:=rfl;simp only[e,BitVec.toNat_and];rw[ng ha,ng hb];exact ZV h1
def O7{a k b:Nat}(h:a<2^k):a|||(2^k*b)=a+2^k*b:=by
 rw[zcK,<-zcv h,Nat.add_comm]
def PZ(a k:Nat):a&&&(2^k-1)=a%2^k:=zcs a k
def lV(n:Nat):UInt8:=UInt8.ofNat n
def qd{n:Nat}(h:n<256):(lV n).toNat=n:=by simp[lV];omega
def ue{n:Int}(h:0<=n/\n<256):PV.int .u8 n=aL (lV n.toNat):=by
 unfold aL;rw[qd ab];congr 1;omega
def vm(t:cI)(a:Nat):Prop:=a<4096/\if t.d≠0 then t.b=0/\1<=t.d/\t.d<=a/\3<=t.l/\t.l<=KK a/\a+t.l<=4096 else t.l=0/\0<=t.b/\t.b<=255
def jL:List cI->Nat->Prop
 |[],_=>True
 |t::l,a=>vm t a/\jL l (a+t.made.toNat)
def ur{t:cI}{a:Nat}(h:vm t a):1<=t.made/\a+t.made<=4096:=by
 unfold vm at h;unfold cI.made;obtain⟨h1,h2⟩:=h;split at h2
 ·rw[if_pos ‹_›];omega
 ·rw[if_neg ‹_›];omega
def jH:List cI->Nat->Nat
 |[],a=>a
 |t::l,a=>jH l (a+t.made.toNat)
def at9{x s:Int}(hx:0<=x)(hs:0<=s/\s<=63)(h:x.toNat*2^s.toNat<=9223372036854775807):IntKind.i64.wrap (x*2^min s.toNat IntKind.i64.bits)=((x.toNat*2^s.toNat:Nat):Int):=by
 have hb:IntKind.i64.bits=64:=rfl;have:min s.toNat IntKind.i64.bits=s.toNat:=ab;rw[this];have e:x*2^s.toNat=((x.toNat*2^s.toNat:Nat):Int):=by
  rw[Int.natCast_mul,Int.natCast_pow,show((x.toNat:Nat):Int)=x by omega];rfl
 rw[e];exact wrap64 ab
def HD:∀(l:List cI) (a:Nat),jL l a->l≠[]->a+l.length<=4096:=by
 intro l
 induction l with
 |nil=>intro a _ h;exact kN
 |cons t l ih=>
  intro a h _;obtain⟨h1,h2⟩:=h;have h3:=ur h1;by_cases hl:l=[]
  ·subst hl;simp;omega
  ·have:=ih _ h2 hl;simp only[zam];omega
def XV{α:Type}(n:Nat)(l:List α):cut 0 n l=l.take n:=by simp[cut]
def xY{α:Type}(n:Nat)(l:List α):cut n l.length l=l.drop n:=by simp[cut]
def KJ{g1 g2 l:List cI}{t:cI}(h:g1++t::g2=l){i:Int}(hi:i=g1.length):(l.map cI.pv)[i.toNat]?=some t.pv:=by
 subst h;subst hi;rw[zaC,za9,List.getElem?_append_right (zai _),zcH];rfl
def ia(t:cI)(a:Nat):Int:=
 if 4096<=a then 8
 else if t.d≠0 then
  (if t.b≠0 then 3 else if ¬(1<=t.d/\t.d<=a/\3<=t.l/\t.l<=KK a)then 2 else if 4096<a+t.l then 8 else 0)
 else(if t.l≠0 then 3 else if ¬(0<=t.b/\t.b<=255)then 2 else 0)
def L4{t:cI}{a:Nat}:ia t a=0↔vm t a:=by
 unfold ia vm;by_cases h:4096<=a
 ·rw[if_pos h];constructor
  ·intro h;cases h
  ·intro h';omega
 ·rw[if_neg h];by_cases hd:t.d≠0
  ·rw[if_pos hd,if_pos hd];split
   ·constructor
    ·intro h;cases h
    ·intro h';omega
   ·split
    ·constructor
     ·intro h;cases h
     ·intro h';omega
    ·split
     ·constructor
      ·intro h;cases h
      ·intro h';omega
     ·constructor
      ·intro _;omega
      ·intro _;rfl
  ·rw[if_neg hd,if_neg hd];split
   ·constructor
    ·intro h;cases h
    ·intro h';omega
   ·split
    ·constructor
     ·intro h;cases h
     ·intro h';omega
    ·constructor
     ·intro _;omega
     ·intro _;rfl
def dp:List cI->Nat->Nat->Int×Int
 |[],_,_=>(0,0)
 |t::l,i,a=>if ia t a≠0 then((i:Int),ia t a)else dp l (i+1) (a+t.made.toNat)
def nf(l:List cI):Int×Int:=if l=[]then(0,17)else dp l 0 0
def UT:∀(l:List cI) (i a:Nat),(dp l i a).2=0↔jL l a:=by
 intro l
 induction l with
 |nil=>intro i a;simp[dp,jL]
 |cons t l ih=>
  intro i a;unfold dp jL;split
  ·rename_i h;constructor
   ·intro h';exact absurd h' h
   ·intro h';exact absurd (L4.2 h'.1) h
  ·rename_i h;rw[ih];have:=L4.1 (zb0 h);simp[this]
def ada:∀(l:List cI) (i a:Nat),(dp l i a).2=0->(dp l i a).1=0:=by
 intro l
 induction l with
 |nil=>intro i a _;rfl
 |cons t l ih=>
  intro i a h;unfold dp at h ⊢;split
  ·rename_i h';rw[if_pos h']at h;exact absurd h h'
  ·rename_i h';rw[if_neg h']at h;exact ih _ _ h
def Vi{l:List cI}(h:(nf l).2=0):(nf l).1=0/\l≠[]/\jL l 0:=by
 unfold nf at h ⊢;split at h
 ·cases h
 ·rename_i hl;rw[if_neg hl];exact⟨ada _ _ _ h,hl,(UT _ _ _).1 h⟩
def ig:Nat->Nat->List UInt8->List UInt8
 |0,_,out=>out
 |n+1,d,out=>ig n d (out++[out[out.length-d]?.getD 0])
def Jo:∀(n d:Nat) (out:List UInt8),(ig n d out).length=out.length+n:=by
 intro n
 induction n with
 |zero=>intro d out;rfl
 |succ n ih=>intro d out;simp only[ig,ih,zad,zam,zaY];omega
def GP(t:cI)(out:List UInt8):List UInt8:=if t.d≠0 then ig t.l.toNat t.d.toNat out else out++[lV t.b.toNat]
def Em:List cI->List UInt8->List UInt8
 |[],out=>out
 |t::l,out=>Em l (GP t out)
def Ze(l:List cI):List UInt8:=Em l []
def uh{t:cI}{a:Nat}(h:vm t a)(out:List UInt8):(GP t out).length=out.length+t.made.toNat:=by
 unfold vm at h;unfold GP cI.made;split
 ·rw[Jo]
 ·simp
def amM:∀(l:List cI) (out:List UInt8) (a:Nat),jL l a->(Em l out).length+a=out.length+jH l a:=by
 intro l
 induction l with
 |nil=>intro out a _;simp[Em,jH]
 |cons t l ih=>
  intro out a h;obtain⟨h1,h2⟩:=h;have h3:=ih (GP t out) _ h2;have h4:=uh h1 out;simp only[Em,jH];omega
def awL:∀(l:List cI) (a:Nat),jL l a->a<=4096->jH l a<=4096:=by
 intro l
 induction l with
 |nil=>intro a _ h;exact h
 |cons t l ih=>
  intro a h _;have:=ur h.1;exact ih _ h.2 ab
def aN{K:Bool->Prop}(k:K false):∀r:Bool,(r=true↔true=false)->K r:=λr hr=>by
 cases r with
 |false=>exact k
 |true=>exact absurd (hr.1 rfl) ao
def bP{K:Bool->Prop}(k:K true):∀r:Bool,(r=true↔false=false)->K r:=λr hr=>by
 cases r with
 |false=>exact absurd (hr.2 rfl) ao
 |true=>exact k
def wY(ps:List PV)(x:PV):Prop:=∃(t:cI) (a:Nat),ps=[t.pv,pI a]/\a<=4096/\x=pI (ia t a)
def aln(a b:Int):bQ [a,b]=if a=0 then b else a:=by
 show(if a=0 then(if b=0 then 0 else b)else a)=_;by_cases h:b=0
 ·rw[if_pos h,h]
 ·rw[if_neg h]
def ajf(e:Int):dZ true e=0:=rfl
def abz(e:Int):dZ false e=e:=rfl
def ak3{t:cI}{a:Nat}(h:¬(a:Int)<4096):ia t a=8:=by unfold ia;rw[if_pos ab]
def ap3{t:cI}{a:Nat}(h:(a:Int)<4096)(hd:t.d≠0)(hb:t.b≠0):ia t a=3:=by unfold ia;rw[if_neg ab,if_pos hd,if_pos hb]
def aiM{t:cI}{a:Nat}(h:(a:Int)<4096)(hd:t.d≠0)(hb:t.b=0):ia t a=if ¬(1<=t.d/\t.d<=a/\3<=t.l/\t.l<=KK a)then 2 else if 4096<a+t.l then 8 else 0:=by unfold ia;rw[if_neg ab,if_pos hd,if_neg ab]
def aqi{t:cI}{a:Nat}(h:(a:Int)<4096)(hd:¬t.d≠0)(hb:t.l≠0):ia t a=3:=by unfold ia;rw[if_neg ab,if_neg hd,if_pos hb]
def ar5{t:cI}{a:Nat}(h:(a:Int)<4096)(hd:¬t.d≠0)(hb:t.l=0):ia t a=if ¬(0<=t.b/\t.b<=255)then 2 else 0:=by unfold ia;rw[if_neg ab,if_neg hd,if_neg ab]
def Zl:MT (ay [(263,ah cm),(239,ah l5),(238,ah qZ),(294,ah jl),(295,ah fF),(261,ah dW)]) zO (ah wY):=by
 rintro _ K ⟨_,⟨t,a,rfl,ha,rfl⟩,hK⟩;refine⟨ak,?_⟩;refine λb hb=>?_
 refine⟨_,⟨b,8,rfl,rfl⟩,?_⟩;have Wj:= @ak3 t a;cases hc:t.copy with
 |true=>
  have hd:t.d≠0:=oW;refine⟨pB true,⟨t,rfl,ep⟩,?_⟩;refine λe he=>?_
  rcases cmp he with⟨rfl,h1⟩|⟨rfl,h1⟩
  ·refine⟨_,⟨true,3,rfl,rfl⟩,?_⟩;refine⟨rfl,?_⟩;refine⟨_,⟨[dZ b 8,dZ true 3],rfl,rfl⟩,?_⟩;rcases cmp hb with⟨rfl,h⟩|⟨rfl,h⟩
   ·refine λq hq=>?_
    rcases cmp hq with⟨rfl,h2⟩|⟨rfl,h2⟩
    ·exact absurd rfl h2
    refine⟨_,⟨_,_,_,rfl,rfl⟩,?_⟩;refine⟨pB true,⟨t,rfl,ep⟩,?_⟩;refine⟨ak,?_⟩;by_cases h2:1<=t.d/\t.d<=a
    ·refine⟨pB true,⟨_,_,_,rfl,oH iT⟩,?_⟩;refine⟨_,⟨a,rfl,ab,rfl⟩,?_⟩;refine⟨_,⟨_,_,_,rfl,rfl⟩,?_⟩;refine⟨ak,?_⟩;refine⟨_,⟨decide (3<=t.l/\t.l<=zE a),2,rfl,rfl⟩,?_⟩;refine⟨_,⟨t,rfl,rfl⟩,?_⟩;refine λx hx=>?_
     obtain rfl:=dB hx ab;refine λc Cw=>?_
     refine⟨_,⟨c,8,rfl,rfl⟩,?_⟩;refine⟨rfl,?_⟩;refine⟨_,⟨[dZ (decide (3<=t.l/\t.l<=zE a)) 2,dZ c 8],rfl,rfl⟩,?_⟩;refine⟨.pv (pI _),bu ?_,trivial,hK⟩;rw[aln,aiM h hd h1];have hm:t.made=t.l:=Sy;rw[hm]at Cw;unfold zE;rw[zaC];by_cases h3:3<=t.l/\t.l<=(KK a:Int)
     ·rw[decide_eq_true h3,ajf,if_pos rfl,if_neg (λhn=>hn ⟨h2.1,h2.2,h3⟩)];rcases cmp Cw with⟨rfl,h4⟩|⟨rfl,h4⟩
      ·rw[if_neg ab];rfl
      ·rw[if_pos ab];rfl
     ·rw[decide_eq_false h3,abz,if_neg (show ¬(2:Int)=0 by decide),if_pos (λhn=>h3 hn.2.2)]
    ·refine⟨pB false,⟨_,_,_,rfl,oH iT⟩,?_⟩;refine⟨ak,?_⟩;refine⟨_,⟨false,2,rfl,rfl⟩,?_⟩;refine⟨_,⟨t,rfl,rfl⟩,?_⟩;refine λx hx=>?_
     obtain rfl:=dB hx ab;refine λc Cw=>?_
     refine⟨_,⟨c,8,rfl,rfl⟩,?_⟩;refine⟨rfl,?_⟩;refine⟨_,⟨[dZ false 2,dZ c 8],rfl,rfl⟩,?_⟩;refine⟨.pv (pI _),bu ?_,trivial,hK⟩;rw[aln,abz,if_neg ao];rw[aiM h hd h1,if_pos (λhn=>h2 ⟨hn.1,hn.2.1⟩)]
   ·refine λq hq=>?_
    rcases cmp hq with⟨rfl,h2⟩|⟨rfl,h2⟩
    ·refine⟨.pv (pI _),bu ?_,trivial,hK⟩;rw[Wj h];rfl
    ·exact absurd ao h2
  ·refine⟨pB true,⟨t,rfl,ep⟩,?_⟩;refine aN ?_;refine⟨_,⟨false,3,rfl,rfl⟩,?_⟩;refine⟨rfl,?_⟩;refine⟨_,⟨[dZ b 8,dZ false 3],rfl,rfl⟩,?_⟩;refine λq hq=>?_
   rcases cmp hb with⟨rfl,h⟩|⟨rfl,h⟩
   ·rcases cmp hq with⟨rfl,h2⟩|⟨rfl,h2⟩
    ·refine⟨.pv (pI _),bu ?_,trivial,hK⟩;rw[ap3 h hd h1];rfl
    ·exact absurd ao h2
   ·rcases cmp hq with⟨rfl,h2⟩|⟨rfl,h2⟩
    ·refine⟨.pv (pI _),bu ?_,trivial,hK⟩;rw[Wj h];rfl
    ·exact absurd ao h2
 |false=>
  have hd:¬t.d≠0:=oW;have hm:t.made=1:=KM;refine⟨pB false,⟨t,rfl,ep⟩,?_⟩;refine⟨pB false,⟨t,rfl,ep⟩,?_⟩;refine bP ?_;refine λe he=>?_
  refine⟨_,⟨e,3,rfl,rfl⟩,?_⟩;refine⟨rfl,?_⟩;refine⟨_,⟨[dZ b 8,dZ e 3],rfl,rfl⟩,?_⟩;refine λq hq=>?_
  rcases cmp hb with⟨rfl,h⟩|⟨rfl,h⟩
  ·rcases cmp he with⟨rfl,h1⟩|⟨rfl,h1⟩
   ·rcases cmp hq with⟨rfl,h2⟩|⟨rfl,h2⟩
    ·exact absurd rfl h2
    refine⟨_,⟨_,_,_,rfl,rfl⟩,?_⟩;refine⟨pB false,⟨t,rfl,ep⟩,?_⟩;refine⟨ak,?_⟩;refine⟨_,⟨decide (0<=t.b/\t.b<=255),2,rfl,rfl⟩,?_⟩;refine⟨_,⟨t,rfl,rfl⟩,?_⟩;refine λx hx=>?_
    obtain rfl:=dB hx ab;refine λc Cw=>?_
    refine⟨_,⟨c,8,rfl,rfl⟩,?_⟩;refine⟨rfl,?_⟩;refine⟨_,⟨[dZ (decide (0<=t.b/\t.b<=255)) 2,dZ c 8],rfl,rfl⟩,?_⟩;refine⟨.pv (pI _),bu ?_,trivial,hK⟩;rw[hm]at Cw;rw[aln,ar5 h hd h1];by_cases h3:0<=t.b/\t.b<=255
    ·rw[decide_eq_true h3,ajf,if_pos rfl,if_neg (λhn=>hn h3)];rcases cmp Cw with⟨rfl,h4⟩|⟨rfl,h4⟩
     ·rfl
     ·omega
    ·rw[decide_eq_false h3,abz,if_neg (show ¬(2:Int)=0 by decide),if_pos h3]
   ·rcases cmp hq with⟨rfl,h2⟩|⟨rfl,h2⟩
    ·refine⟨.pv (pI _),bu ?_,trivial,hK⟩;rw[aqi h hd h1];rfl
    ·exact absurd ao h2
  ·have h8:bQ [dZ false 8,dZ e 3]=8:=rfl;rcases cmp hq with⟨rfl,h2⟩|⟨rfl,h2⟩
   ·refine⟨.pv (pI _),bu ?_,trivial,hK⟩;rw[Wj h,h8]
   ·exact absurd (by rw[h8];decide) h2
def oZ:Spec:=EM true false λps K=>∃l:List cI,ps=[.sl 3 (l.map cI.pv)]/\l.length<=5000/\K (.tup [.pv (pI (nf l).1),.pv (pI (nf l).2)])
def Qo:MT (ay [(277,ah wY),(261,ah dW)]) vo oZ:=by
 rintro _ K ⟨l,rfl,hl,hK⟩;refine λ_=>?_
 refine λb hb=>?_
 rw[zaw]at hb;rcases cmp hb with⟨rfl,h⟩|⟨rfl,h⟩
 ·have:l=[]:=zaf ab;subst this;exact K0
 have dI:l≠[]:=by intro e;subst e;exact h rfl
 have hc:nf l=dp l 0 0:=by unfold nf;rw[if_neg dI]
 rw[hc]at hK;refine λ_=>?_
 rw[zaw];refine⟨λm env σ=>∃(g1 g2:List cI) (a:Nat),(g1++g2=l/\g2.length=m/\a<=4096/\dp l 0 0=dp g2 g1.length a)/\σ=[]/\env=[eN 4 a,(11,.pv (.sl 3 (l.map cI.pv))),eN 12 l.length,eN 13 g1.length],l.length,⟨[],l,0,⟨rfl,rfl,ab,rfl⟩,rfl,rfl⟩,?_⟩;rintro m env σ ⟨g1,g2,a,⟨hg,hm,ha,cL⟩,rfl,rfl⟩;have bB:g1.length+g2.length=l.length:=EZ;refine λb hb=>?_
 rcases cmp hb with⟨rfl,h2⟩|⟨rfl,h2⟩
 ·cases g2 with
  |nil=>simp at bB;omega
  |cons t g2=>
  simp only[zam]at bB hm;refine⟨_,⟨ab,KJ hg rfl⟩,?_⟩;refine⟨rfl,?_⟩;refine⟨_,⟨t,a,rfl,ha,rfl⟩,?_⟩;refine λb hb=>?_
  rcases cmp hb with⟨rfl,h3⟩|⟨rfl,h3⟩
  ·refine⟨[.pv (pI _),.pv (pI _)],⟨rfl,rfl,trivial⟩,⟨trivial,trivial,trivial⟩,?_⟩;rw[cL,dp,if_pos h3]at hK;exact hK
  ·have di:=L4.1 (zb0 h3);have vQ:=ur di;refine⟨_,⟨t,rfl,rfl⟩,?_⟩;refine λx hx=>?_
   obtain rfl:=dB hx ab;refine λx hx=>?_
   obtain rfl:=dB hx ab;refine⟨g2.length,ab,g1++[t],g2,a+t.made.toNat,⟨sv,rfl,ab,?_⟩,rfl,?_⟩
   ·rw[cL,dp,if_neg h3];simp
   ·rw[show((a+t.made.toNat:Nat):Int)=(a:Int)+t.made by omega,zad];rfl
 ·have:g2=[]:=zaf ab;subst this;rw[cL]at hK;exact K0
def HI:∀(k d:Nat) (out:List UInt8),ig (k+1) d out=ig k d out++[(ig k d out)[(ig k d out).length-d]?.getD 0]:=by
 intro k
 induction k with
 |zero=>intro d out;rfl
 |succ k ih=>
  intro d out;show ig (k+1) d (out++[out[out.length-d]?.getD 0])=_;rw[ih];rfl
def tf:Spec:=EM true false λps K=>∃l:List cI,ps=[.sl 3 (l.map cI.pv)]/\jL l 0/\K (.pv (.str (Ze l)))
def Y2:MT (ay [(263,ah cm)]) zI tf:=by
 rintro _ K ⟨l,rfl,di,hK⟩;have hlen:l.length<=4096:=by
  by_cases h:l=[]
  ·subst h;simp
  ·have:=HD l 0 di h;omega
 refine λ_=>?_
 rw[zaw];refine⟨λm env σ=>∃(g1 g2:List cI) (out:List UInt8),(g1++g2=l/\g2.length=m/\jL g2 out.length/\out.length<=4096/\Ze l=Em g2 out)/\σ=[.row 5 1 true (out.map aL)]/\env=[(3,.own 0),(6,.pv (.sl 3 (l.map cI.pv))),eN 7 l.length,eN 8 g1.length],l.length,⟨[],l,[],⟨rfl,rfl,di,aj,rfl⟩,rfl,rfl⟩,?_⟩;rintro m env σ ⟨g1,g2,out,⟨hg,hm,UF,avo,cL⟩,rfl,rfl⟩;have bB:g1.length+g2.length=l.length:=EZ;refine λb hb=>?_
 rcases cmp hb with⟨rfl,h2⟩|⟨rfl,h2⟩
 ·cases g2 with
  |nil=>simp at bB;omega
  |cons t g2=>
  simp only[zam]at bB hm;obtain⟨Eu,azM⟩:=UF;have vQ:=ur Eu;have nj:=Eu;unfold vm at nj;refine⟨_,⟨ab,KJ hg rfl⟩,?_⟩;refine⟨rfl,?_⟩;cases hc:t.copy with
  |false=>
   have hd:¬t.d≠0:=oW;have mY:t.made=1:=KM;rw[if_neg hd]at nj;refine⟨pB false,⟨t,rfl,ep⟩,?_⟩;refine bP ?_;refine λx hx=>?_
   rw[Pn]at hx;refine⟨rfl,?_⟩;refine⟨⟨aH,aH⟩,?_⟩;refine λy hy=>?_
   obtain rfl:=dB hy ab;have e:GP t out=out++[lV t.b.toNat]:=by unfold GP;rw[if_neg hd]
   refine⟨g2.length,ab,g1++[t],g2,GP t out,⟨sv,rfl,?_,?_,?_⟩,?_,?_⟩
   ·rw[uh Eu];exact azM
   ·rw[uh Eu];omega
   ·rw[cL];rfl
   ·rw[e,ue (n:=x) ab,zbs,show x.toNat=t.b.toNat by omega];rfl
   ·rw[zad];rfl
  |true=>
   have hd:t.d≠0:=oW;have mY:t.made=t.l:=Sy;rw[if_pos hd]at nj;refine⟨pB true,⟨t,rfl,ep⟩,?_⟩;refine aN ?_;refine⟨λm2 env σ=>∃k:Nat,(k+m2=t.l)/\σ=[.row 5 1 true ((ig k t.d.toNat out).map aL),.box 293 [.pv (pI t.d),.pv (pI t.l),.pv (pI t.b)]]/\env=[(3,.own 0),(5,.ref 1 0 0),(6,.pv (.sl 3 (l.map cI.pv))),eN 7 l.length,eN 8 g1.length,eN 22 t.l,eN 23 k],t.l.toNat,⟨0,ab,rfl,rfl⟩,?_⟩;rintro m2 env σ ⟨k,hk,rfl,rfl⟩;have mE:=Jo k t.d.toNat out;refine λb hb=>?_
   rcases cmp hb with⟨rfl,h3⟩|⟨rfl,h3⟩
   ·refine λ_=>?_
    rw[zaw];refine λx hx=>?_
    obtain rfl:=dB hx ab;obtain⟨v,hv⟩:∃v,(ig k t.d.toNat out)[(ig k t.d.toNat out).length-t.d.toNat]?=some v:=qp;refine⟨⟨ab,oP⟩,aL v,?_,?_⟩
    ·rw[za9,show(((ig k t.d.toNat out).length:Int)-t.d).toNat=(ig k t.d.toNat out).length-t.d.toNat by omega,hv];rfl
    refine⟨rfl,?_⟩;refine⟨⟨aH,aH⟩,?_⟩;refine λy hy=>?_
    obtain rfl:=dB hy ab;refine⟨m2-1,ab,k+1,ab,?_,rfl⟩;rw[HI,hv,zbs];rfl
   ·have ek:k=t.l.toNat:=by omega
    subst ek;have e:GP t out=ig t.l.toNat t.d.toNat out:=by unfold GP;rw[if_pos hd]
    refine λy hy=>?_
    obtain rfl:=dB hy ab;refine⟨g2.length,ab,g1++[t],g2,GP t out,⟨sv,rfl,?_,?_,?_⟩,?_,?_⟩
    ·rw[uh Eu];exact azM
    ·rw[uh Eu];omega
    ·rw[cL];rfl
    ·rw[e]
    ·rw[zad];rfl
 ·have:g2=[]:=zaf ab;subst this;rw[cL]at hK;refine⟨out,rfl,?_⟩;exact bM
def dD(s:List UInt8):Nat:=(s[0]?.getD 0).toNat+256*(s[1]?.getD 0).toNat
def yd(s:List UInt8):dD s<65536:=by
 have h1:=(s[0]?.getD 0).toNat_lt;have h2:=(s[1]?.getD 0).toNat_lt;unfold dD;omega
def P5(ps:List PV)(x:PV):Prop:=∃s:List UInt8,ps=[.str s]/\2<=s.length/\x=pI (dD s)
def ae4:MT (ay []) Db (ah P5):=by
 rintro _ K ⟨_,⟨s,rfl,hs,rfl⟩,hK⟩;obtain⟨b0,h0⟩:∃b,s[0]?=some b:=qp;obtain⟨b1,h1⟩:∃b,s[1]?=some b:=qp;have l0:=b0.toNat_lt;have l1:=b1.toNat_lt;refine⟨ak,?_⟩;refine⟨_,⟨ab,h0⟩,?_⟩;refine λx hx=>?_
 have hx:=dB hx ab;rw[hx];refine⟨_,⟨ab,h1⟩,?_⟩;refine λy hy=>?_
 have hy:=dB hy ab;rw[hy];refine⟨ab,?_⟩;refine λz hz=>?_
 have e:((b1.toNat:Int).toNat*2^(Int.toNat 8):Nat)=2^8*b1.toNat:=by rw[zaC,Nat.mul_comm];rfl
 rw[at9 ab ab (by rw[e];omega)]at hz;subst hz;refine λq hq=>?_
 rw[e,axa ab ab,O7 ab]at hq;subst hq;refine⟨.pv (pI _),bu ?_,trivial,hK⟩;unfold dD;rw[h0,h1];rfl
def ava{w:Nat}(h:w<65536):w&&&32768≠0↔32768<=w:=by
 have h1:w.testBit 15=decide (w/2^15%2=1):=Nat.testBit_eq_decide_div_mod_eq ..;have e:(32768:Nat)=2^15:=rfl;constructor
 ·intro hn;refine zb0 λaU=>hn ?_
  have h2:w.testBit 15=false:=by rw[h1,decide_eq_false_iff_not];omega
  apply Nat.eq_of_testBit_eq;intro j;rw[e,zcQ,zcG,zcM];by_cases hj:15=j
  ·subst hj;rw[h2];rfl
  ·simp[hj]
 ·intro hle hz;have h2:w.testBit 15=true:=by rw[h1,decide_eq_true_iff];omega
  have h3:(w&&&32768).testBit 15=true:=by rw[e,zcQ,zcG,h2];rfl
  rw[hz,zcM]at h3;cases h3
def abr:Spec:=EM true false λps K=>∃(s:List UInt8) (ex:Bool),ps=[.str s,pB ex]/\s.length<=5000/\
 (s.length<2->K (.tup [.pv (.str []),.pv (pB false),.pv (pI 14)]))/\
 (2<=s.length->(dD s/4096%8≠3->K (.tup [.pv (.str []),.pv (pB (decide (32768<=dD s))),.pv (pI 3)]))/\
   (dD s/4096%8=3->(s.length-2<dD s%4096+1\/(ex=true/\dD s%4096+1<s.length-2)->K (.tup [.pv (.str []),.pv (pB (decide (32768<=dD s))),.pv (pI 10)]))/\
     (¬(s.length-2<dD s%4096+1\/(ex=true/\dD s%4096+1<s.length-2))->K (.tup [.pv (.str ((s.drop 2).take (dD s%4096+1))),.pv (pB (decide (32768<=dD s))),.pv (pI 0)]))))
def afO:MT (ay [(259,ah P5),(239,ah l5)]) C6 abr:=by
 rintro _ K ⟨s,ex,rfl,hs,Gt,xy⟩;refine λb hb=>?_
 rcases cmp hb with⟨rfl,h⟩|⟨rfl,h⟩
 ·exact⟨[.pv (.str _),.pv (pB _),.pv _],⟨rfl,rfl,rfl,trivial⟩,⟨trivial,trivial,trivial,trivial⟩,Gt ab⟩
 have h2:2<=s.length:=ab;have hK:=xy h2;have hw:=yd s;refine⟨_,⟨s,rfl,h2,rfl⟩,?_⟩;refine λx hx=>?_
 rw[show(4095:Int)=((4095:Nat):Int)from rfl,aiF ab ao,show(4095:Nat)=2^12-1 from rfl,PZ]at hx;subst hx;refine λx hx=>?_
 obtain rfl:=dB hx ab;refine⟨ab,?_⟩;have e9:cut (Int.toNat 2) s.length s=s.drop 2:=xY 2 s;refine⟨ab,?_⟩;refine λx hx=>?_
 have hx:x=((dD s/4096:Nat):Int):=by
  rw[hx];show((dD s:Nat):Int).fdiv (2^12)=_;rw[zbY _ ao];rfl
 subst hx;refine λx hx=>?_
 rw[show(7:Int)=((7:Nat):Int)from rfl,aiF ab ao,show(7:Nat)=2^3-1 from rfl,PZ]at hx;subst hx;refine λb3 rv=>?_
 refine⟨_,⟨b3,3,rfl,rfl⟩,?_⟩;refine λx hx=>?_
 rw[show(32768:Int)=((32768:Nat):Int)from rfl,aiF ab ao]at hx;have zg:=ava (yd s);subst hx;refine λc hc=>?_
 have WQ:c=decide (32768<=dD s):=by
  rw[zaN,hc,decide_eq_true_iff,<-zg];omega
 subst WQ;refine λb hb=>?_
 rcases cmp rv with⟨rfl,h3⟩|⟨rfl,h3⟩
 ·rcases cmp hb with⟨rfl,h⟩|⟨rfl,h⟩
  ·exact kN
  have hK:=hK.2 ab;refine λb hb=>?_
  rw[e9,zay]at hb;rcases cmp hb with⟨rfl,h4⟩|⟨rfl,h4⟩
  ·exact⟨[.pv (.str _),.pv (pB _),.pv _],⟨rfl,rfl,rfl,trivial⟩,⟨trivial,trivial,trivial,trivial⟩,hK.1 (.inl ab)⟩
  have avQ:cut 0 (((dD s%2^12:Nat):Int)+1).toNat (cut (Int.toNat 2) s.length s)=(s.drop 2).take (dD s%4096+1):=by
   rw[e9,XV,show(((dD s%2^12:Nat):Int)+1).toNat=dD s%4096+1 by omega]
  cases ex with
  |false=>
   have hK:=hK.2 (by rintro(h5|⟨h5,_⟩);omega;cases h5);rw[<-avQ]at hK;refine⟨⟨ab,by rw[e9,zay];omega⟩,?_⟩;exact⟨[.pv (.str _),.pv (pB _),.pv _],⟨rfl,rfl,rfl,trivial⟩,⟨trivial,trivial,trivial,trivial⟩,hK⟩
  |true=>
   refine λb hb=>?_
   rw[e9,zay]at hb;rcases cmp hb with⟨rfl,h5⟩|⟨rfl,h5⟩
   ·exact⟨[.pv (.str _),.pv (pB _),.pv _],⟨rfl,rfl,rfl,trivial⟩,⟨trivial,trivial,trivial,trivial⟩,hK.1 (.inr ⟨rfl,ab⟩)⟩
   have hK:=hK.2 (by rintro(h6|⟨_,h6⟩);omega;omega);rw[<-avQ]at hK;refine⟨⟨ab,by rw[e9,zay];omega⟩,?_⟩;exact⟨[.pv (.str _),.pv (pB _),.pv _],⟨rfl,rfl,rfl,trivial⟩,⟨trivial,trivial,trivial,trivial⟩,hK⟩
 ·rcases cmp hb with⟨rfl,h⟩|⟨rfl,h⟩
  ·exact⟨[.pv (.str _),.pv (pB _),.pv _],⟨rfl,rfl,rfl,trivial⟩,⟨trivial,trivial,trivial,trivial⟩,hK.1 ab⟩
  ·exact BZ
def B_(g w:Nat):cI:=⟨((w/2^g+1:Nat):Int),((w%2^g+3:Nat):Int),0⟩
def Wm(s:List UInt8):cI:=⟨0,0,((s[0]?.getD 0).toNat:Int)⟩
def sb(s:List UInt8):Nat:=(s[0]?.getD 0).toNat+256*(s[1]?.getD 0).toNat
def aY(g:Nat->Nat):Nat->Nat->Nat->List UInt8->Nat->Int×List cI
 |0,_,_,_,_=>(0,[])
 |n+1,0,_,s,a=>if s=[]then(0,[])else if s.length=1 then(14,[])else aY g n 8 (s[0]?.getD 0).toNat (s.drop 1) a
 |n+1,left+1,f,s,a=>
  if s=[]then(if f≠0 then(3,[])else(0,[]))
  else if f%2=1 then
   (if s.length<2 then(14,[])else((aY g n left (f/2) (s.drop 2) (a+(B_ (g a) (sb s)).made.toNat)).1,B_ (g a) (sb s)::(aY g n left (f/2) (s.drop 2) (a+(B_ (g a) (sb s)).made.toNat)).2))
  else((aY g n left (f/2) (s.drop 1) (a+1)).1,Wm s::(aY g n left (f/2) (s.drop 1) (a+1)).2)
def amK(g h:Nat->Nat):∀(n left f:Nat) (s:List UInt8) (a b:Nat),(aY g n left f s a).1=(aY h n left f s b).1:=by
 intro n
 induction n with
 |zero=>intro left f s a b;rfl
 |succ n ih=>
  intro left f s a b;cases left with
  |zero=>
   simp only[aY]
   grind
  |succ left=>
   simp only[aY]
   grind
def ZN{t:cI}{a:Nat}(h:4096<=a):ia t a=8:=by unfold ia;omega
def aj_(g h:Nat->Nat)(mX:∀a,a<4096->g a=h a):∀(n left f:Nat) (s:List UInt8) (a i:Nat),dp (aY g n left f s a).2 i a=dp (aY h n left f s a).2 i a/\((dp (aY g n left f s a).2 i a).2=0->(aY g n left f s a).2=(aY h n left f s a).2)/\((aY g n left f s a).2=[]↔(aY h n left f s a).2=[]):=by
 intro n
 induction n with
 |zero=>intro left f s a i;exact RY
 |succ n ih=>
  intro left f s a i;have step:∀(t u:cI) (s':List UInt8),(a<4096->t=u)->
   dp (t::(aY g n left.pred (f/2) s' (a+t.made.toNat)).2) i a=dp (u::(aY h n left.pred (f/2) s' (a+u.made.toNat)).2) i a/\((dp (t::(aY g n left.pred (f/2) s' (a+t.made.toNat)).2) i a).2=0->t::(aY g n left.pred (f/2) s' (a+t.made.toNat)).2=u::(aY h n left.pred (f/2) s' (a+u.made.toNat)).2):=by
   intro t u s' QH;by_cases ha:a<4096
   ·have:=QH ha;subst this;simp only[dp];split
    ·rename_i he;exact⟨rfl,λh0=>absurd h0 he⟩
    ·have h1:=ih left.pred (f/2) s' (a+t.made.toNat) (i+1);exact⟨h1.1,λh0=>by rw[h1.2.1 h0]⟩
   ·simp only[dp,ZN (t:=t) (a:=a) ab,ZN (t:=u) (a:=a) ab];exact⟨rfl,λh0=>by cases h0⟩
  cases left with
  |zero=>
   simp only[aY];split
   ·exact RY
   ·split
    ·exact RY
    ·exact ih _ _ _ _ _
  |succ left=>
   simp only[aY];split
   ·exact⟨rfl,λ_=>by split<;>rfl,by split<;>exact Iff.rfl⟩
   ·split
    ·split
     ·exact RY
     ·have:=step (B_ (g a) (sb s)) (B_ (h a) (sb s)) (s.drop 2) (λha=>by rw[mX a ha]);exact⟨this.1,this.2,aj⟩
    ·have:=step (Wm s) (Wm s) (s.drop 1) (λ_=>rfl);have e:(Wm s).made.toNat=1:=rfl;rw[e]at this;exact⟨this.1,this.2,aj⟩
def IY(g:Nat->Nat)(s:List UInt8):List cI×Int:=
 if (aY g (s.length+1) 0 0 s 0).1≠0 then([],(aY g (s.length+1) 0 0 s 0).1)
 else if (nf (aY g (s.length+1) 0 0 s 0).2).2≠0 then([],(nf (aY g (s.length+1) 0 0 s 0).2).2)else((aY g (s.length+1) 0 0 s 0).2,0)
def aoT(g h:Nat->Nat)(mX:∀a,a<4096->g a=h a)(s:List UInt8):IY g s=IY h s:=by
 have h1:=amK g h (s.length+1) 0 0 s 0 0;have h2:=aj_ g h mX (s.length+1) 0 0 s 0 0;unfold IY;rw[h1];split
 ·rfl
 ·have hc:nf (aY g (s.length+1) 0 0 s 0).2=nf (aY h (s.length+1) 0 0 s 0).2:=by
   unfold nf
   grind
  rw[hc];split
  ·rfl
  ·rename_i h3;have:(dp (aY g (s.length+1) 0 0 s 0).2 0 0).2=0:=by
    unfold nf at h3
    grind
   grind
def aja(g:Nat->Nat):∀(n left f:Nat) (s:List UInt8) (a:Nat),s.length<n->aY g (n+1) left f s a=aY g n left f s a:=by
 intro n
 induction n with
 |zero=>omega
 |succ n ih=>
  intro left f s a h;cases left with
  |zero=>
   rw[aY,aY]
   grind
  |succ left=>
   rw[aY,aY];split
   ·rfl
   ·rename_i hs;have hl:=zb8.2 hs
    grind
def qI(g:Nat->Nat)(left f:Nat)(s:List UInt8)(a:Nat):Int×List cI:=aY g (s.length+1) left f s a
def Ft(g:Nat->Nat)(f a:Nat):qI g 0 f [] a=(0,[]):=by rfl
def Bh(g:Nat->Nat)(left f a:Nat):qI g (left+1) f [] a=if f≠0 then(3,[])else(0,[]):=by rfl
def an9(g:Nat->Nat)(f a:Nat){s:List UInt8}(h:s.length=1):qI g 0 f s a=(14,[]):=by
 unfold qI;rw[aY,if_neg bf,if_pos h]
def OJ(g:Nat->Nat)(f a:Nat){s:List UInt8}(h:2<=s.length):qI g 0 f s a=qI g 8 (s[0]?.getD 0).toNat (s.drop 1) a:=by
 unfold qI;rw[aY,if_neg bf,if_neg ab,zay,show s.length-1+1=s.length by omega]
def Kc(g:Nat->Nat)(left f a:Nat){s:List UInt8}(h:s.length=1)(hf:f%2=1):qI g (left+1) f s a=(14,[]):=by
 unfold qI;rw[aY,if_neg bf,if_pos hf,if_pos ab]
def Mg(g:Nat->Nat)(left f a:Nat){s:List UInt8}(h:2<=s.length)(hf:f%2=1):
 qI g (left+1) f s a=((qI g left (f/2) (s.drop 2) (a+(B_ (g a) (sb s)).made.toNat)).1,B_ (g a) (sb s)::(qI g left (f/2) (s.drop 2) (a+(B_ (g a) (sb s)).made.toNat)).2):=by
 unfold qI;rw[aY,if_neg bf,if_pos hf,if_neg ab,zay];rw[<-aja g (s.length-2+1) left (f/2) (s.drop 2) _ aj,show s.length-2+1+1=s.length by omega]
def PT(g:Nat->Nat)(left f a:Nat){s:List UInt8}(h:1<=s.length)(hf:¬f%2=1):
 qI g (left+1) f s a=((qI g left (f/2) (s.drop 1) (a+1)).1,Wm s::(qI g left (f/2) (s.drop 1) (a+1)).2):=by
 unfold qI;rw[aY,if_neg bf,if_neg hf,zay,show s.length-1+1=s.length by omega]
def rW(g:Nat->Nat)(s:List UInt8):IY g s=if (qI g 0 0 s 0).1≠0 then([],(qI g 0 0 s 0).1)else if (nf (qI g 0 0 s 0).2).2≠0 then([],(nf (qI g 0 0 s 0).2).2)else((qI g 0 0 s 0).2,0):=rfl
def kg(g:Nat->Nat)(s0:List UInt8)(acc:List cI)(left f:Nat)(s:List UInt8)(a:Nat):Prop:=
 qI g 0 0 s0 0=((qI g left f s a).1,acc++(qI g left f s a).2)
def TQ(a:Nat):Nat:=if a<4096 then 16-dh a else 16
def qW(a:Nat):Nat:=16-dh (min a 4095)
def aB6(a:Nat)(h:a<4096):TQ a=qW a:=by unfold TQ qW;grind
def awv(a:Nat):4<=qW a/\qW a<=12:=by
 have h1:=lC (a:=min a 4095) ab;have h2:=wJ (min a 4095);unfold qW;omega
def apE(g:Nat->Nat)(l f a:Nat)(hf:f%2=0)(hl:f<2^(l+1)):qI g (l+1) f [] a=qI g l (f/2) [] a:=by
 cases l with
 |zero=>rw[Bh,Ft,if_neg (by simp at hl;omega)]
 |succ l=>
  rw[Bh,Bh];by_cases h:f=0
  ·subst h;rfl
  ·rw[if_pos h,if_pos ab]
def S4:Spec:=EM true false λps K=>∃s:List UInt8,ps=[.str s]/\s.length<=5000/\K (.tup [.fresh 293 3 ((IY qW s).1.map cI.pv),.pv (pI (IY qW s).2)])
set_option maxHeartbeats 1000000 in
def afI:MT (ay [(260,ah rU),(259,ah P5),(261,ah dW),(262,oZ)]) Ds S4:=by
 rintro _ K ⟨s0,rfl,lK,hK⟩;refine⟨λm env σ=>∃(acc:List cI) (f a:Nat) (s:List UInt8),(s.length=m/\acc.length+s.length<=s0.length/\a<=70000*acc.length/\kg qW s0 acc 0 f s a)/\σ=[.row 293 3 true (acc.map cI.pv)]/\env=[(0,.pv (.str s)),(4,.own 0),eN 5 a],s0.length,⟨[],0,0,s0,⟨rfl,aj,aj,by unfold kg;simp⟩,rfl,rfl⟩,?_⟩;rintro m env σ ⟨acc,f,a,s,⟨hm,kf,rE,pO⟩,rfl,rfl⟩;refine λb hb=>?_
 rcases cmp hb with⟨rfl,dI⟩|⟨rfl,dI⟩
 ·have Gq:0<s.length:=zb8.2 dI;obtain⟨fb,eH⟩:∃v,s[0]?=some v:=by rw[zah Gq];exact⟨_,rfl⟩
  have SL:=fb.toNat_lt;have uF:cut (Int.toNat 1) s.length s=s.drop 1:=xY 1 s;refine⟨_,⟨ab,eH⟩,?_⟩;refine⟨ab,?_⟩;refine λb hb=>?_
  rw[uF]at hb;rcases cmp hb with⟨rfl,he⟩|⟨rfl,he⟩
  ·have pj:s.length=1:=by
    have:(s.drop 1).length=0:=by rw[he];rfl
    rw[zay]at this;omega
   have h1:=an9 qW f a pj;unfold kg at pO;rw[h1]at pO;rw[rW,pO]at hK;dsimp only at hK;rw[if_pos ao]at hK;exact uG
  have LA:2<=s.length:=by
   have:0<(s.drop 1).length:=zb8.2 he;rw[zay]at this;omega
  have pO:kg qW s0 acc 8 (fb.toNat/2^0) (s.drop 1) a:=by
   unfold kg at pO ⊢;rw[OJ qW f a LA,eH]at pO;simpa using pO
  refine⟨λm2 env σ=>∃(acc:List cI) (a k:Nat) (q:List UInt8),(k+m2=8/\q.length<m/\acc.length+q.length<=s0.length/\a<=70000*acc.length/\kg qW s0 acc (8-k) (fb.toNat/2^k) q a)/\σ=[.row 293 3 true (acc.map cI.pv)]/\env=[(0,.pv (.str q)),(4,.own 0),eN 5 a,(6,.pv (aL fb)),eN 22 k],8,⟨acc,a,0,s.drop 1,⟨rfl,ef,ef,rE,pO⟩,rfl,?_⟩,?_⟩
  ·show[(0,AV.pv (.str (cut (Int.toNat 1) s.length s))),(4,.own 0),eN 5 a,(6,.pv (aL fb)),eN 22 0]=_;rw[uF];rfl
  clear pO rE kf eH LA uF;rintro m2 env σ ⟨acc,a,k,q,⟨hk,yu,kf,rE,pO⟩,rfl,rfl⟩;refine λb hb=>?_
  rcases cmp hb with⟨rfl,F1⟩|⟨rfl,F1⟩
  ·obtain⟨l,hl⟩:∃l,8-k=l+1:=⟨7-k,ab⟩
   have cK:8-(k+1)=l:=ab;have Wp:fb.toNat/2^(k+1)=fb.toNat/2^k/2:=by rw[zcn,Nat.pow_succ]
   have aKV:fb.toNat/2^k<2^(l+1):=by
    rw[Nat.div_lt_iff_lt_mul (zcB k),<-zcE,show l+1+k=8 by omega];omega
   have aPo:fb.toNat/2^k<=fb.toNat:=zcR _ _;rw[hl]at pO;refine⟨ab,?_⟩;refine λx hx=>?_
   have hx:x=((fb.toNat/2^k:Nat):Int):=by
    rw[hx];have e8:min ((k:Int)).toNat IntKind.u8.bits=k:=by
     have:IntKind.u8.bits=8:=rfl;omega
    rw[e8,show((2:Int)^k)=((2^k:Nat):Int) by simp,zbY _ (zcg _)];rfl
   subst hx;generalize fb.toNat/2^k=fk at*;refine λx hx=>?_
   rw[show(1:Int)=((1:Nat):Int)from rfl,aJu ab ao,show(1:Nat)=2^1-1 from rfl,PZ]at hx;subst hx;refine λb hb=>?_
   rcases cmp hb with⟨rfl,hq⟩|⟨rfl,hq⟩
   ·subst hq;refine λb hb=>?_
    rcases cmp hb with⟨rfl,pD⟩|⟨rfl,pD⟩
    ·unfold kg at pO;rw[Bh,if_pos ab]at pO;rw[rW,pO]at hK;dsimp only at hK;rw[if_pos ao]at hK;exact uG
    ·refine λy hy=>?_
     have hy:=dB hy ab;rw[hy];refine⟨m2-1,ab,acc,a,k+1,[],⟨ab,yu,kf,rE,?_⟩,rfl,rfl⟩;unfold kg at pO ⊢;rw[cK,Wp,pO,apE qW l fk a ab aKV]
   ·have yz:0<q.length:=zb8.2 hq;obtain⟨v,hv⟩:∃v,q[0]?=some v:=by rw[zah yz];exact⟨_,rfl⟩
    have Ja:=v.toNat_lt;have avS:Wm q=⟨0,0,(v.toNat:Int)⟩:=by unfold Wm;rw[hv];rfl
    have uF:cut (Int.toNat 1) q.length q=q.drop 1:=xY 1 q;refine⟨_,⟨ab,hv⟩,?_⟩;refine λy hy=>?_
    have hy:=dB hy ab;rw[hy];refine⟨rfl,?_⟩;refine⟨rfl,?_⟩;refine λb hb=>?_
    rcases cmp hb with⟨rfl,pD⟩|⟨rfl,pD⟩
    ·have akB:fk%2=1:=by omega
     refine λb t_=>?_
     rcases cmp t_ with⟨rfl,dV⟩|⟨rfl,dV⟩
     ·have h1:=Kc qW l fk a (s:=q) ab akB;unfold kg at pO;rw[h1]at pO;rw[rW,pO]at hK;dsimp only at hK;rw[if_pos ao]at hK;exact uG
     have fM:=Mg qW l fk a (s:=q) ab akB;unfold kg at pO;rw[fM]at pO;have yJ:sb q<65536:=yd _;have wq:dD q=sb q:=rfl;have hg:=awv a;refine λx hx=>?_
     have hx:x=((min a 4095:Nat):Int):=ab;subst hx;refine⟨_,⟨_,rfl,⟨ab,ab⟩,rfl⟩,?_⟩;unfold pY;rw[zaC];refine λy hy=>?_
     have Bi:qW a=16-dh (min a 4095):=rfl;have hs:=lC (a:=min a 4095) ab;have hy:=dB hy ab;have hy:y=(qW a:Nat):=ab;subst hy;refine⟨_,⟨q,rfl,ab,rfl⟩,?_⟩;rw[wq];generalize sb q=w at*;have Kk:=zcB (qW a);have aPq:2^qW a<=2^12:=zce ab ab;have qG:w/2^qW a<=w:=zcR _ _;have yK:w%2^qW a<=w:=Nat.mod_le _ _;have PE:B_ (qW a) w=⟨((w/2^qW a:Nat):Int)+1,((w%2^qW a:Nat):Int)+3,0⟩:=rfl;obtain⟨qq,Wu⟩:∃x,w/2^qW a=x:=⟨_,rfl⟩
     obtain⟨r,hr⟩:∃x,w%2^qW a=x:=⟨_,rfl⟩
     rw[Wu,hr]at PE;rw[Wu]at qG;rw[hr]at yK;refine⟨ak,?_⟩;refine⟨ab,?_⟩;refine λy hy=>?_
     have hy:y=(qq:Int):=by
      rw[hy];have e8:min ((qW a:Nat):Int).toNat IntKind.i64.bits=qW a:=by
       have:IntKind.i64.bits=64:=rfl;omega
      rw[e8,show((2:Int)^qW a)=((2^qW a:Nat):Int) by simp,zbY _ (zcg _),<-Wu];rfl
     subst hy;refine λy hy=>?_
     have hy:=dB hy ab;rw[hy];refine⟨ab,?_⟩;refine λy hy=>?_
     have hy:y=((2^qW a:Nat):Int):=by
      rw[at9 ab ab (by rw[zaC];simp;omega)]at hy;rw[hy,zaC];simp
     subst hy;refine λy hy=>?_
     have hy:=dB hy ab;have hy:y=((2^qW a-1:Nat):Int):=ab;subst hy;refine λy hy=>?_
     rw[aiF ab ab,PZ,hr]at hy;subst hy;refine λy hy=>?_
     have hy:=dB hy ab;rw[hy];refine⟨rfl,?_⟩;refine⟨rfl,?_⟩;refine⟨rfl,?_⟩;have lL:(⟨(qq:Int)+1,(r:Int)+3,0⟩:cI).made=(r:Int)+3:=by
      unfold cI.made;rw[if_pos (show(qq:Int)+1≠0 by omega)]
     rw[PE,lL,show((r:Int)+3).toNat=r+3 by omega]at pO;refine⟨ab,?_⟩;have aPr:(q.drop 1).length=q.length-1:=zay;have WE:cut (Int.toNat 1) (q.drop 1).length (q.drop 1)=q.drop 2:=by rw[show cut (Int.toNat 1) (q.drop 1).length (q.drop 1)=(q.drop 1).drop 1 from xY 1 _,zaQ]
     refine⟨by rw[uF];omega,?_⟩;refine⟨rfl,?_⟩;refine⟨⟨aH,aH⟩,?_⟩;refine⟨_,⟨(⟨(qq:Int)+1,(r:Int)+3,0⟩:cI),rfl,rfl⟩,?_⟩;rw[lL];refine λy hy=>?_
     have hy:=dB hy ab;rw[hy];refine λy hy=>?_
     have hy:=dB hy ab;rw[hy];refine⟨m2-1,ab,acc++[(⟨(qq:Int)+1,(r:Int)+3,0⟩:cI)],a+(r+3),k+1,q.drop 2,⟨ab,ef,ahy,fP,?_⟩,?_,?_⟩
     ·unfold kg;rw[cK,Wp,pO];simp
     ·rw[zbs];rfl
     ·show[(0,AV.pv (.str (cut (Int.toNat 1) (cut (Int.toNat 1) q.length q).length (cut (Int.toNat 1) q.length q)))),(4,.own 0),eN 5 ((a:Int)+((r:Int)+3)),(6,.pv (aL fb)),eN 22 ((k:Int)+1)]=_;rw[uF,WE,show((a+(r+3):Nat):Int)=(a:Int)+((r:Int)+3) by omega];rfl
    ·have sO:¬fk%2=1:=by omega
     have fM:=PT qW l fk a (s:=q) ab sO;unfold kg at pO;rw[fM,avS]at pO;refine⟨ab,?_⟩;refine⟨rfl,?_⟩;refine⟨⟨aH,aH⟩,?_⟩;refine⟨_,⟨(⟨0,0,(v.toNat:Int)⟩:cI),rfl,rfl⟩,?_⟩;have mY:(⟨0,0,(v.toNat:Int)⟩:cI).made=1:=rfl;rw[mY];refine λy hy=>?_
     have hy:=dB hy ab;rw[hy];refine λy hy=>?_
     have hy:=dB hy ab;rw[hy];refine⟨m2-1,ab,acc++[(⟨0,0,(v.toNat:Int)⟩:cI)],a+1,k+1,q.drop 1,⟨ab,ef,ahy,fP,?_⟩,?_,?_⟩
     ·unfold kg;rw[cK,Wp,pO];simp
     ·rw[zbs];rfl
     ·show[(0,AV.pv (.str (cut (Int.toNat 1) q.length q))),(4,.own 0),eN 5 ((a:Int)+1),(6,.pv (aL fb)),eN 22 ((k:Int)+1)]=_;rw[uF];rfl
  ·have hk:k=8:=by omega
   subst hk;refine⟨q.length,ab,acc,fb.toNat/2^8,a,q,⟨rfl,kf,rE,pO⟩,rfl,rfl⟩
 ·have:s=[]:=zb0 dI;subst this;unfold kg at pO;rw[Ft]at pO;rw[rW,pO]at hK;dsimp only at hK;rw[if_neg ao,List.append_nil]at hK;refine⟨acc,rfl,by simp at kf;omega,?_⟩;refine λb hb=>?_
  rcases cmp hb with⟨rfl,h⟩|⟨rfl,h⟩
  ·rw[if_pos h]at hK;exact uG
  ·rw[if_neg h]at hK;exact⟨[.fresh _ _ _,.pv _],⟨⟨rfl,rfl,rfl,rfl⟩,rfl,trivial⟩,⟨Ui _,trivial,trivial⟩,hK⟩
def aoj{g:Nat->Nat}{s:List UInt8}(h:(IY g s).2=0):jL (IY g s).1 0:=by
 unfold IY at h ⊢;split at h
 ·rename_i h1;exact absurd h h1
 ·rename_i h1;rw[if_neg h1];split at h
  ·rename_i h2;exact absurd h h2
  ·rename_i h2;rw[if_neg h2];exact(Vi (zb0 h2)).2.2
def ai(n:Nat):List UInt8:=List.replicate n 0
def Zh:∀n,alf [0] n=ai n:=by
 intro n
 induction n with
 |zero=>rfl
 |succ n ih=>show[0]++alf [0] n=_;rw[ih];rfl
def Xs(ps:List PV)(x:PV):Prop:=∃n:Int,ps=[pI n]/\(0<=n/\n<=200000)/\x=.str (ai n.toNat)
def akb:MT (ay []) Ha (ah Xs):=by
 rintro _ K ⟨_,⟨n,rfl,h,rfl⟩,hK⟩;refine λx hx=>?_
 refine λy hy=>?_
 have hy:y=n:=ab;rw[hy];refine⟨ab,?_⟩;refine⟨ai n.toNat,?_,?_⟩
 ·unfold ai;rw[zci];rfl
 exact bM
def Xj(ps:List PV)(x:PV):Prop:=∃n:Int,ps=[pI n]/\(0<=n/\n<=200000)/\x=.str (ai n.toNat)
def aiO:MT (ay [(131,ah Lo)]) Ev (ah Xj):=by
 rintro _ K ⟨_,⟨n,rfl,h,rfl⟩,hK⟩;refine⟨_,⟨[0],n,rfl,aH,rfl⟩,?_⟩;refine⟨.pv (.str _),?_,trivial,hK⟩;show PV.str (ai n.toNat)=PV.str (alf [0] n.toNat);rw[Zh]
def GS(ps:List PV)(x:PV):Prop:=∃n:Int,ps=[pI n]/\(0<=n/\n<=1000000)/\x=pI ((n+255)/256)
def YU:MT (ay []) zx (ah GS):=by
 rintro _ K ⟨_,⟨n,rfl,h,rfl⟩,hK⟩;refine λx hx=>?_
 have hx:=dB hx ab;rw[hx];refine λx hx=>?_
 have hx:=dB hx ab;rw[hx];refine⟨ao,?_⟩;refine λx hx=>?_
 rw[zb6 ab]at hx;have hx:=dB hx ab;rw[hx];refine⟨.pv (pI _),bu ?_,trivial,hK⟩;omega
def aW(n:Nat):(ai n).length=n:=by simp[ai]
def b9(s:List UInt8):List UInt8×Int:=
 if 4096<s.length\/s.length%256≠0 then([],10)
 else if s.length=0 then(ai 4096,0)
 else if s.length=4096 then(s,0)
 else if dD s/4096%8≠3 then([],3)
 else if dD s<32768 then([],15)
 else if s.length-2<dD s%4096+1 then([],10)
 else if (IY TQ ((s.drop 2).take (dD s%4096+1))).2≠0 then([],(IY TQ ((s.drop 2).take (dD s%4096+1))).2)
 else if (Ze (IY TQ ((s.drop 2).take (dD s%4096+1))).1).length≠4096 then([],10)
 else if s.drop (2+(dD s%4096+1))≠ai (s.length-(2+(dD s%4096+1)))\/256<=s.length-(2+(dD s%4096+1))then([],3)
 else(Ze (IY TQ ((s.drop 2).take (dD s%4096+1))).1,0)
def By:Spec:=EM true false λps K=>∃s:List UInt8,ps=[.str s]/\s.length<=5000/\K (.tup [.pv (.str (b9 s).1),.pv (pI (b9 s).2)])
def anM{l:List cI}(h:jL l 0):(Ze l).length<=4096:=by
 have h1:=amM l [] 0 h;have h2:=awL l 0 h ab;unfold Ze;simp at h1;omega
set_option maxHeartbeats 1000000 in
def To:MT (ay [(236,ah Xj),(237,abr),(239,ah l5),(238,ah qZ),(240,S4),(241,tf),(242,ah GS)]) wb By:=by
 rintro _ K ⟨s,rfl,hs,hK⟩;have hw:=yd s;unfold b9 at hK;refine λb hb=>?_
 rcases cmp hb with⟨rfl,h1⟩|⟨rfl,h1⟩
 ·rw[if_pos (.inl ab)]at hK;exact dA
 refine⟨ao,?_⟩;refine λx hx=>?_
 rw[zcf ab]at hx;rw[hx];refine λb hb=>?_
 rcases cmp hb with⟨rfl,h2⟩|⟨rfl,h2⟩
 ·rw[if_pos (.inr ab)]at hK;exact dA
 rw[if_neg (by rintro(h|h);omega;omega)]at hK;refine λb hb=>?_
 rcases cmp hb with⟨rfl,h3⟩|⟨rfl,h3⟩
 ·rw[if_pos ab]at hK;refine⟨_,⟨4096,rfl,ab,rfl⟩,?_⟩;exact dA
 rw[if_neg ab]at hK;refine λb hb=>?_
 rcases cmp hb with⟨rfl,h4⟩|⟨rfl,h4⟩
 ·rw[if_pos ab]at hK;exact dA
 rw[if_neg ab]at hK;refine⟨s,false,rfl,hs,λh=>ab,λLA=>⟨λh5=>?_,λh5=>⟨λh6=>?_,λh6=>?_⟩⟩⟩
 ·rw[if_pos h5]at hK;refine λb hb=>?_
  rcases cmp hb with⟨rfl,h⟩|⟨rfl,h⟩
  ·exact absurd h ao
  refine λb hb=>?_
  rcases cmp hb with⟨rfl,h⟩|⟨rfl,h⟩
  ·exact absurd h ao
  refine λb hb=>?_
  rcases cmp hb with⟨rfl,h⟩|⟨rfl,h⟩
  ·exact dA
  ·exact BZ
 ·have h6:s.length-2<dD s%4096+1:=by
   rcases h6 with h6|⟨h6,_⟩
   ·exact h6
   ·cases h6
  rw[if_neg ab]at hK;refine λb hb=>?_
  rcases cmp hb with⟨rfl,h⟩|⟨rfl,h⟩
  ·exact absurd h ao
  refine λb hb=>?_
  rcases cmp hb with⟨rfl,h⟩|⟨rfl,h⟩
  case inr=>exact kN
  refine⟨_,⟨decide (32768<=dD s),15,rfl,rfl⟩,?_⟩;refine⟨rfl,?_⟩;refine⟨_,⟨[dZ (decide (32768<=dD s)) 15,10],rfl,rfl⟩,?_⟩;refine λb hb=>?_
  by_cases hp:32768<=dD s
  ·rw[decide_eq_true hp]at hb ⊢;rw[if_neg ab,if_pos h6]at hK;rcases cmp hb with⟨rfl,h⟩|⟨rfl,h⟩
   ·exact dA
   ·exact BZ
  ·rw[decide_eq_false hp]at hb ⊢;rw[if_pos ab]at hK;rcases cmp hb with⟨rfl,h⟩|⟨rfl,h⟩
   ·exact dA
   ·exact BZ
 ·have h6:¬s.length-2<dD s%4096+1:=λh=>h6 (.inl h)
  rw[if_neg ab]at hK;refine λb hb=>?_
  rcases cmp hb with⟨rfl,h⟩|⟨rfl,h⟩
  case inr=>exact kN
  refine⟨_,⟨decide (32768<=dD s),15,rfl,rfl⟩,?_⟩;refine⟨rfl,?_⟩;refine⟨_,⟨[dZ (decide (32768<=dD s)) 15,0],rfl,rfl⟩,?_⟩;refine λb hb=>?_
  by_cases hp:32768<=dD s
  case neg=>
   rw[decide_eq_false hp]at hb ⊢;rw[if_pos ab]at hK;rcases cmp hb with⟨rfl,h⟩|⟨rfl,h⟩
   ·exact dA
   ·exact BZ
  rw[decide_eq_true hp]at hb;rw[if_neg ab,if_neg h6]at hK;rcases cmp hb with⟨rfl,h⟩|⟨rfl,h⟩
  ·exact kN
  generalize cM:dD s%4096+1=c at*;have htl:((s.drop 2).take c).length=c:=Rb;refine⟨_,rfl,by rw[htl];omega,?_⟩;rw[<-aoT TQ qW aB6];refine λb hb=>?_
  rcases cmp hb with⟨rfl,h7⟩|⟨rfl,h7⟩
  ·rw[if_pos h7]at hK;exact dA
  rw[if_neg h7]at hK;have di:=aoj (zb0 h7);have lj:=anM di;refine⟨_,rfl,di,?_⟩;generalize Ze (IY TQ ((s.drop 2).take c)).1=ex at*;refine λy hy=>?_
  rw[htl]at hy;have hy:=dB hy ab;have hy:y=((2+c:Nat):Int):=ab;subst hy;have aeS:cut ((2+c:Nat):Int).toNat s.length s=s.drop (2+c):=by rw[zaC,xY]
  refine⟨ak,?_⟩;refine λb1 G1=>?_
  refine⟨_,⟨b1,10,rfl,rfl⟩,?_⟩;refine⟨ab,?_⟩;refine λy hy=>?_
  have hy:=dB hy ab;have hy:y=((s.length-(2+c):Nat):Int):=ab;subst hy;refine⟨_,⟨_,rfl,ab,rfl⟩,?_⟩;refine λb2 t_=>?_
  rw[aeS,zaC]at t_;have fin:∀b3:Bool,(b3=true↔¬(s.drop (2+c)≠ai (s.length-(2+c))\/256<=s.length-(2+c)))->(if bQ [dZ b1 10,dZ b3 3]≠0 then K (.tup [.pv (.str []),.pv (pI (bQ [dZ b1 10,dZ b3 3]))])else K (.tup [.pv (.str ex),.pv (pI 0)])):=by
   intro b3 rv;rcases cmp G1 with⟨rfl,h8⟩|⟨rfl,h8⟩
   ·rw[if_neg ab]at hK;rcases cmp rv with⟨rfl,h9⟩|⟨rfl,h9⟩
    ·rw[if_neg h9]at hK;rw[if_neg ao];exact hK
    ·rw[if_pos (zb0 h9)]at hK;rw[if_pos ao];exact hK
   ·rw[if_pos ab]at hK;have e10:bQ [dZ false 10,dZ b3 3]=10:=rfl;rw[e10,if_pos ao];exact hK
  rcases cmp t_ with⟨rfl,hz⟩|⟨rfl,hz⟩
  ·refine⟨_,⟨_,rfl,ab,rfl⟩,?_⟩;refine⟨ao,?_⟩;refine λy hy=>?_
   rw[zb6 ab]at hy;have hy:=dB hy ab;rw[hy];refine λb3 rv=>?_
   have hf:=fin b3 (by
    rw[rv];constructor
    ·rintro h (h'|h')
     ·exact h' hz
     ·omega
    ·intro h;have:¬256<=s.length-(2+c):=λh'=>h (.inr h')
     omega)
   refine⟨_,⟨b3,3,rfl,rfl⟩,?_⟩;refine⟨rfl,?_⟩;refine⟨_,⟨[dZ b1 10,dZ b3 3],rfl,rfl⟩,?_⟩;refine λb hb=>?_
   rcases cmp hb with⟨rfl,h⟩|⟨rfl,h⟩
   ·rw[if_pos h]at hf;exact Qs
   ·rw[if_neg h]at hf;exact Qs
  ·have hf:=fin false (by
    constructor
    ·intro h;cases h
    ·intro h;exact absurd (.inl hz) h)
   refine⟨_,⟨false,3,rfl,rfl⟩,?_⟩;refine⟨rfl,?_⟩;refine⟨_,⟨[dZ b1 10,dZ false 3],rfl,rfl⟩,?_⟩;refine λb hb=>?_
   rcases cmp hb with⟨rfl,h⟩|⟨rfl,h⟩
   ·rw[if_pos h]at hf;exact Qs
   ·rw[if_neg h]at hf;exact Qs
end Go.Dv.Try
namespace Go.Dv.Try
structure Rn where
 s:Int
 n:Int
deriving DecidableEq
def zh(l:List Rn)(i:Int):List Rn:=
 match l[l.length-1]? with
 |some r=>if r.s+r.n=i then l.set (l.length-1) ⟨r.s,r.n+1⟩else l++[⟨i,1⟩]
 |none=>l++[⟨i,1⟩]
def bh(p:Nat->Bool):Nat->List Rn
 |0=>[]
 |n+1=>if p n then zh (bh p n) n else bh p n
def bH(s:List UInt8)(i:Nat):Nat:=(s[i/8]?.getD 0).toNat/2^(i%8)%2
def mK(s:List UInt8)(i:Nat):bH s i<=1:=by unfold bH;omega
def Po(x:UInt8)(k v:Nat):UInt8:=UInt8.ofNat (x.toNat-x.toNat/2^k%2*2^k+v*2^k)
def ug(x:UInt8){k v:Nat}(hk:k<8)(hv:v<=1):(Po x k v).toNat=x.toNat-x.toNat/2^k%2*2^k+v*2^k:=by
 have hx:=x.toNat_lt;unfold Po;rw[UInt8.toNat_ofNat'];apply zcx;generalize x.toNat=n at*;have h1:k=0\/k=1\/k=2\/k=3\/k=4\/k=5\/k=6\/k=7:=ab;have h2:v=0\/v=1:=ab;rcases h1 with rfl|rfl|rfl|rfl|rfl|rfl|rfl|rfl<;>rcases h2 with rfl|rfl<;>simp only[Nat.reducePow]<;>omega
def alw(x:UInt8){k v j:Nat}(hk:k<8)(hv:v<=1)(hj:j<8):(Po x k v).toNat/2^j%2=if j=k then v else x.toNat/2^j%2:=by
 have hx:=x.toNat_lt;rw[ug x hk hv];generalize x.toNat=n at*;have h1:k=0\/k=1\/k=2\/k=3\/k=4\/k=5\/k=6\/k=7:=ab;have h2:v=0\/v=1:=ab;have h3:j=0\/j=1\/j=2\/j=3\/j=4\/j=5\/j=6\/j=7:=ab;rcases h1 with rfl|rfl|rfl|rfl|rfl|rfl|rfl|rfl<;>rcases h2 with rfl|rfl<;>rcases h3 with rfl|rfl|rfl|rfl|rfl|rfl|rfl|rfl<;>simp only[Nat.reducePow]<;>simp<;>omega
def aau(b:List UInt8)(i v:Nat):List UInt8:=b.set (i/8) (Po (b[i/8]?.getD 0) (i%8) v)
@[simp] theorem aFK (b:List UInt8) (i v:Nat):(aau b i v).length=b.length:=by simp[aau]
def ate{b:List UInt8}{i v:Nat}(hi:i<8*b.length)(hv:v<=1)(j:Nat):bH (aau b i v) j=if j=i then v else bH b j:=by
 unfold bH aau;by_cases h:j/8=i/8
 ·rw[h,zcm ab,zbx,alw _ ab hv ab];by_cases h2:j=i
  ·subst h2;simp
  ·rw[if_neg ab,if_neg h2]
 ·rw[zct ab,if_neg ab]
def oF(s:List UInt8):Nat->Nat
 |0=>0
 |n+1=>oF s n+bH s n
def sj(s:List UInt8)(n:Nat):List Int:=(List.range n).map λi=>((bH s i:Nat):Int)
@[simp] theorem L9 (s:List UInt8) (n:Nat):(sj s n).length=n:=by simp[sj]
def ael{s:List UInt8}{n i:Nat}(h:i<n):(sj s n)[i]?=some ((bH s i:Nat):Int):=by simp[sj,h]
def Ou(n i:Nat):bH (ai n) i=0:=by
 unfold bH ai;rw[zcz];split<;>simp
end Go.Dv.Try
namespace Go.Dv.Try
open Go.Dv
def Nj(f:Nat->Nat)(z:List UInt8):Nat->List UInt8
 |0=>z
 |k+1=>aau (Nj f z k) k (f k)
def qO(n:Nat):Nat:=(n+7)/8
def VA(f:Nat->Nat)(n:Nat):List UInt8:=Nj f (ai (qO n)) n
def Rw(f:Nat->Nat)(z:List UInt8):∀k,(Nj f z k).length=z.length:=by
 intro k
 induction k with
 |zero=>rfl
 |succ k ih=>simp[Nj,ih]
def Z_{f:Nat->Nat}{z:List UInt8}(hf:∀i,f i<=1):∀k,k<=8*z.length→∀j,bH (Nj f z k) j=if j<k then f j else bH z j:=by
 intro k
 induction k with
 |zero=>intro _ j;simp[Nj]
 |succ k ih=>
  intro hk j;simp only[Nj];rw[ate (by rw[Rw];omega) (hf k),ih ab];by_cases h:j=k
  ·subst h;simp
  ·rw[if_neg h];by_cases h2:j<k
   ·rw[if_pos h2,if_pos ab]
   ·rw[if_neg h2,if_neg ab]
def azh(n:Int)(r:Rn):Prop:=(0<=r.s/\r.s<=n-1)/\1<=r.n/\r.n<=n-r.s
instance (n:Int) (r:Rn):Decidable (azh n r):=by unfold azh;infer_instance
def bI(l:List Rn):Int:=(l.map λr=>r.n).sum
@[simp] theorem aGk:bI []=0:=rfl
end Go.Dv.Try
namespace Go.Dv.Try
open Go Go.Dv
def lz(ps:List PV)(x:PV):Prop:=∃n lo hi:Int,ps=[pI n,pI lo,pI hi]/\x=pB (decide (lo<=n/\n<=hi))
def bG(ps:List PV)(p:Prop):Prop:=∃n lo hi:Int,ps=[pI n,pI lo,pI hi]/\p=(lo<=n/\n<=hi)
def M7:MT (ay []) ze (ah lz):=by
 rintro _ K ⟨_,⟨n,lo,hi,rfl,rfl⟩,hK⟩;refine λb hb=>?_
 rcases cmp hb with⟨rfl,h⟩|⟨rfl,h⟩
 ·refine λb hb=>?_
  refine⟨.pv (pB _),oH ?_,trivial,hK⟩;rw[decide_eq_true_iff,hb];omega
 ·refine⟨.pv (pB _),oH ?_,trivial,hK⟩;rw[decide_eq_true_iff];simp only[zbZ,iff_false];omega
def jw(ps:List PV)(x:PV):Prop:=∃(ok:Bool) (e:Int),ps=[pB ok,pI e]/\x=pI (dZ ok e)
def Nc:MT (ay []) Ig (ah jw):=by
 rintro _ K ⟨_,⟨ok,e,rfl,rfl⟩,hK⟩;cases ok with
 |true=>exact aG
 |false=>exact aG
def YF(ps:List PV)(x:PV):Prop:=∃l:List Int,ps=[.sl 1 (l.map pI)]/\x=pI (bQ l)
def OR:MT (ay []) Bv (ah YF):=by
 rintro _ K ⟨_,⟨l,rfl,rfl⟩,hK⟩;refine λhl=>?_
 rw[zaw]at hl;refine⟨λm env σ=>∃n:Nat,(n+m=l.length∧∀j,j<n->l[j]?=some 0)/\σ=[]/\env=[(5,.pv (.sl 1 (l.map pI))),eN 6 ((l.map pI).length:Nat),eN 7 n],l.length,⟨0,⟨ab,λj hj=>ab⟩,rfl,rfl⟩,?_⟩;rintro m env σ ⟨n,⟨hn,h0⟩,rfl,rfl⟩;refine λb hb=>?_
 rw[zaw]at hb;rcases cmp hb with⟨rfl,h⟩|⟨rfl,h⟩
 ·have aU:n<l.length:=by omega
  refine⟨pI l[n],⟨ab,?_⟩,?_⟩
  ·show(l.map pI)[n]?=some (pI l[n]);simp[aU]
  refine λb hb=>?_
  rcases cmp hb with⟨rfl,h⟩|⟨rfl,h⟩
  ·refine⟨.pv (pI _),bu ?_,trivial,hK⟩;rw[ke l n h0,zb3 aU];simp[bQ,h]
  ·refine λx hx=>?_
   replace hx:=dB hx ab;subst hx;refine⟨m-1,ab,n+1,⟨ab,λj hj=>?_⟩,rfl,rfl⟩;by_cases nd:j<n
   ·exact h0 j nd
   ·have:j=n:=by omega
    subst this;rw[zah aU];simpa using h
 ·refine⟨.pv (pI _),bu ?_,trivial,hK⟩;rw[ke l n h0,zb1 ab];rfl
def jQ(ps:List PV)(x:PV):Prop:=∃s:Int,ps=[pI s]/\(0<=s/\s<=62)/\x=pI ((2^s.toNat:Nat):Int)
def Te:MT (ay []) QI (ah jQ):=by
 rintro _ K ⟨_,⟨s,rfl,h,rfl⟩,hK⟩;refine⟨h.1,?_⟩;refine λy hy=>?_
 rw[aGh h]at hy;exact⟨.pv (pI _),bu hy.symm,trivial,hK⟩
def sx(n:Int):Int:=(n+7)/8
def ae6(ps:List PV)(x:PV):Prop:=∃n:Int,ps=[pI n]/\(0<=n/\n<=1000000000)/\x=pI (sx n)
def amE:MT (ay []) Oc (ah ae6):=by
 rintro _ K ⟨_,⟨n,rfl,h,rfl⟩,hK⟩;refine λx hx=>?_
 have hx:=dB hx ab;rw[hx];refine λx hx=>?_
 have hx:=dB hx ab;rw[hx];refine⟨ao,?_⟩;refine λx hx=>?_
 rw[zb6 ab]at hx;have hx:=dB hx ab;rw[hx];refine⟨.pv (pI _),bu ?_,trivial,hK⟩;unfold sx;omega
def fx(n:Int):Int:=if 0<=n/\n<=4096 then 0 else 2
def nu(s:List UInt8)(n:Int):Int:=
 if fx n≠0 then fx n else if (s.length:Int)≠sx n then 10 else if ∀i,i<8*s.length->n.toNat<=i->bH s i=0 then 0 else 3
def HN(ps:List PV)(x:PV):Prop:=∃(s:List UInt8) (n:Int),ps=[.str s,pI n]/\s.length<=1000000/\x=pI (nu s n)
def atA{v:Nat}(hv:v<256):∀m k:Nat,k+m=8->(∀r,k<=r->r<8->v/2^r%2=0)->v/2^k=0:=by
 intro m
 induction m with
 |zero=>
  intro k hk _;have:k=8:=ab;subst this;exact Nat.div_eq_of_lt ab
 |succ m ih=>
  intro k hk h;have h1:=ih (k+1) ab (λr h1 h2=>h r ab h2);have h2:=h k (zai _) ab;rw[Nat.pow_succ,<-zcn]at h1;omega
def axe{s:List UInt8}{n:Nat}(hl:s.length=(n+7)/8):(∀i,i<8*s.length->n<=i->bH s i=0)↔(n%8=0\/(s[s.length-1]?.getD 0).toNat/2^(n%8)=0):=by
 have hv:=(s[s.length-1]?.getD 0).toNat_lt;constructor
 ·intro h;by_cases h8:n%8=0
  ·exact .inl h8
  refine .inr (atA hv (8-n%8) (n%8) ab λr h1 h2=>?_);have:=h (n/8*8+r) ab ab;unfold bH at this;rw[show(n/8*8+r)/8=s.length-1 by omega,show(n/8*8+r)%8=r by omega]at this;exact this
 ·intro h i hi hni;rcases h with h|h
  ·omega
  by_cases h8:n%8=0
  ·omega
  unfold bH;rw[show i/8=s.length-1 by omega];have e:2^(i%8)=2^(n%8)*2^(i%8-n%8):=by rw[<-zcE];congr 1;omega
  rw[e,<-zcn,h];simp
def PQ:MT (ay [(170,ah lz),(171,ah ae6),(172,ah jw)]) xX (ah HN):=by
 rintro _ K ⟨_,⟨s,n,rfl,hs,rfl⟩,hK⟩;unfold nu at hK;by_cases hn:0<=n/\n<=4096
 case neg=>
  refine⟨pB false,⟨_,_,_,rfl,oH (by simpa using hn)⟩,?_⟩;refine λb hb=>?_
  rcases cmp hb with⟨rfl,h⟩|⟨rfl,h⟩
  case inr=>exact kN
  have e:fx n=2:=by unfold fx;rw[if_neg hn]
  rw[e,if_pos ao]at hK;exact aG
 refine⟨pB true,⟨_,_,_,rfl,oH (by simpa using hn)⟩,?_⟩;refine λb hb=>?_
 rcases cmp hb with⟨rfl,h⟩|⟨rfl,h⟩
 ·cases h
 have e:fx n=0:=by unfold fx;rw[if_pos hn]
 rw[e,if_neg ao]at hK;refine⟨_,⟨n,rfl,ab,rfl⟩,?_⟩;refine λb hb=>?_
 rcases cmp hb with⟨rfl,h2⟩|⟨rfl,h2⟩
 ·rw[if_pos h2]at hK;exact aG
 rw[if_neg h2]at hK;have hl:(s.length:Int)=sx n:=zb0 h2;unfold sx at hl;have Gn:=axe (s:=s) (n:=n.toNat) ab;refine⟨ao,?_⟩;refine λx hx=>?_
 rw[zcf ab]at hx;have hx:x=((n.toNat%8:Nat):Int):=ab;subst hx;refine λb hb=>?_
 rcases cmp hb with⟨rfl,h3⟩|⟨rfl,h3⟩
 ·rw[if_pos (Gn.2 (.inl ab))]at hK;refine⟨_,⟨true,3,rfl,rfl⟩,?_⟩;exact aG
 ·obtain⟨v,hv⟩:∃v,s[s.length-1]?=some v:=by rw[zah ab];exact⟨_,rfl⟩
  rw[hv]at Gn;simp only[zbx]at Gn;refine λx hx=>?_
  have hx:=dB hx ab;rw[hx];refine⟨_,⟨ab,by rw[show((s.length:Int)-1).toNat=s.length-1 by omega];exact hv⟩,?_⟩;refine⟨ab,?_⟩;refine λy hy=>?_
  have hy:y=((v.toNat/2^(n.toNat%8):Nat):Int):=by
   rw[hy];have e8:min ((n.toNat%8:Nat):Int).toNat IntKind.u8.bits=n.toNat%8:=by
    have:IntKind.u8.bits=8:=rfl;omega
   rw[e8,show((2:Int)^(n.toNat%8))=((2^(n.toNat%8):Nat):Int) by simp,zbY _ (zcg _)];rfl
  subst hy;refine λb hb=>?_
  rcases cmp hb with⟨rfl,h4⟩|⟨rfl,h4⟩
  ·rw[if_pos (Gn.2 (.inr ab))]at hK;refine⟨_,⟨true,3,rfl,rfl⟩,?_⟩;exact aG
  ·rw[if_neg (λh5=>by rcases Gn.1 h5 with h6|h6;omega;exact h4 (by rw[h6];rfl))]at hK;refine⟨_,⟨false,3,rfl,rfl⟩,?_⟩;exact aG
def Rn.pv(r:Rn):PV:=.agg [pI r.s,pI r.n]
def bD(l:List Rn):∀x∈l.map Rn.pv,x.flat:=by
 intro x hx;obtain⟨t,_,rfl⟩:=zaX.1 hx;simp[Rn.pv,PV.flat,PV.one,PV.au_]
def acU:MT (ay []) ze (bF bG):=by
 rintro _ K ⟨_,⟨n,lo,hi,rfl,rfl⟩,hK⟩
 (repeat'(refine iM ?_;first|refine de (λ_=>?_) (λ_=>?_)|fail))<;>try(conv=>whnf)
 all_goals exact kQ
def acX:MT (ay []) xg (bF bG):=by
 rintro _ K ⟨_,⟨n,lo,hi,rfl,rfl⟩,hK⟩
 (repeat'(refine iM ?_;first|refine de (λ_=>?_) (λ_=>?_)|fail))<;>try(conv=>whnf)
 all_goals exact kQ
def awJ(ps:List PV)(x:PV):Prop:=∃(B:List UInt8) (n i:Int),ps=[.agg [.sl 1 (B.map aL),pI n],pI i]/\(0<=i/\i<8*B.length/\B.length<=1000000)/\x=pI (bH B i.toNat)
def as7:MT (ay []) AR (ah awJ):=by
 rintro _ K ⟨_,⟨B,n,i,rfl,⟨h1,h2,h3⟩,rfl⟩,hK⟩
 (repeat'(refine iM ?_;first|refine bj ab ?_|refine l7 ab ?_|refine lW ab ?_|refine sU ao ab (λ_=>?_)|refine aJn ab (λ_ _ _=>?_)|refine aGr ab ?_|fail))<;>try(conv=>whnf)
 rename_i x hx vR hq;have e:bH B i.toNat=x.toNat/2^(i%8).toNat%2:=by
  unfold bH;rw[show i.toNat/8=(i/8).toNat by omega,show i.toNat%8=(i%8).toNat by omega,hx];rfl
 rw[e]at hK;exact aG
def afd:Spec:=EM false false λps K=>∃(s:List UInt8) (n:Int),ps=[.str s,pI n]/\s.length<=1000000/\K (.tup [.agg [.row 5 1 (s.map aL),.pv (pI n)],.pv (pI (nu s n))])
def alR:MT (ay [(125,ah HN)]) NM afd:=by
 rintro _ K ⟨s,n,rfl,h,hK⟩
 (repeat'(refine iM ?_;first|refine bT ?_|refine⟨_,⟨_,_,rfl,cU,rfl⟩,?_⟩|refine wz ?_|fail))<;>try(conv=>whnf)
 exact⟨[.agg [.row _ _ _,.pv _],.pv (pI _)],⟨⟨⟨rfl,rfl,rfl⟩,rfl,trivial⟩,rfl,trivial⟩,trivial,hK⟩
def BX:Spec:=EM true true λps K=>∃a b:Int,ps=[.sl 1 [pI a,pI b]]/\(a≠0->K (.pv (pI a)))/\(a=0->K (.pv (pI b)))
def agS:MT (ay []) Bv BX:=by
 rintro _ K ⟨a,b,rfl,h1,h2⟩;refine OR _ K ⟨_,⟨[a,b],rfl,rfl⟩,?_⟩;by_cases ha:a=0
 ·subst ha;by_cases hb:b=0<;>simpa[bQ,hb]using h2 rfl
 ·simpa[bQ,ha]using h1 ha
def ac0(e:Int)(p:Prop)[Decidable p]:Int:=if e≠0 then e else if p then 0 else 2
def iR{s:List UInt8}{n:Int}(h:nu s n=0):0<=n/\n<=4096/\n<=8*s.length/\(s.length:Int)=sx n∧∀i,i<8*s.length->n.toNat<=i->bH s i=0:=by
 unfold nu fx at h;by_cases h1:0<=n/\n<=4096
 case neg=>simp[h1]at h
 rw[if_pos h1]at h;simp only[ne_eq,not_true_eq_false,if_false]at h;by_cases h2:(s.length:Int)≠sx n
 ·rw[if_pos h2]at h;cases h
 rw[if_neg h2]at h;have h3:(s.length:Int)=sx n:=zb0 h2;refine⟨h1.1,h1.2,by unfold sx at h3;omega,h3,?_⟩;split at h
 ·assumption
 ·cases h
def aqn(s:List UInt8)(n a:Int):Int:=if ac0 (nu s n) (0<=a/\a<=n-1)=0 then bH s a.toNat else 0
def XF:Spec:=EM true false λps K=>∃(s:List UInt8) (n a:Int),ps=[.str s,pI n,pI a]/\s.length<=1000000/\K (.tup [.pv (pI (aqn s n a)),.pv (pI (ac0 (nu s n) (0<=a/\a<=n-1)))])
def ahs:MT (ay [(173,afd),(174,BX),(172,ah jw),(170,bF bG),(175,ah awJ)]) Lm XF:=by
 rintro _ K ⟨s,n,a,rfl,h,hK⟩;unfold aqn at hK;have di:= @iR s n;by_cases he:nu s n=0
 ·obtain⟨h1,h2,h3,h4,h5⟩:=di he
  (repeat'(refine iM ?_;first|refine bj ab ?_|refine au ao ?_|refine aw ao ?_|refine de (λ_=>?_) (λ_=>?_)|refine bT ?_|refine⟨_,⟨_,_,rfl,rfl⟩,?_⟩|refine⟨_,⟨_,_,_,rfl,rfl⟩,?_⟩|refine⟨_,⟨_,_,_,rfl,cU,rfl⟩,?_⟩|refine⟨_,_,rfl,λh=>absurd h ab,λ_=>?_⟩|refine⟨_,_,rfl,cU,?_⟩|fail))<;>try(conv=>whnf)
  all_goals simp[ac0, *]at hK
  all_goals(refine⟨_,?_,?_,hK⟩<;>repeat'(first|exact rfl|exact trivial|exact bD _|exact dn _|exact cr|refine⟨?_,?_⟩))
 ·(repeat'(refine iM ?_;first|refine au ab ?_|refine de (λ_=>?_) (λ_=>?_)|refine bT ?_|refine⟨_,⟨_,_,rfl,rfl⟩,?_⟩|refine⟨_,⟨_,_,_,rfl,rfl⟩,?_⟩|refine⟨_,_,rfl,λ_=>?_,λh=>absurd h ab⟩|refine⟨_,_,rfl,cU,?_⟩|refine aJH (λ_=>?_)|fail))<;>try(conv=>whnf)
  all_goals simp[ac0, *]at hK
  all_goals(refine⟨_,?_,?_,hK⟩<;>repeat'(first|exact rfl|exact trivial|exact bD _|exact dn _|exact cr|refine⟨?_,?_⟩))
def agu:Spec:=EM false false λps K=>∃n:Int,ps=[pI n]/\(fx n=0->K (.tup [.agg [.row 5 1 ((ai (qO n.toNat)).map aL),.pv (pI n)],.pv (pI 0)]))/\(fx n≠0->K (.tup [.pv (.agg [.nil 1,pI 0]),.pv (pI 2)]))
def aeA(n:Nat):List.replicate n (PV.int .u8 0)=(ai n).map aL:=by
 unfold ai;rw[zci];rfl
def as9{n:Int}(h:fx n=0):0<=n/\n<=4096:=by
 unfold fx at h;split at h
 ·assumption
 ·cases h
def abD{n:Int}(h:0<=n):sx n=(qO n.toNat:Nat):=by unfold sx qO;omega
def aip:MT (ay [(170,bF bG),(171,ah ae6)]) Jz agu:=by
 rintro _ K ⟨n,rfl,h1,h2⟩;by_cases h:fx n=0
 ·have hn:=as9 h;have hK:=h1 h;have hc:=abD hn.1;have hl:qO n.toNat<=512:=by unfold qO;omega
  rw[<-aeA]at hK
  (repeat'(refine iM ?_;first|refine aN ?_|refine au ab ?_|refine bT ?_|refine⟨_,⟨_,_,_,rfl,rfl⟩,?_⟩|refine⟨_,⟨_,rfl,cU,rfl⟩,?_⟩|refine wz ?_|fail))<;>try(conv=>whnf)
  rw[hc,zaC];refine⟨[.agg [.row _ _ _,.pv _],.pv (pI _)],⟨⟨⟨rfl,rfl,rfl⟩,rfl,trivial⟩,rfl,trivial⟩,trivial,hK⟩
 ·have hn:¬(0<=n/\n<=4096):=by
   intro h';apply h;unfold fx;rw[if_pos h']
  have hK:=h2 h
  (repeat'(refine iM ?_;first|refine bP ?_|refine aw ab ?_|refine bT ?_|refine⟨_,⟨_,_,_,rfl,rfl⟩,?_⟩|fail))<;>try(conv=>whnf)
  exact⟨[.pv _,.pv (pI _)],⟨rfl,rfl,trivial⟩,trivial,hK⟩
def axV(n:Int):List UInt8:=if fx n=0 then ai (qO n.toNat)else[]
def JN:Spec:=EM true false λps K=>∃n:Int,ps=[pI n]/\K (.tup [.pv (.str (axV n)),.pv (pI (fx n))])
def V4:MT (ay [(182,agu)]) Ch JN:=by
 rintro _ K ⟨n,rfl,hK⟩;unfold axV at hK;refine⟨n,rfl,λh=>?_,λh=>?_⟩
 ·rw[if_pos h,h]at hK
  (repeat'(refine iM ?_;first|refine yR ?_|refine bT ?_|fail))<;>try(conv=>whnf)
  (refine⟨_,?_,?_,hK⟩<;>repeat'(first|exact rfl|exact trivial|exact bD _|exact dn _|exact cr|refine⟨?_,?_⟩))
 ·have e:fx n=2:=by
   unfold fx at h ⊢;split
   ·rename_i h';rw[if_pos h']at h;exact kN
   ·rfl
  rw[if_neg h,e]at hK
  (repeat'(refine iM ?_;first|refine aJi ?_|refine bT ?_|fail))<;>try(conv=>whnf)
  (refine⟨_,?_,?_,hK⟩<;>repeat'(first|exact rfl|exact trivial|exact bD _|exact dn _|exact cr|refine⟨?_,?_⟩))
def Sn:Spec:=EM true false λps K=>∃(l:List Bool) (v:Bool),ps=[.sl 1 (l.map pB),pB v]/\l.length<=1000000∧∀r:Int,(0<=r↔v∈l)-> -1<=r->K (.pv (pI r))
def agM:MT (ay []) sr Sn:=by
 rintro _ K ⟨l,v,rfl,hl,hK⟩
 (repeat'(refine iM ?_;first|refine dq λ_=>?_|fail))<;>try(conv=>whnf)
 refine⟨λm env σ=>∃i:Nat,(i+m=l.length∧∀j,j<i->l[j]?≠some v)/\σ=[]/\env=[(0,.pv (.sl 1 (l.map pB))),(1,.pv (pB v)),eN 7 l.length,eN 8 i],l.length,⟨0,⟨ab,λj hj=>ab⟩,rfl,rfl⟩,?_⟩;rintro m env σ ⟨i,⟨hi,h0⟩,rfl,rfl⟩
 (repeat'(refine iM ?_;first|refine bj ab ?_|refine de (λ_=>?_) (λ_=>?_)|refine aii ab (λ_ _=>?_)|fail))<;>try(conv=>whnf)
 ·rename_i x hx h;subst h;have hK:=hK i ⟨λ_=>jk.2 ⟨i,hx⟩,λ_=>ab⟩ ab
  (refine⟨_,?_,?_,hK⟩<;>repeat'(first|exact rfl|exact trivial|exact bD _|exact dn _|exact cr|refine⟨?_,?_⟩))
 ·rename_i x hx h;refine⟨m-1,ab,i+1,⟨ab,λj hj e=>?_⟩,rfl,rfl⟩;by_cases kJ:j<i
  ·exact h0 j kJ e
  ·have:j=i:=by omega
   subst this;rw[hx]at e;exact h (Option.some.inj e).symm
 ·have hK:=hK (-1) ⟨λh=>ab,λh=>?_⟩ ab
  ·(refine⟨_,?_,?_,hK⟩<;>repeat'(first|exact rfl|exact trivial|exact bD _|exact dn _|exact cr|refine⟨?_,?_⟩))
  ·obtain⟨j,e⟩:=jk.1 h;have hj:j<l.length:=by
    by_cases hj:j<l.length
    ·exact hj
    ·rw[zaK ab]at e;cases e
   exact absurd e (h0 j ab)
def ah2:Spec:=EM true false λps K=>∃(l:List Bool) (v:Bool),ps=[.sl 1 (l.map pB),pB v]/\l.length<=1000000∧∀r:Bool,(r=true↔v∈l)->K (.pv (pB r))
def VP:MT (ay [(227,Sn)]) jO ah2:=by
 rintro _ K ⟨l,v,rfl,hl,hK⟩;refine⟨l,v,rfl,hl,λr hr Gw=>?_⟩
 (repeat'(refine iM ?_;first|refine de (λ_=>?_) (λ_=>?_)|fail))<;>try(conv=>whnf)
 ·have hK:=hK true (by simp;exact hr.1 aA)
  (refine⟨_,?_,?_,hK⟩<;>repeat'(first|exact rfl|exact trivial|exact bD _|exact dn _|exact cr|refine⟨?_,?_⟩))
 ·have hK:=hK false (by simp;exact λh=>by have:=hr.2 h;omega)
  (refine⟨_,?_,?_,hK⟩<;>repeat'(first|exact rfl|exact trivial|exact bD _|exact dn _|exact cr|refine⟨?_,?_⟩))
def apL(a b:Int):Int:=if a<b then-1 else if b<a then 1 else 0
def afu(ps:List PV)(x:PV):Prop:=∃a:Int,ps=[pI a]/\x=pB false
def ahJ:MT (ay []) HZ (ah afu):=by
 rintro _ K ⟨_,⟨a,rfl,rfl⟩,hK⟩;refine aw (λh=>h rfl) ?_
 (conv=>whnf)
 (refine⟨_,?_,?_,hK⟩<;>repeat'(first|exact rfl|exact trivial|exact bD _|exact dn _|exact cr|refine⟨?_,?_⟩))
def Ts(ps:List PV)(x:PV):Prop:=∃a b:Int,ps=[pI a,pI b]/\x=pI (apL a b)
def adf:MT (ay [(181,ah afu)]) DA (ah Ts):=by
 rintro _ K ⟨_,⟨a,b,rfl,rfl⟩,hK⟩;unfold apL at hK
 (repeat'(refine iM ?_;first|refine de (λ_=>?_) (λ_=>?_)|refine⟨_,⟨_,rfl,rfl⟩,?_⟩|fail))<;>try(conv=>whnf)
 ·rename_i h;rw[if_pos h]at hK;(refine⟨_,?_,?_,hK⟩<;>repeat'(first|exact rfl|exact trivial|exact bD _|exact dn _|exact cr|refine⟨?_,?_⟩))
 ·rename_i h h2;rw[if_neg h,if_pos h2]at hK;(refine⟨_,?_,?_,hK⟩<;>repeat'(first|exact rfl|exact trivial|exact bD _|exact dn _|exact cr|refine⟨?_,?_⟩))
 ·rename_i h h2;rw[if_neg h,if_neg h2]at hK;(refine⟨_,?_,?_,hK⟩<;>repeat'(first|exact rfl|exact trivial|exact bD _|exact dn _|exact cr|refine⟨?_,?_⟩))
def rnB(r:Rn):Prop:= -1000000000000<=r.s/\r.s<=1000000000000/\ -1000000000000<=r.n/\r.n<=1000000000000
inductive Sl(α:Type) where
 |nil
 |sl (l:List α)
def Sl.l{α:Type}:Sl α->List α
 |nil=>[]
 |sl l=>l
def Sl.pv{α:Type}(f:α->PV)(sz:Nat):Sl α->PV
 |nil=>.nil sz
 |sl l=>.sl sz (l.map f)
def KP{α:Type}{f:α->PV}{sz:Nat}{s:Sl α}{K:Nat->List PV->Prop}(k:K sz (s.l.map f)):Ef [] (.pv (s.pv f sz)) K:=by
 cases s<;>exact k
def n5{α:Type}{f:α->PV}{sz:Nat}{s:Sl α}{i:Nat}{K:PV->Prop}(h:i<s.l.length)(k:∀x,s.l[i]?=some x->K (f x)):
 (match s.pv f sz with
   | .sl s aC=>(match Nat.beq s sz with
    |true=>∃y,(0<=(i:Int)/\aC[(i:Int).toNat]?=some y)/\K y
    |false=>False)
   |_=>False):=by
 cases s with
 |nil=>exact absurd h (by simp[Sl.l])
 |sl l=>
  show(match Nat.beq sz sz with|true=>∃y,(0<=(i:Int)/\(l.map f)[(i:Int).toNat]?=some y)/\K y|false=>False);rw[Nat.beq_refl];exact⟨f l[i],⟨ab,by rw[zaC,za9,show l[i]?=some l[i]from zah h];rfl⟩,k _ (zah h)⟩
def Ek{α:Type}{f:α->PV}{sz:Nat}{s:Sl α}{i:Nat}{x:α}{K:PV->Prop}(h:s.l[i]?=some x)(k:K (f x)):
 (match s.pv f sz with
   | .sl s aC=>(match Nat.beq s sz with
    |true=>∃y,(0<=(i:Int)/\aC[(i:Int).toNat]?=some y)/\K y
    |false=>False)
   |_=>False):=n5 (eT h) (λ_ h'=>get_inj h h'▸k)
def aEP{α:Type}{f:α->PV}{sz:Nat}{s:Sl α}{i:Int}{x:α}{K:PV->Prop}(h0:0<=i)(h:s.l[i.toNat]?=some x)(k:K (f x)):
 (match s.pv f sz with
   | .sl s aC=>(match Nat.beq s sz with
    |true=>∃y,(0<=i/\aC[i.toNat]?=some y)/\K y
    |false=>False)
   |_=>False):=by
 obtain⟨n,rfl⟩:=zcj h0;exact Ek ky k
def Sl.cells{α:Type}{f:α->PV}{sz:Nat}{s:Sl α}:(s.pv f sz).cells=[s.pv f sz]:=by cases s<;>rfl
abbrev Rs:=Sl Rn
abbrev qF(s:Sl Rn):PV:=s.pv Rn.pv 2
structure At where
 ty:Int
 nm:List UInt8
 id:Int
 fl:Int
 rs:Bool
 vl:List UInt8
 ft:Int
 rn:Sl Rn
 al:Int
 sz:Int
 vd:Int
def At.pv(a:At):PV:=.agg [pI a.ty,.str a.nm,pI a.id,pI a.fl,pB a.rs,.str a.vl,pI a.ft,qF a.rn,pI a.al,pI a.sz,pI a.vd]
def gB(ps:List PV)(x:PV):Prop:=∃l:List Int,ps=[.sl 1 (l.map pI)]/\x=pI (bQ l)
def kS:MT (ay []) DG (ah gB):=by
 rintro _ K ⟨_,⟨l,rfl,rfl⟩,hK⟩;refine λhl=>?_
 rw[zaw]at hl;refine⟨λm env σ=>∃n:Nat,(n+m=l.length∧∀j,j<n->l[j]?=some 0)/\σ=[]/\env=[(5,.pv (.sl 1 (l.map pI))),eN 6 ((l.map pI).length:Nat),eN 7 n],l.length,⟨0,⟨ab,λj hj=>ab⟩,rfl,rfl⟩,?_⟩;rintro m env σ ⟨n,⟨hn,h0⟩,rfl,rfl⟩;refine λb hb=>?_
 rw[zaw]at hb;rcases cmp hb with⟨rfl,h⟩|⟨rfl,h⟩
 ·have aU:n<l.length:=by omega
  refine⟨pI l[n],⟨ab,?_⟩,?_⟩
  ·show(l.map pI)[n]?=some (pI l[n]);simp[aU]
  refine λb hb=>?_
  rcases cmp hb with⟨rfl,h⟩|⟨rfl,h⟩
  ·refine⟨.pv (pI _),bu ?_,trivial,hK⟩;rw[ke l n h0,zb3 aU];simp[bQ,h]
  ·refine λx hx=>?_
   replace hx:=dB hx ab;subst hx;refine⟨m-1,ab,n+1,⟨ab,λj hj=>?_⟩,rfl,rfl⟩;by_cases nd:j<n
   ·exact h0 j nd
   ·have:j=n:=by omega
    subst this;rw[zah aU];simpa using h
 ·refine⟨.pv (pI _),bu ?_,trivial,hK⟩;rw[ke l n h0,zb1 ab];rfl
def Qv:MT (ay []) N6 (ah gB):=kS
def dG(ps:List PV)(x:PV):Prop:=∃(ok:Bool) (e:Int),ps=[pB ok,pI e]/\x=pI (if ok=true then 0 else e)
def jP:MT (ay []) AX (ah dG):=by
 rintro _ K ⟨_,⟨ok,e,rfl,rfl⟩,hK⟩;cases ok with
 |true=>exact aG
 |false=>exact aG
def OQ:MT (ay []) LJ (ah dG):=jP
def RG:MT (ay []) N_ (ah dG):=jP
def uL:MT (ay []) Cr (bF bG):=by
 rintro _ K ⟨_,⟨n,lo,hi,rfl,rfl⟩,hK⟩
 (repeat'((conv=>whnf);first|refine de (λ_=>?_) (λ_=>?_)|fail))<;>try(conv=>whnf)
 all_goals exact kQ
def Sd:MT (ay []) N2 (bF bG):=uL
def BJ(ps:List PV)(p:Prop):Prop:=∃r:Rn,ps=[r.pv]/\p=(r.s= -1)
def ae1:MT (ay []) N4 (bF BJ):=by
 rintro _ K ⟨_,⟨r,rfl,rfl⟩,hK⟩
 (repeat'((conv=>whnf);first|refine de (λ_=>?_) (λ_=>?_)|fail))<;>try(conv=>whnf)
 all_goals exact kQ
def jZ(r:Rn):Prop:=if r.s= -1 then 1<=r.n/\r.n<=4096 else(0<=r.s/\r.s<=511)/\1<=r.n/\r.n<=512-r.s
instance (r:Rn):Decidable (jZ r):=by unfold jZ;infer_instance
def Ph(ps:List PV)(x:PV):Prop:=∃r:Rn,ps=[r.pv]/\x=pI (if jZ r then 0 else 2)
def Yf:MT (ay [(233,bF BJ),(230,bF bG),(229,ah dG)]) HT (ah Ph):=by
 rintro _ K ⟨_,⟨r,rfl,rfl⟩,hK⟩;unfold jZ at hK
 (repeat'(refine iM ?_;first|refine bj ab ?_|refine aN ?_|refine bP ?_|refine de (λ_=>?_) (λ_=>?_)|refine⟨_,⟨_,rfl,rfl⟩,?_⟩|refine⟨_,⟨_,_,rfl,rfl⟩,?_⟩|refine⟨_,⟨_,_,_,rfl,rfl⟩,?_⟩|fail))<;>try(conv=>whnf)
 all_goals(refine⟨.pv (pI _),bu ?_,trivial,hK⟩;simp[*])
def iy(a b:Rn):Prop:=(a.s= -1↔b.s= -1)/\(a.s= -1\/a.s+a.n=b.s)
instance (a b:Rn):Decidable (iy a b):=by unfold iy;infer_instance
def jZ.b{r:Rn}(h:jZ r):rnB r:=by unfold jZ at h;unfold rnB;split at h<;>omega
def Ab(ps:List PV)(p:Prop):Prop:=∃a b:Rn,ps=[a.pv,b.pv]/\(rnB a/\rnB b)/\p=iy a b
def akf:MT (ay [(233,bF BJ)]) Sf (bF Ab):=by
 rintro _ K ⟨_,⟨a,b,rfl,⟨ha,hb⟩,rfl⟩,hK⟩;unfold iy at hK;unfold rnB at ha hb
 (repeat'(refine iM ?_;first|refine bj ab ?_|refine aN ?_|refine bP ?_|refine au ab ?_|refine aw ab ?_|refine au ao ?_|refine aw ao ?_|refine de (λ_=>?_) (λ_=>?_)|refine bT ?_|refine⟨_,⟨_,rfl,rfl⟩,?_⟩|fail))<;>try(conv=>whnf)
 all_goals exact yj
def Rn.has(r:Rn)(c:Nat):Bool:=decide (r.s≠ -1/\r.s<=c/\(c:Int)<r.s+r.n)
abbrev Yi(L:List Bool):dC:=.row 277 1 false (L.map PV.bool)
structure mc(L:List Bool)(f:Nat->Bool):Prop where
 len:L.length=512
 get:∀c,c<512->L[c]?=some (f c)
def mc.set{L:List Bool}{f:Nat->Bool}(h:mc L f)(i:Nat):mc (L.set i true) (λc=>f c||decide (c=i)):=by
 refine⟨by simp[h.len],λc hc=>?_⟩;by_cases e:i=c
 ·subst e;simp[h.len,hc]
 ·rw[zct e,h.get c hc];simp[Ne.symm e]
def mc.congr{L:List Bool}{f g:Nat->Bool}(h:mc L f)(e:∀c,c<512->f c=g c):mc L g:=⟨h.len,λc hc=>(e c hc)▸h.get c hc⟩
def ag6(xs:List AV)(σ:aF)(K:AV->aF->Prop):Prop:=∃(r:Rn) (f:Nat->Bool) (L:List Bool),xs=[.ref 0 0 0,.pv r.pv]/\(jZ r/\mc L f)/\σ=[Yi L]∧∀(ok:Bool) (L':List Bool),(ok=true↔∀c,c<512->r.has c=true->f c=false)->mc L' (λc=>f c||r.has c)->K (.pv (pB ok)) [Yi L']
def Rn.QV(r:Rn)(n:Nat)(c:Nat):Bool:=decide (r.s<=c/\(c:Int)<r.s+n)
def al1:gO (ay [(233,bF BJ)]) Gi (sB ag6):=by
 rintro _ _ K ⟨r,f,L,rfl,⟨hr,hL⟩,rfl,hK⟩;unfold jZ at hr
 (repeat'(refine iM ?_;first|refine de (λ_=>?_) (λ_=>?_)|refine⟨_,⟨_,rfl,rfl⟩,?_⟩|fail))<;>try(conv=>whnf)
 ·exact hK true L (by simp[Rn.has, *]) (hL.congr λc _=>by simp[Rn.has, *])
 ·rename_i hs;rw[if_neg hs]at hr;refine⟨λm env σ=>∃(n:Nat) (ok:Bool) (L:List Bool),(n+m=r.n.toNat/\(ok=true↔∀c,c<512->r.QV n c=true->f c=false)/\mc L (λc=>f c||r.QV n c))/\σ=[Yi L,.box 37 [.pv (pI r.s),.pv (pI r.n)]]/\env=[(0,.ref 0 0 0),(3,.ref 1 0 0),(5,.pv (pB ok)),eN 6 (r.s+n)],r.n.toNat,⟨0,true,L,⟨ab,by simp[Rn.QV];omega,hL.congr λc _=>by simp[Rn.QV];omega⟩,rfl,aj⟩,?_⟩;rintro m env σ ⟨n,ok,L,⟨hn,di,hL⟩,rfl,rfl⟩;have KS:∀c,r.QV (n+1) c=(r.QV n c||decide (c=(r.s+n).toNat)):=λc=>by
   unfold Rn.QV;rw[zaN];simp;omega
  have LO:mc (L.set (r.s+n).toNat true) (λc=>f c||r.QV (n+1) c):=(hL.set (r.s+n).toNat).congr λc _=>by rw[KS c,Bool.or_assoc]
  have aK4:r.QV n (r.s+n).toNat=false:=by unfold Rn.QV;simp;omega
  have Gr:n<r.n.toNat->L[(r.s+n).toNat]?=some (f (r.s+n).toNat):=λh=>by rw[hL.get _ ab,aK4,Bool.or_false]
  have e:r.s+((n+1:Nat):Int)=r.s+(n:Int)+1:=ab;have nK:n<r.n.toNat->((∀c,c<512->r.QV (n+1) c=true->f c=false)↔(∀c,c<512->r.QV n c=true->f c=false)/\f (r.s+n).toNat=false):=λh=>by
   constructor
   ·intro h1;exact⟨λc hc hh=>h1 c hc (by rw[KS,hh];rfl),h1 _ ab (by rw[KS];simp)⟩
   ·rintro⟨h1,h2⟩ c hc hh;rw[KS,Bool.or_eq_true,decide_eq_true_iff]at hh;rcases hh with hh|hh
    ·exact h1 c hc hh
    ·rw[hh];exact h2
  have adL:¬n<r.n.toNat→∀c,r.QV n c=r.has c:=λh c=>by unfold Rn.QV Rn.has;rw[zaN];simp;omega
  cases ok
  ·(repeat'((conv=>whnf);first|refine zcd ⟨by rw[zaw];exact hL.len,ab,ab⟩ ?_|refine aFA (Gr ab) ?_|refine bj ab ?_|refine de (λ_=>?_) (λ_=>?_)|refine bT ?_|fail))<;>try(conv=>whnf)
   ·refine⟨m-1,ab,n+1,false,_,⟨ab,?_,LO⟩,congrArg (λx=>[dC.row 277 1 false x,_]) oU,by rw[e]⟩;rw[nK ab,<-di];simp
   ·refine hK false L (by simpa only[adL ab]using di) (hL.congr λc _=>by rw[adL ab])
  ·(repeat'((conv=>whnf);first|refine zcd ⟨by rw[zaw];exact hL.len,ab,ab⟩ ?_|refine aFA (Gr ab) ?_|refine bj ab ?_|refine de (λ_=>?_) (λ_=>?_)|refine bT ?_|fail))<;>try(conv=>whnf)
   ·rename_i hf;refine⟨m-1,ab,n+1,true,_,⟨ab,?_,LO⟩,congrArg (λx=>[dC.row 277 1 false x,_]) oU,by rw[e]⟩;rw[nK ab,<-di];simp[hf]
   ·rename_i hf;refine⟨m-1,ab,n+1,false,_,⟨ab,?_,LO⟩,congrArg (λx=>[dC.row 277 1 false x,_]) oU,by rw[e]⟩;rw[nK ab,<-di];simpa using hf
   ·refine hK true L (by simpa only[adL ab]using di) (hL.congr λc _=>by rw[adL ab])
def J8(l m:List Rn):bI (l++m)=bI l+bI m:=by simp[bI]
def aeq{l:List Rn}{i:Nat}{r:Rn}(h:l[i]?=some r):bI (l.take (i+1))=bI (l.take i)+r.n:=by
 rw[zck,h,J8];simp[bI]
def yP(l:List Rn):Prop:=l.length<=1000∧∀r∈l,-1000000000000<=r.n/\r.n<=1000000000000
def yP.sum{l:List Rn}(h:yP l):∀i,i<=l.length-> -1000000000000*i<=bI (l.take i)/\bI (l.take i)<=1000000000000*i:=by
 intro i
 induction i with
 |zero=>intro _;simp[bI]
 |succ i ih=>
  intro hi;have hx:=zah (show i<l.length by omega);rw[aeq hx];have h1:=ih ab;have h2:=h.2 _ (zcN (show i<l.length by omega));omega
def iu(ps:List PV)(x:PV):Prop:=∃s:Rs,ps=[qF s]/\yP s.l/\x=pI (bI s.l)
def agW:MT (ay []) NI (ah iu):=by
 rintro _ K ⟨_,⟨s,rfl,hs,rfl⟩,hK⟩
 (repeat'((conv=>whnf);first|refine KP ?_|refine dq λ_=>?_|fail))<;>try(conv=>whnf)
 refine⟨λm env σ=>∃(n:Nat),n+m=s.l.length/\σ=[]/\env=[eN 3 (bI (s.l.take n)),(6,.pv (qF s)),eN 7 s.l.length,eN 8 n],s.l.length,⟨0,ab,rfl,rfl⟩,?_⟩;rintro m env σ ⟨n,hn,rfl,rfl⟩;have hb:=hs.sum n ab;have hl:=hs.1
 (repeat'((conv=>whnf);first|(refine n5 ab (λx hx=>?_);have:=hs.2 x (zag hx))|refine bj ab ?_|refine de (λ_=>?_) (λ_=>?_)|refine bT ?_|fail))<;>try(conv=>whnf)
 ·exact abg
 ·rw[za1 ab];exact aG
def wo(f:Nat->Int):Nat->Nat->Int×Int
 |_,0=>(0,0)
 |i,n+1=>if f i=0 then wo f (i+1) n else((i:Int),f i)
def aiD{f:Nat->Int}{i n:Nat}(h:f i≠0):wo f i (n+1)=((i:Int),f i):=if_neg h
def ap7{f:Nat->Int}{i n:Nat}(h:f i=0):wo f i (n+1)=wo f (i+1) n:=if_pos h
def U2{f:Nat->Int}{i n:Nat}(h:∀j,j<i->f j=0):∀k,k<=i->i<=n->wo f k (n-k)=wo f i (n-i):=by
 intro k
 induction hd:i-k generalizing k with
 |zero=>intro h1 _;have:k=i:=by omega
        subst this;rfl
 |succ d ih=>
  intro h1 h2;rw[<-ih (k+1) ab ab h2,show n-k=(n-(k+1))+1 by omega,ap7 (h k ab)]
def aqT{f:Nat->Int}{i n:Nat}(h:∀j,j<i->f j=0)(hi:i<n)(hf:f i≠0):wo f 0 n=((i:Int),f i):=by
 have:=U2 (n:=n) h 0 ab ab;rw[zcr]at this;rw[this,show n-i=(n-i-1)+1 by omega,aiD hf]
def ai6{f:Nat->Int}{n:Nat}(h:∀j,j<n->f j=0):wo f 0 n=(0,0):=by
 have:=U2 (n:=n) h 0 ab (zai _);rw[zcr,zcH]at this;rw[this];rfl
def apf{f:Nat->Int}{n:Nat}(h:(wo f 0 n).2=0):∀j,j<n->f j=0:=by
 intro j hj;refine Classical.byContradiction λdI=>?_
 have:∀i k,(∃j,i<=j/\j<i+k/\f j≠0)->(wo f i k).2≠0:=by
  intro i k
  induction k generalizing i with
  |zero=>rintro⟨j,h1,h2,_⟩;omega
  |succ k ih=>
   rintro⟨j,h1,h2,h3⟩;unfold wo;split
   ·rename_i h0;refine ih (i+1) ⟨j,?_,ab,h3⟩;rcases zcb h1 with h4|h4
    ·omega
    ·subst h4;exact absurd h0 h3
   ·assumption
 exact this 0 n ⟨j,ab,ab,dI⟩ h
def pE(a b:Rn):Prop:=a.s≠ -1/\b.s≠ -1/\a.s<b.s+b.n/\b.s<a.s+a.n
instance (a b:Rn):Decidable (pE a b):=by unfold pE;infer_instance
def Wx(l:List Rn)(i:Nat):Int:=match l[i]? with
 |none=>0
 |some r=>if ¬jZ r then 2 else if 0<i/\(∃p,l[i-1]?=some p/\iy p r)then 3 else if ∃k,k<i∧∃p,l[k]?=some p/\pE p r then 23 else 0
def Jr{l:List Rn}{i:Nat}{r:Rn}(h:l[i]?=some r)(h0:Wx l i=0):jZ r:=by
 unfold Wx at h0;rw[h]at h0;refine Classical.byContradiction λhr=>?_
 simp[hr]at h0
def kX(l:List Rn):Int×Int:=if 64<l.length then(0,8)else if (wo (Wx l) 0 l.length).2≠0 then wo (Wx l) 0 l.length else(0,if bI l<=4096 then 0 else 8)
def dU(l:List Rn):Int:=(kX l).2
def agj{l:List Rn}(hl:l.length<=1000)(h:∀j,j<l.length->Wx l j=0):yP l:=by
 refine⟨hl,λr hr=>?_⟩;obtain⟨i,hi⟩:=jk.1 hr;have:=(Jr hi (h i (eT hi))).b;unfold rnB at this;omega
def aje{l:List Rn}{n:Nat}{x p:Rn}(hx:l[n]?=some x)(h:jZ x)(hn:0<n)(hp:l[n-1]?=some p)(hj:iy p x):Wx l n=3:=by
 unfold Wx;rw[hx];simp only[h,not_true_eq_false,if_false];rw[if_pos ⟨hn,p,hp,hj⟩]
def afo{l:List Rn}{n:Nat}{x:Rn}(hx:l[n]?=some x)(h:jZ x)(hj:∀p,0<n->l[n-1]?=some p→¬iy p x)(hd:∃k,k<n∧∃p,l[k]?=some p/\pE p x):Wx l n=23:=by
 unfold Wx;rw[hx];simp only[h,not_true_eq_false,if_false];rw[if_neg (by rintro⟨h1,p,h2,h3⟩;exact hj p h1 h2 h3),if_pos hd]
def KD{l:List Rn}{n:Nat}{x:Rn}(hx:l[n]?=some x)(h:jZ x)(hj:∀p,0<n->l[n-1]?=some p→¬iy p x)(hd:¬ ∃k,k<n∧∃p,l[k]?=some p/\pE p x):Wx l n=0:=by
 unfold Wx;rw[hx];simp only[h,not_true_eq_false,if_false];rw[if_neg (by rintro⟨h1,p,h2,h3⟩;exact hj p h1 h2 h3),if_neg hd]
def Zz{p q:Rn}(hp:jZ p)(hq:jZ q):pE p q↔∃c:Nat,c<512/\p.has c=true/\q.has c=true:=by
 unfold jZ at hp hq;unfold pE Rn.has;simp only[decide_eq_true_iff];constructor
 ·rintro⟨h1,h2,h3,h4⟩;rw[if_neg h1]at hp;rw[if_neg h2]at hq;exact⟨(max p.s q.s).toNat,ab,⟨h1,ab,ab⟩,⟨h2,ab,ab⟩⟩
 ·rintro⟨c,_,⟨h1,h2,h3⟩,⟨h4,h5,h6⟩⟩;exact⟨h1,h4,ab,ab⟩
def aae(ps:List PV)(r:RV):Prop:=∃s:Rs,ps=[qF s]/\r=.tup [.pv (pI (kX s.l).1),.pv (pI (kX s.l).2)]
def anq{l:List Rn}(h:64<l.length):kX l=(0,8):=by unfold kX;rw[if_pos h]
def Ox{l:List Rn}{n:Nat}{e:Int}(hl:l.length<=64)(h0:∀k,k<n->Wx l k=0)(aU:n<l.length)(he:Wx l n=e)(dI:e≠0):kX l=((n:Int),e):=by
 unfold kX;rw[if_neg ab,aqT h0 aU (by rw[he];exact dI),he,if_pos dI]
def Mo{l:List Rn}(hl:l.length<=64)(h0:∀k,k<l.length->Wx l k=0):kX l=(0,if bI l<=4096 then 0 else 8):=by
 unfold kX;rw[if_neg ab,ai6 h0,if_neg aj]
def Bc(l:List Rn)(n c:Nat):Bool:=(l.take n).any λr=>r.has c
def KY{l:List Rn}{n c:Nat}{x:Rn}(h:l[n]?=some x):Bc l (n+1) c=(Bc l n c||x.has c):=by
 unfold Bc;rw[zck,h];simp
def Fq{l:List Rn}{n:Nat}{x:Rn}(h0:∀k,k<n->Wx l k=0)(hx:jZ x):(∃k,k<n∧∃p,l[k]?=some p/\pE p x)↔¬ ∀c,c<512->x.has c=true->Bc l n c=false:=by
 constructor
 ·rintro⟨k,hk,p,hp,hs⟩ h;obtain⟨c,h1,h2,h3⟩:=(Zz (Jr hp (h0 k hk)) hx).1 hs;have h4:=h c h1 h3;unfold Bc at h4;rw[zcJ]at h4;exact h4 p (zag (by rw[zch hk];exact hp)) h2
 ·intro h;refine Classical.byContradiction λhn=>h λc hc hh=>?_
  unfold Bc;rw[zcJ];intro p hp hpc;obtain⟨k,hk⟩:=jk.1 hp;have kP:k<n:=by have:=eT hk;simp at this;omega
  rw[zch kP]at hk;exact hn ⟨k,kP,p,hk,(Zz (Jr hk (h0 k kP)) hx).2 ⟨c,hc,hpc,hh⟩⟩
def aF7(l:List Rn):mc (List.replicate 512 false) (Bc l 0):=⟨zaq,λc hc=>by rw[zcz,if_pos hc];rfl⟩
def Wc:MT (ay [(246,ah Ph),(247,bF Ab),(248,sB ag6),(197,ah iu),(229,ah dG)]) FW (c8 true aae):=by
 rintro _ K ⟨_,⟨s,rfl,rfl⟩,hK⟩
 (repeat'((conv=>whnf);first|refine KP ?_|refine de (λ_=>?_) (λ_=>?_)|refine dq λ_=>?_|fail))<;>try(conv=>whnf)
 ·rename_i h;rw[anq ab]at hK;exact kM
 rename_i h;refine⟨λm env σ=>∃(n:Nat) (L:List Bool),(n+m=s.l.length/\(∀k,k<n->Wx s.l k=0)/\mc L (Bc s.l n))/\σ=[Yi L]/\env=[(0,.pv (qF s)),(4,.ref 0 0 0),(11,.pv (qF s)),eN 12 s.l.length,eN 13 n],s.l.length,⟨0,List.replicate 512 false,⟨ab,λk hk=>ab,aF7 _⟩,by unfold Yi;rw[zci],rfl⟩,?_⟩;rintro m env σ ⟨n,L,⟨hn,h0,hL⟩,rfl,rfl⟩;by_cases aU:n<s.l.length
 ·obtain⟨x,hx⟩:∃x,s.l[n]?=some x:=⟨_,zah aU⟩
  by_cases SI:jZ x
  case neg=>
   have hv:kX s.l=((n:Int),2):=Ox ab h0 aU (by unfold Wx;rw[hx];simp[SI]) ao;rw[hv]at hK
   (repeat'((conv=>whnf);first|refine Ek hx ?_|refine⟨_,⟨x,rfl,rfl⟩,?_⟩|refine au (by rw[if_neg SI];decide) ?_|refine au ab ?_|refine bT ?_|fail))<;>try(conv=>whnf)
   rw[if_neg SI];exact kM
  by_cases x3:0<n
  ·obtain⟨p,hp⟩:∃p,s.l[n-1]?=some p:=⟨_,zah ab⟩
   (repeat'((conv=>whnf);first|refine Ek hx ?_|refine aEP (x:=p) ab aiB ?_|refine⟨_,⟨x,rfl,rfl⟩,?_⟩|refine aw (λh=>h (if_pos SI)) ?_|refine⟨_,⟨p,x,rfl,⟨(Jr hp (h0 _ ab)).b,SI.b⟩,rfl⟩,?_⟩|refine⟨x,_,L,rfl,⟨SI,hL⟩,rfl,λok L' di y3=>?_⟩|refine bj ab ?_|refine au ab ?_|refine de (λ_=>?_) (λ_=>?_)|refine bT ?_|fail))<;>try(conv=>whnf)
   ·rename_i hj;have hv:kX s.l=((n:Int),3):=Ox ab h0 aU (aje hx SI x3 hp hj) ao;rw[hv]at hK;exact kM
   ·rename_i hj hd;have hv:kX s.l=((n:Int),23):=Ox ab h0 aU (afo hx SI (λq _ hq=>Qe) ((Fq h0 SI).2 λh=>by rw[di.2 h]at hd;cases hd)) ao;rw[hv]at hK;exact kM
   ·rename_i hj hd;have hz:=KD hx SI (λq _ hq=>Qe) (λh=>(Fq h0 SI).1 h (di.1 (by simpa using hd)));exact⟨m-1,ab,n+1,L',⟨ab,λk hk=>by
     rcases zcb (zcl hk)with h1|h1
     ·exact h0 k h1
     ·rw[h1];exact hz,y3.congr λc _=>(KY hx).symm⟩,rfl,rfl⟩
  ·(repeat'((conv=>whnf);first|refine Ek hx ?_|refine⟨_,⟨x,rfl,rfl⟩,?_⟩|refine aw (λh=>h (if_pos SI)) ?_|refine⟨x,_,L,rfl,⟨SI,hL⟩,rfl,λok L' di y3=>?_⟩|refine bj ab ?_|refine au ab ?_|refine aw ab ?_|refine de (λ_=>?_) (λ_=>?_)|refine bT ?_|fail))<;>try(conv=>whnf)
   ·rename_i hd;have hv:kX s.l=((n:Int),23):=Ox ab h0 aU (afo hx SI (λq h _=>absurd h x3) ((Fq h0 SI).2 λh=>by rw[di.2 h]at hd;cases hd)) ao;rw[hv]at hK;exact kM
   ·rename_i hd;have hz:=KD hx SI (λq h _=>absurd h x3) (λh=>(Fq h0 SI).1 h (di.1 (by simpa using hd)));exact⟨m-1,ab,n+1,L',⟨ab,λk hk=>by
     rcases zcb (zcl hk)with h1|h1
     ·exact h0 k h1
     ·rw[h1];exact hz,y3.congr λc _=>(KY hx).symm⟩,rfl,rfl⟩
 ·(repeat'((conv=>whnf);first|refine⟨_,⟨s,rfl,agj ab (λj hj=>h0 j ab),rfl⟩,?_⟩|(refine fe ?_;first|refine aw ab ?_|refine de (λ_=>?_) (λ_=>?_)|refine⟨_,⟨_,_,rfl,rfl⟩,?_⟩|fail)))<;>try(conv=>whnf)
  ·rename_i hs;rw[Mo ab (λk hk=>h0 k ab),if_pos ab]at hK;exact kM
  ·rename_i hs;rw[Mo ab (λk hk=>h0 k ab),if_neg ab]at hK;exact kM
def YX(ps:List PV)(p:Prop):Prop:=∃(l:List Int) (n:Int),ps=[.sl 1 (l.map pI),pI n]/\l.length<=1000000/\p=(n∈l)
def aqO:MT (ay []) ZL (bF YX):=by
 rintro _ K ⟨_,⟨l,x,rfl,hl,rfl⟩,hK⟩
 (conv=>whnf)
 refine⟨λm env σ=>∃(n:Nat),(n+m=l.length∧∀k,k<n->l[k]?≠some x)/\σ=[]/\env=[(0,.pv (.sl 1 (l.map pI))),eN 1 x,eN 5 n],l.length,⟨0,⟨ab,λk hk=>ab⟩,rfl,rfl⟩,?_⟩;rintro m env σ ⟨n,⟨hn,h0⟩,rfl,rfl⟩
 (repeat'((conv=>whnf);first|refine bj ab ?_|refine de (λ_=>?_) (λ_=>?_)|refine dq λ_=>?_|refine aii ab (λ_ _=>?_)|fail))<;>try(conv=>whnf)
 ·rename_i y hy he;exact⟨.pv (.bool _),rfl,trivial,hK true (by simp only[true_iff];exact he▸zag hy)⟩
 ·rename_i y hy he;exact⟨m-1,ab,n+1,⟨ab,λk hk hq=>by
   rcases zcb (zcl hk)with h1|h1
   ·exact h0 k h1 hq
   ·subst h1;rw[hy]at hq;cases hq;exact he rfl⟩,rfl,rfl⟩
 ·refine⟨.pv (.bool _),rfl,trivial,hK false ?_⟩;simp only[zbZ,false_iff];intro hx;obtain⟨k,hk⟩:=jk.1 hx;exact h0 k vg hk
def aJ(n:Int):Nat->List UInt8
 |0=>[]
 |k+1=>lV (n%256).toNat::aJ (n/256) k
def gL(k:Nat):∀n,(aJ n k).length=k:=by
 induction k with
 |zero=>intro n;rfl
 |succ k ih=>intro n;simp[aJ,ih]
def aam(k:Nat):∀n,aJ n (k+1)=aJ n k++[lV (n/256^k%256).toNat]:=by
 induction k with
 |zero=>intro n;simp[aJ]
 |succ k ih=>
  intro n;rw[aJ,ih (n/256),aJ,zca ao];simp[zcy,Int.mul_comm]
def CL(n:Int):PV.int .u8 (n%256)=aL (lV (n%256).toNat):=ue ab
def M0(ps:List PV)(x:PV):Prop:=∃(n:Int) (k:Nat),ps=[pI n,pI k]/\(0<=n/\n<=9223372036854775807/\k<=1000)/\x=.str (aJ n k)
def afU:MT (ay []) Ma (ah M0):=by
 rintro _ K ⟨_,⟨n,k,rfl,⟨h1,h2,h3⟩,rfl⟩,hK⟩
 (conv=>whnf)
 refine⟨λm env σ=>∃(i:Nat) (q:Int),(i+m=k/\q=n/256^i/\0<=q/\q<=n)/\σ=[.row 5 1 true ((aJ n i).map aL)]/\env=[eN 0 q,eN 1 k,(5,.own 0),eN 6 i],k,⟨0,n,⟨ab,aj,ab,ab⟩,rfl,rfl⟩,?_⟩;rintro m env σ ⟨i,q,⟨hi,hq,K5,rD⟩,rfl,rfl⟩;have bJ:=gL i n
 (repeat'((conv=>whnf);first|refine bj ab ?_|refine de (λ_=>?_) (λ_=>?_)|refine l7 ab ?_|refine lW ab ?_|refine U8 ab ?_|refine yR ?_|refine bT ?_|refine zcd cu ?_|fail))<;>try(conv=>whnf)
 ·refine⟨m-1,ab,i+1,q/256,⟨ab,?_,ab,ab⟩,?_,rfl⟩
  ·rw[hq,zca (zcF ao),zcy]
  ·rw[aam,zbs,<-hq];exact congrArg (λx=>[dC.row 5 1 true (_++[x])]) (CL q)
 ·have:i=k:=by omega
  subst this;exact bM
def IU(B:List UInt8)(at_:Nat)(bs:List UInt8):List UInt8:=B.take at_++bs++B.drop (at_+bs.length)
def auf{B bs:List UInt8}{at_:Nat}(h:at_+bs.length<=B.length):(IU B at_ bs).length=B.length:=by unfold IU;simp;omega
def ajN(B:List UInt8)(at_:Nat):IU B at_ []=B:=by unfold IU;simp
def aqR{B bs:List UInt8}{at_:Nat}{b:UInt8}(h:at_+bs.length<B.length):(IU B at_ bs).set (at_+bs.length) b=IU B at_ (bs++[b]):=by
 unfold IU;rw[List.set_append_right _ _ aH];have e:at_+bs.length-(B.take at_++bs).length=0:=aH;rw[e,zb3 h,List.set_cons_zero];simp[Nat.add_assoc]
def aFx{n:Int}{K:Int->Prop}(k:K (n/256)):0<=(8:Int)∧∀r:Int,r=n.fdiv (2^min (8:Int).toNat IntKind.i64.bits)->K r:=by
 refine⟨ao,λr hr=>?_⟩;have e8:min (8:Int).toNat IntKind.i64.bits=8:=ao;rw[e8,zbY _ ao]at hr;rw[hr];exact k
def ayY(xs:List AV)(σ:aF)(K:AV->aF->Prop):Prop:=∃(B:List UInt8) (at_ k:Nat) (n:Int),xs=[.own 0,.pv (pI at_),.pv (pI k),.pv (pI n)]/\(at_+k<=B.length/\B.length<=1000000)/\σ=[.row 5 1 true (B.map aL)]/\K (.tup []) [.row 5 1 true ((IU B at_ (aJ n k)).map aL)]
def apz:gO (ay []) yG (sB ayY):=by
 rintro _ _ K ⟨B,at_,k,n,rfl,⟨h1,h2⟩,rfl,hK⟩
 (conv=>whnf)
 refine⟨λm env σ=>∃(i:Nat),i+m=k/\σ=[.row 5 1 true ((IU B at_ (aJ n i)).map aL)]/\env=[(0,.own 0),eN 1 at_,eN 3 (n/256^i),eN 9 k,eN 10 i],k,⟨0,ab,by simp[aJ,ajN],aj⟩,?_⟩;rintro m env σ ⟨i,hi,rfl,rfl⟩;have bJ:=gL i n;have qG:=auf (B:=B) (at_:=at_) (bs:=aJ n i) ab
 (repeat'((conv=>whnf);first|refine aFx ?_|refine bj ab ?_|refine de (λ_=>?_) (λ_=>?_)|refine Oo ?_|refine Q3 ab ?_|refine aFU ab (λ_ _ _=>?_)|refine bT ?_|fail))<;>try(conv=>whnf)
 ·refine⟨m-1,ab,i+1,ab,?_,?_⟩
  ·rw[aam,<-aqR ab,<-oU,bJ];exact congrArg (λx=>[dC.row 5 1 true (List.set _ _ x)]) (CL _)
  ·rw[zcy,<-zca (zcF ao)];rfl
 ·have:i=k:=by omega
  subst this;exact hK
def jv(n:Int):Nat:=if-128<=n/\n<=127 then 1 else 2
def sgB(n:Int):List UInt8:=aJ n (jv n)
def Bx{n v:Int}{K:Int->Prop}(h:n=v)(k:K v):∀r:Int,r=n->K r:=λr hr=>by rw[hr,h];exact k
def aaw(ps:List PV)(x:PV):Prop:=∃n:Int,ps=[pI n]/\(-32768<=n/\n<=32767)/\x=pI (jv n)
def afr:MT (ay [(230,bF bG)]) NN (ah aaw):=by
 rintro _ K ⟨_,⟨n,rfl,h,rfl⟩,hK⟩;unfold jv at hK
 (conv=>whnf)
 refine⟨λm env σ=>(m=1/\σ=[]/\env=[eN 0 n,eN 3 1])\/(m=0∧¬(-128<=n/\n<=127)/\σ=[]/\env=[eN 0 n,eN 3 2]),1,.inl ⟨rfl,rfl,rfl⟩,?_⟩;rintro m env σ (⟨rfl,rfl,rfl⟩|⟨rfl,hn,rfl,rfl⟩)
 ·(repeat'((conv=>whnf);first|refine Bx (v:= -128) ao ?_|refine Bx (v:=128) ao ?_|(refine fe ?_;first|refine bj ab ?_|refine aN ?_|refine bP ?_|refine de (λ_=>?_) (λ_=>?_)|refine bT ?_|refine⟨_,⟨_,_,_,rfl,rfl⟩,?_⟩|refine wz ?_|fail)))<;>try(conv=>whnf)
  ·rename_i hc;rw[if_pos ab]at hK;exact aG
  ·rename_i hc;exact⟨0,ao,.inr ⟨rfl,ab,rfl,rfl⟩⟩
 ·(repeat'((conv=>whnf);first|refine Bx (v:= -32768) ao ?_|refine Bx (v:=32768) ao ?_|(refine fe ?_;first|refine bj ab ?_|refine aN ?_|refine au ab ?_|refine bT ?_|refine⟨_,⟨_,_,_,rfl,rfl⟩,?_⟩|refine wz ?_|fail)))<;>try(conv=>whnf)
  rw[if_neg hn]at hK;exact aG
def l_(l:List UInt8):∀x∈l.map aL,x.flat:=by
 intro x hx;obtain⟨t,_,rfl⟩:=zaX.1 hx;trivial
def Z0(ps:List PV)(r:RV):Prop:=∃(n:Int) (k:Nat),ps=[pI n,pI k]/\k<=1000/\r=.fresh 5 1 ((aJ n k).map aL)
def agJ:MT (ay []) Od (c8 true Z0):=by
 rintro _ K ⟨_,⟨n,k,rfl,hk,rfl⟩,hK⟩
 (conv=>whnf)
 refine⟨λm env σ=>∃(i:Nat),i+m=k/\σ=[.row 5 1 true ((aJ n i).map aL)]/\env=[eN 0 (n/256^i),(5,.own 0),eN 6 k,eN 7 i],k,⟨0,ab,rfl,aj⟩,?_⟩;rintro m env σ ⟨i,hi,rfl,rfl⟩;have bJ:=gL i n
 (repeat'((conv=>whnf);first|refine aFx ?_|refine bj ab ?_|refine de (λ_=>?_) (λ_=>?_)|refine Oo ?_|refine bT ?_|refine zcd cu ?_|fail))<;>try(conv=>whnf)
 ·refine⟨m-1,ab,i+1,ab,?_,?_⟩
  ·rw[aam,zbs];exact congrArg (λx=>[dC.row 5 1 true (_++[x])]) (CL _)
  ·rw[zcy,<-zca (zcF ao)];rfl
 ·have:i=k:=by omega
  subst this;exact⟨.fresh _ _ _,⟨rfl,rfl,rfl,rfl⟩,l_ _,hK⟩
def wB(ps:List PV)(x:PV):Prop:=∃ls:List Rs,ps=[.sl 1 (ls.map qF)]/\ls.length<=100/\x=pI (bQ (ls.map λs=>dU s.l))
def ac2:MT (ay [(208,c8 true aae)]) J3 (ah wB):=by
 rintro _ K ⟨_,⟨ls,rfl,hl,rfl⟩,hK⟩
 (repeat'((conv=>whnf);first|refine dq λ_=>?_|fail))<;>try(conv=>whnf)
 refine⟨λm env σ=>∃(n:Nat),(n+m=ls.length∧∀j,j<n->(ls.map λs=>dU s.l)[j]?=some 0)/\σ=[]/\env=[(7,.pv (.sl 1 (ls.map qF))),eN 8 ls.length,eN 9 n],ls.length,⟨0,⟨ab,λj hj=>ab⟩,rfl,aj⟩,?_⟩;rintro m env σ ⟨n,⟨hn,h0⟩,rfl,rfl⟩;by_cases aU:n<ls.length
 ·obtain⟨s,hs⟩:∃s,ls[n]?=some s:=⟨_,zah aU⟩
  have hg:(ls.map λs=>dU s.l)[n]?=some (dU s.l):=by rw[za9,hs];rfl
  (repeat'((conv=>whnf);first|refine iY hs ?_|refine⟨_,⟨s,rfl,rfl⟩,?_⟩|rw[Sl.cells]|refine bj ab ?_|refine au ab ?_|refine de (λ_=>?_) (λ_=>?_)|fail))<;>try(conv=>whnf)
  ·rename_i dI;rw[ke _ n h0,zb3 (eT hg)]at hK;rw[zah (eT hg)]at hg;rw[Option.some.inj hg]at hK;simp only[bQ]at hK;rw[if_neg (show ¬dU s.l=0 from dI)]at hK;exact aG
  ·rename_i dI;refine⟨m-1,ab,n+1,⟨ab,λj hj=>?_⟩,rfl,rfl⟩;by_cases nd:j<n
   ·exact h0 j nd
   ·rw[show j=n by omega,hg];exact congrArg some (by unfold dU;simpa using dI)
 ·(repeat'((conv=>whnf);first|refine aw ab ?_|fail))<;>try(conv=>whnf)
  rw[ke _ n h0,zb1 aH]at hK;exact aG
def acT(st:List UInt8×Int)(r:Rn):List UInt8×Int:=
 if r.s= -1 then(st.1++aJ (jv r.n) 1++sgB r.n,st.2)
 else(st.1++aJ (jv r.n+16*jv (r.s-st.2)) 1++sgB r.n++sgB (r.s-st.2),r.s)
def Cn(l:List Rn)(n:Nat):List UInt8×Int:=(l.take n).foldl acT ([],0)
def tD{l:List Rn}{n:Nat}{x:Rn}(h:l[n]?=some x):Cn l (n+1)=acT (Cn l n) x:=by
 unfold Cn;rw[zck,h,List.foldl_append];rfl
def qL(l:List Rn):List UInt8:=(Cn l l.length).1++[0]
def afG(n:Int):(sgB n).length=jv n:=gL _ _
def S8(n:Int):1<=jv n/\jv n<=2:=by unfold jv;split<;>omega
def JP(l:List Rn):∀n,n<=l.length->(Cn l n).1.length<=5*n:=by
 intro n
 induction n with
 |zero=>intro _;simp[Cn]
 |succ n ih=>
  intro h;rw[tD (zah (show n<l.length by omega))];have:=ih ab;have h1:=S8 l[n].n;have h2:=S8 (l[n].s-(Cn l n).2);unfold acT;split<;>simp only[zad,afG,gL]<;>omega
def adP{l:List Rn}(h:∀r∈l,jZ r):∀n,n<=l.length->0<=(Cn l n).2/\(Cn l n).2<=511:=by
 intro n
 induction n with
 |zero=>intro _;simp[Cn]
 |succ n ih=>
  intro hn;rw[tD (zah (show n<l.length by omega))];have:=ih ab;have h1:=h _ (zcN (show n<l.length by omega));unfold jZ at h1;unfold acT;split
  ·exact this
  ·rename_i hc;rw[if_neg hc]at h1;show 0<=l[n].s/\l[n].s<=511;omega
def bZ{l:List Rn}(h:dU l=0):l.length<=64/\(∀k,k<l.length->Wx l k=0)/\bI l<=4096∧∀r∈l,jZ r:=by
 unfold dU kX at h;split at h
 ·cases h
 rename_i h1;split at h
 ·rename_i h2;exact absurd h h2
 rename_i h2;have h3:=apf iT;refine⟨ab,h3,?_,λr hr=>?_⟩
 ·simp only at h;split at h
  ·assumption
  ·cases h
 ·obtain⟨i,hi⟩:=jk.1 hr;exact Jr hi (h3 i (eT hi))
def aJs{d:Int}{K:Int->Prop}(h:0<=d/\d<=1000)(k:K (d*16)):0<=(4:Int)∧∀r:Int,r=IntKind.i64.wrap (d*2^min (4:Int).toNat IntKind.i64.bits)->K r:=by
 refine⟨ao,λr hr=>?_⟩;have e8:(2:Int)^min (4:Int).toNat IntKind.i64.bits=16:=ao;rw[e8,wrap64 ab]at hr;rw[hr];exact k
def GX{d s:Int}{K:Int->Prop}(h:0<=d/\d<=1000)(hs:0<=s/\s<16)(k:K (s+16*d)):∀r:Int,r=iz .or .i64 (d*16) s->K r:=λr hr=>by
 obtain⟨m,rfl⟩:=zcj h.1;obtain⟨n,rfl⟩:=zcj hs.1;have e:((m:Int)*16)=((2^4*m:Nat):Int):=aH;rw[e,axa ab ab,zcK,O7 (k:=4) ab]at hr;rw[hr];have:(((n+2^4*m:Nat)):Int)=(n:Int)+16*(m:Int):=aj;rw[this];exact k
def ayZ{v:Int}(h:0<=v/\v<256):PV.int .u8 v=aL (lV (v%256).toNat):=by rw[<-CL,Int.emod_eq_of_lt h.1 h.2]
def axR(s:Rs):ahB 1 [qF s]=true:=by cases s<;>rfl
def G7(ps:List PV)(r:RV):Prop:=∃s:Rs,ps=[qF s]/\r=.tup [.pv (.str (if dU s.l=0 then qL s.l else[])),.pv (pI (dU s.l))]
def Uu:MT (ay [(196,ah wB),(233,bF BJ),(249,ah aaw),(250,c8 true Z0)]) C5 (c8 true G7):=by
 rintro _ K ⟨_,⟨s,rfl,rfl⟩,hK⟩;have hf:bQ (([s]:List Rs).map λs=>dU s.l)=dU s.l:=by simp only[zau,List.map_nil,bQ];split<;>simp_all
 (repeat'((conv=>whnf);first|refine zcd (axR s) ?_|(refine fe ?_;refine⟨_,⟨[s],rfl,aj,rfl⟩,?_⟩)|refine KP ?_|refine de (λ_=>?_) (λ_=>?_)|refine dq λ_=>?_|fail))<;>try(conv=>whnf)
 ·rename_i dI;replace dI:dU s.l≠0:=hf▸dI;rw[if_neg dI,<-hf]at hK;exact kM
 rename_i hz _;have hz:dU s.l=0:=by refine Classical.byContradiction λh=>hz ?_;rw[hf];exact h
 rw[hz,if_pos rfl]at hK;obtain⟨hl,_,_,di⟩:=bZ hz;refine⟨λm env σ=>∃(n:Nat),(n+m=s.l.length)/\σ=[.row 5 1 true ((Cn s.l n).1.map aL)]/\env=[(5,.own 0),eN 6 (Cn s.l n).2,(17,.pv (qF s)),eN 18 s.l.length,eN 19 n],s.l.length,⟨0,ab,rfl,by simp[Cn]⟩,?_⟩;rintro m env σ ⟨n,hn,rfl,rfl⟩;have hlen:=JP s.l n ab;have Vu:=adP di n ab;by_cases aU:n<s.l.length
 ·obtain⟨x,hx⟩:∃x,s.l[n]?=some x:=⟨_,zah aU⟩
  have OB:=di x (zag hx);have Xu:(1<=x.n/\x.n<=4096)/\(x.s≠ -1->0<=x.s/\x.s<=511):=ajM;have h1:=S8 x.n;have h2:=S8 (x.s-(Cn s.l n).2);have h3:=gL (jv x.n) x.n;have h4:=gL (jv (x.s-(Cn s.l n).2)) (x.s-(Cn s.l n).2)
  (repeat'((conv=>whnf);first|refine Ek hx ?_|refine aJs ab ?_|refine GX ab ab ?_|refine⟨_,⟨_,_,rfl,ab,rfl⟩,?_⟩|refine⟨_,⟨x,rfl,rfl⟩,?_⟩|refine zcd (by(simp only[zad,zaw,zam,zaY,gL];omega)) ?_|(refine fe ?_;first|refine bj ab ?_|refine aN ?_|refine bP ?_|refine au ab ?_|refine aw ab ?_|refine de (λ_=>?_) (λ_=>?_)|refine U8 ab ?_|refine bT ?_|refine⟨_,⟨_,rfl,dY,rfl⟩,?_⟩|fail)))<;>try(conv=>whnf)
  ·rename_i hc;refine⟨m-1,ab,n+1,ab,?_,?_⟩
   ·rw[tD hx];unfold acT;rw[if_pos hc];simp only[zbs];exact congrArg (λz=>[dC.row 5 1 true (_++[z]++_)]) (ayZ (v:=jv x.n) ab)
   ·rw[tD hx];unfold acT;rw[if_pos hc];rfl
  ·rename_i hc;refine⟨m-1,ab,n+1,ab,?_,?_⟩
   ·rw[tD hx];unfold acT;rw[if_neg hc];simp only[zbs];exact congrArg (λz=>[dC.row 5 1 true (_++[z]++_++_)]) (ayZ (v:=jv x.n+16*jv (x.s-(Cn s.l n).2)) ab)
   ·rw[tD hx];unfold acT;rw[if_neg hc];rfl
 ·(repeat'((conv=>whnf);first|refine zcd (by(simp only[zad,zaw,zam,zaY];omega)) ?_|(refine fe ?_;refine⟨(Cn s.l n).1++[0],by simp[aL],?_⟩)|refine aw ab ?_|refine bT ?_|fail))<;>try(conv=>whnf)
  rw[qL,<-show n=s.l.length by omega]at hK;exact kM
end Go.Dv.Try
namespace Go.Dv.Try
open Go Go.Dv Go.RowKit
section
def aoL:List UInt8:=[34,42,47,58,60,62,63,92,124]
def Sb(c:UInt8):Prop:=(32<=c.toNat/\c.toNat<=126)/\c∉aoL
instance (c:UInt8):Decidable (Sb c):=by unfold Sb;infer_instance
def GW(s:List UInt8):Prop:=s≠[]/\(∀b∈s,Sb b)/\s.getLast?≠some 32/\s.getLast?≠some 46
instance (s:List UInt8):Decidable (GW s):=by unfold GW;infer_instance
def Zc(s:List UInt8):Int:=if 32<s.length then 8 else if GW s then 0 else 4
def fy(s:List UInt8):Prop:=s=[]\/Zc s=0
instance (s:List UInt8):Decidable (fy s):=by unfold fy;infer_instance
def ixb(l:List UInt8)(c:UInt8):Lib.indexByte l c<0↔c∉l:=by
 constructor
 ·intro h hc;have h1:=Lib.indexByte_ge l c;obtain⟨k,hk⟩:=jk.1 hc;exact Lib.indexByte_none (show Lib.indexByte l c= -1 by omega) k hk
 ·intro h;refine Classical.byContradiction λhn=>?_
  have:=(Lib.indexByte_some (l:=l) (c:=c) (o:=(Lib.indexByte l c).toNat) ab).1;exact h (zag this)
def Wb:MT (ay [(297,ah qc)]) zR (ah qc):=by
 rintro _ K ⟨_,⟨l,c,rfl,rfl⟩,hK⟩
 (repeat'((conv=>whnf);first|refine⟨_,⟨l,c,rfl,rfl⟩,?_⟩|fail))<;>try(conv=>whnf)
 exact aG
def L8(ps:List PV)(p:Prop):Prop:=∃c:UInt8,ps=[aL c]/\p=Sb c
def RU:MT (ay [(280,ah qc)]) zt (bF L8):=by
 rintro _ K ⟨_,⟨c,rfl,rfl⟩,hK⟩;have hc:=ixb aoL c
 (repeat'((conv=>whnf);first|refine⟨_,⟨aoL,c,rfl,rfl⟩,?_⟩|refine de (λ_=>?_) (λ_=>?_)|fail))<;>try(conv=>whnf)
 all_goals exact⟨.pv (.bool _),rfl,trivial,hK _ (by unfold Sb;rw[<-hc];simp only[zbZ,true_iff,false_iff];omega)⟩
def WD{α:Type}(p:α->Prop)[DecidablePred p]:List α->Int
 |[]=> -1
 |a::l=>if p a then 0 else if WD p l<0 then-1 else WD p l+1
section
variable {α:Type} {p:α->Prop} [DecidablePred p]
def aaK{l:List α}(h:∀x∈l,¬p x):WD p l= -1:=by
 induction l with
 |nil=>rfl
 |cons a l ih=>unfold WD;rw[if_neg (h a aj),ih (λx hx=>h x iP)];rfl
def alT{l:List α}{i:Nat}{x:α}(h0:∀j,j<i→∀y,l[j]?=some y→¬p y)(hx:l[i]?=some x)(hp:p x):WD p l=i:=by
 induction i generalizing l with
 |zero=>
  cases l with
  |nil=>simp at hx
  |cons a l=>simp at hx;subst hx;unfold WD;rw[if_pos hp];rfl
 |succ i ih=>
  cases l with
  |nil=>simp at hx
  |cons a l=>
   have:=ih (l:=l) (λj hj y hy=>h0 (j+1) ab y (by simpa using hy)) (by simpa using hx);unfold WD;rw[if_neg (h0 0 ab a rfl),this,if_neg ab];omega
def Az(l:List α):(WD p l= -1∧∀x∈l,¬p x)∨∃i x,WD p l=((i:Nat):Int)/\l[i]?=some x/\p x∧∀j,j<i→∀y,l[j]?=some y→¬p y:=by
 induction l with
 |nil=>exact .inl ⟨rfl,λx h=>bV⟩
 |cons a l ih=>
  by_cases ha:p a
  ·exact .inr ⟨0,a,by unfold WD;rw[if_pos ha];rfl,rfl,ha,λj h=>ab⟩
  ·rcases ih with⟨h1,h2⟩|⟨i,x,h1,h2,h3,h4⟩
   ·refine .inl ⟨by unfold WD;rw[if_neg ha,h1];rfl,λx hx=>?_⟩;rcases zax.1 hx with rfl|hx
    ·exact ha
    ·exact h2 x hx
   ·refine .inr ⟨i+1,x,by unfold WD;rw[if_neg ha,h1,if_neg ab];omega,iT,h3,λj hj y hy=>?_⟩;cases j with
    |zero=>simp at hy;subst hy;exact ha
    |succ j=>exact h4 j ab y (by simpa using hy)
def axC(l:List α):WD p l<0↔∀x∈l,¬p x:=by
 rcases Az (p:=p) l with⟨h1,h2⟩|⟨i,x,h1,h2,h3,_⟩
 ·rw[h1];exact⟨λ_=>h2,λ_=>ao⟩
 ·rw[h1];exact⟨λh=>ab,λh=>absurd h3 (h x (zag h2))⟩
def ak7(l:List α):0<=WD p l↔∃x∈l,p x:=by
 have:=axC (p:=p) l;constructor
 ·intro h;refine Classical.byContradiction λhn=>?_
  have:=this.2 (λx hx hp=>hn ⟨x,hx,hp⟩);omega
 ·rintro⟨x,hx,hp⟩;refine Classical.byContradiction λhn=>?_
  exact this.1 ab x hx hp
end
def O9(ps:List PV)(p:Prop):Prop:=∃c:UInt8,ps=[aL c,.cptr (.clo 265 [])]/\p=¬Sb c
def RS:MT (ay [(265,bF L8)]) zJ (bF O9):=by
 rintro _ K ⟨_,⟨c,rfl,rfl⟩,hK⟩
 (repeat'((conv=>whnf);first|refine⟨_,⟨c,rfl,rfl⟩,?_⟩|refine aN ?_|refine bP ?_|refine de (λ_=>?_) (λ_=>?_)|fail))<;>try(conv=>whnf)
 all_goals exact yj
abbrev aa2:PV:=.clo 279 [.cptr (.clo 265 [])]
def HK(ps:List PV)(x:PV):Prop:=∃l:List UInt8,ps=[.sl 1 (l.map aL),aa2]/\l.length<=1000000/\x=pI (WD (λc=>¬Sb c) l)
def Un:MT (ay [(279,bF O9)]) oO (ah HK):=by
 rintro _ K ⟨_,⟨l,rfl,hl,rfl⟩,hK⟩
 (repeat'((conv=>whnf);first|refine dq λ_=>?_|fail))<;>try(conv=>whnf)
 refine⟨λm env σ=>∃n:Nat,(n+m=l.length∧∀j,j<n→∀y,l[j]?=some y→¬ ¬Sb y)/\σ=[]/\env=[(0,.pv (.sl 1 (l.map aL))),(1,.pv aa2),eN 7 l.length,eN 8 n],l.length,⟨0,⟨ab,λj hj=>ab⟩,rfl,rfl⟩,?_⟩;rintro m env σ ⟨n,⟨hn,h0⟩,rfl,rfl⟩
 (repeat'((conv=>whnf);first|refine⟨_,⟨_,rfl,rfl⟩,?_⟩|refine bj ab ?_|refine de (λ_=>?_) (λ_=>?_)|refine aGn ab (λ_ _ _=>?_)|fail))<;>try(conv=>whnf)
 ·rename_i x hx _ h;exact⟨.pv (pI _),bu (alT h0 hx h),trivial,hK⟩
 ·rename_i x hx _ h;refine⟨m-1,ab,n+1,⟨ab,λj hj y hy=>?_⟩,rfl,rfl⟩;rcases zcb (zcl hj)with h1|h1
  ·exact h0 j h1 y hy
  ·subst h1;rw[hx]at hy;cases hy;exact h
 ·refine⟨.pv (pI _),bu (aaK λx hx=>?_),trivial,hK⟩;obtain⟨k,hk⟩:=jk.1 hx;exact h0 k vg x hk
def yH(ps:List PV)(p:Prop):Prop:=∃l:List UInt8,ps=[.sl 1 (l.map aL),aa2]/\l.length<=1000000/\p=∃c∈l,¬Sb c
def Nq:MT (ay [(296,ah HK)]) mr (bF yH):=by
 rintro _ K ⟨_,⟨l,rfl,hl,rfl⟩,hK⟩;rw[<-ak7]at hK
 (repeat'((conv=>whnf);first|refine⟨_,⟨l,rfl,hl,rfl⟩,?_⟩|refine de (λ_=>?_) (λ_=>?_)|fail))<;>try(conv=>whnf)
 all_goals exact JH
def OW(ps:List PV)(p:Prop):Prop:=∃l:List UInt8,ps=[.str l,.clo 265 []]/\l.length<=1000000/\p=∀c∈l,Sb c
def ZY:MT (ay [(278,bF yH)]) FX (bF OW):=by
 rintro _ K ⟨_,⟨l,rfl,hl,rfl⟩,hK⟩;have e:(∀c∈l,Sb c)↔¬ ∃c∈l,¬Sb c:=aj;rw[e]at hK
 (repeat'((conv=>whnf);first|refine⟨_,⟨l,rfl,hl,rfl⟩,?_⟩|refine aN ?_|refine bP ?_|refine de (λ_=>?_) (λ_=>?_)|refine wz ?_|fail))<;>try(conv=>whnf)
 all_goals exact yj
def AM(ps:List PV)(p:Prop):Prop:=∃(s:List UInt8) (b:UInt8),ps=[.str s,.str [b]]/\s.length<=1000000/\p=(s.getLast?=some b)
def apM(s:List UInt8)(b:UInt8):(1<=s.length/\s.drop (s.length-1)=[b])↔s.getLast?=some b:=by
 constructor
 ·rintro⟨h1,h2⟩;rw[<-zaD (s.length-1) s,h2];simp
 ·intro h;have dI:s≠[]:=λe=>by subst e;simp at h
  have h1:0<s.length:=zb8.2 dI;refine⟨ab,?_⟩;rw[List.getLast?_eq_getElem?]at h;rw[zb3 (show s.length-1<s.length by omega),zb1 ab];rw[zah (show s.length-1<s.length by omega)]at h;simpa using h
def Uk:MT (ay []) lG (bF AM):=by
 rintro _ K ⟨_,⟨s,b,rfl,hs,rfl⟩,hK⟩;rw[<-apM]at hK;have hl:([b]:List UInt8).length=1:=rfl;have e:cut ((s.length:Int)-(([b]:List UInt8).length:Int)).toNat s.length s=s.drop (s.length-1):=by
  rw[hl,show((s.length:Int)-((1:Nat):Int)).toNat=s.length-1 by omega];unfold cut;rw[List.take_length]
 (repeat'((conv=>whnf);first|refine bj ab ?_|refine de (λ_=>?_) (λ_=>?_)|refine wz ?_|fail))<;>try(conv=>whnf)
 ·rename_i h1 h2;exact⟨.pv (.bool _),rfl,trivial,hK _ (by simp only[true_iff];exact⟨ab,e▸h2⟩)⟩
 ·rename_i h1 h2;exact⟨.pv (.bool _),rfl,trivial,hK _ (by simp only[zbZ,false_iff];rw[<-e];exact λh=>h2 h.2)⟩
 ·rename_i h1;exact⟨.pv (.bool _),rfl,trivial,hK _ (by simp only[zbZ,false_iff];omega)⟩
def Wt:MT (ay [(281,bF AM)]) zT (bF AM):=by
 rintro _ K ⟨_,⟨s,b,rfl,hs,rfl⟩,hK⟩
 (repeat'((conv=>whnf);first|refine⟨_,⟨s,b,rfl,hs,rfl⟩,?_⟩|refine de (λ_=>?_) (λ_=>?_)|fail))<;>try(conv=>whnf)
 all_goals exact yj
def Uw(ps:List PV)(p:Prop):Prop:=∃s:List UInt8,ps=[.str s]/\p=(GW s/\s.length<=32)
def adg:MT (ay [(264,bF OW),(266,bF AM)]) H3 (bF Uw):=by
 rintro _ K ⟨_,⟨s,rfl,rfl⟩,hK⟩;unfold GW at hK
 (repeat'((conv=>whnf);first|refine⟨_,⟨s,rfl,ab,rfl⟩,?_⟩|refine⟨_,⟨s,32,rfl,ab,rfl⟩,?_⟩|refine⟨_,⟨s,46,rfl,ab,rfl⟩,?_⟩|refine aN ?_|refine bP ?_|refine de (λ_=>?_) (λ_=>?_)|fail))<;>try(conv=>whnf)
 ·rename_i h;exact abq
 ·rename_i h;exact abq
 ·rename_i h1 h2 h3 h4 h5 h6;exact⟨.pv (.bool _),rfl,trivial,hK _ (by simp only[true_iff];exact⟨⟨h1,h3,h5,h6⟩,ab⟩)⟩
 ·rename_i h;have h:s=[46,46]:=zb2.1 h;exact⟨.pv (.bool _),rfl,trivial,hK _ (by subst h;simp)⟩
 ·rename_i h;exact⟨.pv (.bool _),rfl,trivial,hK _ (by simp only[zbZ,false_iff];exact λg=>h g.1.2.1)⟩
 ·rename_i h;exact⟨.pv (.bool _),rfl,trivial,hK _ (by simp only[zbZ,false_iff];exact λg=>h ab)⟩
 ·rename_i h;exact⟨.pv (.bool _),rfl,trivial,hK _ (by simp only[zbZ,false_iff];exact λg=>h g.1.1)⟩
def LY(ps:List PV)(x:PV):Prop:=∃s:List UInt8,ps=[.str s]/\x=pI (Zc s)
def VR:MT (ay [(244,ah dG),(245,bF Uw),(243,ah gB)]) C7 (ah LY):=by
 rintro _ K ⟨_,⟨s,rfl,rfl⟩,hK⟩;unfold Zc at hK
 (repeat'((conv=>whnf);first|refine⟨_,⟨s,rfl,rfl⟩,?_⟩|refine⟨_,⟨_,_,rfl,rfl⟩,?_⟩|refine⟨_,⟨[_,_],rfl,rfl⟩,?_⟩|refine aw ab ?_|refine de (λ_=>?_) (λ_=>?_)|refine bT ?_|fail))<;>try(conv=>whnf)
 ·rename_i h1 h2;rw[if_neg ab,if_pos h2.1]at hK;exact aG
 ·rename_i h1 h2;rw[if_neg ab,if_neg (λh=>h2 ⟨h,ab⟩)]at hK;exact aG
 ·rename_i h1;rw[if_pos ab]at hK;exact aG
end
end Go.Dv.Try
namespace Go.Dv.Try
open Go Go.Dv
def S3:List Int:=[16,32,48,64,96,112,128,144,160,176,192]
def VG:List Int:=[16,48,96,112,144]
def Tf(a:At):Prop:=a.ft=0/\a.al=0/\a.sz=0/\a.vd=0
instance (a:At):Decidable (Tf a):=by unfold Tf;infer_instance
def Hy(a:At):Int:=if ¬(a.rn.l.length=0/\Tf a)then 3 else if 400<a.vl.length then 8 else 0
def pL(a:At):Prop:=(0<=a.al/\a.al<=1048576)/\(0<=a.sz/\a.sz<=1048576)/\(0<=a.vd/\a.vd<=1048576)
instance (a:At):Decidable (pL a):=by unfold pL;infer_instance
def GG(a:At):Int:=
 if a.ty∈VG then 20 else if a.vl≠[]then 3 else if ¬(0<=a.ft/\a.ft<=4096)then 2 else
 if dU a.rn.l≠0 then dU a.rn.l else if 0<a.ft/\a.rn.l.length=0 then 17 else
 if 4096<a.ft+bI a.rn.l then 8 else if 0<a.ft∧¬(a.al=0/\a.sz=0/\a.vd=0)then 3 else
 if ¬pL a then 2 else if a.sz<a.vd then 9 else 0
def yi(a:At):Prop:=(0<=a.id/\a.id<=65535)/\(0<=a.fl/\a.fl<=7)
instance (a:At):Decidable (yi a):=by unfold yi;infer_instance
def Iv(a:At):Int:=if a.rs=true then Hy a else GG a
def TI(a:At):Int:=if a.ty∉S3 then 15 else if ¬fy a.nm then 4 else if ¬yi a then 2 else Iv a
def B5(n:Nat):Nat:=(n+7)/8*8
def uH(a:At):Nat:=if a.rs=true then 24 else 40
def N8(a:At):List UInt8:=if a.rs=true then a.vl else qL a.rn.l
def l8(a:At):Nat:=B5 (uH a+a.nm.length)
def Tk(a:At):Nat:=B5 (l8 a+(N8 a).length)
def atW(a:At):List UInt8:=
 if a.rs=true then aJ a.vl.length 4++aJ (l8 a) 4
 else aJ a.ft 4++aJ (a.ft+bI a.rn.l-1) 4++aJ (l8 a) 2++ai 2++aJ a.al 4++aJ a.sz 4++aJ a.vd 4
def aso(a:At):List UInt8:=aJ a.ty 4++aJ (Tk a) 4++aJ (if a.rs=true then 0 else 1) 1++aJ a.nm.length 1++aJ (uH a) 2++aJ a.fl 2++aJ a.id 2++atW a
def T5(a:At):List UInt8:=aso a++a.nm++ai (l8 a-uH a-a.nm.length)++N8 a++ai (Tk a-l8 a-(N8 a).length)
def gu(a:At):Int:=if TI a≠0 then TI a else if 440<(T5 a).length then 16 else 0
def i_(n:Nat):n<=B5 n/\B5 n<n+8/\B5 n%8=0:=by unfold B5;omega
def bE(n:Nat):(ai n).length=n:=zaq
def ahH{s:List UInt8}(h:fy s):s.length<=32:=by
 rcases h with rfl|h
 ·simp
 ·unfold Zc at h;split at h
  ·cases h
  ·omega
structure acN(a:At):Prop where
 ty:0<=a.ty/\a.ty<=192
 S3:a.ty∈S3
 nm:fy a.nm
 DL:a.nm.length<=32
 GZ:yi a
 rs:a.rs=true->a.rn.l.length=0/\Tf a/\a.vl.length<=400
 ot:a.rs=false->a.ty∉VG/\a.vl=[]/\(0<=a.ft/\a.ft<=4096)/\dU a.rn.l=0/\a.ft+bI a.rn.l<=4096/\pL a/\a.vd<=a.sz
def aFY{n:Int}(h:n∈S3):0<=n/\n<=192:=by
 unfold S3 at h;simp only[zax,zcp,or_false]at h;omega
def acN.of{a:At}(h:TI a=0):acN a:=by
 unfold TI at h;split at h
 ·cases h
 rename_i h1;have h1:=zb2.1 h1;split at h
 ·cases h
 rename_i h2;have h2:=zb2.1 h2;split at h
 ·cases h
 rename_i h3;have h3:=zb2.1 h3;refine⟨aFY h1,h1,h2,ahH h2,h3,λhr=>?_,λhr=>?_⟩
 ·unfold Iv at h;rw[if_pos hr]at h;unfold Hy at h;split at h
  ·cases h
  rename_i h4;have h4:=zb2.1 h4;split at h
  ·cases h
  ·exact⟨h4.1,h4.2,ab⟩
 ·unfold Iv at h;rw[hr,if_neg ao]at h;unfold GG at h;split at h
  ·cases h
  rename_i g1;split at h
  ·cases h
  rename_i g2;split at h
  ·cases h
  rename_i g3;split at h
  ·rename_i g4;exact absurd h g4
  rename_i g4;split at h
  ·cases h
  split at h
  ·cases h
  rename_i g6;split at h
  ·cases h
  split at h
  ·cases h
  rename_i g8;split at h
  ·cases h
  rename_i g9;exact⟨g1,zb2.1 g2,zb2.1 g3,zb2.1 g4,ab,zb2.1 g8,ab⟩
end Go.Dv.Try
namespace Go.Dv.Try
open Go Go.Dv Go.RowKit Go.MapKept
section
def aeE:List (Int×Bool):=[(16,true),(32,false),(48,true),(64,false),(96,true),(112,true),(128,false),(144,true),(160,false),(176,false),(192,false)]
structure MI(w0:World)(b:Nat)(l:List (Int×Bool))(w:World):Prop where
 b0:w0.heap.size<=b
 lt:b<w.heap.size
 is:∃es n,w.heap[b]?=some (.map es n)/\Zj es l
 A1:Below w0.heap.size w0 w
def an_:∀(l:List (Int×Bool)) (n:Int),n∉l.map Prod.fst->aP l n=none
 |[],_,_=>rfl
 |p::l,n,h=>by
  have h1:n≠p.1:=λe=>h (by simp[e])
  have hl:aP (p::l) n=(match decide (n=p.1)with|true=>some p.2|false=>aP l n):=rfl;rw[hl];simp only[h1,decide_false];exact an_ l n λhm=>h (by simp at hm ⊢;exact .inr hm)
def aBy(w:World):∃w',(Instr.makeMap 241 none).run Go.Proofs.Tryz.prog w=.ok (.map (some w.heap.size)) w'/\MI w w.heap.size [] w':=by
 refine⟨w.alloc (.map #[] 0),by simp[Instr.makeMap,Result.andThen],zai _,?_,⟨#[],0,(MapKept.heap_alloc w _).1,rfl⟩,?_⟩
 ·show w.heap.size<(w.heap.push _).size;rw[Array.size_push];omega
 ·exact(Below.refl _ _).alloc (zai _) _
def vr{w0 w:World}{b:Nat}{l:List (Int×Bool)}{k:Int}{v:Bool}(h:MI w0 b l w)(hk:k∉l.map Prod.fst):
 ∃w',(Instr.mapUpdate 241 (.map (some b)) (.int .i64 k) (.bool v)).run Go.Proofs.Tryz.prog w=.ok () w'/\MI w0 b (l++[(k,v)]) w':=by
 obtain⟨h1,h2,⟨es,n,h3,h4⟩,h5⟩:=h;obtain⟨j,hj⟩:=Md l es.toList k 0 h4;rw[an_ l k hk]at hj;have hm:=Go.Proofs.Tryz.underlying241;have hd:=Go.Proofs.Tryz.underlying3;refine⟨_,by simp[Instr.mapUpdate,run_underlying hm,MapKept.run_getObj_map h3,run_checkKey (k:=.int .i64 k) hd (by simp[IsKey]),run_findKey hd hj,run_setObj_map _ h3,Result.andThen];rfl,h1,?_,⟨_,_,(heap_set h3).1,?_⟩,?_⟩
 ·simpa using h2
 ·unfold Zj at h4 ⊢;simp[h4]
 ·exact h5.trans ⟨rfl,rfl,rfl,aj,λr hr=>(heap_set h3).2 r ab⟩
open Go.Shelf Go.Proofs in
set_option maxHeartbeats 2000000 in
set_option maxRecDepth 100000 in
def aqd(w:World):Calls Go.Proofs.Tryz.prog 206 #[] w λe w'=>∃b es n,e=.returned (.map (some b))/\w.heap.size<=b/\b<w'.heap.size/\w'.heap[b]?=some (.map es n)/\Zj es aeE/\Below w.heap.size w w':=by
 have mixed:Go.Proofs.Tryz.prog.follows .mixedOrders=true:=mixed;have t3:=Go.Proofs.Tryz.underlying3;have a3:=Go.Proofs.Tryz.isAgg3;have z3:=Go.Proofs.Tryz.sizeOf3;have v3:=Go.Proofs.Tryz.zeroValue3;have t4:=Go.Proofs.Tryz.underlying4;have a4:=Go.Proofs.Tryz.isAgg4;have z4:=Go.Proofs.Tryz.sizeOf4;have v4:=Go.Proofs.Tryz.zeroValue4;have t241:=Go.Proofs.Tryz.underlying241;have aF1:=Go.Proofs.Tryz.isAgg241;have aF2:=Go.Proofs.Tryz.sizeOf241;have aF3:=Go.Proofs.Tryz.zeroValue241
 go_enter Go.Proofs.Tryz.func206,(show Go.Proofs.Tryz.f206.ntmps=3 from rfl)
 go_wp2
 obtain⟨w1,h1,h2⟩:=aBy w;rw[h1];simp only[Result.andThen];rw[Oper.upon_value]
 go_wp2
 obtain⟨w2,e0,m0⟩:=vr (k:=16) (v:=true) h2 ao;rw[e0];simp only[Result.andThen];rw[Oper.upon_skip]
 go_wp2
 clear e0 h2;obtain⟨w3,e1,m1⟩:=vr (k:=32) (v:=false) m0 ao;rw[e1];simp only[Result.andThen];rw[Oper.upon_skip]
 go_wp2
 clear e1 m0;obtain⟨w4,e2,m2⟩:=vr (k:=48) (v:=true) m1 ao;rw[e2];simp only[Result.andThen];rw[Oper.upon_skip]
 go_wp2
 clear e2 m1;obtain⟨w5,e3,m3⟩:=vr (k:=64) (v:=false) m2 ao;rw[e3];simp only[Result.andThen];rw[Oper.upon_skip]
 go_wp2
 clear e3 m2;obtain⟨w6,e4,m4⟩:=vr (k:=96) (v:=true) m3 ao;rw[e4];simp only[Result.andThen];rw[Oper.upon_skip]
 go_wp2
 clear e4 m3;obtain⟨w7,e5,m5⟩:=vr (k:=112) (v:=true) m4 ao;rw[e5];simp only[Result.andThen];rw[Oper.upon_skip]
 go_wp2
 clear e5 m4;obtain⟨w8,e6,m6⟩:=vr (k:=128) (v:=false) m5 ao;rw[e6];simp only[Result.andThen];rw[Oper.upon_skip]
 go_wp2
 clear e6 m5;obtain⟨w9,e7,m7⟩:=vr (k:=144) (v:=true) m6 ao;rw[e7];simp only[Result.andThen];rw[Oper.upon_skip]
 go_wp2
 clear e7 m6;obtain⟨Bn,e8,m8⟩:=vr (k:=160) (v:=false) m7 ao;rw[e8];simp only[Result.andThen];rw[Oper.upon_skip]
 go_wp2
 clear e8 m7;obtain⟨Bu,e9,m9⟩:=vr (k:=176) (v:=false) m8 ao;rw[e9];simp only[Result.andThen];rw[Oper.upon_skip]
 go_wp2
 clear e9 m8;obtain⟨Bz,e10,yN⟩:=vr (k:=192) (v:=false) m9 ao;rw[e10];simp only[Result.andThen];rw[Oper.upon_skip]
 go_wp2
 clear e10 m9
 go_ret
 obtain⟨h1,h2,⟨es,n,h3,h4⟩,h5⟩:=yN;exact⟨_,es,n,rfl,h1,h2,h3,h4,h5⟩
def Xi(ps:List PV)(r:RV):Prop:=ps=[]/\r=.mp aeE
def aus:bU Go.Proofs.Tryz.prog 206 (c8 true Xi):=by
 refine⟨λe=>cz,λe=>cz,?_,λ_ _ _ _ _ _ _ _ h=>(show False from h).elim,λ_ _ _ _ _ _ _ _ e=>cz⟩;rintro w ok ps vs K _ di rT ⟨r,⟨rfl,rfl⟩,hK⟩;simp only[bS]at rT;have:vs= #[]:=by rw[<-zco];exact rT
 subst this;refine⟨Go.Proofs.enters_of Go.Proofs.Tryz.func206 ak rfl,(aqd w).mono ?_⟩;rintro e w' ⟨b,es,n,rfl,h1,h2,h3,h4,h5⟩;refine⟨_,_,[.map (some b)],rfl,hK,h5,?_,?_,?_⟩
 ·simp only[RR];refine⟨trivial,b,es,n,rfl,⟨.inr h1,h2,?_⟩,h3,h4⟩;intro u hu;simp at hu;subst hu;intro e;cases e
 ·intro u hu b hb;simp at hu;subst hu;cases hb
 ·intro i j u t b _ hu _ hb;have:u∈([.map (some _)]:List Value):=zag hu;simp at this;subst this;cases hb
end
end Go.Dv.Try
namespace Go.Dv.Try
open Go Go.Dv
def aFD(n:Int):(aP aeE n).isSome=true↔n∈S3:=by
 unfold aeE aP S3;simp only[]
 repeat'(split;·rename_i h;have:=of_decide_eq_true h;subst this;simp)
 rename_i h1 h2 h3 h4 h5 h6 h7 h8 h9 XK gT;simp at*;omega
def aBj(n:Int):(aP aeE n).getD false=true↔n∈VG:=by
 unfold aeE aP VG;simp only[]
 repeat'(split;·rename_i h;have:=of_decide_eq_true h;subst this;simp)
 rename_i h1 h2 h3 h4 h5 h6 h7 h8 h9 XK gT;simp at*;omega
def EV(ps:List PV)(p:Prop):Prop:=∃n:Int,ps=[pI n]/\p=(n∈S3)
def ae5:MT (ay [(206,c8 true Xi)]) BQ (bF EV):=by
 rintro _ K ⟨_,⟨n,rfl,rfl⟩,hK⟩
 (repeat'((conv=>whnf);first|refine⟨_,⟨rfl,rfl⟩,?_⟩|fail))<;>try(conv=>whnf)
 exact⟨.pv (.bool _),rfl,trivial,hK _ (aFD n)⟩
def xr(ps:List PV)(x:PV):Prop:=∃a:At,ps=[a.pv]/\yP a.rn.l/\x=pI (bI a.rn.l)
def Ro:MT (ay []) xQ (ah xr):=by
 rintro _ K ⟨_,⟨a,rfl,hs,rfl⟩,hK⟩
 (repeat'((conv=>whnf);first|refine KP ?_|refine dq λ_=>?_|fail))<;>try(conv=>whnf)
 refine⟨λm env σ=>∃(n:Nat),n+m=a.rn.l.length/\σ=[]/\env=[eN 3 (bI (a.rn.l.take n)),(7,.pv (qF a.rn)),eN 8 a.rn.l.length,eN 9 n],a.rn.l.length,⟨0,ab,rfl,rfl⟩,?_⟩;rintro m env σ ⟨n,hn,rfl,rfl⟩;have hb:=hs.sum n ab;have hl:=hs.1
 (repeat'((conv=>whnf);first|(refine n5 ab (λx hx=>?_);have:=hs.2 x (zag hx))|refine bj ab ?_|refine de (λ_=>?_) (λ_=>?_)|refine bT ?_|fail))<;>try(conv=>whnf)
 ·exact abg
 ·rw[za1 ab];exact aG
def E9(ps:List PV)(x:PV):Prop:=∃a:At,ps=[a.pv]/\x=pI (Hy a)
def afP:MT (ay [(149,ah dG),(148,ah gB)]) tl (ah E9):=by
 rintro _ K ⟨_,⟨a,rfl,rfl⟩,hK⟩;unfold Hy Tf at hK
 (repeat'((conv=>whnf);first|refine KP ?_|(refine fe ?_;first|refine de (λ_=>?_) (λ_=>?_)|refine dq λ_=>?_|refine bT ?_|refine⟨_,⟨_,_,rfl,rfl⟩,?_⟩|refine⟨_,⟨[_,_],rfl,rfl⟩,?_⟩|fail)))<;>try(conv=>whnf)
 all_goals(refine⟨.pv (pI _),bu ?_,trivial,hK⟩;simp only[bQ,if_true,zbZ,if_false,reduceCtorEq];(repeat' split)<;>first|rfl|omega)
def Ps(ps:List PV)(x:PV):Prop:=∃s:List UInt8,ps=[.str s]/\x=pI (if fy s then 0 else 4)
def Z7:MT (ay [(207,ah LY),(149,ah dG)]) zB (ah Ps):=by
 rintro _ K ⟨_,⟨s,rfl,rfl⟩,hK⟩;unfold fy at hK
 (repeat'((conv=>whnf);first|refine⟨_,⟨s,rfl,rfl⟩,?_⟩|(refine fe ?_;first|refine de (λ_=>?_) (λ_=>?_)|refine⟨_,⟨_,_,rfl,rfl⟩,?_⟩|fail)))<;>try(conv=>whnf)
 ·rename_i h;have h:s=[]:=h;exact⟨.pv (pI _),bu uQ,trivial,hK⟩
 ·rename_i h _;have h:s≠[]:=h;exact⟨.pv (pI _),bu nq,trivial,hK⟩
 ·rename_i h _;have h:s≠[]:=h;exact⟨.pv (pI _),bu nq,trivial,hK⟩
def Fa(ps:List PV)(x:PV):Prop:=∃a:At,ps=[a.pv]/\x=pI (GG a)
def GB{l:List Rn}(h:dU l=0):yP l:=agj (by have:=(bZ h).1;omega) (bZ h).2.1
def TT{l:List Rn}(h:dU l=0):0<=bI l/\bI l<=4096:=by
 refine⟨?_,(bZ h).2.2.1⟩;have:=(bZ h).2.2.2;clear h
 induction l with
 |nil=>exact Int.le_refl 0
 |cons r l ih=>
  have h1:=this r aj;have h2:=ih (λx hx=>this x iP);have:bI (r::l)=r.n+bI l:=by simp[bI]
  unfold jZ at h1;split at h1<;>omega
end Go.Dv.Try
