/- Own work: parts of the proof, shortened and laid together by a tool of our own. -/
import Derived.Test.YtgcbmecmjnfleaaGreatP2
import Derived.ControlIn
import Derived.RangeFuncCalls
import Derived.OwnWalk
import Derived.RangeFuncLeaves
import Derived.WalkKit
import Derived.ProofKit
import Derived.OpenShut
import Derived.Carry
import Derived.Deep.Slices
set_option linter.defProp false
set_option linter.unusedSimpArgs false
set_option linter.unusedVariables false
open List renaming getElem?_eq_getElem→zak, getElem?_eq_some_iff→zaa, all_eq_true→zbW, getD_eq_getElem?_getD→zbX, flatMap_cons→zao, getElem?_eq_none→zaK, mem_append_right→zbY, getElem?_map→zbC, map_congr_left→zbA, contains_iff_mem→zbJ, mem_iff_getElem?→zaB, mem_append_left→zbZ, mem_range→zbo, mem_append→zax, nodup_append→zb2, mem_cons→zay, getElem?_append_left→zar, mem_filter→zbp, mem_map→zaX, length_map→zan, map_append→zaD, filter_eq_self→zb6, getElem?_append_right→zam, map_cons→zav, ext_getElem?→zbb, getLastD_eq_getLast?→zb7, getLast?_eq_getElem?→zb8, eq_of_mem_replicate→zbr, getElem?_replicate→zca, getElem?_set_self→zcc, drop_eq_nil_of_le→zcd, length_eq_one_iff→zce, take_append_drop→zaA, length_dropLast→zci, getElem?_range→zbM, length_append→zae, nodup_range→zbT, cons_append→zbe, any_eq_true→zcm, drop_drop→zaP
open Array renaming getD_eq_getD_getElem?→zbn, getElem?_eq_getElem→zaE, getElem?_eq_some_iff→zai, getElem?_append_left→zb3, getElem?_replicate→zb9, getElem?_eq_none→zcf, length_toList→zac
open Nat renaming le_of_ble_eq_true→za3, lt_of_lt_of_le→zag, eq_of_beq_eq_true→zab, le_refl→zaj, le_trans→zat, zero_add→zaU, not_lt_zero→zb1, sub_zero→zb5, zero_le→zcb, ble_eq_true_of_le→zcg, lt_of_le_of_lt→zcj, add_sub_cancel→zck
open Bool renaming and_eq_true→zaT, or_eq_true→zb4, not_eq_true'→zbw
open Option renaming bind_eq_some_iff→zb0, getD_some→zby
open UInt8 renaming toNat_lt→zch
open Int renaming toNat_natCast→zcl
set_option maxHeartbeats 16000000
noncomputable section
namespace Go.Dv
open Go.RowKit
section
def KB(env:Env)(ps:List Nat):∀(K:Env->Prop),canon env ps K=K (ps.map λp=>(p,aA p env)):=by
 induction ps with
 |nil=>intro K;rfl
 |cons p ps ih=>
  intro K;show look p (λv=>canon env ps λr=>K ((p,v)::r)) env=_;rw[look_eq,ih];rfl
def kZ{env au:Env}(h:∀p,aA p au=aA p env)(ps:List Nat)(K:Env->Prop):canon au ps K=canon env ps K:=by
 rw[KB,KB]
 grind
def HA{pin:List Nat}{env au:Env}(h:∀p,aA p au=aA p env)(σ:aw)(ps:List Nat)(K:Env->aw->Prop):gc pin au σ ps K=gc pin env σ ps K:=kZ h ps _
def Aw{B:Env->aw->Prop}{Q:Ex->Env->aw->Prop}(hB:qR B)(hQ:∀e,qR (Q e)):∀e,qR (ac5 B Q e)
 | .normal=>hB
 | .exit i=>hQ (.exit i)
 | .ret=>hQ .ret
def Gf{id:Nat}{Q:Ex->Env->aw->Prop}(hQ:∀e,qR (Q e)):∀e,qR (Tw id Q e)
 | .normal=>hQ .normal
 | .ret=>hQ .ret
 | .exit i=>by
  intro env au σ h;show(match Nat.beq i id with|true=>Q .normal au σ|false=>Q (.exit i) au σ)=(match Nat.beq i id with|true=>Q .normal env σ|false=>Q (.exit i) env σ)
  cases Nat.beq i id with
  |true=>exact hQ .normal _ _ _ h
  |false=>exact hQ (.exit i) _ _ _ h
def Yj{env au:Env}(h:∀p,aA p au=aA p env)(o:Operand):a_ au o=a_ env o:=Aq λt _=>h t
def acp(Γ:Ctx)(pin ps:List Nat):∀(c:PC) (Q:Ex->Env->aw->Prop),(∀e,qR (Q e))->qR (vc Γ pin ps c Q):=by
 intro c
 induction c with
 |skip=>intro Q hQ;exact hQ .normal
 |region ops=>intro Q _ env au σ h;exact kZ h ps _
 |draw ops aft=>
  intro Q _ env au σ h;show(E6 Γ ops aft=true/\canon au ps _)=(E6 Γ ops aft=true/\canon env ps _)
  rw[kZ h]
 |drawD ops aft=>
  intro Q _ env au σ h;show(match mq σ with
   |false=>C7 Γ ps ops aft Q au σ
   |true=>canon au ps _)=(match mq σ with
   |false=>C7 Γ ps ops aft Q env σ
   |true=>canon env ps _)
  have e:C7 Γ ps ops aft Q au σ=C7 Γ ps ops aft Q env σ:=by
   show(H5 Γ ops aft=true/\canon au ps _)=(H5 Γ ops aft=true/\canon env ps _)
   rw[kZ h]
  rw[e,kZ h]
 |seq a b iha ihb=>intro Q hQ;exact iha _ (Aw (ihb Q hQ) hQ)
 |cond c t e iht ihe=>
  intro Q hQ env au σ h;show ev au c _=ev env c _;rw[dH,dH,Yj h];cases a_ env c with
  |pv x=>cases x with
   |bool b=>cases b with
    |true=>exact iht Q hQ _ _ _ h
    |false=>exact ihe Q hQ _ _ _ h
   |_=>rfl
  |_=>rfl
 |block id b ih=>intro Q hQ;exact ih _ (Gf hQ)
 |loop live b ih=>
  intro Q _ env au σ h;show(match isK live with|true=>(match dZ b with|true=>UJ live.tail _ Q (List.range σ.length) au σ|false=>False)|false=>gc pin au σ live _)=(match isK live with|true=>(match dZ b with|true=>UJ live.tail _ Q (List.range σ.length) env σ|false=>False)|false=>gc pin env σ live _)
  cases isK live with
  |true=>cases dZ b with
   |true=>exact HA h σ live.tail _
   |false=>rfl
  |false=>exact HA h σ live _
 |rangeF f qs aaH b ih=>
  intro Q _ env au σ h;show(match dZ b with|true=>canon au ps _|false=>False)=(match dZ b with|true=>canon env ps _|false=>False)
  cases dZ b with
  |true=>exact kZ h ps _
  |false=>rfl
 |exit id=>intro Q hQ;exact hQ (.exit id)
 |ret=>intro Q hQ;exact hQ .ret
def gU{α:Type}(l:List α)(p:α×Nat->Bool)(h:l.zipIdx.all p=true)(i:Nat)(x:α)(hi:l[i]?=some x):p (x,i)=true:=by
 grind
section
variable {cx:Cx} {env:Env} {σ:aw} {vals:List Value} {a:Act} {w w':World} {n:Nat} {Γ:Ctx} {ps:List Nat}
def Ys{ops:Array Oper}{l:List PO}{aft:List (List Nat)}(hl:l.length=ops.size)(aeR:aft=ops.toList.map λo=>(o.after.toList.filter λe=>Region.binds .any e).map (·.on))(h:Uz l aft=true):
 (∀(i:Nat) (o:Oper),ops[i]?=some o→∀j∈aft.getD i [],∃e∈o.after,Region.binds .any e=true/\e.on=j)/\
 (∀(i:Nat) (o:Oper),ops[i]?=some o→∀e∈o.after,Region.binds .any e=true->e.on∈aft.getD i [])/\
 (∀i,i<ops.size→∀j∈aft.getD i [],j<i):=by
 unfold Uz at h;simp only[zaT]at h;obtain⟨h0,h1⟩:=h;have get:∀(i:Nat) (o:Oper),ops[i]?=some o->aft.getD i []=(o.after.toList.filter λe=>Region.binds .any e).map (·.on):=by
  grind
 have row:∀i,i<ops.size->aft[i]?=some (aft.getD i []):=by
  grind
 unfold MP at h1;refine⟨λi o ho j hj=>?_,λi o ho e he hb=>?_,λi hi j hj=>?_⟩
 ·grind
 ·grind
 ·have:=gU aft _ h1 i _ (row i hi);simp only[zaT,zbW]at this;exact za3 (this.1 j hj)
def Yx{ops:Array Oper}{l:List PO}{aft:List (List Nat)}(hl:l.length=ops.size)(aeR:aft=ops.toList.map λo=>(o.after.toList.filter λe=>Region.binds .any e).map (·.on))
 (h:E6 Γ l aft=true) (d:PO):afe Γ ops (λi=>l.getD i d) (λi=>aft.getD i []) (λi=>(Td aft).getD i []):=by
 unfold E6 at h;simp only[zaT]at h;obtain⟨⟨h0,h1⟩,h2⟩:=h;have hlen:aft.length=ops.size:=aV;have get:∀(i:Nat) (o:Oper),ops[i]?=some o->aft.getD i []=(o.after.toList.filter λe=>Region.binds .any e).map (·.on):=by
  grind
 have row:∀i,i<ops.size->aft[i]?=some (aft.getD i []):=by
  grind
 have Xv:∀i,i<ops.size->l[i]?=some (l.getD i d):=by
  grind
 unfold MP at h1;refine⟨λi o ho j hj=>?_,λi o ho e he hb=>?_,λi hi j hj=>?_,λi hi j hj=>?_,λi j hi hj=>?_⟩
 ·grind
 ·grind
 ·have:=gU aft _ h1 i _ (row i hi);simp only[zaT,zbW]at this;exact za3 (this.1 j hj)
 ·have:=gU aft _ h1 i _ (row i hi)
  grind
 ·have:=gU l _ (gU l _ h2 i _ (Xv i hi)) j _ (Xv j aa);simp only[zb4,zbw,zaT]at this;rcases this with(h3|h3)|h3
  ·exfalso;have:Nat.blt j i=true:=zcg hj
   grind
  ·grind
  grind
def Wf(C:Cx->Prop)(n:Nat)(Q:Ex->Env->aw->Prop):Exit->Act->World->Prop
 | .normal,a,w=>∃cx env σ vals,C cx/\a.tmps.size=n/\Rel cx env σ vals a w/\Q .normal env σ
 | .exit i,a,w=>∃cx env σ vals,C cx/\a.tmps.size=n/\Rel cx env σ vals a w/\Q (.exit i) env σ
 | .ret,a,w=>∃cx env σ vals,C cx/\a.tmps.size=n/\Rel cx env σ vals a w/\Q .ret env σ
 |_,_,_=>False
def Cx.mark(cx:Cx)(w:World)(D:Nat)(hD:D<w.heap.size)(hs:cx.w1.heap.size<=w.heap.size):Cx:=
 { cx with
  w1:=w
  keep:=λb=>cx.keep b\/b=D
  hk:=λb hb=>by
   rcases hb with hb|rfl
   ·exact zag (cx.hk b hb) hs
   ·exact hD
  defers:={ target:=.collected D,args:= #[] }::cx.defers }
structure aat(P:Program)(pin:List Nat)(C:Cx->Prop):Prop where
 pin:∀cx,C cx->RU pin cx
 gh:∀cx,C cx→∀x v,¬cx.gh x v
 lo:∀cx,C cx->cx.lo=0
 keep:∀cx,C cx→∀b,cx.keep b→∃o:Obj,cx.w1.heap[b]?=some o/\o.isCells=false
 mark:∀(cx:Cx) (w:World) (D:Nat) (hD:D<w.heap.size) (hs:cx.w1.heap.size<=w.heap.size),C cx->(∀b,cx.keep b->w.heap[b]?=cx.w1.heap[b]?)->cx.w0.heap.size<=D->cx.w1.heap.size<=D->
  w.heap[D]?=some (.deferred (some []))->C (cx.mark w D hD hs)
def lv(hr:Rel cx env σ vals a w){K:Env->Prop}(h:canon env ps K):∃au,K au/\Rel cx au σ vals a w:=by
 rw[KB]at h;refine⟨_,h,hr.s,λp=>?_,hr.defers,hr.gh,hr.lo⟩;rcases yL env ps p with hc|hc
 ·rw[hc];exact hr.env p
 ·rw[hc];trivial
def Y1{t:Nat}{K:Env->aw->Prop}(hr:Rel cx env σ vals a w)(h:ane t K env σ):∃au σ',K au σ'/\Rel cx au σ' vals a w:=by
 have h:=qZ _ _ _ h;split at h
 ·have Pd:=hr.env t;have o_:d_ (Ok cx σ vals w) σ vals w [aA t env] [a.tmps.getD t undef]:=by simp only[d_];grind
  obtain⟨xs,σ',h1,h2,h3,h4⟩:=Kp _ σ _ _ hr.s o_ h;cases xs with
  |nil=>grind
  |cons x xs=>
   refine⟨_,_,h1,?_⟩;have hk:=hr.keep h2 h3;refine⟨hk.s,λp=>?_,hk.defers,hk.gh,hk.lo⟩;by_cases hp:t=p
   ·subst hp;have e:aA t ((t,AV.pv x)::env)=.pv x:=by simp[aA]
    rw[e];obtain⟨v,r,e2,h5,_⟩:=h4;cases e2;assumption
   ·have e:aA p ((t,AV.pv x)::env)=aA p env:=by show(bif t.beq p then AV.pv x else aA p env)=_;rw[Oj hp];rfl
    rw[e];exact hk.env p
 grind
def ZJ{l:List Operand}:∀{K:Env->aw->Prop} {env:Env} {σ:aw},Rel cx env σ vals a w->adN l K env σ→∃au σ',K au σ'/\Rel cx au σ' vals a w:=by
 induction l with
 |nil=>intro K env σ hr h;exact⟨_,σ,h,hr⟩
 |cons o l ih=>
  intro K env σ hr h;cases o with
  |tmp t=>
   obtain⟨au,σ',h1,h2⟩:=Y1 hr (show ane t (adN l K) env σ from h)
   grind
  |_=>exact ih hr h
def U2{l:List PO}:∀{K:Env->aw->Prop} {env:Env} {σ:aw},Rel cx env σ vals a w->acZ l K env σ→∃au σ',K au σ'/\Rel cx au σ' vals a w:=by
 induction l with
 |nil=>intro K env σ hr h;exact⟨_,σ,h,hr⟩
 |cons o l ih=>
  intro K env σ hr h;obtain⟨d,g,k⟩:=o;cases k with
  |mkf f gB=>
   obtain⟨au,σ',h1,h2⟩:=ZJ hr (show adN gB (acZ l K) env σ from h)
   grind
  |_=>exact ih hr h
def Ak{P:Program}{dr:Bool}{ops:Array Oper}{l:List PO}(h:Co (BO P dr ops n) ops.toList=some l)(d:PO):l.length=ops.size/\uo P dr ops n (λi=>l.getD i d)/\uo P dr ops n (λi=>(l.map PO.plain).getD i d):=by
 have h1:=(E7 _ _ _ h).1;have hlen:l.length=ops.size:=by
  have:=congrArg List.length h1
  grind
 have get:∀i,i<ops.size→∃o po,ops[i]?=some o/\BO P dr ops n o=some po/\l[i]?=some po:=by
  intro i hi;have:=congrArg (·[i]?) h1
  grind
 refine⟨hlen,λi hi=>?_,λi hi=>?_⟩
 ·grind
 grind
def Cg{α:Type}(l:List α)(d:α):(List.range l.length).map (λi=>l.getD i d)=l:=by
 apply zbb
 grind
open Classical in
def J5(p:Nat->Prop):Nat:=if h:∃n,p n∧∀m,p m->n<=m then Classical.choose h else 0
def tQ{p:Nat->Prop}{n:Nat}(h:p n):p (J5 p)∧∀m,p m->J5 p<=m:=by
 have hex:∃n,p n∧∀m,p m->n<=m:=by
  induction n using Nat.strongRecOn with
  |_ n ih=>
   grind
 unfold J5
 grind
def S_{pc:PC}(h:some PC.skip=some (strip pc)):pc=.skip:=by cases pc<;>first|rfl|cases h
def VW{pc:PC}(h:some PC.ret=some (strip pc)):pc=.ret:=by cases pc<;>first|rfl|cases h
def Tx{id:Nat}{pc:PC}(h:some (PC.exit id)=some (strip pc)):pc=.exit id:=by cases pc<;>first|(cases h;rfl)|cases h
def Nl{l:List PO}{pc:PC}(h:some (PC.region l)=some (strip pc)):pc=.region l:=by cases pc<;>first|(cases h;rfl)|cases h
def Tb{l:List PO}{aft:List (List Nat)}{pc:PC}(h:some (PC.draw l aft)=some (strip pc)):pc=.draw l aft\/pc=.drawD l aft:=by cases pc<;>first|(cases h;exact .inl rfl)|(cases h;exact .inr rfl)|cases h
def WX{a b pc:PC}(h:some (PC.seq a b)=some (strip pc)):∃a' b',pc=.seq a' b'/\a=strip a'/\b=strip b':=by
 cases pc<;>first|(cases h;exact⟨_,_,rfl,rfl,rfl⟩)|cases h
def T2{x:Operand}{a b pc:PC}(h:some (PC.cond x a b)=some (strip pc)):∃a' b',pc=.cond x a' b'/\a=strip a'/\b=strip b':=by
 cases pc<;>first|(cases h;exact⟨_,_,rfl,rfl,rfl⟩)|cases h
def QF{id:Nat}{b pc:PC}(h:some (PC.block id b)=some (strip pc)):∃b',pc=.block id b'/\b=strip b':=by
 cases pc<;>first|(cases h;exact⟨_,rfl,rfl⟩)|cases h
def Te{b pc:PC}(h:some (PC.loop [] b)=some (strip pc)):∃live b',pc=.loop live b'/\b=strip b':=by
 cases pc<;>first|(cases h;exact⟨_,_,rfl,rfl⟩)|cases h
def Kk{a b:PC}(h:dZ (.seq a b)=true):dZ a=true/\dZ b=true:=by
 have h:(match dZ a with|true=>dZ b|false=>false)=true:=h
 grind
def F_{c:Operand}{a b:PC}(h:dZ (.cond c a b)=true):dZ a=true/\dZ b=true:=by
 have h:(match dZ a with|true=>dZ b|false=>false)=true:=h
 grind
def api{r:List Nat}{n:Nat}(hr:∀j,j<n->r[j]?=some j):∀x:AV,x.Nm (λi=>i<n)->Ren r x x:=by
 intro x;refine AV.rec (motive_1:=λx=>x.Nm (λi=>i<n)->Ren r x x) (motive_2:=λl=>AV.lW (λi=>i<n) l->fK r l l) ?_ ?_ ?_ ?_ ?_ ?_ ?_ ?_ ?_ ?_ x
 ·intro _;simp only[Ren]
 ·intro y _;simp only[Ren]
 ·intro i h;simp only[AV.Nm]at h;simp only[Ren];exact⟨i,hr i h,rfl⟩
 ·intro i k o h;simp only[AV.Nm]at h;simp only[Ren];exact⟨i,hr i h,rfl⟩
 ·intro i a b c h;simp only[AV.Nm]at h;simp only[Ren];exact⟨i,hr i h,rfl⟩
 ·intro cs ih h;simp only[AV.Nm]at h;simp only[Ren];exact⟨_,rfl,ih h⟩
 ·intro cs ih h;simp only[AV.Nm]at h;simp only[Ren];exact⟨_,rfl,ih h⟩
 ·intro f cs ih h;simp only[AV.Nm]at h;simp only[Ren];exact⟨_,rfl,ih h⟩
 ·intro _;simp only[fK]
 ·intro y ys h1 h2 h;simp only[AV.lW]at h;simp only[fK];exact⟨_,_,rfl,h1 h.1,h2 h.2⟩
def I5(VK:∀x v,cx.gh x v->x.Nm λi=>i<cx.rY.length){pin:List Nat}(z6:RU pin cx)(hr:Rel cx env σ vals a w)(qs:List Nat){K:Env->aw->Prop}(h:gc pin env σ qs K):∃au σ' an,K au σ'/\Rel cx au σ' an a w:=by
 have h:=J9 _ _ _ h;obtain⟨l,h,hl,Su⟩:=F9 _ _ _ (by rw[z6.1];exact zbT) h;obtain⟨r,h,hn,hp2⟩:=wi _ _ _ hl h;obtain⟨au,h,he⟩:=Gc _ _ _ h;obtain⟨σ',h,h1,h2⟩:=tV _ _ _ _ h;obtain⟨an,hA,q7,ep⟩:=NM z6 (Su.trans hp2) hn h1 h2 hr.s;have hid:∀j,j<cx.rY.length->r[j]?=some j:=λj hj=>by
  obtain⟨t,rfl⟩:=Su.trans hp2;rw[zar (by rw[z6.1];simpa using hj),z6.1,zbM hj]
 refine⟨au,σ',an,h,q7,λp=>?_,hr.defers,λx v hq=>Ren.ra hA ep _ _ _ (api hid x (VK x v hq)) (hr.gh x v hq),hr.lo⟩;have hc:aA p (qs.map λp=>(p,aA p env))=aA p env\/aA p (qs.map λp=>(p,aA p env))=.bad:=yL env qs p;have hp:=he p;have hv:RA (Ok cx σ vals w) σ vals w (aA p (qs.map λp=>(p,aA p env))) (a.tmps.getD p undef):=by
  rcases hc with hc|hc
  ·rw[hc];exact hr.env p
  ·rw[hc];simp only[RA]
 exact Ren.ra hA ep _ _ _ hp hv
def Cx.all(cx:Cx)(σ:aw)(vals:List Value):Cx:={ cx with rY:=σ,ET:=vals }
def acf(hr:Rel cx env σ vals a w):Rel (cx.all σ vals) env σ vals a w:=
 ⟨⟨hr.s.below,hr.s.one,hr.s.len,hr.s.iU,hr.s.oP,⟨hr.s.fr.size,hr.s.fr.same,hr.s.fr.nB⟩,⟨λ_ _ h=>h,zaj _,λ_ _ _ _ _ _ h=>⟨_,_,h⟩,λ_ _ _ h h2=>⟨_,h,h2⟩⟩⟩,hr.env,hr.defers,hr.gh,hr.lo⟩
def WV{σ0:aw}{cX:List Value}(h0:Pin cx σ0 cX)(hr:Rel (cx.all σ0 cX) env σ vals a w):Rel cx env σ vals a w:=by
 refine⟨⟨hr.s.below,hr.s.one,hr.s.len,hr.s.iU,hr.s.oP,⟨hr.s.fr.size,hr.s.fr.same,hr.s.fr.nB⟩,⟨λi v h=>hr.s.pin.vs i v (h0.vs i v h),zat h0.len hr.s.pin.len,λi hi e sz ap ak h=>?_,λi hi s h hb=>?_⟩⟩,hr.env,hr.defers,hr.gh,hr.lo⟩
 ·obtain⟨Hi,els',h1⟩:=hr.s.pin.r7 i (zag hi h0.len) e sz ap ak h;exact h0.r7 i hi e sz Hi els' h1
 ·obtain⟨s',h1,h2⟩:=hr.s.pin.sb i (zag hi h0.len) s h hb;exact h0.sb i hi s' h1 h2
def Ar{cx:Cx}{env:Env}{σ:aw}{vals:List Value}{a:Act}{w:World}(h:Rel cx env σ vals a w):Rel cx env σ vals a { w with drawn:=w.drawn+1 }:=Yq h
section range
variable {P:Program}
def Cx.round(cx:Cx)(W:World)(X:Nat->Prop)(gh:AV->Value->Prop):Cx:=
 { cx with
  w1:=W
  keep:=λb=>b<W.heap.size∧¬X b
  hk:=λb hb=>hb.1
  defers:=[]
  gh:=gh }
def Cx.ads(cx:Cx)(w:World)(FR:Nat->Prop)(hI:∀b,FR b\/cx.keep b->b<w.heap.size):Cx:=
 { cx with w1:=w,keep:=λb=>FR b\/cx.keep b,hk:=hI }
def SR{K:Env->aw->Prop}(l m:List PO):LP Γ K (l++m)=LP Γ (LP Γ K m) l:=by
 induction l with
 |nil=>rfl
 |cons o l ih=>
  funext env σ;rw[zbe,kM,kM,ih]
def Wc(hΓ:Sound P Γ):∀(c:Code) (l:List PO),Me P n c=some l→∀(F:Fence) (m:Nat) (cx:Cx) (K:Env->aw->Prop) (env:Env) (σ:aw) (vals:List Value) (a:Act) (w:World),CM F->cx.P=P->cx.lo=0->a.tmps.size=n->Rel cx env σ vals a w->LP Γ K l env σ->
 c.wpIn F m P (λe a' w'=>e=.normal∧∃au σ' an,a'.tmps.size=n/\Rel cx au σ' an a' w'/\K au σ') a w:=by
 intro c
 induction c with
 |region id ops draw=>
  intro l hl F m cx K env σ vals a w hF hP EG hn hr h;subst hP;cases draw with
  |true=>cases hl
  |false=>
   obtain⟨hlen,h1,_⟩:=Ak (show Co (BO cx.P false ops n) ops.toList=some l from hl) ⟨none,none,.nilS 0⟩;refine wpIn_region (W0 hΓ h1 (K:=K) hF (λi hi d hd=>by rw[EG];exact zcb _) (λau σ' an a' w' zW dp hK=>⟨rfl,au,σ',an,zW,dp,hK⟩) _ env σ vals a w (λi hi=>zbo.1 hi) hn hr ?_);rw[<-hlen,Cg];exact h
 |seq x y ihx ihy=>
  intro l hl F m cx K env σ vals a w hF hP EG hn hr h;obtain⟨l1,e1,hl⟩:=aK (show opt (Me P n x) (λa=>opt (Me P n y) λb=>some (a++b))=some l from hl);obtain⟨l2,e2,hl⟩:=aK hl;cases hl;rw[SR]at h;refine wpIn_seq (wpIn_mono (ihx l1 e1 F m cx _ env σ vals a w hF hP EG hn hr h) ?_);rintro e a' w' ⟨rfl,au,σ',an,zW,dp,h'⟩;exact ihy l2 e2 F m cx K au σ' an a' w' hF hP EG zW dp h'
 |_=>intro l hl;cases hl
def aaB{cx1:Cx}{σ0:aw}{cX:List Value}{σ:aw}{vals:List Value}(h0:Pin cx σ0 cX)(h:Pin { cx1 with rY:=σ0,ET:=cX } σ vals):Pin cx σ vals:=by
 refine⟨λi v g=>h.vs i v (h0.vs i v g),zat h0.len h.len,λi hi e sz ap ak g=>?_,λi hi s g hb=>?_⟩
 ·obtain⟨Hi,els',h1⟩:=h.r7 i (zag hi h0.len) e sz ap ak g;exact h0.r7 i hi e sz Hi els' h1
 ·obtain⟨s',h1,h2⟩:=h.sb i (zag hi h0.len) s g hb;exact h0.sb i hi s' h1 h2
def Qk{pin:List Nat}{C:Cx->Prop}(hW:aat P pin C)(hΓ:Sound P Γ){m:Nat}(h1:1<=m){cx:Cx}(hC:C cx)(hP:cx.P=P){f:Operand}{pa:Array Tmp}{asg body:Code}{l:List PO}{pb:PC}(hl:Me P n asg=some l)(Pg:∀p∈pa.toList,p<n){Q:Ex->Env->aw->Prop}
 (aa4:∀(Po:Cx) (_:Po.lo=0) (F:Fence) (k:Nat) (Q:Ex->Env->aw->Prop) (env:Env) (σ:aw) (vals:List Value) (a:Act) (w:World),CM F->Po.P=P->a.tmps.size=n->Rel Po env σ vals a w->(∀e,qR (Q e))->vc Γ pin ps pb Q env σ->body.wpIn F k P (Wf (· =Po) n Q) a w)
 {env:Env} {σ:aw} {vals:List Value} {a:Act} {w:World} (hn:a.tmps.size=n) (hr:Rel cx env σ vals a w) (h:NP Γ pin ps pa.toList l (vc Γ pin ps pb) Q (a_ env f) env σ):
 (Code.rangeFunc f pa asg body).wpIn Fence.wide m P (Wf C n Q) a w:=by
 have hf:=hr.ev f
 revert hf h
 cases a_ env f with
 |pv x=>
  cases x with
  |clo g gB=>
   rintro⟨L,I,aAm,afJ,hI0,Sd,aa5⟩ hf;simp only[RA,Rd]at hf;obtain⟨cv,hfv,aAn⟩:=hf;obtain⟨⟨α,yl,en,hye,asv⟩,eg⟩:=(hΓ g).2.2.2.1 (m-1) w (Ok cx σ vals w) gB cv L (λb hb=>hb.2.1) aAn aAm;have hIb:∀b,Ok cx σ vals w b\/cx.keep b->b<w.heap.size:=λb hb=>by
    rcases hb with hb|hb
    ·exact hb.2.1
    ·exact zag (cx.hk b hb) hr.s.fr.size
   let Sx:=(cx.all σ vals).ads w (Ok cx σ vals w) hIb
   have aeS:=hW.gh cx hC;have hrL:Rel Sx env σ vals a w:=by
    refine⟨⟨hr.s.below,hr.s.one,hr.s.len,hr.s.iU,hr.s.oP,⟨zaj _,λ_ _=>rfl,λb hm hb=>?_⟩,⟨λ_ _ h=>h,zaj _,λ_ _ _ _ _ _ h=>⟨_,_,h⟩,λ_ _ _ h h2=>⟨_,h,h2⟩⟩⟩,hr.env,hr.defers,λx v hg=>absurd hg (aeS x v),hr.lo⟩;rcases hb with hb|hb
    ·exact hb.2.2 hm
    ·exact hr.s.fr.nB b hm hb
   let I':List α->(Nat->Prop)->World->Prop:=λpre X W=>∃σ' an,(LA σ'=true/\I (pre.map yl) σ')/\(∀b,X b↔Av σ' an b)/\Rel Sx env σ' an a W
   let Ix':Code->List α->World->Prop:=λc pre W=>match c with
    | .ret=>∃σ' an,(LA σ'=true/\(pre.map yl<+:L->Q .ret env σ'))/\Rel Sx env σ' an a W
    | .exit i=>∃σ' an,(LA σ'=true/\(pre.map yl<+:L->Q (.exit i) env σ'))/\Rel Sx env σ' an a W
    |_=>False
   have fN:∀{A:World} {row:Option Nat},(∀r,row=some r->w.heap.size<=r∧∃o:Obj,A.heap[r]?=some o/\o.isCells=false)→∀r,row=some r->Sx.own r/\Sx.w1.heap.size<=r∧∃o:Obj,A.heap[r]?=some o/\o.isCells=false:=
    λdp r e=>⟨cx.dx _ (zat hr.s.below.size (dp r e).1),(dp r e).1,(dp r e).2⟩
   have hI':∀X,OwnFrom w.heap.size λpre=>I' pre X:=by
    rintro X pre A B row ⟨σ',an,h2,hX,h3⟩ hg hrw;exact⟨σ',an,h2,hX,AD h3 hg (fN hrw) (.inl h2.1)⟩
   have aCT:∀c,OwnFrom w.heap.size (Ix' c):=by
    intro c pre A B row hs hg hrw;cases c<;>first
     |exact hs.elim
     |(obtain⟨σ',an,h2,h3⟩:=hs;exact⟨σ',an,h2,AD h3 hg (fN hrw) (.inl h2.1)⟩)
   have aCU:∀{c:Cx} {au:Env} {σ':aw} {an:List Value} {a':Act} {W:World},Rel c au σ' an a' W→∀b,Av σ' an b->b<W.heap.size:=λh b hm=>by
    obtain⟨cur,e,fr,hc⟩:=Fl h.s hm;exact(zai.1 hc).1
   have marked:∀(D:Nat) (W:World) (σ':aw) (an:List Value),w.heap.size<=D->W.heap[D]?=some (.deferred (some []))->Rel Sx env σ' an a W->
    ∃Ub,C Ub/\Rel Ub env σ' an { a with defers:={ target:=.collected D,args:= #[] }::a.defers } W:=by
    intro D W σ' an hD hK hR;have aAp:D<W.heap.size:=(zai.1 hK).1;have hs:cx.w1.heap.size<=W.heap.size:=zat hr.s.fr.size hR.s.fr.size;have hpn:Pin cx σ' an:=aaB (cx1:=Sx) hr.s.pin hR.s.pin;have Sa:∀b,cx.keep b->W.heap[b]?=cx.w1.heap[b]?:=λb hb=>(hR.s.fr.same b (.inr hb)).trans (hr.s.fr.same b hb)
    refine⟨cx.mark W D aAp hs,hW.mark cx W D aAp hs hC Sa (zat hr.s.below.size hD) (zat hr.s.fr.size hD) hK,?_⟩;refine⟨⟨hR.s.below,hR.s.one,hR.s.len,hR.s.iU,hR.s.oP,⟨zaj _,λ_ _=>rfl,λb hm hb=>?_⟩,⟨hpn.vs,hpn.len,hpn.r7,hpn.sb⟩⟩,hR.env,?_,λx v hg=>absurd hg (aeS x v),hR.lo⟩
    ·rcases hb with hb|rfl
     ·exact hR.s.fr.nB b hm (.inr hb)
     ·obtain⟨cur,e,fr,hc⟩:=Fl hR.s hm;rw[hK]at hc;cases hc
    ·show _::a.defers=_::cx.defers;rw[hr.defers]
   let t₀:α->Act:=λx=>⟨(pa.toList.zip (en x).toList).foldl (λt p=>t.setIfInBounds p.1 p.2) a.tmps,[]⟩
   have aCV:∀x:α,(pa.zip (en x)).foldl (λt (p,v)=>t.setIfInBounds p v) a.tmps=(t₀ x).tmps:=by
    intro x;show _=(pa.toList.zip (en x).toList).foldl (λt p=>t.setIfInBounds p.1 p.2) a.tmps;rw[<-Array.foldl_toList];simp
   let ghE:AV->Value->Prop:=λy v=>∃p,y=aA p env/\v=a.tmps.getD p undef
   let cxM:Cx:={ Sx with defers:=[],gh:=ghE }
   have afK:∀{X:Nat->Prop} {au:Env} {σ':aw} {an:List Value} {a':Act} {W:World},(∀b,X b↔Av σ' an b)->Rel cxM au σ' an a' W->Rel ((cx.all σ vals).round W X ghE) au σ' an a' W:=by
    intro X au σ' an a' W hX hR;exact⟨⟨hR.s.below,hR.s.one,hR.s.len,hR.s.iU,hR.s.oP,⟨zaj _,λ_ _=>rfl,λb hm hb=>hb.2 ((hX b).2 hm)⟩,⟨hR.s.pin.vs,hR.s.pin.len,hR.s.pin.r7,hR.s.pin.sb⟩⟩,hR.env,hR.defers,hR.gh,hR.lo⟩
   have aAr:∀{X:Nat->Prop} {σ0:aw} {cX:List Value} {σ':aw} {an:List Value} {W W3:World},(∀b,X b↔Av σ0 cX b)->ba Sx σ0 cX W->ba ((cx.all σ vals).round W X ghE) σ' an W3->
    KeepsFrom w.heap.size W W3/\SY w.heap.size X (Av σ' an) W W3/\ba Sx σ' an W3:=by
    intro X σ0 cX σ' an W W3 hX h0 h3;have aS:∀b,Sx.keep b->b<W.heap.size:=λb hb=>zag (hIb b hb) h0.fr.size
    have hnx:∀b,Sx.keep b→¬X b:=λb hb hx=>h0.fr.nB b ((hX b).1 hx) hb
    refine⟨⟨h3.fr.size,λk o _ ho hoc=>(h3.fr.same k ⟨(zai.1 ho).1,λhx=>?_⟩).trans ho⟩,⟨h3.fr.size,λb hb hx _=>h3.fr.same b ⟨hb,hx⟩,λb hm=>?_⟩,?_⟩
    ·obtain⟨cur,e,fr,hc⟩:=Fl h0 ((hX k).1 hx);rw[ho]at hc;cases hc;cases hoc
    ·apply Classical.byContradiction;intro g;exact h3.fr.nB b hm ⟨aa,λhx=>g (.inl hx)⟩
    ·exact⟨h3.below,h3.one,h3.len,h3.iU,h3.oP,⟨zat h0.fr.size h3.fr.size,λb hb=>(h3.fr.same b ⟨aS b hb,hnx b hb⟩).trans (h0.fr.same b hb),λb hm hb=>h3.fr.nB b hm ⟨aS b hb,hnx b hb⟩⟩,⟨h3.pin.vs,h3.pin.len,h3.pin.r7,h3.pin.sb⟩⟩
   have aCW:∀{σ':aw} {an:List Value} {W:World},ba cxM σ' an W->ba Sx σ' an W:=λh=>⟨h.below,h.one,h.len,h.iU,h.oP,⟨h.fr.size,h.fr.same,h.fr.nB⟩,⟨h.pin.vs,h.pin.len,h.pin.r7,h.pin.sb⟩⟩
   have aCX:∀{σ':aw} {an:List Value} {W:World},ba Sx σ' an W->ba cxM σ' an W:=λh=>⟨h.below,h.one,h.len,h.iU,h.oP,⟨h.fr.size,h.fr.same,h.fr.nB⟩,⟨h.pin.vs,h.pin.len,h.pin.r7,h.pin.sb⟩⟩
   let M:List α->(Nat->Prop)->α->Act->World->Prop:=λpre X x a' W=>∃au σ' an,a'.tmps.size=n/\(∀b,X b↔Av σ' an b)/\Rel cxM au σ' an a' W/\vc Γ pin ps pb (SM (List.range σ.length) ps Q env I L (pre.map yl++[yl x])) au σ'
   refine SW (n:=m) h1 (gf:=g) (lb:=cv) hfv (λargs w=>eg args w) asv (λx=>by
    have e1:=((kW _ _).1 (hye x).2).1;have e2:=afJ _ (hye x).1;simp only[zac]at e1 e2;omega)
    I' Ix' hI' aCT (λpre X W ⟨σ',an,_,hX,h3⟩ b hb=>aCU h3 b ((hX b).1 hb)) (X0:=Av σ vals) (λb hb=>hb.2.2) ⟨σ,vals,hI0,λ_=>Iff.rfl,hrL⟩ M ?keep ?assign ?body ?done ?stop
   case keep=>
    rintro pre X x a' W j r r' hj VO ⟨au,σ',an,h2,hX,h3,h4⟩;exact⟨au,σ',an,h2,hX,AD h3 (grownBy_putObj' W j (.loop r')) (λk e=>by cases e;exact⟨cx.dx _ (zat hr.s.below.size hj),hj,_,VO,rfl⟩) (.inr λk e es n h=>by cases e;rw[VO]at h;cases h),h4⟩
   case assign=>
    rintro j pre X x W ⟨σ',an,⟨_,hI2⟩,hX,hR⟩ hlen;have hRM:Rel cxM env σ' an ⟨a.tmps,[]⟩ W:=by
     refine⟨⟨hR.s.below,hR.s.one,hR.s.len,hR.s.iU,hR.s.oP,⟨hR.s.fr.size,hR.s.fr.same,hR.s.fr.nB⟩,⟨hR.s.pin.vs,hR.s.pin.len,hR.s.pin.r7,hR.s.pin.sb⟩⟩,hR.env,rfl,?_,hR.lo⟩;rintro y v ⟨p,rfl,rfl⟩;exact hR.env p
    have hR':=afK hX hRM;have iY:cE (Ok ((cx.all σ vals).round W X ghE) σ' an W) W (yl x) (en x).toList:=by
     refine cE.ey (λb hb=>⟨hb.1,zag (hIb b (.inl hb)) hR.s.fr.size,λhm=>hR.s.fr.nB b hm (.inl hb)⟩) (λb o u hb hc=>?_) _ _ (hye x).2;unfold World.cell? at hc ⊢;rw[hR.s.fr.same b (.inl hb)];exact hc
    obtain⟨Bb,hv1,hR1,KZ⟩:=Y6 (cx:=(cx.all σ vals).round W X ghE) (n:=n) (hW.lo cx hC) _ pa.toList (yl x) _ env a.tmps [] (afJ _ (hye x).1) iY Pg hn hR' (Sd _ (yl x) σ' (hye x).1 (by rw[zan];exact hlen) hI2);rw[aCV x];refine wpIn_mono (Wc hΓ asg l hl _ _ ((cx.all σ vals).round W X ghE) _ Bb σ' an (t₀ x) W (.inr ⟨j,rfl⟩) hP (hW.lo cx hC) KZ hR1 hv1) ?_;rintro e a2 W2 ⟨rfl,qX,σ2,dw,R0,Xw,xX⟩;obtain⟨b1,b2,b3⟩:=aAr hX hR.s Xw.s;exact⟨b1,_,b2,qX,σ2,dw,R0,λ_=>Iff.rfl,⟨aCX b3,Xw.env,Xw.defers,Xw.gh,Xw.lo⟩,xX⟩
   case body=>
    rintro j pre X x a2 W ⟨qX,σ2,dw,R0,hX,hRM,xX⟩;have Xw:=afK hX hRM;have xH:∀e,qR (SM (List.range σ.length) ps Q env I L (pre.map yl++[yl x]) e):=by
     intro e env au σ _;cases e<;>rfl
    refine wpIn_mono (aa4 ((cx.all σ vals).round W X ghE) (hW.lo cx hC) _ _ _ qX σ2 dw a2 W (.inr ⟨j,rfl⟩) hP R0 Xw xH xX) ?_
    let cxR:Cx:={ (cx.all σ vals).round W X ghE with defers:=cx.defers,gh:=cx.gh }
    have back:∀(L4:Env) (σ3:aw) (nv:List Value) (a3:Act) (W3:World),Rel ((cx.all σ vals).round W X ghE) L4 σ3 nv a3 W3->Rel cxR env σ3 nv a W3:=by
     intro L4 σ3 nv a3 W3 h3;exact⟨⟨h3.s.below,h3.s.one,h3.s.len,h3.s.iU,h3.s.oP,⟨h3.s.fr.size,h3.s.fr.same,h3.s.fr.nB⟩,⟨h3.s.pin.vs,h3.s.pin.len,h3.s.pin.r7,h3.s.pin.sb⟩⟩,λp=>h3.gh _ _ ⟨p,rfl,rfl⟩,hr.defers,λx v hg=>absurd hg (aeS x v),hr.lo⟩
    have out:∀(σ3:aw) (nv:List Value) (W3:World),Rel cxR env σ3 nv a W3->KeepsFrom w.heap.size W W3/\SY w.heap.size X (Av σ3 nv) W W3/\Rel Sx env σ3 nv a W3:=by
     intro σ3 nv W3 h;obtain⟨b1,b2,b3⟩:=aAr (W3:=W3) hX (aCW hRM.s) ⟨h.s.below,h.s.one,h.s.len,h.s.iU,h.s.oP,⟨h.s.fr.size,h.s.fr.same,h.s.fr.nB⟩,⟨h.s.pin.vs,h.s.pin.len,h.s.pin.r7,h.s.pin.sb⟩⟩;exact⟨b1,b2,b3,h.env,h.defers,h.gh,h.lo⟩
    intro e a3 W3 hp;cases e with
    |normal=>
     obtain⟨cx3,L4,σ3,nv,rfl,_,h3,h4⟩:=hp;obtain⟨aCZ,σ4,afL,⟨rfl,g1,g2⟩,g3⟩:=I5 (cx:=cxR) (λx v hg=>absurd hg (aeS x v)) (pin:=List.range σ.length) ⟨rfl,hr.s.len⟩ (back _ _ _ _ _ h3) _ h4;obtain⟨b1,b2,b3⟩:=out _ _ _ g3;exact⟨b1,_,b2,σ4,afL,⟨g1,by rw[zaD];exact g2⟩,λ_=>Iff.rfl,b3⟩
    |exit i=>
     obtain⟨_,L4,σ3,nv,rfl,_,h3,h4⟩:=hp;obtain⟨b1,_,b3⟩:=out _ _ _ (back _ _ _ _ _ h3);exact⟨b1,σ3,nv,by rw[zaD];exact h4,b3⟩
    |ret=>
     obtain⟨_,L4,σ3,nv,rfl,_,h3,h4⟩:=hp;obtain⟨b1,_,b3⟩:=out _ _ _ (back _ _ _ _ _ h3);exact⟨b1,σ3,nv,by rw[zaD];exact h4,b3⟩
    |_=>exact hp.elim
   case done=>
    rintro D xs X W hD hS ⟨σ',an,⟨_,hI2⟩,_,hR⟩ hK;obtain⟨Ub,hC2,Xw⟩:=marked D W σ' an hD hK hR;rw[hS]at hI2;exact⟨Ub,env,σ',an,hC2,hn,Xw,aa5 σ' hI2⟩
   case stop=>
    intro D c pre W hD hSp hx hK;cases c with
    |ret=>
     obtain⟨σ',an,hq,hR⟩:=hx;obtain⟨Ub,hC2,Xw⟩:=marked D W σ' an hD hK hR;exact wpIn_ret ⟨Ub,env,σ',an,hC2,hn,Xw,hq.2 hSp⟩
    |exit i=>
     obtain⟨σ',an,hq,hR⟩:=hx;obtain⟨Ub,hC2,Xw⟩:=marked D W σ' an hD hK hR;exact wpIn_exit ⟨Ub,env,σ',an,hC2,hn,Xw,hq.2 hSp⟩
    |_=>exact hx.elim
  |_=>intro h;exact h.elim
 |_=>intro h;exact h.elim
end range
def geO(lo:Nat)(o:PO):Bool:=match o.dst with|none=>true|some d=>Nat.ble lo d
def geL(lo:Nat)(l:List PO):Bool:=List.rec true (λo _ ih=>match geO lo o with|true=>ih|false=>false) l
def Yh(lo:Nat)(c:PC):Bool:=
 PC.rec true (λl=>geL lo l) (λl _=>geL lo l) (λl _=>geL lo l) (λ_ _ a b=>match a with|true=>b|false=>false) (λ_ _ _ a b=>match a with|true=>b|false=>false) (λ_ _ b=>b) (λ_ _ _=>false) (λ_ _ _ _ _=>false) (λ_=>true) true c
def Y9{lo:Nat}{a b:PC}(h:Yh lo (.seq a b)=true):Yh lo a=true/\Yh lo b=true:=by
 have h:(match Yh lo a with|true=>Yh lo b|false=>false)=true:=h
 grind
def U_{lo:Nat}{c:Operand}{a b:PC}(h:Yh lo (.cond c a b)=true):Yh lo a=true/\Yh lo b=true:=by
 have h:(match Yh lo a with|true=>Yh lo b|false=>false)=true:=h
 grind
def acE{lo:Nat}:∀{l:List PO},geL lo l=true→∀o∈l,∀d,o.dst=some d->lo<=d:=by
 intro l
 induction l with
 |nil=>simp
 |cons p l ih=>
  intro h o ho d hd;have h:(match geO lo p with|true=>geL lo l|false=>false)=true:=h;cases hp:geO lo p with
  |false=>grind
  |true=>
   rcases zay.1 ho with rfl|ho
   ·unfold geO at hp
    simp_all
   grind
def HU{cx:Cx}{ops:Array Oper}{l:List PO}(h:cx.lo=0∨∃lo,cx.lo<=lo/\geL lo l=true)(hl:l.length=ops.size):∀i,i<ops.size→∀d,(l.getD i ⟨none,none,.nilS 0⟩).dst=some d->cx.lo<=d:=by
 intro i hi d hd;rcases h with h|⟨lo,h1,h2⟩
 ·omega
 ·refine zat h1 (acE h2 _ ?_ d hd)
  grind
def Nu{f:Operand}{qs:List Nat}{l:List PO}{b pc:PC}(h:some (PC.rangeF f qs l b)=some (strip pc)):∃b',pc=.rangeF f qs l b'/\b=strip b':=by
 cases pc<;>first|(cases h;exact⟨_,rfl,rfl⟩)|cases h
def Vb{P:Program}(hΓ:Sound P Γ){ops:Array Oper}{l:List PO}{aft:List (List Nat)}(hl:l.length=ops.size)(aeR:aft=ops.toList.map λo=>(o.after.toList.filter λe=>Region.binds .any e).map (·.on))
 (h:H5 Γ l aft=true) (d:PO) {env:Env} {σ:aw} {Q:Env->aw->Prop} (hv:vcD Γ (λlog au σ'=>acP Γ l aft σ.length log=true/\Q au σ') l [] env σ):
 ∃A E S R,E 0=env/\S 0=σ/\Q (E ops.size) (S ops.size)/\qW Γ ops (λi=>l.getD i d) (λi=>aft.getD i []) (λi=>(Td aft).getD i []) A E S R:=by
 unfold H5 at h;simp only[zaT]at h;obtain⟨⟨h0,h1⟩,h2⟩:=h;obtain⟨A,E,S,R,e1,e2,⟨e3,e4⟩,e5⟩:=Y2 hΓ d l [] env σ (λo ho=>zbW.1 h2 o ho) hv;have hlen:aft.length=ops.size:=by rw[aeR];simp
 have get:∀(i:Nat) (o:Oper),ops[i]?=some o->aft.getD i []=(o.after.toList.filter λe=>Region.binds .any e).map (·.on):=by
  intro i o ho;rw[aeR];simp[zbX,ho]
 have row:∀i,i<ops.size->aft[i]?=some (aft.getD i []):=by
  intro i hi;rw[zbX,zak aa];rfl
 have Xv:∀i,i<ops.size->l[i]?=some (l.getD i d):=by
  intro i hi;rw[zbX,zak aa];rfl
 unfold MP at h1;have lg:∀i,i<ops.size->((((List.range l.length).map λi=>entry (l.getD i d) (A i) (E (i+1)) (S (i+1))).reverse++[]).reverse).getD i (0,[],[])=entry (l.getD i d) (A i) (E (i+1)) (S (i+1)):=by
  intro i hi;rw[List.append_nil,List.reverse_reverse,zbX,zbC,zbM aa];rfl
 unfold acP at e3;have ln:∀i,i<=ops.size->avg σ.length (((List.range l.length).map λi=>entry (l.getD i d) (A i) (E (i+1)) (S (i+1))).reverse++[]).reverse i=(S i).length:=by
  intro i hi;cases i with
  |zero=>rw[e2];rfl
  |succ i=>exact congrArg Prod.fst (lg i aa)
 have vi:∀i,i<ops.size→∀dd,(l.getD i d).dst=some dd->(entry (l.getD i d) (A i) (E (i+1)) (S (i+1))).2.2=(R i).v.ids:=by
  intro i hi dd hd;show(match (l.getD i d).dst with|some d=>(Iw d (E (i+1))).ids|none=>[])=_;rw[hd];simp only;rw[UF,(e5 i aa).he,hd,fx,Nat.beq_refl];rfl
 rw[hl]at e4;refine⟨A,E,S,R,e1,e2,e4,λi o ho j hj=>?_,λi o ho e he hb=>?_,λi hi j hj=>?_,λi hi j hj=>?_,λi hi=>e5 i aa,λi hi dd hd x hx=>?_,λi j hi hj=>?_⟩
 ·rw[get i o ho]at hj;obtain⟨e,he,rfl⟩:=zaX.1 hj;obtain⟨h3,h4⟩:=zbp.1 he;exact⟨e,uK,h4,rfl⟩
 ·rw[get i o ho];exact zaX.2 ⟨e,zbp.2 ⟨by simpa using he,hb⟩,rfl⟩
 ·have:=gU aft _ h1 i _ (row i hi);simp only[zaT,zbW]at this;exact za3 (this.1 j hj)
 ·have:=gU aft _ h1 i _ (row i hi);simp only[zaT,zbW,zb4,zcm]at this;rcases this.2 j hj with h3|⟨e,h3,h4⟩
  ·exact .inl (zbJ.1 h3)
  ·exact .inr ⟨e,h3,zbJ.1 h4⟩
 ·have:=gU l _ e3 i _ (Xv i hi);simp only[zaT]at this;have:=this.1;unfold axl at this;have:=zbW.1 this x (by rw[lg i hi,vi i hi dd hd];exact hx);rw[ln (i+1) hi]at this;exact za3 this
 ·have:=gU l _ e3 i _ (Xv i hi);simp only[zaT]at this;have:=gU l _ this.2 j _ (Xv j aa);simp only[zb4,zbw,zaT]at this;rcases this with(h3|h3)|h3
  ·exfalso;have:Nat.blt j i=true:=zcg hj;rw[this]at h3;cases h3
  ·exact .inl (zbJ.1 h3)
  ·obtain⟨⟨⟨⟨⟨c1,c2⟩,c3⟩,c4⟩,c5⟩,c6⟩:=h3;have hn:∀k,k<ops.size→∀m,adY (S k).length (S (k+1)).length m=true→∀x∈m,¬((S k).length<=x/\x<(S (k+1)).length):=by
    intro k _ m hm x hx;have:=zbW.1 hm x hx;simp only[zb4]at this;rcases this with h|h
    ·have:=za3 h;omega
    ·have:=za3 h;omega
   have hap:∀(o:PO) (m1 m2:List Nat),apart (match o.k.turns Γ with|true=>m1|false=>[]) m2=true→∀x∈m2,¬(o.k.turns Γ=true/\x∈m1):=by
    rintro o m1 m2 hm x hx ⟨ht,Pb⟩;rw[ht]at hm;have:=zbW.1 hm x Pb;rw[zbw]at this;have h2:=zbJ.2 hx;rw[h2]at this;cases this
   rw[lg i hi,lg j aa]at c2 c4;rw[lg i hi]at c3 c6;rw[lg j aa]at c5;rw[ln j aa,ln (j+1) aa]at c3 c6;rw[ln i aa,ln (i+1) aa]at c5;refine .inr ⟨c1,λx hx=>⟨hap _ _ _ c2 x hx,hn j aa _ c3 x hx⟩,λx hx=>⟨hap _ _ _ c4 x hx,hn i hi _ c5 x hx⟩,λdd hd x hx=>?_⟩;rw[vi i hi dd hd]at c6;exact hn j aa _ c6 x hx
def Th(hΓ:Sound cx.P Γ)(hm:cx.P.follows .mixedOrders=true){id:Nat}{ops:Array Oper}{l:List PO}(hl:l.length=ops.size){dr:Bool}(hc:uo cx.P dr ops n λi=>l.getD i ⟨none,none,.nilS 0⟩){F:Fence}{m:Nat}(hF:CM F)
 (hw:∀i,i<ops.size→∀d,(l.getD i ⟨none,none,.nilS 0⟩).dst=some d->cx.lo<=d) {Q0:Ex->Env->aw->Prop} {Q:Exit->Act->World->Prop} (hS:qR (Q0 .normal)) (hn:a.tmps.size=n) (hr:Rel cx env σ vals a w)
 (hQ:∀au σ' an a' w',a'.tmps.size=n->Rel cx au σ' an a' w'->Q0 .normal au σ'->Q .normal a' w')
 (h:Zl Γ ps l (ops.toList.map λo=>(o.after.toList.filter λe=>Region.binds .any e).map (·.on)) Q0 env σ):(Code.region id ops true).wpIn F m cx.P Q a w:=by
 obtain⟨h0,h⟩:=h;simp only[zaT]at h0;obtain⟨hD,hLB⟩:=h0;obtain⟨Bb,h,zY⟩:=lv hr h;obtain⟨au,σ2,h,dp⟩:=U2 zY h;have s9:(ops.toList.map λo=>(o.after.toList.filter λe=>Region.binds .any e).map (·.on)).length=ops.size:=ae;unfold afh at hLB;simp only[zaT]at hLB;obtain⟨⟨hp,aa3⟩,BZ⟩:=hLB;have hp:0<ops.size:=by have:=za3 hp;omega
 have Pg:ops.pop.size=ops.size-1:=ae;have hdl:(l.dropLast).length=ops.pop.size:=by rw[zci,Pg,hl]
 have hda:(ops.toList.map λo=>(o.after.toList.filter λe=>Region.binds .any e).map (·.on)).dropLast=ops.pop.toList.map λo=>(o.after.toList.filter λe=>Region.binds .any e).map (·.on):=by simp[List.map_dropLast]
 have aC1:∀i,i<ops.pop.size->ops.pop[i]?=ops[i]?:=λi hi=>by
  rw[Pg]at hi;rw[zaE aa,zaE aa,Array.getElem_pop]
 have xY:ops[ops.size-1]?=some (ops[ops.size-1]'aa):=zaE aa;have aAs:(ops.toList.map λo=>(o.after.toList.filter λe=>Region.binds .any e).map (·.on)).getLastD []=((ops[ops.size-1]'aa).after.toList.filter λe=>Region.binds .any e).map (·.on):=by
  rw[zb7,zb8,zan,zbC,zac,Array.getElem?_toList,xY];rfl
 rw[aAs]at aa3 BZ;rw[zci,s9]at aa3 BZ;obtain⟨A,E,S,R,e1,e2,e3,Xx⟩:=Vb hΓ (ops:=ops.pop) (l:=l.dropLast) hdl hda hD ⟨none,none,.nilS 0⟩ h;have Xx:=Xx.congr (f':=λi=>l.getD i ⟨none,none,.nilS 0⟩) λi hi=>by
  rw[Pg]at hi;show l.dropLast.getD i _=l.getD i _;rw[zbX,zbX,List.getElem?_dropLast,if_pos aa]
 refine wpIn_region_any hm ?_;have hS0:(S 0).length<=(S ops.pop.size).length:=by have:=Xx.Gi (i:=0) ops.pop.size aa;rwa[zaU]at this
 obtain⟨dw,qH⟩:=Mf (Ar dp) ((S ops.pop.size).length-σ2.length);rw[e2]at hS0;have rnm:∀(av:AV) (v:Value),RA (Ok cx σ2 vals w) σ2 vals w av v->av.Nm λi=>i<σ2.length:=λav v h=>Uv (λi hi=>CR) (λi hi=>hi) av v h
 have hz:∀i,i<ops.size->(Array.replicate ops.size false).getD i true=false:=by
  intro i hi;rw[zbn];simp[hi]
 have K1:left ops.size (Array.replicate ops.size false)=List.range ops.size:=by
  unfold left;apply zb6.2;intro i hi;rw[hz i (zbo.1 hi)];rfl
 have Uf:∀p,(Array.replicate ops.size false).getD p false=false:=by
  intro p;rw[zbn];simp only[zb9];split<;>rfl
 refine Ts hΓ hc aa aC1 Xx ?_ (K:=λau σ'=>canon au (ps++(l.getLastD ⟨none,none,.nilS 0⟩).reads) λau=>∃gs:List GA,Oo gs au σ' λtX σ''=>Bt Γ (l.getLastD ⟨none,none,.nilS 0⟩) tX σ'' (Q0 .normal)) (λ_ _ _ h=>kZ h _ _) e3 ?_ ?_ hF (λi hi=>hw i aa) ?_ ops.size (Array.replicate ops.size false) au (σ2++List.replicate ((S ops.pop.size).length-σ2.length) .dead) dw a { w with drawn:=w.drawn+1 } ae (by rw[K1];simp) ?_ (λp _ _=>Uf p) hn qH ?_
 ·intro i o hi ho j hj;have pJ:i=ops.size-1:=by have:=(zai.1 ho).1;omega
  subst pJ;rw[xY]at ho;cases ho;have:=zbW.1 BZ j (zbo.2 aa);obtain⟨x,hx,hxj⟩:=zcm.1 this;obtain⟨e,he,rfl⟩:=zaX.1 hx;obtain⟨h3,h4⟩:=zbp.1 he;refine⟨e,uK,h4,?_⟩;have aS:=za3 (zbW.1 aa3 e.on hx);simp only[zb4]at hxj;rcases hxj with hxj|hxj
  ·exact .inl (zab hxj)
  ·exact .inr ⟨aa,zbJ.1 hxj⟩
 ·intro j hj;rw[e2];rcases hj with hj|hj
  ·exact zag hj dp.s.pin.len
  ·have:=dp.s.pin.vs j _ (zak hj);rw[<-dp.s.len];exact(zaa.1 this).1
 ·intro x v hq;rw[e2];exact rnm x v (dp.gh x v hq)
 ·intro fuel ao qX σ3 nv a2 w2 hs pK hlf R0 hr3 hK Sw;obtain⟨L4,⟨gs,hK⟩,hr4⟩:=lv hr3 hK;obtain⟨aCZ,σ4,afL,hK,hr5⟩:=vb gs hr4 hK;rw[DV]at hK;have hN:=Sw (ops.size-1) aa aa;have tf:ao.getD (ops.size-1) true=false:=by
   rw[zbn]at hN ⊢;rw[zaE aa]at hN ⊢;exact hN
  have Hl:ops.size-1∈left ops.size ao:=zbp.2 ⟨zbo.2 aa,by simp only[tf,Bool.not_false]⟩;cases fuel with
  |zero=>rw[List.eq_nil_of_length_eq_zero (Nat.le_zero.1 hlf)]at Hl;cases Hl
  |succ fuel=>
   refine⟨λh0=>?_,λi hi=>?_⟩
   ·exfalso;have:ops.size-1∈Region.ready .any ops ao:=by
     refine mem_ready.2 ⟨tf,_,xY,λe he hb=>?_⟩;have:=zbW.1 aa3 e.on (zaX.2 ⟨e,zbp.2 ⟨by simpa using he,hb⟩,rfl⟩);exact pK _ (by have:=za3 this;omega)
    rw[h0]at this;cases this
   ·obtain⟨hu,o,ho,_⟩:=mem_ready.1 hi;have hi2:=(zai.1 ho).1;have pJ:i=ops.size-1:=by
     apply Decidable.byContradiction;intro g;have:=pK i aa;rw[zbn]at hu this;rw[zaE aa]at hu this;rw[zby]at hu this;rw[hu]at this;cases this
    subst pJ;have asx:l.getLastD ⟨none,none,.nilS 0⟩=l.getD (ops.size-1) ⟨none,none,.nilS 0⟩:=by
     rw[zb7,zb8,zbX,hl]
    rw[asx]at hK;refine wF hΓ hc aa R0 hr5 hF (hw _ aa) (λaC3 σ5 aAv a5 w5 hn5 hr6 hK5=>?_) hK;have hQ5:=hQ aC3 σ5 aAv a5 w5 hn5 hr6 hK5;have aa6:Region.ready .any ops (ao.setIfInBounds (ops.size-1) true)=[]:=by
     cases iY:Region.ready .any ops (ao.setIfInBounds (ops.size-1) true)with
     |nil=>rfl
     |cons k ks=>
      exfalso;have hk:k∈Region.ready .any ops (ao.setIfInBounds (ops.size-1) true):=by rw[iY];simp
      obtain⟨g1,o2,g2,_⟩:=mem_ready.1 hk;have g3:=(zai.1 g2).1;by_cases hke:k=ops.size-1
      ·subst hke;rw[zbn,Array.getElem?_setIfInBounds_self_of_lt aa]at g1;cases g1
      ·rw[getD_set_ne true (λe=>hke e.symm)]at g1;have:=pK k aa;rw[zbn]at g1 this;rw[zaE aa]at g1 this;rw[zby]at g1 this;rw[g1]at this;cases this
    cases fuel with
    |zero=>exact⟨aa6,hQ5⟩
    |succ k=>exact⟨λ_=>hQ5,λj hj=>by rw[aa6]at hj;cases hj⟩
 ·intro i hi T8;rw[Uf i]at T8;cases T8
 ·have O5:∀x,x<σ2.length->x<(S ops.pop.size).length∧∀p,p<ops.pop.size->(Array.replicate ops.size false).getD p false=false→¬((S p).length<=x/\x<(S (p+1)).length):=by
   intro x hx;refine⟨aa,λp hp _ h=>?_⟩;have:=Xx.Gi (i:=0) p aa;rw[zaU,e2]at this;omega
  refine⟨by rw[zae,List.length_replicate];omega,λt m hm' hc=>?_,λj m hj hm' hc=>?_,λt=>fU O5 _ (rnm _ _ (dp.env t)),λb hb=>?_⟩
  ·have:=Xx.Fa t (m:=0) m aa λp _ hp hpd=>by
    have:=(hc p aa hpd).1 aa;rw[Uf p]at this;cases this
   rw[zaU,e1]at this;exact this.symm
  ·have:=Xx.Fg j (m:=0) m aa λp _ hp Pn=>by
    have:=(hc p aa Pn).1 aa;rw[Uf p]at this;cases this
   rw[zaU,e2]at this;rw[this];by_cases aS:j<σ2.length
   ·rw[zar aS,zak aS];rfl
   ·rw[zam aa,zaK (l:=σ2) aa,zca,if_pos aa];rfl
  ·rcases zax.1 hb with hb|hb
   ·cases b with
    |box e cs=>
     obtain⟨j,hj⟩:=zaB.1 hb;have CH:j<vals.length:=Dd;obtain⟨_,arr,_,_,_,_,g5⟩:=dp.s.iU j _ _ hj (zak CH);exact mI O5 _ (Fi (λi hi=>CR) (λi hi=>hi) cs _ g5)
    |pool e sz l lt=>
     obtain⟨j,hj⟩:=zaB.1 hb;have CH:j<vals.length:=Dd;obtain⟨_,g5,_⟩:=dp.s.iU j _ _ hj (zak CH);exact λp hp=>O5 _ Q7
    |_=>trivial
   ·rw[zbr hb];trivial
def Cy{P:Program}{pin:List Nat}(hΓ:Sound P Γ)(hm:P.follows .mixedOrders=true):∀(c:Code) (pc:PC),uH P n c=some (strip pc)→∀(C:Cx->Prop) (F:Fence) (m:Nat) (cx:Cx) (Q:Ex->Env->aw->Prop) (env:Env) (σ:aw) (vals:List Value) (a:Act) (w:World),
 dZ pc=true\/(F=Fence.wide/\1<=m/\aat P pin C∧∀cx,C cx->cx.P=P)->((∀cx,C cx->cx.lo=0)∨∃lo,(∀cx,C cx->cx.lo<=lo)/\Yh lo pc=true)->CM F->C cx->(∀cx,C cx->cx.P=P)->(∀e,qR (Q e))->a.tmps.size=n->Rel cx env σ vals a w->vc Γ pin ps pc Q env σ->c.wpIn F m P (Wf C n Q) a w:=by
 intro c
 induction c with
 |skip=>
  intro pc hc C F m cx Q env σ vals a w _ _ _ hC hP _ hn hr h;have hc:=S_ hc;subst hc;exact wpIn_skip ⟨cx,env,σ,vals,hC,hn,hr,h⟩
 |region id ops draw=>
  intro pc hc C F m cx Q env σ vals a w _ hG hF hC hP hQ hn hr h;have hPc:=hP cx hC;subst hPc;cases draw with
  |false=>
   obtain⟨l,hl,hc⟩:=aK (show opt (Co (BO cx.P false ops n) ops.toList) (λl=>some (PC.region l))=some (strip pc)from hc);have hc:=Nl hc;subst hc;obtain⟨au,h,dp⟩:=lv hr (show canon env ps _ from h);obtain⟨hlen,h1,_⟩:=Ak hl ⟨none,none,.nilS 0⟩;refine wpIn_region (Tl hΓ h1 (K:=Q .normal) hF (HU (hG.imp (λh=>h cx hC) λ⟨lo,h1,h2⟩=>⟨lo,h1 cx hC,h2⟩) hlen) (λau σ' an a' w' zW dp hK=>⟨cx,au,σ',an,hC,zW,dp,hK⟩) _ au σ vals a w (λi hi=>zbo.1 hi) hn dp ?_);rw[<-hlen,Cg];exact h
  |true=>
   obtain⟨l,hl,hc⟩:=aK (show opt (Co (BO cx.P true ops n) ops.toList) (λl=>some (PC.draw (l.map PO.plain) (ops.toList.map λo=>(o.after.toList.filter λe=>Region.binds .any e).map (·.on))))=some (strip pc)from hc);have hc:=Tb hc;have hz:∀i,i<ops.size->(Array.replicate ops.size false).getD i true=false:=by
    intro i hi;rw[zbn];simp[hi]
   have K1:left ops.size (Array.replicate ops.size false)=List.range ops.size:=by
    unfold left;apply zb6.2;intro i hi;rw[hz i (zbo.1 hi)];rfl
   rcases hc with hc|hc
   ·subst hc;obtain⟨hD,h⟩:=(show E6 Γ (l.map PO.plain) _=true/\canon env ps _ from h)
    obtain⟨au,h,dp⟩:=lv hr h;obtain⟨hlen,_,h1⟩:=Ak hl ⟨none,none,.nilS 0⟩;have pd:(l.map PO.plain).length=ops.size:=by simpa using hlen
    refine wpIn_region_any hm ?_;have hz:∀i,i<ops.size->(Array.replicate ops.size false).getD i true=false:=by
     intro i hi;rw[zbn];simp[hi]
    have K1:left ops.size (Array.replicate ops.size false)=List.range ops.size:=by
     unfold left;apply zb6.2;intro i hi;rw[hz i (zbo.1 hi)];rfl
    refine TU hΓ h1 (Yx pd rfl hD ⟨none,none,.nilS 0⟩) (hQ .normal) hF (HU (hG.imp (λh=>h cx hC) λ⟨lo,h1,h2⟩=>⟨lo,h1 cx hC,h2⟩) pd) (λau σ' an a' w' zW dp hK=>⟨cx,au,σ',an,hC,zW,dp,hK⟩) _ _ au σ vals a _ ae ?_ ?_ hn (Ar dp) ?_
    ·rw[K1];simp
    ·intro i hi T8;rw[zbn]at T8;simp[hi]at T8
    ·rw[K1,<-pd,Cg];exact h
   ·subst hc;obtain⟨hlen,_,h1⟩:=Ak hl ⟨none,none,.nilS 0⟩;have pd:(l.map PO.plain).length=ops.size:=by simpa using hlen
    obtain⟨env,σ,vals,hr,h⟩:∃(env:Env) (σ:aw) (vals:List Value),Rel cx env σ vals a w/\(C7 Γ ps (l.map PO.plain) (ops.toList.map λo=>(o.after.toList.filter λe=>Region.binds .any e).map (·.on)) Q env σ\/Zl Γ ps (l.map PO.plain) (ops.toList.map λo=>(o.after.toList.filter λe=>Region.binds .any e).map (·.on)) Q env σ\/(Uz (l.map PO.plain) (ops.toList.map λo=>(o.after.toList.filter λe=>Region.binds .any e).map (·.on))=true/\canon env ps λenv=>vcL Γ (Q .normal) (l.map PO.plain) (ops.toList.map λo=>(o.after.toList.filter λe=>Region.binds .any e).map (·.on)) (l.map PO.plain).length [] env σ)):=by
     have h:(match mq σ with
      |false=>C7 Γ ps (l.map PO.plain) _ Q env σ
      |true=>canon env ps λenv=>∃gs:List GA,Oo gs env σ λenv σ=>C7 Γ ps (l.map PO.plain) _ Q env σ\/_):=h
     cases hp:mq σ with
     |false=>rw[hp]at h;exact⟨env,σ,vals,hr,.inl h⟩
     |true=>
      rw[hp]at h;obtain⟨Bb,⟨gs,h⟩,zY⟩:=lv hr h;obtain⟨qX,σ2,dw,h1,h2⟩:=vb gs zY h;exact⟨qX,σ2,dw,h2,h1⟩
    rcases h with h|h|⟨hL,h⟩
    case inr.inr.inl=>
     exact Th hΓ hm pd h1 hF (HU (hG.imp (λh=>h cx hC) λ⟨lo,h1,h2⟩=>⟨lo,h1 cx hC,h2⟩) pd) (hQ .normal) hn hr (λau σ' an a' w' zW dp hK=>⟨cx,au,σ',an,hC,zW,dp,hK⟩) h
    case inr.inr.inr=>
     obtain⟨au,h,dp⟩:=lv hr h;obtain⟨a1,a2,a3⟩:=Ys (aft:=ops.toList.map λo=>(o.after.toList.filter λe=>Region.binds .any e).map (·.on)) pd rfl hL;refine wpIn_region_any hm ?_;rw[pd]at h;refine V4 hΓ h1 ae a1 a2 a3 hF (HU (hG.imp (λh=>h cx hC) λ⟨lo,h1,h2⟩=>⟨lo,h1 cx hC,h2⟩) pd) (λau σ' an a' w' zW dp hK=>⟨cx,au,σ',an,hC,zW,dp,hK⟩) ops.size (Array.replicate ops.size false) [] au σ vals a _ ae (by rw[K1];simp) (λi hi=>?_) hn (Ar dp) h;rw[zbn];simp[hi]
    obtain⟨hD,h⟩:=(show H5 Γ (l.map PO.plain) _=true/\canon env ps _ from h)
    obtain⟨Bb,h,zY⟩:=lv hr h;obtain⟨au,σ2,h,dp⟩:=U2 zY h;obtain⟨A,E,S,R,e1,e2,e3,Xx⟩:=Vb hΓ pd rfl hD ⟨none,none,.nilS 0⟩ h;refine wpIn_region_any hm ?_;have hS0:(S 0).length<=(S ops.size).length:=by have:=Xx.Gi (i:=0) ops.size aa;rwa[zaU]at this
    obtain⟨dw,qH⟩:=Mf (Ar dp) ((S ops.size).length-σ2.length);rw[e2]at hS0;have rnm:∀(av:AV) (v:Value),RA (Ok cx σ2 vals w) σ2 vals w av v->av.Nm λi=>i<σ2.length:=λav v h=>Uv (λi hi=>CR) (λi hi=>hi) av v h
    refine Wb hΓ h1 Xx (hQ .normal) e3 ?_ ?_ hF (HU (hG.imp (λh=>h cx hC) λ⟨lo,h1,h2⟩=>⟨lo,h1 cx hC,h2⟩) pd) (λau σ' an a' w' zW dp hK=>⟨cx,au,σ',an,hC,zW,dp,hK⟩) ops.size (Array.replicate ops.size false) au (σ2++List.replicate ((S ops.size).length-σ2.length) .dead) dw a { w with drawn:=w.drawn+1 } ae (by rw[K1];simp) ?_ hn qH ?_
    ·intro j hj;rw[e2];rcases hj with hj|hj
     ·exact zag hj dp.s.pin.len
     ·have:=dp.s.pin.vs j _ (zak hj);rw[<-dp.s.len];exact(zaa.1 this).1
    ·intro x v hq;rw[e2];exact rnm x v (dp.gh x v hq)
    ·intro i hi T8;rw[zbn]at T8;simp[hi]at T8
    ·have Uf:∀p,(Array.replicate ops.size false).getD p false=false:=by
      intro p;rw[zbn];simp only[zb9];split<;>rfl
     have O5:∀x,x<σ2.length->x<(S ops.size).length∧∀p,p<ops.size->(Array.replicate ops.size false).getD p false=false→¬((S p).length<=x/\x<(S (p+1)).length):=by
      intro x hx;refine⟨aa,λp hp _ h=>?_⟩;have:=Xx.Gi (i:=0) p aa;rw[zaU,e2]at this;omega
     refine⟨aT,λt m hm' hc=>?_,λj m hj hm' hc=>?_,λt=>fU O5 _ (rnm _ _ (dp.env t)),λb hb=>?_⟩
     ·have:=Xx.Fa t (m:=0) m aa λp _ hp hpd=>by
       have:=(hc p aa hpd).1 aa;rw[Uf p]at this;cases this
      rw[zaU,e1]at this;exact this.symm
     ·have:=Xx.Fg j (m:=0) m aa λp _ hp Pn=>by
       have:=(hc p aa Pn).1 aa;rw[Uf p]at this;cases this
      rw[zaU,e2]at this;rw[this];by_cases aS:j<σ2.length
      ·rw[zar aS,zak aS];rfl
      ·rw[zam aa,zaK (l:=σ2) aa,zca,if_pos aa];rfl
     ·rcases zax.1 hb with hb|hb
      ·cases b with
       |box e cs=>
        obtain⟨j,hj⟩:=zaB.1 hb;have CH:j<vals.length:=Dd;obtain⟨_,arr,_,_,_,_,g5⟩:=dp.s.iU j _ _ hj (zak CH);exact mI O5 _ (Fi (λi hi=>CR) (λi hi=>hi) cs _ g5)
       |pool e sz l lt=>
        obtain⟨j,hj⟩:=zaB.1 hb;have CH:j<vals.length:=Dd;obtain⟨_,g5,_⟩:=dp.s.iU j _ _ hj (zak CH);exact λp hp=>O5 _ Q7
       |_=>trivial
      ·rw[zbr hb];trivial
 |seq x y ihx ihy=>
  intro pc hc C F m cx Q env σ vals a w hS hG hF hC hP hQ hn hr h;obtain⟨px,hx,hc⟩:=aK (show opt (uH P n x) (λa=>opt (uH P n y) λb=>some (PC.seq a b))=some (strip pc)from hc);obtain⟨py,hy,hc⟩:=aK hc;obtain⟨px,py,rfl,rfl,rfl⟩:=WX hc;refine wpIn_seq (wpIn_mono (ihx px hx C F m cx (ac5 (vc Γ pin ps py Q) Q) env σ vals a w (hS.imp_left λh=>(Kk h).1) (hG.imp_right λ⟨lo,h1,h2⟩=>⟨lo,h1,(Y9 h2).1⟩) hF hC hP (Aw (acp Γ pin ps py Q hQ) hQ) hn hr h) ?_);intro e a' w' hp;cases e with
  |normal=>
   obtain⟨Po,au,σ',an,hC',zW,dp,h'⟩:=hp;exact ihy py hy C F m Po Q au σ' an a' w' (hS.imp_left λh=>(Kk h).2) (hG.imp_right λ⟨lo,h1,h2⟩=>⟨lo,h1,(Y9 h2).2⟩) hF hC' hP hQ zW dp h'
  |exit i=>exact hp
  |ret=>exact hp
  |_=>exact hp
 |cond c x y ihx ihy=>
  intro pc hc C F m cx Q env σ vals a w hS hG hF hC hP hQ hn hr h;obtain⟨px,hx,hc⟩:=aK (show opt (uH P n x) (λa=>opt (uH P n y) λb=>some (PC.cond c a b))=some (strip pc)from hc);obtain⟨py,hy,hc⟩:=aK hc;obtain⟨px,py,rfl,rfl,rfl⟩:=T2 hc;have h:=aC _ _ _ (show ev env c _ from h);have he:=hr.ev c
  revert h he
  cases a_ env c with
  |pv v=>cases v with
   |bool b=>
    intro h he;simp only[RA,Rd]at he;cases b with
    |true=>exact wpIn_cond_true he (ihx px hx C F m cx Q env σ vals a w (hS.imp_left λh=>(F_ h).1) (hG.imp_right λ⟨lo,h1,h2⟩=>⟨lo,h1,(U_ h2).1⟩) hF hC hP hQ hn hr h)
    |false=>exact wpIn_cond_false he (ihy py hy C F m cx Q env σ vals a w (hS.imp_left λh=>(F_ h).2) (hG.imp_right λ⟨lo,h1,h2⟩=>⟨lo,h1,(U_ h2).2⟩) hF hC hP hQ hn hr h)
   |_=>intro h;exact h.elim
  |_=>intro h;exact h.elim
 |block id b ih=>
  intro pc hc C F m cx Q env σ vals a w hS hG hF hC hP hQ hn hr h;obtain⟨pb,hb,hc⟩:=aK (show opt (uH P n b) (λb=>some (PC.block id b))=some (strip pc)from hc);obtain⟨pb,rfl,rfl⟩:=QF hc;refine wpIn_block (wpIn_mono (ih pb hb C F m cx (Tw id Q) env σ vals a w hS hG hF hC hP (Gf hQ) hn hr h) ?_);intro e a' w' hp;cases e with
  |normal=>exact hp
  |exit i=>
   obtain⟨Po,au,σ',an,hC',zW,dp,h'⟩:=hp;have h':(match Nat.beq i id with|true=>Q .normal au σ'|false=>Q (.exit i) au σ'):=h';show(if i=id then Wf C n Q .normal a' w' else Wf C n Q (.exit i) a' w');cases hb:Nat.beq i id with
   |true=>
    rw[hb]at h';rw[if_pos (zab hb)];exact⟨Po,au,σ',an,hC',zW,dp,h'⟩
   |false=>
    rw[hb]at h';rw[if_neg (λe=>by subst e;simp at hb)];exact⟨Po,au,σ',an,hC',zW,dp,h'⟩
  |ret=>exact hp
  |_=>exact hp
 |loop b ih=>
  intro pc hc C F m0 cx Q env σ vals a w hS hG hF hC hP hQ hn hr h;obtain⟨pb,hb,hc⟩:=aK (show opt (uH P n b) (λb=>some (PC.loop [] b))=some (strip pc)from hc);obtain⟨live,pb,rfl,rfl⟩:=Te hc;have h:(match isK live with|true=>(match dZ pb with|true=>UJ live.tail (vc Γ pin ps pb) Q (List.range σ.length) env σ|false=>False)|false=>gc pin env σ live λenv σ=>Ng pin live (vc Γ pin ps pb) Q env σ):=h;cases L1:isK live with
  |true=>
   rw[L1]at h;cases hsb:dZ pb with
   |false=>rw[hsb]at h;exact h.elim
   |true=>
   rw[hsb]at h;have aC5:cx.lo=0:=by
    rcases hG with hG|⟨lo,_,h2⟩
    ·exact hG cx hC
    ·cases h2
   have afM:RU (List.range σ.length) (cx.all σ vals):=⟨rfl,hr.s.len⟩
   have aAw:∀x v,(cx.all σ vals).gh x v->x.Nm λi=>i<(cx.all σ vals).rY.length:=λx v hq=>Uv (λi hi=>by show i<σ.length;rw[<-hr.s.len];exact hi) (λi hi=>hi) x v (hr.gh x v hq)
   have hpn:=hr.s.pin;obtain⟨au,σ',an,h,dp⟩:=I5 aAw afM (acf hr) live.tail h;obtain⟨I,m,hI,Sd⟩:=h;refine wpIn_mono (Q:=Wf (· =cx.all σ vals) n Q) ?_ ?_
   ·let J:Nat->Act->World->Prop:=λm a w=>∃env σ' an,a.tmps.size=n/\Rel (cx.all σ vals) env σ' an a w/\I m env σ'
    refine wpIn_loop (λa w=>∃m,J m a w) (λa w=>J5 λm=>J m a w) ⟨m,au,σ',an,hn,dp,hI⟩ ?_;rintro a1 w1 ⟨m1,hJ1⟩;obtain⟨⟨Bb,σ1,fO,KZ,zY,hI1⟩,_⟩:=tQ (p:=λm=>J m a1 w1) hJ1;have xH:∀k,qR λe σ'=>gc (List.range σ.length) e σ' live.tail λe' σ'=>∃m,m<k/\I m e' σ':=λk env au σ h=>HA h σ live.tail _
    refine wpIn_mono (ih pb hb (· =cx.all σ vals) F m0 _ _ Bb σ1 fO a1 w1 (.inl hsb) (.inl λc hc=>hc▸aC5) hF rfl (λc hc=>hc▸hP cx hC) (Aw (xH _) hQ) KZ zY (Sd _ Bb σ1 hI1)) ?_;intro e a' w' hp;cases e with
    |normal=>
     obtain⟨Ub,qX,σ2,dw,rfl,R0,qH,h2⟩:=hp;obtain⟨L4,σ3,nv,⟨k,hk,hI3⟩,hr3⟩:=I5 aAw afM qH live.tail h2;have hJ3:J k a' w':=⟨L4,σ3,nv,R0,hr3,hI3⟩
     exact⟨⟨k,hJ3⟩,zcj ((tQ (p:=λm=>J m a' w') hJ3).2 k hJ3) hk⟩
    |exit i=>exact hp
    |ret=>exact hp
    |_=>exact hp
   ·intro e a' w' hp;cases e with
    |normal=>obtain⟨_,qX,σ2,dw,rfl,R0,qH,h2⟩:=hp;exact J4
    |exit i=>obtain⟨_,qX,σ2,dw,rfl,R0,qH,h2⟩:=hp;exact J4
    |ret=>obtain⟨_,qX,σ2,dw,rfl,R0,qH,h2⟩:=hp;exact J4
    |_=>exact hp
  |false=>
  rw[L1]at h;have hS':F=Fence.wide/\1<=m0/\aat P pin C∧∀cx,C cx->cx.P=P:=by
   rcases hS with hS|hS
   ·have hS:(match isK live with|true=>dZ pb|false=>false)=true:=hS;rw[L1]at hS;cases hS
   ·exact hS
  obtain⟨au,σ',an,h,dp⟩:=UO (hS'.2.2.1.gh cx hC) (hS'.2.2.1.pin cx hC) hr live (show gc pin env σ live (λenv σ=>Ng pin live (vc Γ pin ps pb) Q env σ)from h);obtain⟨I,m,hI,Sd⟩:=h
  let J:Nat->Act->World->Prop:=λm a w=>∃cx env σ vals,C cx/\a.tmps.size=n/\Rel cx env σ vals a w/\I m env σ
  refine wpIn_loop (λa w=>∃m,J m a w) (λa w=>J5 λm=>J m a w) ⟨m,cx,au,σ',an,hC,hn,dp,hI⟩ ?_;rintro a1 w1 ⟨m1,hJ1⟩;obtain⟨⟨cx1,Bb,σ1,fO,hC1,KZ,zY,hI1⟩,_⟩:=tQ (p:=λm=>J m a1 w1) hJ1;have xH:∀k,qR λe σ=>gc pin e σ live λe' σ'=>∃m,m<k/\I m e' σ':=λk env au σ h=>HA h σ live _
  refine wpIn_mono (ih pb hb C F m0 cx1 _ Bb σ1 fO a1 w1 (.inr hS') (.inl (hS'.2.2.1.lo)) hF hC1 hP (Aw (xH _) hQ) KZ zY (Sd _ Bb σ1 hI1)) ?_;intro e a' w' hp;cases e with
  |normal=>
   obtain⟨Ub,qX,σ2,dw,hC2,R0,qH,h2⟩:=hp;obtain⟨L4,σ3,nv,⟨k,hk,hI3⟩,hr3⟩:=UO (hS'.2.2.1.gh Ub hC2) (hS'.2.2.1.pin Ub hC2) qH live h2;have hJ3:J k a' w':=⟨Ub,L4,σ3,nv,hC2,R0,hr3,hI3⟩
   exact⟨⟨k,hJ3⟩,zcj ((tQ (p:=λm=>J m a' w') hJ3).2 k hJ3) hk⟩
  |exit i=>exact hp
  |ret=>exact hp
  |_=>exact hp
 |rangeFunc f pa asg b _ ih=>
  intro pc hc C F m cx Q env σ vals a w hS hG hF hC hP hQ hn hr h;obtain⟨l,hl,hc⟩:=aK (show opt (Me P n asg) (λl=>opt (uH P n b) λb=>jh (pa.toList.all λp=>Nat.blt p n) (some (PC.rangeF f pa.toList l b)))=some (strip pc)from hc);obtain⟨pb,hb,hc⟩:=aK hc;obtain⟨Xm,hc⟩:=dG hc;obtain⟨pb,rfl,rfl⟩:=Nu hc;have hS':F=Fence.wide/\1<=m/\aat P pin C∧∀cx,C cx->cx.P=P:=by
   rcases hS with hS|hS
   ·cases hS
   ·exact hS
  obtain⟨rfl,h1,hW,_⟩:=hS';have h:(match dZ pb with|true=>canon env ps λenv=>ev env f λf=>NP Γ pin ps pa.toList l (vc Γ pin ps pb) Q f env σ|false=>False):=h;cases hsb:dZ pb with
  |false=>rw[hsb]at h;exact h.elim
  |true=>
  rw[hsb]at h;obtain⟨au,h,dp⟩:=lv hr h;have h:=aC _ _ _ h;exact Qk hW hΓ h1 hC (hP cx hC) hl (λp hp=>za3 (by have:=zbW.1 Xm p hp;exact this))
   (λPo aC8 F k Q env σ vals a w hF' hP' zW qH hQ' hv=>ih pb hb (· =Po) F k Po Q env σ vals a w (.inl hsb) (.inl λc hc=>hc▸aC8) hF' rfl (λc hc=>hc▸hP') hQ' zW qH hv) hn dp h
 |exit id=>
  intro pc hc C F m cx Q env σ vals a w _ _ _ hC hP _ hn hr h;have hc:=Tx hc;subst hc;exact wpIn_exit ⟨cx,env,σ,vals,hC,hn,hr,h⟩
 |ret=>
  intro pc hc C F m cx Q env σ vals a w _ _ _ hC hP _ hn hr h;have hc:=VW hc;subst hc;exact wpIn_ret ⟨cx,env,σ,vals,hC,hn,hr,h⟩
 |_=>intro pc hc;cases hc
end
end
end Go.Dv
namespace Go.Dv
open Go.RowKit
section
section
variable {P:Program} {Γ:Ctx} {N:Nat} {FR:Nat->Prop} {W:World} {a:Act}
structure ItP(N:Nat)(FR:Nat->Prop)(W:World)(a:Act)(E:List (Nat×PV)):Prop where
 size:a.tmps.size=N
 defs:a.defers=[]
 ok:∀b,FR b->b<W.heap.size
 rd:∀q∈E,Rd FR W q.2 (a.tmps.getD q.1 undef)
def ayq(P:Program)(FR:Nat->Prop)(W:World)(ep:∀b,FR b->b<W.heap.size):Cx:=
 { P:=P,w0:=W,OG:=FR,hA:=ep,keep:=λb=>b<W.heap.size,hk:=λ_ h=>h }
def TX(E:List (Nat×PV))(env:Env):Prop:=List.rec True (λq _ ih=>aA q.1 env=.pv q.2/\ih) E
def Tg{E:List (Nat×PV)}{env:Env}(h:TX E env):∀q∈E,aA q.1 env=.pv q.2:=by
 induction E with
 |nil=>simp
 |cons q E ih=>
  have h:aA q.1 env=.pv q.2/\TX E env:=h;intro x hx;rcases zay.1 hx with rfl|hx
  ·exact h.1
  ·exact ih h.2 x hx
def ItP.after{cx:Cx}{E:List (Nat×PV)}{env:Env}{σ:aw}{vals:List Value}{a':Act}{W':World}{ep:∀b,FR b->b<W.heap.size}(hc:cx=ayq P FR W ep)(hs:a'.tmps.size=N)(hr:Rel cx env σ vals a' W')(hE:TX E env):
 ∃okN,ItP N okN W' a' E/\W.grownBy W' none∧∀b,okN b->FR b\/W.heap.size<=b:=by
 subst hc;refine⟨Ok (ayq P FR W ep) σ vals W',⟨hs,hr.defers,λb hb=>hb.2.1,λq hq=>?_⟩,⟨hr.s.below.os,hr.s.below.tape,hr.s.below.output,hr.s.below.size,λk hk _=>hr.s.fr.same k hk⟩,λb hb=>hb.1⟩;have:=hr.env q.1;rw[Tg hE q hq]at this;simpa only[RA]using this
def ItP.round{E:List (Nat×PV)}(I:ItP N FR W a E){n0:Nat}{X X':Nat->Prop}{W':World}(k:SY n0 X X' W W')(hx:∀b,FR b→¬X b):ItP N FR W' a E∧∀b,FR b→¬X' b:=by
 refine⟨⟨I.size,I.defs,λb hb=>zag (I.ok b hb) k.size,λq hq=>?_⟩,λb hb h=>?_⟩
 ·refine Rd.ey (λ_ h=>h) (λb o u hb hc=>?_) _ _ (I.rd q hq);have e:∃ob:Obj,W.heap[b]?=some ob/\ob.isCells=true:=by
   unfold World.cell? at hc;cases mN:W.heap[b]? with
   |none=>simp[mN]at hc
   |some ob=>cases ob<;>first|exact⟨_,rfl,rfl⟩|(simp[mN]at hc)
  rw[World.cell?_of_block (k.same b (I.ok b hb) (hx b hb) (.inr e))];exact hc
 ·rcases k.adQ b h with g|g
  ·exact hx b hb g
  ·have:=I.ok b hb;omega
end
end
end Go.Dv
namespace Go.Dv
open Go.RowKit
section
def tl{env au:Env}(h:∀p,aA p au=aA p env)(σ:aw)(rs:List (Nat×Option (Bool×Nat))):∀K:List AV->Prop,kn σ au rs K=kn σ env rs K:=by
 induction rs with
 |nil=>intro K;rfl
 |cons p rs ih=>
  intro K;show look p.1 (λv=>match p.2 with
   |none=>kn σ au rs λl=>K (v::l)
   |some q=>Bl σ q.1 q.2 v λv=>kn σ au rs λl=>K (v::l)) au=look p.1 (λv=>match p.2 with
   |none=>kn σ env rs λl=>K (v::l)
   |some q=>Bl σ q.1 q.2 v λv=>kn σ env rs λl=>K (v::l)) env
  rw[look_eq,look_eq]
  grind
def MY(lone:Bool)(rs:List (Nat×Option (Bool×Nat)))(K:RV->Prop):∀e,qR (ZV lone rs K e):=by
 intro e env au σ h;cases e with
 |normal=>exact tl h σ rs _
 |ret=>exact tl h σ rs _
 |exit i=>rfl
def Gr(l:List PV):∀(n:Nat) (K:Env->Prop),SL l n K→∃env,K env∧∀p,aA p env=if n<=p then(match l[p-n]? with|some x=>.pv x|none=>.bad)else .bad:=by
 induction l with
 |nil=>intro n K h;exact⟨[],h,λp=>by simp[aA]⟩
 |cons x l ih=>
  intro n K h;obtain⟨env,h1,h2⟩:=ih (n+1) _ h;refine⟨_,h1,λp=>?_⟩;show(bif Nat.beq n p then AV.pv x else aA p env)=_;by_cases hp:n=p
  ·simp_all
  ·rw[Oj hp]
   grind
section flat
variable {ok lT:Nat->Prop} {w:World}
def acT{x:PV}{v:Value}(hx:x.S9)(h:Rd ok w x v):Rd lT w x v:=by
 cases x<;>first|exact hx.elim|assumption
def H9:∀(l:List PV) (vs:List Value),(∀c∈l,c.S9)->cE ok w l vs->cE lT w l vs
 |[],vs,_,h=>by assumption
 |x::xs,vs,hx,h=>by
  obtain⟨v,t,h1,h2,h3⟩:=h;exact⟨v,t,h1,acT (hx x ae) h2,H9 xs t (λc hc=>hx c iN) h3⟩
def Uw{x:PV}{v:Value}(hx:x.flat)(h:Rd ok w x v):Rd lT w x v:=by
 cases x with
 |agg cs=>
  obtain⟨h1,vs,h2,h3⟩:=h;exact⟨h1,vs,h2,H9 cs _ hx h3⟩
 |_=>first|exact hx.elim|assumption
def Tt{x:PV}(h:x.flat):∀c∈x.cells,c.S9:=by
 cases x with
 |agg cs=>exact h
 |_=>first|exact h.elim|(intro c hc;simp[PV.cells]at hc;subst hc;exact h)
end flat
section
variable {cx:Cx} {env:Env} {σ:aw} {vals:List Value} {a:Act} {w':World}
def XC(r:RV)(v:Value):List Value:=match r with| .fresh _ _ _=>[v]| .row _ _ _=>[v]|_=>[]
def usC:List RV->List Value->List Value
 |r::rs,v::vs=>XC r v++usC rs vs
 |_,_=>[]
def FT(r:RV)(v:Value):List Value:=match r with
 | .agg rs=>match v with| .agg vs=>usC rs vs.toList|_=>[]
 |r=>XC r v
def usL:List RV->List Value->List Value
 |r::rs,v::vs=>FT r v++usL rs vs
 |_,_=>[]
def bc:AV->List Nat
 | .own id=>[id]
 | .ref id _ _=>[id]
 | .sub id _ _ _=>[id]
 |_=>[]
def mJ:AV->List Nat
 | .agg cs=>cs.flatMap bc
 |a=>bc a
def Ty:∀(l:List AV) (seen:List Nat) (K:List Nat->Bool),Mm l seen K=true→∃z7,K z7=true/\(l.flatMap bc).Nodup/\(∀i∈l.flatMap bc,i∉seen)∧∀i,i∈z7↔i∈seen\/i∈l.flatMap bc:=by
 intro l
 induction l with
 |nil=>intro seen K h;exact⟨seen,h,ae,ae,ae⟩
 |cons a l ih=>
  intro seen K h;have main:∀id,bc a=[id]->Bool.rec (Mm l (id::seen) K) false (Oa id seen)=true→∃z7,K z7=true/\((a::l).flatMap bc).Nodup/\(∀i∈(a::l).flatMap bc,i∉seen)∧∀i,i∈z7↔i∈seen\/i∈(a::l).flatMap bc:=by
   intro id hid h;cases hm:Oa id seen with
   |true=>simp_all
   |false=>
    rw[hm]at h;obtain⟨z7,h1,h2,h3,h4⟩:=ih _ _ h;rw[zao,hid];refine⟨z7,h1,?_,λi hi=>?_,λi=>?_⟩
    ·grind
    ·rcases zax.1 hi with hi|hi
     ·simp at hi;subst hi;exact Mv _ _ hm
     grind
    grind
  have none:bc a=[]->Mm l seen K=true→∃z7,K z7=true/\((a::l).flatMap bc).Nodup/\(∀i∈(a::l).flatMap bc,i∉seen)∧∀i,i∈z7↔i∈seen\/i∈(a::l).flatMap bc:=by
   grind
  cases a with
  |own id=>exact main id rfl h
  |ref id _ _=>exact main id rfl h
  |sub id _ _ _=>exact main id rfl h
  |_=>exact none rfl h
def qQ:∀(l:List AV) (seen:List Nat),HC l seen=true->(l.flatMap mJ).Nodup∧∀i∈l.flatMap mJ,i∉seen:=by
 intro l
 induction l with
 |nil=>simp
 |cons a l ih=>
  intro seen h;have main:∀cs,cs.flatMap bc=mJ a->Mm cs seen (HC l)=true->((a::l).flatMap mJ).Nodup∧∀i∈(a::l).flatMap mJ,i∉seen:=by
   intro cs pH h;obtain⟨z7,h1,h2,h3,h4⟩:=Ty cs seen _ h
   grind
  cases a with
  |agg cs=>exact main cs rfl h
  |bad=>exact main [.bad] rfl h
  |pv x=>exact main [.pv x] rfl h
  |own i=>exact main [.own i] rfl h
  |ref i j k=>exact main [.ref i j k] rfl h
  |sub i j k m=>exact main [.sub i j k m] rfl h
  |tup vs=>exact main [.tup vs] rfl h
  |clo f vs=>exact main [.clo f vs] rfl h
def Gj(cx:Cx)(σ:aw)(vals:List Value)(w:World)(av:AV)(r:RV)(v:Value):Prop:=
 match r with
 | .pv x=>Rd (Ok cx σ vals w) w x v/\(av.one=true->x.one=true)
 | .fresh e sz ak=>(v=.slice none 0 0/\ak=[]/\0<sz)∨∃id,id∈bc av/\σ[id]?=some (.row e sz true ak)/\vals[id]?=some v
 | .row e sz ak=>(v=.slice none 0 0/\ak=[]/\0<sz)∨∃id ap,id∈bc av/\σ[id]?=some (.row e sz ap ak)/\vals[id]?=some v
 |_=>False
def yE(cx:Cx)(σ:aw)(vals:List Value)(w:World):List AV->List RV->List Value->Prop
 |[],rs,vs=>rs=[]/\vs=[]
 |a::aHk,rs,vs=>∃r O6 v Hq,rs=r::O6/\vs=v::Hq/\Gj cx σ vals w a r v/\yE cx σ vals w aHk O6 Hq
def Item(cx:Cx)(σ:aw)(vals:List Value)(w:World)(av:AV)(r:RV)(v:Value):Prop:=
 match r with
 | .agg rs=>∃cs vs,av=.agg cs/\v=.agg vs/\(∀c∈cs,c.one=true)/\yE cx σ vals w cs rs vs.toList
 | .pv x=>Rd (Ok cx σ vals w) w x v
 |r=>bc av=mJ av/\Gj cx σ vals w av r v
def UY(cx:Cx)(σ:aw)(vals:List Value)(w:World):List AV->List RV->List Value->Prop
 |[],rs,vs=>rs=[]/\vs=[]
 |a::aHk,rs,vs=>∃r O6 v Hq,rs=r::O6/\vs=v::Hq/\Item cx σ vals w a r v/\UY cx σ vals w aHk O6 Hq
def Ox{σ σ':aw}{c:AV}(hc:c.one=true)(h:∀i∈bc c,σ'[i]?=σ[i]?){K:PV->Prop}(hk:fE σ c K):fE σ' c K:=by
 cases c with
 |pv x=>exact hk
 |own id=>obtain⟨b,h1,h2⟩:=az _ _ _ hk;exact zS
 |sub id sz lo n=>obtain⟨b,h1,h2⟩:=az _ _ _ hk;exact zS
 |ref id idx off=>
  cases idx with
  |succ _=>assumption
  |zero=>cases off with
   |succ _=>assumption
   |zero=>obtain⟨b,h1,h2⟩:=az σ id (λb=>La b K) hk;exact cr σ' id b (λb=>La b K) ((h id DP).trans h1) h2
 |clo _ _=>assumption
 |_=>cases hc
def BE{σ σ':aw}:∀(cs:List AV),(∀c∈cs,c.one=true)->(∀i∈cs.flatMap bc,σ'[i]?=σ[i]?)→∀{K:List PV->Prop},bJ σ cs K->bJ σ' cs K:=by
 intro cs
 induction cs with
 |nil=>intro _ _ K h;exact h
 |cons c cs ih=>
  intro h1 h K hk;have hk:fE σ c λx=>bJ σ cs λl=>K (x::l):=hk
  have h2:=Ox (h1 c ae) (λi hi=>h i (zbZ _ hi)) hk;show fE σ' c λx=>bJ σ' cs λl=>K (x::l)
  cases c with
  |pv x=>exact ih (λd hd=>h1 d og) (λi hi=>h i (zbY _ hi)) hk
  |own id=>
   obtain⟨b,g1,g2⟩:=az _ _ _ h2;refine cr _ _ b _ g1 ?_
   grind
  |sub id sz lo n=>
   obtain⟨b,g1,g2⟩:=az _ _ _ h2;refine cr _ _ b _ g1 ?_;have one:∀(s:Nat) (ak:List PV),(match Nat.beq s sz with
    |true=>lo+n<=ak.length/\bJ σ cs (λl=>K (.sl sz (cut lo (lo+n) ak)::l))
    |false=>False)->(match Nat.beq s sz with
    |true=>lo+n<=ak.length/\bJ σ' cs (λl=>K (.sl sz (cut lo (lo+n) ak)::l))
    |false=>False):=by
    grind
   cases b with
   |row e s ap ak=>exact one s ak g2
   |fz x=>cases x with
    |sl s ak=>exact one s ak g2
    |_=>assumption
   |_=>assumption
  |ref id idx off=>
   cases idx with
   |succ _=>assumption
   |zero=>cases off with
    |succ _=>assumption
    |zero=>
     obtain⟨b,g1,g2⟩:=az σ' id (λb=>La b λx=>bJ σ cs λl=>K (x::l)) h2;obtain⟨x,g3,g4⟩:=VC b g2;exact cr σ' id b (λb=>La b λx=>bJ σ' cs λl=>K (x::l)) g1 (g4 _ (ih (λd hd=>h1 d og) (λi hi=>h i (zbY _ hi)) g3))
  |clo _ _=>assumption
  |_=>have:=h1 _ (List.mem_cons_self ..);cases this
def y9(hr:ba cx σ vals w'){c:AV}{v:Value}(hc:c.one=true)(hv:RA (Ok cx σ vals w') σ vals w' c v){K:PV->Prop}(hk:fE σ c K):
 ∃x σ',K x/\ba cx σ' vals w'/\cm cx σ vals w' σ' vals w'/\(∀i,i∉bc c->σ'[i]?=σ[i]?)/\Rd (Ok cx σ' vals w') w' x v/\x.one=true:=by
 have fz:∀id,bc c=[id]->(∃b,σ[id]?=some b/\((∃e sz ap ak,b=.row e sz ap ak)∨∃x,b=.fz x))->jy c σ (λσ'=>∀i,i∉bc c->σ'[i]?=σ[i]?)->
  ∃x σ',K x/\ba cx σ' vals w'/\cm cx σ vals w' σ' vals w'/\(∀i,i∉bc c->σ'[i]?=σ[i]?)/\Rd (Ok cx σ' vals w') w' x v/\x.one=true:=by
  intro id hid _ hfz;obtain⟨x,σ',h1,h2,_,h4,h5,h6,h7⟩:=yc c σ σ v K _ (Fz.refl σ) hr hv hk hfz;exact⟨x,σ',h1,h4,h5,h2,h6,h7 hc⟩
 have mk:∀id,bc c=[id]→∀b:cu,σ[id]?=some b->(match b with
  | .row _ sz _ ak=>iX σ id (.fz (.sl sz ak)) (λσ'=>∀i,i∉bc c->σ'[i]?=σ[i]?)
  | .fz _=>∀i,i∉bc c->σ[i]?=σ[i]?
  |_=>False)\/((b=.dead\/(∃l,b=.mp l)∨∃e s l lt,b=.pool e s l lt)∨∃e cs,b=.box e cs):=by
  intro id hid b hb;have aS:=(zaa.1 hb).1;cases b with
  |row e sz ap ak=>
   left;have:∀(l:aw) (n:Nat) (y:cu) (K:aw->Prop),n<l.length->K (l.set n y)->iX l n y K:=by
    intro l
    induction l with
    |nil=>intro n y K h;simp at h
    |cons z l ih=>
     intro n y K h hk;cases n with
     |zero=>exact hk
     |succ n=>exact ih n y (λt=>K (z::t)) o8 hk
   refine this _ _ _ _ aS λi hi=>?_
   rw[cY aS,if_neg (λe=>hi (by rw[hid];simp[e]))]
  |fz x=>exact .inl λ_ _=>rfl
  |dead=>exact .inr (.inl (.inl rfl))
  |mp l=>exact .inr (.inl (.inr (.inl ⟨l,rfl⟩)))
  |pool e s l lt=>exact .inr (.inl (.inr (.inr ⟨e,s,l,lt,rfl⟩)))
  |box e cs=>exact .inr (.inr ⟨e,cs,rfl⟩)
 cases c with
 |pv x=>exact⟨x,σ,hk,hr,cm.refl,λ_ _=>rfl,KS,hc⟩
 |own id=>
  obtain⟨b,h1,h2⟩:=az _ _ _ hk;rcases mk id rfl b h1 with h|(rfl|⟨l,rfl⟩|⟨_,_,_,_,rfl⟩)|⟨e,cs,rfl⟩
  ·refine fz id rfl ⟨b,h1,?_⟩ (cr _ _ b _ h1 h);cases b with
   |row e sz ap ak=>exact .inl ⟨_,_,_,_,rfl⟩
   |fz x=>exact .inr ⟨_,rfl⟩
   |_=>exact iJ
  ·exact iJ
  ·exact iJ
  ·exact iJ
  ·exact iJ
 |sub id sz lo n=>
  obtain⟨b,h1,h2⟩:=az _ _ _ hk;rcases mk id rfl b h1 with h|(rfl|⟨l,rfl⟩|⟨_,_,_,_,rfl⟩)|⟨e,cs,rfl⟩
  ·refine fz id rfl ⟨b,h1,?_⟩ (cr _ _ b _ h1 h);cases b with
   |row e sz ap ak=>exact .inl ⟨_,_,_,_,rfl⟩
   |fz x=>exact .inr ⟨_,rfl⟩
   |_=>exact iJ
  ·exact iJ
  ·exact iJ
  ·exact iJ
  ·exact iJ
 |ref id idx off=>
  cases idx with
  |succ _=>exact fG
  |zero=>cases off with
   |succ _=>exact fG
   |zero=>
    obtain⟨b,hb,hk⟩:=az σ id (λb=>La b K) hk;simp only[RA]at hv;obtain⟨aS,_,_,sM⟩:=hv;cases b with
    |box e cs=>
     rcases oY cs (λt=>jw t λx=>K (.cptr x)) False hk with⟨tcs,rfl,kV⟩|kV
     ·obtain⟨u,hu,nQ⟩:=hr.val hb;obtain⟨u',g,Pf,M9,hv⟩:=sM _ hb rfl;have hg:bI u'=some g:=by rw[M9];rfl
      rw[hu]at Pf;cases Pf;have fY:∀c∈tcs,c.one=true:=by
       obtain⟨_,_,_,_,_,h4,_⟩:=nQ;exact λc hc=>h4 (.pv c) r6
      obtain⟨x,Pb,s8⟩:=E9 tcs kV;obtain⟨x',rfl,hx⟩:=s_ (w:=w') (s8 (λy=>y=x) rfl) fY;obtain⟨zY,hk1⟩:=hr.ED (x:=.cptr x') hb rfl (λlT v' _ asA ep Hj=>by
       obtain⟨b',aaM,e1,_,e3,_,e5⟩:=asA;subst e1;rw[eY]at e5;exact hx lT aaM b' _ _ e3 (cE.mono ep (λ_ _ _=>rfl) _ _ e5) (Hj b' rfl)) (λ_=>rfl)
      refine⟨_,_,Pb,zY,hk1,λi hi=>?_,?_,rfl⟩
      ·rw[cY aS,if_neg (λe=>hi (by simp[bc,e]))]
      ·have:=zY.iU id _ _ (by rw[zcc aS]) hu;have hvu:v=u:=by
        obtain⟨b,arr,h1,_⟩:=nQ;rw[h1]at hg;cases hg;rw[hv,h1]
       rw[hvu];exact this
     ·exact kV.elim
    |_=>exact fG
 |clo _ _=>exact fG
 |_=>cases hc
def NB:∀(cs:List AV) (σ:aw) (vs:List Value) (K:List PV->Prop),ba cx σ vals w'->(∀c∈cs,c.one=true)->d_ (Ok cx σ vals w') σ vals w' cs vs->bJ σ cs K->(cs.flatMap bc).Nodup->
 ∃xs σ',K xs/\ba cx σ' vals w'/\cm cx σ vals w' σ' vals w'/\(∀i,i∉cs.flatMap bc->σ'[i]?=σ[i]?)/\cE (Ok cx σ' vals w') w' xs vs∧∀x∈xs,x.one=true:=by
 intro cs
 induction cs with
 |nil=>
  intro σ vs K hr _ hv hk _;simp only[d_]at hv;subst hv;exact⟨[],σ,hk,hr,cm.refl,λ_ _=>rfl,oZ,ae⟩
 |cons c cs ih=>
  intro σ vs K hr h1 hv hk hn;simp only[d_]at hv;obtain⟨v,r,rfl,hv1,xX⟩:=hv;rw[zao,zb2]at hn;obtain⟨n1,n2,n3⟩:=hn;obtain⟨x,σ1,k1,k2,k3,k4,k5,k6⟩:=y9 hr (h1 c ae) hv1 (show fE σ c λx=>bJ σ cs λl=>K (x::l)from hk);have k1':bJ σ1 cs λl=>K (x::l):=BE cs (λd hd=>h1 d og) (λi hi=>k4 i λhc=>n3 i hc i hi rfl) k1
  obtain⟨xs,σ2,g1,g2,g3,g4,g5,g6⟩:=ih σ1 r _ k2 (λd hd=>h1 d og) (k3.T4 _ _ xX) k1' n2;refine⟨x::xs,σ2,g1,g2,k3.trans g3,λi hi=>?_,by simp only[cE];exact⟨v,r,rfl,g3.rd k5,g5⟩,λy hy=>?_⟩
  ·grind
  ·rcases zay.1 hy with rfl|hy
   ·exact k6
   ·exact g6 y hy
def wz{σ σ':aw}{a:AV}{r:RV}(h:∀i∈bc a,σ'[i]?=σ[i]?)(hk:RJ σ a r):RJ σ' a r:=by
 cases a with
 |pv x=>exact hk
 |own id=>obtain⟨b,h1,h2⟩:=az _ _ _ hk;exact zS
 |sub id sz lo n=>obtain⟨b,h1,h2⟩:=az _ _ _ hk;exact zS
 |ref id idx off=>
  cases r with
  |pv y=>
   cases idx with
   |succ _=>assumption
   |zero=>cases off with
    |succ _=>assumption
    |zero=>obtain⟨b,h1,h2⟩:=az _ _ _ (show dm σ id _ from hk);exact zS
  |_=>assumption
 |_=>assumption
def FW{σ σ':aw}:∀(cs:List AV) (rs:List RV),(∀i∈cs.flatMap bc,σ'[i]?=σ[i]?)->Jj σ cs rs->Jj σ' cs rs:=by
 intro cs
 induction cs with
 |nil=>intro rs _ h;exact h
 |cons c cs ih=>
  intro rs hs h;cases rs with
  |nil=>assumption
  |cons r rs=>
   obtain⟨g1,g2⟩:=(show RJ σ c r/\Jj σ cs rs from h)
   exact⟨wz (λi hi=>hs i (zbZ _ hi)) g1,ih rs (λi hi=>hs i (zbY _ hi)) g2⟩
def RS{σ σ':aw}{a:AV}{r:RV}{v:Value}{ok:Nat->Prop}{w:World}(hv:RA ok σ vals w a v)(h:∀i∈mJ a,σ'[i]?=σ[i]?)(hk:Jc σ a r):Jc σ' a r:=by
 cases a with
 |agg cs=>
  cases r with
  |pv y=>exact BE cs hv.1 h (show bJ σ cs _ from hk)
  |agg rs=>exact FW cs rs h hk
  |_=>assumption
 |bad=>assumption
 |pv x=>assumption
 |own id=>exact wz (a:=.own id) (r:=r) h hk
 |ref id i o=>exact wz (a:=.ref id i o) (r:=r) h hk
 |sub id s l n=>exact wz (a:=.sub id s l n) (r:=r) h hk
 |tup vs=>assumption
 |clo f cs=>assumption
def Jz(hr:ba cx σ vals w'){a:AV}{r:RV}{v:Value}(hv:RA (Ok cx σ vals w') σ vals w' a v)(hk:RJ σ a r):
 ∃σ',ba cx σ' vals w'/\cm cx σ vals w' σ' vals w'/\(∀i,i∉bc a->σ'[i]?=σ[i]?)/\Gj cx σ' vals w' a r v:=by
 cases a with
 |pv x=>
  refine⟨σ,hr,cm.refl,λ_ _=>rfl,?_⟩;simp only[RA]at hv;have nil:∀s s' ak,x=.nil s'->(s=s'/\ak=([]:List PV))/\0<s->v=.slice none 0 0/\ak=[]/\0<s:=by
   intro s s' ak hx h;subst hx;simp only[Rd]at hv
   grind
  cases r with
  |pv y=>
   show Rd (Ok cx σ vals w') w' y v/\_;cases x with
   |nil s=>
    simp only[Rd]at hv;rcases(show y=.nil s\/y=.sl s []from hk)with rfl|rfl
    ·simp only[Rd];exact⟨hv,λ_=>rfl⟩
    ·simp only[Rd];exact⟨⟨none,0,aa,ae,af,.inl trivial⟩,λ_=>rfl⟩
   |_=>cases (show y=_ from hk);exact⟨hv,λh=>h⟩
  |fresh e sz ak=>
   cases x with
   |nil s=>exact .inl (nil sz s ak rfl hk)
   |_=>trivial
  |row e sz ak=>
   cases x with
   |nil s=>exact .inl (nil sz s ak rfl hk)
   |_=>trivial
  |_=>assumption
 |own id=>
  have AF:=hv;simp only[RA]at AF;obtain⟨b,h1,h2⟩:=az _ _ _ hk;cases r with
  |pv y=>
   obtain⟨x,σ',k1,k2,k3,k4,k5,k6⟩:=y9 (K:=λx=>x=y) hr rfl hv (cr _ _ b _ h1 (by
    grind))
   subst k1;exact⟨σ',k2,k3,k4,k5,λ_=>k6⟩
  |fresh e sz ak=>
   refine⟨σ,hr,cm.refl,λ_ _=>rfl,.inr ⟨id,DP,?_,AF⟩⟩
   grind
  |row e sz ak=>
   cases b with
   |row e' CG ap els'=>
    obtain⟨rfl,rfl,rfl⟩:=(show e=e'/\sz=CG/\ak=els' from h2)
    exact⟨σ,hr,cm.refl,λ_ _=>rfl,.inr ⟨id,ap,DP,h1,AF⟩⟩
   |_=>exact h2.elim
  |_=>grind
 |sub id sz lo n=>
  cases r with
  |pv y=>
   obtain⟨b,h1,h2⟩:=az _ _ _ hk;have h3:fE σ (.sub id sz lo n) (λx=>x=y):=by
    refine cr _ _ b _ h1 ?_
    grind
   obtain⟨x,σ',k1,k2,k3,k4,k5,k6⟩:=y9 hr rfl hv h3;subst k1;exact⟨σ',k2,k3,k4,k5,λ_=>k6⟩
  |_=>
   obtain⟨b,h1,h2⟩:=az _ _ _ hk;have:∀b:cu,KK sz lo n b (λ_=>False)->False:=by
    intro b h;cases b with
    |row e s ap ak=>
     have h:(match Nat.beq s sz with|true=>lo+n<=ak.length/\False|false=>False):=h
     grind
    |fz x=>cases x with
     |sl s ak=>
      have h:(match Nat.beq s sz with|true=>lo+n<=ak.length/\False|false=>False):=h
      grind
     |_=>exact h
    |_=>exact h
   grind
 |ref id idx off=>
  cases r with
  |pv y=>
   cases idx with
   |succ _=>trivial
   |zero=>cases off with
    |succ _=>trivial
    |zero=>
     obtain⟨b,hb,hk⟩:=az _ _ _ (show dm σ id _ from hk);simp only[RA]at hv;obtain⟨aS,_,_,sM⟩:=hv;cases b with
     |box e cs=>
      rcases oY cs (λt=>jw t λx=>y=.cptr x) False hk with⟨tcs,rfl,kV⟩|kV
      ·obtain⟨u,hu,nQ⟩:=hr.val hb;obtain⟨u',g,Pf,M9,hv⟩:=sM _ hb rfl;have hg:bI u'=some g:=by rw[M9];rfl
       rw[hu]at Pf;cases Pf;have fY:∀c∈tcs,c.one=true:=by
        obtain⟨_,_,_,_,_,h4,_⟩:=nQ;exact λc hc=>h4 (.pv c) aV
       obtain⟨x,Hm,hx⟩:=s_ (w:=w') kV fY;obtain⟨zY,hk1⟩:=hr.ED (x:=.cptr x) hb rfl (λlT v' _ asA ep Hj=>by
        obtain⟨b',aaM,e1,_,e3,_,e5⟩:=asA;subst e1;rw[eY]at e5;exact hx lT aaM b' _ _ e3 (cE.mono ep (λ_ _ _=>rfl) _ _ e5) (Hj b' rfl)) (λ_=>rfl)
       refine⟨_,zY,hk1,λi hi=>?_,?_,λ_=>by rw[Hm];rfl⟩
       ·rw[cY aS,if_neg (λe=>hi (by simp[bc,e]))]
       ·show Rd _ w' y v;rw[Hm];have:=zY.iU id _ _ (by rw[zcc aS]) hu;have hvu:v=u:=by
         grind
        rw[hvu];exact this
      grind
     |_=>grind
  |_=>trivial
 |_=>trivial
def Gj.keep{σ':aw}{a:AV}{r:RV}{v:Value}(h:Gj cx σ vals w' a r v)(hk:cm cx σ vals w' σ' vals w')(hs:∀i∈bc a,σ'[i]?=σ[i]?):Gj cx σ' vals w' a r v:=by
 cases r with
 |pv x=>exact⟨hk.rd h.1,h.2⟩
 |fresh e sz ak=>
  rcases(show _\/_ from h)with h|⟨id,h1,h2,h3⟩
  ·exact .inl h
  ·exact .inr ⟨id,h1,(hs id h1).trans h2,h3⟩
 |row e sz ak=>
  rcases(show _\/_ from h)with h|⟨id,ap,h1,h2,h3⟩
  ·exact .inl h
  ·exact .inr ⟨id,ap,h1,(hs id h1).trans h2,h3⟩
 |_=>assumption
def yE.keep{σ':aw}:∀{aHk:List AV} {rs:List RV} {vs:List Value},yE cx σ vals w' aHk rs vs->cm cx σ vals w' σ' vals w'->(∀i∈aHk.flatMap bc,σ'[i]?=σ[i]?)->yE cx σ' vals w' aHk rs vs:=by
 intro aHk
 induction aHk with
 |nil=>intro rs vs h _ _;exact h
 |cons a aHk ih=>
  rintro rs vs ⟨r,O6,v,Hq,rfl,rfl,h1,h2⟩ hk hs;exact⟨r,_,v,_,rfl,rfl,h1.keep hk (λi hi=>hs i (zbZ _ hi)),ih h2 hk (λi hi=>hs i (zbY _ hi))⟩
def Qd:∀(aHk:List AV) (rs:List RV) (vs:List Value) (σ:aw),ba cx σ vals w'->d_ (Ok cx σ vals w') σ vals w' aHk vs->Jj σ aHk rs->(aHk.flatMap bc).Nodup->
 ∃σ',ba cx σ' vals w'/\cm cx σ vals w' σ' vals w'/\(∀i,i∉aHk.flatMap bc->σ'[i]?=σ[i]?)/\yE cx σ' vals w' aHk rs vs:=by
 intro aHk
 induction aHk with
 |nil=>
  intro rs vs σ hr hv hk _;simp only[d_]at hv;cases rs with
  |nil=>exact⟨σ,hr,cm.refl,λ_ _=>rfl,rfl,hv⟩
  |cons r rs=>exact fG
 |cons a aHk ih=>
  intro rs vs σ hr hv hk hn;cases rs with
  |nil=>exact fG
  |cons r rs=>
   obtain⟨h1,h2⟩:=(show RJ σ a r/\Jj σ aHk rs from hk)
   simp only[d_]at hv;obtain⟨v,t,rfl,h3,h4⟩:=hv;rw[zao,zb2]at hn;obtain⟨n1,n2,n3⟩:=hn;obtain⟨σ1,k1,k2,k3,k4⟩:=Jz hr h3 h1;have EM:Jj σ1 aHk rs:=FW aHk rs (λi hi=>k3 i λhc=>n3 i hc i hi rfl) h2;obtain⟨σ2,g1,g2,g3,g4⟩:=ih rs t σ1 k1 (k2.T4 _ _ h4) EM n2;refine⟨σ2,g1,k2.trans g2,λi hi=>?_,r,rs,v,t,rfl,rfl,k4.keep g2 (λi hi=>g3 i λhc=>n3 i hi i hc rfl),g4⟩;rw[zao,zax]at hi;rw[g3 i (λh=>hi (.inr h)),k3 i (λh=>hi (.inl h))]
def WL(hr:ba cx σ vals w'){a:AV}{r:RV}{v:Value}(hv:RA (Ok cx σ vals w') σ vals w' a v)(hk:Jc σ a r)(hn:(mJ a).Nodup):
 ∃σ',ba cx σ' vals w'/\cm cx σ vals w' σ' vals w'/\(∀i,i∉mJ a->σ'[i]?=σ[i]?)/\Item cx σ' vals w' a r v:=by
 have main:bc a=mJ a->RJ σ a r→∃σ',ba cx σ' vals w'/\cm cx σ vals w' σ' vals w'/\(∀i,i∉mJ a->σ'[i]?=σ[i]?)/\Item cx σ' vals w' a r v:=by
  intro he hk;obtain⟨σ',h1,h2,h3,h4⟩:=Jz hr hv hk;refine⟨_,h1,h2,he▸h3,?_⟩;cases r with
  |pv x=>exact h4.1
  |fresh e sz ak=>trivial
  |row e sz ak=>trivial
  |_=>trivial
 cases a with
 |agg cs=>
  obtain⟨h0,vs,rfl,hl⟩:=hv;cases r with
  |pv y=>
   obtain⟨xs,σ',k1,k2,k3,k4,k5,k6⟩:=NB cs σ _ _ hr h0 hl (show bJ σ cs _ from hk) hn;refine⟨_,k2,k3,k4,?_⟩;show Rd _ w' y _;rw[k1];simp only[Rd]
   grind
  |agg rs=>
   obtain⟨σ',k1,k2,k3,k4⟩:=Qd cs rs _ σ hr hl hk hn;exact⟨_,k1,k2,k3,cs,vs,rfl,rfl,h0,k4⟩
  |_=>trivial
 |bad=>trivial
 |pv x=>exact main rfl hk
 |own id=>exact main rfl hk
 |ref id i o=>exact main rfl hk
 |sub id s l n=>exact main rfl hk
 |tup vs=>trivial
 |clo f cs=>trivial
def Item.keep{σ':aw}{a:AV}{r:RV}{v:Value}(h:Item cx σ vals w' a r v)(hk:cm cx σ vals w' σ' vals w')(hs:∀i∈mJ a,σ'[i]?=σ[i]?):Item cx σ' vals w' a r v:=by
 cases r with
 |pv x=>exact hk.rd h
 |fresh e sz ak=>exact⟨h.1,h.2.keep hk (by rw[h.1];exact hs)⟩
 |row e sz ak=>exact⟨h.1,h.2.keep hk (by rw[h.1];exact hs)⟩
 |agg rs=>
  obtain⟨cs,vs,rfl,rfl,h0,h1⟩:=h;exact⟨cs,vs,rfl,rfl,h0,h1.keep hk hs⟩
 |_=>assumption
def Jy:∀(aHk:List AV) (rs:List RV) (vs:List Value) (σ:aw),ba cx σ vals w'->d_ (Ok cx σ vals w') σ vals w' aHk vs->Gm σ aHk rs->(aHk.flatMap mJ).Nodup->
 ∃σ',ba cx σ' vals w'/\cm cx σ vals w' σ' vals w'/\(∀i,i∉aHk.flatMap mJ->σ'[i]?=σ[i]?)/\UY cx σ' vals w' aHk rs vs:=by
 intro aHk
 induction aHk with
 |nil=>
  intro rs vs σ hr hv hk _;simp only[d_]at hv;cases rs with
  |nil=>exact⟨σ,hr,cm.refl,λ_ _=>rfl,rfl,hv⟩
  |cons r rs=>exact fG
 |cons a aHk ih=>
  intro rs vs σ hr hv hk hn;cases rs with
  |nil=>exact fG
  |cons r rs=>
   obtain⟨h1,h2⟩:=(show Jc σ a r/\Gm σ aHk rs from hk)
   simp only[d_]at hv;obtain⟨v,t,rfl,h3,h4⟩:=hv;rw[zao,zb2]at hn;obtain⟨n1,n2,n3⟩:=hn;obtain⟨σ1,k1,k2,k3,k4⟩:=WL hr h3 h1 n1;have EM:Gm σ1 aHk rs:=by
    have:∀(aHk:List AV) (rs:List RV) (vs:List Value),d_ (Ok cx σ vals w') σ vals w' aHk vs->(∀i∈aHk.flatMap mJ,σ1[i]?=σ[i]?)->Gm σ aHk rs->Gm σ1 aHk rs:=by
     intro aHk
     induction aHk with
     |nil=>intro rs vs _ _ h;exact h
     |cons a aHk ih=>
      intro rs vs hv hs h;cases rs with
      |nil=>exact mw
      |cons r rs=>
       obtain⟨g1,g2⟩:=(show Jc σ a r/\Gm σ aHk rs from h)
       simp only[d_]at hv;obtain⟨v,t,rfl,h3,h4⟩:=hv;rw[zao]at hs;exact⟨RS h3 (λi hi=>hs i (zbZ _ hi)) g1,ih rs t h4 (λi hi=>hs i (zbY _ hi)) g2⟩
    exact this aHk rs t h4 (λi hi=>k3 i λhc=>n3 i hc i hi rfl) h2
   obtain⟨σ2,g1,g2,g3,g4⟩:=ih rs t σ1 k1 (k2.T4 _ _ h4) EM n2;refine⟨σ2,g1,k2.trans g2,λi hi=>?_,r,rs,v,t,rfl,rfl,k4.keep g2 (λi hi=>g3 i λhc=>n3 i hi i hc rfl),g4⟩;rw[zao,zax]at hi;rw[g3 i (λh=>hi (.inr h)),k3 i (λh=>hi (.inl h))]
def GK(σ:aw)(vals:List Value)(ids:List Nat)(u:Value):Prop:=
 u=.slice none 0 0∨∃id s,id∈ids/\σ[id]?=some s/\s.live=true/\vals[id]?=some u
def u9.imp{M M':Nat->Prop}{w:World}{e:TypeId}{sz:Nat}{ap:Bool}{v:Value}{n:Nat}{xs:List Value}(h:u9 w M e sz ap v n xs)(hm:∀b,M b->M' b):u9 w M' e sz ap v n xs:=by
 refine⟨h.1,?_⟩;rcases h.2 with h2|⟨g,cap,cur,fr,h1,h2,h3⟩
 ·grind
 ·exact .inr ⟨g,_,_,fr,h1,hm g h2,h3⟩
def M5(ho:∀b,cx.own b->cx.w0.heap.size<=b){lone:Bool}{ids:List Nat}{us:List Value}(Pe:∀u∈us,GK σ vals ids u)(hl:lone=false):∀b,Ok cx σ vals w' b->XI cx.OG lone cx.w0 w' us b:=by
 rintro b ⟨h1,h2,h3⟩;refine⟨h1.imp (λh=>⟨hl,h⟩) (ho b),h2,λu hu hb=>h3 ?_⟩;rcases Pe u hu with rfl|⟨id,s,_,g1,g2,g3⟩
 ·cases hb
 ·exact⟨id,s,u,g1,g3,tA g2 hb⟩
def Ai(ho:∀b,cx.own b->cx.w0.heap.size<=b)(hr:ba cx σ vals w'){av:AV}{r:RV}{v:Value}(h:Gj cx σ vals w' av r v){lone:Bool}(hl:lone=true->r.MG){ids:List Nat}{us:List Value}(Pe:∀u∈us,GK σ vals ids u):
 RR (XI cx.OG lone cx.w0 w' us) (λb=>cx.w0.heap.size<=b) w' r v (XC r v):=by
 have plain:∀x,(lone=true->x.flat)->Rd (Ok cx σ vals w') w' x v->Rd (XI cx.OG lone cx.w0 w' us) w' x v:=by
  intro x hx h;cases Gu:lone with
  |false=>exact Rd.mono (M5 ho Pe rfl) (λ_ _ _=>rfl) x v h
  |true=>exact Uw (hx Gu) h
 have aAx:∀(ak:List PV) (cells:List Value),(lone=true→∀x∈ak,x.flat)->cE (Ok cx σ vals w') w' (ak.flatMap PV.cells) cells->cE (XI cx.OG lone cx.w0 w' us) w' (ak.flatMap PV.cells) cells:=by
  intro ak cells hx h;cases Gu:lone with
  |false=>exact cE.mono (M5 ho Pe rfl) (λ_ _ _=>rfl) _ _ h
  |true=>
   refine H9 _ _ (λc hc=>?_) h;obtain⟨x,Xh,hc⟩:=List.mem_flatMap.1 hc;exact Tt (hx Gu x Xh) c hc
 cases r with
 |pv y=>exact⟨plain _ (λe=>hl e) h.1,rfl⟩
 |fresh e sz ak=>
  rcases(show _\/_ from h)with⟨rfl,rfl,h0⟩|⟨id,_,h1,h2⟩
  ·exact⟨rfl,h0,[],vA _ _ _ _ _,ae,ae,by rfl⟩
  ·obtain⟨h0,cells,g1,g2,g3,g4⟩:=hr.iU id _ v h1 h2;exact⟨rfl,h0,_,g1.imp ho,g2,g3,aAx ak cells (λe=>hl e) g4⟩
 |row e sz ak=>
  rcases(show _\/_ from h)with⟨rfl,rfl,h0⟩|⟨id,ap,_,h1,h2⟩
  ·exact⟨rfl,h0,[],vA _ _ _ _ _,ae,ae,by rfl⟩
  ·obtain⟨h0,cells,g1,g2,g3,g4⟩:=hr.iU id _ v h1 h2;refine⟨rfl,h0,_,?_,g2,g3,aAx ak cells (λe=>hl e) g4⟩;have g1:=g1.imp ho;refine⟨g1.1,g1.2.imp_right ?_⟩;rintro⟨g,cap,cur,fr,f1,f2,f3,f4,f5,f6,f7,f8⟩;exact⟨g,_,_,fr,f1,f2,f3,f4,f5,f6,f7,f8.imp_right λh=>⟨rfl,h.2⟩⟩
 |_=>trivial
def PT(ho:∀b,cx.own b->cx.w0.heap.size<=b)(hr:ba cx σ vals w'){av:AV}{r:RV}{v:Value}(h:Item cx σ vals w' av r v){lone:Bool}(hl:lone=true->r.MG){ids:List Nat}{us:List Value}(Pe:∀u∈us,GK σ vals ids u):
 RR (XI cx.OG lone cx.w0 w' us) (λb=>cx.w0.heap.size<=b) w' r v (FT r v):=by
 cases r with
 |pv y=>exact Ai (av:=.bad) ho hr (r:=.pv y) ⟨h,λe=>fJ⟩ hl Pe
 |fresh e sz ak=>exact Ai ho hr h.2 hl Pe
 |row e sz ak=>exact Ai ho hr h.2 hl Pe
 |agg rs=>
  obtain⟨cs,vs,rfl,rfl,h0,h1⟩:=h;have Gu:lone=false:=by
   cases lone with
   |false=>rfl
   |true=>trivial
  have main:∀(cs:List AV) (rs:List RV) (vs:List Value),(∀c∈cs,c.one=true)->yE cx σ vals w' cs rs vs->XG (XI cx.OG lone cx.w0 w' us) (λb=>cx.w0.heap.size<=b) w' rs vs (usC rs vs)/\
   ∀r∈rs,match r with| .pv x=>x.one=true| .fresh _ _ _=>True| .row _ _ _=>True|_=>False:=by
   intro cs
   induction cs with
   |nil=>rintro rs vs _ ⟨rfl,rfl⟩;exact⟨aE,ae⟩
   |cons c cs ih=>
    rintro rs vs h0 ⟨r,O6,v,Hq,rfl,rfl,h1,h2⟩;obtain⟨g1,g2⟩:=ih O6 Hq (λd hd=>h0 d og) h2;refine⟨?_,λq hq=>?_⟩
    ·exact⟨v,_,_,_,rfl,rfl,Ai ho hr h1 (λe=>aV) Pe,g1⟩
    ·rcases zay.1 hq with rfl|hq
     ·cases q with
      |pv x=>exact h1.2 (h0 c ae)
      |fresh _ _ _=>trivial
      |row _ _ _=>trivial
      |_=>assumption
     grind
  obtain⟨g1,g2⟩:=main cs rs _ h0 h1;exact⟨vs,rfl,g2,g1⟩
 |_=>exact(show False from h.2).elim
def ZB(ho:∀b,cx.own b->cx.w0.heap.size<=b)(hr:ba cx σ vals w'){lone:Bool}{ids:List Nat}{us:List Value}(Pe:∀u∈us,GK σ vals ids u):
 ∀(aHk:List AV) (rs:List RV) (vs:List Value),UY cx σ vals w' aHk rs vs->(lone=true->UN rs)->XG (XI cx.OG lone cx.w0 w' us) (λb=>cx.w0.heap.size<=b) w' rs vs (usL rs vs):=by
 intro aHk
 induction aHk with
 |nil=>
  rintro rs vs ⟨rfl,rfl⟩ _;trivial
 |cons av aHk ih=>
  rintro rs vs ⟨r,O6,v,Hq,rfl,rfl,h1,h2⟩ hl;exact⟨v,_,_,_,rfl,rfl,PT ho hr h1 (λe=>(show r.MG/\UN O6 from hl e).1) Pe,ih O6 Hq h2 λe=>(show r.MG/\UN O6 from hl e).2⟩
def IL{av:AV}{r:RV}{v:Value}(h:Gj cx σ vals w' av r v):∀u∈XC r v,GK σ vals (bc av) u:=by
 intro u hu;cases r with
 |fresh e sz ak=>
  simp[XC]at hu;subst hu;rcases(show _\/_ from h)with⟨h,_⟩|⟨id,h1,h2,h3⟩
  ·exact .inl h
  ·exact .inr ⟨id,_,h1,h2,rfl,h3⟩
 |row e sz ak=>
  simp[XC]at hu;subst hu;rcases(show _\/_ from h)with⟨h,_⟩|⟨id,ap,h1,h2,h3⟩
  ·exact .inl h
  ·exact .inr ⟨id,_,h1,h2,rfl,h3⟩
 |_=>trivial
def RP(hr:ba cx σ vals w'){l m:List Value}{i j:List Nat}(hl:∀u∈l,GK σ vals i u)(hm:∀u∈m,GK σ vals j u)(iT:∀a∈i,∀b∈j,a≠b)(h1:l.Pairwise λu t=>∀b,bI u=some b->bI t≠some b)(h2:m.Pairwise λu t=>∀b,bI u=some b->bI t≠some b):
 (∀u∈l++m,GK σ vals (i++j) u)/\(l++m).Pairwise λu t=>∀b,bI u=some b->bI t≠some b:=by
 refine⟨λu hu=>?_,?_⟩
 ·rcases zax.1 hu with hu|hu
  ·rcases hl u hu with h|⟨id,s,k1,k2⟩
   ·exact .inl h
   ·exact .inr ⟨id,s,zbZ _ k1,k2⟩
  ·rcases hm u hu with h|⟨id,s,k1,k2⟩
   ·exact .inl h
   ·exact .inr ⟨id,s,zbY _ k1,k2⟩
 ·rw[List.pairwise_append];refine⟨h1,h2,λu hu x hx b hb St=>?_⟩;rcases hl u hu with rfl|⟨id,s,k1,k2,k3,k4⟩
  ·cases hb
  ·rcases hm x hx with rfl|⟨id2,s2,j1,j2,j3,j4⟩
   ·cases St
   ·exact hr.oP id id2 _ _ _ _ b (iT id k1 id2 j1) k2 j2 k4 j4 (tA k3 hb) (tA j3 St)
def Zn(hr:ba cx σ vals w'){av:AV}{r:RV}{v:Value}(h:Item cx σ vals w' av r v)(hn:(mJ av).Nodup):(∀u∈FT r v,GK σ vals (mJ av) u)/\(FT r v).Pairwise λu t=>∀b,bI u=some b->bI t≠some b:=by
 cases r with
 |pv x=>simp[FT,XC]
 |fresh e sz ak=>exact⟨by rw[<-h.1];exact IL h.2,by simp[FT,XC]⟩
 |row e sz ak=>exact⟨by rw[<-h.1];exact IL h.2,by simp[FT,XC]⟩
 |agg rs=>
  obtain⟨cs,vs,rfl,rfl,_,h1⟩:=h;have main:∀(cs:List AV) (rs:List RV) (vs:List Value),yE cx σ vals w' cs rs vs->(cs.flatMap bc).Nodup->(∀u∈usC rs vs,GK σ vals (cs.flatMap bc) u)/\(usC rs vs).Pairwise λu t=>∀b,bI u=some b->bI t≠some b:=by
   intro cs
   induction cs with
   |nil=>rintro rs vs ⟨rfl,rfl⟩ _;simp[usC]
   |cons c cs ih=>
    rintro rs vs ⟨r,O6,v,Hq,rfl,rfl,h1,h2⟩ hn;rw[zao,zb2]at hn;obtain⟨g1,g2⟩:=ih O6 Hq h2 hn.2.1;exact RP hr (IL h1) g1 hn.2.2 (by cases r<;>simp[XC]) g2
  exact main cs rs _ h1 hn
 |_=>exact(show False from h.2).elim
def Rv(hr:ba cx σ vals w'):∀(aHk:List AV) (rs:List RV) (vs:List Value),UY cx σ vals w' aHk rs vs->(aHk.flatMap mJ).Nodup->
 (∀u∈usL rs vs,GK σ vals (aHk.flatMap mJ) u)/\(usL rs vs).Pairwise λu t=>∀b,bI u=some b->bI t≠some b:=by
 intro aHk
 induction aHk with
 |nil=>
  rintro rs vs ⟨rfl,rfl⟩ _;simp[usL]
 |cons av aHk ih=>
  rintro rs vs ⟨r,O6,v,Hq,rfl,rfl,h1,h2⟩ hn;rw[zao,zb2]at hn;obtain⟨n1,n2,n3⟩:=hn;obtain⟨g1,g2⟩:=ih O6 Hq h2 n2;obtain⟨f1,f2⟩:=Zn hr h1 n1;exact RP hr f1 g1 n3 f2 g2
def Ko(ho:∀b,cx.own b->cx.w0.heap.size<=b)(hr:ba cx σ vals w'){ids:List Nat}{u:Value}(h:GK σ vals ids u):∀b,bI u=some b->cx.w0.heap.size<=b:=by
 intro b hb;rcases h with rfl|⟨id,s,_,h1,h2,h3⟩
 ·cases hb
 ·exact ho b ((hr.iU id s u h1 h3).block (tA h2 hb)).1
def DG:List Value->Value
 |[v]=>v
 |vs=>.tuple vs.toArray
def Cr(tmps:Array Value):ResultVar->Sem Value
 | .tmp t=>pure (tmps.getD t undef)
 | .cell a t=>do loadVar t (<-asAddr (tmps.getD a undef))
def yH{fn:Func}{l:List ResultVar}(h:fn.results=l.toArray)(hl:l.length<=4)(tmps:Array Value)(P:Program)(w:World)(vs:List Value)(hlen:vs.length=l.length)
 (hv:∀(i:Nat) (r:ResultVar) (v:Value),l[i]?=some r->vs[i]?=some v->(Cr tmps r).run P w=.ok v w):
 (results fn tmps).run P w=.ok (DG vs) w:=by
 have e:results fn tmps=(do
  let vs<-l.toArray.mapM (Cr tmps)
  pure (if h:vs.size=1 then vs[0]else .tuple vs)):=by
  unfold results;congr 2
 rw[e]
 match l,vs,hl,hlen,hv with
 |[],[],_,_,hv=>simp[DG]
 |[a],[x],_,_,hv=>
  have h0:=hv 0 a x rfl rfl;simp[h0,DG]
 |[a,b],[x,y],_,_,hv=>
  have h0:=hv 0 a x rfl rfl;have h1:=hv 1 b y rfl rfl;simp[h0,h1,DG]
 |[a,b,c],[x,y,z],_,_,hv=>
  have h0:=hv 0 a x rfl rfl;have h1:=hv 1 b y rfl rfl;have h2:=hv 2 c z rfl rfl;simp[h0,h1,h2,DG]
 |[a,b,c,d],[x,y,z,u],_,_,hv=>
  have h0:=hv 0 a x rfl rfl;have h1:=hv 1 b y rfl rfl;have h2:=hv 2 c z rfl rfl;have h3:=hv 3 d u rfl rfl;simp[h0,h1,h2,h3,DG]
 |_::_::_::_::_::_,_,hl,_,_=>grind
def CB(hr:Rel cx env σ vals a w'):∀(l:List ResultVar) (rs:List (Nat×Option (Bool×Nat))) (K:List AV->Prop),l.map (Mj cx.P)=rs.map some->kn σ env rs K->
 ∃aHk vs,K aHk/\d_ (Ok cx σ vals w') σ vals w' aHk vs/\vs.length=l.length∧∀(i:Nat) (r:ResultVar) (v:Value),l[i]?=some r->vs[i]?=some v->(Cr a.tmps r).run cx.P w'=.ok v w':=by
 intro l
 induction l with
 |nil=>
  intro rs K hm h;cases rs with
  |nil=>exact⟨[],[],h,by rfl,rfl,λi r v hr=>ae⟩
  |cons p rs=>grind
 |cons r l ih=>
  intro rs K hm h;cases rs with
  |nil=>grind
  |cons p rs=>
   simp only[zav,List.cons.injEq]at hm;obtain⟨hp,hm⟩:=hm;have h:=qZ _ _ _ (show look p.1 (λv=>match p.2 with
    |none=>kn σ env rs λl=>K (v::l)
    |some q=>Bl σ q.1 q.2 v λv=>kn σ env rs λl=>K (v::l)) env from h)
   have fin:∀(av:AV) (v:Value),RA (Ok cx σ vals w') σ vals w' av v->(Cr a.tmps r).run cx.P w'=.ok v w'->(kn σ env rs λl=>K (av::l))->
    ∃aHk vs,K aHk/\d_ (Ok cx σ vals w') σ vals w' aHk vs/\vs.length=(r::l).length∧∀(i:Nat) (r':ResultVar) (v:Value),(r::l)[i]?=some r'->vs[i]?=some v->(Cr a.tmps r').run cx.P w'=.ok v w':=by
    intro av v hav ec hk;obtain⟨aHk,vs,h1,h2,h3,h4⟩:=ih rs _ hm hk;refine⟨av::aHk,v::vs,h1,by simp only[d_];grind,by simp[h3],λi r' v' hi hv=>?_⟩
    grind
   cases r with
   |tmp t=>
    cases hp;exact fin _ _ (hr.env t) (by rfl) h
   |cell s t=>
    obtain⟨sh,LL,hp⟩:=aK (show opt (G9 cx.P t) (λq=>match q.1 with
     |true=>some (s,some (true,q.2))
     |false=>some (s,some (false,1)))=some p from hp)
    have asC:=o4 LL;obtain⟨ag,n⟩:=sh;have main:∀m,p=(s,some (ag,m))->m=(if ag then n else 1)→∃aHk vs,K aHk/\d_ (Ok cx σ vals w') σ vals w' aHk vs/\vs.length=(ResultVar.cell s t::l).length∧∀(i:Nat) (r':ResultVar) (v:Value),(ResultVar.cell s t::l)[i]?=some r'->vs[i]?=some v->(Cr a.tmps r').run cx.P w'=.ok v w':=by
     intro m hpe hme;subst hpe;obtain⟨b,off,us,av,hv,hl,O3,Pd,hk⟩:=MO hr.s ag m (hr.env s) h;refine fin av _ Pd ?_ hk;have:=run_load asC b off us aV O3;simp only[Cr,hv,asAddr,Sem.run_bind,Sem.run_pure,Result.andThen_ok,this]
    grind
def MM(dx:∀b,cx.own b->cx.w0.heap.size<=b)(hr:Rel cx env σ vals a w'){aHk:List AV}{vs:List Value}(o_:d_ (Ok cx σ vals w') σ vals w' aHk vs){lone:Bool}{K:RV->Prop}(h:Xe lone σ aHk K):
 ∃r us,K r/\RR (XI cx.OG lone cx.w0 w' us) (λb=>cx.w0.heap.size<=b) w' r (DG vs) us/\
  (∀u∈us,∀b,bI u=some b->cx.w0.heap.size<=b)∧∀(i j:Nat) (u t:Value) (b:Nat),i≠j->us[i]?=some u->us[j]?=some t->bI u=some b->bI t≠some b:=by
 have pw:∀us:List Value,(us.Pairwise λu t=>∀b,bI u=some b->bI t≠some b)→∀(i j:Nat) (u t:Value) (b:Nat),i≠j->us[i]?=some u->us[j]?=some t->bI u=some b->bI t≠some b:=by
  intro us hp i j u t b iT hu ht hb hbt;rw[List.pairwise_iff_getElem]at hp;obtain⟨hi,rfl⟩:=zaa.1 hu;obtain⟨hj,rfl⟩:=zaa.1 ht;rcases Nat.lt_or_gt_of_ne iT with aS|aS
  ·exact hp i j hi hj aS b hb hbt
  ·exact hp j i hj hi aS b hbt hb
 unfold Xe at h;cases ho:HC aHk []with
 |false=>simp only[ho]at h
 |true=>
  simp only[ho]at h;cases aHk with
  |nil=>
   simp only[d_]at o_;subst o_;exact⟨_,[],h,by simp[RR,XG,DG],ae,ae⟩
  |cons av aHk=>
   simp only[d_]at o_;obtain⟨v,t,rfl,h1,h2⟩:=o_;cases aHk with
   |nil=>
    simp only[d_]at h2;subst h2;obtain⟨r,h3,h4,h5⟩:=h;have h3':Gm σ [av] [r]:=⟨h3,trivial⟩
    have AF:d_ (Ok cx σ vals w') σ vals w' [av] [v]:=by simp only[d_];exact⟨v,[],rfl,h1,rfl⟩
    obtain⟨σ',k1,k2,k3,k4⟩:=Jy _ _ _ σ hr.s AF h3' (qQ _ _ ho).1;obtain⟨g1,g2⟩:=Rv k1 _ _ _ k4 (qQ _ _ ho).1;have e:usL [r] [v]=FT r v:=by simp[usL]
    rw[e]at g1 g2;obtain⟨_,_,_,_,e1,e2,k5,_⟩:=k4;cases e1;cases e2;exact⟨r,FT r v,h5,PT dx k1 k5 (λel=>by subst el;exact h4) g1,λu hu=>Ko dx k1 (g1 u hu),pw _ g2⟩
   |cons bv aHk=>
    obtain⟨O6,h3,h4,h5⟩:=h;have AF:d_ (Ok cx σ vals w') σ vals w' (av::bv::aHk) (v::t):=by simp only[d_]at h2 ⊢;exact⟨v,t,rfl,h1,h2⟩
    obtain⟨σ',k1,k2,k3,k4⟩:=Jy _ _ _ σ hr.s AF h3 (qQ _ _ ho).1;obtain⟨g1,g2⟩:=Rv k1 _ _ _ k4 (qQ _ _ ho).1;simp only[d_]at h2;obtain⟨v2,t2,rfl,_,_⟩:=h2;refine⟨.tup O6,usL O6 (v::v2::t2),h5,?_,λu hu=>Ko dx k1 (g1 u hu),pw _ g2⟩;simp only[RR];exact⟨_,rfl,ZB dx k1 g1 _ _ _ k4 (λel=>by subst el;exact h4)⟩
def ax(l:List (Nat×Spec)):Ctx:=λf=>
 List.rec (mkS false false λ_ _=>False) (λp _ ih=>Bool.rec ih p.2 (Nat.beq p.1 f)) l
def V0{P:Program}:∀(l:List (Nat×Spec)),(∀p∈l,bM P p.1 p.2)->Sound P (ax l):=by
 intro l
 induction l with
 |nil=>intro _ f;exact⟨(by intro h;cases h),(by intro h;cases h),(λ_ _ _ _ _ _ _ _ h=>(show False from h).elim),(λ_ _ _ _ _ _ _ _ h=>(show False from h).elim),λ_ _ _ _ _ _ _ _ h=>cI⟩
 |cons p l ih=>
  intro h f;show bM P f (Bool.rec (ax l f) p.2 (Nat.beq p.1 f));cases hb:Nat.beq p.1 f with
  |true=>
   simp_all
  |false=>exact ih (λq hq=>h q (by simp[hq])) f
def ah(R:List PV->PV->Prop):Spec:=mkS true true λps K=>∃x,R ps x/\K (.pv x)
def LO(S:Spec):Prop:=(S.fn=true->S.lone=true∧∀ps K,S.run ps K→∃x,K (.pv x)∧∀K':RV->Prop,K' (.pv x)->S.run ps K')/\(∀ps L,¬S.iter ps L)/\S.mu=false
def Mi(R:List PV->PV->Prop):LO (ah R):=⟨λ_=>⟨rfl,λ_ _ ⟨x,h1,h2⟩=>⟨x,h2,λ_ h=>⟨x,h1,h⟩⟩⟩,λ_ _ h=>h,rfl⟩
def af2(lone:Bool)(run:List PV->(RV->Prop)->Prop):LO (mkS lone false run):=⟨λe=>fJ,λ_ _ h=>h,rfl⟩
def B6{P:Program}{f:FuncId}{fn:Func}{c:Code}(hf:P.funcs[f]?=some fn)(EK:(fn.name== "runtime.NumGoroutine")=false)(hb:fn.body=some c):Enters P f:=by
 intro args w;simp[callFunc,hf,hb]at EK ⊢;omega
structure CF(P:Program)(w0:World)(ok own:Nat->Prop)(pS:List cu)(pV:List Value)(cx:Cx):Prop where
 hP:cx.P=P
 hw0:cx.w0=w0
 dx:cx.own=own
 hpS:cx.rY=pS
 hpV:cx.ET=pV
 ep:cx.OG=ok
 gh:∀x v,¬cx.gh x v
 lo:cx.lo=0
 keep:∀b,cx.keep b→∃o:Obj,cx.w1.heap[b]?=some o/\o.isCells=false
 defers:∀d∈cx.defers,∃D,d={ target:=.collected D,args:= #[] }/\cx.keep D/\cx.w1.heap[D]?=some (.deferred (some []))/\w0.heap.size<=D
 once:cx.defers.Pairwise (λa b=>a≠b)
def Nk(P:Program)(w0:World)(ok own:Nat->Prop)(pS:List cu)(pV:List Value)(HR:pV.length=pS.length):aat P (List.range pS.length) (CF P w0 ok own pS pV):=by
 refine⟨λcx h=>⟨by rw[h.hpS],by rw[h.hpS,h.hpV];exact HR⟩,λcx h=>h.gh,λcx h=>h.lo,λcx h=>h.keep,λcx w D hD hs h hk h0 h1 hK=>?_⟩;refine⟨h.hP,h.hw0,h.dx,h.hpS,h.hpV,h.ep,h.gh,h.lo,?_,?_,?_⟩
 ·rintro b (hb|rfl)
  ·obtain⟨o,ho,hc⟩:=h.keep b hb;exact⟨o,(hk b hb).trans ho,hc⟩
  ·exact⟨_,hK,rfl⟩
 ·intro d hd;rcases zay.1 hd with rfl|hd
  ·exact⟨D,rfl,.inr rfl,hK,by rw[<-h.hw0];exact h0⟩
  ·obtain⟨D',h2,h3,h4,h5⟩:=h.defers d hd;exact⟨D',h2,.inl h3,(hk D' h3).trans h4,h5⟩
 ·refine List.Pairwise.cons (λd hd e=>?_) h.once;obtain⟨D',h2,h3,_,_⟩:=h.defers d hd
  grind
def leaves{P:Program}{fn:Func}{m:Nat}{R:Ending->World->Prop}{env:Env}{σ:aw}{vals:List Value}{tmps:Array Value}(fin:∀w,Rel cx env σ vals ⟨tmps,[]⟩ w→∃v,(results fn tmps).run P w=.ok v w/\R (.returned v) w)(hk:∀b,¬cx.keep b)(hw1:cx.w1.heap.size<=cx.w0.heap.size):
 ∀(ds:List Deferred) (w:World),(∀d∈ds,∃D,d={ target:=.collected D,args:= #[] }/\w.heap[D]?=some (.deferred (some []))/\cx.w0.heap.size<=D)->ds.Pairwise (λa b=>a≠b)->Rel cx env σ vals ⟨tmps,[]⟩ w->LeavesInM Fence.wide m P fn tmps R ds .returning w:=by
 intro ds
 induction ds with
 |nil=>intro w _ _ hr;exact fin w hr
 |cons d ds ih=>
  intro w hd hp hr;obtain⟨D,rfl,hK,h0⟩:=hd d ae;rw[List.pairwise_cons]at hp;refine⟨ae,.inl ⟨D,_,rfl,run_takeDeferred hK,ih _ (λd' hd'=>?_) hp.2 (AD hr (grownBy_putObj' w D (.deferred none)) (λr e=>by cases e;exact⟨cx.dx _ h0,zat hw1 h0,_,hK,rfl⟩) (.inr λr e es n h=>aV))⟩⟩;obtain⟨D',rfl,hK',h0'⟩:=hd d' aV;refine⟨D',rfl,(World.putObj_heap_other (λe=>?_)).trans hK',h0'⟩
  grind
def RO{P:Program}{f:Nat}{fn:Func}{c:Code}{pc:PC}{Γ:Ctx}{ps:List Nat}{rs:List (Nat×Option (Bool×Nat))}{S:Spec}(hΓ:Sound P Γ)(hm:P.follows .mixedOrders=true)(hf:P.funcs[f]?=some fn)(EK:(fn.name== "runtime.NumGoroutine")=false)(hb:fn.body=some c)
 (hc:uH P fn.ntmps c=some (strip pc)) {l:List ResultVar} (xZ:fn.results=l.toArray) (Xy:l.map (Mj P)=rs.map some) (hl:l.length<=4) (hS:LO S) (Gw:Nat) (hn:Gw<=fn.ntmps) (dO:∀args K,S.run args K->args.length=Gw) (h:ay Γ ps pc rs S):bM P f S:=by
 refine⟨λe=>(hS.1 e).2,λe=>⟨(hS.1 e).1,hS.2.2⟩,?_,λ_ _ _ _ _ _ _ _ h=>absurd h (hS.2.1 _ _),λ_ _ _ _ _ _ _ _ h=>by rw[hS.2.2]at h;cases h⟩;intro w ok args vs K _ ep iY ec;refine⟨B6 hf EK hb,?_⟩;have hlen:vs.size=args.length:=by simpa using iY.length
 have hle:args.length<=fn.ntmps:=by rw[dO args K ec];exact hn
 obtain⟨env,L3,Se⟩:=Gr args 0 _ (h args K ec)
 let cx:Cx:={ P:=P,w0:=w,OG:=ok,hA:=ep }
 let a:Act:={ tmps:=vs++Array.replicate (fn.ntmps-vs.size) undef,defers:=[] }
 have asD:∀b,ok b->Ok cx [] [] w b:=λb hb=>⟨.inl hb,ep b hb,λ⟨i,s,v,hi,_⟩=>ry⟩
 have hr:Rel cx env [] [] a w:=by
  refine⟨⟨tB.refl _ _,ae,rfl,λi s v hi=>ry,λi j s t u v b _ hi=>ry,⟨zaj _,λb hb=>hb.elim,λ_ _ hb=>hb⟩,⟨λi v h=>by simp[cx]at h,by simp[cx],λi hi=>by simp[cx]at hi,λi hi=>by simp[cx]at hi⟩⟩,λp=>?_,rfl,λx v hg=>hg.elim,λp hp=>absurd hp (zb1 p)⟩;rw[Se p];simp only[zcb,if_true,zb5];cases hx:args[p]? with
  |none=>simp only[RA]
  |some x=>
   simp only[RA];have hp:p<args.length:=(zaa.1 hx).1;have zZ:a.tmps.getD p undef=vs[p]'aa:=by
    rw[getD_eq];show((vs++Array.replicate (fn.ntmps-vs.size) undef)[p]?).getD undef=_;rw[zb3 aa,zaE aa];rfl
   rw[zZ];exact Rd.mono asD (λ_ _ _=>rfl) x _ (((kW args _).1 iY).2 p x _ hx II)
 have hC:CF P w ok (λb=>w.heap.size<=b) [] [] cx:=⟨rfl,rfl,rfl,rfl,rfl,rfl,λ_ _ h=>h,rfl,λb h=>h.elim,λd hd=>(by cases hd),List.Pairwise.nil⟩
 have hwp:=Cy (ps:=ps) hΓ hm c pc hc (CF P w ok (λb=>w.heap.size<=b) [] []) Fence.wide 1 cx (ZV S.lone rs K) env [] [] a w (.inr ⟨rfl,zaj _,Nk P w ok _ [] [] rfl,λcx h=>h.hP⟩) (.inl λcx h=>h.lo) (.inl rfl) hC (λcx h=>h.hP) (MY _ _ _) (by simp[a];omega) hr L3;refine(callsIn_wide (n:=1)).1 (callsIn_of_wp_marks hf hb trivial (wpIn_mono hwp ?_));have fin:∀a' w',(∃cx env σ vals,CF P w ok (λb=>w.heap.size<=b) [] [] cx/\a'.tmps.size=fn.ntmps/\Rel cx env σ vals a' w'/\kn σ env rs λaHk=>Xe S.lone σ aHk K)->LeavesInM Fence.wide 1 P fn a'.tmps (λe w'=>∃v' r us,e=.returned v'/\K r/\Below w.heap.size w w'/\RR (XI ok S.lone w w' us) (λb=>w.heap.size<=b) w' r v' us/\
  (∀u∈us,∀b,bI u=some b->w.heap.size<=b)∧∀(i j:Nat) (u t:Value) (b:Nat),i≠j->us[i]?=some u->us[j]?=some t->bI u=some b->bI t≠some b) a'.defers .returning w':=by
  rintro a' w' ⟨Po,au,σ',an,hC',zW,dp,hk⟩
  let cxE:Cx:={ P:=P,w0:=w,OG:=ok,hA:=ep }
  obtain⟨P',w0',lT,hA',w1',afP,mM,VP,gh',lo',afQ,aa7,M_,pS',pV'⟩:=Po;obtain⟨rfl,aa8,K3,rfl,rfl,rfl,VK,EG,vV,hdf,Sf⟩:=hC';have hw2:w0'=w:=aa8;subst hw2;have Sg:aa7=λb=>w0'.heap.size<=b:=K3
  subst Sg;have hrE:Rel cxE au σ' an ⟨a'.tmps,[]⟩ w':=⟨⟨dp.s.below,dp.s.one,dp.s.len,dp.s.iU,dp.s.oP,⟨dp.s.below.size,λb hb=>hb.elim,λ_ _ hb=>hb⟩,⟨dp.s.pin.vs,dp.s.pin.len,dp.s.pin.r7,dp.s.pin.sb⟩⟩,dp.env,rfl,λx v hg=>hg.elim,λp hp=>absurd hp (zb1 p)⟩
  refine leaves (cx:=cxE) ?_ (λ_ h=>h) (zaj _) a'.defers w' ?_ ?_ hrE
  ·intro w2 qH;obtain⟨aHk,Hq,hk,o_,pd,Sh⟩:=CB qH l rs _ Xy hk;obtain⟨r,us,h1,h2,h3,h4⟩:=MM (λ_ h=>h) qH o_ hk;exact⟨_,yH xZ hl _ _ w2 Hq pd Sh,_,r,us,rfl,h1,qH.s.below.PQ (λ_ h=>h),h2,h3,h4⟩
  ·intro d hd;rw[dp.defers]at hd;obtain⟨D,h2,h3,h4,h5⟩:=hdf d hd;exact JM
  ·rw[dp.defers];exact Sf
 intro e a' w' hp;cases e with
 |normal=>exact fin a' w' hp
 |ret=>exact fin a' w' hp
 |exit i=>
  obtain⟨_,_,_,_,_,_,_,hk⟩:=hp;exact fG
 |_=>exact hp.elim
def NX{pe:TypeId}{psz:Nat}{P:Program}{f:Nat}{fn:Func}{c:Code}{pc:PC}{Γ:Ctx}{ps:List Nat}{rs:List (Nat×Option (Bool×Nat))}{S:Spec}(hΓ:Sound P Γ)(hm:P.follows .mixedOrders=true)(hf:P.funcs[f]?=some fn)(EK:(fn.name== "runtime.NumGoroutine")=false)(hb:fn.body=some c)
 (hc:uH P fn.ntmps c=some (strip pc)) {l:List ResultVar} (xZ:fn.results=l.toArray) (Xy:l.map (Mj P)=rs.map some) (hl:l.length<=4) (hS:LO S) (Gw:Nat) (hn:Gw<=fn.ntmps) (dO:∀args K,S.run args K->args.length=Gw) (hP:Fc pe psz Γ ps pc rs S):bM P f S:=by
 refine⟨λe=>(hS.1 e).2,λe=>⟨(hS.1 e).1,hS.2.2⟩,?_,λ_ _ _ _ _ _ _ _ h=>absurd h (hS.2.1 _ _),λ_ _ _ _ _ _ _ _ h=>by rw[hS.2.2]at h;cases h⟩;obtain⟨kq,h⟩:=hP;intro w ok args vs K _ ep iY ec;refine⟨B6 hf EK hb,?_⟩;have hlen:vs.size=args.length:=by simpa using iY.length
 have hle:args.length<=fn.ntmps:=by rw[dO args K ec];exact hn
 obtain⟨env,L3,Se⟩:=Gr args 0 _ (h args K ec)
 let cx:Cx:={ P:=P,w0:=w,OG:=ok,hA:=ep }
 let a:Act:={ tmps:=vs++Array.replicate (fn.ntmps-vs.size) undef,defers:=[] }
 have asD:∀b,ok b->Ok cx [] [] w b:=λb hb=>⟨.inl hb,ep b hb,λ⟨i,s,v,hi,_⟩=>ry⟩
 have hr:Rel cx env [] [] a w:=by
  refine⟨⟨tB.refl _ _,ae,rfl,λi s v hi=>ry,λi j s t u v b _ hi=>ry,⟨zaj _,λb hb=>hb.elim,λ_ _ hb=>hb⟩,⟨λi v h=>by simp[cx]at h,by simp[cx],λi hi=>by simp[cx]at hi,λi hi=>by simp[cx]at hi⟩⟩,λp=>?_,rfl,λx v hg=>hg.elim,λp hp=>absurd hp (zb1 p)⟩;rw[Se p];simp only[zcb,if_true,zb5];cases hx:args[p]? with
  |none=>simp only[RA]
  |some x=>
   simp only[RA];have hp:p<args.length:=(zaa.1 hx).1;have zZ:a.tmps.getD p undef=vs[p]'aa:=by
    rw[getD_eq];show((vs++Array.replicate (fn.ntmps-vs.size) undef)[p]?).getD undef=_;rw[zb3 aa,zaE aa];rfl
   rw[zZ];exact Rd.mono asD (λ_ _ _=>rfl) x _ (((kW args _).1 iY).2 p x _ hx II)
 obtain⟨hsP,hkP⟩:=hr.s.push (Below.refl _ w) (.pool pe psz [] []) (.bool false) rfl (λb hb=>by obtain⟨p,hp,_⟩:=hb;cases hp) (λ_=>⟨kq,⟨List.Pairwise.nil,λp hp=>by cases hp⟩,λp hp=>by cases hp⟩);have hr:Rel cx env [.pool pe psz [] []] [.bool false] a w:=hr.keep hsP hkP;have hC:CF P w ok (λb=>w.heap.size<=b) [] [] cx:=⟨rfl,rfl,rfl,rfl,rfl,rfl,λ_ _ h=>h,rfl,λb h=>h.elim,λd hd=>(by cases hd),List.Pairwise.nil⟩
 have hwp:=Cy (ps:=ps) hΓ hm c pc hc (CF P w ok (λb=>w.heap.size<=b) [] []) Fence.wide 1 cx (ZV S.lone rs K) env [.pool pe psz [] []] [.bool false] a w (.inr ⟨rfl,zaj _,Nk P w ok _ [] [] rfl,λcx h=>h.hP⟩) (.inl λcx h=>h.lo) (.inl rfl) hC (λcx h=>h.hP) (MY _ _ _) (by simp[a];omega) hr L3;refine(callsIn_wide (n:=1)).1 (callsIn_of_wp_marks hf hb trivial (wpIn_mono hwp ?_));have fin:∀a' w',(∃cx env σ vals,CF P w ok (λb=>w.heap.size<=b) [] [] cx/\a'.tmps.size=fn.ntmps/\Rel cx env σ vals a' w'/\kn σ env rs λaHk=>Xe S.lone σ aHk K)->LeavesInM Fence.wide 1 P fn a'.tmps (λe w'=>∃v' r us,e=.returned v'/\K r/\Below w.heap.size w w'/\RR (XI ok S.lone w w' us) (λb=>w.heap.size<=b) w' r v' us/\
  (∀u∈us,∀b,bI u=some b->w.heap.size<=b)∧∀(i j:Nat) (u t:Value) (b:Nat),i≠j->us[i]?=some u->us[j]?=some t->bI u=some b->bI t≠some b) a'.defers .returning w':=by
  rintro a' w' ⟨Po,au,σ',an,hC',zW,dp,hk⟩
  let cxE:Cx:={ P:=P,w0:=w,OG:=ok,hA:=ep }
  obtain⟨P',w0',lT,hA',w1',afP,mM,VP,gh',lo',afQ,aa7,M_,pS',pV'⟩:=Po;obtain⟨rfl,aa8,K3,rfl,rfl,rfl,VK,EG,vV,hdf,Sf⟩:=hC';have hw2:w0'=w:=aa8;subst hw2;have Sg:aa7=λb=>w0'.heap.size<=b:=K3
  subst Sg;have hrE:Rel cxE au σ' an ⟨a'.tmps,[]⟩ w':=⟨⟨dp.s.below,dp.s.one,dp.s.len,dp.s.iU,dp.s.oP,⟨dp.s.below.size,λb hb=>hb.elim,λ_ _ hb=>hb⟩,⟨dp.s.pin.vs,dp.s.pin.len,dp.s.pin.r7,dp.s.pin.sb⟩⟩,dp.env,rfl,λx v hg=>hg.elim,λp hp=>absurd hp (zb1 p)⟩
  refine leaves (cx:=cxE) ?_ (λ_ h=>h) (zaj _) a'.defers w' ?_ ?_ hrE
  ·intro w2 qH;obtain⟨aHk,Hq,hk,o_,pd,Sh⟩:=CB qH l rs _ Xy hk;obtain⟨r,us,h1,h2,h3,h4⟩:=MM (λ_ h=>h) qH o_ hk;exact⟨_,yH xZ hl _ _ w2 Hq pd Sh,_,r,us,rfl,h1,qH.s.below.PQ (λ_ h=>h),h2,h3,h4⟩
  ·intro d hd;rw[dp.defers]at hd;obtain⟨D,h2,h3,h4,h5⟩:=hdf d hd;exact JM
  ·rw[dp.defers];exact Sf
 intro e a' w' hp;cases e with
 |normal=>exact fin a' w' hp
 |ret=>exact fin a' w' hp
 |exit i=>
  obtain⟨_,_,_,_,_,_,_,hk⟩:=hp;exact fG
 |_=>exact hp.elim
end
end
end Go.Dv
namespace Go.Dv
open Go.RowKit
section
def Tr(n:Nat):∀m,(List.range (m+1)).map (· +n)=n::(List.range m).map (· +(n+1)):=by
 intro m;rw[List.range_succ_eq_map,zav,List.map_map];congr 1
 ·omega
 ·apply zbA;intro x _;simp only[Function.comp];omega
def WZ(σ:aw):∀(n:Nat) (K:List Nat->Prop),awr σ n K->K ((List.range σ.length).map (· +n)):=by
 induction σ with
 |nil=>intro n K h;exact h
 |cons s σ ih=>
  intro n K h;have:=ih (n+1) (λt=>K (n::t)) h;rw[List.length_cons,Tr];exact this
def Oz(l:List AV):∀(n:Nat) (K:Env->Prop),Vz l n K→∃env,K env∧∀p,aA p env=if n<=p then(l[p-n]?).getD .bad else .bad:=by
 induction l with
 |nil=>intro n K h;exact⟨[],h,λp=>by simp[aA]⟩
 |cons x l ih=>
  intro n K h;obtain⟨env,h1,h2⟩:=ih (n+1) _ h;refine⟨_,h1,λp=>?_⟩;show(bif Nat.beq n p then x else aA p env)=_;by_cases hp:n=p
  ·subst hp;simp
  ·rw[Oj hp,cond_false,h2 p];by_cases aS:n<=p
   ·rw[if_pos (show n+1<=p by omega),if_pos aS];have:p-n=(p-(n+1))+1:=aa;rw[this];rfl
   ·rw[if_neg aa,if_neg aS]
def VX(pin:List Nat)(rs:List (Nat×Option (Bool×Nat)))(K:AV->aw->Prop):∀e,qR (agT pin rs K e):=by
 intro e env au σ h;cases e with
 |normal=>exact tl h σ rs _
 |ret=>exact tl h σ rs _
 |exit i=>rfl
def acm{ok:Nat->Prop}{σ:aw}{vals:List Value}{w:World}(cs:List AV):∀vs:List Value,d_ ok σ vals w cs vs->vs.length=cs.length∧∀(j:Nat) (c:AV) (v:Value),cs[j]?=some c->vs[j]?=some v->RA ok σ vals w c v:=by
 induction cs with
 |nil=>intro vs h;simp only[d_]at h;subst h;exact⟨rfl,λj c v hc=>by simp at hc⟩
 |cons c cs ih=>
  intro vs h;simp only[d_]at h;obtain⟨v,t,rfl,h1,h2⟩:=h;obtain⟨h3,h4⟩:=ih t h2;refine⟨by simp[h3],λj c' v' hc hv=>?_⟩;cases j with
  |zero=>simp at hc hv;subst hc hv;exact h1
  |succ j=>exact h4 j c' v' r6 (by simpa using hv)
def aaj{ok:Nat->Prop}{σ:aw}{vals:List Value}{w:World}{aHk:List AV}{vs:List Value}(h:d_ ok σ vals w aHk vs):RA ok σ vals w (XX aHk) (DG vs):=by
 have tup:RA ok σ vals w (.tup aHk) (.tuple vs.toArray):=by
  simp only[RA];exact⟨_,rfl,o8⟩
 cases aHk with
 |nil=>
  have h':=h;simp only[d_]at h';subst h';exact tup
 |cons a aHk=>
  have h':=h;simp only[d_]at h';obtain⟨v,t,rfl,h1,h2⟩:=h';cases aHk with
  |nil=>simp only[d_]at h2;subst h2;exact h1
  |cons b aHk=>
   simp only[d_]at h2;obtain⟨v2,t2,rfl,_,_⟩:=h2;exact tup
section
variable {cx:Cx} {env:Env} {σ:aw} {vals:List Value} {a:Act} {w':World}
def N3{P:Program}{f:Nat}{fn:Func}{c:Code}{pc:PC}{Γ:Ctx}{ps:List Nat}{rs:List (Nat×Option (Bool×Nat))}{um:List AV->aw->(AV->aw->Prop)->Prop}(hΓ:Sound P Γ)(hm:P.follows .mixedOrders=true)(hf:P.funcs[f]?=some fn)(EK:(fn.name== "runtime.NumGoroutine")=false)(hb:fn.body=some c)
 (hc:uH P fn.ntmps c=some (strip pc)) {l:List ResultVar} (xZ:fn.results=l.toArray) (Xy:l.map (Mj P)=rs.map some) (hl:l.length<=4) (Gw:Nat) (hn:Gw<=fn.ntmps) (dO:∀aHk σ K,um aHk σ K->aHk.length=Gw) (h:ki Γ ps pc rs (x3 um)):bM P f (x3 um):=by
 refine⟨λe=>fJ,λe=>fJ,λ_ _ _ _ _ e=>fJ,λ_ _ _ _ _ _ _ _ h=>(show False from h).elim,?_⟩;intro w ok ep σ0 cX aHk vs K _ asE o_ ec;refine⟨B6 hf EK hb,?_⟩;have hlen:vs.size=aHk.length:=by simpa using o_.length
 have hle:aHk.length<=fn.ntmps:=by rw[dO aHk σ0 K ec];exact hn
 obtain⟨env,L3,Se⟩:=Oz aHk 0 _ (h aHk σ0 K ec);have L3:=WZ σ0 0 _ L3;simp only[Nat.add_zero,List.map_id']at L3;have HR:cX.length=σ0.length:=asE.len
 let cx:Cx:=Z1 P w ok ep σ0 cX
 let own:Nat->Prop:=λb=>w.heap.size<=b\/Av σ0 cX b
 let a:Act:={ tmps:=vs++Array.replicate (fn.ntmps-vs.size) undef,defers:=[] }
 have hr:Rel cx env σ0 cX a w:=by
  refine⟨asE,λp=>?_,rfl,λx v hg=>hg.elim,λp hp=>absurd hp (zb1 p)⟩;rw[Se p];simp only[zcb,if_true,zb5];cases hx:aHk[p]? with
  |none=>simp only[Option.getD_none,RA]
  |some x=>
   simp only[zby];have hp:p<aHk.length:=(zaa.1 hx).1;have zZ:a.tmps.getD p undef=vs[p]'aa:=by
    rw[getD_eq];show((vs++Array.replicate (fn.ntmps-vs.size) undef)[p]?).getD undef=_;rw[zb3 aa,zaE aa];rfl
   rw[zZ];exact(acm aHk _ o_).2 p x _ hx II
 have hC:CF P w ok own σ0 cX cx:=⟨rfl,rfl,rfl,rfl,rfl,rfl,λ_ _ h=>h,rfl,λb h=>h.elim,λd hd=>(by cases hd),List.Pairwise.nil⟩
 have hwp:=Cy (ps:=ps) hΓ hm c pc hc (CF P w ok own σ0 cX) Fence.wide 1 cx (agT (List.range σ0.length) rs K) env σ0 cX a w (.inr ⟨rfl,zaj _,Nk P w ok own σ0 cX HR,λcx h=>h.hP⟩) (.inl λcx h=>h.lo) (.inl rfl) hC (λcx h=>h.hP) (VX _ _ _) (by simp[a];omega) hr L3;refine(callsIn_wide (n:=1)).1 (callsIn_of_wp_marks hf hb trivial (wpIn_mono hwp ?_));have fin:∀a' w',(∃cx env σ vals,CF P w ok own σ0 cX cx/\a'.tmps.size=fn.ntmps/\Rel cx env σ vals a' w'/\kn σ env rs λaHk=>I3 aHk (List.range σ0.length) λl=>Fx σ l l λr=>Ah σ 0 r λr=>Ih r aHk λaHk=>JT σ r r λσ=>K (XX aHk) σ)->
  LeavesInM Fence.wide 1 P fn a'.tmps (λe w'=>∃v res σ1 fO,e=.returned v/\K res σ1/\ba (Z1 P w ok ep σ0 cX) σ1 fO w'/\RA (Ok (Z1 P w ok ep σ0 cX) σ1 fO w') σ1 fO w' res v) a'.defers .returning w':=by
  rintro a' w' ⟨Po,au,σ',an,hC',zW,dp,hk⟩;obtain⟨P',w0',lT,hA',w1',afP,mM,VP,gh',lo',afQ,aa7,M_,pS',pV'⟩:=Po;obtain⟨rfl,aa8,K3,aC9,aC_,aDa,VK,EG,vV,hdf,Sf⟩:=hC';have hw2:w0'=w:=aa8;subst hw2;have Sg:aa7=own:=K3;subst Sg;have hp2:pS'=σ0:=aC9;subst hp2;have hp3:pV'=cX:=aC_;subst hp3;have Xq:lT=ok:=aDa;subst Xq
  let cxE:Cx:=Z1 P' w0' lT ep pS' pV'
  have hrE:Rel cxE au σ' an ⟨a'.tmps,[]⟩ w':=⟨⟨dp.s.below,dp.s.one,dp.s.len,dp.s.iU,dp.s.oP,⟨dp.s.below.size,λb hb=>hb.elim,λ_ _ hb=>hb⟩,⟨dp.s.pin.vs,dp.s.pin.len,dp.s.pin.r7,dp.s.pin.sb⟩⟩,dp.env,rfl,λx v hg=>hg.elim,λp hp=>absurd hp (zb1 p)⟩
  refine leaves (cx:=cxE) ?_ (λ_ h=>h) (zaj _) a'.defers w' ?_ ?_ hrE
  ·intro w2 qH;obtain⟨aHk,Hq,hk,o_,pd,Sh⟩:=CB qH l rs _ Xy hk;obtain⟨l1,hk,hl1,Su⟩:=yq aHk _ _ zbT hk;obtain⟨r,hk,Xr,hp2⟩:=wi σ' l1 _ hl1 hk;obtain⟨as',hk,has⟩:=zl r aHk _ hk;obtain⟨σ2,hk,h1,h2⟩:=tV σ' r r _ hk;obtain⟨dw,hA,LX,Xq⟩:=NM (cx:=cxE) ⟨rfl,HR⟩ (Su.trans hp2) Xr h1 h2 qH.s;exact⟨_,yH xZ hl _ _ w2 Hq pd Sh,_,_,σ2,dw,rfl,hk,LX,aaj (fK.ra hA Xq _ _ _ has o_)⟩
  ·intro d hd;rw[dp.defers]at hd;obtain⟨D,h2,h3,h4,h5⟩:=hdf d hd;exact JM
  ·rw[dp.defers];exact Sf
 intro e a' w' hp;cases e with
 |normal=>exact fin a' w' hp
 |ret=>exact fin a' w' hp
 |exit i=>
  obtain⟨_,_,_,_,_,_,_,hk⟩:=hp;exact fG
 |_=>exact hp.elim
end
end
end Go.Dv
namespace Go.Dv
def wrap64{n:Int}(h: -9223372036854775808<=n/\n<=9223372036854775807):IntKind.i64.wrap n=n:=by
 have hb:IntKind.i64.bits=64:=rfl;simp only[IntKind.wrap,IntKind.signed,hb];have:(2:Int)^64=18446744073709551616:=af;have:(2:Int)^(64-1)=9223372036854775808:=af
 simp_all
 omega
def n64{r n:Int}(hr:r=IntKind.i64.wrap n)(h: -9223372036854775808<=n/\n<=9223372036854775807):r=n:=hr.trans (wrap64 h)
def cmp{b:Bool}{p:Prop}(h:b=true↔p):(b=true/\p)\/(b=false∧¬p):=by
 cases b with
 |true=>exact .inl ⟨rfl,h.1 rfl⟩
 |false=>exact .inr ⟨rfl,λhp=>by have:=h.2 hp;cases this⟩
def dJ{n:Int}{K:Int->Prop}(h: -9223372036854775808<=n/\n<=9223372036854775807)(k:K n):∀r:Int,r=IntKind.i64.wrap n->K r:=λr hr=>by
 rw[n64 hr h];exact k
def cA{p:Prop}{K:Bool->Prop}(ht:p->K true)(hf:¬p->K false):∀b:Bool,(b=true↔p)->K b:=λb hb=>by
 cases b with
 |true=>exact ht (hb.1 rfl)
 |false=>exact hf λhp=>by have:=hb.2 hp;cases this
def wI{P:Program}:Sound P (ax []):=V0 [] (λ_ h=>cI)
def bT{P:Program}{f:Nat}{S:Spec}{l:List (Nat×Spec)}(h:bM P f S)(ht:Sound P (ax l)):Sound P (ax ((f,S)::l)):=by
 intro g;show bM P g (Bool.rec (ax l g) S (Nat.beq f g));cases hb:Nat.beq f g with
 |true=>
  have:=zab hb;subst this;exact h
 |false=>exact ht g
end Go.Dv
namespace Go.Dv
open Go Go.ChangeShapes Go.WideShapes Go.ChangeAt Go.RowKit
def TQ{P:Program}{f:FuncId}{S:Spec}(h:bM P f S)(L0:S.mu=false){W:World}{args:Array Value}{ps:List PV}(iY:cE (λb=>b<W.heap.size) W ps args.toList)(ec:S.run ps λr=>r=.pv (.bool true)):
 Calls P f args W λe w'=>e=.returned (.bool true)/\Below W.heap.size W w':=by
 refine(h.2.2.1 W (λb=>b<W.heap.size) ps args _ L0 (λ_ hb=>hb) iY ec).2.mono λe w' he=>?_
 obtain⟨v,r,us,rfl,rfl,hb,hr,_⟩:=he;simp only[RR,Rd]at hr;exact⟨by rw[hr.1],hb⟩
def Lm{H:Type}{enc:TypeId×Value->H}{P:Program}(hl:laidOutB P=true){W W':World}(hb:Below W.heap.size W W'):∀(ts:List TypeId) (vs:List Value) (ds:List (DataW H)) (ps:List MemPlace),
 (∀t∈ts,P.readableRec t=true/\t<P.types.size)->DataW.TrodAll enc P W 0 (λ_=>true) true ts vs ds ps->(∀x∈ps,x.block<W.heap.size)->DataW.TrodAll enc P W' 0 (λb=>decide (b<W.heap.size)) true ts vs ds ps:=by
 intro ts
 induction ts with
 |nil=>
  intro vs ds ps _ h _;obtain⟨rfl,rfl,rfl⟩:=trodAll_nil h;exact trodAll_mk0
 |cons t ts ih=>
  intro vs ds ps ht h aS;obtain⟨v,Hq,d,ds',p,q,rfl,rfl,rfl,h1,h2⟩:=trodAll_cons h;exact⟨p,q,Below.trod hl (ht t ae).1 (ht t ae).2 h1 hb (λx hx=>aS x kG),ih _ _ _ (λt' h'=>ht t' (by simp[h'])) h2 (λx hx=>aS x kG),rfl⟩
def WR{H:Type}{enc:TypeId×Value->H}{P:Program}(hl:laidOutB P=true){f:Func}{s:ChangeSpec}{apart fresh handsOn:Bool}{W W':World}{args:Array Value}{ds gs:List (DataW H)}{before:List MemPlace}{tb:TypeId}
 (hts:∀t∈f.params.toList,P.readableRec t=true/\t<P.types.size) (hrt:f.resultTypes= #[tb]) (Pk:P.underlying tb=some .bool) (afR:s.vars=[])
 (hfn:s.fn H (ds++gs)={ results:=[.lit (.bool true)],args:=ds })
 (hW:DataW.Whole enc P f.params.toList s.vars apart W args.toList ds gs before) (hb:Below W.heap.size W W'):
 s.post enc P f apart fresh handsOn false W args (.bool true) W':=by
 have aS:=hW.lt;have hW':=hW;obtain⟨p,q,hA,hV,rfl,_,_⟩:=hW;rw[afR]at hV;obtain⟨rfl,rfl⟩:=trodVars_none hV;refine⟨ds,[],p++[],[],p,[],hW',?_,?_,?_,Below.frame hb _,λh=>cI⟩
 ·rw[hfn,hrt];exact trodAll_cons_mk (shut_bool Pk _) trodAll_mk0
 ·rw[hfn];exact Lm hl hb _ _ _ _ hts hA (λx hx=>by simpa using aS x yK)
 ·rw[hfn,afR];simp[DataW.TrodVars]
end Go.Dv
namespace Go.Dv
open Go Go.ChangeShapes Go.WideShapes Go.Deep
section
inductive CT where
 |bool
 |int (k:IntKind)
 |str
 |sl (ag:Bool) (cs:List CT)
mutual
def Fs:CT->PV->Prop
 | .bool,x=>∃b,x=.bool b
 | .int k,x=>∃n,x=.int k n/\(Lit.int k n).wf=true
 | .str,x=>∃l,x=.str l/\l.length<=maxLen
 | .sl ag cs,x=>∃ak,x=.sl cs.length ak/\ak.length<=maxLen∧∀y∈ak,(ag=true→∃zs,y=.agg zs/\jO cs zs)/\(ag=false->jO cs [y])
def jO:List CT->List PV->Prop
 |[],xs=>xs=[]
 |c::cs,xs=>∃y ys,xs=y::ys/\Fs c y/\jO cs ys
end
def y0:∀(cs ds:List CT) (xs ys:List PV),jO cs xs->jO ds ys->jO (cs++ds) (xs++ys)
 |[],_,_,_,h,h2=>by simp only[jO]at h;subst h;exact h2
 |c::cs,ds,xs,ys,h,h2=>by
  simp only[jO]at h;obtain⟨y,zs,rfl,h3,h4⟩:=h;simp only[zbe,jO];exact⟨_,_,rfl,h3,y0 cs ds zs ys h4 h2⟩
def C4:∀(cs:List CT) (xs:List PV),jO cs xs->xs.length=cs.length
 |[],_,h=>by simp only[jO]at h;subst h;rfl
 |c::cs,xs,h=>by
  simp only[jO]at h;obtain⟨y,zs,rfl,h3,h4⟩:=h;simp[C4 cs zs h4]
def Rw:∀(c:CT) (x:PV),Fs c x->x.one=true∧∀l,x≠.agg l
 | .bool,x,h=>by simp only[Fs]at h;obtain⟨b,rfl⟩:=h;exact⟨rfl,ae⟩
 | .int k,x,h=>by simp only[Fs]at h;obtain⟨b,rfl,_⟩:=h;exact⟨rfl,ae⟩
 | .str,x,h=>by simp only[Fs]at h;obtain⟨b,rfl,_⟩:=h;exact⟨rfl,ae⟩
 | .sl _ _,x,h=>by simp only[Fs]at h;obtain⟨b,rfl,_⟩:=h;exact⟨rfl,ae⟩
def Dr:∀(cs:List CT) (xs:List PV),jO cs xs→∀x∈xs,x.one=true
 |[],_,h=>by simp only[jO]at h;subst h;simp
 |c::cs,xs,h=>by
  simp only[jO]at h;obtain⟨y,zs,rfl,h3,h4⟩:=h;intro x hx;rcases zay.1 hx with rfl|hx
  ·exact(Rw c _ h3).1
  ·exact Dr cs zs h4 x hx
def AS(P:Program)(e:TypeId):Bool:=match P.underlying e with|some (.struct _)=>true|some (.array _ _)=>true|_=>false
def Fe(P:Program)(g:TypeId->Option (List CT)):List Field->Nat->Option (List CT):=
 λl=>List.rec (λ_=>some []) (λf _ ih off=>
  (g f.type).bind λcs=>bif Nat.beq f.offset off&&Nat.beq cs.length (P.cellsOf f.type)then(ih (off+cs.length)).map λds=>cs++ds else none) l
def acI(cs:List CT)(m:Nat):List CT:=Nat.rec [] (λ_ ih=>cs++ih) m
def vg(P:Program)(n:Nat):TypeId->Option (List CT):=
 Nat.rec (λ_=>none) (λ_ ih t=>
  match P.underlying t with
  |some .bool=>some [.bool]
  |some (.int k)=>some [.int k]
  |some .string=>some [.str]
  |some (.slice e)=>(ih e).bind λcs=>bif Nat.beq cs.length (P.cellsOf e)&&Nat.ble 1 cs.length&&(AS P e||Nat.beq cs.length 1)then some [.sl (AS P e) cs]else none
  |some (.struct fs)=>(Fe P ih fs.toList 0).bind λcs=>bif Nat.beq cs.length (P.cellsOf t)then some cs else none
  |some (.array m e)=>bif Nat.ble m 64 then(ih e).bind λcs=>bif Nat.beq cs.length (P.cellsOf e)&&Nat.beq (m*cs.length) (P.cellsOf t)then some (acI cs m)else none else none
  |_=>none) n
section
variable {H:Type} {enc:TypeId×Value->H} {P:Program} {w:World} {base:Nat} {spare:Nat->Bool} {held:Bool}
def ach(ok:Nat->Prop)(b:Nat):∀(xs:List PV) (vs:List Value) (o:Nat),cE ok w xs vs->(∀j,j<vs.length->w.cell? ⟨b,o+j,none⟩=vs[j]?)->(∀x∈xs,x.one=true)->k9 ok w b o xs:=by
 intro xs
 induction xs with
 |nil=>intro vs o _ _ _;simp[k9]
 |cons x xs ih=>
  intro vs o h hc h1;simp only[cE]at h;obtain⟨v,r,rfl,h2,h3⟩:=h;simp only[k9];refine⟨⟨h1 x ae,v,by simpa using hc 0 ae,h2⟩,ih r (o+1) h3 (λj hj=>?_) (λy hy=>h1 y rQ)⟩;have:=hc (j+1) aT;simp at this;rw[<-this];congr 2;omega
def YM(ok:Nat->Prop)(b sz:Nat)(f:Nat->PV):∀(k i o:Nat),(∀j,i<=j->j<i+k->dM ok w b sz (o+(j-i)*sz) [f j])->dM ok w b sz o ((List.range' i k).map f):=by
 intro k
 induction k with
 |zero=>intro i o _;simp[dM]
 |succ k ih=>
  intro i o h;rw[List.range'_succ,zav];have h0:=h i (zaj _) aa;rw[Nat.sub_self,Nat.zero_mul,Nat.add_zero]at h0;have h1:=ih (i+1) (o+sz) (λj h1 h2=>by
   have:=h j aa aa;rw[show o+sz+(j-(i+1))*sz=o+(j-i)*sz by
    obtain⟨q,rfl⟩:∃q,j=i+1+q:=⟨j-(i+1),aa⟩
    rw[show i+1+q-(i+1)=q by omega,show i+1+q-i=q+1 by omega,Nat.add_mul,Nat.one_mul];omega]
   exact this)
  generalize f i=x at h0;cases x<;>(simp only[dM]at h0 ⊢;exact⟨h0.1,h1⟩)
def Wy(ok:Nat->Prop){n k:Nat}(ih:∀(t:TypeId) (cs:List Value) (x:DataW H×List MemPlace) (Si:List CT),vg P n t=some Si->DataW.trod enc P w base spare held k t cs=some x→∃xs,jO Si xs/\cE ok w xs cs)(cs:List Value):
 ∀(l:List Field) (off:Nat) (Si:List CT),Fe P (vg P n) l off=some Si->off+Si.length=cs.length->(∀(i:Nat) (f:Field),l[i]?=some f→∃x,DataW.trod enc P w base spare held k f.type ((cs.drop f.offset).take (P.cellsOf f.type))=some x)→∃xs,jO Si xs/\cE ok w xs (cs.drop off):=by
 intro l
 induction l with
 |nil=>
  intro off Si h hl _;simp only[Fe]at h;injection h with h
  subst h;exact⟨[],by simp[jO],by simp only[cE];exact zcd (by simp at hl;omega)⟩
 |cons f l ihl=>
  intro off Si h hl hx;have h':((vg P n f.type).bind λcs=>bif Nat.beq f.offset off&&Nat.beq cs.length (P.cellsOf f.type)then(Fe P (vg P n) l (off+cs.length)).map λds=>cs++ds else none)=some Si:=h;obtain⟨c1,h1,h2⟩:=zb0.1 h';cases hb:(Nat.beq f.offset off&&Nat.beq c1.length (P.cellsOf f.type))with
  |false=>rw[hb]at h2;cases h2
  |true=>
   rw[hb]at h2;simp only[cond_true]at h2;obtain⟨c2,h3,rfl⟩:=Option.map_eq_some_iff.1 h2;rw[zaT]at hb;have e1:=zab hb.1;have e2:=zab hb.2;obtain⟨x,vW⟩:=hx 0 f rfl;obtain⟨xs1,g1,g2⟩:=ih _ _ _ _ h1 vW;rw[zae]at hl;obtain⟨xs2,g3,g4⟩:=ihl (off+c1.length) c2 h3 aa (λi f' hf=>hx (i+1) f' (by simpa using hf));refine⟨xs1++xs2,y0 _ _ _ _ g1 g3,?_⟩;rw[c8];rw[e1,<-e2]at g2;refine⟨_,_,?_,g2,g4⟩;rw[<-zaP,zaA]
def adu(ok:Nat->Prop)(ep:∀b,b<w.heap.size->ok b):∀(n k:Nat) (t:TypeId) (cs:List Value) (x:DataW H×List MemPlace) (Si:List CT),vg P n t=some Si->DataW.trod enc P w base spare held k t cs=some x→∃xs,jO Si xs/\cE ok w xs cs:=by
 intro n
 induction n with
 |zero=>intro k t cs x Si h;cases h
 |succ n ih=>
  intro k t cs x Si h hx;have h':(match P.underlying t with
   |some .bool=>some [CT.bool]
   |some (.int k)=>some [CT.int k]
   |some .string=>some [CT.str]
   |some (.slice e)=>(vg P n e).bind λcs=>bif Nat.beq cs.length (P.cellsOf e)&&Nat.ble 1 cs.length&&(AS P e||Nat.beq cs.length 1)then some [CT.sl (AS P e) cs]else none
   |some (.struct fs)=>(Fe P (vg P n) fs.toList 0).bind λcs=>bif Nat.beq cs.length (P.cellsOf t)then some cs else none
   |some (.array m e)=>bif Nat.ble m 64 then(vg P n e).bind λcs=>bif Nat.beq cs.length (P.cellsOf e)&&Nat.beq (m*cs.length) (P.cellsOf t)then some (acI cs m)else none else none
   |_=>none)=some Si:=h
  split at h'
  ·rename_i ht;injection h' with h';subst h'
   obtain⟨b,rfl,_⟩:=DataW.trod_bool ht hx;exact⟨[.bool b],by simp[jO,Fs],by simp[cE,Rd]⟩
  ·rename_i kk ht;injection h' with h';subst h'
   obtain⟨b,rfl,_,hw⟩:=DataW.trod_int ht hx;exact⟨[.int kk b],by simp[jO,Fs,hw],by simp[cE,Rd]⟩
  ·rename_i ht;injection h' with h';subst h'
   obtain⟨s,rfl,_,hs⟩:=DataW.trod_string ht hx;exact⟨[.str s.data.toList],by simp[jO,Fs];exact hs,by simp[cE,Rd]⟩
  ·rename_i e ht;obtain⟨c1,h1,h2⟩:=zb0.1 h';cases hb:(Nat.beq c1.length (P.cellsOf e)&&Nat.ble 1 c1.length&&(AS P e||Nat.beq c1.length 1))with
   |false=>rw[hb]at h2;cases h2
   |true=>
    rw[hb]at h2;simp only[cond_true,Option.some.injEq]at h2;subst h2;rw[zaT,zaT]at hb;have e1:=zab hb.1.1;have e2:=za3 hb.1.2;rcases open_slice ht hx with⟨rfl,_⟩|⟨a,len,cap,m,q,D,Pl,rfl,hba,hl,hm,hmm,_,Xk⟩
    ·refine⟨[.sl c1.length []],?_,?_⟩
     ·simp only[jO,Fs];exact⟨_,_,rfl,⟨[],rfl,ae,ae⟩,rfl⟩
     ·simp only[cE,Rd];exact⟨_,_,rfl,⟨none,0,rfl,ae,by simp[maxLen],.inl trivial⟩,rfl⟩
    ·have hlm:len<=m:=by rw[hmm];split<;>omega
     have each:∀i,i<len→∃q:List PV×List Value,jO c1 q.1/\cE ok w q.1 q.2/\q.2.length=c1.length∧∀j,j<c1.length->w.cell? ((a.add (i*c1.length)).add j)=q.2[j]?:=by
      intro i hi;obtain⟨T7,g1,g2⟩:=Xk i aa;obtain⟨xs,g3,g4⟩:=ih _ _ _ _ _ h1 g2;obtain⟨_,g5,g6⟩:=World.cells?_some g1;exact⟨(xs,T7),g3,g4,by rw[g5,e1],λj hj=>by rw[e1];exact g6 j aa⟩
     obtain⟨f,hf⟩:=choose_lt each;have L5:((List.range' 0 len).map λi=>if AS P e=true then PV.agg (f i).1 else(f i).1.headD (.nil 0)).length=len:=ae;refine⟨[.sl c1.length ((List.range' 0 len).map λi=>if AS P e=true then PV.agg (f i).1 else(f i).1.headD (.nil 0))],?_,?_⟩
     ·simp only[jO,Fs];refine⟨_,_,rfl,⟨_,rfl,by rw[L5];omega,?_⟩,rfl⟩;intro y hy;obtain⟨i,hi,rfl⟩:=zaX.1 hy;have hi:i<len:=by simp at hi;exact hi
      refine⟨λhg=>?_,λhg=>?_⟩
      ·rw[if_pos hg];exact⟨_,rfl,(hf i hi).1⟩
      ·rw[if_neg (by rw[hg];decide)];rw[hg,Bool.false_or]at hb;have e3:=zab hb.2;have h6:=(hf i hi).1;have h7:=C4 _ _ h6;rw[e3]at h7;obtain⟨z,hz⟩:=zce.1 h7;rw[hz]at h6 ⊢;exact h6
     ·simp only[cE,Rd];refine⟨_,_,rfl,⟨some a,cap,by rw[L5],by rw[L5];exact hl,hm,?_⟩,rfl⟩;by_cases h0:len=0
      ·left;subst h0;rfl
      right;obtain⟨g1,g2,g3,g4⟩:=hf 0 aa;have hc0:=g4 0 aa;rw[Nat.zero_mul]at hc0;have ea:(a.add 0).add 0=a:=rfl;rw[ea]at hc0;obtain⟨v,hv⟩:∃v,(f 0).2[0]?=some v:=by rw[zak aa];exact⟨_,rfl⟩
      rw[hv]at hc0;have VQ:a.spot=none:=by
       unfold World.cell? at hc0;split at hc0
       ·split at hc0
        ·cases hc0
        ·rename_i hs;simpa using hs
       ·cases hc0
      have aS:a.block<w.heap.size:=by
       unfold World.cell? at hc0;split at hc0
       ·rename_i hs;by_cases hh:a.block<w.heap.size
        ·exact hh
        ·rw[zcf aa]at hs;cases hs
       ·cases hc0
      have aDb:∀j,a.add j=⟨a.block,a.off+j,none⟩:=by
       intro j;unfold Addr.add;split
       ·rename_i h;subst h;obtain⟨b,o,s⟩:=a;simp only at VQ;subst VQ;rfl
       ·rfl
      refine⟨a.block,a.off,?_,ep _ aS,?_⟩
      ·obtain⟨b,o,s⟩:=a;simp only at VQ;subst VQ;rfl
      refine YM ok _ _ _ len 0 a.off (λi _ hi=>?_);obtain⟨g1,g2,g3,g4⟩:=hf i aa;rw[zb5];have g4':∀j,j<(f i).2.length->w.cell? ⟨a.block,a.off+i*c1.length+j,none⟩=(f i).2[j]?:=by
       intro j hj;rw[<-g4 j aa,add_add,aDb,Nat.add_assoc]
      by_cases hg:AS P e=true
      ·rw[if_pos hg];simp only[dM];exact⟨⟨C4 _ _ g1,ach ok _ _ _ _ g2 g4' (Dr _ _ g1)⟩,trivial⟩
      ·rw[if_neg hg];have M9:AS P e=false:=by simpa using hg
       rw[M9,Bool.false_or]at hb;have e3:=zab hb.2;have h7:=C4 _ _ g1;rw[e3]at h7;obtain⟨z,hz⟩:=zce.1 h7;rw[hz]at g1 g2 ⊢;have h8:=Dr _ _ g1 z ae;simp only[cE]at g2;obtain⟨v',r,AF,h9,rfl⟩:=g2;have M7:=g4' 0 (by rw[AF];simp);rw[AF]at M7;have hna:∀l,z≠.agg l:=by
        match c1,g1 with
        |c::cs,g1=>simp only[jO]at g1;obtain⟨y,ys,hy,Sv,_⟩:=g1;injection hy with hy _;subst hy;exact(Rw c _ Sv).2
       show dM ok w a.block c1.length _ [z];cases z with
       |agg l=>exact absurd rfl (hna l)
       |_=>simp only[dM];exact⟨⟨e3,h8,v',by simpa using M7,h9⟩,trivial⟩
  ·rename_i fs ht;obtain⟨c1,h1,h2⟩:=zb0.1 h';cases hb:Nat.beq c1.length (P.cellsOf t)with
   |false=>rw[hb]at h2;cases h2
   |true=>
    rw[hb]at h2;simp only[cond_true,Option.some.injEq]at h2;subst h2;have e1:=zab hb;obtain⟨xs,q,rfl,_,hl,hxl,hf⟩:=DataW.trod_struct ht hx;have:=Wy (k:=q) ok (λt cs x Si=>ih q t cs x Si) cs fs.toList 0 c1 h1 aa (λi f hi=>?_)
    ·simpa using this
    ·have Gt:fs[i]?=some f:=by simpa using hi
     rw[hf i f Gt];have:i<fs.size:=by
      by_cases hh:i<fs.size
      ·exact hh
      ·rw[zcf aa]at Gt;cases Gt
     rw[zak aa];exact⟨_,rfl⟩
  ·rename_i m e ht;cases hm:Nat.ble m 64 with
   |false=>rw[hm]at h';cases h'
   |true=>
    rw[hm]at h';simp only[cond_true]at h';obtain⟨c1,h1,h2⟩:=zb0.1 h';cases hb:(Nat.beq c1.length (P.cellsOf e)&&Nat.beq (m*c1.length) (P.cellsOf t))with
    |false=>rw[hb]at h2;cases h2
    |true=>
     rw[hb]at h2;simp only[cond_true,Option.some.injEq]at h2;subst h2;rw[zaT]at hb;have e1:=zab hb.1;have e2:=zab hb.2;obtain⟨xs,q,rfl,_,hl,hxl,hf⟩:=DataW.trod_array ht hx;have main:∀(k i:Nat),i+k=m→∃ys,jO (acI c1 k) ys/\cE ok w ys (cs.drop (i*c1.length)):=by
      intro k
      induction k with
      |zero=>
       intro i hi;refine⟨[],by show jO [] [];simp[jO],?_⟩;simp only[cE];exact zcd (by rw[hl,<-e2,show i=m by omega];exact zaj _)
      |succ k ihk=>
       intro i hi;have xY:=hf i aa;have:i<xs.length:=aa;rw[zak this]at xY;obtain⟨ys1,g1,g2⟩:=ih _ _ _ _ _ h1 xY;obtain⟨ys2,g3,g4⟩:=ihk (i+1) aa;refine⟨ys1++ys2,y0 _ _ _ _ g1 g3,?_⟩;rw[c8];rw[<-e1]at g2;refine⟨_,_,?_,g2,g4⟩;rw[Nat.add_mul,Nat.one_mul,<-zaP,zaA]
     obtain⟨ys,g1,g2⟩:=main m 0 aa;exact⟨ys,g1,by simpa using g2⟩
  ·cases h'
end
end
end Go.Dv
namespace Go.Dv
open Go Go.ChangeShapes Go.WideShapes Go.Deep Go.RowKit
section
def En:List (Bool×List CT)->List PV->Prop
 |[],xs=>xs=[]
 |p::r,xs=>∃y ys,xs=y::ys/\(p.1=true→∃zs,y=.agg zs/\jO p.2 zs)/\(p.1=false->jO p.2 [y])/\En r ys
def Mu(P:Program)(ts:List TypeId):List (Bool×Option (List CT)):=ts.map λt=>(AS P t,vg P 8 t)
section
variable {H:Type} {enc:TypeId×Value->H} {P:Program} {w:World} {base:Nat}
def TA{n:Nat}{t:TypeId}{c:List CT}{v:Value}{r:Reach}{b0:Nat}(hf:vg P n t=some c)(ha:AS P t=false)(hv:Value.okWide P w r b0 t v):v.cells.toList=[v]:=by
 cases n with
 |zero=>cases hf
 |succ n=>
  have h':(match P.underlying t with
   |some .bool=>some [CT.bool]
   |some (.int k)=>some [CT.int k]
   |some .string=>some [CT.str]
   |some (.slice e)=>(vg P n e).bind λcs=>bif Nat.beq cs.length (P.cellsOf e)&&Nat.ble 1 cs.length&&(AS P e||Nat.beq cs.length 1)then some [CT.sl (AS P e) cs]else none
   |some (.struct fs)=>(Fe P (vg P n) fs.toList 0).bind λcs=>bif Nat.beq cs.length (P.cellsOf t)then some cs else none
   |some (.array m e)=>bif Nat.ble m 64 then(vg P n e).bind λcs=>bif Nat.beq cs.length (P.cellsOf e)&&Nat.beq (m*cs.length) (P.cellsOf t)then some (acI cs m)else none else none
   |_=>none)=some c:=hf
  unfold AS at ha;split at h'
  ·rename_i ht;obtain⟨b,rfl⟩:=okWide_bool ht hv;rfl
  ·rename_i ht;obtain⟨b,rfl⟩:=okWide_int ht hv;rfl
  ·rename_i ht;obtain⟨b,rfl⟩:=okWide_string ht hv;rfl
  ·rename_i ht;obtain⟨a,l,c,rfl⟩:=okWide_slice ht hv;rfl
  ·rename_i ht;rw[ht]at ha;cases ha
  ·rename_i ht;rw[ht]at ha;cases ha
  ·cases h'
def abE(ok:Nat->Prop)(ep:∀b,b<w.heap.size->ok b){sp:Nat->Bool}{held:Bool}{r:Reach}{b0:Nat}:∀(ts:List TypeId) (sig:List (Bool×List CT)) (vs:List Value) (ds:List (DataW H)) (ps:List MemPlace),
 Mu P ts=sig.map (λp=>(p.1,some p.2))->(∀(j:Nat) t v,ts[j]?=some t->vs[j]?=some v->Value.okWide P w r b0 t v)->DataW.TrodAll enc P w base sp held ts vs ds ps→∃xs,En sig xs/\cE ok w xs vs:=by
 intro ts
 induction ts with
 |nil=>
  intro sig vs ds ps hs _ h;obtain⟨rfl,rfl,rfl⟩:=trodAll_nil h;cases sig with
  |nil=>exact⟨[],by simp[En],oZ⟩
  |cons=>simp[Mu]at hs
 |cons t ts ih=>
  intro sig vs ds ps hs zZ h;obtain⟨v,Hq,d,ds',p,q,rfl,rfl,rfl,h1,h2⟩:=trodAll_cons h;cases sig with
  |nil=>simp[Mu]at hs
  |cons s sig=>
   simp only[Mu,zav,List.cons.injEq,Prod.mk.injEq]at hs;obtain⟨⟨lZ,LX⟩,hs3⟩:=hs;obtain⟨xs,g1,g2⟩:=ih sig Hq ds' q hs3 (λj t v ht hv=>zZ (j+1) t v (by simpa using ht) (by simpa using hv)) h2;obtain⟨k,hk⟩:=h1;obtain⟨ys,g3,g4⟩:=adu ok ep 8 k t _ _ _ LX hk;have hv:=zZ 0 t v rfl rfl;cases Gv:AS P t with
   |false=>
    rw[TA LX Gv hv]at g4
    match ys,g4 with
    |[],g4=>simp only[cE]at g4;cases g4
    |y::ys,g4=>
     simp only[cE]at g4;obtain⟨v',r,e,g5,g6⟩:=g4;injection e with e1 e2
     subst e1;subst e2;have:ys=[]:=by
      cases ys with
      |nil=>rfl
      |cons z zs=>simp only[cE]at g6;obtain⟨_,_,e,_⟩:=g6;cases e
     subst this;refine⟨y::xs,?_,?_⟩
     ·simp only[En];exact⟨y,xs,rfl,λh=>absurd (lZ.trans h) (by rw[Gv];decide),λ_=>g3,g1⟩
     ·simp only[cE];exact⟨v,Hq,rfl,g5,g2⟩
   |true=>
    have iq:∃cs,v=.agg cs:=by
     unfold AS at Gv;split at Gv
     ·rename_i fs h;obtain⟨cs,h,_⟩:=okWide_struct h hv;exact⟨cs,h⟩
     ·rename_i m e h;simp only[Value.okWide,h]at hv;obtain⟨cs,h1,_⟩:=hv;exact⟨cs,h1⟩
     ·cases Gv
    obtain⟨cs,rfl⟩:=iq;refine⟨.agg ys::xs,?_,?_⟩
    ·simp only[En];exact⟨_,xs,rfl,λ_=>⟨ys,rfl,g3⟩,λh=>absurd (lZ.trans h) (by rw[Gv];decide),g1⟩
    ·simp only[cE,Rd];exact⟨_,Hq,rfl,⟨λc hc=>by exact Dr _ _ g3 c hc,cs,rfl,by simpa[Value.cells]using g4⟩,g2⟩
def Ws{f:FuncId}{S:Spec}(h:bM P f S)(L0:S.mu=false){sig:List (Bool×List CT)}(ec:∀xs,En sig xs->S.run xs λr=>r=.pv (.bool true)){ts:List TypeId}(aDc:Mu P ts=sig.map (λp=>(p.1,some p.2)))
 {args:Array Value} {ds:List (DataW H)} {ps:List MemPlace} {r:Reach} {b0:Nat} (zZ:∀(j:Nat) t v,ts[j]?=some t->args.toList[j]?=some v->Value.okWide P w r b0 t v) (hA:DataW.TrodAll enc P w 0 (λ_=>true) true ts args.toList ds ps):
 Calls P f args w λe w'=>e=.returned (.bool true)/\Below w.heap.size w w':=by
 obtain⟨xs,h1,h2⟩:=abE (λb=>b<w.heap.size) (λ_ hb=>hb) ts sig _ _ _ aDc zZ hA;exact TQ h L0 h2 (ec xs h1)
end
def aeb{α:Type}{g:α->PV}{q:α->Prop}:∀{ak:List PV},(∀y∈ak,∃t,y=g t/\q t)→∃l:List α,ak=l.map g∧∀t∈l,q t:=by
 intro ak
 induction ak with
 |nil=>intro _;exact⟨[],rfl,ae⟩
 |cons y ys ih=>
  intro h;obtain⟨t,rfl,ht⟩:=h y ae;obtain⟨l,rfl,hl⟩:=ih λz hz=>h z (by simp[hz])
  exact⟨t::l,rfl,by simpa using⟨ht,hl⟩⟩
end
end Go.Dv
namespace Go.Dv
def dY{K:Bool->Prop}(k:K false):∀r:Bool,(r=true↔(true=false))->K r:=λr hr=>by
 cases r with
 |false=>exact k
 |true=>exact absurd (hr.1 rfl) af
def gj{K:Bool->Prop}(k:K true):∀r:Bool,(r=true↔(false=false))->K r:=λr hr=>by
 cases r with
 |true=>exact k
 |false=>exact absurd (hr.2 rfl) af
def ai{p:Prop}{K:Bool->Prop}(h:p)(k:K true):∀b:Bool,(b=true↔p)->K b:=λb hb=>by
 rw[hb.2 h];exact k
def ar{p:Prop}{K:Bool->Prop}(h:¬p)(k:K false):∀b:Bool,(b=true↔p)->K b:=λb hb=>by
 cases b with
 |false=>exact k
 |true=>exact absurd (hb.1 rfl) h
def MAX{a b:Int}{K:Int->Prop}(k:K (max a b)):∀r:Int,r=max a b->K r:=λr hr=>by subst hr;exact k
def MIN{a b:Int}{K:Int->Prop}(k:K (min a b)):∀r:Int,r=min a b->K r:=λr hr=>by subst hr;exact k
def QUO{a b:Int}{K:Int->Prop}(h:0<=a/\0<b/\a<=9223372036854775807)(k:K (a/b)):b≠0∧∀r:Int,r=IntKind.i64.wrap (a.tdiv b)->K r:=by
 refine⟨aa,λr hr=>?_⟩;rw[Int.tdiv_eq_ediv_of_nonneg h.1]at hr;have h1:=Int.ediv_le_self b h.1;have h2:=Int.ediv_nonneg h.1 (Int.le_of_lt h.2.1);rw[wrap64 aa]at hr;subst hr;exact k
def REM{a b:Int}{K:Int->Prop}(h:0<=a/\0<b)(k:K (a%b)):b≠0∧∀r:Int,r=a.tmod b->K r:=by
 refine⟨aa,λr hr=>?_⟩;rw[Int.tmod_eq_emod_of_nonneg h.1]at hr;subst hr;exact k
def aBM{l:List UInt8}{i:Int}{K:UInt8->Prop}(h:0<=i/\i<l.length)(k:∀x,l[i.toNat]?=some x->K x):∃b,(0<=i/\l[i.toNat]?=some b)/\K b:=by
 have aS:i.toNat<l.length:=aa;exact⟨l[i.toNat],⟨h.1,zak aS⟩,k _ (zak aS)⟩
def OWN{α:Type}{f:α->PV}{l:List α}{i:Int}{p:Prop}(h:0<=i/\i<l.length)(k:p):(0<=i/\i.toNat<(l.map f).length)/\p:=by
 rw[zan];exact⟨⟨h.1,aa⟩,k⟩
def U8{n:Int}{K:Int->Prop}(h:0<=n/\n<=255)(k:K n):∀r:Int,r=IntKind.u8.wrap n->K r:=λr hr=>by
 have e:IntKind.u8.wrap n=n:=by
  have hb:IntKind.u8.bits=8:=rfl;simp only[IntKind.wrap,IntKind.signed,hb];simp;omega
 rw[hr,e];exact k
def U8m{n:Int}{K:Int->Prop}(k:K (n%256)):∀r:Int,r=IntKind.u8.wrap n->K r:=λr hr=>by
 have e:IntKind.u8.wrap n=n%256:=by
  have hb:IntKind.u8.bits=8:=rfl;simp only[IntKind.wrap,IntKind.signed,hb];simp
 rw[hr,e];exact k
def aBZ{α:Type}{f:α->PV}{l:List α}{i:Nat}{K:PV->Prop}(h:i<l.length)(k:∀x,l[i]?=some x->K (f x)):∃y,(0<=(i:Int)/\(l.map f)[(i:Int).toNat]?=some y)/\K y:=
 ⟨f l[i],⟨aa,I_⟩,k _ (zak h)⟩
def eX(R:List PV->Prop->Prop):Spec:=mkS true true λps K=>∃p,R ps p∧∀r:Bool,(r=true↔p)->K (.pv (.bool r))
def ap_(R:List PV->Prop->Prop):LO (eX R):=by
 refine⟨λ_=>⟨rfl,λps K h=>?_⟩,λ_ _ h=>h,rfl⟩;obtain⟨p,h1,h2⟩:=h;refine⟨.bool (@decide p (Classical.propDecidable p)),h2 _ ae,λK' h=>⟨p,h1,λr hr=>?_⟩⟩;have:r= @decide p (Classical.propDecidable p):=by
  cases r<;>simp_all
 rw[this];exact h
def aBS{l:List UInt8}{i:Int}{K:UInt8->Prop}(h:0<=i/\i<l.length)(k:∀x,l[i.toNat]?=some x->x.toNat<256->K x):∃b,(0<=i/\l[i.toNat]?=some b)/\K b:=by
 have aS:i.toNat<l.length:=aa;exact⟨l[i.toNat],⟨h.1,zak aS⟩,k _ (zak aS) (zch _)⟩
def aBz{op:BinOp}{j:IntKind}{a b:Int}{K:Int->Prop}(k:K (hY op j a b)):∀r:Int,r=hY op j a b->K r:=λr hr=>by rw[hr];exact k
def aj(P:Program)(f:Nat)(pc:PC)(ps:List Nat)(rs:List (Nat×Option (Bool×Nat)))(np:Nat):Prop:=
 ∃fn c l,P.funcs[f]?=some fn/\(fn.name== "runtime.NumGoroutine")=false/\fn.body=some c/\uH P fn.ntmps c=some (strip pc)/\fn.results=List.toArray l/\l.map (Mj P)=rs.map some/\l.length<=4/\np<=fn.ntmps
def mkC{P:Program}{f:Nat}{pc:PC}{ps:List Nat}{rs:List (Nat×Option (Bool×Nat))}{np:Nat}(fn:Func)
 (h:(P.funcs[f]?,(fn.name== "runtime.NumGoroutine"),fn.body.map (uH P fn.ntmps),fn.results.toList.map (Mj P),Nat.ble fn.results.toList.length 4,Nat.ble np fn.ntmps)=(some fn,false,some (some (strip pc)),rs.map some,true,true)):aj P f pc ps rs np:=by
 simp only[Prod.mk.injEq]at h;obtain⟨h1,h2,h3,h4,h5,h6⟩:=h;cases hb:fn.body with
 |none=>rw[hb]at h3;cases h3
 |some c=>
  rw[hb]at h3;exact⟨fn,c,fn.results.toList,h1,h2,hb,Option.some.inj h3,ae,h4,za3 h5,za3 h6⟩
def aj.sound{P:Program}{f:Nat}{pc:PC}{ps:List Nat}{rs:List (Nat×Option (Bool×Nat))}{np:Nat}(w:aj P f pc ps rs np)(hm:P.follows .mixedOrders=true){Γ:Ctx}{S:Spec}(hΓ:Sound P Γ)(hS:LO S)(dO:∀args K,S.run args K->args.length=np)(h:ay Γ ps pc rs S):bM P f S:=by
 obtain⟨fn,c,l,h1,h2,h3,h4,h5,h6,h7,h8⟩:=w;exact RO hΓ hm h1 h2 h3 h4 h5 h6 h7 hS np h8 dO h
def aj.Zm{P:Program}{f:Nat}{pc:PC}{ps:List Nat}{rs:List (Nat×Option (Bool×Nat))}{np:Nat}(w:aj P f pc ps rs np)(hm:P.follows .mixedOrders=true){Γ:Ctx}{um:List AV->aw->(AV->aw->Prop)->Prop}(hΓ:Sound P Γ)(dO:∀xs σ K,um xs σ K->xs.length=np)(h:ki Γ ps pc rs (x3 um)):bM P f (x3 um):=by
 obtain⟨fn,c,l,h1,h2,h3,h4,h5,h6,h7,h8⟩:=w;exact N3 hΓ hm h1 h2 h3 h4 h5 h6 h7 np h8 dO h
def aj.O0{P:Program}{f:Nat}{pc:PC}{ps:List Nat}{rs:List (Nat×Option (Bool×Nat))}{np:Nat}(w:aj P f pc ps rs np)(hm:P.follows .mixedOrders=true){Γ:Ctx}{S:Spec}{pe:TypeId}{psz:Nat}(hΓ:Sound P Γ)(hS:LO S)(dO:∀args K,S.run args K->args.length=np)(h:Fc pe psz Γ ps pc rs S):bM P f S:=by
 obtain⟨fn,c,l,h1,h2,h3,h4,h5,h6,h7,h8⟩:=w;exact NX hΓ hm h1 h2 h3 h4 h5 h6 h7 hS np h8 dO h
def CS(P:Program)(l:List (Nat×Spec)):Prop:=List.rec True (λa _ ih=>bM P a.1 a.2/\ih) l
def CS.ok{P:Program}:∀l,CS P l->Sound P (ax l)
 |[],_=>wI
 |(_,_)::l,⟨a,b⟩=>bT a (CS.ok l b)
def aj.snd{P:Program}{f:Nat}{pc:PC}{ps:List Nat}{rs:List (Nat×Option (Bool×Nat))}{np:Nat}(w:aj P f pc ps rs np){Γ:List (Nat×Spec)}{S:Spec}(hΓ:CS P Γ)(h:ay (ax Γ) ps pc rs S)(hm:P.follows .mixedOrders=true:=by exact mixed)(hS:LO S:=by first|exact Mi _|exact ap_ _|exact Jb _ _|exact af2 _ _)(ha:∀args K,S.run args K->args.length=np:=by first|(rintro _ _ ⟨_,⟨_,rfl,_⟩,_⟩;rfl)|(rintro _ _ ⟨_,⟨_,_,rfl,_⟩,_⟩;rfl)|(rintro _ _ ⟨_,⟨_,_,_,rfl,_⟩,_⟩;rfl)|(rintro _ _ ⟨_,rfl,_⟩;rfl)|(rintro _ _ ⟨_,⟨_,_,_,_,rfl,_⟩,_⟩;rfl)|(rintro _ _ ⟨_,_,rfl,_⟩;rfl)|(rintro _ _ ⟨_,⟨_,_,_,_,_,_,rfl,_⟩,_⟩;rfl)|(rintro _ _ ⟨_,_,_,rfl,_⟩;rfl)|(rintro _ _ ⟨_,⟨_,_,_,_,_,rfl,_⟩,_⟩;rfl)|(rintro _ _ ⟨_,_,_,_,rfl,_⟩;rfl)|(rintro _ _ ⟨_,⟨_,_,_,_,_,_,_,_,_,_,_,_,_,_,_,_,_,_,_,rfl,_⟩,_⟩;rfl)|(rintro _ _ ⟨_,⟨rfl,_⟩,_⟩;rfl)|(rintro _ _ ⟨_,⟨_,_,_,_,_,_,_,rfl,_⟩,_⟩;rfl)):bM P f S:=w.sound hm (CS.ok _ hΓ) hS ha h
def aj.IQ{P:Program}{f:Nat}{pc:PC}{ps:List Nat}{rs:List (Nat×Option (Bool×Nat))}{np:Nat}(w:aj P f pc ps rs np){Γ:List (Nat×Spec)}{um:List AV->aw->(AV->aw->Prop)->Prop}(hΓ:CS P Γ)(h:ki (ax Γ) ps pc rs (x3 um))(hm:P.follows .mixedOrders=true:=by exact mixed)(ha:∀xs σ K,um xs σ K->xs.length=np:=by first|(rintro _ _ _ ⟨_,rfl,_⟩;rfl)|(rintro _ _ _ ⟨_,_,rfl,_⟩;rfl)|(rintro _ _ _ ⟨_,_,_,rfl,_⟩;rfl)|(rintro _ _ _ ⟨_,_,_,_,rfl,_⟩;rfl)|(rintro _ _ _ ⟨_,_,_,_,_,rfl,_⟩;rfl)|(rintro _ _ _ ⟨_,_,_,_,_,_,rfl,_⟩;rfl)|(rintro _ _ _ ⟨_,_,_,_,_,_,_,rfl,_⟩;rfl)|(rintro _ _ _ ⟨_,_,_,_,_,_,_,_,rfl,_⟩;rfl)|(rintro _ _ _ ⟨_,_,_,_,_,_,_,_,_,rfl,_⟩;rfl)):bM P f (x3 um):=w.Zm hm (CS.ok _ hΓ) ha h
end Go.Dv
namespace Go.Dv.Sh
abbrev t(n:Nat):Operand:=.tmp n
abbrev k(n:Int):Operand:=.const (.int .i64 n)
abbrev o(d:Nat)(p:PK):PO:=⟨some d,none,p⟩
abbrev O(p:PK):PO:=⟨none,none,p⟩
abbrev q(g:Nat)(p:PO):PO:=⟨p.dst,some (g,true),p.k⟩
abbrev Q(g:Nat)(p:PO):PO:=⟨p.dst,some (g,false),p.k⟩
abbrev m(d x:Nat):PO:=⟨some d,none,.mv (.tmp x)⟩
abbrev M(d:Nat)(n:Int):PO:=⟨some d,none,.mv (.const (.int .i64 n))⟩
abbrev b(d:Nat)(p:BinOp)(x y:Nat):PO:=⟨some d,none,.bin p (.tmp x) (.tmp y)⟩
abbrev B(d:Nat)(p:BinOp)(x:Nat)(y:Int):PO:=⟨some d,none,.bin p (.tmp x) (.const (.int .i64 y))⟩
abbrev l(d x:Nat):PO:=⟨some d,none,.load false 1 (.tmp x)⟩
abbrev L(d n x:Nat):PO:=⟨some d,none,.load true n (.tmp x)⟩
abbrev f(d p x:Nat):PO:=⟨some d,none,.fldA p (.tmp x)⟩
abbrev i(d s x y:Nat):PO:=⟨some d,none,.idxA s (.tmp x) (.tmp y)⟩
abbrev e(d x n:Nat):PO:=⟨some d,none,.ext (.tmp x) n⟩
abbrev s(n x y:Nat):PO:=⟨none,none,.store n (.tmp x) (.tmp y)⟩
abbrev n(d x:Nat):PO:=⟨some d,none,.lenR (.tmp x)⟩
abbrev N(d x:Nat):PO:=⟨some d,none,.lenN (.tmp x)⟩
abbrev c(d f:Nat)(l:List Operand):PO:=⟨some d,none,.call f l⟩
abbrev u(d x:Nat):PO:=⟨some d,none,.un .not (.tmp x)⟩
end Go.Dv.Sh
namespace Go.Dv
section
abbrev pI(n:Int):PV:=.int .i64 n
abbrev eN(k:Nat)(n:Int):Nat×AV:=(k,.pv (pI n))
abbrev pB(b:Bool):PV:=.bool b
def Md{n:Nat}{w:Nat}(h:n<2^w):(BitVec.ofInt w (n:Int)).toNat=n:=by
 rw[BitVec.ofInt_natCast,BitVec.toNat_ofNat,Nat.mod_eq_of_lt h]
def YO{n:Nat}(h:n<2^62):IntKind.i64.wrap (n:Int)=n:=by
 have:(2:Nat)^62=4611686018427387904:=af;exact wrap64 aa
def awY{a b:Nat}(ha:a<2^62)(hb:b<2^62):hY .or .i64 (a:Int) (b:Int)=((a|||b:Nat):Int):=by
 unfold hY;have h1:=Nat.or_lt_two_pow ha hb;have e:IntKind.i64.bits=64:=rfl;simp only[e,BitVec.toNat_or];rw[Md (zag ha af),Md (zag hb af)];exact YO h1
def Zz{a k b:Nat}(h:a<2^k):a|||(2^k*b)=a+2^k*b:=by
 rw[Nat.or_comm,<-Nat.two_pow_add_eq_or_of_lt h,Nat.add_comm]
def CJ(n:Nat):UInt8:=UInt8.ofNat n
def Re{n:Nat}(h:n<256):(CJ n).toNat=n:=by simp[CJ];omega
def aar{n:Int}(h:0<=n/\n<256):PV.int .u8 n=aR (CJ n.toNat):=by
 unfold aR;rw[Re aa];congr 1;omega
def fH{a b:Int}(h:a=b):pI a=pI b:=by rw[h]
def ax7{l:List UInt8}{i:Nat}{K:PV->Prop}(h:i<l.length)(k:∀x,l[i]?=some x->x.toNat<256->K (aR x)):∃y,(0<=(i:Int)/\(l.map aR)[(i:Int).toNat]?=some y)/\K y:=
 ⟨aR l[i],⟨aa,I_⟩,k _ (zak h) (zch _)⟩
def atK{l:List UInt8}{i:Nat}{K:PV->Prop}(h:i<l.length)(k:∀x,l[i]?=some x->x.toNat<256->K (aR x)):∃y,(l.map aR)[(i:Int).toNat]?=some y/\K y:=
 ⟨aR l[i],I_,k _ (zak h) (zch _)⟩
def U64{n:Int}{K:Int->Prop}(h:0<=n/\n<=9223372036854775807)(k:K n):∀r:Int,r=IntKind.u64.wrap n->K r:=λr hr=>by
 have e:IntKind.u64.wrap n=n:=by
  have hb:IntKind.u64.bits=64:=rfl;simp only[IntKind.wrap,IntKind.signed,hb];simp;omega
 rw[hr,e];exact k
def ael{j:IntKind}{a:Int}{K:Int->Prop}(h:0<=a)(k:K (a/2)):0<=(1:Int)∧∀r:Int,r=a.fdiv (2^min (1:Int).toNat j.bits)->K r:=by
 refine⟨af,λr hr=>?_⟩;have e8:min (1:Int).toNat j.bits=1:=by cases j<;>decide
 rw[e8,Int.fdiv_eq_ediv_of_nonneg _ af]at hr;rw[hr];exact k
def aok{α:Type}{f:α->PV}{l:List α}{i:Nat}{x:α}{K:PV->Prop}(h:l[i]?=some x)(k:K (f x)):∃y,(0<=(i:Int)/\(l.map f)[(i:Int).toNat]?=some y)/\K y:=
 ⟨f x,⟨aa,by rw[zcl,zbC,h];rfl⟩,k⟩
def ayX{α:Type}{f:α->PV}{l:List α}{i:Int}{x:α}{K:PV->Prop}(h0:0<=i)(h:l[i.toNat]?=some x)(k:K (f x)):∃y,(0<=i/\(l.map f)[i.toNat]?=some y)/\K y:=
 ⟨f x,⟨h0,by rw[zbC,h];rfl⟩,k⟩
def avH{α:Type}{f:α->PV}{l:List α}{i:Nat}{x:α}{K:PV->Prop}(h:l[i]?=some x)(k:K (f x)):∃y,(l.map f)[i]?=some y/\K y:=
 ⟨f x,by rw[zbC,h];rfl,k⟩
def avQ{α:Type}{f:α->PV}{l:List α}{i:Nat}{x:α}{K:PV->Prop}(h:l[i]?=some x)(k:K (f x)):∃y,(l.map f)[(i:Int).toNat]?=some y/\K y:=
 ⟨f x,by rw[zcl,zbC,h];rfl,k⟩
def gRA{p:RV->Prop}(x:RV)(h:p x):∃x,p x:=⟨x,h⟩
def gRB{p:List RV->Prop}(x:List RV)(h:p x):∃x,p x:=⟨x,h⟩
def gRC{k:Nat}{p:Nat->Prop}(x:Nat)(h:x<k)(g:p x):∃x,x<k/\p x:=⟨x,h,g⟩
def BTS{l:List UInt8}{K:List UInt8->Prop}(k:K l):∃l',l.map aR=l'.map aR/\K l':=⟨l,rfl,k⟩
def HN{α β:Type}{f:α->β}{a b:Nat}{l:List α}:cut a b (l.map f)=(cut a b l).map f:=by simp[cut]
def HK{α:Type}{a b:Nat}{l:List α}(h:b<=l.length):(cut a b l).length=b-a:=by simp[cut];omega
def ee{α:Type}{l:List α}{x:α}:x∈l↔∃i:Nat,l[i]?=some x:=zaB
def aZ{α:Type}{l:List α}{i:Nat}{x:α}(h:l[i]?=some x):i<l.length:=by
 by_cases hi:i<l.length
 ·exact hi
 ·rw[zaK aa]at h;cases h
def get_inj{α:Type}{l:List α}{i:Nat}{x y:α}(h:l[i]?=some x)(h':l[i]?=some y):x=y:=Option.some.inj (h.symm.trans h')
def jL{α β:Type}{f:α->β}{l:List α}{i:Nat}{x:α}:(l.map f).set i (f x)=(l.set i x).map f:=by rw[List.map_set]
def MS{α:Type}(f:Nat->α)(n:Nat):List α:=(List.range n).map f
section
variable {α:Type} {f g:Nat->α} {n:Nat}
@[simp] theorem Vl:(MS f n).length=n:=by simp[MS]
def wB{i:Nat}(h:i<n):(MS f n)[i]?=some (f i):=by simp[MS,h]
def HB(h:∀i,i<n->f i=g i):MS f n=MS g n:=by
 unfold MS;apply zbA;intro i hi;exact h i (by simpa using hi)
def qP{i:Nat}{x:α}:(MS f n).set i x=MS (λj=>if j=i then x else f j) n:=by
 apply zbb;intro j;by_cases hj:j<n
 ·rw[wB hj];by_cases h:j=i
  ·subst h;simp[hj]
  ·rw[List.getElem?_set_ne aa,wB hj,if_neg h]
 ·rw[zaK aT,zaK aT]
def ajB{l:List α}(h:∀i x,l[i]?=some x->x=f i):l=MS f l.length:=by
 apply zbb;intro i;by_cases hi:i<l.length
 ·rw[wB hi,zak hi];exact congrArg some (h i _ (zak hi))
 ·rw[zaK aa,zaK aT]
def P8{F:α->PV}{i:Nat}{K:PV->Prop}(h:i<n)(k:K (F (f i))):∃y,((MS f n).map F)[i]?=some y/\K y:=⟨_,by rw[zbC,wB h];rfl,k⟩
def QI{F:α->PV}{i:Int}{p:Prop}(h:0<=i/\i<n)(k:p):(0<=i/\i.toNat<((MS f n).map F).length)/\p:=by
 rw[zan,Vl];exact⟨⟨h.1,aa⟩,k⟩
end
end
section
section
variable {α:Type}
def Lv(f:Nat->α)(a n:Nat):List α:=(List.range n).map λi=>f (a+i)
def AB(f:Nat->α)(a n k:Nat):Lv f a (n+k)=Lv f a n++Lv f (a+n) k:=by
 unfold Lv;rw[List.range_add,zaD,List.map_map];congr 1;apply zbA;intro i _;simp[Nat.add_assoc]
def Mw{f g:Nat->α}{a n:Nat}(h:∀j,a<=j->j<a+n->f j=g j):Lv f a n=Lv g a n:=by
 unfold Lv;apply zbA;intro i hi;exact h _ aa (by simp at hi;omega)
def Vy(f:Nat->α)(n:Nat):Lv f 0 n=MS f n:=by
 unfold Lv MS;simp
def U9{f:Nat->α}{a n:Nat}{x:α}:x∈Lv f a n↔∃j,a<=j/\j<a+n/\f j=x:=by
 unfold Lv;rw[zaX];constructor
 ·rintro⟨i,hi,rfl⟩;exact⟨a+i,aa,by simp at hi;omega,rfl⟩
 ·rintro⟨j,h1,h2,rfl⟩;exact⟨j-a,aT,by rw[show a+(j-a)=j by omega]⟩
def cV(a b:Nat)(f g:Nat->α):Prop:=(Lv g a (b-a)).Perm (Lv f a (b-a))∧∀j,¬(a<=j/\j<b)->g j=f j
def cV.refl(a b:Nat)(f:Nat->α):cV a b f f:=⟨.refl _,λ_ _=>rfl⟩
def cV.trans{a b:Nat}{f g h:Nat->α}(p:cV a b f g)(q:cV a b g h):cV a b f h:=
 ⟨q.1.trans p.1,λj hj=>(q.2 j hj).trans (p.2 j hj)⟩
def cV.wide{a b c d:Nat}{f g:Nat->α}(p:cV a b f g)(h1:c<=a)(h2:b<=d)(h3:a<=b):cV c d f g:=by
 refine⟨?_,λj hj=>p.2 j aa⟩;have e:d-c=(a-c)+((b-a)+(d-b)):=aa;rw[e,AB,AB,AB f,AB f];rw[show c+(a-c)=a by omega,show a+(b-a)=b by omega];rw[Mw (f:=g) (g:=f) (a:=c) (n:=a-c) λj h4 h5=>p.2 j aa,Mw (f:=g) (g:=f) (a:=b) (n:=d-b) λj h4 h5=>p.2 j aa];exact(p.1.append_right _).append_left _
def cV.mem{a b:Nat}{f g:Nat->α}(p:cV a b f g){j:Nat}(h1:a<=j)(h2:j<b):∃i,a<=i/\i<b/\g j=f i:=by
 have:g j∈Lv g a (b-a):=U9.2 ⟨j,h1,aa,rfl⟩;obtain⟨i,h3,h4,h5⟩:=U9.1 (p.1.mem_iff.1 this);exact⟨i,h3,aa,h5.symm⟩
def cV.all{a b:Nat}{f g:Nat->α}{P:α->Prop}(p:cV a b f g)(h:∀j,P (f j))(j:Nat):P (g j):=by
 by_cases hj:a<=j/\j<b
 ·obtain⟨i,_,_,e⟩:=p.mem hj.1 hj.2;rw[e];exact h i
 ·rw[p.2 j hj];exact h j
def cV.perm{n:Nat}{f g:Nat->α}(p:cV 0 n f g):(MS g n).Perm (MS f n):=by
 have:=p.1;rw[zb5,Vy,Vy]at this;exact this
def vN(f:Nat->α)(i j:Nat):Nat->α:=λk=>if k=j then f i else if k=i then f j else f k
def JP(f:Nat->α){i:Nat}:cV i (i+2) f (vN f i (i+1)):=by
 refine⟨?_,λk hk=>?_⟩
 ·have:∀g:Nat->α,Lv g i (i+2-i)=[g i,g (i+1)]:=by
   intro g;rw[show i+2-i=2 by omega];rfl
  rw[this,this];have s1:vN f i (i+1) i=f (i+1):=by unfold vN;rw[if_neg aa,if_pos rfl]
  have s2:vN f i (i+1) (i+1)=f i:=by unfold vN;rw[if_pos rfl]
  rw[s1,s2];exact .swap _ _ _
 ·unfold vN;rw[if_neg aa,if_neg aa]
def fD(f:Nat->α)(a m b:Nat):Nat->α:=λj=>if a<=j/\j<a+(b-m)then f (j+(m-a))else if a+(b-m)<=j/\j<b then f (j-(b-m))else f j
def WJ(f:Nat->α){a m b:Nat}(h1:a<=m)(h2:m<=b):cV a b f (fD f a m b):=by
 refine⟨?_,λj hj=>?_⟩
 ·have e:b-a=(b-m)+(m-a):=by omega
  have e1:Lv (fD f a m b) a (b-m)=Lv f m (b-m):=by
   unfold Lv;apply zbA;intro i hi;simp at hi;unfold fD;rw[if_pos aa];congr 1;omega
  have e2:Lv (fD f a m b) (a+(b-m)) (m-a)=Lv f a (m-a):=by
   unfold Lv;apply zbA;intro i hi;simp at hi;unfold fD;rw[if_neg aa,if_pos aa];congr 1;omega
  rw[e,AB,e1,e2,Nat.add_comm (b-m),AB,show a+(m-a)=m by omega];exact List.perm_append_comm
 ·unfold fD;rw[if_neg aa,if_neg aa]
def jI(f:Nat->α)(a b n:Nat):Nat->α:=λj=>if a<=j/\j<a+n then f (j-a+b)else if b<=j/\j<b+n then f (j-b+a)else f j
structure Ord(lt:α->α->Bool):Prop where
 asymm:∀x y,lt x y=true->lt y x=false
 trans:∀x y z,lt y x=false->lt z y=false->lt z x=false
variable {lt:α->α->Bool}
def aU(lt:α->α->Bool)(a b:Nat)(f:Nat->α):Prop:=∀i j,a<=i->i<=j->j<b->lt (f j) (f i)=false
def Ord.irrefl(o:Ord lt)(x:α):lt x x=false:=by
 cases h:lt x x with
 |false=>rfl
 |true=>have:=o.asymm x x h;rw[h]at this;cases this
def FY(o:Ord lt){a b:Nat}{f:Nat->α}(h:∀i,a<=i->i+1<b->lt (f (i+1)) (f i)=false):aU lt a b f:=by
 intro i j h1 h2 h3;obtain⟨d,rfl⟩:∃d,j=i+d:=⟨j-i,aa⟩
 clear h2
 induction d with
 |zero=>exact o.irrefl _
 |succ d ih=>exact o.trans _ _ _ (ih aa) (h (i+d) aa aa)
def iA{a m b:Nat}{f:Nat->α}(h1:aU lt a m f)(h2:aU lt m b f)(h:∀i j,a<=i->i<m->m<=j->j<b->lt (f j) (f i)=false):aU lt a b f:=by
 intro i j hi iT hj;by_cases h3:j<m
 ·exact h1 i j hi iT h3
 ·by_cases h4:i<m
  ·exact h i j hi h4 aa hj
  ·exact h2 i j aa iT hj
def Tq{a b c d:Nat}{f:Nat->α}(h:aU lt a b f)(h1:a<=c)(h2:d<=b):aU lt c d f:=λi j hi iT hj=>h i j aa iT aa
def ct{a b:Nat}{f g:Nat->α}(h:aU lt a b f)(e:∀j,a<=j->j<b->g j=f j):aU lt a b g:=λi j hi iT hj=>by
 rw[e j aa hj,e i hi aa];exact h i j hi iT hj
def ua(o:Ord lt){a k i:Nat}{f:Nat->α}(hf:aU lt a i f)(hk:a<=k)(hki:k<=i)(h1:∀j,k<=j->j<i->lt (f i) (f j)=true)(h2:a<k->lt (f i) (f (k-1))=false):
 aU lt a (i+1) (λj=>if j=k then f i else if k<j/\j<=i then f (j-1)else f j):=by
 apply FY o;intro j hj hji;show lt (if j+1=k then f i else if k<j+1/\j+1<=i then f (j+1-1)else f (j+1)) (if j=k then f i else if k<j/\j<=i then f (j-1)else f j)=false;by_cases e1:j+1=k
 ·rw[if_pos e1,if_neg aa,if_neg aa];have:=h2 aa;rw[<-e1]at this;simpa using this
 ·rw[if_neg e1];by_cases e2:j=k
  ·rw[if_pos e2,if_pos aa,zck];exact o.asymm _ _ (h1 j aa aa)
  ·rw[if_neg e2];by_cases e3:k<j
   ·rw[if_pos aa,if_pos aa,zck];exact hf (j-1) j aa aa aa
   ·rw[if_neg aa,if_neg aa];exact hf j (j+1) hj aa aa
def NR(o:Ord lt){a m b mid s e:Nat}{f:Nat->α}(h1:aU lt a m f)(h2:aU lt m b f)(has:a<=s)(hsm:s<=m)(hme:m<=e)(heb:e<=b)(aF4:mid=s+(e-m))
 (hA:a<s->e<b->lt (f e) (f (s-1))=false) (hB:m<e->s<m->lt (f (e-1)) (f s)=true):
 aU lt a s (fD f s m e)/\aU lt s mid (fD f s m e)/\aU lt mid e (fD f s m e)/\aU lt e b (fD f s m e)/\
 (∀i j,a<=i->i<mid->mid<=j->j<b->lt (fD f s m e j) (fD f s m e i)=false):=by
 have r1:∀j,j<s->fD f s m e j=f j:=λj hj=>Eb
 have r2:∀j,s<=j->j<mid->fD f s m e j=f (j+(m-s)):=λj hj Pj=>by unfold fD;rw[if_pos aa]
 have r3:∀j,mid<=j->j<e->fD f s m e j=f (j-(e-m)):=λj hj Pj=>by unfold fD;rw[if_neg aa,if_pos aa]
 have r4:∀j,e<=j->fD f s m e j=f j:=λj hj=>Eb
 refine⟨λi j hi iT hj=>?_,λi j hi iT hj=>?_,λi j hi iT hj=>?_,λi j hi iT hj=>?_,λi j hi him hj hjb=>?_⟩
 ·rw[r1 j hj,r1 i aa];exact h1 i j hi iT aa
 ·rw[r2 j aa hj,r2 i hi aa];exact IT
 ·rw[r3 j aa hj,r3 i hi aa];exact h1 _ _ aa aa aa
 ·rw[r4 j aa,r4 i hi];exact IT
 ·by_cases hi2:i<s
  ·rw[r1 i hi2];by_cases Pj:j<e
   ·rw[r3 j hj Pj];exact h1 _ _ aa aa aa
   ·rw[r4 j aa];refine o.trans _ _ _ (h1 i (s-1) hi aa aa) (o.trans _ _ _ (hA aa aa) (h2 e j hme aa hjb))
  ·rw[r2 i aa him];by_cases Pj:j<e
   ·rw[r3 j hj Pj];refine o.trans _ _ _ (h2 _ (e-1) aa aa aa) (o.trans _ _ _ (o.asymm _ _ (hB aa aa)) (h1 s _ aa aa aa))
   ·rw[r4 j aa];exact IT
end
end
end Go.Dv
namespace Go.Dv
open Go
def acq{y:PV}(h:jO [.str] [y]):∃d:List UInt8,y=.str d/\d.length<=maxLen:=by
 simp only[jO,Fs]at h;obtain⟨_,_,e,⟨l,rfl,hl⟩,rfl⟩:=h;injection e with e _
 subst e;exact⟨l,rfl,hl⟩
end Go.Dv
end
