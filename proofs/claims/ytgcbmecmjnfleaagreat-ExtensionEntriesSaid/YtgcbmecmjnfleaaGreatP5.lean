/- Own work: parts of the proof, shortened and laid together by a tool of our own. -/
import Derived.Test.YtgcbmecmjnfleaaGreatP4
import Derived.KernelRfl
set_option linter.defProp false
set_option linter.unusedSimpArgs false
set_option linter.unusedVariables false
open List renaming getElem?_eq_getElem→zak, mem_of_getElem?→zad, getElem?_eq_some_iff→zaa, length_append→zae, length_map→zan, mem_cons_self→zcM, getElem?_append_right→zam, getElem?_map→zbC, getElem?_set→zaR, map_append→zaD, mem_singleton→zbs, length_take→zal, pairwise_iff_getElem→zbv, getElem?_append_left→zar, take_of_length_le→za1, pairwise_cons→zcN, length_singleton→zbK, eq_nil_of_length_eq_zero→zaf, length_set→zaL, mem_of_mem_take→za4, mem_append→zax, set_set→zcO, length_cons→zap, getElem?_take_of_lt→zcu, take_add_one→zct, mem_cons→zay, length_drop→zbf, map_map→zcR, getElem?_eq_none→zaK, append_assoc→zah, ext_getElem?→zbb, mem_cons_of_mem→zcS, mem_or_eq_of_mem_set→zbF, mem_map→zaX, getElem?_zipWith→zcT, drop_eq_getElem_cons→zcn, map_set→zcV, take_length→zcX, getElem_mem→zcI, append_nil→zaY, length_nil→zaZ, foldl_cons→zbh, map_congr_left→zbA, flatten_cons→zcZ, range_succ→zc0, drop_of_length_le→zc2, flatMap_append→zaz, getElem?_range→zbM, zipIdx_append→zc4, not_mem_nil→zc7, mem_zipIdx'→zc8, mem_flatMap→zbx, drop_drop→zaP
open And renaming intro→zco
open Decidable renaming not_not→zba
open Nat renaming lt_or_eq_of_le→zcp, le_of_lt_succ→zcr, le_refl→zaj, sub_self→zcP, dvd_of_mod_eq_zero→zcQ, min_eq_left→zau, mul_succ→zcU, min_eq_right→zbG, mul_comm→zcY, div_div_eq_div_mul→zc1, mul_le_mul_left→zc3, add_mod_right→zc6
open Bool renaming false_eq_true→zaG
open Int renaming toNat_natCast→zcl, lt_trichotomy→zc5
open Option renaming toList_some→zcW, getD_some→zby
set_option maxHeartbeats 16000000
noncomputable section
namespace Go.Dv.Try
open Go Go.Dv
structure Rc where
 sq:Int
 lk:Int
 fl:Int
 br:Int
 bs:Int
 nx:Int
 ls:Int
 at_:As
def Rc.pv(r:Rc):PV:=.agg [pI r.sq,pI r.lk,pI r.fl,pI r.br,pI r.bs,pI r.nx,pI r.ls,nd r.at_]
inductive Nj(l:List At):PV->(At->Bool)->Prop where
 |single (s:As) (i:Nat) (x:At) (h:s.l[i]?=some x):Nj l (.clo 185 [.cptr (nd s),.cptr (pI i)]) λa=>decide (a.id=x.id)
 |list1:Nj l (.clo 57 []) λa=>decide (a.ty=32)
 |isL:Nj l (.clo 155 []) λa=>decide (a.ty=32)
 |great (h:∀a∈l,a.nm.length<=1000000):Nj l (.clo 64 []) λa=>decide (440<fF a)
 |next (r:Rc):Nj l (.clo 153 [.cptr r.pv]) λa=>decide (r.nx<=a.id)
 |place (k:Ky):Nj l (.clo 165 [.cptr k.pv]) λa=>decide (a.ty≠32/\a.key=k)
def PS(ps:List PV)(p:Prop):Prop:=∃(a:At) (s:As) (i:Nat) (x:At),ps=[a.pv,.cptr (nd s),.cptr (pI i)]/\s.l[i]?=some x/\p=(a.id=x.id)
def Hb:ay (ax []) kL kA kB (eX PS):=by
 rintro _ K ⟨_,⟨a,s,i,x,rfl,hx,rfl⟩,hK⟩
 (repeat'((conv=>whnf);first|rw[Sl.cells]|refine dI hx ?_|refine cA (λ_=>?_) (λ_=>?_)|refine cw ?_|fail))<;>try(conv=>whnf)
 all_goals exact mF
def uN(ps:List PV)(p:Prop):Prop:=∃a:At,ps=[a.pv]/\p=(a.ty=32)
def D6:ay (ax []) rA ru rV (eX uN):=by
 rintro _ K ⟨_,⟨a,rfl,rfl⟩,hK⟩
 (repeat'((conv=>whnf);first|refine cA (λ_=>?_) (λ_=>?_)|fail))<;>try(conv=>whnf)
 all_goals exact mF
def A2:ay (ax []) j6 jX jW (eX uN):=D6
def Iu(ps:List PV)(p:Prop):Prop:=∃a:At,ps=[a.pv]/\p=(a.ty=16)
def Of:ay (ax []) rJ rv su (eX Iu):=by
 rintro _ K ⟨_,⟨a,rfl,rfl⟩,hK⟩
 (repeat'((conv=>whnf);first|refine cA (λ_=>?_) (λ_=>?_)|fail))<;>try(conv=>whnf)
 all_goals exact mF
def UT(ps:List PV)(p:Prop):Prop:=∃a:At,ps=[a.pv]/\a.nm.length<=1000000/\p=(440<fF a)
def Qh:ay (ax [(65,ah mb)]) ll lj lJ (eX UT):=by
 rintro _ K ⟨_,⟨a,rfl,hn,rfl⟩,hK⟩;have e:cz [a]=fF a:=vu
 (repeat'((conv=>whnf);first|refine⟨_,⟨.sl [a],rfl,⟨uX,by simpa[Sl.l]using hn⟩,rfl⟩,?_⟩|refine cA (λ_=>?_) (λ_=>?_)|refine cw ?_|fail))<;>try(conv=>whnf)
 ·rename_i h;have h:440<((cz [a]:Nat):Int):=h;exact⟨.pv (.bool _),rfl,trivial,hK _ (by simp only[true_iff];omega)⟩
 ·rename_i h;have h:¬440<((cz [a]:Nat):Int):=h;exact⟨.pv (.bool _),rfl,trivial,hK _ (by simp only[zaG,false_iff];omega)⟩
def Za(ps:List PV)(p:Prop):Prop:=∃(a:At) (r:Rc),ps=[a.pv,.cptr r.pv]/\p=(r.nx<=a.id)
def SI:ay (ax []) lG lR lK (eX Za):=by
 rintro _ K ⟨_,⟨a,r,rfl,rfl⟩,hK⟩
 (repeat'((conv=>whnf);first|refine cA (λ_=>?_) (λ_=>?_)|fail))<;>try(conv=>whnf)
 all_goals exact mF
def q6(a b:Ky):[pI a.ty,PV.str a.nm,pI a.ft]=[pI b.ty,PV.str b.nm,pI b.ft]↔a=b:=by
 obtain⟨a1,a2,a3⟩:=a;obtain⟨b1,b2,b3⟩:=b;simp[pI]
def Vd(ps:List PV)(p:Prop):Prop:=∃(a:At) (k:Ky),ps=[a.pv,.cptr k.pv]/\p=(a.ty≠32/\a.key=k)
def H7:ay (ax [(155,eX uN),(113,ah Ad)]) oz nV n4 (eX Vd):=by
 rintro _ K ⟨_,⟨a,k,rfl,rfl⟩,hK⟩
 (repeat'((conv=>whnf);first|refine⟨_,⟨a,rfl,rfl⟩,?_⟩|refine dY ?_|refine gj ?_|refine cA (λ_=>?_) (λ_=>?_)|refine cw ?_|fail))<;>try(conv=>whnf)
 ·rename_i h;exact D7
 ·rename_i h1 h2;have h2:=(q6 _ _).1 h2;exact⟨.pv (.bool _),rfl,trivial,hK _ (by simp[h1,h2])⟩
 ·rename_i h1 h2;have h2:=λe=>h2 ((q6 _ _).2 e)
  exact⟨.pv (.bool _),rfl,trivial,hK _ (by simp only[zaG,false_iff];exact λe=>h2 e.2)⟩
def uI(ps:List PV)(x:PV):Prop:=∃(s:As) (c:PV) (p:At->Bool),ps=[nd s,c]/\(s.l.length<=1000000/\Nj s.l c p)/\x=pI (Hx (λa=>p a=true) s.l)
def Ot:ay (ax [(185,eX PS),(57,eX uN),(155,eX uN),(64,eX UT),(153,eX Za),(165,eX Vd)]) bC bz bD (ah uI):=by
 rintro _ K ⟨_,⟨s,c,p,rfl,⟨hl,hc⟩,rfl⟩,hK⟩
 (repeat'((conv=>whnf);first|refine jH ?_|refine gF λ_=>?_|fail))<;>try(conv=>whnf)
 refine⟨λm env σ=>∃n:Nat,(n+m=s.l.length∧∀j,j<n→∀y,s.l[j]?=some y→¬p y=true)/\σ=[]/\env=[(0,.pv (nd s)),(1,.pv c),eN 7 s.l.length,eN 8 n],s.l.length,⟨0,⟨aa,λj hj=>aa⟩,rfl,rfl⟩,?_⟩;rintro m env σ ⟨n,⟨hn,h0⟩,rfl,rfl⟩;have step:∀(b:Bool) (x:At),s.l[n]?=some x->(b=true↔p x=true)->(b=false→∀j,j<n+1→∀y,s.l[j]?=some y→¬p y=true)/\(b=true->Hx (λa=>p a=true) s.l=n):=by
  intro b x hx hb;refine⟨λh j hj y hy=>?_,λh=>Tu h0 hx (hb.1 h)⟩;rcases zcp (zcr hj)with h1|h1
  ·exact h0 j h1 y hy
  ·subst h1;rw[hx]at hy;cases hy;subst h;simpa using hb
 have fin:n=s.l.length->Hx (λa=>p a=true) s.l= -1:=λe=>zf λx hx=>by
  obtain⟨k,hk⟩:=ee.1 hx;exact h0 k oA x hk
 by_cases aS:n<s.l.length
 ·obtain⟨x,hx⟩:∃x,s.l[n]?=some x:=⟨_,zak aS⟩
  have iq:=λb=>step b x hx
  cases hc with
  |single t i y h=>
   (repeat'((conv=>whnf);first|refine dI hx ?_|refine⟨_,⟨x,t,i,y,rfl,h,rfl⟩,?_⟩|refine dJ aa ?_|refine ai aa ?_|refine cA (λ_=>?_) (λ_=>?_)|fail))<;>try(conv=>whnf)
   ·rename_i g;exact vB
   ·rename_i g;exact uS
  |list1=>
   (repeat'((conv=>whnf);first|refine dI hx ?_|refine⟨_,⟨x,rfl,rfl⟩,?_⟩|refine dJ aa ?_|refine ai aa ?_|refine cA (λ_=>?_) (λ_=>?_)|fail))<;>try(conv=>whnf)
   ·rename_i g;exact vB
   ·rename_i g;exact uS
  |isL=>
   (repeat'((conv=>whnf);first|refine dI hx ?_|refine⟨_,⟨x,rfl,rfl⟩,?_⟩|refine dJ aa ?_|refine ai aa ?_|refine cA (λ_=>?_) (λ_=>?_)|fail))<;>try(conv=>whnf)
   ·rename_i g;exact vB
   ·rename_i g;exact uS
  |great h=>
   (repeat'((conv=>whnf);first|refine dI hx ?_|refine⟨_,⟨x,rfl,h x (zad hx),rfl⟩,?_⟩|refine dJ aa ?_|refine ai aa ?_|refine cA (λ_=>?_) (λ_=>?_)|fail))<;>try(conv=>whnf)
   ·rename_i g;exact vB
   ·rename_i g;exact uS
  |next r=>
   (repeat'((conv=>whnf);first|refine dI hx ?_|refine⟨_,⟨x,r,rfl,rfl⟩,?_⟩|refine dJ aa ?_|refine ai aa ?_|refine cA (λ_=>?_) (λ_=>?_)|fail))<;>try(conv=>whnf)
   ·rename_i g;exact vB
   ·rename_i g;exact uS
  |place k=>
   (repeat'((conv=>whnf);first|refine dI hx ?_|refine⟨_,⟨x,k,rfl,rfl⟩,?_⟩|refine dJ aa ?_|refine ai aa ?_|refine cA (λ_=>?_) (λ_=>?_)|fail))<;>try(conv=>whnf)
   ·rename_i g;exact vB
   ·rename_i g;exact uS
 ·(repeat'((conv=>whnf);first|refine ar aa ?_|fail))<;>try(conv=>whnf)
  exact⟨.pv (pI _),fH (fin aa),trivial,hK⟩
def tc(ps:List PV)(q:Prop):Prop:=∃(s:As) (c:PV) (p:At->Bool),ps=[nd s,c]/\(s.l.length<=1000000/\Nj s.l c p)/\q=∃a∈s.l,p a=true
def GV:ay (ax [(56,ah uI)]) bo bp bq (eX tc):=by
 rintro _ K ⟨_,⟨s,c,p,rfl,⟨hl,hc⟩,rfl⟩,hK⟩;rw[<-IK]at hK
 (repeat'((conv=>whnf);first|refine⟨_,⟨s,c,p,rfl,⟨hl,hc⟩,rfl⟩,?_⟩|refine cA (λ_=>?_) (λ_=>?_)|fail))<;>try(conv=>whnf)
 all_goals exact ye
def ae6(ps:List PV)(x:PV):Prop:=∃(s:As) (i:Nat) (a:At),ps=[nd s,pI i]/\(Tm s.l/\s.l[i]?=some a)/\x=pI (Sm s.l i)
def Yb{l:List At}{i:Nat}{a:At}(h:l[i]?=some a):(∃y∈l.take i,decide (y.id=a.id)=true)↔I7 l i:=by
 constructor
 ·rintro⟨y,hy,he⟩;obtain⟨k,hk⟩:=ee.1 hy;have aS:=aZ hk;rw[zal]at aS;rw[zcu aa]at hk;exact⟨k,aa,y,a,hk,h,by simpa using he⟩
 ·rintro⟨k,hk,y,b,h1,h2,h3⟩;rw[h]at h2;cases h2;exact⟨y,zad (by rw[zcu hk];exact h1),uK⟩
def Gy:ay (ax [(63,eX tc),(112,ah OV),(130,ah db),(129,ah eM)]) nr mY nq (ah ae6):=by
 rintro _ K ⟨_,⟨s,i,a,rfl,⟨hs,ha⟩,rfl⟩,hK⟩;have hl:=hs.1;have hi:=aZ ha;have hna:=hs.2 a (zad ha);cases s with
 |nil=>exact absurd hi uX
 |sl l=>
  have hl:l.length<=1000:=hl;have hi:i<l.length:=hi;have ha:l[i]?=some a:=ha;have Hr:=Yb ha;have hK:K (.pv (pI (Sm l i))):=hK;have hE:Sm l i=bF [iu a,if ¬I7 l i then 0 else 23]:=by
   unfold Sm;rw[ha];simp only[bF];by_cases h1:iu a=0<;>by_cases h2:I7 l i<;>simp[h1,h2]
  (repeat'((conv=>whnf);first|refine⟨_,⟨.sl (l.take i),_,λy=>decide (y.id=a.id),(by rw[HN];rfl),⟨Jm,.single (.sl l) i a ha⟩,rfl⟩,?_⟩|refine⟨_,⟨a,rfl,hna,rfl⟩,?_⟩|(refine ko ?_;first|refine dY ?_|refine gj ?_|refine cA (λ_=>?_) (λ_=>?_)|refine aok bL ?_|refine cw ?_|refine⟨_,⟨_,_,rfl,rfl⟩,?_⟩|refine zco jD ?_|refine⟨_,⟨[_,_],rfl,rfl⟩,?_⟩|fail)))<;>try(conv=>whnf)
  ·rename_i h;have h:I7 l i:=Hr.1 h;rw[hE,if_neg (λe=>e h)]at hK;exact aB
  ·rename_i h;have h:¬I7 l i:=λe=>h (Hr.2 e)
   rw[hE,if_pos h]at hK;exact aB
def uT(sg:Int)(p a:At)(c9 c5:Bool)(h9:c9=true↔QO p a<=0)(h5:c5=true↔¬(p.key=a.key/\a.ty≠48)):
 bF [sg,if c9=true then 0 else 9,if c5=true then 0 else 5]=if sg≠0 then sg else nxE p a:=by
 unfold nxE;rw[N0];simp only[h9,h5];by_cases g1:sg=0<;>by_cases g2:QO p a<=0<;>by_cases g3:p.key=a.key/\a.ty≠48;all_goals first
  |(rw[if_neg (show ¬0<QO p a by omega)];simp only[g1,g2,g3,if_true,if_false,ne_eq,not_true_eq_false,not_false_eq_true];(try simp);done)
  |(rw[if_pos (show 0<QO p a by omega)];simp only[g1,g2,g3,if_true,if_false,ne_eq,not_true_eq_false,not_false_eq_true];(try simp);done)
def IV(ps:List PV)(r:RV):Prop:=∃s:As,ps=[nd s]/\Tm s.l/\r=.tup [.pv (pI (cG s.l).1),.pv (pI (cG s.l).2)]
def EY:ay (ax [(128,ah ae6),(131,ah aap),(130,ah db),(132,eX MA),(129,ah eM)]) mh my l_ (gR true IV):=by
 rintro _ K ⟨_,⟨s,rfl,hs,rfl⟩,hK⟩
 (repeat'((conv=>whnf);first|refine jH ?_|refine cA (λ_=>?_) (λ_=>?_)|refine gF λ_=>?_|fail))<;>try(conv=>whnf)
 ·rename_i h;rw[adz aa]at hK;exact aO
 rename_i h;refine⟨λm env σ=>∃n:Nat,(n+m=s.l.length∧∀k,k<n->A1 s.l k=0)/\σ=[]/\env=[(0,.pv (nd s)),(11,.pv (nd s)),eN 12 s.l.length,eN 13 n],s.l.length,⟨0,⟨aa,λk hk=>aa⟩,rfl,rfl⟩,?_⟩;rintro m env σ ⟨n,⟨hn,h0⟩,rfl,rfl⟩;have next:A1 s.l n=0→∀k,k<n+1->A1 s.l k=0:=λhz k hk=>by
  rcases zcp (zcr hk)with h1|h1
  ·exact h0 k h1
  ·rw[h1];exact hz
 by_cases aS:n<s.l.length
 ·obtain⟨a,ha⟩:∃a,s.l[n]?=some a:=⟨_,zak aS⟩
  by_cases KX:0<n
  ·obtain⟨p,hp⟩:∃p,s.l[n-1]?=some p:=⟨_,zak aa⟩
   have hE:=TP ha KX hp
   (repeat'((conv=>whnf);first|refine dI ha ?_|refine Xf (x:=p) aa uL ?_|refine⟨_,⟨s,n,a,rfl,⟨hs,ha⟩,rfl⟩,?_⟩|refine⟨_,⟨p,a,rfl,rfl⟩,?_⟩|(refine λ(b9:Bool) (VR:b9=true↔QO p a<=0)=>?_)|(refine ko ?_;first|refine dJ aa ?_|refine dY ?_|refine gj ?_|refine ai aa ?_|refine cA (λ_=>?_) (λ_=>?_)|refine cw ?_|refine⟨_,⟨_,_,rfl,rfl⟩,?_⟩|refine⟨_,⟨[_,_,_],rfl,rfl⟩,?_⟩|fail)))<;>try(conv=>whnf)
   ·rename_i g1 g2 g3;rw[NW aa h0 aS (hE.trans (uT _ p a b9 true VR (by simp[g1,g2])).symm) g3]at hK;exact aO
   ·rename_i g1 g2 g3;exact⟨m-1,aa,n+1,⟨aa,next (hE.trans ((uT _ p a b9 true VR (by simp[g1,g2])).symm.trans (zba.1 g3)))⟩,rfl,rfl⟩
   ·rename_i g1 g2 g3;rw[NW aa h0 aS (hE.trans (uT _ p a b9 false VR (by simp[g1,g2])).symm) g3]at hK;exact aO
   ·rename_i g1 g2 g3;exact⟨m-1,aa,n+1,⟨aa,next (hE.trans ((uT _ p a b9 false VR (by simp[g1,g2])).symm.trans (zba.1 g3)))⟩,rfl,rfl⟩
   ·rename_i g1 g3;rw[NW aa h0 aS (hE.trans (uT _ p a b9 true VR (by simp[g1])).symm) g3]at hK;exact aO
   ·rename_i g1 g3;exact⟨m-1,aa,n+1,⟨aa,next (hE.trans ((uT _ p a b9 true VR (by simp[g1])).symm.trans (zba.1 g3)))⟩,rfl,rfl⟩
  ·have hE:A1 s.l n=Sm s.l n:=by rw[show n=0 by omega]at ha ⊢;exact Yy ha
   (repeat'((conv=>whnf);first|refine dI ha ?_|refine⟨_,⟨s,n,a,rfl,⟨hs,ha⟩,rfl⟩,?_⟩|refine dJ aa ?_|refine ai aa ?_|refine ar aa ?_|refine cA (λ_=>?_) (λ_=>?_)|refine cw ?_|fail))<;>try(conv=>whnf)
   ·rename_i h;rw[NW aa h0 aS hE h]at hK;exact aO
   ·rename_i h;exact⟨m-1,aa,n+1,⟨aa,next (hE.trans (zba.1 h))⟩,rfl,rfl⟩
 ·(repeat'((conv=>whnf);first|refine ar aa ?_|fail))<;>try(conv=>whnf)
  rw[acF aa (λk hk=>h0 k aa)]at hK;exact aO
structure Wh where
 fl:Int
 lk:Int
 ls:Int
 at_:As
def Wh.pv(f:Wh):PV:=.agg [pI f.fl,pI f.lk,pI f.ls,nd f.at_]
def q8(f:Wh):Prop:=(f.fl=1\/f.fl=3)/\(0<=f.lk/\f.lk<=65535)/\(0<=f.ls/\f.ls<=2147483647)
instance (f:Wh):Decidable (q8 f):=by unfold q8;infer_instance
def BR(l:List At)(i:Nat):Int:=match l[i]? with
 |none=>0
 |some a=>if a.id<65535 then 0 else 2
def zp(l:List At):Int:=Hx (λa:At=>decide (a.ty=32)=true) l
def nk(f:Wh):Int×Int:=
 if ¬q8 f then(0,2)else if (cG f.at_.l).2≠0 then cG f.at_.l else if 0<=zp f.at_.l then(zp f.at_.l,15)else dc (BR f.at_.l) 0 f.at_.l.length
def u5{l:List At}(h:(cG l).2=0):l.length<=32∧∀i,i<l.length->A1 l i=0:=by
 unfold cG at h;split at h
 ·cases h
 ·exact⟨aa,nJ h⟩
def Zd{l:List At}{i:Nat}{a:At}(ha:l[i]?=some a)(h:A1 l i=0):iu a=0:=by
 have h1:Sm l i=0:=by
  unfold A1 at h;rw[ha]at h;simp only at h;split at h
  ·rename_i g;exact iH
  ·rename_i g;exact yP
 unfold Sm at h1;rw[ha]at h1;simp only at h1;split at h1
 ·rename_i g;exact absurd h1 g
 ·rename_i g;exact yP
def Ce{l:List At}(h:(cG l).2=0):∀a∈l,iu a=0:=λa ha=>by
 obtain⟨i,hi⟩:=ee.1 ha;exact Zd hi ((u5 h).2 i (aZ hi))
def Yp(ps:List PV)(x:PV):Prop:=∃(i:Int) (a:At),ps=[pI i,a.pv]/\x=pI (if a.id<65535 then 0 else 2)
def AG:ay (ax [(60,ah db)]) jR kb j7 (ah Yp):=by
 rintro _ K ⟨_,⟨i,a,rfl,rfl⟩,hK⟩
 (repeat'(refine uR ?_;first|refine cA (λ_=>?_) (λ_=>?_)|refine⟨_,⟨_,_,rfl,rfl⟩,?_⟩|fail))<;>try(conv=>whnf)
 all_goals(refine⟨.pv (pI _),fH ?_,trivial,hK⟩;simp[*])
def Ui(ps:List PV)(r:RV):Prop:=∃s:As,ps=[nd s,.clo 59 []]/\s.l.length<=1000000/\r=.tup [.pv (pI (dc (BR s.l) 0 s.l.length).1),.pv (pI (dc (BR s.l) 0 s.l.length).2)]
def Pv:ay (ax [(59,ah Yp)]) eI eG eC (gR true Ui):=by
 rintro _ K ⟨_,⟨s,rfl,hs,rfl⟩,hK⟩
 (repeat'((conv=>whnf);first|refine jH ?_|refine gF λ_=>?_|fail))<;>try(conv=>whnf)
 refine⟨λm env σ=>∃n:Nat,(n+m=s.l.length∧∀k,k<n->BR s.l k=0)/\σ=[]/\env=[(1,.pv (.clo 59 [])),(9,.pv (nd s)),eN 10 s.l.length,eN 11 n],s.l.length,⟨0,⟨aa,λk hk=>aa⟩,rfl,rfl⟩,?_⟩;rintro m env σ ⟨n,⟨hn,h0⟩,rfl,rfl⟩;by_cases aS:n<s.l.length
 ·obtain⟨a,ha⟩:∃a,s.l[n]?=some a:=⟨_,zak aS⟩
  have hE:BR s.l n=if a.id<65535 then 0 else 2:=by unfold BR;rw[ha]
  (repeat'((conv=>whnf);first|refine dI ha ?_|refine⟨_,⟨_,a,rfl,rfl⟩,?_⟩|refine dJ aa ?_|refine ai aa ?_|refine cA (λ_=>?_) (λ_=>?_)|refine cw ?_|fail))<;>try(conv=>whnf)
  ·rename_i h;rw[nI h0 aS (by rw[hE];exact h),hE]at hK;exact aO
  ·rename_i h;refine⟨m-1,aa,n+1,⟨aa,λk hk=>?_⟩,rfl,rfl⟩;rcases zcp (zcr hk)with h1|h1
   ·exact h0 k h1
   ·rw[h1,hE];exact zba.1 h
 ·(repeat'((conv=>whnf);first|refine ar aa ?_|fail))<;>try(conv=>whnf)
  rw[eD λj hj=>h0 j aa]at hK;exact aO
def Vw(ps:List PV)(r:RV):Prop:=∃f:Wh,ps=[f.pv]/\Tm f.at_.l/\r=.tup [.pv (pI (nk f).1),.pv (pI (nk f).2)]
def FL:ay (ax [(54,eX ed),(55,gR true IV),(56,ah uI),(58,gR true Ui)]) me l0 mr (gR true Vw):=by
 rintro _ K ⟨_,⟨f,rfl,hf,rfl⟩,hK⟩;have hl:=hf.1;have aDi:¬q8 f->K (.tup [.pv (pI 0),.pv (pI 2)]):=λh=>by unfold nk at hK;rw[if_pos h]at hK;exact hK
 have h1:q8 f->(cG f.at_.l).2≠0->K (.tup [.pv (pI (cG f.at_.l).1),.pv (pI (cG f.at_.l).2)]):=λh g=>by unfold nk at hK;rw[if_neg (λe=>e h),if_pos g]at hK;exact hK
 have h2:q8 f→¬(cG f.at_.l).2≠0->0<=zp f.at_.l->K (.tup [.pv (pI (zp f.at_.l)),.pv (pI 15)]):=λh g g2=>by unfold nk at hK;rw[if_neg (λe=>e h),if_neg g,if_pos g2]at hK;exact hK
 have h3:q8 f→¬(cG f.at_.l).2≠0→¬0<=zp f.at_.l->K (.tup [.pv (pI (dc (BR f.at_.l) 0 f.at_.l.length).1),.pv (pI (dc (BR f.at_.l) 0 f.at_.l.length).2)]):=λh g g2=>by unfold nk at hK;rw[if_neg (λe=>e h),if_neg g,if_neg g2]at hK;exact hK
 (repeat'((conv=>whnf);first|refine⟨_,⟨f.at_,rfl,hf,rfl⟩,?_⟩|refine⟨_,⟨f.at_,_,_,rfl,⟨aa,.list1⟩,rfl⟩,?_⟩|refine⟨_,⟨f.at_,rfl,aa,rfl⟩,?_⟩|(refine ko ?_;first|refine dY ?_|refine gj ?_|refine cA (λ_=>?_) (λ_=>?_)|refine⟨_,⟨_,_,_,rfl,rfl⟩,?_⟩|fail)))<;>try(conv=>whnf)
 all_goals first
  |exact⟨[.pv _,.pv _],⟨rfl,rfl,trivial⟩,⟨trivial,trivial,trivial⟩,aDi Es⟩
  |exact⟨[.pv _,.pv _],⟨rfl,rfl,trivial⟩,⟨trivial,trivial,trivial⟩,h1 Es bL⟩
  |exact⟨[.pv _,.pv _],⟨rfl,rfl,trivial⟩,⟨trivial,trivial,trivial⟩,h2 Es bL bL⟩
  |exact⟨[.pv _,.pv _],⟨rfl,rfl,trivial⟩,⟨trivial,trivial,trivial⟩,h3 Es bL bL⟩
structure Rf where
 r:Int
 s:Int
deriving DecidableEq
def Rf.pv(r:Rf):PV:=.agg [pI r.r,pI r.s]
def xT(r:Rf):Prop:=(0<=r.r/\r.r<=95)/\(1<=r.s/\r.s<=65535)
instance (r:Rf):Decidable (xT r):=by unfold xT;infer_instance
def AW(r:Rf):Int:=if xT r then 0 else 2
def sK(r:Rf):Int:=if r=⟨0,0⟩then 0 else AW r
def Gn(ps:List PV)(x:PV):Prop:=∃r:Rf,ps=[r.pv]/\x=pI (AW r)
def OB:ay (ax [(54,eX ed),(60,ah db)]) r_ r9 so (ah Gn):=by
 rintro _ K ⟨_,⟨r,rfl,rfl⟩,hK⟩;unfold AW xT at hK
 (repeat'(refine uR ?_;first|refine cA (λ_=>?_) (λ_=>?_)|refine⟨_,⟨_,_,rfl,rfl⟩,?_⟩|refine⟨_,⟨_,_,_,rfl,rfl⟩,?_⟩|fail))<;>try(conv=>whnf)
 all_goals(refine⟨.pv (pI _),fH ?_,trivial,hK⟩;simp[*])
def Ll:ay (ax [(148,eX ed),(150,ah db)]) xo wY xg (ah Gn):=by
 rintro _ K ⟨_,⟨r,rfl,rfl⟩,hK⟩;unfold AW xT at hK
 (repeat'(refine uR ?_;first|refine cA (λ_=>?_) (λ_=>?_)|refine⟨_,⟨_,_,rfl,rfl⟩,?_⟩|refine⟨_,⟨_,_,_,rfl,rfl⟩,?_⟩|fail))<;>try(conv=>whnf)
 all_goals(refine⟨.pv (pI _),fH ?_,trivial,hK⟩;simp[*])
def I1:ay (ax [(66,eX ed)]) yT zx zP (ah Gn):=by
 rintro _ K ⟨_,⟨r,rfl,rfl⟩,hK⟩;unfold AW xT at hK
 (repeat'(refine uR ?_;first|refine dY ?_|refine gj ?_|refine cA (λ_=>?_) (λ_=>?_)|refine⟨_,⟨_,_,_,rfl,rfl⟩,?_⟩|fail))<;>try(conv=>whnf)
 all_goals(refine⟨.pv (pI _),fH ?_,trivial,hK⟩;simp[*])
def Vs(ps:List PV)(x:PV):Prop:=∃r:Rf,ps=[r.pv]/\x=pI (sK r)
def oL(a b:Rf):[pI a.r,pI a.s]=[pI b.r,pI b.s]↔a=b:=by
 obtain⟨a1,a2⟩:=a;obtain⟨b1,b2⟩:=b;simp[pI]
def Lw:ay (ax [(192,ah Gn)]) vz vH uZ (ah Vs):=by
 rintro _ K ⟨_,⟨r,rfl,rfl⟩,hK⟩;unfold sK at hK
 (repeat'((conv=>whnf);first|refine⟨_,⟨r,rfl,rfl⟩,?_⟩|refine cA (λ_=>?_) (λ_=>?_)|fail))<;>try(conv=>whnf)
 ·rename_i h;rw[if_pos ((oL r ⟨0,0⟩).1 h)]at hK;exact aB
 ·rename_i h;rw[if_neg (λe=>h ((oL r ⟨0,0⟩).2 e))]at hK;exact aB
def PM(n:Int):Prop:=n∈Cz/\n≠32
instance (n:Int):Decidable (PM n):=by unfold PM;infer_instance
def OI(k:Ky):Int:=if ¬PM k.ty then 15 else if ¬cb k.nm then 4 else if ¬(0<=k.ft/\k.ft<=4096)then 2 else 0
def RQ(ps:List PV)(p:Prop):Prop:=∃n:Int,ps=[pI n]/\p=PM n
def IW:ay (ax []) n9 oS oK (eX RQ):=by
 rintro _ K ⟨_,⟨n,rfl,rfl⟩,hK⟩;unfold PM Cz at hK;simp only[zay,zc7,or_false]at hK
 (repeat'((conv=>whnf);first|refine cA (λ_=>?_) (λ_=>?_)|fail))<;>try(conv=>whnf)
 all_goals exact⟨.pv (.bool _),rfl,trivial,hK _ (by simp only[true_iff,zaG,false_iff];omega)⟩
def RX(ps:List PV)(x:PV):Prop:=∃k:Ky,ps=[k.pv]/\x=pI (OI k)
def Ie(p q r:Prop)[Decidable p][Decidable q][Decidable r](c1 c2 c3:Bool)(h1:c1=true↔p)(h2:c2=true↔q)(h3:c3=true↔r):bF [if c1=true then 0 else 15,if c2=true then 0 else 4,if c3=true then 0 else 2]=if ¬p then 15 else if ¬q then 4 else if ¬r then 2 else 0:=by
 simp only[bF,h1,h2,h3];by_cases g1:p<;>by_cases g2:q<;>by_cases g3:r<;>simp[g1,g2,g3]
def NK:ay (ax [(163,eX RQ),(60,ah db),(164,ah Dc),(54,eX ed),(74,ah eM)]) rU rR q_ (ah RX):=by
 rintro _ K ⟨_,⟨k,rfl,rfl⟩,hK⟩
 (repeat'((conv=>whnf);first|(refine λ(b1:Bool) (vT:b1=true↔PM k.ty)=>?_)|(refine λ(b3:Bool) (VJ:b3=true↔0<=k.ft/\k.ft<=4096)=>?_)|refine⟨_,⟨k.nm,rfl,rfl⟩,?_⟩|(refine ko ?_;first|refine cA (λ_=>?_) (λ_=>?_)|refine cw ?_|refine⟨_,⟨_,rfl,rfl⟩,?_⟩|refine⟨_,⟨_,_,rfl,rfl⟩,?_⟩|refine⟨_,⟨_,_,_,rfl,rfl⟩,?_⟩|refine⟨_,⟨[_,_,_],rfl,rfl⟩,?_⟩|fail)))<;>try(conv=>whnf)
 ·rename_i h;have h:cb k.nm:=.inl h;rw[show OI k=_ from(Ie _ (cb k.nm) _ b1 true b3 vT rM VJ).symm]at hK;exact aB
 ·rename_i h;have h:cb k.nm:=.inr h;rw[show OI k=_ from(Ie _ (cb k.nm) _ b1 true b3 vT rM VJ).symm]at hK;exact aB
 ·rename_i g1 g2;have h:¬cb k.nm:=by rintro(h|h);exact g1 h;exact g2 h
  rw[show OI k=_ from(Ie _ (cb k.nm) _ b1 false b3 vT rM VJ).symm]at hK;exact aB
def Ir:ay (ax [(102,eX DO),(103,eX MR),(66,eX ed)]) zj y4 ya (ah RX):=by
 rintro _ K ⟨_,⟨k,rfl,rfl⟩,hK⟩;unfold OI PM at hK
 (repeat'((conv=>whnf);first|refine⟨_,⟨k.nm,rfl,rfl⟩,?_⟩|(refine ko ?_;first|refine dY ?_|refine gj ?_|refine cA (λ_=>?_) (λ_=>?_)|refine⟨_,⟨_,rfl,rfl⟩,?_⟩|refine⟨_,⟨_,_,_,rfl,rfl⟩,?_⟩|fail)))<;>try(conv=>whnf)
 all_goals(refine⟨.pv (pI _),fH ?_,trivial,hK⟩;simp[*])
structure Le where
 k:Ky
 r:Rf
 id:Int
deriving DecidableEq
def Le.pv(x:Le):PV:=.agg [pI x.k.ty,.str x.k.nm,pI x.k.ft,pI x.r.r,pI x.r.s,pI x.id]
abbrev VY:=Sl Le
abbrev CQ(s:VY):PV:=s.pv Le.pv 6
def leB(l:List Le):Prop:=l.length<=1000000
def MJ(l:List Le)(i:Nat):Prop:=∃k,k<i∧∃y x,l[k]?=some y/\l[i]?=some x/\y.r=x.r/\y.id=x.id
instance (l:List Le) (i:Nat):Decidable (MJ l i):=Classical.propDecidable _
def qS(x:Le):Int:=if OI x.k≠0 then OI x.k else if AW x.r≠0 then AW x.r else if ¬(0<=x.id/\x.id<=65535)then 2 else 0
def nxK(p x:Ky):Int:=if 0<lH p x then 9 else if p=x/\x.ty≠48 then 5 else 0
def lV(l:List Le)(i:Nat):Int:=match l[i]? with
 |none=>0
 |some x=>if qS x≠0 then qS x else if i=0 then 0 else match l[i-1]? with
  |none=>0
  |some p=>nxK p.k x.k
def gT(l:List Le)(i:Nat):Int:=if lV l i≠0 then lV l i else if MJ l i then 23 else 0
def dT(l:List Le):Int×Int:=if 32<l.length then(0,8)else dc (gT l) 0 l.length
def Rr{l:List Le}{i:Nat}{x:Le}(h:l[i]?=some x)(h0:¬0<i):lV l i=qS x:=by
 unfold lV;rw[h];simp only[show i=0 by omega,if_true];split
 ·rfl
 ·rename_i h;exact(zba.1 h).symm
def Q1{l:List Le}{n:Nat}{p x:Le}(h:l[n]?=some x)(h0:0<n)(hp:l[n-1]?=some p):lV l n=if qS x≠0 then qS x else nxK p.k x.k:=by
 unfold lV;rw[h,hp];simp only[show ¬n=0 by omega,if_false]
def Ux{l:List Le}(h:32<l.length):dT l=(0,8):=if_pos h
def agy{l:List Le}{n:Nat}{e:Int}(hl:l.length<=32)(h0:∀k,k<n->gT l k=0)(aS:n<l.length)(he:gT l n=e)(qY:e≠0):dT l=((n:Int),e):=by
 unfold dT;rw[if_neg aa,nI h0 aS (by rw[he];exact qY),he]
def adS{l:List Le}(hl:l.length<=32)(h0:∀k,k<l.length->gT l k=0):dT l=(0,0):=by
 unfold dT;rw[if_neg aa,eD h0]
abbrev ant(x:Le):PV:=.clo 122 [.cptr x.pv]
def afs(ps:List PV)(p:Prop):Prop:=∃y x:Le,ps=[y.pv,.cptr x.pv]/\p=(y.r=x.r/\y.id=x.id)
def V3:ay (ax []) g_ h_ ij (eX afs):=by
 rintro _ K ⟨_,⟨y,x,rfl,rfl⟩,hK⟩;have hr:=oL x.r y.r
 (repeat'((conv=>whnf);first|refine cA (λ_=>?_) (λ_=>?_)|fail))<;>try(conv=>whnf)
 ·rename_i g1 g2;exact⟨.pv (.bool _),rfl,trivial,hK _ (by simp only[true_iff];exact⟨(hr.1 g1).symm,g2.symm⟩)⟩
 ·rename_i g1 g2;exact⟨.pv (.bool _),rfl,trivial,hK _ (by simp only[zaG,false_iff];exact λe=>g2 e.2.symm)⟩
 ·rename_i g1;exact⟨.pv (.bool _),rfl,trivial,hK _ (by simp only[zaG,false_iff];exact λe=>g1 (hr.2 e.1.symm))⟩
def PU(ps:List PV)(v:PV):Prop:=∃(s:VY) (x:Le),ps=[CQ s,ant x]/\s.l.length<=1000000/\v=pI (Hx (λy:Le=>y.r=x.r/\y.id=x.id) s.l)
def NA:ay (ax [(122,eX afs)]) bB bx bw (ah PU):=by
 rintro _ K ⟨_,⟨s,x,rfl,hl,rfl⟩,hK⟩
 (repeat'((conv=>whnf);first|refine jH ?_|refine gF λ_=>?_|fail))<;>try(conv=>whnf)
 refine⟨λm env σ=>∃n:Nat,(n+m=s.l.length∧∀j,j<n→∀y,s.l[j]?=some y→¬(y.r=x.r/\y.id=x.id))/\σ=[]/\env=[(0,.pv (CQ s)),(1,.pv (ant x)),eN 7 s.l.length,eN 8 n],s.l.length,⟨0,⟨aa,λj hj=>aa⟩,rfl,rfl⟩,?_⟩;rintro m env σ ⟨n,⟨hn,h0⟩,rfl,rfl⟩;by_cases aS:n<s.l.length
 ·obtain⟨y,hy⟩:∃y,s.l[n]?=some y:=⟨_,zak aS⟩
  (repeat'((conv=>whnf);first|refine dI hy ?_|refine⟨_,⟨y,x,rfl,rfl⟩,?_⟩|refine dJ aa ?_|refine ai aa ?_|refine cA (λ_=>?_) (λ_=>?_)|fail))<;>try(conv=>whnf)
  ·rename_i g;exact Jq
  ·rename_i g;refine⟨m-1,aa,n+1,⟨aa,λj hj z hz=>?_⟩,rfl,rfl⟩;rcases zcp (zcr hj)with h1|h1
   ·exact h0 j h1 z hz
   ·subst h1;rw[hy]at hz;cases hz;exact g
 ·(repeat'((conv=>whnf);first|refine ar aa ?_|fail))<;>try(conv=>whnf)
  refine⟨.pv (pI _),fH (zf λz hz=>?_),trivial,hK⟩;obtain⟨k,hk⟩:=ee.1 hz;exact h0 k oA z hk
def F8(ps:List PV)(p:Prop):Prop:=∃(s:VY) (x:Le),ps=[CQ s,ant x]/\s.l.length<=1000000/\p=∃y∈s.l,y.r=x.r/\y.id=x.id
def Hc:ay (ax [(183,ah PU)]) bt bn bm (eX F8):=by
 rintro _ K ⟨_,⟨s,x,rfl,hl,rfl⟩,hK⟩;rw[<-IK]at hK
 (repeat'((conv=>whnf);first|refine⟨_,⟨s,x,rfl,hl,rfl⟩,?_⟩|refine cA (λ_=>?_) (λ_=>?_)|fail))<;>try(conv=>whnf)
 all_goals exact ye
def JR{l:List Le}{i:Nat}{x:Le}(h:l[i]?=some x):(∃y∈l.take i,y.r=x.r/\y.id=x.id)↔MJ l i:=by
 constructor
 ·rintro⟨y,hy,he⟩;obtain⟨k,hk⟩:=ee.1 hy;have aS:=aZ hk;rw[zal]at aS;rw[zcu aa]at hk;exact⟨k,aa,y,x,hk,h,he⟩
 ·rintro⟨k,hk,y,b,h1,h2,h3⟩;rw[h]at h2;cases h2;exact⟨y,zad (by rw[zcu hk];exact h1),h3⟩
def ape(sg c:Int)(B:Prop)[Decidable B](c9 c5:Bool)(h9:c9=true↔c<=0)(h5:c5=true↔¬B):
 bF [sg,if c9=true then 0 else 9,if c5=true then 0 else 5]=if sg≠0 then sg else if 0<c then 9 else if B then 5 else 0:=by
 rw[N0];simp only[h9,h5];by_cases g1:sg=0
 ·by_cases g2:c<=0
  ·by_cases g3:B
   ·simp[g1,g2,g3,show ¬0<c by omega]
   ·simp[g1,g2,g3,show ¬0<c by omega]
  ·simp[g1,g2,show 0<c by omega]
 ·simp[g1]
def q5(sg:Int)(p x:Ky)(c9 c5:Bool)(h9:c9=true↔lH p x<=0)(h5:c5=true↔¬(p=x/\x.ty≠48)):
 bF [sg,if c9=true then 0 else 9,if c5=true then 0 else 5]=if sg≠0 then sg else nxK p x:=by
 exact ape sg (lH p x) (p=x/\x.ty≠48) c9 c5 h9 h5
def ZN(ps:List PV)(v:PV):Prop:=∃(s:VY) (i:Nat) (x:Le),ps=[pI i,x.pv,.cptr (CQ s)]/\(leB s.l/\s.l[i]?=some x)/\v=pI (gT s.l i)
def lu(x:Le)(b:Bool)(hb:b=true↔0<=x.id/\x.id<=65535):bF [OI x.k,AW x.r,if b=true then 0 else 2]=qS x:=by
 unfold qS;rw[N0];simp only[hb,ite_not]
set_option maxRecDepth 8000 in
def xM:ay (ax [(96,ah RX),(75,ah Gn),(54,eX ed),(60,ah db),(74,ah eM),(120,ah Ig),(121,eX F8)]) jc i_ jd (ah ZN):=by
 rintro _ K ⟨_,⟨s,i,x,rfl,⟨hs,hx⟩,rfl⟩,hK⟩;have hl:s.l.length<=1000000:=hs;have hi:=aZ hx;cases s with
 |nil=>exact absurd hi uX
 |sl l=>
  have hl:l.length<=1000000:=hl;have hi:i<l.length:=hi;have hx:l[i]?=some x:=hx;have Hr:=JR hx;have hE:gT l i=bF [lV l i,if ¬MJ l i then 0 else 23]:=by
   unfold gT;simp only[bF];by_cases h1:lV l i=0<;>by_cases h2:MJ l i<;>simp[h1,h2]
  have hK:K (.pv (pI (gT l i))):=hK;by_cases hi0:0<i
  ·obtain⟨p,hp⟩:∃p,l[i-1]?=some p:=⟨_,zak aa⟩
   have h2:=Q1 hx hi0 hp;have hp':l[((i:Int)-1).toNat]?=some p:=by rw[show((i:Int)-1).toNat=i-1 by omega];exact hp
   (repeat'((conv=>whnf);first|refine⟨_,⟨x.k,rfl,rfl⟩,?_⟩|refine⟨_,⟨x.r,rfl,rfl⟩,?_⟩|refine⟨_,⟨p.k,x.k,rfl,rfl⟩,?_⟩|(refine λ(b1:Bool) (vT:b1=true↔0<=x.id/\x.id<=65535)=>?_)|(refine λ(b9:Bool) (VR:b9=true↔lH p.k x.k<=0)=>?_)|refine⟨_,⟨.sl (l.take i),x,(by rw[HN];rfl),Jm,rfl⟩,?_⟩|(refine ko ?_;first|refine dJ aa ?_|refine dY ?_|refine gj ?_|refine ai aa ?_|refine cA (λ_=>?_) (λ_=>?_)|refine ayX aa bL ?_|refine cw ?_|refine⟨_,⟨_,_,rfl,rfl⟩,?_⟩|refine⟨_,⟨_,_,_,rfl,rfl⟩,?_⟩|refine zco jD ?_|refine⟨_,⟨[_,_],rfl,rfl⟩,?_⟩|refine⟨_,⟨[_,_,_],rfl,rfl⟩,?_⟩|fail)))<;>try(conv=>whnf)
   ·rename_i g0 g1;rw[hE,if_neg (λe=>e (Hr.1 g1)),h2,<-q5 (qS x) p.k x.k b9 true VR Pu,<-lu x b1 vT]at hK;exact aB
   ·rename_i g0 g1;rw[hE,if_pos (λe=>g1 (Hr.2 e)),h2,<-q5 (qS x) p.k x.k b9 true VR Pu,<-lu x b1 vT]at hK;exact aB
   ·rename_i g0 g1 g2;rw[hE,if_neg (λe=>e (Hr.1 g2)),h2,<-q5 (qS x) p.k x.k b9 true VR (by simp only[true_iff];exact λe=>e.2 g1),<-lu x b1 vT]at hK;exact aB
   ·rename_i g0 g1 g2;rw[hE,if_pos (λe=>g2 (Hr.2 e)),h2,<-q5 (qS x) p.k x.k b9 true VR (by simp only[true_iff];exact λe=>e.2 g1),<-lu x b1 vT]at hK;exact aB
   ·rename_i g0 g1 g2;rw[hE,if_neg (λe=>e (Hr.1 g2)),h2,<-q5 (qS x) p.k x.k b9 false VR Qb,<-lu x b1 vT]at hK;exact aB
   ·rename_i g0 g1 g2;rw[hE,if_pos (λe=>g2 (Hr.2 e)),h2,<-q5 (qS x) p.k x.k b9 false VR Qb,<-lu x b1 vT]at hK;exact aB
  ·have h2:=Rr hx hi0
   (repeat'((conv=>whnf);first|refine⟨_,⟨x.k,rfl,rfl⟩,?_⟩|refine⟨_,⟨x.r,rfl,rfl⟩,?_⟩|(refine λ(b1:Bool) (vT:b1=true↔0<=x.id/\x.id<=65535)=>?_)|refine⟨_,⟨.sl (l.take i),x,(by rw[HN];rfl),Jm,rfl⟩,?_⟩|(refine ko ?_;first|refine dY ?_|refine gj ?_|refine ar aa ?_|refine cA (λ_=>?_) (λ_=>?_)|refine cw ?_|refine⟨_,⟨_,_,rfl,rfl⟩,?_⟩|refine⟨_,⟨_,_,_,rfl,rfl⟩,?_⟩|refine Vu ?_|refine⟨_,⟨[_,_],rfl,rfl⟩,?_⟩|refine⟨_,⟨[_,_,_],rfl,rfl⟩,?_⟩|fail)))<;>try(conv=>whnf)
   ·rename_i g;rw[hE,if_neg (λe=>e (Hr.1 g)),h2,<-lu x b1 vT]at hK;exact aB
   ·rename_i g;rw[hE,if_pos (λe=>g (Hr.2 e)),h2,<-lu x b1 vT]at hK;exact aB
abbrev awi(s:VY):PV:=.clo 119 [.cptr (CQ s)]
def UI(ps:List PV)(r:RV):Prop:=∃s:VY,ps=[CQ s,awi s]/\leB s.l/\r=.tup [.pv (pI (dc (gT s.l) 0 s.l.length).1),.pv (pI (dc (gT s.l) 0 s.l.length).2)]
def Rz:ay (ax [(119,ah ZN)]) ew ez eJ (gR true UI):=by
 rintro _ K ⟨_,⟨s,rfl,hs,rfl⟩,hK⟩;have hl:s.l.length<=1000000:=hs
 (repeat'((conv=>whnf);first|refine jH ?_|refine gF λ_=>?_|fail))<;>try(conv=>whnf)
 refine⟨λm env σ=>∃n:Nat,(n+m=s.l.length∧∀k,k<n->gT s.l k=0)/\σ=[]/\env=[(1,.pv (awi s)),(9,.pv (CQ s)),eN 10 s.l.length,eN 11 n],s.l.length,⟨0,⟨aa,λk hk=>aa⟩,rfl,rfl⟩,?_⟩;rintro m env σ ⟨n,⟨hn,h0⟩,rfl,rfl⟩;by_cases aS:n<s.l.length
 ·obtain⟨x,hx⟩:∃x,s.l[n]?=some x:=⟨_,zak aS⟩
  (repeat'((conv=>whnf);first|refine dI hx ?_|refine⟨_,⟨s,n,x,rfl,⟨hs,hx⟩,rfl⟩,?_⟩|refine dJ aa ?_|refine ai aa ?_|refine cA (λ_=>?_) (λ_=>?_)|refine cw ?_|fail))<;>try(conv=>whnf)
  ·rename_i h;rw[nI h0 aS h]at hK;exact aO
  ·rename_i h;refine⟨m-1,aa,n+1,⟨aa,λk hk=>?_⟩,rfl,rfl⟩;rcases zcp (zcr hk)with h1|h1
   ·exact h0 k h1
   ·rw[h1];exact zba.1 h
 ·(repeat'((conv=>whnf);first|refine ar aa ?_|fail))<;>try(conv=>whnf)
  rw[eD λj hj=>h0 j aa]at hK;exact aO
def rE(ps:List PV)(r:RV):Prop:=∃s:VY,ps=[CQ s]/\leB s.l/\r=.tup [.pv (pI (dT s.l).1),.pv (pI (dT s.l).2)]
def Cq:ay (ax [(118,gR true UI)]) kS kK kU (gR true rE):=by
 rintro _ K ⟨_,⟨s,rfl,hs,rfl⟩,hK⟩;have h1:32<s.l.length->K (.tup [.pv (pI 0),.pv (pI 8)]):=λh=>by rw[Ux h]at hK;exact hK
 have h2:¬32<s.l.length->K (.tup [.pv (pI (dc (gT s.l) 0 s.l.length).1),.pv (pI (dc (gT s.l) 0 s.l.length).2)]):=λh=>by unfold dT at hK;rw[if_neg h]at hK;exact hK
 cases s with
 |nil=>
  (repeat'((conv=>whnf);first|refine⟨_,⟨.nil,rfl,hs,rfl⟩,?_⟩|refine ar af ?_|refine gF λ_=>?_|fail))<;>try(conv=>whnf)
  exact⟨[.pv _,.pv _],⟨rfl,rfl,trivial⟩,⟨trivial,trivial,trivial⟩,h2 uX⟩
 |sl l=>
  have hl:(Sl.sl l).l.length=l.length:=rfl
  (repeat'((conv=>whnf);first|refine⟨_,⟨.sl l,rfl,hs,rfl⟩,?_⟩|refine cA (λ_=>?_) (λ_=>?_)|refine gF λ_=>?_|fail))<;>try(conv=>whnf)
  ·rename_i h;exact⟨[.pv _,.pv _],⟨rfl,rfl,trivial⟩,⟨trivial,trivial,trivial⟩,h1 aa⟩
  ·rename_i h;exact⟨[.pv _,.pv _],⟨rfl,rfl,trivial⟩,⟨trivial,trivial,trivial⟩,h2 aa⟩
def Vj(ps:List PV)(x:PV):Prop:=∃s:VY,ps=[CQ s]/\leB s.l/\x=pI (dT s.l).2
set_option maxRecDepth 8000 in
def yZ:ay (ax [(33,ah RX),(98,ah Gn),(66,eX ed),(100,ah Ig)]) n8 oa nW (gR true rE):=by
 rintro _ K ⟨_,⟨s,rfl,hs,rfl⟩,hK⟩;have hl:s.l.length<=1000000:=hs
 (repeat'((conv=>whnf);first|refine jH ?_|refine cA (λ_=>?_) (λ_=>?_)|refine gF λ_=>?_|fail))<;>try(conv=>whnf)
 ·rename_i h;rw[Ux aa]at hK;exact aO
 rename_i h;refine⟨λm env σ=>∃n:Nat,(n+m=s.l.length∧∀k,k<n->gT s.l k=0)/\σ=[]/\env=[(0,.pv (CQ s)),eN 4 n],s.l.length,⟨0,⟨aa,λk hk=>aa⟩,rfl,rfl⟩,?_⟩;rintro m env σ ⟨n,⟨hn,h0⟩,rfl,rfl⟩;have next:gT s.l n=0→∀k,k<n+1->gT s.l k=0:=λhz k hk=>by
  rcases zcp (zcr hk)with h1|h1
  ·exact h0 k h1
  ·rw[h1];exact hz
 by_cases aS:n<s.l.length
 case neg=>
  (repeat'((conv=>whnf);first|refine jH ?_|refine ar aa ?_|refine gF λ_=>?_|fail))<;>try(conv=>whnf)
  rw[adS aa (λk hk=>h0 k aa)]at hK;exact aO
 obtain⟨x,hx⟩:∃x,s.l[n]?=some x:=⟨_,zak aS⟩
 have Hr:=JR hx;have aB2:lV s.l n=0->(∀j,j<n→∀y,s.l[j]?=some y→¬(y.r=x.r/\y.id=x.id))->gT s.l n=0:=λg1 g2=>by
  unfold gT;rw[g1,if_neg ae,if_neg];intro hd;obtain⟨k,hk,y,b,e1,e2,e3⟩:=hd;rw[hx]at e2;cases e2;exact g2 k hk y e1 e3
 have aAF:∀k y,k<n->s.l[k]?=some y->y.r=x.r/\y.id=x.id->lV s.l n=0->gT s.l n=23:=λk y g1 g2 g3 g4=>by
  unfold gT;rw[g4,if_neg ae,if_pos ⟨k,g1,y,x,g2,hx,g3⟩]
 have Sj:∀e,lV s.l n=e->e≠0->e=gT s.l n:=λe g1 g2=>by
  unfold gT;rw[g1,if_pos g2]
 have O2:gT s.l n≠0->K (.tup [.pv (pI n),.pv (pI (gT s.l n))]):=λg=>by rw[agy aa h0 aS rfl g]at hK;exact hK
 by_cases gk:OI x.k=0
 case neg=>
  have he:lV s.l n=OI x.k:=by
   have e1:qS x=OI x.k:=by unfold qS;rw[if_pos gk]
   by_cases KX:0<n
   ·obtain⟨p,hp⟩:∃p,s.l[n-1]?=some p:=⟨_,zak aa⟩
    rw[Q1 hx KX hp,e1,if_pos gk]
   ·rw[Rr hx KX,e1]
  (repeat'((conv=>whnf);first|refine jH ?_|refine dI hx ?_|refine⟨_,⟨x.k,rfl,rfl⟩,?_⟩|refine ai aa ?_|refine ar aa ?_|refine gF λ_=>?_|refine cw ?_|fail))<;>try(conv=>whnf)
  refine⟨λm env σ=>∃(k:Nat) (e:Int),(k+m=n/\(e=0->lV s.l n=0∧∀j,j<k→∀y,s.l[j]?=some y→¬(y.r=x.r/\y.id=x.id))/\(e≠0->e=gT s.l n))/\σ=[]/\env=[(0,.pv (CQ s)),eN 4 n,eN 5 e,eN 6 k],n,⟨0,OI x.k,⟨aa,λe0=>⟨he.trans e0,λj hj=>aa⟩,λe0=>Sj _ he e0⟩,rfl,rfl⟩,?_⟩;rintro m2 env σ ⟨k,e,⟨hk,hz,hnz⟩,rfl,rfl⟩;by_cases vU:k<n/\e=0
  ·obtain⟨Xz,rfl⟩:=vU;have z1:=(hz rfl).1;exfalso;omega
  ·have sZ:gT s.l n=e:=by
    by_cases e0:e=0
    ·obtain⟨z1,z2⟩:=hz e0;rw[e0];exact oU
    ·exact n7
   rw[sZ]at O2
   (repeat'((conv=>whnf);first|refine ai aa ?_|refine ar aa ?_|refine cA (λ_=>?_) (λ_=>?_)|fail))<;>try(conv=>whnf)
   all_goals first
    |exact od
    |exact oC
 by_cases gr:AW x.r=0
 case neg=>
  have he:lV s.l n=AW x.r:=by
   have e1:qS x=AW x.r:=by unfold qS;rw[if_neg (λe=>e gk),if_pos gr]
   by_cases KX:0<n
   ·obtain⟨p,hp⟩:∃p,s.l[n-1]?=some p:=⟨_,zak aa⟩
    rw[Q1 hx KX hp,e1,if_pos gr]
   ·rw[Rr hx KX,e1]
  (repeat'((conv=>whnf);first|refine jH ?_|refine dI hx ?_|refine⟨_,⟨x.k,rfl,rfl⟩,?_⟩|refine⟨_,⟨x.r,rfl,rfl⟩,?_⟩|refine ai aa ?_|refine ar aa ?_|refine gF λ_=>?_|refine cw ?_|fail))<;>try(conv=>whnf)
  refine⟨λm env σ=>∃(k:Nat) (e:Int),(k+m=n/\(e=0->lV s.l n=0∧∀j,j<k→∀y,s.l[j]?=some y→¬(y.r=x.r/\y.id=x.id))/\(e≠0->e=gT s.l n))/\σ=[]/\env=[(0,.pv (CQ s)),eN 4 n,eN 5 e,eN 6 k],n,⟨0,AW x.r,⟨aa,λe0=>⟨he.trans e0,λj hj=>aa⟩,λe0=>Sj _ he e0⟩,rfl,rfl⟩,?_⟩;rintro m2 env σ ⟨k,e,⟨hk,hz,hnz⟩,rfl,rfl⟩;by_cases vU:k<n/\e=0
  ·obtain⟨Xz,rfl⟩:=vU;have z1:=(hz rfl).1;exfalso;omega
  ·have sZ:gT s.l n=e:=by
    by_cases e0:e=0
    ·obtain⟨z1,z2⟩:=hz e0;rw[e0];exact oU
    ·exact n7
   rw[sZ]at O2
   (repeat'((conv=>whnf);first|refine ai aa ?_|refine ar aa ?_|refine cA (λ_=>?_) (λ_=>?_)|fail))<;>try(conv=>whnf)
   all_goals first
    |exact od
    |exact oC
 by_cases gi:0<=x.id/\x.id<=65535
 case neg=>
  have he:lV s.l n=2:=by
   have e1:qS x=2:=by unfold qS;rw[if_neg (λe=>e gk),if_neg (λe=>e gr),if_pos gi]
   by_cases KX:0<n
   ·obtain⟨p,hp⟩:∃p,s.l[n-1]?=some p:=⟨_,zak aa⟩
    rw[Q1 hx KX hp,e1,if_pos af]
   ·rw[Rr hx KX,e1]
  (repeat'((conv=>whnf);first|refine jH ?_|refine dI hx ?_|refine⟨_,⟨x.k,rfl,rfl⟩,?_⟩|refine⟨_,⟨x.r,rfl,rfl⟩,?_⟩|(refine ko ?_;first|refine gj ?_|refine ai aa ?_|refine ar aa ?_|refine gF λ_=>?_|refine cw ?_|refine⟨_,⟨_,_,_,rfl,rfl⟩,?_⟩|fail)))<;>try(conv=>whnf)
  refine⟨λm env σ=>∃(k:Nat) (e:Int),(k+m=n/\(e=0->lV s.l n=0∧∀j,j<k→∀y,s.l[j]?=some y→¬(y.r=x.r/\y.id=x.id))/\(e≠0->e=gT s.l n))/\σ=[]/\env=[(0,.pv (CQ s)),eN 4 n,eN 5 e,eN 6 k],n,⟨0,2,⟨aa,λe0=>⟨he.trans e0,λj hj=>aa⟩,λe0=>Sj _ he e0⟩,rfl,rfl⟩,?_⟩;rintro m2 env σ ⟨k,e,⟨hk,hz,hnz⟩,rfl,rfl⟩;by_cases vU:k<n/\e=0
  ·obtain⟨Xz,rfl⟩:=vU;have z1:=(hz rfl).1;exfalso;omega
  ·have sZ:gT s.l n=e:=by
    by_cases e0:e=0
    ·obtain⟨z1,z2⟩:=hz e0;rw[e0];exact oU
    ·exact n7
   rw[sZ]at O2
   (repeat'((conv=>whnf);first|refine ai aa ?_|refine ar aa ?_|refine cA (λ_=>?_) (λ_=>?_)|fail))<;>try(conv=>whnf)
   all_goals first
    |exact od
    |exact oC
 have e1:qS x=0:=by unfold qS;rw[if_neg (λe=>e gk),if_neg (λe=>e gr),if_neg (λe=>e gi)]
 by_cases KX:0<n
 case neg=>
  have he:lV s.l n=AW x.r:=by rw[Rr hx KX,e1,gr]
  (repeat'((conv=>whnf);first|refine jH ?_|refine dI hx ?_|refine⟨_,⟨x.k,rfl,rfl⟩,?_⟩|refine⟨_,⟨x.r,rfl,rfl⟩,?_⟩|(refine ko ?_;first|refine dY ?_|refine ai aa ?_|refine ar aa ?_|refine gF λ_=>?_|refine cw ?_|refine⟨_,⟨_,_,_,rfl,rfl⟩,?_⟩|fail)))<;>try(conv=>whnf)
  refine⟨λm env σ=>∃(k:Nat) (e:Int),(k+m=n/\(e=0->lV s.l n=0∧∀j,j<k→∀y,s.l[j]?=some y→¬(y.r=x.r/\y.id=x.id))/\(e≠0->e=gT s.l n))/\σ=[]/\env=[(0,.pv (CQ s)),eN 4 n,eN 5 e,eN 6 k],n,⟨0,AW x.r,⟨aa,λe0=>⟨he.trans e0,λj hj=>aa⟩,λe0=>Sj _ he e0⟩,rfl,rfl⟩,?_⟩;rintro m2 env σ ⟨k,e,⟨hk,hz,hnz⟩,rfl,rfl⟩;by_cases vU:k<n/\e=0
  ·obtain⟨Xz,rfl⟩:=vU;have z1:=(hz rfl).1;exfalso;omega
  ·have sZ:gT s.l n=e:=by
    by_cases e0:e=0
    ·obtain⟨z1,z2⟩:=hz e0;rw[e0];exact oU
    ·exact n7
   rw[sZ]at O2
   (repeat'((conv=>whnf);first|refine dJ aa ?_|refine ar aa ?_|refine cA (λ_=>?_) (λ_=>?_)|fail))<;>try(conv=>whnf)
   all_goals first
    |exact od
    |exact oC
 obtain⟨p,hp⟩:∃p,s.l[n-1]?=some p:=⟨_,zak aa⟩
 have h2:=Q1 hx KX hp;rw[e1,if_neg ae]at h2;by_cases gc:0<lH p.k x.k
 case pos=>
  have he:lV s.l n=9:=by rw[h2,nxK,if_pos gc]
  (repeat'((conv=>whnf);first|refine⟨_,⟨p.k,x.k,rfl,rfl⟩,?_⟩|refine Xf (x:=p) aa uL ?_|refine jH ?_|refine dI hx ?_|refine⟨_,⟨x.k,rfl,rfl⟩,?_⟩|refine⟨_,⟨x.r,rfl,rfl⟩,?_⟩|(refine ko ?_;first|refine dJ aa ?_|refine dY ?_|refine ai aa ?_|refine ar aa ?_|refine gF λ_=>?_|refine cw ?_|refine⟨_,⟨_,_,_,rfl,rfl⟩,?_⟩|fail)))<;>try(conv=>whnf)
  refine⟨λm env σ=>∃(k:Nat) (e:Int),(k+m=n/\(e=0->lV s.l n=0∧∀j,j<k→∀y,s.l[j]?=some y→¬(y.r=x.r/\y.id=x.id))/\(e≠0->e=gT s.l n))/\σ=[]/\env=[(0,.pv (CQ s)),eN 4 n,eN 5 e,eN 6 k],n,⟨0,9,⟨aa,λe0=>⟨he.trans e0,λj hj=>aa⟩,λe0=>Sj _ he e0⟩,rfl,rfl⟩,?_⟩;rintro m2 env σ ⟨k,e,⟨hk,hz,hnz⟩,rfl,rfl⟩;by_cases vU:k<n/\e=0
  ·obtain⟨Xz,rfl⟩:=vU;have z1:=(hz rfl).1;exfalso;omega
  ·have sZ:gT s.l n=e:=by
    by_cases e0:e=0
    ·obtain⟨z1,z2⟩:=hz e0;rw[e0];exact oU
    ·exact n7
   rw[sZ]at O2
   (repeat'((conv=>whnf);first|refine ai aa ?_|refine ar aa ?_|refine cA (λ_=>?_) (λ_=>?_)|fail))<;>try(conv=>whnf)
   all_goals first
    |exact od
    |exact oC
 rw[nxK,if_neg gc]at h2;have hkc:=q6 p.k x.k;by_cases gs:p.k=x.k
 case neg=>
  have he:lV s.l n=AW x.r:=by rw[h2,if_neg (λe=>gs e.1),gr]
  have gs2:=λe=>gs (hkc.1 e)
  (repeat'((conv=>whnf);first|refine⟨_,⟨p.k,x.k,rfl,rfl⟩,?_⟩|refine ar gs2 ?_|refine Xf (x:=p) aa uL ?_|refine jH ?_|refine dI hx ?_|refine⟨_,⟨x.k,rfl,rfl⟩,?_⟩|refine⟨_,⟨x.r,rfl,rfl⟩,?_⟩|(refine ko ?_;first|refine dJ aa ?_|refine dY ?_|refine ai aa ?_|refine ar aa ?_|refine gF λ_=>?_|refine cw ?_|refine⟨_,⟨_,_,_,rfl,rfl⟩,?_⟩|fail)))<;>try(conv=>whnf)
  refine⟨λm env σ=>∃(k:Nat) (e:Int),(k+m=n/\(e=0->lV s.l n=0∧∀j,j<k→∀y,s.l[j]?=some y→¬(y.r=x.r/\y.id=x.id))/\(e≠0->e=gT s.l n))/\σ=[]/\env=[(0,.pv (CQ s)),eN 4 n,eN 5 e,eN 6 k],n,⟨0,AW x.r,⟨aa,λe0=>⟨he.trans e0,λj hj=>aa⟩,λe0=>Sj _ he e0⟩,rfl,rfl⟩,?_⟩;rintro m2 env σ ⟨k,e,⟨hk,hz,hnz⟩,rfl,rfl⟩;by_cases vU:k<n/\e=0
  ·obtain⟨Xz,rfl⟩:=vU;obtain⟨z1,z2⟩:=hz rfl;obtain⟨y,hy⟩:∃y,s.l[k]?=some y:=⟨_,zak aa⟩
   have hrc:=oL y.r x.r;have aba:¬(y.r=x.r/\y.id=x.id)→∀j,j<k+1→∀y,s.l[j]?=some y→¬(y.r=x.r/\y.id=x.id):=λg j hj z hzz=>by
    rcases zcp (zcr hj)with h1|h1
    ·exact z2 j h1 z hzz
    ·subst h1;rw[hy]at hzz;cases hzz;exact g
   (repeat'((conv=>whnf);first|refine dI hy ?_|refine dI hx ?_|refine dJ aa ?_|refine ai aa ?_|refine cA (λ_=>?_) (λ_=>?_)|refine cw ?_|fail))<;>try(conv=>whnf)
   ·rename_i g1 g2;exact⟨m2-1,aa,k+1,23,⟨aa,λe=>fJ,λ_=>(aAF k y Xz hy ⟨hrc.1 g1,g2⟩ z1).symm⟩,rfl,rfl⟩
   ·rename_i g1 g2;exact⟨m2-1,aa,k+1,0,⟨aa,λ_=>⟨z1,aba λe=>g2 e.2⟩,λe=>absurd rfl e⟩,rfl,rfl⟩
   ·rename_i g1;exact⟨m2-1,aa,k+1,0,⟨aa,λ_=>⟨z1,aba λe=>g1 (hrc.2 e.1)⟩,λe=>absurd rfl e⟩,rfl,rfl⟩
  ·have sZ:gT s.l n=e:=by
    by_cases e0:e=0
    ·obtain⟨z1,z2⟩:=hz e0;rw[e0];exact oU
    ·exact n7
   rw[sZ]at O2
   (repeat'((conv=>whnf);first|refine dJ aa ?_|refine ai aa ?_|refine ar aa ?_|refine cA (λ_=>?_) (λ_=>?_)|fail))<;>try(conv=>whnf)
   all_goals first
    |exact od
    |exact oC
 have gs2:=hkc.2 gs;by_cases gt:x.k.ty=48
 ·have he:lV s.l n=AW x.r:=by rw[h2,if_neg (λe=>e.2 gt),gr]
  (repeat'((conv=>whnf);first|refine⟨_,⟨p.k,x.k,rfl,rfl⟩,?_⟩|refine ai gs2 ?_|refine Xf (x:=p) aa uL ?_|refine jH ?_|refine dI hx ?_|refine⟨_,⟨x.k,rfl,rfl⟩,?_⟩|refine⟨_,⟨x.r,rfl,rfl⟩,?_⟩|(refine ko ?_;first|refine dJ aa ?_|refine dY ?_|refine ai aa ?_|refine ar aa ?_|refine gF λ_=>?_|refine cw ?_|refine⟨_,⟨_,_,_,rfl,rfl⟩,?_⟩|fail)))<;>try(conv=>whnf)
  refine⟨λm env σ=>∃(k:Nat) (e:Int),(k+m=n/\(e=0->lV s.l n=0∧∀j,j<k→∀y,s.l[j]?=some y→¬(y.r=x.r/\y.id=x.id))/\(e≠0->e=gT s.l n))/\σ=[]/\env=[(0,.pv (CQ s)),eN 4 n,eN 5 e,eN 6 k],n,⟨0,AW x.r,⟨aa,λe0=>⟨he.trans e0,λj hj=>aa⟩,λe0=>Sj _ he e0⟩,rfl,rfl⟩,?_⟩;rintro m2 env σ ⟨k,e,⟨hk,hz,hnz⟩,rfl,rfl⟩;by_cases vU:k<n/\e=0
  ·obtain⟨Xz,rfl⟩:=vU;obtain⟨z1,z2⟩:=hz rfl;obtain⟨y,hy⟩:∃y,s.l[k]?=some y:=⟨_,zak aa⟩
   have hrc:=oL y.r x.r;have aba:¬(y.r=x.r/\y.id=x.id)→∀j,j<k+1→∀y,s.l[j]?=some y→¬(y.r=x.r/\y.id=x.id):=λg j hj z hzz=>by
    rcases zcp (zcr hj)with h1|h1
    ·exact z2 j h1 z hzz
    ·subst h1;rw[hy]at hzz;cases hzz;exact g
   (repeat'((conv=>whnf);first|refine dI hy ?_|refine dI hx ?_|refine dJ aa ?_|refine ai aa ?_|refine cA (λ_=>?_) (λ_=>?_)|refine cw ?_|fail))<;>try(conv=>whnf)
   ·rename_i g1 g2;exact⟨m2-1,aa,k+1,23,⟨aa,λe=>fJ,λ_=>(aAF k y Xz hy ⟨hrc.1 g1,g2⟩ z1).symm⟩,rfl,rfl⟩
   ·rename_i g1 g2;exact⟨m2-1,aa,k+1,0,⟨aa,λ_=>⟨z1,aba λe=>g2 e.2⟩,λe=>absurd rfl e⟩,rfl,rfl⟩
   ·rename_i g1;exact⟨m2-1,aa,k+1,0,⟨aa,λ_=>⟨z1,aba λe=>g1 (hrc.2 e.1)⟩,λe=>absurd rfl e⟩,rfl,rfl⟩
  ·have sZ:gT s.l n=e:=by
    by_cases e0:e=0
    ·obtain⟨z1,z2⟩:=hz e0;rw[e0];exact oU
    ·exact n7
   rw[sZ]at O2
   (repeat'((conv=>whnf);first|refine dJ aa ?_|refine ai aa ?_|refine ar aa ?_|refine cA (λ_=>?_) (λ_=>?_)|fail))<;>try(conv=>whnf)
   all_goals first
    |exact od
    |exact oC
 ·have he:lV s.l n=5:=by rw[h2,if_pos ⟨gs,gt⟩]
  (repeat'((conv=>whnf);first|refine⟨_,⟨p.k,x.k,rfl,rfl⟩,?_⟩|refine ai gs2 ?_|refine Xf (x:=p) aa uL ?_|refine jH ?_|refine dI hx ?_|refine⟨_,⟨x.k,rfl,rfl⟩,?_⟩|refine⟨_,⟨x.r,rfl,rfl⟩,?_⟩|(refine ko ?_;first|refine dJ aa ?_|refine dY ?_|refine ai aa ?_|refine ar aa ?_|refine gF λ_=>?_|refine cw ?_|refine⟨_,⟨_,_,_,rfl,rfl⟩,?_⟩|fail)))<;>try(conv=>whnf)
  refine⟨λm env σ=>∃(k:Nat) (e:Int),(k+m=n/\(e=0->lV s.l n=0∧∀j,j<k→∀y,s.l[j]?=some y→¬(y.r=x.r/\y.id=x.id))/\(e≠0->e=gT s.l n))/\σ=[]/\env=[(0,.pv (CQ s)),eN 4 n,eN 5 e,eN 6 k],n,⟨0,5,⟨aa,λe0=>⟨he.trans e0,λj hj=>aa⟩,λe0=>Sj _ he e0⟩,rfl,rfl⟩,?_⟩;rintro m2 env σ ⟨k,e,⟨hk,hz,hnz⟩,rfl,rfl⟩;by_cases vU:k<n/\e=0
  ·obtain⟨Xz,rfl⟩:=vU;have z1:=(hz rfl).1;exfalso;omega
  ·have sZ:gT s.l n=e:=by
    by_cases e0:e=0
    ·obtain⟨z1,z2⟩:=hz e0;rw[e0];exact oU
    ·exact n7
   rw[sZ]at O2
   (repeat'((conv=>whnf);first|refine ai aa ?_|refine ar aa ?_|refine cA (λ_=>?_) (λ_=>?_)|fail))<;>try(conv=>whnf)
   all_goals first
    |exact od
    |exact oC
def Cf:ay (ax [(48,gR true rE)]) sG sm rm (ah Vj):=by
 rintro _ K ⟨_,⟨s,rfl,hs,rfl⟩,hK⟩
 (repeat'((conv=>whnf);first|refine⟨_,⟨s,rfl,hs,rfl⟩,?_⟩|fail))<;>try(conv=>whnf)
 exact aB
def XW(x:Le):Prop:=(0<=x.k.ty/\x.k.ty<=1099511627776)/\(0<=x.k.ft/\x.k.ft<=1099511627776)/\(0<=x.r.r/\x.r.r<=1099511627776)/\(0<=x.r.s/\x.r.s<=1099511627776)/\(0<=x.id/\x.id<=1099511627776)/\x.k.nm.length<=100000
def LM(x:Le):Nat:=pf (26+x.k.nm.length)
def adG(x:Le):List UInt8:=aq x.k.ty 4++aq (LM x:Nat) 2++aq (x.k.nm.length:Nat) 1++aq 26 1++aq x.k.ft 4++aq x.r.r 4++aq x.r.s 2++aq x.id 2
def mP(x:Le):List UInt8:=adG x++ab 6++x.k.nm++ab (LM x-26-x.k.nm.length)
def Zy(x:Le):(adG x).length=20:=by unfold adG;simp only[zae,dn]
def sD(x:Le):(mP x).length=LM x:=by
 have:=dX (26+x.k.nm.length);have:LM x=pf (26+x.k.nm.length):=rfl;unfold mP;simp only[zae,Zy,bS];omega
def FH(ps:List PV)(v:PV):Prop:=∃x:Le,ps=[x.pv]/\XW x/\v=.str (mP x)
def adq{ty ft r s id:Int}{nm:List UInt8}{W:Nat}(h1:26+nm.length<=W):
 cd (cd (cd (cd (cd (cd (cd (cd (cd (ab W) 0 (aq ty 4)) 4 (aq (W:Nat) 2)) 6 (aq (nm.length:Nat) 1)) 7 (aq 26 1)) 8 (aq ft 4)) 12 (aq r 4)) 16 (aq s 2)) 18 (aq id 2)) 26 nm=
 aq ty 4++aq (W:Nat) 2++aq (nm.length:Nat) 1++aq 26 1++aq ft 4++aq r 4++aq s 2++aq id 2++ab 6++nm++ab (W-26-nm.length):=by
 have s0:cd (([]:List UInt8)++ab (W)) 0 (aq ty 4)=([]:List UInt8)++ab 0++aq ty 4++ab (W-4):=ca (g:=0) bA aJ aJ;have s1:cd (([]:List UInt8)++ab 0++aq ty 4++ab (W-4)) 4 (aq (W:Nat) 2)=([]:List UInt8)++ab 0++aq ty 4++ab 0++aq (W:Nat) 2++ab (W-6):=ca (g:=0) bA aJ aJ;have s2:cd (([]:List UInt8)++ab 0++aq ty 4++ab 0++aq (W:Nat) 2++ab (W-6)) 6 (aq (nm.length:Nat) 1)=([]:List UInt8)++ab 0++aq ty 4++ab 0++aq (W:Nat) 2++ab 0++aq (nm.length:Nat) 1++ab (W-7):=ca (g:=0) bA aJ aJ;have s3:cd (([]:List UInt8)++ab 0++aq ty 4++ab 0++aq (W:Nat) 2++ab 0++aq (nm.length:Nat) 1++ab (W-7)) 7 (aq 26 1)=([]:List UInt8)++ab 0++aq ty 4++ab 0++aq (W:Nat) 2++ab 0++aq (nm.length:Nat) 1++ab 0++aq 26 1++ab (W-8):=ca (g:=0) bA aJ aJ;have s4:cd (([]:List UInt8)++ab 0++aq ty 4++ab 0++aq (W:Nat) 2++ab 0++aq (nm.length:Nat) 1++ab 0++aq 26 1++ab (W-8)) 8 (aq ft 4)=([]:List UInt8)++ab 0++aq ty 4++ab 0++aq (W:Nat) 2++ab 0++aq (nm.length:Nat) 1++ab 0++aq 26 1++ab 0++aq ft 4++ab (W-12):=ca (g:=0) bA aJ aJ;have s5:cd (([]:List UInt8)++ab 0++aq ty 4++ab 0++aq (W:Nat) 2++ab 0++aq (nm.length:Nat) 1++ab 0++aq 26 1++ab 0++aq ft 4++ab (W-12)) 12 (aq r 4)=([]:List UInt8)++ab 0++aq ty 4++ab 0++aq (W:Nat) 2++ab 0++aq (nm.length:Nat) 1++ab 0++aq 26 1++ab 0++aq ft 4++ab 0++aq r 4++ab (W-16):=ca (g:=0) bA aJ aJ;have s6:cd (([]:List UInt8)++ab 0++aq ty 4++ab 0++aq (W:Nat) 2++ab 0++aq (nm.length:Nat) 1++ab 0++aq 26 1++ab 0++aq ft 4++ab 0++aq r 4++ab (W-16)) 16 (aq s 2)=([]:List UInt8)++ab 0++aq ty 4++ab 0++aq (W:Nat) 2++ab 0++aq (nm.length:Nat) 1++ab 0++aq 26 1++ab 0++aq ft 4++ab 0++aq r 4++ab 0++aq s 2++ab (W-18):=ca (g:=0) bA aJ aJ
 have s7:cd (([]:List UInt8)++ab 0++aq ty 4++ab 0++aq (W:Nat) 2++ab 0++aq (nm.length:Nat) 1++ab 0++aq 26 1++ab 0++aq ft 4++ab 0++aq r 4++ab 0++aq s 2++ab (W-18)) 18 (aq id 2)=([]:List UInt8)++ab 0++aq ty 4++ab 0++aq (W:Nat) 2++ab 0++aq (nm.length:Nat) 1++ab 0++aq 26 1++ab 0++aq ft 4++ab 0++aq r 4++ab 0++aq s 2++ab 0++aq id 2++ab (W-20):=ca (g:=0) bA aJ aJ;have c1:cd (([]:List UInt8)++ab 0++aq ty 4++ab 0++aq (W:Nat) 2++ab 0++aq (nm.length:Nat) 1++ab 0++aq 26 1++ab 0++aq ft 4++ab 0++aq r 4++ab 0++aq s 2++ab 0++aq id 2++ab (W-20)) 26 nm=([]:List UInt8)++ab 0++aq ty 4++ab 0++aq (W:Nat) 2++ab 0++aq (nm.length:Nat) 1++ab 0++aq 26 1++ab 0++aq ft 4++ab 0++aq r 4++ab 0++aq s 2++ab 0++aq id 2++ab 6++nm++ab (W-26-nm.length):=ca (g:=6) bA aa aa;rw[show ab W=([]:List UInt8)++ab W from rfl,s0,s1,s2,s3,s4,s5,s6,s7,c1];have z0:ab 0=[]:=rfl;rw[z0];simp only[List.nil_append,zaY,zah]
def Px:ay (ax [(184,x3 Ja)]) tg th tE (ah FH):=by
 rintro _ K ⟨_,⟨⟨⟨ty,nm,ft⟩,⟨r,s⟩,id⟩,rfl,hx,rfl⟩,hK⟩;unfold XW at hx;simp only at hx;simp only[Le.pv];have h1:=dX (26+nm.length);have hW8:((26+nm.length+7)/8*8:Nat)=pf (26+nm.length):=rfl;obtain⟨W,hW⟩:∃W,W=pf (26+nm.length):=⟨_,rfl⟩
 rw[<-hW]at h1 hW8;have hWI:(26+(nm.length:Int)+8-1)/8*8=(W:Int):=aa;have R7:∀B:List UInt8,B.length=W->(B.map aR).take (Int.toNat 26)++(nm.map aR).take ((B.map aR).length-Int.toNat 26)++(B.map aR).drop (Int.toNat 26+min (nm.map aR).length ((B.map aR).length-Int.toNat 26))=(cd B 26 nm).map aR:=
  λB hB=>Ks (lo:=26) vD aa
 (repeat'((conv=>whnf);first|(rw[hWI])|(simp only[R7,sI,bS])|(rw[JK,zcl])|refine Or.inr ?_|refine zco (by(simp only[zan,sI,bS];omega)) ?_|refine⟨_,0,4,_,rfl,⟨aF,aF⟩,rfl,?_⟩|refine⟨_,4,2,_,rfl,⟨aF,aF⟩,rfl,?_⟩|refine⟨_,6,1,_,rfl,⟨aF,aF⟩,rfl,?_⟩|refine⟨_,7,1,_,rfl,⟨aF,aF⟩,rfl,?_⟩|refine⟨_,8,4,_,rfl,⟨aF,aF⟩,rfl,?_⟩|refine⟨_,12,4,_,rfl,⟨aF,aF⟩,rfl,?_⟩|refine⟨_,16,2,_,rfl,⟨aF,aF⟩,rfl,?_⟩|refine⟨_,18,2,_,rfl,⟨aF,aF⟩,rfl,?_⟩|refine dJ aa ?_|refine QUO aa ?_|refine gF λ_=>?_|refine BTS ?_|refine cw ?_|refine Vu ?_|fail))<;>try(conv=>whnf)
 rw[show mP ⟨⟨ty,nm,ft⟩,⟨r,s⟩,id⟩=aq ty 4++aq (W:Nat) 2++aq (nm.length:Nat) 1++aq 26 1++aq ft 4++aq r 4++aq s 2++aq id 2++ab 6++nm++ab (W-26-nm.length)from by rw[hW];rfl,<-adq h1.1]at hK;exact im
set_option maxRecDepth 8000 in
def KI:ay (ax [(86,ah NG),(107,ah zL),(110,ah Au)]) y5 zr yn (ah FH):=by
 rintro _ K ⟨_,⟨⟨⟨ty,nm,ft⟩,⟨r,s⟩,id⟩,rfl,hx,rfl⟩,hK⟩;unfold XW at hx;simp only at hx;simp only[Le.pv];have h1:=dX (26+nm.length);obtain⟨W,hW⟩:∃W,W=pf (26+nm.length):=⟨_,rfl⟩
 rw[<-hW]at h1;have hW8:(8:Int)*((W/8:Nat):Int)=W:=aa
 (repeat'((conv=>whnf);first|(rw[hW8])|refine⟨pI ((W/8:Nat):Int),⟨_,8,rfl,aa,ML aa Is⟩,?_⟩|refine⟨_,⟨_,1,rfl,aa,rfl⟩,?_⟩|refine⟨_,⟨_,2,rfl,aa,rfl⟩,?_⟩|refine⟨_,⟨_,4,rfl,aa,rfl⟩,?_⟩|refine⟨_,⟨_,rfl,sk,rfl⟩,?_⟩|refine zco sk ?_|refine dJ sk ?_|refine dJ aa ?_|refine cw ?_|fail))<;>try(conv=>whnf)
 have key:∀p q:Nat,p=6->q=W-26-nm.length->K (.pv (.str (aq ty 4++aq (W:Nat) 2++aq (nm.length:Nat) 1++aq 26 1++aq ft 4++aq r 4++aq s 2++aq id 2++ab p++nm++ab q))):=by
  rintro p q rfl rfl;rw[show mP ⟨⟨ty,nm,ft⟩,⟨r,s⟩,id⟩=aq ty 4++aq (W:Nat) 2++aq (nm.length:Nat) 1++aq 26 1++aq ft 4++aq r 4++aq s 2++aq id 2++ab 6++nm++ab (W-26-nm.length)from by rw[hW];rfl]at hK;exact hK
 exact⟨.pv (.str _),rfl,trivial,key _ _ (by simp only[zae,dn];rfl) (by simp only[zae,dn,bS];omega)⟩
def aM(l:List Le):List UInt8:=(l.map mP).flatten
def MH{l:List Le}{i:Nat}{x:Le}(h:l[i]?=some x):aM (l.take (i+1))=aM (l.take i)++mP x:=by
 unfold aM;rw[zct,h];simp
def TS{x:Le}(h:XW x):LM x<=200000:=by
 have:=dX (26+x.k.nm.length);have e:LM x=pf (26+x.k.nm.length):=rfl;have:=h.2.2.2.2.2;omega
def abS(l:List Le):Prop:=l.length<=1000∧∀x∈l,XW x
def Ti{l:List Le}(h:∀x∈l,XW x):(aM l).length<=200000*l.length:=by
 induction l with
 |nil=>simp[aM]
 |cons x l ih=>
  have h1:=ih λy hy=>h y rQ
  have h2:=TS (h x ae);have e:aM (x::l)=mP x++aM l:=by simp[aM]
  rw[e,zae,sD,zap];omega
def Jh(ps:List PV)(v:PV):Prop:=∃s:VY,ps=[CQ s]/\abS s.l/\v=.str (aM s.l)
def LD:ay (ax [(125,ah FH)]) qg pW qq (ah Jh):=by
 rintro _ K ⟨_,⟨s,rfl,hs,rfl⟩,hK⟩;have hl:=hs.1
 (repeat'((conv=>whnf);first|refine jH ?_|refine gF λ_=>?_|fail))<;>try(conv=>whnf)
 refine⟨λm env σ=>∃n:Nat,n+m=s.l.length/\σ=[]/\env=[(3,.pv (.str (aM (s.l.take n)))),(6,.pv (CQ s)),eN 7 s.l.length,eN 8 n],s.l.length,⟨0,aa,rfl,rfl⟩,?_⟩;rintro m env σ ⟨n,hn,rfl,rfl⟩;have hb:=Ti (l:=s.l.take n) λx hx=>hs.2 x (za4 hx)
 have mN:(s.l.take n).length<=1000:=om;by_cases aS:n<s.l.length
 ·obtain⟨x,hx⟩:∃x,s.l[n]?=some x:=⟨_,zak aS⟩
  have hxn:=hs.2 x (zad hx);have hxb:=TS hxn
  (repeat'((conv=>whnf);first|refine dI hx ?_|refine⟨_,⟨x,rfl,hxn,rfl⟩,?_⟩|refine zco (by(rw[sD];omega)) ?_|refine dJ aa ?_|refine ai aa ?_|refine cw ?_|fail))<;>try(conv=>whnf)
  exact⟨m-1,aa,n+1,aa,rfl,by rw[MH hx];rfl⟩
 ·(repeat'((conv=>whnf);first|refine ar aa ?_|fail))<;>try(conv=>whnf)
  rw[za1 aa];exact im
def JF:ay (ax [(127,ah FH)]) yW yB zU (ah Jh):=by
 rintro _ K ⟨_,⟨s,rfl,hs,rfl⟩,hK⟩;have hl:=hs.1
 (conv=>whnf)
 refine⟨λm env σ=>∃n:Nat,n+m=s.l.length/\σ=[]/\env=[(0,.pv (CQ s)),(3,.pv (.str (aM (s.l.take n)))),eN 4 n],s.l.length,⟨0,aa,rfl,rfl⟩,?_⟩;rintro m env σ ⟨n,hn,rfl,rfl⟩;have hb:=Ti (l:=s.l.take n) λx hx=>hs.2 x (za4 hx)
 have mN:(s.l.take n).length<=1000:=om;by_cases aS:n<s.l.length
 ·obtain⟨x,hx⟩:∃x,s.l[n]?=some x:=⟨_,zak aS⟩
  have hxn:=hs.2 x (zad hx);have hxb:=TS hxn
  (repeat'((conv=>whnf);first|refine jH ?_|refine dI hx ?_|refine⟨_,⟨x,rfl,hxn,rfl⟩,?_⟩|refine zco (by(rw[sD];omega)) ?_|refine dJ aa ?_|refine ai aa ?_|refine gF λ_=>?_|fail))<;>try(conv=>whnf)
  exact⟨m-1,aa,n+1,aa,rfl,by rw[MH hx];rfl⟩
 ·(repeat'((conv=>whnf);first|refine jH ?_|refine ar aa ?_|refine gF λ_=>?_|fail))<;>try(conv=>whnf)
  rw[za1 aa];exact im
def WM{l:List Le}(h:(dT l).2=0):l.length<=32∧∀i,i<l.length->gT l i=0:=by
 unfold dT at h;split at h
 ·cases h
 ·exact⟨aa,nJ h⟩
def YQ{l:List Le}{i:Nat}{x:Le}(hx:l[i]?=some x)(h:gT l i=0):qS x=0:=by
 have h1:lV l i=0:=by
  unfold gT at h;split at h
  ·rename_i g;exact iH
  ·rename_i g;exact yP
 unfold lV at h1;rw[hx]at h1;simp only at h1;split at h1
 ·rename_i g;exact absurd h1 g
 ·rename_i g;exact yP
def axQ{x:Le}(h:qS x=0):XW x/\cb x.k.nm/\PM x.k.ty/\(0<=x.k.ft/\x.k.ft<=4096)/\xT x.r/\(0<=x.id/\x.id<=65535):=by
 unfold qS at h;split at h
 ·rename_i g;exact iH
 rename_i g1;split at h
 ·rename_i g;exact iH
 rename_i g2;split at h
 ·cases h
 rename_i g3;have g1:OI x.k=0:=zba.1 g1;unfold OI at g1;split at g1
 ·cases g1
 rename_i g4;split at g1
 ·cases g1
 rename_i g5;split at g1
 ·cases g1
 rename_i g6;have g2:AW x.r=0:=zba.1 g2;have g7:xT x.r:=by
  unfold AW at g2;split at g2
  ·assumption
  ·cases g2
 have g4:=zba.1 g4;have g5:=zba.1 g5;have ht:=aeZ g4.1;have hn:=Gk g5;refine⟨?_,g5,g4,aa,g7,aa⟩;unfold XW;have g8:=g7;unfold xT at g8;omega
def Qe{l:List Le}(h:(dT l).2=0):abS l:=by
 obtain⟨h1,h2⟩:=WM h;refine⟨aa,λx hx=>?_⟩;obtain⟨i,hi⟩:=ee.1 hx;exact(axQ (YQ hi (h2 i (aZ hi)))).1
def D9(ps:List PV)(r:RV):Prop:=∃s:VY,ps=[CQ s]/\leB s.l/\r=.tup [.pv (.str (if (dT s.l).2=0 then aM s.l else[])),.pv (pI (dT s.l).2)]
def AO:ay (ax [(45,gR true rE),(123,ah Jh)]) j8 kf jT (gR true D9):=by
 rintro _ K ⟨_,⟨s,rfl,hs,rfl⟩,hK⟩;by_cases h:(dT s.l).2=0
 ·rw[h,if_pos rfl]at hK
  (repeat'((conv=>whnf);first|refine⟨_,⟨s,rfl,hs,rfl⟩,?_⟩|refine ar (λe=>e h) ?_|refine⟨_,⟨s,rfl,Qe h,rfl⟩,?_⟩|fail))<;>try(conv=>whnf)
  exact aO
 ·rw[if_neg h]at hK
  (repeat'((conv=>whnf);first|refine⟨_,⟨s,rfl,hs,rfl⟩,?_⟩|refine ai h ?_|fail))<;>try(conv=>whnf)
  exact aO
def aBL(l:List UInt8)(a:Nat):cut a l.length l=l.drop a:=by unfold cut;rw[zcX]
def OP(l:List UInt8)(at_ a b:Nat):cut (at_+a) (at_+b) l=cut a b (l.drop at_):=by
 unfold cut;rw[List.take_drop,zaP]
def aep{A B C:List UInt8}{a b:Nat}(ha:a=A.length)(hb:b=a+B.length):cut a b (A++(B++C))=B:=by
 subst ha hb;unfold cut;rw[<-zah,show A.length+B.length=(A++B).length by simp,List.take_left,List.drop_left]
def Zf(b:UInt8):dU [b]=b.toNat:=by simp[dU]
def l8{l:List UInt8}{a k:Nat}(h:a+k<=l.length)(hk:k<=4):0<=dU (cut a (a+k) l)/\dU (cut a (a+k) l)<4294967296:=by
 have h1:=OX (cut a (a+k) l);have h2:(cut a (a+k) l).length=k:=C5;rw[h2]at h1;have h3:(256:Nat)^k<=256^4:=Nat.pow_le_pow_right af hk;have h4:(256:Nat)^4=4294967296:=af;have h5:((256:Int)^k)=((256^k:Nat):Int):=ae;omega
def Mk(s:List UInt8):Nat:=(dU (cut 6 7 s)).toNat
def dV(s:List UInt8):Le:=⟨⟨dU (cut 0 4 s),cut 26 (26+Mk s) s,dU (cut 8 12 s)⟩,⟨dU (cut 12 16 s),dU (cut 16 18 s)⟩,dU (cut 18 20 s)⟩
def EU(s:List UInt8):Prop:=26<=s.length/\26+Mk s<=s.length/\mP (dV s)=s.take (mP (dV s)).length
instance (s:List UInt8):Decidable (EU s):=by unfold EU;infer_instance
def OK:Nat->List UInt8->Option (List Le)
 |0,s=>if s=[]then some []else none
 |n+1,s=>if s=[]then some []else if EU s then(OK n (s.drop (mP (dV s)).length)).map λl=>dV s::l else none
def Im(s:List UInt8):Option (List Le):=OK s.length s
def ZT{s:List UInt8}(h:26<=s.length):Mk s<=255:=by
 have h1:=OX (cut 6 7 s);have h2:(cut 6 7 s).length=1:=by rw[HK aa]
 rw[h2]at h1;unfold Mk;omega
def Og{s:List UInt8}(h:26<=s.length):XW (dV s)/\(dV s).k.nm.length<=255:=by
 have h1:0<=dU (cut 0 4 s)/\dU (cut 0 4 s)<4294967296:=l8 (l:=s) (a:=0) (k:=4) aa af;have h2:0<=dU (cut 8 12 s)/\dU (cut 8 12 s)<4294967296:=l8 (l:=s) (a:=8) (k:=4) aa af;have h3:0<=dU (cut 12 16 s)/\dU (cut 12 16 s)<4294967296:=l8 (l:=s) (a:=12) (k:=4) aa af;have h4:0<=dU (cut 16 18 s)/\dU (cut 16 18 s)<4294967296:=l8 (l:=s) (a:=16) (k:=2) aa af;have h5:0<=dU (cut 18 20 s)/\dU (cut 18 20 s)<4294967296:=l8 (l:=s) (a:=18) (k:=2) aa af;have h6:=ZT h;have h7:(cut 26 (26+Mk s) s).length<=Mk s:=by unfold cut;simp;omega
 unfold XW dV;simp only;omega
def uD(x:Le):26<=(mP x).length:=by
 rw[sD];have:=dX (26+x.k.nm.length);have:LM x=pf (26+x.k.nm.length):=rfl;omega
def ID{s:List UInt8}(h:EU s):(mP (dV s)).length<=s.length:=by
 have:=congrArg List.length h.2.2;rw[zal]at this;omega
def WB:∀(n m:Nat) (s:List UInt8),s.length<=n->s.length<=m->OK n s=OK m s:=by
 intro n
 induction n with
 |zero=>
  intro m s h1 h2;have:s=[]:=zaf aa;subst this;cases m<;>simp[OK]
 |succ n ih=>
  intro m s h1 h2;cases m with
  |zero=>
   have:s=[]:=zaf aa;subst this;simp[OK]
  |succ m=>
   unfold OK;by_cases hs:s=[]
   ·simp[hs]
   ·rw[if_neg hs,if_neg hs];by_cases ho:EU s
    ·rw[if_pos ho,if_pos ho];have hp:=uD (dV s);rw[ih m _ (by rw[zbf];omega) (by rw[zbf];omega)]
    ·rw[if_neg ho,if_neg ho]
def ZO:Im []=some []:=rfl
def Yk{s:List UInt8}(h:s≠[])(ho:¬EU s):Im s=none:=by
 unfold Im;cases hs:s.length with
 |zero=>exact absurd (zaf hs) h
 |succ n=>unfold OK;rw[if_neg h,if_neg ho]
def abC{s:List UInt8}(h:s≠[])(ho:EU s):Im s=(Im (s.drop (mP (dV s)).length)).map λl=>dV s::l:=by
 unfold Im;cases hs:s.length with
 |zero=>exact absurd (zaf hs) h
 |succ n=>
  rw[OK,if_neg h,if_pos ho];have hp:=uD (dV s);rw[WB n _ _ (by rw[zbf];omega) (zaj _)]
def V_{n:Int}(h:0<=n/\n<65536):dU (aq n 2)=n:=by
 unfold aq aq aq;simp only[dU];have e:∀m:Int,0<=m->m<256->((CJ m.toNat).toNat:Int)=m:=by
  intro m h1 h2;unfold CJ;have:(UInt8.ofNat m.toNat).toNat=m.toNat%256:=ae;first
   |(rw[this];omega)
   |(simp;omega)
 rw[e (n%256) aa aa,e (n/256%256) aa aa];omega
def Zv{s:List UInt8}(h:26<=s.length):EU s↔(dU (cut 4 6 s)<=s.length/\26+(Mk s:Int)<=dU (cut 4 6 s)/\mP (dV s)=s.take (dU (cut 4 6 s)).toNat):=by
 have hb:=ZT h;have hv:0<=dU (cut 4 6 s)/\dU (cut 4 6 s)<4294967296:=l8 (l:=s) (a:=4) (k:=2) aa af;constructor
 ·rintro⟨_,h2,h3⟩;have hl:=ID ⟨h,h2,h3⟩;have hnm:(dV s).k.nm.length=Mk s:=by show(cut 26 (26+Mk s) s).length=_;rw[HK aa];omega
  have h8:=dX (26+(dV s).k.nm.length);have hz:LM (dV s)=pf (26+(dV s).k.nm.length):=rfl;have e1:cut 4 6 (mP (dV s))=aq (LM (dV s):Nat) 2:=by
   unfold mP adG;simp only[zah];exact aep (by rw[dn]) (by rw[dn])
  have e2:cut 4 6 s=cut 4 6 (mP (dV s)):=by
   have hp:=uD (dV s)
   conv=>rhs;rw[h3]
   unfold cut;rw[List.take_take,show min 6 (mP (dV s)).length=6 by omega]
  rw[e2,e1,V_ aa];rw[sD]at hl;refine⟨aa,aa,?_⟩;rw[zcl,<-sD];exact h3
 ·rintro⟨h1,h2,h3⟩;have hl:=congrArg List.length h3;rw[zal]at hl;refine⟨h,aa,?_⟩;rw[hl];rw[zau aa];exact h3
abbrev Lz(l:List Le):RV:=.fresh 80 6 (l.map Le.pv)
def N6(s:List UInt8):RV:=
 if 2048<s.length then .tup [Lz [],.pv (pI 8)]else match Im s with
  |none=>.tup [Lz [],.pv (pI 3)]
  |some l=>if (dT l).2=0 then .tup [Lz l,.pv (pI 0)]else .tup [Lz [],.pv (pI (dT l).2)]
def UP(ps:List PV)(r:RV):Prop:=∃s:List UInt8,ps=[.str s]/\s.length<=1000000/\r=N6 s
def kF(l:List Le):∀x∈l.map Le.pv,x.flat:=by
 intro x hx;obtain⟨t,_,rfl⟩:=zaX.1 hx;simp[Le.pv,PV.flat,PV.one,PV.S9]
structure I2(s rest:List UInt8)(acc:List Le):Prop where
 dec:Im s=(Im rest).map λl=>acc++l
 len:26*acc.length+rest.length<=2048
 ok:∀x∈acc,XW x/\x.k.nm.length<=255
def I2.go{s rest:List UInt8}{acc:List Le}(h:I2 s rest acc)(hr:rest≠[])(ho:EU rest):I2 s (rest.drop (mP (dV rest)).length) (acc++[dV rest]):=by
 have hp:=uD (dV rest);have hl:=h.len;have hol:=ID ho;refine⟨?_,by rw[zae,zbf];simp only[zap,zaZ];omega,λx hx=>?_⟩
 ·rw[h.dec,abC hr ho,Option.map_map];congr 1;funext l;simp
 ·rcases zax.1 hx with hx|hx
  ·exact h.ok x hx
  ·simp at hx;subst hx;exact Og ho.1
def I2.B{s rest:List UInt8}{acc:List Le}(h:I2 s rest acc):leB acc:=by have:=h.len;unfold leB;omega
def I2.bad{s rest:List UInt8}{acc:List Le}(h:I2 s rest acc)(hs:¬2048<s.length)(hr:rest≠[])(ho:¬EU rest):N6 s=.tup [Lz [],.pv (pI 3)]:=by
 unfold N6;rw[if_neg hs,h.dec,Yk hr ho];rfl
def I2.fin{s:List UInt8}{acc:List Le}(h:I2 s [] acc)(hs:¬2048<s.length):N6 s=if (dT acc).2=0 then .tup [Lz acc,.pv (pI 0)]else .tup [Lz [],.pv (pI (dT acc).2)]:=by
 unfold N6;rw[if_neg hs,h.dec,ZO];simp
def Oq:ay (ax [(124,ah rB),(125,ah FH),(45,gR true rE)]) j9 j0 jV (gR true UP):=by
 rintro _ K ⟨_,⟨s,rfl,hs,rfl⟩,hK⟩
 (repeat'((conv=>whnf);first|refine cA (λ_=>?_) (λ_=>?_)|fail))<;>try(conv=>whnf)
 ·rename_i h;unfold N6 at hK;rw[if_pos aa]at hK;exact DD
 rename_i Sk;have Sk:¬2048<s.length:=aa;refine⟨λm env σ=>∃(acc:List Le) (rest:List UInt8),(m=rest.length/\I2 s rest acc)/\σ=[.row 80 6 true (acc.map Le.pv)]/\env=[(4,.own 0),(5,.pv (.str rest))],s.length,⟨[],s,⟨rfl,ae,aT,ae⟩,rfl,rfl⟩,?_⟩;rintro m env σ ⟨acc,rest,⟨rfl,hI⟩,rfl,rfl⟩;have hlen:=hI.len;have hB:=hI.B;by_cases hr:rest=[]
 ·subst hr;rw[hI.fin Sk]at hK
  (repeat'((conv=>whnf);first|refine⟨_,⟨.sl acc,rfl,hB,rfl⟩,?_⟩|refine ar af ?_|refine cA (λ_=>?_) (λ_=>?_)|fail))<;>try(conv=>whnf)
  ·rename_i h;have h:(dT acc).2≠0:=h;rw[if_neg h]at hK;exact DD
  ·rename_i h;have h:(dT acc).2=0:=zba.1 h;rw[if_pos h]at hK;exact⟨[.fresh _ _ _,.pv _],⟨⟨rfl,rfl,rfl,rfl⟩,rfl,trivial⟩,⟨kF _,trivial,trivial⟩,hK⟩
 have bad:¬EU rest->K (.tup [Lz [],.pv (pI 3)]):=λh=>by rw[hI.bad Sk hr h]at hK;exact hK
 by_cases h26:rest.length<26
 ·(repeat'((conv=>whnf);first|refine ai hr ?_|refine ai aa ?_|fail))<;>try(conv=>whnf)
  exact⟨[.fresh _ _ _,.pv _],⟨⟨rfl,rfl,rfl,rfl⟩,rfl,trivial⟩,⟨kF [],trivial,trivial⟩,bad λh=>by have:=h.1;omega⟩
 have asK:=Zv (s:=rest) aa;have hv:0<=dU (cut 4 6 rest)/\dU (cut 4 6 rest)<4294967296:=l8 (l:=rest) (a:=4) (k:=2) aa af;have KZ:0<=dU (cut 6 7 rest)/\dU (cut 6 7 rest)<4294967296:=l8 (l:=rest) (a:=6) (k:=1) aa af;have hnm:(Mk rest:Int)=dU (cut 6 7 rest):=by unfold Mk;omega
 have hE:=Og (s:=rest) aa;have aAH:26<=rest.length:=aa;by_cases hq:dU (cut 4 6 rest)<=rest.length/\26+(Mk rest:Int)<=dU (cut 4 6 rest)
 case neg=>
  (repeat'((conv=>whnf);first|refine ai hr ?_|refine⟨pI (Mk rest),⟨_,6,1,rfl,aa,by rw[hnm]⟩,?_⟩|refine⟨pI (dU (cut 4 6 rest)),⟨_,4,2,rfl,aa,rfl⟩,?_⟩|refine dJ aa ?_|refine ai aa ?_|refine ar aa ?_|refine cA (λ_=>?_) (λ_=>?_)|fail))<;>try(conv=>whnf)
  all_goals exact⟨[.fresh _ _ _,.pv _],⟨⟨rfl,rfl,rfl,rfl⟩,rfl,trivial⟩,⟨kF [],trivial,trivial⟩,bad λh=>by have:=asK.1 h;omega⟩
 obtain⟨hq1,hq2⟩:=hq
 (repeat'((conv=>whnf);first|refine ai hr ?_|refine⟨pI (Mk rest),⟨_,6,1,rfl,aa,by rw[hnm]⟩,?_⟩|refine⟨pI (dU (cut 4 6 rest)),⟨_,4,2,rfl,aa,rfl⟩,?_⟩|refine⟨pI (dU (cut 0 4 rest)),⟨_,0,4,rfl,aa,rfl⟩,?_⟩|refine⟨pI (dU (cut 8 12 rest)),⟨_,8,4,rfl,aa,rfl⟩,?_⟩|refine⟨pI (dU (cut 12 16 rest)),⟨_,12,4,rfl,aa,rfl⟩,?_⟩|refine⟨pI (dU (cut 16 18 rest)),⟨_,16,2,rfl,aa,rfl⟩,?_⟩|refine⟨pI (dU (cut 18 20 rest)),⟨_,18,2,rfl,aa,rfl⟩,?_⟩|refine⟨_,⟨dV rest,rfl,hE.1,rfl⟩,?_⟩|refine dJ aa ?_|refine ar aa ?_|refine cA (λ_=>?_) (λ_=>?_)|refine cw ?_|refine Vu ?_|refine zco jD ?_|fail))<;>try(conv=>whnf)
 ·rename_i h;exact⟨[.fresh _ _ _,.pv _],⟨⟨rfl,rfl,rfl,rfl⟩,rfl,trivial⟩,⟨kF [],trivial,trivial⟩,bad λg=>h (asK.1 g).2.2⟩
 ·rename_i h;have h:mP (dV rest)=rest.take (dU (cut 4 6 rest)).toNat:=zba.1 h;have ho:=asK.2 ⟨hq1,hq2,h⟩;have hl:=ID ho;have hp:=uD (dV rest);have VH:(mP (dV rest)).length=(dU (cut 4 6 rest)).toNat:=by
   have:=congrArg List.length h;rw[zal]at this;omega
  have hg:=hI.go hr ho;refine⟨_,?_,acc++[dV rest],rest.drop (mP (dV rest)).length,⟨rfl,hg⟩,?_,?_⟩
  ·rw[zbf];omega
  ·rw[zaD];rfl
  ·rw[VH];simp only[aBL]
set_option maxRecDepth 8000 in
def Kf:ay (ax [(126,ah rB),(127,ah FH),(51,ah Vj)]) yM zA yx (gR true UP):=by
 rintro _ K ⟨_,⟨s,rfl,hs,rfl⟩,hK⟩
 (repeat'((conv=>whnf);first|refine cA (λ_=>?_) (λ_=>?_)|fail))<;>try(conv=>whnf)
 ·rename_i h;unfold N6 at hK;rw[if_pos aa]at hK;exact DD
 rename_i Sk;have Sk:¬2048<s.length:=aa;refine⟨λm env σ=>∃(acc:List Le) (at_:Nat),(m+at_=s.length/\I2 s (s.drop at_) acc)/\σ=[.row 80 6 true (acc.map Le.pv)]/\env=[(0,.pv (.str s)),(4,.own 0),eN 5 at_],s.length,⟨[],0,⟨rfl,by rw[List.drop_zero];simp,aT,ae⟩,rfl,rfl⟩,?_⟩;rintro m env σ ⟨acc,at_,⟨hm,hI⟩,rfl,rfl⟩;have hlen:=hI.len;have hB:=hI.B;obtain⟨rest,BY⟩:∃rest,rest=s.drop at_:=⟨_,rfl⟩
 rw[<-BY]at hI hlen;have hrl:rest.length=m:=by rw[BY,zbf];omega
 by_cases hr:rest=[]
 ·subst hr;rw[hI.fin Sk]at hK;simp only[zaZ]at hrl
  (repeat'((conv=>whnf);first|refine⟨_,⟨.sl acc,rfl,hB,rfl⟩,?_⟩|refine ar aa ?_|refine cA (λ_=>?_) (λ_=>?_)|fail))<;>try(conv=>whnf)
  ·rename_i h;have h:(dT acc).2≠0:=h;rw[if_neg h]at hK;exact DD
  ·rename_i h;have h:(dT acc).2=0:=zba.1 h;rw[if_pos h]at hK;exact⟨[.fresh _ _ _,.pv _],⟨⟨rfl,rfl,rfl,rfl⟩,rfl,trivial⟩,⟨kF _,trivial,trivial⟩,hK⟩
 have hrp:0<rest.length:=List.length_pos_iff.2 hr;have bad:¬EU rest->K (.tup [Lz [],.pv (pI 3)]):=λh=>by rw[hI.bad Sk hr h]at hK;exact hK
 by_cases h26:rest.length<26
 ·(repeat'((conv=>whnf);first|refine dJ aa ?_|refine ai aa ?_|fail))<;>try(conv=>whnf)
  exact⟨[.fresh _ _ _,.pv _],⟨⟨rfl,rfl,rfl,rfl⟩,rfl,trivial⟩,⟨kF [],trivial,trivial⟩,bad λh=>by have:=h.1;omega⟩
 have KZ:0<=dU (cut 6 7 rest)/\dU (cut 6 7 rest)<4294967296:=l8 (l:=rest) (a:=6) (k:=1) aa af;have hnm:(Mk rest:Int)=dU (cut 6 7 rest):=by unfold Mk;omega
 have hE:=Og (s:=rest) aa;have hnb:=ZT (s:=rest) aa;have aAH:26<=rest.length:=aa;obtain⟨b,hb⟩:∃b,s[at_+6]?=some b:=⟨_,zak aa⟩
 have hbn:(b.toNat:Int)=Mk rest:=by
  have e:cut 6 7 rest=[b]:=by
   have e0:cut (at_+6+1) (at_+7) s=[]:=zaf C5;rw[BY,<-OP,Ji hb aa aa,e0]
  rw[hnm,e,Zf]
 have St:∀(i:Int) (K:UInt8->Prop),i=((at_+6:Nat):Int)->K b→∃b,(0<=i/\s[i.toNat]?=some b)/\K b:=by
  rintro _ K rfl k;exact⟨b,⟨aa,by rw[zcl];exact hb⟩,k⟩
 by_cases hq:at_+26+Mk rest<=s.length
 case neg=>
  (repeat'((conv=>whnf);first|refine St _ _ aa ?_|refine dJ aa ?_|refine ai aa ?_|refine ar aa ?_|fail))<;>try(conv=>whnf)
  exact⟨[.fresh _ _ _,.pv _],⟨⟨rfl,rfl,rfl,rfl⟩,rfl,trivial⟩,⟨kF [],trivial,trivial⟩,bad λh=>by have:=h.2.1;omega⟩
 have EK:∀(i j:Int),i=((at_+26:Nat):Int)->j=((at_+(26+Mk rest):Nat):Int)->cut i.toNat j.toNat s=cut 26 (26+Mk rest) rest:=by
  rintro _ _ rfl rfl;rw[zcl,zcl,OP,BY]
 have abb:∀(i:Int) (a k:Nat),i=((at_+a:Nat):Int)->a+k<=26->k<=6->rB [.str s,pI i,pI k] (pI (dU (cut a (a+k) rest))):=by
  rintro _ a k rfl h1 h2;exact⟨s,at_+a,k,rfl,aa,by rw[BY,<-OP,Nat.add_assoc]⟩
 have ep:EU rest↔mP (dV rest)=rest.take (mP (dV rest)).length:=⟨λh=>h.2.2,λh=>⟨aAH,aa,h⟩⟩
 have hol:(mP (dV rest)).length<=300/\26<=(mP (dV rest)).length:=by
  refine⟨?_,uD _⟩;rw[sD];have h8:=dX (26+(dV rest).k.nm.length);have hz:LM (dV rest)=pf (26+(dV rest).k.nm.length):=rfl;omega
 have hg:=λho=>hI.go hr ho
 obtain⟨own,dx⟩:∃own,own=mP (dV rest):=⟨_,rfl⟩
 rw[<-dx]at ep hol hg;have hE1:=hE.1;have aAI:cut ((at_:Int)).toNat ((at_:Int)+(own.length:Nat)).toNat s=rest.take own.length:=by
  rw[zcl,show((at_:Int)+(own.length:Nat)).toNat=at_+own.length by omega];show cut (at_+0) (at_+own.length) s=_;rw[OP,<-BY];rfl
 clear hE hnm KZ Sk hs hB
 (repeat'((conv=>whnf);first|refine St _ _ aa ?_|(rw[EK _ _ aa aa])|refine⟨_,abb _ 0 4 aa af af,?_⟩|refine⟨_,abb _ 8 4 aa af af,?_⟩|refine⟨_,abb _ 12 4 aa af af,?_⟩|refine⟨_,abb _ 16 2 aa af af,?_⟩|refine⟨_,abb _ 18 2 aa af af,?_⟩|refine⟨.str own,⟨dV rest,rfl,hE1,congrArg PV.str dx⟩,?_⟩|refine dJ aa ?_|refine ai aa ?_|refine ar aa ?_|refine cA (λ_=>?_) (λ_=>?_)|refine cw ?_|refine Vu ?_|refine zco jD ?_|fail))<;>try(conv=>whnf)
 ·rename_i h;exact⟨[.fresh _ _ _,.pv _],⟨⟨rfl,rfl,rfl,rfl⟩,rfl,trivial⟩,⟨kF [],trivial,trivial⟩,bad λg=>by have:=congrArg List.length (ep.1 g);rw[zal]at this;omega⟩
 ·rename_i h;exact⟨[.fresh _ _ _,.pv _],⟨⟨rfl,rfl,rfl,rfl⟩,rfl,trivial⟩,⟨kF [],trivial,trivial⟩,bad λg=>h (by rw[aAI];exact(ep.1 g).symm)⟩
 ·rename_i h1 h;have h:cut ((at_:Int)).toNat ((at_:Int)+(own.length:Nat)).toNat s=own:=zba.1 h;have ho:=ep.2 (by rw[<-aAI];exact h.symm);have hg:=hg ho;rw[BY,zaP]at hg;refine⟨m-own.length,aa,acc++[dV rest],at_+own.length,⟨aa,?_⟩,?_,?_⟩
  ·rw[BY];exact hg
  ·rw[zaD];rfl
  ·rfl
def Yt(l:List At):Prop:=∀a∈l,iu a=0
def acn{a:At}(h:iu a=0):(Cd a).length=fF a:=by unfold fF;rw[if_pos h,sF]
def TE(ps:List PV)(x:PV):Prop:=∃s:As,ps=[nd s]/\(s.l.length<=1000/\Yt s.l)/\x=pI (cz s.l)
def NT:ay (ax [(40,ah FG)]) DS Ez DC (ah TE):=by
 rintro _ K ⟨_,⟨s,rfl,⟨hl,hs⟩,rfl⟩,hK⟩
 (conv=>whnf)
 refine⟨λm env σ=>∃(n:Nat),n+m=s.l.length/\σ=[]/\env=[(0,.pv (nd s)),eN 3 (cz (s.l.take n)),eN 4 n],s.l.length,⟨0,aa,rfl,rfl⟩,?_⟩;rintro m env σ ⟨n,hn,rfl,rfl⟩;have hb:=EW (s.l.take n);have mN:(s.l.take n).length<=1000:=om;by_cases aS:n<s.l.length
 ·obtain⟨a,ha⟩:∃a,s.l[n]?=some a:=⟨_,zak aS⟩
  have ep:=hs a (zad ha);have h0:=(mA ep).1;have hba:=Cs a;have Hj:=acn ep;obtain⟨e,he⟩:∃e,e=Cd a:=⟨_,rfl⟩
  rw[<-he]at Hj
  (repeat'((conv=>whnf);first|refine jH ?_|refine dI ha ?_|refine⟨.str e,⟨a,rfl,h0,congrArg PV.str he⟩,?_⟩|refine dJ aa ?_|refine ai aa ?_|refine gF λ_=>?_|fail))<;>try(conv=>whnf)
  exact⟨m-1,aa,n+1,aa,rfl,by rw[Mo ha,<-Hj];rfl⟩
 ·(repeat'((conv=>whnf);first|refine jH ?_|refine ar aa ?_|refine gF λ_=>?_|fail))<;>try(conv=>whnf)
  rw[za1 aa];exact aB
def aBF(f:Wh):Prop:=f.at_.l.length<=1000/\Yt f.at_.l
def Dz{f:Wh}(h:(nk f).2=0):aBF f/\q8 f/\(cG f.at_.l).2=0/\f.at_.l.length<=32/\(∀a∈f.at_.l,a.ty≠32/\a.id<65535):=by
 unfold nk at h;split at h
 ·cases h
 rename_i g1;split at h
 ·rename_i g;exact iH
 rename_i g2;have g2:=zba.1 g2;split at h
 ·cases h
 rename_i g3;have g4:=nJ h;have g5:=(u5 g2).1;refine⟨⟨aa,Ce g2⟩,zba.1 g1,g2,g5,λa ha=>⟨λe=>?_,?_⟩⟩
 ·have:=(HD (p:=λa:At=>decide (a.ty=32)=true) f.at_.l).1 (by unfold zp at g3;omega) a ha;exact this (by simpa using e)
 ·obtain⟨i,hi⟩:=ee.1 ha;have:=g4 i (aZ hi);unfold BR at this;rw[hi]at this;simp only at this;split at this
  ·assumption
  ·cases this
def EL(a:At):At:={ a with rn:=.sl a.rn.l }
def UE(ps:List PV)(p:Prop):Prop:=∃s t:VY,ps=[CQ s,CQ t]/\p=(s.l=t.l)
def ZF(a b:Le):[pI a.k.ty,PV.str a.k.nm,pI a.k.ft,pI a.r.r,pI a.r.s,pI a.id]=[pI b.k.ty,PV.str b.k.nm,pI b.k.ft,pI b.r.r,pI b.r.s,pI b.id]↔a=b:=by
 obtain⟨⟨a1,a2,a3⟩,⟨a4,a5⟩,a6⟩:=a;obtain⟨⟨b1,b2,b3⟩,⟨b4,b5⟩,b6⟩:=b;simp[pI];constructor
 ·rintro⟨h1,h2,h3,h4,h5,h6⟩;exact⟨⟨h1,h2,h3⟩,⟨h4,h5⟩,h6⟩
 ·rintro⟨⟨h1,h2,h3⟩,⟨h4,h5⟩,h6⟩;exact⟨h1,h2,h3,h4,h5,h6⟩
def C0:ay (ax []) qG ql qn (eX UE):=by
 rintro _ K ⟨_,⟨s,t,rfl,rfl⟩,hK⟩;by_cases hlen:s.l.length=t.l.length
 case neg=>
  (repeat'((conv=>whnf);first|refine jH ?_|refine ai aa ?_|refine gF λ_=>?_|fail))<;>try(conv=>whnf)
  exact⟨.pv (.bool _),rfl,trivial,hK _ (by simp only[zaG,false_iff];intro e;exact hlen (by rw[e]))⟩
 (repeat'((conv=>whnf);first|refine jH ?_|refine ar aa ?_|refine gF λ_=>?_|fail))<;>try(conv=>whnf)
 refine⟨λm env σ=>∃(n:Nat),(n+m=s.l.length∧∀j,j<n->s.l[j]?=t.l[j]?)/\σ=[]/\env=[(0,.pv (CQ s)),(1,.pv (CQ t)),eN 5 n],s.l.length,⟨0,⟨aa,λj hj=>aa⟩,rfl,rfl⟩,?_⟩;rintro m env σ ⟨n,⟨hn,h0⟩,rfl,rfl⟩;by_cases aS:n<s.l.length
 ·obtain⟨x,hx⟩:∃x,s.l[n]?=some x:=⟨_,zak aS⟩
  obtain⟨y,hy⟩:∃y,t.l[n]?=some y:=⟨_,zak aa⟩
  have hxy:=ZF x y
  (repeat'((conv=>whnf);first|refine jH ?_|refine dI hx ?_|refine dI hy ?_|refine dJ aa ?_|refine ai aa ?_|refine cA (λ_=>?_) (λ_=>?_)|refine gF λ_=>?_|refine cw ?_|fail))<;>try(conv=>whnf)
  ·rename_i g;exact Iv
  ·rename_i g;refine⟨m-1,aa,n+1,⟨aa,λj hj=>?_⟩,rfl,rfl⟩;rcases zcp (zcr hj)with h1|h1
   ·exact h0 j h1
   ·subst h1;rw[hx,hy,hxy.1 (zba.1 g)]
 ·(repeat'((conv=>whnf);first|refine jH ?_|refine ar aa ?_|refine gF λ_=>?_|fail))<;>try(conv=>whnf)
  refine⟨.pv (.bool _),rfl,trivial,hK _ ?_⟩;simp only[true_iff];refine zbb λi=>?_
  by_cases hi:i<s.l.length
  ·exact h0 i aa
  ·rw[zaK aa,zaK aa]
def HH:Spec:=mkS true true λps K=>ps=[]/\K (.pv (pB true))
def S1(s:List UInt8):List Le×Int:=
 if 2048<s.length then([],8)else match Im s with
  |none=>([],3)
  |some l=>if (dT l).2=0 then(l,0)else([],(dT l).2)
def Ve(s:List UInt8):N6 s=.tup [Lz (S1 s).1,.pv (pI (S1 s).2)]:=by
 unfold N6 S1;by_cases h:2048<s.length
 ·rw[if_pos h,if_pos h]
 ·rw[if_neg h,if_neg h];cases Im s with
  |none=>rfl
  |some l=>
   simp only;by_cases h2:(dT l).2=0
   ·rw[if_pos h2,if_pos h2]
   ·rw[if_neg h2,if_neg h2]
def Yo(ps:List PV)(x:PV):Prop:=∃(s:VY) (t:List UInt8),ps=[CQ s,.str t]/\x=pB true
def Tk:ay (ax [(10,HH),(45,gR true rE),(46,gR true D9),(47,gR true UP),(48,gR true rE),(49,gR true UP),(31,eX UE),(50,ah Jh)]) kE kN kr (ah Yo):=by
 rintro _ K ⟨_,⟨s,t,rfl,rfl⟩,hK⟩;by_cases hg:s.l.length<=40/\t.length<=2100
 case neg=>
  (repeat'((conv=>whnf);first|refine jH ?_|refine⟨rfl,?_⟩|refine dY ?_|refine ai aa ?_|refine cA (λ_=>?_) (λ_=>?_)|refine gF λ_=>?_|fail))<;>try(conv=>whnf)
  all_goals exact zb
 (repeat'((conv=>whnf);first|refine jH ?_|refine⟨rfl,?_⟩|refine dY ?_|refine ar aa ?_|refine gF λ_=>?_|fail))<;>try(conv=>whnf)
 refine⟨λm env σ=>∃(n:Nat),(n+m=s.l.length∧∀j,j<n→∀x,s.l[j]?=some x->x.k.nm.length<=60)/\σ=[]/\env=[(0,.pv (CQ s)),(1,.pv (.str t)),eN 5 n],s.l.length,⟨0,⟨aa,λj hj=>aa⟩,rfl,rfl⟩,?_⟩;rintro m env σ ⟨n,⟨hn,h0⟩,rfl,rfl⟩;by_cases aS:n<s.l.length
 ·obtain⟨x,hx⟩:∃x,s.l[n]?=some x:=⟨_,zak aS⟩
  (repeat'((conv=>whnf);first|refine jH ?_|refine dI hx ?_|refine dJ aa ?_|refine ai aa ?_|refine cA (λ_=>?_) (λ_=>?_)|refine gF λ_=>?_|fail))<;>try(conv=>whnf)
  ·exact zb
  ·rename_i g;refine⟨m-1,aa,n+1,⟨aa,λj hj y hy=>?_⟩,rfl,rfl⟩;rcases zcp (zcr hj)with h1|h1
   ·exact h0 j h1 y hy
   ·subst h1;rw[hx]at hy;cases hy;omega
 have hB:leB s.l:=by unfold leB;omega
 have hl:(s.l.map Le.pv).length=s.l.length:=zan _;by_cases hc:(dT s.l).2=0
 ·(repeat'((conv=>whnf);first|refine jH ?_|refine zco (by(simp only[hl,zaZ];omega)) ?_|refine⟨_,⟨.sl s.l,rfl,hB,rfl⟩,?_⟩|refine⟨_,⟨s,rfl,hB,rfl⟩,?_⟩|refine⟨_,⟨t,rfl,aa,(Ve t).symm⟩,?_⟩|refine⟨_,⟨.sl (S1 t).1,.sl (S1 t).1,rfl,rfl⟩,?_⟩|refine⟨_,⟨s,rfl,Qe hc,rfl⟩,?_⟩|refine dY ?_|refine gj ?_|refine ai aa ?_|refine ar aa ?_|refine cA (λ_=>?_) (λ_=>?_)|refine gF λ_=>?_|refine cw ?_|fail))<;>try(conv=>whnf)
  all_goals first
   |exact zb
   |(rename_i g;exact absurd rfl g)
   |(rename_i g;exact absurd (if_pos hc) g)
   |(rename_i g;exact absurd (if_neg hc) g)
   |(rename_i g;exact absurd hc g)
   |(rename_i g;exact absurd g hc)
 ·(repeat'((conv=>whnf);first|refine jH ?_|refine zco (by(simp only[hl,zaZ];omega)) ?_|refine⟨_,⟨.sl s.l,rfl,hB,rfl⟩,?_⟩|refine⟨_,⟨s,rfl,hB,rfl⟩,?_⟩|refine⟨_,⟨t,rfl,aa,(Ve t).symm⟩,?_⟩|refine⟨_,⟨.sl (S1 t).1,.sl (S1 t).1,rfl,rfl⟩,?_⟩|refine dY ?_|refine gj ?_|refine ai aa ?_|refine ar aa ?_|refine cA (λ_=>?_) (λ_=>?_)|refine gF λ_=>?_|refine cw ?_|fail))<;>try(conv=>whnf)
  all_goals first
   |exact zb
   |(rename_i g;exact absurd rfl g)
   |(rename_i g;exact absurd (if_pos hc) g)
   |(rename_i g;exact absurd (if_neg hc) g)
   |(rename_i g;exact absurd hc g)
   |(rename_i g;exact absurd g hc)
def LS:ay (ax [(112,ah OV),(177,ah FG)]) fQ fX fT (gR true afb):=xN
def Zh:LO HH:=by
 refine⟨λ_=>⟨rfl,λps K h=>?_⟩,λ_ _ h=>h,rfl⟩;obtain⟨rfl,h⟩:=h;exact⟨_,h,λK' h=>⟨rfl,h⟩⟩
abbrev aud:Bool×List CT:=(false,[.sl true [.int .i64,.str,.int .i64,.int .i64,.int .i64,.int .i64]])
def adt{xs:List PV}(h:En [aud,(false,[.str])] xs):∃(s:VY) (t:List UInt8),xs=[CQ s,.str t]:=by
 simp only[En]at h;obtain⟨y,_,rfl,_,h1,z,_,rfl,_,h2,rfl⟩:=h;obtain⟨t,rfl,_⟩:=acq (h2 trivial);have h3:=h1 trivial;simp only[jO,Fs]at h3;obtain⟨_,_,e,⟨ak,rfl,_,he⟩,rfl⟩:=h3;injection e with e _
 subst e;obtain⟨l,rfl,_⟩:=aeb (g:=Le.pv) (q:=λ_=>True) λz hz=>by
  obtain⟨zs,rfl,_,_,rfl,⟨ty,rfl,_⟩,_,_,rfl,⟨nm,rfl,_⟩,_,_,rfl,⟨ft,rfl,_⟩,_,_,rfl,⟨r,rfl,_⟩,_,_,rfl,⟨s,rfl,_⟩,_,_,rfl,⟨i,rfl,_⟩,rfl⟩:=(he z hz).1 trivial;exact⟨⟨⟨ty,nm,ft⟩,⟨r,s⟩,i⟩,rfl,trivial⟩
 exact⟨.sl l,t,rfl⟩
def Zb:∀xs,En [aud,(false,[.str])] xs->(ah Yo).run xs λr=>r=.pv (.bool true):=λxs h=>by
 obtain⟨s,t,rfl⟩:=adt h;exact⟨_,⟨s,t,rfl,rfl⟩,rfl⟩
def O9(a b:Ky):Prop:=a.ty<b.ty\/a.ty=b.ty/\(O_ a.nm b.nm\/a.nm=b.nm/\a.ft<b.ft)
instance (a b:Ky):Decidable (O9 a b):=Classical.propDecidable _
def Qa{a b:Int}:ES a b<0↔a<b:=JG
def YK{a b:Int}:0<ES a b↔b<a:=JG
def ZC{a b:List UInt8}:De a b<0↔O_ a b:=by
 unfold De;by_cases h:O_ a b
 ·rw[if_pos h];exact⟨λ_=>h,λ_=>af⟩
 ·rw[if_neg h];split
  ·exact⟨λh=>absurd h af,λg=>absurd g h⟩
  ·exact⟨λh=>absurd h af,λg=>absurd g h⟩
def zq{a b:Ky}:lH a b<0↔O9 a b:=by
 unfold lH O9;by_cases h1:ES a.ty b.ty=0
 ·rw[if_neg (λh=>h h1)];have e1:=Am.1 h1;by_cases h2:De a.nm b.nm=0
  ·rw[if_neg (λh=>h h2),Qa];have e2:=Ag.1 h2;constructor
   ·exact λh=>.inr ⟨e1,.inr ⟨e2,h⟩⟩
   ·rintro(h|⟨_,h|⟨_,h⟩⟩)
    ·omega
    ·rw[e2]at h;exact absurd h (rF _)
    ·exact h
  ·rw[if_pos h2,ZC];constructor
   ·exact λh=>.inr ⟨e1,.inl h⟩
   ·rintro(h|⟨_,h|⟨h,_⟩⟩)
    ·omega
    ·exact h
    ·exact absurd (Ag.2 h) h2
 ·rw[if_pos h1,Qa];constructor
  ·exact .inl
  ·rintro(h|⟨h,_⟩)
   ·exact h
   ·exact absurd (Am.2 h) h1
def jx(a:Ky):¬O9 a a:=by
 rintro(h|⟨_,h|⟨_,h⟩⟩)
 ·omega
 ·exact rF _ h
 ·omega
def Fo{a b c:Ky}(h1:O9 a b)(h2:O9 b c):O9 a c:=by
 unfold O9 at*;rcases h1 with h1|⟨e1,h1⟩
 ·rcases h2 with h2|⟨e2,_⟩
  ·exact .inl aa
  ·exact .inl aa
 ·rcases h2 with h2|⟨e2,h2⟩
  ·exact .inl aa
  ·refine .inr ⟨aa,?_⟩;rcases h1 with h1|⟨f1,h1⟩
   ·rcases h2 with h2|⟨f2,_⟩
    ·exact .inl (Mn h1 h2)
    ·exact .inl (f2▸h1)
   ·rcases h2 with h2|⟨f2,h2⟩
    ·exact .inl (f1▸h2)
    ·exact .inr ⟨f1.trans f2,aa⟩
def HI(a b:Ky):O9 a b\/a=b\/O9 b a:=by
 obtain⟨t1,n1,f1⟩:=a;obtain⟨t2,n2,f2⟩:=b;unfold O9;simp only[Ky.mk.injEq];rcases zc5 t1 t2 with h|h|h
 ·exact .inl (.inl h)
 ·rcases DA n1 n2 with g|g|g
  ·exact .inl (.inr ⟨h,.inl g⟩)
  ·rcases zc5 f1 f2 with k|k|k
   ·exact .inl (.inr ⟨h,.inr ⟨g,k⟩⟩)
   ·exact .inr (.inl ⟨h,g,k⟩)
   ·exact .inr (.inr (.inr ⟨h.symm,.inr ⟨g.symm,k⟩⟩))
  ·exact .inr (.inr (.inr ⟨h.symm,.inl g⟩))
 ·exact .inr (.inr (.inl h))
def Az{a b:Ky}(h:O9 a b):¬O9 b a:=λg=>jx a (Fo h g)
def X4{a b:Ky}:0<lH a b↔O9 b a:=by
 rcases HI a b with h|h|h
 ·have:=zq.2 h;exact⟨λg=>aa,λg=>absurd g (Az h)⟩
 ·subst h;have:=Ct.2 (rfl:a=a);exact⟨λg=>aa,λg=>absurd g (jx a)⟩
 ·have h1:¬lH a b<0:=λg=>Az h (zq.1 g)
  have h2:lH a b≠0:=λg=>jx a (by have:=Ct.1 g;subst this;exact h)
  exact⟨λ_=>h,λ_=>aa⟩
structure Ta where
 a:At
 t:Nat
def Ta.pv(x:Ta):PV:=x.a.pv
def Qn(x y:Ta):Prop:=O9 x.a.key y.a.key\/x.a.key=y.a.key/\x.t<y.t
instance (x y:Ta):Decidable (Qn x y):=Classical.propDecidable _
def mX(x y:Ta):Bool:=decide (Qn x y)
def Kc(x:Ta):¬Qn x x:=by
 rintro(h|⟨_,h⟩)
 ·exact jx _ h
 ·omega
def z8{x y z:Ta}(h1:Qn x y)(h2:Qn y z):Qn x z:=by
 unfold Qn at*;rcases h1 with h1|⟨e1,h1⟩
 ·rcases h2 with h2|⟨e2,_⟩
  ·exact .inl (Fo h1 h2)
  ·exact .inl (e2▸h1)
 ·rcases h2 with h2|⟨e2,h2⟩
  ·exact .inl (e1▸h2)
  ·exact .inr ⟨e1.trans e2,aa⟩
def U6{x y:Ta}(h:x.t≠y.t):Qn x y\/Qn y x:=by
 unfold Qn;rcases HI x.a.key y.a.key with g|g|g
 ·exact .inl (.inl g)
 ·rcases Nat.lt_or_gt_of_ne h with k|k
  ·exact .inl (.inr ⟨g,k⟩)
  ·exact .inr (.inr ⟨g.symm,k⟩)
 ·exact .inr (.inl g)
def Da:Ord mX:=by
 constructor
 ·intro x y h;unfold mX at*;rw[decide_eq_true_iff]at h;rw[decide_eq_false_iff_not];exact λg=>Kc x (z8 h g)
 ·intro x y z h1 h2;unfold mX at*;rw[decide_eq_false_iff_not]at*;intro h;rcases Classical.em (Qn x y)with g|g
  ·exact h2 (z8 h g)
  ·
   have hxy:¬Qn y x:=h1;unfold Qn at g hxy;rcases HI x.a.key y.a.key with k|k|k
   ·exact g (.inl k)
   ·have ht:x.t=y.t:=by
     rcases Nat.lt_trichotomy x.t y.t with q|q|q
     ·exact absurd (.inr ⟨k,q⟩) g
     ·exact q
     ·exact absurd (.inr ⟨k.symm,q⟩) hxy
    refine h2 ?_;unfold Qn at h ⊢;rw[<-k,<-ht];exact h
   ·exact hxy (.inl k)
def So(l:List At):List Ta:=l.zipIdx.map λp=>⟨p.1,p.2⟩
def ZL(l:List At):(So l).map Ta.a=l:=by
 unfold So;rw[zcR];exact List.zipIdx_map_fst 0 l
def DK{l:List At}{i:Nat}:(So l)[i]?=(l[i]?).map λa=>⟨a,i⟩:=by
 unfold So;rw[zbC,List.getElem?_zipIdx];cases l[i]?<;>simp
def Nt(l:List At):(So l).length=l.length:=by simp[So]
abbrev Srt(l:List Ta):Prop:=l.Pairwise Qn
def Kn:∀{l m:List Ta},l.Perm m->Srt l->Srt m->l=m
 |[],m,h,_,_=>(List.Perm.nil_eq h)
 |a::l,[],h,_,_=>absurd h.length_eq ae
 |a::l,b::m,h,h1,h2=>by
  have hab:a=b:=by
   have h1:=zcN.1 h1;have h2:=zcN.1 h2;rcases zay.1 ((h.mem_iff (a:=a)).1 (zcM ..))with e|e
   ·exact e
   ·rcases zay.1 ((h.mem_iff (a:=b)).2 (zcM ..))with f|f
    ·exact f.symm
    ·exact absurd (z8 (h1.1 b f) (h2.1 a e)) (Kc a)
  subst hab;rw[Kn (List.Perm.cons_inv h) (zcN.1 h1).2 (zcN.1 h2).2]
def S6(x:Ta):List Ta->List Ta
 |[]=>[x]
 |y::l=>if Qn y x then y::S6 x l else x::y::l
def stT(l:List Ta):List Ta:=l.foldr S6 []
def FJ(x:Ta):∀l,(S6 x l).Perm (x::l)
 |[]=>.refl _
 |y::l=>by
  unfold S6;split
  ·exact((FJ x l).cons y).trans (List.Perm.swap x y l)
  ·exact .refl _
def Et:∀l,(stT l).Perm l
 |[]=>.refl _
 |x::l=>(FJ x (stT l)).trans ((Et l).cons x)
def QQ{x:Ta}:∀{l:List Ta},Srt l->(∀y∈l,x.t≠y.t)->Srt (S6 x l)
 |[],_,_=>by unfold S6;exact List.pairwise_singleton _ _
 |y::l,h,ht=>by
  rw[Srt,zcN]at h;unfold S6;split
  ·rename_i g;refine zcN.2 ⟨λz hz=>?_,QQ h.2 λz hz=>ht z (zcS _ hz)⟩;rcases zay.1 ((FJ x l).mem_iff.1 hz)with rfl|hz
   ·exact g
   ·exact h.1 z hz
  ·rename_i g;have hxy:Qn x y:=(U6 (ht y (zcM ..))).resolve_right g;refine zcN.2 ⟨λz hz=>?_,zcN.2 h⟩;rcases zay.1 hz with rfl|hz
   ·exact hxy
   ·exact z8 hxy (h.1 z hz)
abbrev aaC(l:List Ta):Prop:=l.Pairwise λx y=>x.t≠y.t
def Uq:∀{l:List Ta},aaC l->Srt (stT l)
 |[],_=>List.Pairwise.nil
 |x::l,h=>by
  rw[aaC,zcN]at h;exact QQ (Uq h.2) λy hy=>h.1 y ((Et l).mem_iff.1 hy)
def Ut(l:List At):aaC (So l):=by
 rw[aaC,zbv];intro i j hi hj iT;have h1:=DK (l:=l) (i:=i);have h2:=DK (l:=l) (i:=j);rw[zak hi]at h1;rw[zak hj]at h2;rw[Nt]at hi hj;rw[zak hi]at h1;rw[zak hj]at h2;rw[Option.some.inj h1,Option.some.inj h2];show i≠j;omega
def stS(l:List At):List At:=(stT (So l)).map Ta.a
def Z7{l:List At}{m:List Ta}(h:m.Perm (So l))(hs:m.Pairwise λx y=>mX y x=false):m.map Ta.a=stS l:=by
 have hd:aaC m:=h.symm.pairwise (Ut l) (λe=>Ne.symm e);have hm:Srt m:=hs.imp₂ (λx y h1 h2=>by
  unfold mX at h1;rw[decide_eq_false_iff_not]at h1;exact(U6 h2).resolve_right h1) hd
 unfold stS;rw[Kn (h.trans (Et _).symm) hm (Uq (Ut l))]
def Z9(l:List At):(stS l).Perm l:=by
 have:=(Et (So l)).map Ta.a;rw[ZL]at this;exact this
abbrev adg(l:List At):Prop:=l.Pairwise λx y=>¬O9 y.key x.key
def aiS{l:List At}(h:adg l):stS l=l:=by
 have:(So l).Pairwise λx y=>mX y x=false:=by
  rw[zbv];intro i j hi hj iT;have h1:=DK (l:=l) (i:=i);have h2:=DK (l:=l) (i:=j);rw[zak hi]at h1;rw[zak hj]at h2;rw[Nt]at hi hj;rw[zak hi]at h1;rw[zak hj]at h2;rw[Option.some.inj h1,Option.some.inj h2];unfold mX;rw[decide_eq_false_iff_not];have h3:=zbv.1 h i j hi hj iT;rintro(g|⟨_,g⟩)
  ·exact h3 g
  ·have g:j<i:=g;omega
 have:=Z7 (.refl _) this;rw[ZL]at this;exact this.symm
abbrev Sq(_:Ta):Prop:=True
abbrev PG(_:Int):Prop:=True
def XU(p q:Ta):Int:=lH p.a.key q.a.key
def Dy(_ _:Int):PV:=.clo 157 []
def OS(ps:List PV)(x:PV):Prop:=∃(p q:Ta) (c jG:Int),ps=[p.pv,q.pv]/\(Sq p/\Sq q/\PG jG)/\x=pI (XU p q)
def TK:ay (ax [(113,ah Ad),(120,ah Ig)]) lA lq lB (ah OS):=by
 rintro _ K ⟨_,⟨p,q,c,jG,rfl,_,rfl⟩,hK⟩
 (repeat'((conv=>whnf);first|refine⟨_,⟨p.a,rfl,rfl⟩,?_⟩|refine⟨_,⟨q.a,rfl,rfl⟩,?_⟩|refine⟨_,⟨p.a.key,q.a.key,rfl,rfl⟩,?_⟩|refine cw ?_|fail))<;>try(conv=>whnf)
 exact aB
def Ao{p q:Ta}(h:XU p q<0):mX p q=true:=by unfold mX;rw[decide_eq_true_iff];exact .inl (zq.1 h)
def Aj{p q:Ta}(ht:q.t<p.t)(h:¬XU p q<0):mX p q=false:=by
 unfold mX;rw[decide_eq_false_iff_not];rintro(g|⟨_,g⟩)
 ·exact h (zq.2 g)
 ·omega
def aqT{p q:Ta}(ht:q.t<p.t):XU p q<0↔mX p q=true:=⟨Ao,λh=>by
 refine Classical.byContradiction λg=>?_
 rw[Aj ht g]at h;cases h⟩
def aco{α:Type}{f:Nat->α}{n:Nat}{F:α->PV}{i k:Nat}{x:α}{K:PV->Prop}(h:k<n)(c:K (F (if k=i then x else f k))):∃y,(((MS f n).map F).set i (F x))[k]?=some y/\K y:=
 ⟨_,by rw[jL,qP,zbC,wB h];rfl,c⟩
abbrev sd(ap:Bool)(f:Nat->Ta)(N:Nat):cu:=.row 71 11 ap ((MS f N).map Ta.pv)
def YJ(xs:List AV)(σ:aw)(K:AV->aw->Prop):Prop:=
 ∃(ap:Bool) (f:Nat->Ta) (N:Nat) (a b n c jG:Int),xs=[.own 0,.pv (pI a),.pv (pI b),.pv (pI n),.pv (Dy c jG)]/\σ=[sd ap f N]/\(0<=a/\a+n<=b/\b+n<=N/\0<=n/\N<=100000)/\K (.tup []) [sd ap (jI f a.toNat b.toNat n.toNat) N]
def TH:ki (ax []) c7 da c_ (x3 YJ):=by
 rintro _ _ K ⟨ap,f,N,a,b,n,c,jG,rfl,rfl,⟨h0,h1,h2,h3,h4⟩,hK⟩;refine⟨λm env σ=>∃i:Nat,(i+m=n)/\σ=[sd ap (jI f a.toNat b.toNat i) N]/\env=[(0,.own 0),eN 1 a,eN 2 b,eN 3 n,eN 10 i],n.toNat,⟨0,aa,?_,rfl⟩,?_⟩
 ·refine congrArg (λx=>[sd ap x N]) (funext λj=>?_);unfold jI;rw[if_neg aa,if_neg aa]
 rintro m env σ ⟨i,hi,rfl,rfl⟩
 (repeat'(refine uR ?_;first|refine aco aa ?_|refine dJ aa ?_|refine cA (λ_=>?_) (λ_=>?_)|refine P8 aa ?_|refine QI aa ?_|refine cw ?_|refine zco jD ?_|fail))<;>try(conv=>whnf)
 ·refine⟨m-1,aa,i+1,aa,?_,rfl⟩;refine congrArg (λx=>[cu.row _ _ _ x]) ?_;rw[show PV.agg [pI (jI f a.toNat b.toNat i (b+i).toNat).a.ty,PV.str (jI f a.toNat b.toNat i (b+i).toNat).a.nm,pI (jI f a.toNat b.toNat i (b+i).toNat).a.id,pI (jI f a.toNat b.toNat i (b+i).toNat).a.fl,pB (jI f a.toNat b.toNat i (b+i).toNat).a.rs,PV.str (jI f a.toNat b.toNat i (b+i).toNat).a.vl,pI (jI f a.toNat b.toNat i (b+i).toNat).a.ft,x4 (jI f a.toNat b.toNat i (b+i).toNat).a.rn,pI (jI f a.toNat b.toNat i (b+i).toNat).a.al,pI (jI f a.toNat b.toNat i (b+i).toNat).a.sz,pI (jI f a.toNat b.toNat i (b+i).toNat).a.vd]=(jI f a.toNat b.toNat i (b+i).toNat).pv from rfl,
   show PV.agg [pI (jI f a.toNat b.toNat i (a+i).toNat).a.ty,PV.str (jI f a.toNat b.toNat i (a+i).toNat).a.nm,pI (jI f a.toNat b.toNat i (a+i).toNat).a.id,pI (jI f a.toNat b.toNat i (a+i).toNat).a.fl,pB (jI f a.toNat b.toNat i (a+i).toNat).a.rs,PV.str (jI f a.toNat b.toNat i (a+i).toNat).a.vl,pI (jI f a.toNat b.toNat i (a+i).toNat).a.ft,x4 (jI f a.toNat b.toNat i (a+i).toNat).a.rn,pI (jI f a.toNat b.toNat i (a+i).toNat).a.al,pI (jI f a.toNat b.toNat i (a+i).toNat).a.sz,pI (jI f a.toNat b.toNat i (a+i).toNat).a.vd]=(jI f a.toNat b.toNat i (a+i).toNat).pv from rfl,jL,jL,qP,qP]
  refine congrArg (List.map Ta.pv) (HB λj _=>?_);unfold jI
  repeat' split
  all_goals first|(exfalso;omega)|rfl|(congr 1<;>omega)
 ·have:n.toNat=i:=by omega
  rw[this]at hK;exact hK
def Y0(xs:List AV)(σ:aw)(K:AV->aw->Prop):Prop:=
 ∃(ap:Bool) (f:Nat->Ta) (N:Nat) (a m b c jG:Int),xs=[.own 0,.pv (pI a),.pv (pI m),.pv (pI b),.pv (Dy c jG)]/\σ=[sd ap f N]/\(0<=a/\a<m/\m<b/\b<=N/\N<=100000)/\K (.tup []) [sd ap (fD f a.toNat m.toNat b.toNat) N]
def Xc:ki (ax [(223,x3 YJ)]) dF dB dA (x3 Y0):=by
 rintro _ _ K ⟨ap,f,N,a,m,b,c,jG,rfl,rfl,⟨h0,h1,h2,h3,h4⟩,hK⟩
 (repeat'(refine uR ?_;first|refine dJ aa ?_|fail))<;>try(conv=>whnf)
 refine⟨λq env σ=>∃(i j:Int) (g:Nat->Ta),(q=i+j/\0<i/\0<j/\i<=m-a/\j<=b-m/\fD f a.toNat m.toNat b.toNat=fD g (m-i).toNat m.toNat (m+j).toNat)/\σ=[sd ap g N]/\env=[(0,.own 0),eN 2 m,(4,.pv (Dy c jG)),eN 10 i,eN 11 j],(b-a).toNat,⟨m-a,b-m,f,⟨aa,aa,aa,aa,aa,by rw[show m-(m-a)=a by omega,show m+(b-m)=b by omega]⟩,rfl,rfl⟩,?_⟩;rintro q env σ ⟨i,j,g,⟨hq,hi,hj,hi2,Pj,he⟩,rfl,rfl⟩
 (repeat'(refine uR ?_;first|refine dJ aa ?_|refine cA (λ_=>?_) (λ_=>?_)|refine⟨_,_,_,_,_,_,_,_,rfl,rfl,sC,?_⟩|fail))<;>try(conv=>whnf)
 ·rename_i qY hgt;refine⟨j.toNat+(i-j).toNat,aa,i-j,j,jI g (m-i).toNat m.toNat j.toNat,⟨aa,aa,aa,aa,aa,?_⟩,rfl,rfl⟩;rw[he];funext x;unfold fD jI
  repeat' split
  all_goals first|(exfalso;omega)|(congr 1<;>omega)
 ·rename_i qY hgt;refine⟨i.toNat+(j-i).toNat,aa,i,j-i,jI g (m-i).toNat (m+j-i).toNat i.toNat,⟨aa,aa,aa,aa,aa,?_⟩,rfl,rfl⟩;rw[he];funext x;unfold fD jI
  repeat' split
  all_goals first|(exfalso;omega)|(congr 1<;>omega)
 ·rename_i qY;have iT:i=j:=Decidable.of_not_not qY;subst iT;have e:fD f a.toNat m.toNat b.toNat=jI g (m-i).toNat m.toNat i.toNat:=by
   rw[he];funext x;unfold fD jI
   repeat' split
   all_goals first|(exfalso;omega)|(congr 1<;>omega)
  rw[e]at hK;exact hK
def dy(g:Nat->Ta)(j i:Nat):Nat->Ta:=λk=>if k=j then g i else if j<k/\k<=i then g (k-1)else g k
def FD(g:Nat->Ta)(i:Nat):dy g i i=g:=by
 funext k;unfold dy;by_cases h:k=i
 ·rw[if_pos h,h]
 ·rw[if_neg h,if_neg aa]
def Fq(g:Nat->Ta){j i:Nat}(h0:0<j)(h:j<=i):vN (dy g j i) (j-1) j=dy g (j-1) i:=by
 funext k;unfold vN dy
 repeat' split
 all_goals first|(exfalso;omega)|rfl|(congr 1<;>omega)
def vG(g:Nat->Ta){a i:Nat}:∀d,d<=i-a->a<=i->cV a (i+1) g (dy g (i-d) i):=by
 intro d
 induction d with
 |zero=>intro _ _;rw[Nat.sub_zero,FD];exact .refl _ _ _
 |succ d ih=>
  intro h1 h2;refine(ih aa h2).trans ?_;rw[<-show i-d-1=i-(d+1) by omega,<-Fq g aa aa];have:=JP (dy g (i-d) i) (i:=i-d-1);rw[show i-d-1+1=i-d by omega]at this;exact yv
abbrev aBG:List (Nat×Spec):=[(157,ah OS)]
def ae5(xs:List AV)(σ:aw)(K:AV->aw->Prop):Prop:=
 ∃(ap:Bool) (f:Nat->Ta) (N:Nat) (a b c jG:Int),xs=[.own 0,.pv (pI a),.pv (pI b),.pv (Dy c jG)]/\σ=[sd ap f N]/\(0<=a/\a<=b/\b<=N/\N<=100000/\(∀j,Sq (f j))/\PG jG∧∀i j:Nat,a<=i->i<j->j<b->(f i).t<(f j).t)/\
  ∀g,cV a.toNat b.toNat f g->aU (mX) a.toNat b.toNat g->K (.tup []) [sd ap g N]
def Wu:ki (ax aBG) cD cB cC (x3 ae5):=by
 rintro _ _ K ⟨ap,f,N,a,b,c,jG,rfl,rfl,⟨h0,h1,h2,h3,hB,hN,hT⟩,hK⟩
 (repeat'(refine uR ?_;first|refine dJ aa ?_|fail))<;>try(conv=>whnf)
 refine⟨λq env σ=>∃(i:Int) (g:Nat->Ta),(q=(b-i).toNat/\a+1<=i/\(i<=b\/i=a+1)/\(cV a.toNat b.toNat f g/\cV a.toNat i.toNat f g)/\aU (mX) a.toNat i.toNat g)/\σ=[sd ap g N]/\env=[(0,.own 0),eN 1 a,eN 2 b,(3,.pv (Dy c jG)),eN 8 i],(b-(a+1)).toNat,⟨a+1,f,⟨aa,aa,aa,⟨.refl _ _ _,.refl _ _ _⟩,λi j h1 h2 h3=>?_⟩,rfl,rfl⟩,?_⟩
 ·rw[show i=j by omega];exact(Da).irrefl _
 rintro q env σ ⟨i,g,⟨hq,hi,hi2,⟨hp,hpi⟩,hs⟩,rfl,rfl⟩
 (repeat'(refine uR ?_;first|refine cA (λ_=>?_) (λ_=>?_)|fail))<;>try(conv=>whnf)
 ·refine⟨λq env σ=>∃(j:Int),(q=(j-a).toNat/\a<=j/\j<=i∧∀k:Nat,j<=k->k<i->mX (g i.toNat) (g k)=true)/\σ=[sd ap (dy g j.toNat i.toNat) N]/\env=[(0,.own 0),eN 1 a,eN 2 b,(3,.pv (Dy c jG)),eN 8 i,eN 9 j],(i-a).toNat,⟨i,⟨aa,aa,aa,λk h1 h2=>aa⟩,by rw[FD],rfl⟩,?_⟩;rintro q env σ ⟨j,⟨hq,hj,hji,aS⟩,rfl,rfl⟩;have O7:∀k,Sq (dy g j.toNat i.toNat k):=by
   have:=hp.all (P:=Sq) hB;intro k;unfold dy
   repeat' split
   all_goals exact this _
  (repeat'(refine uR ?_;first|refine dJ aa ?_|refine cA (λ_=>?_) (λ_=>?_)|refine P8 aa ?_|refine QI aa ?_|refine cw ?_|fail))<;>try(conv=>whnf)
  ·have aAJ:∀r:Int,r=XU (dy g j.toNat i.toNat j.toNat) (dy g j.toNat i.toNat (j-1).toNat)->(r<0↔mX (g i.toNat) (g (j-1).toNat)=true):=by
    intro r hr;have e1:dy g j.toNat i.toNat j.toNat=g i.toNat:=by unfold dy;rw[if_pos rfl]
    have e2:dy g j.toNat i.toNat (j-1).toNat=g (j-1).toNat:=by unfold dy;rw[if_neg aa,if_neg aa]
    rw[hr,e1,e2];refine aqT ?_;obtain⟨y,hy1,Pc,hy⟩:=hpi.mem (j:=(j-1).toNat) aa aa;rw[hy,hpi.2 i.toNat aa];exact hT y i.toNat aa aa aa
   refine⟨_,⟨_,_,c,jG,rfl,⟨O7 _,O7 _,hN⟩,rfl⟩,?_⟩
   (repeat'(refine uR ?_;first|refine aco aa ?_|refine dJ aa ?_|refine cA (λ_=>?_) (λ_=>?_)|refine P8 aa ?_|refine QI aa ?_|refine cw ?_|refine zco jD ?_|fail))<;>try(conv=>whnf)
   ·rename_i asL;have hl:=(aAJ _ rfl).1 asL;refine⟨(j-1-a).toNat,aa,j-1,⟨aa,aa,aa,λk h4 h5=>?_⟩,?_,rfl⟩
    ·by_cases hk:k=(j-1).toNat
     ·rw[hk];exact hl
     ·exact aS k aa h5
    ·refine congrArg (λx=>[cu.row _ _ _ x]) ?_;have hsw:=Fq g (j:=j.toNat) (i:=i.toNat) aa aa;rw[show PV.agg [pI (dy g j.toNat i.toNat (j-1).toNat).a.ty,PV.str (dy g j.toNat i.toNat (j-1).toNat).a.nm,pI (dy g j.toNat i.toNat (j-1).toNat).a.id,pI (dy g j.toNat i.toNat (j-1).toNat).a.fl,pB (dy g j.toNat i.toNat (j-1).toNat).a.rs,PV.str (dy g j.toNat i.toNat (j-1).toNat).a.vl,pI (dy g j.toNat i.toNat (j-1).toNat).a.ft,x4 (dy g j.toNat i.toNat (j-1).toNat).a.rn,pI (dy g j.toNat i.toNat (j-1).toNat).a.al,pI (dy g j.toNat i.toNat (j-1).toNat).a.sz,pI (dy g j.toNat i.toNat (j-1).toNat).a.vd]=(dy g j.toNat i.toNat (j-1).toNat).pv from rfl,
      show PV.agg [pI (dy g j.toNat i.toNat j.toNat).a.ty,PV.str (dy g j.toNat i.toNat j.toNat).a.nm,pI (dy g j.toNat i.toNat j.toNat).a.id,pI (dy g j.toNat i.toNat j.toNat).a.fl,pB (dy g j.toNat i.toNat j.toNat).a.rs,PV.str (dy g j.toNat i.toNat j.toNat).a.vl,pI (dy g j.toNat i.toNat j.toNat).a.ft,x4 (dy g j.toNat i.toNat j.toNat).a.rn,pI (dy g j.toNat i.toNat j.toNat).a.al,pI (dy g j.toNat i.toNat j.toNat).a.sz,pI (dy g j.toNat i.toNat j.toNat).a.vd]=(dy g j.toNat i.toNat j.toNat).pv from rfl,jL,jL,qP,qP]
     refine congrArg (List.map Ta.pv) ?_;rw[show(j-1).toNat=j.toNat-1 by omega,<-hsw];refine HB λx _=>?_
     unfold vN
     repeat' split
     all_goals first|(exfalso;omega)|rfl
   ·rename_i asL;have hl:mX (g i.toNat) (g (j-1).toNat)=false:=by
     cases h:mX (g i.toNat) (g (j-1).toNat)with
     |false=>rfl
     |true=>exact absurd ((aAJ _ rfl).2 h) asL
    refine⟨(b-(i+1)).toNat,aa,i+1,dy g j.toNat i.toNat,⟨rfl,aa,aa,⟨hp.trans ?_,(hpi.wide (zaj _) aa aa).trans ?_⟩,?_⟩,rfl,rfl⟩
    ·have:=vG g (a:=a.toNat) (i:=i.toNat) (i-j).toNat aa aa;rw[show i.toNat-(i-j).toNat=j.toNat by omega]at this;exact yv
    ·have:=vG g (a:=a.toNat) (i:=i.toNat) (i-j).toNat aa aa;rw[show i.toNat-(i-j).toNat=j.toNat by omega]at this;exact yv
    ·rw[show(i+1).toNat=i.toNat+1 by omega];exact ua (Da) hs aa aa (λk h4 h5=>aS k aa aa) λ_=>by rw[show j.toNat-1=(j-1).toNat by omega];exact hl
  ·refine⟨(b-(i+1)).toNat,aa,i+1,dy g j.toNat i.toNat,⟨rfl,aa,aa,⟨hp.trans ?_,(hpi.wide (zaj _) aa aa).trans ?_⟩,?_⟩,rfl,rfl⟩
   ·have:=vG g (a:=a.toNat) (i:=i.toNat) (i-j).toNat aa aa;rw[show i.toNat-(i-j).toNat=j.toNat by omega]at this;exact yv
   ·have:=vG g (a:=a.toNat) (i:=i.toNat) (i-j).toNat aa aa;rw[show i.toNat-(i-j).toNat=j.toNat by omega]at this;exact yv
   ·rw[show(i+1).toNat=i.toNat+1 by omega];exact ua (Da) hs aa aa (λk h4 h5=>aS k aa aa) λ_=>aa
 ·rename_i aS
  exact hK g hp (by rcases hi2 with h|h;·rw[show b=i by omega];exact hs
                    ·exact λx y h1 h2 h3=>by rw[show x=y by omega];exact(Da).irrefl _)
def U0(k:Nat)(xs:List AV)(σ:aw)(K:AV->aw->Prop):Prop:=
 ∃(ap:Bool) (f:Nat->Ta) (N:Nat) (a m b c jG:Int),xs=[.own 0,.pv (pI a),.pv (pI m),.pv (pI b),.pv (Dy c jG)]/\σ=[sd ap f N]/\
  (0<=a/\a<m/\m<b/\b<=N/\N<=100000/\b-a<=k/\(∀j,Sq (f j))/\PG jG/\aU (mX) a.toNat m.toNat f/\aU (mX) m.toNat b.toNat f/\(∀i j:Nat,a<=i->i<m->m<=j->j<b->(f i).t<(f j).t))/\
  ∀g,cV a.toNat b.toNat f g->aU (mX) a.toNat b.toNat g->K (.tup []) [sd ap g N]
def ku(g:Nat->Ta)(a k:Nat):Nat->Ta:=λj=>if j=k then g a else if a<=j/\j<k then g (j+1)else g j
def Ma(g:Nat->Ta)(a:Nat):ku g a a=g:=by
 funext j;unfold ku
 repeat' split
 all_goals first|(exfalso;omega)|rfl|(congr 1<;>omega)
def M1(g:Nat->Ta){a k:Nat}(h:a<=k):vN (ku g a k) k (k+1)=ku g a (k+1):=by
 funext j;unfold vN ku
 repeat' split
 all_goals first|(exfalso;omega)|rfl|(congr 1<;>omega)
def WH(g:Nat->Ta){a:Nat}:∀d,cV a (a+d+1) g (ku g a (a+d)):=by
 intro d
 induction d with
 |zero=>rw[show a+0=a by omega,Ma];exact .refl _ _ _
 |succ d ih=>
  rw[<-Nat.add_assoc,<-M1 g aa];exact(ih.wide (zaj _) aa aa).trans ((JP _).wide aa aa aa)
def Rg{lt:Ta->Ta->Bool}(o:Ord lt){a b k:Nat}{g:Nat->Ta}(hs:aU lt (a+1) b g)(hk:a<=k)(hkb:k<b)(h1:∀j,a<j->j<=k->lt (g j) (g a)=true)(h2:k+1<b->lt (g (k+1)) (g a)=false):aU lt a b (ku g a k):=by
 apply FY o;intro j hj hjb;show lt (if j+1=k then g a else if a<=j+1/\j+1<k then g (j+1+1)else g (j+1)) (if j=k then g a else if a<=j/\j<k then g (j+1)else g j)=false;by_cases e1:j=k
 ·rw[if_neg aa,if_neg aa,if_pos e1,e1];exact h2 aa
 ·rw[if_neg e1];by_cases e2:j+1=k
  ·rw[if_pos e2,if_pos aa];exact o.asymm _ _ (h1 (j+1) aa aa)
  ·rw[if_neg e2];by_cases e3:j<k
   ·rw[if_pos aa,if_pos aa];exact hs _ _ aa aa aa
   ·rw[if_neg aa,if_neg aa];exact hs _ _ aa aa aa
def WT(k:Nat):ki (ax [(157,ah OS),(218,x3 Y0),(211,x3 (U0 k))]) df dh dg (x3 (U0 (k+1))):=by
 rintro _ _ K ⟨ap,f,N,a,m,b,c,jG,rfl,rfl,⟨h0,h1,h2,h3,h4,h5,hB,hN,lZ,LX,hT⟩,hK⟩;have ho:=Da
 (repeat'(refine uR ?_;first|refine dJ aa ?_|refine cA (λ_=>?_) (λ_=>?_)|refine U64 aa ?_|refine ael aa ?_|fail))<;>try(conv=>whnf)
 ·rename_i hm1;refine⟨λq env σ=>∃(i j:Int),(q=(j-i).toNat/\m<=i/\i<=j/\j<=b/\(∀x:Nat,m<=x->x<i->mX (f x) (f a.toNat)=true)/\(j<b->mX (f j.toNat) (f a.toNat)=false))/\σ=[sd ap f N]/\env=[(0,.own 0),eN 1 a,(4,.pv (Dy c jG)),eN 10 i,eN 11 j],(b-m).toNat,⟨m,b,⟨rfl,aa,aa,aa,λx hx s8=>aa,λh=>aa⟩,rfl,rfl⟩,?_⟩;rintro q env σ ⟨i,j,⟨hq,hi,iT,hj,aS,R5⟩,rfl,rfl⟩
  (repeat'(refine uR ?_;first|refine dJ aa ?_|refine cA (λ_=>?_) (λ_=>?_)|refine U64 aa ?_|refine ael aa ?_|refine P8 aa ?_|refine QI aa ?_|refine cw ?_|fail))<;>try(conv=>whnf)
  ·refine⟨_,⟨_,_,c,jG,rfl,⟨hB _,hB _,hN⟩,rfl⟩,?_⟩
   (repeat'(refine uR ?_;first|refine dJ aa ?_|refine cA (λ_=>?_) (λ_=>?_)|fail))<;>try(conv=>whnf)
   ·rename_i hc;have hc:=Ao hc;refine⟨(j-((i+j)/2+1)).toNat,aa,(i+j)/2+1,j,⟨rfl,aa,aa,aa,λx hx s8=>?_,R5⟩,rfl,rfl⟩;cases hh:mX (f x) (f a.toNat)with
    |true=>rfl
    |false=>
     have:=ho.trans _ _ _ hh (LX x ((i+j)/2).toNat aa aa aa);rw[hc]at this;cases this
   ·rename_i hc;have hc:=Aj (hT _ _ aa aa aa aa) hc;exact⟨((i+j)/2-i).toNat,aa,i,(i+j)/2,⟨rfl,aa,aa,aa,aS,λ_=>hc⟩,rfl,rfl⟩
  ·rename_i aDj;have iT:i=j:=aa;subst iT;refine⟨λq env σ=>∃(x:Int),(q=(i-1-x).toNat/\a<=x/\x<=i-1)/\σ=[sd ap (ku f a.toNat x.toNat) N]/\env=[(0,.own 0),eN 10 i,eN 13 x],(i-1-a).toNat,⟨a,⟨rfl,aa,aa⟩,by rw[Ma],rfl⟩,?_⟩;rintro q env σ ⟨x,⟨hq,hx,s8⟩,rfl,rfl⟩
   (repeat'(refine uR ?_;first|refine aco aa ?_|refine dJ aa ?_|refine cA (λ_=>?_) (λ_=>?_)|refine P8 aa ?_|refine QI aa ?_|refine cw ?_|refine zco jD ?_|fail))<;>try(conv=>whnf)
   ·refine⟨(i-1-(x+1)).toNat,aa,x+1,⟨rfl,aa,aa⟩,?_,rfl⟩;refine congrArg (λx=>[cu.row _ _ _ x]) ?_;rw[show PV.agg [pI (ku f a.toNat x.toNat (x+1).toNat).a.ty,PV.str (ku f a.toNat x.toNat (x+1).toNat).a.nm,pI (ku f a.toNat x.toNat (x+1).toNat).a.id,pI (ku f a.toNat x.toNat (x+1).toNat).a.fl,pB (ku f a.toNat x.toNat (x+1).toNat).a.rs,PV.str (ku f a.toNat x.toNat (x+1).toNat).a.vl,pI (ku f a.toNat x.toNat (x+1).toNat).a.ft,x4 (ku f a.toNat x.toNat (x+1).toNat).a.rn,pI (ku f a.toNat x.toNat (x+1).toNat).a.al,pI (ku f a.toNat x.toNat (x+1).toNat).a.sz,pI (ku f a.toNat x.toNat (x+1).toNat).a.vd]=(ku f a.toNat x.toNat (x+1).toNat).pv from rfl,
     show PV.agg [pI (ku f a.toNat x.toNat x.toNat).a.ty,PV.str (ku f a.toNat x.toNat x.toNat).a.nm,pI (ku f a.toNat x.toNat x.toNat).a.id,pI (ku f a.toNat x.toNat x.toNat).a.fl,pB (ku f a.toNat x.toNat x.toNat).a.rs,PV.str (ku f a.toNat x.toNat x.toNat).a.vl,pI (ku f a.toNat x.toNat x.toNat).a.ft,x4 (ku f a.toNat x.toNat x.toNat).a.rn,pI (ku f a.toNat x.toNat x.toNat).a.al,pI (ku f a.toNat x.toNat x.toNat).a.sz,pI (ku f a.toNat x.toNat x.toNat).a.vd]=(ku f a.toNat x.toNat x.toNat).pv from rfl,jL,jL,qP,qP]
    refine congrArg (List.map Ta.pv) ?_;rw[show(x+1).toNat=x.toNat+1 by omega,<-M1 f aa];refine HB λy _=>?_
    unfold vN
    repeat' split
    all_goals first|(exfalso;omega)|rfl
   ·have hxi:x=i-1:=by omega
    refine hK _ ?_ ?_
    ·have:=WH f (a:=a.toNat) (x-a).toNat;rw[show a.toNat+(x-a).toNat=x.toNat by omega]at this;exact this.wide (zaj _) aa aa
    ·refine Rg ho (Tq LX aa (zaj _)) aa aa (λy h6 h7=>aS y aa aa) λh=>?_
     rw[show x.toNat+1=i.toNat by omega];exact R5 aa
 ·rename_i hm1 vT;refine⟨λq env σ=>∃(i j:Int),(q=(j-i).toNat/\a<=i/\i<=j/\j<=m/\(a<i->mX (f m.toNat) (f (i-1).toNat)=false)/\(∀x:Nat,j<=x->x<m->mX (f m.toNat) (f x)=true))/\σ=[sd ap f N]/\env=[(0,.own 0),eN 2 m,(4,.pv (Dy c jG)),eN 14 i,eN 15 j],(m-a).toNat,⟨a,m,⟨rfl,aa,aa,aa,λh=>aa,λx hx s8=>aa⟩,rfl,rfl⟩,?_⟩;rintro q env σ ⟨i,j,⟨hq,hi,iT,hj,R5,aS⟩,rfl,rfl⟩
  (repeat'(refine uR ?_;first|refine dJ aa ?_|refine cA (λ_=>?_) (λ_=>?_)|refine U64 aa ?_|refine ael aa ?_|refine P8 aa ?_|refine QI aa ?_|refine cw ?_|fail))<;>try(conv=>whnf)
  ·refine⟨_,⟨_,_,c,jG,rfl,⟨hB _,hB _,hN⟩,rfl⟩,?_⟩
   (repeat'(refine uR ?_;first|refine dJ aa ?_|refine dY ?_|refine gj ?_|refine cA (λ_=>?_) (λ_=>?_)|fail))<;>try(conv=>whnf)
   ·rename_i hc;have hc:=Ao hc;refine⟨((i+j)/2-i).toNat,aa,i,(i+j)/2,⟨rfl,aa,aa,aa,R5,λx hx s8=>?_⟩,rfl,rfl⟩;cases hh:mX (f m.toNat) (f x)with
    |true=>rfl
    |false=>
     have:=ho.trans _ _ _ (lZ ((i+j)/2).toNat x aa aa aa) hh;rw[hc]at this;cases this
   ·rename_i hc;have hc:=Aj (hT _ _ aa aa aa aa) hc;refine⟨(j-((i+j)/2+1)).toNat,aa,(i+j)/2+1,j,⟨rfl,aa,aa,aa,λ_=>?_,aS⟩,rfl,rfl⟩;rw[show(i+j)/2+1-1=(i+j)/2 by omega];exact hc
  ·rename_i aDj;have iT:i=j:=aa;subst iT;refine⟨λq env σ=>∃(x:Int),(q=(x-i).toNat/\i<=x/\x<=m)/\σ=[sd ap (dy f x.toNat m.toNat) N]/\env=[(0,.own 0),eN 14 i,eN 17 x],(m-i).toNat,⟨m,⟨rfl,aa,aa⟩,by rw[FD],rfl⟩,?_⟩;rintro q env σ ⟨x,⟨hq,hx,s8⟩,rfl,rfl⟩
   (repeat'(refine uR ?_;first|refine aco aa ?_|refine dJ aa ?_|refine cA (λ_=>?_) (λ_=>?_)|refine P8 aa ?_|refine QI aa ?_|refine cw ?_|refine zco jD ?_|fail))<;>try(conv=>whnf)
   ·refine⟨(x-1-i).toNat,aa,x-1,⟨rfl,aa,aa⟩,?_,rfl⟩;refine congrArg (λx=>[cu.row _ _ _ x]) ?_;rw[show PV.agg [pI (dy f x.toNat m.toNat (x-1).toNat).a.ty,PV.str (dy f x.toNat m.toNat (x-1).toNat).a.nm,pI (dy f x.toNat m.toNat (x-1).toNat).a.id,pI (dy f x.toNat m.toNat (x-1).toNat).a.fl,pB (dy f x.toNat m.toNat (x-1).toNat).a.rs,PV.str (dy f x.toNat m.toNat (x-1).toNat).a.vl,pI (dy f x.toNat m.toNat (x-1).toNat).a.ft,x4 (dy f x.toNat m.toNat (x-1).toNat).a.rn,pI (dy f x.toNat m.toNat (x-1).toNat).a.al,pI (dy f x.toNat m.toNat (x-1).toNat).a.sz,pI (dy f x.toNat m.toNat (x-1).toNat).a.vd]=(dy f x.toNat m.toNat (x-1).toNat).pv from rfl,
     show PV.agg [pI (dy f x.toNat m.toNat x.toNat).a.ty,PV.str (dy f x.toNat m.toNat x.toNat).a.nm,pI (dy f x.toNat m.toNat x.toNat).a.id,pI (dy f x.toNat m.toNat x.toNat).a.fl,pB (dy f x.toNat m.toNat x.toNat).a.rs,PV.str (dy f x.toNat m.toNat x.toNat).a.vl,pI (dy f x.toNat m.toNat x.toNat).a.ft,x4 (dy f x.toNat m.toNat x.toNat).a.rn,pI (dy f x.toNat m.toNat x.toNat).a.al,pI (dy f x.toNat m.toNat x.toNat).a.sz,pI (dy f x.toNat m.toNat x.toNat).a.vd]=(dy f x.toNat m.toNat x.toNat).pv from rfl,jL,jL,qP,qP]
    refine congrArg (List.map Ta.pv) ?_;rw[show(x-1).toNat=x.toNat-1 by omega,<-Fq f aa aa];refine HB λy _=>?_
    unfold vN
    repeat' split
    all_goals first|(exfalso;omega)|rfl
   ·have hxi:x=i:=by omega
    have ebm:b.toNat=m.toNat+1:=aa;refine hK _ ?_ ?_
    ·have:=vG f (a:=a.toNat) (i:=m.toNat) (m-x).toNat aa aa;rw[show m.toNat-(m-x).toNat=x.toNat by omega]at this;rw[ebm];exact this
    ·rw[ebm];refine ua ho lZ aa aa (λy h6 h7=>aS y aa aa) λh=>?_
     rw[show x.toNat-1=(i-1).toNat by omega];exact R5 aa
 all_goals
  rename_i Nc;obtain⟨lo,hi,EG,hhi⟩:∃lo hi,lo=(if (a+b)/2<m then(a+b)/2+m-b else a)/\hi=(if (a+b)/2<m then(a+b)/2 else m):=⟨_,_,rfl,rfl⟩
  have F:a<=lo/\hi<=m/\lo<=hi/\(lo=a\/lo=(a+b)/2+m-b)/\(hi=m\/hi=(a+b)/2)/\(a+b)/2+m-lo<=b/\hi<=(a+b)/2:=by
   first|(rw[if_pos Nc]at EG hhi;omega)|(rw[if_neg Nc]at EG hhi;omega)
  obtain⟨F1,F2,F3,F4,F5,F6,F7⟩:=F;refine⟨λq env σ=>∃(i j:Int),(q=(j-i).toNat/\lo<=i/\i<=j/\j<=hi/\(lo<i->mX (f ((a+b)/2+m-i).toNat) (f (i-1).toNat)=false)/\(j<hi->mX (f ((a+b)/2+m-1-j).toNat) (f j.toNat)=true))/\σ=[sd ap f N]/\env=[(0,.own 0),eN 1 a,eN 2 m,eN 3 b,(4,.pv (Dy c jG)),eN 18 ((a+b)/2),eN 19 ((a+b)/2+m),eN 20 i,eN 21 j,eN 22 ((a+b)/2+m-1)],(hi-lo).toNat,⟨lo,hi,⟨rfl,aa,aa,aa,λh=>aa,λh=>aa⟩,rfl,by first|(rw[EG,hhi,if_pos Nc,if_pos Nc]<;>rfl)|(rw[EG,hhi,if_neg Nc,if_neg Nc]<;>rfl)⟩,?_⟩;rintro q env σ ⟨i,j,⟨hq,hi1,iT,hj,R5,aS⟩,rfl,rfl⟩;by_cases aDk:i<j
  ·(repeat'(refine uR ?_;first|refine dJ aa ?_|refine ai aa ?_|refine U64 aa ?_|refine ael aa ?_|refine P8 aa ?_|refine QI aa ?_|refine cw ?_|fail))<;>try(conv=>whnf)
   refine⟨_,⟨_,_,c,jG,rfl,⟨hB _,hB _,hN⟩,rfl⟩,?_⟩
   (repeat'(refine uR ?_;first|refine dJ aa ?_|refine dY ?_|refine gj ?_|refine cA (λ_=>?_) (λ_=>?_)|fail))<;>try(conv=>whnf)
   ·rename_i hc;have hc:=Ao hc;exact⟨((i+j)/2-i).toNat,aa,i,(i+j)/2,⟨rfl,aa,aa,aa,R5,λ_=>hc⟩,rfl,rfl⟩
   ·rename_i hc;have hc:=Aj (hT _ _ aa aa aa aa) hc;refine⟨(j-((i+j)/2+1)).toNat,aa,(i+j)/2+1,j,⟨rfl,aa,aa,aa,λ_=>?_,aS⟩,rfl,rfl⟩;rw[show(i+j)/2+1-1=(i+j)/2 by omega,show(a+b)/2+m-((i+j)/2+1)=(a+b)/2+m-1-(i+j)/2 by omega];exact hc
  ·have iT:i=j:=by omega
   subst iT;have M:=NR ho lZ LX (s:=i.toNat) (e:=((a+b)/2+m-i).toNat) (mid:=((a+b)/2).toNat) aa aa aa aa aa
    (λx1 x2=>by rw[show i.toNat-1=(i-1).toNat by omega];exact R5 aa)
    (λx1 x2=>by rw[show((a+b)/2+m-i).toNat-1=((a+b)/2+m-1-i).toNat by omega];exact aS aa)
   obtain⟨c1,c2,c3,c4,cx⟩:=M;obtain⟨G1,G2,G3,G4,G5,G6⟩:i<=m/\i<=(a+b)/2/\m<=(a+b)/2+m-i/\(a+b)/2+m-i<=b/\(a+b)/2<=(a+b)/2+m-i/\a<=i:=aa;have hii:¬i<i:=Int.lt_irrefl i;clear EG hhi F1 F2 F3 F4 F5 F6 F7 R5 aS hq iT hj aDk hi1;have p0:cV a.toNat b.toNat f (fD f i.toNat m.toNat ((a+b)/2+m-i).toNat):=(WJ f aa aa).wide aa aa aa;by_cases CC:i<m/\m<(a+b)/2+m-i
   ·have hBc:∀j,Sq ((fD f i.toNat m.toNat ((a+b)/2+m-i).toNat) j):=p0.all hB;have hT1:∀x y:Nat,a<=x->x<i->i<=y->y<(a+b)/2->((fD f i.toNat m.toNat ((a+b)/2+m-i).toNat) x).t<((fD f i.toNat m.toNat ((a+b)/2+m-i).toNat) y).t:=λx y x1 x2 y1 y2=>by
     have e1:fD f i.toNat m.toNat ((a+b)/2+m-i).toNat x=f x:=Eb;have e2:fD f i.toNat m.toNat ((a+b)/2+m-i).toNat y=f (y+(m.toNat-i.toNat)):=by unfold fD;rw[if_pos aa]
     rw[e1,e2];exact hT x _ aa aa aa aa
    have hT2:∀x y:Nat,(a+b)/2<=x->x<(a+b)/2+m-i->(a+b)/2+m-i<=y->y<b->((fD f i.toNat m.toNat ((a+b)/2+m-i).toNat) x).t<((fD f i.toNat m.toNat ((a+b)/2+m-i).toNat) y).t:=λx y x1 x2 y1 y2=>by
     have e1:fD f i.toNat m.toNat ((a+b)/2+m-i).toNat x=f (x-(((a+b)/2+m-i).toNat-m.toNat)):=by unfold fD;rw[if_neg aa,if_pos aa]
     have e2:fD f i.toNat m.toNat ((a+b)/2+m-i).toNat y=f y:=Eb;rw[e1,e2];exact hT _ y aa aa aa aa
    by_cases EM:a<i/\i<(a+b)/2
    ·first
      |(exfalso;omega)
      |((repeat'(refine uR ?_;first|refine dJ aa ?_|refine ai aa ?_|refine ar aa ?_|refine⟨_,_,_,_,_,_,_,_,rfl,rfl,sC,?_⟩|fail))<;>try(conv=>whnf)
        intro g1 q1 t1;have r3:aU (mX) ((a+b)/2).toNat ((a+b)/2+m-i).toNat g1:=ct c3 λy y1 y2=>q1.2 y aa
        have hT3:∀x y:Nat,(a+b)/2<=x->x<(a+b)/2+m-i->(a+b)/2+m-i<=y->y<b->(g1 x).t<(g1 y).t:=λx y x1 x2 y1 y2=>Pt
        have r4:aU (mX) ((a+b)/2+m-i).toNat b.toNat g1:=ct c4 λy y1 y2=>q1.2 y aa
        have Ug:∀j,Sq (g1 j):=q1.all hBc;have cx1:∀x y,a.toNat<=x->x<((a+b)/2).toNat->((a+b)/2).toNat<=y->y<b.toNat->mX (g1 y) (g1 x)=false:=by
         intro x y hx s8 hy Pc;obtain⟨z,Ss,R1,hz⟩:=q1.mem hx s8;rw[hz,q1.2 y aa];exact cx z y Ss R1 hy Pc
        have p1:cV a.toNat b.toNat f g1:=p0.trans (q1.wide (zaj _) aa aa);by_cases h3':(a+b)/2<(a+b)/2+m-i/\(a+b)/2+m-i<b
        ·first
          |(exfalso;omega)
          |((repeat'(refine uR ?_;first|refine ai aa ?_|refine⟨_,_,_,_,_,_,_,_,rfl,rfl,sC,?_⟩|fail))<;>try(conv=>whnf)
            intro g2 q2 t2;refine hK g2 (p1.trans (q2.wide aa (zaj _) aa)) (iA (ct t1 λy y1 y2=>q2.2 y aa) t2 λx y hx s8 hy Pc=>?_);obtain⟨z,Ss,R1,hz⟩:=q2.mem hy Pc;rw[hz,q2.2 x aa];exact EC)
        ·first
          |(exfalso;omega)
          |(have t2:aU (mX) ((a+b)/2).toNat b.toNat g1:=by
             by_cases hz:(a+b)/2<(a+b)/2+m-i
             ·rw[show b.toNat=((a+b)/2+m-i).toNat by omega];exact r3
             ·rw[show((a+b)/2).toNat=((a+b)/2+m-i).toNat by omega];exact r4
            (repeat'(refine uR ?_;first|refine ai aa ?_|refine ar aa ?_|fail))<;>try(conv=>whnf)
            all_goals exact hK g1 p1 (iA t1 t2 cx1)))
    ·first
      |(exfalso;omega)
      |(have t1:aU (mX) a.toNat ((a+b)/2).toNat ((fD f i.toNat m.toNat ((a+b)/2+m-i).toNat)):=by
         by_cases hz:a<i
         ·rw[show((a+b)/2).toNat=i.toNat by omega];exact c1
         ·rw[show a.toNat=i.toNat by omega];exact c2
        have q1:cV a.toNat ((a+b)/2).toNat ((fD f i.toNat m.toNat ((a+b)/2+m-i).toNat)) ((fD f i.toNat m.toNat ((a+b)/2+m-i).toNat)):=.refl _ _ _;have r3:aU (mX) ((a+b)/2).toNat ((a+b)/2+m-i).toNat ((fD f i.toNat m.toNat ((a+b)/2+m-i).toNat)):=ct c3 λy y1 y2=>q1.2 y aa
        have r4:aU (mX) ((a+b)/2+m-i).toNat b.toNat ((fD f i.toNat m.toNat ((a+b)/2+m-i).toNat)):=ct c4 λy y1 y2=>q1.2 y aa
        have Ug:∀j,Sq (((fD f i.toNat m.toNat ((a+b)/2+m-i).toNat)) j):=q1.all hBc;have cx1:∀x y,a.toNat<=x->x<((a+b)/2).toNat->((a+b)/2).toNat<=y->y<b.toNat->mX (((fD f i.toNat m.toNat ((a+b)/2+m-i).toNat)) y) (((fD f i.toNat m.toNat ((a+b)/2+m-i).toNat)) x)=false:=by
         intro x y hx s8 hy Pc;obtain⟨z,Ss,R1,hz⟩:=q1.mem hx s8;rw[hz,q1.2 y aa];exact cx z y Ss R1 hy Pc
        have p1:cV a.toNat b.toNat f ((fD f i.toNat m.toNat ((a+b)/2+m-i).toNat)):=p0.trans (q1.wide (zaj _) aa aa);by_cases h3':(a+b)/2<(a+b)/2+m-i/\(a+b)/2+m-i<b
        ·first
          |(exfalso;omega)
          |((repeat'(refine uR ?_;first|refine dJ aa ?_|refine ai aa ?_|refine ar aa ?_|refine⟨_,_,_,_,_,_,_,_,rfl,rfl,sC,?_⟩|fail))<;>try(conv=>whnf)
            intro g2 q2 t2;refine hK g2 (p1.trans (q2.wide aa (zaj _) aa)) (iA (ct t1 λy y1 y2=>q2.2 y aa) t2 λx y hx s8 hy Pc=>?_);obtain⟨z,Ss,R1,hz⟩:=q2.mem hy Pc;rw[hz,q2.2 x aa];exact EC)
        ·first
          |(exfalso;omega)
          |(have t2:aU (mX) ((a+b)/2).toNat b.toNat ((fD f i.toNat m.toNat ((a+b)/2+m-i).toNat)):=by
             by_cases hz:(a+b)/2<(a+b)/2+m-i
             ·rw[show b.toNat=((a+b)/2+m-i).toNat by omega];exact r3
             ·rw[show((a+b)/2).toNat=((a+b)/2+m-i).toNat by omega];exact r4
            (repeat'(refine uR ?_;first|refine dJ aa ?_|refine ai aa ?_|refine ar aa ?_|refine⟨_,_,_,_,_,_,_,_,rfl,rfl,sC,?_⟩|fail))<;>try(conv=>whnf)
            all_goals exact hK ((fD f i.toNat m.toNat ((a+b)/2+m-i).toNat)) p1 (iA t1 t2 cx1)))
   ·have hfg:fD f i.toNat m.toNat ((a+b)/2+m-i).toNat=f:=by
     funext x;unfold fD
     repeat' split
     all_goals first|(exfalso;omega)|rfl|(congr 1<;>omega)
    rw[hfg]at c1 c2 c3 c4 cx p0;have hBc:∀j,Sq (f j):=p0.all hB;have hT1:∀x y:Nat,a<=x->x<i->i<=y->y<(a+b)/2->(f x).t<(f y).t:=λx y x1 x2 y1 y2=>hT x y aa aa aa aa
    have hT2:∀x y:Nat,(a+b)/2<=x->x<(a+b)/2+m-i->(a+b)/2+m-i<=y->y<b->(f x).t<(f y).t:=λx y x1 x2 y1 y2=>hT x y aa aa aa aa
    by_cases EM:a<i/\i<(a+b)/2
    ·first
      |(exfalso;omega)
      |((repeat'(refine uR ?_;first|refine dJ aa ?_|refine ai aa ?_|refine ar aa ?_|refine⟨_,_,_,_,_,_,_,_,rfl,rfl,sC,?_⟩|fail))<;>try(conv=>whnf)
        intro g1 q1 t1;have r3:aU (mX) ((a+b)/2).toNat ((a+b)/2+m-i).toNat g1:=ct c3 λy y1 y2=>q1.2 y aa
        have hT3:∀x y:Nat,(a+b)/2<=x->x<(a+b)/2+m-i->(a+b)/2+m-i<=y->y<b->(g1 x).t<(g1 y).t:=λx y x1 x2 y1 y2=>Pt
        have r4:aU (mX) ((a+b)/2+m-i).toNat b.toNat g1:=ct c4 λy y1 y2=>q1.2 y aa
        have Ug:∀j,Sq (g1 j):=q1.all hBc;have cx1:∀x y,a.toNat<=x->x<((a+b)/2).toNat->((a+b)/2).toNat<=y->y<b.toNat->mX (g1 y) (g1 x)=false:=by
         intro x y hx s8 hy Pc;obtain⟨z,Ss,R1,hz⟩:=q1.mem hx s8;rw[hz,q1.2 y aa];exact cx z y Ss R1 hy Pc
        have p1:cV a.toNat b.toNat f g1:=p0.trans (q1.wide (zaj _) aa aa);by_cases h3':(a+b)/2<(a+b)/2+m-i/\(a+b)/2+m-i<b
        ·first
          |(exfalso;omega)
          |(skip
            intro g2 q2 t2;refine hK g2 (p1.trans (q2.wide aa (zaj _) aa)) (iA (ct t1 λy y1 y2=>q2.2 y aa) t2 λx y hx s8 hy Pc=>?_);obtain⟨z,Ss,R1,hz⟩:=q2.mem hy Pc;rw[hz,q2.2 x aa];exact EC)
        ·first
          |(exfalso;omega)
          |(have t2:aU (mX) ((a+b)/2).toNat b.toNat g1:=by
             by_cases hz:(a+b)/2<(a+b)/2+m-i
             ·rw[show b.toNat=((a+b)/2+m-i).toNat by omega];exact r3
             ·rw[show((a+b)/2).toNat=((a+b)/2+m-i).toNat by omega];exact r4
            (repeat'(refine uR ?_;first|refine ar aa ?_|fail))<;>try(conv=>whnf)
            all_goals exact hK g1 p1 (iA t1 t2 cx1)))
    ·first
      |(exfalso;omega)
      |(have t1:aU (mX) a.toNat ((a+b)/2).toNat (f):=by
         by_cases hz:a<i
         ·rw[show((a+b)/2).toNat=i.toNat by omega];exact c1
         ·rw[show a.toNat=i.toNat by omega];exact c2
        have q1:cV a.toNat ((a+b)/2).toNat (f) (f):=.refl _ _ _;have r3:aU (mX) ((a+b)/2).toNat ((a+b)/2+m-i).toNat (f):=ct c3 λy y1 y2=>q1.2 y aa
        have r4:aU (mX) ((a+b)/2+m-i).toNat b.toNat (f):=ct c4 λy y1 y2=>q1.2 y aa
        have Ug:∀j,Sq ((f) j):=q1.all hBc;have cx1:∀x y,a.toNat<=x->x<((a+b)/2).toNat->((a+b)/2).toNat<=y->y<b.toNat->mX ((f) y) ((f) x)=false:=by
         intro x y hx s8 hy Pc;obtain⟨z,Ss,R1,hz⟩:=q1.mem hx s8;rw[hz,q1.2 y aa];exact cx z y Ss R1 hy Pc
        have p1:cV a.toNat b.toNat f (f):=p0.trans (q1.wide (zaj _) aa aa);by_cases h3':(a+b)/2<(a+b)/2+m-i/\(a+b)/2+m-i<b
        ·first
          |(exfalso;omega)
          |((repeat'(refine uR ?_;first|refine dJ aa ?_|refine ai aa ?_|refine ar aa ?_|refine⟨_,_,_,_,_,_,_,_,rfl,rfl,sC,?_⟩|fail))<;>try(conv=>whnf)
            intro g2 q2 t2;refine hK g2 (p1.trans (q2.wide aa (zaj _) aa)) (iA (ct t1 λy y1 y2=>q2.2 y aa) t2 λx y hx s8 hy Pc=>?_);obtain⟨z,Ss,R1,hz⟩:=q2.mem hy Pc;rw[hz,q2.2 x aa];exact EC)
        ·first
          |(exfalso;omega)
          |(have t2:aU (mX) ((a+b)/2).toNat b.toNat (f):=by
             by_cases hz:(a+b)/2<(a+b)/2+m-i
             ·rw[show b.toNat=((a+b)/2+m-i).toNat by omega];exact r3
             ·rw[show((a+b)/2).toNat=((a+b)/2+m-i).toNat by omega];exact r4
            (repeat'(refine uR ?_;first|refine dJ aa ?_|refine ai aa ?_|refine ar aa ?_|fail))<;>try(conv=>whnf)
            all_goals exact hK (f) p1 (iA t1 t2 cx1)))
def Nv{d x a:Nat}(h1:x%d=0)(h2:a%d=0)(h:x<a):x+d<=a:=by
 obtain⟨p,rfl⟩:=zcQ h1;obtain⟨q,rfl⟩:=zcQ h2;have hpq:p<q:=Nat.lt_of_mul_lt_mul_left h
 calc d*p+d=d*(p+1):=by rw[zcU]
  _<=d*q:=zc3 d hpq
def Ra{d a:Nat}(h:a%(2*d)=0):a%d=0:=Nat.mod_eq_zero_of_dvd (Nat.dvd_trans ⟨2,by rw[zcY]⟩ (zcQ h))
def To(lt:Ta->Ta->Bool)(s a:Nat)(f:Nat->Ta):Prop:=∀x,x%s=0->x+s<=a->aU lt x (x+s) f
def abH(lt:Ta->Ta->Bool)(s a n:Nat)(f:Nat->Ta):Prop:=∀x,x%s=0->a<=x->x<n->aU lt x (min (x+s) n) f
def To.step{lt:Ta->Ta->Bool}{s a:Nat}{f g:Nat->Ta}(h:To lt s a f)(ha:a%s=0)(hs:aU lt a (a+s) g)(e:∀j,j<a->g j=f j):To lt s (a+s) g:=by
 intro x hx hxa;by_cases h1:x<a
 ·have:=Nv hx ha h1;exact ct (h x hx this) λj h2 h3=>e j aa
 ·have:x=a:=by omega
  subst this;exact hs
def To.all{lt:Ta->Ta->Bool}{s a n:Nat}{f g:Nat->Ta}(h:To lt s a f)(ha:a%s=0)(han:a<=n)(hna:n<=a+s)(hs:aU lt a n g)(e:∀j,j<a->g j=f j):abH lt s 0 n g:=by
 intro x hx _ hxn;by_cases h1:x<a
 ·have:=Nv hx ha h1;rw[zau aa];exact ct (h x hx this) λj h2 h3=>e j aa
 ·have:¬a<x:=λh2=>by have:=Nv ha hx h2;omega
  have:x=a:=aa;subst this;rw[zbG aa];exact hs
def LV(s n:Nat)(g:Nat->Ta):Prop:=∀j,j<n->(g j).t/s=j/s
def ac9{s a i j:Nat}(ha:a%s=0)(h1:a<=i)(h2:i<a+s)(h3:a<=j)(h4:j<a+s):i/s=j/s:=by
 obtain⟨q,rfl⟩:=zcQ ha;have e:∀i,s*q<=i->i<s*q+s->i/s=q:=λi h1 h2=>by
  rw[Nat.div_eq_of_lt_le]
  ·rw[zcY];exact h1
  ·rw[zcY,zcU];exact h2
 rw[e i h1 h2,e j h3 h4]
def LV.perm{s n a b:Nat}{g g1:Nat->Ta}(h:LV s n g)(p:cV a b g g1)(ha:a%s=0)(hb:b<=a+s)(hn:b<=n):LV s n g1:=λj hj=>by
 by_cases hr:a<=j/\j<b
 ·obtain⟨i,h1,h2,h3⟩:=p.mem hr.1 hr.2;rw[h3,h i aa];exact ac9 ha h1 aa hr.1 aa
 ·rw[p.2 j hr];exact h j hj
def LV.dbl{s n:Nat}{g:Nat->Ta}(h:LV s n g):LV (2*s) n g:=λj hj=>by
 rw[zcY,<-zc1,<-zc1,h j hj]
def aiK{s a i j x y:Nat}(ha:a%s=0)(h1:i<a+s)(h2:a+s<=j)(hx:x/s=i/s)(hy:y/s=j/s)(hs:0<s):x<y:=by
 obtain⟨q,rfl⟩:=zcQ ha;have e1:i/s<q+1:=Nat.div_lt_of_lt_mul (by rw[zcU];exact h1);have e2:q+1<=j/s:=(Nat.le_div_iff_mul_le hs).2 (by rw[zcY,zcU];exact h2);refine Classical.byContradiction λhh=>?_
 have:=Nat.div_le_div_right (c:=s) (show y<=x by omega);omega
def aff(xs:List AV)(σ:aw)(K:AV->aw->Prop):Prop:=
 ∃(ap:Bool) (f:Nat->Ta) (N:Nat) (c jG:Int),xs=[.own 0,.pv (pI N),.pv (Dy c jG)]/\σ=[sd ap f N]/\(N<=100000/\(∀j,Sq (f j))/\PG jG∧∀j,j<N->(f j).t=j)/\
  ∀g,cV 0 N f g->aU (mX) 0 N g->K (.tup []) [sd ap g N]
def N2(xs:List AV)(σ:aw)(K:AV->aw->Prop):Prop:=U0 100000 xs σ K
def WW:ki (ax [(210,x3 ae5),(211,x3 N2)]) dz dE dC (x3 aff):=by
 rintro _ _ K ⟨ap,f,N,c,jG,rfl,rfl,⟨hN,hB,abc,hT⟩,hK⟩
 (conv=>whnf)
 refine⟨λq env σ=>∃(a:Int) (g:Nat->Ta),(q=(N-a).toNat/\0<=a/\a<=N/\a.toNat%20=0/\cV 0 N f g/\(LV 20 N g∧∀j:Nat,a<=j->g j=f j)/\To (mX) 20 a.toNat g)/\σ=[sd ap g N]/\env=[(0,.own 0),eN 1 N,(2,.pv (Dy c jG)),eN 6 20,eN 7 a,eN 8 (a+20)],N,⟨0,f,⟨aa,aa,aa,rfl,.refl _ _ _,⟨λj hj=>by rw[hT j hj],λ_ _=>rfl⟩,λx _ h=>aa⟩,rfl,rfl⟩,?_⟩;rintro q env σ ⟨a,g,⟨hq,ha0,haN,ha,hp,⟨hTB,hgf⟩,hb⟩,rfl,rfl⟩;have hTi:∀i j:Nat,a<=i->i<j->j<N->(g i).t<(g j).t:=λi j h1 h2 h3=>by rw[hgf i h1,hgf j aa,hT i aa,hT j aa];exact h2
 have Ug:=hp.all (P:=Sq) hB
 (repeat'(refine uR ?_;first|refine cA (λ_=>?_) (λ_=>?_)|refine⟨_,_,_,_,_,_,_,rfl,rfl,(by repeat'(first|omega|assumption|exact trivial|refine zco ?_ ?_|exact λi j h1 h2 h3=>hTi i j h1 h2 aa)),?_⟩|fail))<;>try(conv=>whnf)
 ·rename_i hle;intro g1 q1 t1
  (repeat'(refine uR ?_;first|refine dJ aa ?_|fail))<;>try(conv=>whnf)
  refine⟨(N-(a+20)).toNat,aa,a+20,g1,⟨rfl,aa,aa,aa,hp.trans (q1.wide aa aa aa),⟨hTB.perm q1 aa aa aa,λj hj=>by rw[q1.2 j aa];exact hgf j aa⟩,?_⟩,rfl,rfl⟩;rw[show(a+20).toNat=a.toNat+20 by omega]at t1 q1 ⊢;exact hb.step ha t1 λj hj=>q1.2 j aa
 ·rename_i hle;intro g1 q1 t1;have Su:cV 0 N f g1:=hp.trans (q1.wide aa aa aa);have aAL:LV 20 N g1:=hTB.perm q1 aa aa aa;have zY:abH (mX) 20 0 N g1:=hb.all ha aa aa (by simpa using t1) λj hj=>q1.2 j aa
  refine⟨λq env σ=>∃(s:Int) (g:Nat->Ta),(q=(N-s).toNat/\0<s/\s<=200000/\cV 0 N f g/\LV s.toNat N g/\abH (mX) s.toNat 0 N g)/\σ=[sd ap g N]/\env=[(0,.own 0),eN 1 N,(2,.pv (Dy c jG)),eN 6 s],(N-20:Int).toNat,⟨20,g1,⟨aa,aa,aa,Su,aAL,zY⟩,rfl,rfl⟩,?_⟩;clear hb hp hq ha hle t1 q1 Su zY Ug hTB aAL hgf hTi;rintro q env σ ⟨s,g,⟨hq,hs0,lZ,hp,hTB,hr⟩,rfl,rfl⟩
  (repeat'(refine uR ?_;first|refine dJ aa ?_|refine cA (λ_=>?_) (λ_=>?_)|fail))<;>try(conv=>whnf)
  ·rename_i hsN;refine⟨λq' env σ=>∃(a:Int) (g:Nat->Ta),(q'=(N-a).toNat/\0<=a/\a<=N/\a.toNat%(2*s.toNat)=0/\cV 0 N f g/\(LV (2*s.toNat) N g∧∀j:Nat,a<=j->j<N->(g j).t/s.toNat=j/s.toNat)/\To (mX) (2*s.toNat) a.toNat g/\abH (mX) s.toNat a.toNat N g)/\σ=[sd ap g N]/\env=[(0,.own 0),eN 1 N,(2,.pv (Dy c jG)),eN 6 s,eN 7 a,eN 8 (a+2*s)],N,⟨0,g,⟨aa,aa,aa,Nat.zero_mod _,hp,⟨hTB.dbl,λj _ hj=>hTB j hj⟩,λx _ h=>aa,hr⟩,rfl,by rw[Int.zero_add]⟩,?_⟩;clear hp hr;rintro q' env σ ⟨a,g,⟨hq',ha0,haN,ha,hp,⟨hT2,hTs⟩,hb,hr⟩,rfl,rfl⟩;have hTm:∀i j:Nat,a<=i->i<a+s->a+s<=j->j<N->(g i).t<(g j).t:=λi j h1 h2 h3 h4=>aiK (Ra ha) (i:=i) (j:=j) aa aa (hTs i h1 aa) (hTs j aa aa) aa
   have Ug:=hp.all (P:=Sq) hB;have hh:=Ra ha;have r1:a.toNat<N->aU (mX) a.toNat (min (a.toNat+s.toNat) N) g:=λh=>hr _ hh (zaj _) h
   have r2:a.toNat+s.toNat<N->aU (mX) (a.toNat+s.toNat) (min (a.toNat+s.toNat+s.toNat) N) g:=λh=>hr _ (by rw[zc6];exact hh) aa h
   (repeat'(refine uR ?_;first|refine dJ aa ?_|refine cA (λ_=>?_) (λ_=>?_)|fail))<;>try(conv=>whnf)
   ·rename_i hle;have r1:=r1 aa;have r2:=r2 aa;rw[zau aa,show a.toNat+s.toNat=(a+s).toNat by omega]at r1;rw[zau aa,show a.toNat+s.toNat+s.toNat=(a+2*s).toNat by omega,show a.toNat+s.toNat=(a+s).toNat by omega]at r2;unfold N2
    (repeat'(refine uR ?_;first|refine⟨_,_,_,_,_,_,_,_,rfl,rfl,(by repeat'(first|omega|assumption|exact trivial|refine zco ?_ ?_|exact λi j h1 h2 h3 h4=>hTm i j h1 h2 h3 aa)),?_⟩|fail))<;>try(conv=>whnf)
    intro g1 q1 t1
    (repeat'(refine uR ?_;first|refine dJ aa ?_|fail))<;>try(conv=>whnf)
    refine⟨(N-(a+2*s)).toNat,aa,a+2*s,g1,⟨rfl,aa,aa,?_,hp.trans (q1.wide aa aa aa),⟨hT2.perm q1 ha aa aa,λj hj hjN=>by rw[q1.2 j aa];exact hTs j aa hjN⟩,?_,λx hx s8 hx3=>?_⟩,rfl,rfl⟩
    ·rw[show(a+2*s).toNat=a.toNat+2*s.toNat by omega,zc6];exact ha
    ·rw[show(a+2*s).toNat=a.toNat+2*s.toNat by omega]at t1 q1 ⊢;exact hb.step ha t1 λj hj=>q1.2 j aa
    ·exact ct (hr x hx aa hx3) λj h1 h2=>q1.2 j aa
   ·rename_i hle aS;have r1:=r1 aa;have r2:=r2 aa;rw[zau aa,show a.toNat+s.toNat=(a+s).toNat by omega]at r1;rw[zbG aa,show a.toNat+s.toNat=(a+s).toNat by omega]at r2;unfold N2;refine⟨ap,g,N,a,a+s,N,c,jG,rfl,rfl,⟨aa,aa,aa,aa,aa,aa,Ug,abc,r1,by simpa using r2,λi j h1 h2 h3 h4=>hTm i j h1 h2 h3 aa⟩,λg1 q1 t1=>?_⟩
    (repeat'(refine uR ?_;first|refine dJ aa ?_|fail))<;>try(conv=>whnf)
    refine⟨(N-s*2).toNat,aa,s*2,g1,⟨rfl,aa,aa,hp.trans (q1.wide aa aa aa),(by rw[show(s*2).toNat=2*s.toNat by omega];exact hT2.perm q1 ha aa aa),?_⟩,rfl,rfl⟩;rw[show(s*2).toNat=2*s.toNat by omega];exact hb.all ha aa aa (by simpa using t1) λj hj=>q1.2 j aa
   ·rename_i hle aS;refine⟨(N-s*2).toNat,aa,s*2,g,⟨rfl,aa,aa,hp,(by rw[show(s*2).toNat=2*s.toNat by omega];exact hT2),?_⟩,rfl,rfl⟩;rw[show(s*2).toNat=2*s.toNat by omega];refine hb.all ha aa aa ?_ λj _=>rfl
    by_cases aDm:a.toNat<N
    ·have:=r1 aDm;rw[zbG aa]at this;exact this
    ·exact λx y h1 h2 h3=>aa
  ·rename_i hsN;refine hK g hp ?_;by_cases h0:0<N
   ·have:=hr 0 (Nat.zero_mod _) (zaj _) h0;rw[zbG aa]at this;exact this
   ·exact λx y h1 h2 h3=>aa
def Rj(xs:List AV)(σ:aw)(K:AV->aw->Prop):Prop:=
 ∃(ap:Bool) (L:List At),xs=[.own 0,.pv (.clo 157 [])]/\σ=[.row 71 11 ap (L.map At.pv)]/\L.length<=100000/\K (.tup []) [.row 71 11 ap ((stS L).map At.pv)]
def ara(L:List At):(So L).map Ta.pv=L.map At.pv:=by
 have:=congrArg (List.map At.pv) (ZL L);rw[zcR]at this;exact this
def NI:ki (ax [(193,x3 aff)]) bf bh bg (x3 Rj):=by
 rintro _ _ K ⟨ap,L,rfl,rfl,hN,hK⟩;obtain⟨f,hf⟩:∃f:Nat->Ta,f=λi=>(So L)[i]?.getD ⟨⟨0,[],0,0,false,[],0,.nil,0,0,0⟩,0⟩:=⟨_,rfl⟩
 have hL:So L=MS f L.length:=by
  rw[<-Nt];exact ajB λi x hx=>by rw[hf];simp[hx]
 have hT:∀j,j<L.length->(f j).t=j:=by
  intro j hj;rw[hf];show((So L)[j]?.getD _).t=j;rw[DK,zak hj];rfl
 rw[<-ara];have hK:∀S:List Ta,S.Perm (So L)->S.Pairwise (λx y=>mX y x=false)->K (.tup []) [.row 71 11 ap (S.map Ta.pv)]:=λS h1 h2=>by
  have e:S.map Ta.pv=(stS L).map At.pv:=by
   rw[<-Z7 h1 h2,zcR];rfl
  rw[e];exact hK
 have hBf:∀j,Sq (f j):=λ_=>trivial
 have abc:PG 0:=trivial;generalize hn:L.length=N at*;rw[hL]
 (repeat'((conv=>whnf);first|(refine⟨ap,f,N,0,0,rfl,rfl,⟨hN,hBf,abc,hT⟩,?_⟩)|refine gF λ_=>?_|fail))<;>try(conv=>whnf)
 intro g hp hs;refine hK (MS g N) ?_ ?_
 ·rw[hL];exact hp.perm
 ·rw[zbv];intro i j h1 h2 h3;have e1:=wB (f:=g) (n:=N) (i:=i) mK;have e2:=wB (f:=g) (n:=N) (i:=j) gu;rw[zak h1]at e1;rw[zak h2]at e2;rw[Option.some.inj e1,Option.some.inj e2];exact hs i j aa aa gu
end Go.Dv.Try
namespace Go.Dv
def Ob(l:List (Value×List PV))(s:Nat)(x:PV)(g:List PV)(j:Option Nat):Prop:=
 (∃k h,j=some k/\l[k]?=some (h,g)/\x=.val h)\/(j=none/\x=.nil s/\g=[])
def eK(l:List (Value×List PV))(s:Nat)(xs:List PV)(gs:List (List PV)):Prop:=
 ∃js:List (Option Nat),xs.length=gs.length/\js.length=gs.length/\(∀(i:Nat) x g j,xs[i]?=some x->gs[i]?=some g->js[i]?=some j->Ob l s x g j)/\
  ∀(i k j:Nat),js[i]?=some (some j)->js[k]?=some (some j)->i=k
def eK.nil{l:List (Value×List PV)}{s:Nat}:eK l s [] []:=⟨[],rfl,rfl,λi x g j h=>(by simp at h),λi k j h=>(by simp at h)⟩
def eK.len{l:List (Value×List PV)}{s:Nat}{xs:List PV}{gs:List (List PV)}(h:eK l s xs gs):xs.length=gs.length:=h.choose_spec.1
def Ob.more{l:List (Value×List PV)}{s:Nat}{x:PV}{g:List PV}{j:Option Nat}(h:Ob l s x g j)(m:List (Value×List PV)):Ob (l++m) s x g j:=by
 rcases h with⟨k,v,h1,h2,h3⟩|h
 ·exact .inl ⟨k,v,h1,by rw[zar (zaa.1 h2).1];exact h2,h3⟩
 ·exact .inr h
def eK.more{l:List (Value×List PV)}{s:Nat}{xs:List PV}{gs:List (List PV)}(h:eK l s xs gs)(m:List (Value×List PV)):eK (l++m) s xs gs:=by
 obtain⟨js,h1,h2,h3,h4⟩:=h;exact⟨js,h1,h2,λi x g j a b c=>(h3 i x g j a b c).more m,h4⟩
def eK.push{l:List (Value×List PV)}{s:Nat}{xs:List PV}{gs:List (List PV)}(h:eK l s xs gs)(v:Value)(g:List PV):eK (l++[(v,g)]) s (xs++[.val v]) (gs++[g]):=by
 obtain⟨js,h1,h2,h3,h4⟩:=h.more [(v,g)];obtain⟨ks,k1,k2,k3,k4⟩:=h;refine⟨ks++[some l.length],by simp[k1],by simp[k2],λi x y j a b c=>?_,λi k j a b=>?_⟩
 ·by_cases hi:i<gs.length
  ·rw[zar aa]at a b c;exact(k3 i x y j a b c).more _
  ·have hl:=(zaa.1 b).1;rw[zae,zbK]at hl;have e:i=gs.length:=aa;subst e;rw[zam aa,k1,zcP]at a;rw[zam aa,zcP]at b;rw[zam aa,k2,zcP]at c;cases a;cases b;cases c;refine .inl ⟨l.length,v,rfl,?_,rfl⟩;rw[zam (zaj _),zcP];rfl
 ·have bnd:∀(i j:Nat),ks[i]?=some (some j)->j<l.length:=λi j a=>by
   have hi:=(zaa.1 a).1;obtain⟨x,hx⟩:∃x,xs[i]?=some x:=⟨_,zak aa⟩
   obtain⟨y,hy⟩:∃y,gs[i]?=some y:=⟨_,zak aa⟩
   rcases k3 i x y _ hx hy a with⟨q,w,e,g1,_⟩|⟨e,_⟩
   ·cases e;exact(zaa.1 g1).1
   ·cases e
  have key:∀(i:Nat),(ks++[some l.length])[i]?=some (some j)->(i<ks.length/\ks[i]?=some (some j))\/(i=ks.length/\j=l.length):=λi a=>by
   by_cases hi:i<ks.length
   ·rw[zar hi]at a;exact .inl ⟨hi,a⟩
   ·have hl:=(zaa.1 a).1;rw[zae,zbK]at hl;have e:i=ks.length:=aa;subst e;rw[zam (zaj _),zcP]at a;cases a;exact .inr ⟨rfl,rfl⟩
  rcases key i a with⟨a1,a2⟩|⟨a1,a2⟩<;>rcases key k b with⟨b1,b2⟩|⟨b1,b2⟩
  ·exact k4 i k j a2 b2
  ·have:=bnd i j a2;omega
  ·have:=bnd k j b2;omega
  ·omega
def eK.swap{l:List (Value×List PV)}{s:Nat}{xs:List PV}{gs:List (List PV)}(h:eK l s xs gs){i:Nat}{v0:Value}{g0:List PV}(hx:xs[i]?=some (.val v0))(hg:gs[i]?=some g0):
 ∃k,l[k]?=some (v0,g0)∧∀(v:Value) (g:List PV),eK (l.set k (mc,[])++[(v,g)]) s (xs.set i (.val v)) (gs.set i g):=by
 obtain⟨js,h1,h2,h3,h4⟩:=h;have hi:=(zaa.1 hg).1;obtain⟨j,hj⟩:∃j,js[i]?=some j:=⟨_,zak aa⟩
 rcases h3 i _ _ j hx hg hj with⟨k,w,rfl,e2,e3⟩|⟨_,e,_⟩
 case inr=>cases e
 cases e3;refine⟨k,e2,λv g=>⟨js.set i (some l.length),by simp[h1],uM,λq x y z a b c=>?_,λp q z a b=>?_⟩⟩
 ·by_cases hq:i=q
  ·subst hq;rw[zaR,if_pos rfl,if_pos aa]at a b c;cases a;cases b;cases c;refine .inl ⟨l.length,v,rfl,?_,rfl⟩;rw[zam (by rw[zaL];omega),zaL,zcP];rfl
  ·rw[zaR,if_neg hq]at a b c;rcases h3 q x y z a b c with⟨m,u,rfl,g2,g3⟩|g
   ·refine .inl ⟨m,u,rfl,?_,g3⟩;have hm:=(zaa.1 g2).1;rw[zar (by rw[zaL];exact hm),zaR,if_neg]
    ·exact g2
    ·intro e;subst e;exact hq (h4 _ _ _ hj c)
   ·exact .inr g
 ·have bnd:∀(p z:Nat),js[p]?=some (some z)->z<l.length:=λp z a=>by
   have hp:=(zaa.1 a).1;obtain⟨x,hx⟩:∃x,xs[p]?=some x:=⟨_,zak aa⟩
   obtain⟨y,hy⟩:∃y,gs[p]?=some y:=⟨_,zak aa⟩
   rcases h3 p x y _ hx hy a with⟨q,w,e,g1,_⟩|⟨e,_⟩
   ·cases e;exact(zaa.1 g1).1
   ·cases e
  rw[zaR]at a b;by_cases hp:i=p<;>by_cases hq:i=q
  ·omega
  ·rw[if_pos hp,if_pos aa]at a;rw[if_neg hq]at b;cases a;have:=bnd q _ b;omega
  ·rw[if_neg hp]at a;rw[if_pos hq,if_pos aa]at b;cases b;have:=bnd p _ a;omega
  ·rw[if_neg hp]at a;rw[if_neg hq]at b;exact h4 p q z a b
def eK.first{l:List (Value×List PV)}{s:Nat}{xs:List PV}{gs:List (List PV)}(h:eK l s xs gs){i:Nat}(hx:xs[i]?=some (.nil s))(v:Value)(g:List PV):
 eK (l++[(v,g)]) s (xs.set i (.val v)) (gs.set i g):=by
 obtain⟨js,h1,h2,h3,h4⟩:=h;have hi:=(zaa.1 hx).1;refine⟨js.set i (some l.length),by simp[h1],uM,λq x y z a b c=>?_,λp q z a b=>?_⟩
 ·by_cases hq:i=q
  ·subst hq;rw[zaR,if_pos rfl,if_pos aa]at a b c;cases a;cases b;cases c;refine .inl ⟨l.length,v,rfl,?_,rfl⟩;rw[zam (zaj _),zcP];rfl
  ·rw[zaR,if_neg hq]at a b c;exact(h3 q x y z a b c).more _
 ·have bnd:∀(p z:Nat),js[p]?=some (some z)->z<l.length:=λp z a=>by
   have hp:=(zaa.1 a).1;obtain⟨x,hx⟩:∃x,xs[p]?=some x:=⟨_,zak aa⟩
   obtain⟨y,hy⟩:∃y,gs[p]?=some y:=⟨_,zak aa⟩
   rcases h3 p x y _ hx hy a with⟨q,w,e,g1,_⟩|⟨e,_⟩
   ·cases e;exact(zaa.1 g1).1
   ·cases e
  rw[zaR]at a b;by_cases hp:i=p<;>by_cases hq:i=q
  ·omega
  ·rw[if_pos hp,if_pos aa]at a;rw[if_neg hq]at b;cases a;have:=bnd q _ b;omega
  ·rw[if_neg hp]at a;rw[if_pos hq,if_pos aa]at b;cases b;have:=bnd p _ a;omega
  ·rw[if_neg hp]at a;rw[if_neg hq]at b;exact h4 p q z a b
def slN(s:Nat):List PV->PV->PV:=λg x=>match x with| .nil t=>.nil t|_=>.sl s g
def eK.res{l:List (Value×List PV)}{s:Nat}:∀{xs:List PV} {gs:List (List PV)},eK l s xs gs->u4 l s xs (List.zipWith (slN s) gs xs)
 |[],[],_=>trivial
 |[],_::_,h=>by have:=h.len;simp at this
 |_::_,[],h=>by have:=h.len;simp at this
 |x::xs,g::gs,h=>by
  obtain⟨js,h1,h2,h3,h4⟩:=h;cases js with
  |nil=>simp at h2
  |cons j js=>
   refine⟨?_,eK.res (l:=l) (s:=s) ⟨js,mK,gu,λi x g j a b c=>h3 (i+1) x g j (by simpa using a) (by simpa using b) (by simpa using c),λi k z a b=>by
    have:=h4 (i+1) (k+1) z (by simpa using a) (by simpa using b);omega⟩⟩
   rcases h3 0 x g j rfl rfl rfl with⟨k,v,_,e2,rfl⟩|⟨_,rfl,_⟩
   ·exact⟨.inr ⟨(v,g),zad e2,rfl,rfl⟩,trivial⟩
   ·exact⟨.inl rfl,trivial⟩
def CY(ds:List (List PV))(hs:List PV):List PV:=List.zipWith (λd h=>.agg (d++[h])) ds hs
def Rx{l:List (Value×List PV)}{s:Nat}:∀(d:List PV) {a b:List PV},sT l s a b->sT l s (d++a) (d++b)
 |[],_,_,h=>h
 |_::d,_,_,h=>⟨.inl rfl,Rx d h⟩
def eK.axk{l:List (Value×List PV)}{s:Nat}:∀{ds:List (List PV)} {xs:List PV} {gs:List (List PV)},eK l s xs gs->ds.length=xs.length->u4 l s (CY ds xs) (CY ds (List.zipWith (slN s) gs xs))
 |[],[],_,_,_=>by simp[CY,u4]
 |[],_::_,_,_,h=>by simp at h
 |_::_,[],_,_,h=>by simp at h
 |d::ds,x::xs,[],h,_=>by have:=h.len;simp at this
 |d::ds,x::xs,g::gs,h,hl=>by
  obtain⟨js,h1,h2,h3,h4⟩:=h;cases js with
  |nil=>simp at h2
  |cons j js=>
   have ih:=eK.axk (ds:=ds) (l:=l) (s:=s) (xs:=xs) (gs:=gs) ⟨js,mK,gu,λi x g j a b c=>h3 (i+1) x g j (by simpa using a) (by simpa using b) (by simpa using c),λi k z a b=>by
    have:=h4 (i+1) (k+1) z (by simpa using a) (by simpa using b);omega⟩ (by simpa using hl)
   refine⟨?_,ih⟩;show sT l s (d++[x]) (d++[slN s g x]);refine Rx d ?_;rcases h3 0 x g j rfl rfl rfl with⟨k,v,_,e2,rfl⟩|⟨_,rfl,_⟩
   ·exact⟨.inr ⟨(v,g),zad e2,rfl,rfl⟩,trivial⟩
   ·exact⟨.inl rfl,trivial⟩
def Us{ds:List (List PV)}{hs:List PV}{i:Nat}{d:List PV}{h:PV}(a:ds[i]?=some d)(b:hs[i]?=some h):(CY ds hs)[i]?=some (.agg (d++[h])):=by
 unfold CY;rw[zcT,a,b]
def Nz{ds:List (List PV)}{hs:List PV}(h:ds.length=hs.length):(CY ds hs).length=hs.length:=by unfold CY;simp[h]
def PL{ds:List (List PV)}{hs:List PV}(h:ds.length=hs.length)(d:List PV)(v:PV):CY (ds++[d]) (hs++[v])=CY ds hs++[.agg (d++[v])]:=by
 unfold CY;rw[List.zipWith_append h];rfl
end Go.Dv
namespace Go.Dv.Try
open Go Go.Dv
def jj(gs:List (List At))(a:At):List (List At):=
 if a.ty=16 then gs.set 0 (gs[0]?.getD []++[a])
 else if gs.length=1\/440<cz (gs[gs.length-1]?.getD [])+fF a then gs++[[a]]
 else gs.set (gs.length-1) (gs[gs.length-1]?.getD []++[a])
def eb(l:List At):List (List At):=l.foldl jj [[]]
def jz{l:List At}{n:Nat}{a:At}(h:l[n]?=some a):eb (l.take (n+1))=jj (eb (l.take n)) a:=by
 unfold eb;rw[zct,h];simp
def ZK(gs:List (List At))(a:At):gs.length<=(jj gs a).length/\(jj gs a).length<=gs.length+1:=by
 unfold jj;split
 ·rw[zaL];omega
 ·split
  ·rw[zae,zbK];omega
  ·rw[zaL];omega
def Ht(l:List At):1<=(eb l).length/\(eb l).length<=l.length+1:=by
 unfold eb;have key:∀(l:List At) (gs:List (List At)),gs.length<=(l.foldl jj gs).length/\(l.foldl jj gs).length<=gs.length+l.length:=by
  intro l
  induction l with
  |nil=>intro gs;simp
  |cons a l ih=>
   intro gs;have h1:=ZK gs a;have h2:=ih (jj gs a);rw[zbh,zap];omega
 have:=key l [[]];rw[zbK]at this;omega
def Q6{gs:List (List At)}{a x:At}{g:List At}(hg:g∈jj gs a)(hx:x∈g):x=a∨∃g0∈gs,x∈g0:=by
 have one:∀i:Nat,x∈gs[i]?.getD []++[a]->x=a∨∃g0∈gs,x∈g0:=λi h=>by
  rcases zax.1 h with h|h
  ·cases hi:gs[i]? with
   |none=>rw[hi]at h;cases h
   |some y=>rw[hi]at h;exact .inr ⟨y,zad hi,h⟩
  ·exact .inl (zbs.1 h)
 unfold jj at hg;split at hg
 ·rcases zbF hg with h|rfl
  ·exact .inr ⟨g,h,hx⟩
  ·exact one _ hx
 ·split at hg
  ·rcases zax.1 hg with h|h
   ·exact .inr ⟨g,h,hx⟩
   ·rw[zbs]at h;subst h;exact .inl (zbs.1 hx)
  ·rcases zbF hg with h|rfl
   ·exact .inr ⟨g,h,hx⟩
   ·exact one _ hx
def Uh{l:List At}{g:List At}{x:At}(hg:g∈eb l)(hx:x∈g):x∈l:=by
 have key:∀(l:List At) (gs:List (List At)),(∃g∈l.foldl jj gs,x∈g)->x∈l∨∃g∈gs,x∈g:=by
  intro l
  induction l with
  |nil=>intro gs h;exact .inr h
  |cons a l ih=>
   intro gs h;rcases ih _ h with h|⟨g,h1,h2⟩
   ·exact .inl (zcS _ h)
   ·rcases Q6 h1 h2 with rfl|h
    ·exact .inl (zcM ..)
    ·exact .inr h
 rcases key l [[]] ⟨g,hg,hx⟩with h|⟨g0,h1,h2⟩
 ·exact h
 ·rw[zbs]at h1;subst h1;cases h2
def Yz(gs:List (List At))(a:At):((jj gs a).map List.length).sum<=(gs.map List.length).sum+1:=by
 have VS:∀(gs:List (List At)) (i:Nat) (g:List At),((gs.set i (gs[i]?.getD []++[a])).map List.length).sum<=(gs.map List.length).sum+1:=by
  intro gs
  induction gs with
  |nil=>intro i g;simp
  |cons x gs ih=>
   intro i g;cases i with
   |zero=>simp;omega
   |succ i=>have:=ih i g;simp at this ⊢;omega
 unfold jj;split
 ·exact VS gs 0 []
 ·split
  ·simp
  ·exact VS gs _ []
def FB(l:List At){g:List At}(hg:g∈eb l):g.length<=l.length:=by
 have key:∀(l:List At) (gs:List (List At)),((l.foldl jj gs).map List.length).sum<=(gs.map List.length).sum+l.length:=by
  intro l
  induction l with
  |nil=>intro gs;simp
  |cons a l ih=>
   intro gs;have h1:=Yz gs a;have h2:=ih (jj gs a);rw[zbh,zap];omega
 have:=key l [[]];have h0:(([[]]:List (List At)).map List.length).sum=0:=rfl;have hm:∀(gs:List (List At)),g∈gs->g.length<=(gs.map List.length).sum:=by
  intro gs
  induction gs with
  |nil=>intro h;cases h
  |cons x gs ih=>
   intro h;rw[List.map_cons,List.sum_cons];rcases zay.1 h with rfl|h
   ·omega
   ·have:=ih h;omega
 have:=hm _ hg;unfold eb at this;omega
def QB(g:List At):PV:=match g with|[]=>.nil 11|_=>.sl 11 (g.map At.pv)
def IY(gs:List (List At)):List (List PV):=gs.map λg=>g.map At.pv
def Ov(gs:List (List At))(i:Nat)(g:List At):IY (gs.set i g)=(IY gs).set i (g.map At.pv):=by unfold IY;rw[zcV]
def Ry(gs:List (List At))(g:List At):IY (gs++[g])=IY gs++[g.map At.pv]:=by unfold IY;rw[zaD];rfl
def OD{gs:List (List At)}{i:Nat}{g:List At}(h:gs[i]?=some g):(IY gs)[i]?=some (g.map At.pv):=by unfold IY;rw[zbC,h];rfl
def Hy(gs:List (List At)):(IY gs).length=gs.length:=zan _
def SB(s:As):RV:=if cz s.l<=440 then .tup [.fresh 22 1 [nd s],.pv (pB true)]else .tup [.fresh 22 1 ((eb s.l).map QB),.pv (pB false)]
def uw(ps:List PV)(r:RV):Prop:=∃s:As,ps=[nd s]/\Tm s.l/\r=SB s
def kX(xs:List PV)(G:List (List At)):Prop:=(∀(i:Nat) x,1<=i->xs[i]?=some x→∃h:Value,x=.val h)∧∀(i:Nat) x g,xs[i]?=some x->G[i]?=some g->slN 11 (g.map At.pv) x=QB g
def MD(g:List At)(a:At):QB (g++[a])=.sl 11 ((g++[a]).map At.pv):=by cases g<;>rfl
def kX.put{xs:List PV}{G:List (List At)}(h:kX xs G)(i:Nat)(v:Value)(g:List At)(a:At):kX (xs.set i (.val v)) (G.set i (g++[a])):=by
 refine⟨λj x h1 h2=>?_,λj x y h1 h2=>?_⟩
 ·rw[zaR]at h2;split at h2
  ·split at h2
   ·cases h2;exact⟨v,rfl⟩
   ·cases h2
  ·exact h.1 j x h1 h2
 ·rw[zaR]at h1 h2;by_cases iT:i=j
  ·rw[if_pos iT]at h1 h2;split at h1
   ·split at h2
    ·cases h1;cases h2;rw[MD];rfl
    ·cases h2
   ·cases h1
  ·rw[if_neg iT]at h1 h2;exact h.2 j x y h1 h2
def kX.auV{x0:PV}{xs:List PV}{G:List (List At)}(h:kX (x0::xs) G)(v:Value)(g:List At)(a:At):kX (.val v::xs) (G.set 0 (g++[a])):=by
 refine⟨λi x h1 h2=>h.1 i x h1 (by cases i with|zero=>omega|succ i=>exact h2),λi x y h1 h2=>?_⟩;cases i with
 |zero=>
  cases h1;cases G with
  |nil=>simp at h2
  |cons z G=>cases h2;rw[MD];rfl
 |succ i=>
  refine h.2 (i+1) x y h1 ?_;rw[zaR,if_neg aa]at h2;exact h2
def kX.push{xs:List PV}{G:List (List At)}(h:kX xs G)(hl:xs.length=G.length)(v:Value)(a:At):kX (xs++[.val v]) (G++[[a]]):=by
 refine⟨λi x h1 h2=>?_,λi x y h1 h2=>?_⟩
 ·by_cases hi:i<xs.length
  ·rw[zar hi]at h2;exact h.1 i x h1 h2
  ·have:=(zaa.1 h2).1;rw[zae,zbK]at this;rw[zam aa,show i-xs.length=0 by omega]at h2;cases h2;exact⟨v,rfl⟩
 ·by_cases hi:i<xs.length
  ·rw[zar hi]at h1;rw[zar aa]at h2;exact h.2 i x y h1 h2
  ·have:=(zaa.1 h1).1;rw[zae,zbK]at this;rw[zam aa,show i-xs.length=0 by omega]at h1;rw[zam aa,show i-G.length=0 by omega]at h2;cases h1;cases h2;rfl
def kX.res{xs:List PV}{G:List (List At)}(h:kX xs G)(hl:xs.length=G.length):List.zipWith (slN 11) (IY G) xs=G.map QB:=by
 refine zbb λi=>?_
 rw[zcT,zbC];unfold IY;rw[zbC];cases hg:G[i]? with
 |none=>rfl
 |some g=>
  obtain⟨x,hx⟩:∃x,xs[i]?=some x:=⟨_,zak (by have:=(zaa.1 hg).1;omega)⟩
  rw[hx];exact congrArg some (h.2 i x g hx hg)
def N9:Fc 71 11 (ax [(65,ah mb),(133,eX Iu)]) sH rH rW (gR false uw):=by
 refine⟨af,?_⟩;rintro _ K ⟨_,⟨s,rfl,hs,rfl⟩,hK⟩;have hz:mb [nd s] _:=⟨s,rfl,hs,rfl⟩
 have hs0:=hs.1;unfold SB at hK;by_cases h4:cz s.l<=440
 ·rw[if_pos h4]at hK;cases s with
  |nil=>
   (repeat'((conv=>whnf);first|refine⟨_,hz,?_⟩|refine ai aa ?_|refine cw ?_|refine⟨([]:List GA),?_⟩|fail))<;>try(conv=>whnf)
   exact yy
  |sl L=>
   (repeat'((conv=>whnf);first|refine⟨_,hz,?_⟩|refine ai aa ?_|refine cw ?_|refine⟨([]:List GA),?_⟩|fail))<;>try(conv=>whnf)
   exact yy
 rw[if_neg h4]at hK;obtain⟨L,rfl⟩:∃L,s=.sl L:=by
  cases s with
  |nil=>exact absurd (show cz []<=440 by decide) h4
  |sl L=>exact⟨L,rfl⟩
 have hl:(Sl.sl L).l=L:=rfl;rw[hl]at hs hs0 h4 hK;have hLm:(L.map At.pv).length=L.length:=zan _
 (repeat'((conv=>whnf);first|refine⟨_,hz,?_⟩|refine ar (by rw[hl];omega) ?_|refine gF λ_=>?_|refine⟨([]:List GA),?_⟩|refine Vu ?_|fail))<;>try(conv=>whnf)
 refine⟨λm env σ=>∃(n:Nat) (xs:List PV) (l:List (Value×List PV)),(n+m=L.length/\eK l 11 xs (IY (eb (L.take n)))/\kX xs (eb (L.take n)))/\σ=[.row 22 1 true xs,.pool 71 11 l []]/\
  env=[(2,.own 0),(13,.pv (.sl 11 (L.map At.pv))),eN 14 L.length,eN 15 n],L.length,⟨0,[.nil 11],[],⟨aa,⟨[none],rfl,rfl,?_,?_⟩,?_⟩,rfl,by rw[<-hLm];rfl⟩,?_⟩
 ·intro i x g j h1 h2 h3;cases i with
  |zero=>
   have h2:([[]]:List (List PV))[0]?=some g:=h2;cases h1;cases h2;cases h3;exact .inr ⟨rfl,rfl,rfl⟩
  |succ i=>simp at h1
 ·intro i k j h1;cases i with
  |zero=>simp at h1
  |succ i=>simp at h1
 ·refine⟨λi x h1 h2=>?_,λi x g h1 h2=>?_⟩
  ·cases i with
   |zero=>omega
   |succ i=>simp at h2
  ·cases i with
   |zero=>cases h1;cases h2;rfl
   |succ i=>simp at h1
 rintro m env σ ⟨n,xs,l,⟨hn,hP,hE⟩,rfl,rfl⟩;have hgl:=Ht (L.take n);have htl:(L.take n).length<=n:=om;have hxl:xs.length=(eb (L.take n)).length:=hP.len.trans (Hy _);by_cases aS:n<L.length
 case neg=>
  have xZ:=hP.res;rw[hE.res hxl,za1 aa]at xZ
  (repeat'((conv=>whnf);first|(refine⟨[GA.solve 0 1 ((eb L).map QB)],?_⟩;(conv=>whnf);refine zco xZ ?_)|refine ar aa ?_|fail))<;>try(conv=>whnf)
  exact yy
 obtain⟨a,ha⟩:∃a,L[n]?=some a:=⟨_,zak aS⟩
 have hga:(L.map At.pv)[n]?=some a.pv:=by rw[zbC,ha];rfl
 have hba:Iu [a.pv] _:=⟨a,rfl,rfl⟩
 obtain⟨x0,xs,rfl⟩:∃x ys,xs=x::ys:=by
  cases xs with
  |nil=>simp at hxl;omega
  |cons x ys=>exact⟨x,ys,rfl⟩
 by_cases Nb:a.ty=16
 ·by_cases vW:x0=.nil 11
  ·subst vW
   (repeat'((conv=>whnf);first|refine ai aa ?_|refine⟨_,⟨aa,hga⟩,?_⟩|refine⟨_,hba,?_⟩|refine Or.inr (Or.inl (zco bP ?_))|refine⟨(none:Option (Nat×Nat)),?_⟩|refine zco ⟨by show 1*120<=140737488355328;omega,by show 1<=9223372036854775807;omega⟩ ?_|(refine⟨[GA.put 4 1],?_⟩;(conv=>whnf);refine zco ⟨rfl,rfl,rfl⟩ ?_;intro v)|(refine ko ?_;first|refine dJ aa ?_|refine gF λ_=>?_|refine cw ?_|refine⟨([]:List GA),?_⟩|refine Vu ?_|refine⟨_,rfl,?_⟩|fail)))<;>try(conv=>whnf)
   obtain⟨gA,T6⟩:∃g,(eb (L.take n))[0]?=some g:=⟨_,zak aa⟩
   have R5:gA=[]:=by
    obtain⟨js,j1,j2,j3,_⟩:=hP;obtain⟨j,hj⟩:∃j,js[0]?=some j:=⟨_,zak (by rw[j2,Hy];omega)⟩
    rcases j3 0 _ _ j rfl (OD T6) hj with⟨_,_,_,_,e⟩|⟨_,_,e⟩
    ·cases e
    ·exact List.map_eq_nil_iff.1 e
   subst R5;have hG:IY (eb (L.take (n+1)))=(IY (eb (L.take n))).set 0 [a.pv]:=by
    rw[jz ha];unfold jj;rw[if_pos Nb,T6,Ov];rfl
   have hG2:eb (L.take (n+1))=(eb (L.take n)).set 0 ([]++[a]):=by
    rw[jz ha];unfold jj;rw[if_pos Nb,T6];rfl
   exact⟨m-1,aa,n+1,.val v::xs,l++[(v,[a.pv])],⟨aa,by rw[hG];exact hP.first (i:=0) rfl v [a.pv],by rw[hG2];exact hE.auV v [] a⟩,rfl,rfl⟩
  ·obtain⟨h,rfl⟩:∃h,x0=.val h:=by
    obtain⟨js,j1,j2,j3,_⟩:=hP;obtain⟨g,hg⟩:∃g,(IY (eb (L.take n)))[0]?=some g:=⟨_,zak (by rw[Hy];omega)⟩
    obtain⟨j,hj⟩:∃j,js[0]?=some j:=⟨_,zak (by rw[j2,Hy];omega)⟩
    rcases j3 0 x0 g j rfl hg hj with⟨k,h,_,_,e⟩|⟨_,e,_⟩
    ·exact⟨h,e⟩
    ·exact absurd e vW
   obtain⟨gA,T6⟩:∃g,(eb (L.take n))[0]?=some g:=⟨_,zak aa⟩
   have O8:=OD T6;have hgs:=FB _ (zad T6);have aGs:(gA.map At.pv).length=gA.length:=zan _;have hG:IY (eb (L.take (n+1)))=(IY (eb (L.take n))).set 0 (gA.map At.pv++[a.pv]):=by
    rw[jz ha];unfold jj;rw[if_pos Nb,T6,Ov,zby,zaD];rfl
   have hG2:eb (L.take (n+1))=(eb (L.take n)).set 0 (gA++[a]):=by
    rw[jz ha];unfold jj;rw[if_pos Nb,T6];rfl
   generalize gA.map At.pv=g0 at*;obtain⟨k,hk,hsw⟩:=hP.swap (i:=0) rfl O8
   (repeat'((conv=>whnf);first|refine ai aa ?_|refine⟨_,⟨aa,hga⟩,?_⟩|refine⟨_,hba,?_⟩|(refine⟨[GA.lend 1 k],?_⟩;(conv=>whnf);refine⟨_,_,hk,?_⟩)|refine Or.inr (Or.inl (zco bP ?_))|(refine⟨some (1,2),?_⟩;(conv=>whnf);refine zco ⟨zcM ..,fM,fM⟩ ?_)|refine⟨(none:Option (Nat×Nat)),?_⟩|refine zco ⟨oG,oG⟩ ?_|(refine⟨[GA.put 5 1,GA.drop 1 2],?_⟩;(conv=>whnf);refine zco ⟨rfl,rfl,rfl⟩ ?_;intro v)|(refine ko ?_;first|refine dJ aa ?_|refine gF λ_=>?_|refine cw ?_|refine⟨([]:List GA),?_⟩|refine Vu ?_|refine⟨_,rfl,?_⟩|fail)))<;>try(conv=>whnf)
   exact⟨m-1,aa,n+1,.val v::xs,l.set k (mc,[])++[(v,g0++[a.pv])],⟨aa,by rw[hG];exact hsw v _,by rw[hG2];exact hE.auV v gA a⟩,rfl,rfl⟩
 have hlen:(x0::xs).length=xs.length+1:=zap;by_cases h1:(eb (L.take n)).length=1
 ·have vW:xs=[]:=zaf aa;subst vW;have hG:IY (eb (L.take (n+1)))=IY (eb (L.take n))++[[a.pv]]:=by
   rw[jz ha];unfold jj;rw[if_neg Nb,if_pos (.inl h1),Ry];rfl
  have hG2:eb (L.take (n+1))=eb (L.take n)++[[a]]:=by
   rw[jz ha];unfold jj;rw[if_neg Nb,if_pos (.inl h1)]
  (repeat'((conv=>whnf);first|refine ai aa ?_|refine⟨_,⟨aa,hga⟩,?_⟩|refine⟨_,hba,?_⟩|refine ar Nb ?_|refine⟨(none:Option (Nat×Nat)),?_⟩|(refine⟨[GA.put 3 1],?_⟩;(conv=>whnf);refine zco ⟨rfl,rfl,rfl⟩ ?_;intro v)|refine zco ⟨oG,oG⟩ ?_|refine dJ aa ?_|refine gF λ_=>?_|refine cw ?_|refine⟨([]:List GA),?_⟩|refine Or.inl (zco bP ?_)|fail))<;>try(conv=>whnf)
  exact⟨m-1,aa,n+1,[x0]++[.val v],l++[(v,[a.pv])],⟨aa,by rw[hG];exact hP.push v [a.pv],by rw[hG2];exact hE.push hxl v a⟩,rfl,rfl⟩
 ·obtain⟨gA,T6⟩:∃g,(eb (L.take n))[xs.length]?=some g:=⟨_,zak aa⟩
  obtain⟨x1,Pb⟩:∃x,(x0::xs)[xs.length]?=some x:=⟨_,zak aa⟩
  obtain⟨h,rfl⟩:=hE.1 xs.length x1 aa Pb;have O8:=OD T6;obtain⟨k,hk,hsw⟩:=hP.swap Pb O8;have s8:(x0::xs)[(((x0::xs).length:Int)-1).toNat]?=some (.val h):=by rw[show(((x0::xs).length:Int)-1).toNat=xs.length by omega];exact Pb
  have Hl:=zad T6;have hgs:=FB _ Hl;have hab:a∈L:=zad ha;have R1:mb [.sl 11 (gA.map At.pv)] (pI (cz gA)):=⟨.sl gA,rfl,⟨by show gA.length<=1000;omega,λx hx=>hs.2 x (za4 (Uh Hl hx))⟩,rfl⟩
  have hz3:mb [.sl 11 [a.pv]] (pI (cz [a])):=⟨.sl [a],rfl,⟨by show 1<=1000;omega,λx hx=>by rw[zbs.1 hx];exact hs.2 a hab⟩,rfl⟩
  have lZ:cz [a]=fF a:=vu;have vT:=EW gA;have mN:=Cs a;by_cases kq:440<cz gA+fF a
  ·(repeat'((conv=>whnf);first|refine ai aa ?_|refine⟨_,⟨aa,hga⟩,?_⟩|refine⟨_,hba,?_⟩|refine ar Nb ?_|(refine⟨[GA.lend 1 k],?_⟩;(conv=>whnf);refine⟨_,_,hk,?_⟩)|(refine⟨some (1,2),?_⟩;(conv=>whnf);refine zco ⟨zcM ..,fM,fM⟩ ?_)|refine⟨(none:Option (Nat×Nat)),?_⟩|refine ar aa ?_|refine zco ⟨aa,aa⟩ ?_|refine⟨_,s8,?_⟩|refine⟨_,R1,?_⟩|refine⟨_,hz3,?_⟩|(refine⟨[GA.put 5 1,GA.back 2 1 k],?_⟩;(conv=>whnf);refine zco ⟨rfl,rfl,rfl⟩ ?_;intro v;(conv=>whnf);refine zco ⟨rfl,rfl,rfl⟩ ?_;refine⟨h,zcM ..,?_⟩)|refine zco ⟨oG,oG⟩ ?_|refine dJ aa ?_|refine gF λ_=>?_|refine cw ?_|refine⟨([]:List GA),?_⟩|refine Or.inl (zco bP ?_)|fail))<;>try(conv=>whnf)
   have hG:IY (eb (L.take (n+1)))=IY (eb (L.take n))++[[a.pv]]:=by
    rw[jz ha];unfold jj;rw[if_neg Nb,if_pos (.inr Rq),Ry];rfl
   have hG2:eb (L.take (n+1))=eb (L.take n)++[[a]]:=by
    rw[jz ha];unfold jj;rw[if_neg Nb,if_pos (.inr Rq)]
   have hB:(l.set k (mc,[])++[(v,[a.pv])]).set k (h,gA.map At.pv)=l++[(v,[a.pv])]:=by
    have L1:=(zaa.1 hk).1;rw[List.set_append_left _ _ (by rw[zaL];exact L1),zcO];congr 1;refine zbb λi=>?_
    rw[zaR];by_cases hi:k=i
    ·subst hi;rw[if_pos rfl,if_pos L1,hk]
    ·rw[if_neg hi]
   exact⟨m-1,aa,n+1,x0::xs++[.val v],l++[(v,[a.pv])],⟨aa,by rw[hG];exact hP.push v [a.pv],by rw[hG2];exact hE.push hxl v a⟩,by rw[<-hB];rfl,rfl⟩
  ·have aGt:(gA.map At.pv).length=gA.length:=zan _;have hG:IY (eb (L.take (n+1)))=(IY (eb (L.take n))).set xs.length (gA.map At.pv++[a.pv]):=by
    rw[jz ha];unfold jj;rw[if_neg Nb,if_neg PW,show(eb (L.take n)).length-1=xs.length by omega,T6,Ov,zby,zaD];rfl
   have hG2:eb (L.take (n+1))=(eb (L.take n)).set xs.length (gA++[a]):=by
    rw[jz ha];unfold jj;rw[if_neg Nb,if_neg PW,show(eb (L.take n)).length-1=xs.length by omega,T6];rfl
   (repeat'((conv=>whnf);first|refine ai aa ?_|refine⟨_,⟨aa,hga⟩,?_⟩|refine⟨_,hba,?_⟩|refine ar Nb ?_|(refine⟨[GA.lend 1 k],?_⟩;(conv=>whnf);refine⟨_,_,hk,?_⟩)|(refine⟨some (1,2),?_⟩;(conv=>whnf);refine zco ⟨zcM ..,fM,fM⟩ ?_)|refine⟨(none:Option (Nat×Nat)),?_⟩|refine ar aa ?_|refine zco ⟨aa,aa⟩ ?_|refine⟨_,s8,?_⟩|refine⟨_,R1,?_⟩|refine⟨_,hz3,?_⟩|refine Or.inr (Or.inl (zco bP ?_))|refine zco ⟨oG,oG⟩ ?_|(refine⟨[GA.put 6 1,GA.drop 1 2],?_⟩;(conv=>whnf);refine zco ⟨rfl,rfl,rfl⟩ ?_;intro v)|refine dJ aa ?_|refine gF λ_=>?_|refine cw ?_|refine⟨([]:List GA),?_⟩|fail))<;>try(conv=>whnf)
   have hix:(((x0::xs).length:Int)-1).toNat=xs.length:=aa;exact⟨m-1,aa,n+1,(x0::xs).set xs.length (.val v),l.set k (mc,[])++[(v,gA.map At.pv++[a.pv])],⟨aa,by rw[hG];exact hsw v _,by rw[hG2];exact hE.put _ v gA a⟩,by rw[<-hix];rfl,rfl⟩
abbrev XE:=Sl Rf
abbrev LU(s:XE):PV:=s.pv Rf.pv 2
def L9(l:List Rf):∀x∈l.map Rf.pv,x.flat:=by
 intro x hx;obtain⟨r,_,rfl⟩:=zaX.1 hx;intro c hc;simp only[zay,zc7,or_false]at hc;rcases hc with rfl|rfl<;>trivial
def Ib(ps:List PV)(r:RV):Prop:=∃s:Rs,ps=[x4 s]/\s.l.length<=1000000/\r=.fresh 123 2 (s.l.map Rn.pv)
def OO:ay (ax []) cO cM cT (gR true Ib):=by
 rintro _ K ⟨_,⟨s,rfl,h,rfl⟩,hK⟩;cases s with
 |nil=>
  (conv=>whnf)
  exact Em
 |sl l=>
  refine λr hr=>?_
  cases r with
  |true=>
   have hl:l=[]:=by
    cases l with
    |nil=>rfl
    |cons x l=>exact absurd (hr ae) af
   subst hl
   (conv=>whnf)
   exact Em
  |false=>
   have h:l.length<=1000000:=h;have hlm:(l.map Rn.pv).length=l.length:=zan _
   (repeat'((conv=>whnf);first|refine zco aT ?_|refine cw ?_|fail))<;>try(conv=>whnf)
   exact⟨.fresh _ _ _,⟨rfl,rfl,rfl,rfl⟩,W5 _,hK⟩
def Qg(ps:List PV)(r:RV):Prop:=∃s:XE,ps=[LU s]/\s.l.length<=1000000/\r=.fresh 76 2 (s.l.map Rf.pv)
def No:ay (ax []) cJ cH cU (gR true Qg):=by
 rintro _ K ⟨_,⟨s,rfl,h,rfl⟩,hK⟩;cases s with
 |nil=>
  (conv=>whnf)
  exact Em
 |sl l=>
  refine λr hr=>?_
  cases r with
  |true=>
   have hl:l=[]:=by
    cases l with
    |nil=>rfl
    |cons x l=>exact absurd (hr ae) af
   subst hl
   (conv=>whnf)
   exact Em
  |false=>
   have h:l.length<=1000000:=h;have hlm:(l.map Rf.pv).length=l.length:=zan _
   (repeat'((conv=>whnf);first|refine zco aT ?_|refine cw ?_|fail))<;>try(conv=>whnf)
   exact⟨.fresh _ _ _,⟨rfl,rfl,rfl,rfl⟩,L9 _,hK⟩
def XF(a:At)(i:Int):At:={ a with rn:=.sl a.rn.l,id:=i }
def JB(ps:List PV)(r:RV):Prop:=∃(a:At) (i:Int),ps=[a.pv,pI i]/\a.rn.l.length<=1000000/\r=.pv (XF a i).pv
def OY:ay (ax [(115,gR true Ib)]) rk sa rO (gR false JB):=by
 rintro _ K ⟨_,⟨a,i,rfl,hs,rfl⟩,hK⟩
 (repeat'((conv=>whnf);first|refine⟨_,⟨a.rn,rfl,hs,rfl⟩,?_⟩|refine cw ?_|fail))<;>try(conv=>whnf)
 exact⟨.pv (XF a i).pv,rfl,trivial,hK⟩
def QS:ay (ax []) o3 nU oX (ah vO):=by
 rintro _ K ⟨_,⟨s,rfl,hs,rfl⟩,hK⟩
 (repeat'((conv=>whnf);first|refine jH ?_|refine gF λ_=>?_|fail))<;>try(conv=>whnf)
 refine⟨λm env σ=>∃(n:Nat),n+m=s.l.length/\σ=[]/\env=[eN 3 (fI (s.l.take n)),(6,.pv (x4 s)),eN 7 s.l.length,eN 8 n],s.l.length,⟨0,aa,rfl,rfl⟩,?_⟩;rintro m env σ ⟨n,hn,rfl,rfl⟩;have hb:=hs.sum n aa;have hl:=hs.1
 (repeat'((conv=>whnf);first|(refine IXA aa (λx hx=>?_);have:=hs.2 x (zad hx))|refine dJ aa ?_|refine cA (λ_=>?_) (λ_=>?_)|refine cw ?_|fail))<;>try(conv=>whnf)
 ·exact D_
 ·rw[za1 aa];exact aB
def ZD(ps:List PV)(p:Prop):Prop:=∃r:Rn,ps=[r.pv]/\p=(r.s= -1)
def SU:ay (ax []) m_ nu mZ (eX ZD):=by
 rintro _ K ⟨_,⟨r,rfl,rfl⟩,hK⟩
 (repeat'((conv=>whnf);first|refine cA (λ_=>?_) (λ_=>?_)|fail))<;>try(conv=>whnf)
 all_goals exact mi
def PI(ps:List PV)(v:PV):Prop:=∃s:Rs,ps=[x4 s,.clo 77 []]/\s.l.length<=1000000/\v=pI (Hx (λr:Rn=>r.s= -1) s.l)
def Ny:ay (ax [(77,eX ZD)]) cj cn cq (ah PI):=by
 rintro _ K ⟨_,⟨s,rfl,hl,rfl⟩,hK⟩
 (repeat'((conv=>whnf);first|refine jH ?_|refine gF λ_=>?_|fail))<;>try(conv=>whnf)
 refine⟨λm env σ=>∃n:Nat,(n+m=s.l.length∧∀j,j<n→∀y,s.l[j]?=some y→¬y.s= -1)/\σ=[]/\env=[(0,.pv (x4 s)),(1,.pv (.clo 77 [])),eN 7 s.l.length,eN 8 n],s.l.length,⟨0,⟨aa,λj hj=>aa⟩,rfl,rfl⟩,?_⟩;rintro m env σ ⟨n,⟨hn,h0⟩,rfl,rfl⟩;by_cases aS:n<s.l.length
 ·obtain⟨y,hy⟩:∃y,s.l[n]?=some y:=⟨_,zak aS⟩
  (repeat'((conv=>whnf);first|refine dI hy ?_|refine⟨_,⟨y,rfl,rfl⟩,?_⟩|refine dJ aa ?_|refine ai aa ?_|refine cA (λ_=>?_) (λ_=>?_)|fail))<;>try(conv=>whnf)
  ·rename_i g;exact Jq
  ·rename_i g;refine⟨m-1,aa,n+1,⟨aa,λj hj z hz=>?_⟩,rfl,rfl⟩;rcases zcp (zcr hj)with h1|h1
   ·exact h0 j h1 z hz
   ·subst h1;rw[hy]at hz;cases hz;exact g
 ·(repeat'((conv=>whnf);first|refine ar aa ?_|fail))<;>try(conv=>whnf)
  refine⟨.pv (pI _),fH (zf λz hz=>?_),trivial,hK⟩;obtain⟨k,hk⟩:=ee.1 hz;exact h0 k oA z hk
def Gl(ps:List PV)(p:Prop):Prop:=∃s:Rs,ps=[x4 s,.clo 77 []]/\s.l.length<=1000000/\p=∃y∈s.l,y.s= -1
def GM:ay (ax [(138,ah PI)]) bW bY b_ (eX Gl):=by
 rintro _ K ⟨_,⟨s,rfl,hl,rfl⟩,hK⟩;rw[<-IK]at hK
 (repeat'((conv=>whnf);first|refine⟨_,⟨s,rfl,hl,rfl⟩,?_⟩|refine cA (λ_=>?_) (λ_=>?_)|fail))<;>try(conv=>whnf)
 all_goals exact ye
abbrev aip(x:Rf):PV:=.clo 73 [.cptr x.pv]
def Vp(ps:List PV)(p:Prop):Prop:=∃y x:Rf,ps=[y.pv,.cptr x.pv]/\p=(y.r=x.r)
def Pr:ay (ax []) kx kT kJ (eX Vp):=by
 rintro _ K ⟨_,⟨y,x,rfl,rfl⟩,hK⟩
 (repeat'((conv=>whnf);first|refine cA (λ_=>?_) (λ_=>?_)|fail))<;>try(conv=>whnf)
 all_goals exact mi
def RI(ps:List PV)(v:PV):Prop:=∃(s:XE) (x:Rf),ps=[LU s,aip x]/\s.l.length<=1000000/\v=pI (Hx (λy:Rf=>y.r=x.r) s.l)
def Oe:ay (ax [(73,eX Vp)]) cp cl ck (ah RI):=by
 rintro _ K ⟨_,⟨s,x,rfl,hl,rfl⟩,hK⟩
 (repeat'((conv=>whnf);first|refine jH ?_|refine gF λ_=>?_|fail))<;>try(conv=>whnf)
 refine⟨λm env σ=>∃n:Nat,(n+m=s.l.length∧∀j,j<n→∀y,s.l[j]?=some y→¬y.r=x.r)/\σ=[]/\env=[(0,.pv (LU s)),(1,.pv (aip x)),eN 7 s.l.length,eN 8 n],s.l.length,⟨0,⟨aa,λj hj=>aa⟩,rfl,rfl⟩,?_⟩;rintro m env σ ⟨n,⟨hn,h0⟩,rfl,rfl⟩;by_cases aS:n<s.l.length
 ·obtain⟨y,hy⟩:∃y,s.l[n]?=some y:=⟨_,zak aS⟩
  (repeat'((conv=>whnf);first|refine dI hy ?_|refine⟨_,⟨y,x,rfl,rfl⟩,?_⟩|refine dJ aa ?_|refine ai aa ?_|refine cA (λ_=>?_) (λ_=>?_)|fail))<;>try(conv=>whnf)
  ·rename_i g;exact Jq
  ·rename_i g;refine⟨m-1,aa,n+1,⟨aa,λj hj z hz=>?_⟩,rfl,rfl⟩;rcases zcp (zcr hj)with h1|h1
   ·exact h0 j h1 z hz
   ·subst h1;rw[hy]at hz;cases hz;exact g
 ·(repeat'((conv=>whnf);first|refine ar aa ?_|fail))<;>try(conv=>whnf)
  refine⟨.pv (pI _),fH (zf λz hz=>?_),trivial,hK⟩;obtain⟨k,hk⟩:=ee.1 hz;exact h0 k oA z hk
def FX(ps:List PV)(p:Prop):Prop:=∃(s:XE) (x:Rf),ps=[LU s,aip x]/\s.l.length<=1000000/\p=∃y∈s.l,y.r=x.r
def G0:ay (ax [(137,ah RI)]) bZ bX bU (eX FX):=by
 rintro _ K ⟨_,⟨s,x,rfl,hl,rfl⟩,hK⟩;rw[<-IK]at hK
 (repeat'((conv=>whnf);first|refine⟨_,⟨s,x,rfl,hl,rfl⟩,?_⟩|refine cA (λ_=>?_) (λ_=>?_)|fail))<;>try(conv=>whnf)
 all_goals exact ye
def TY(l:List Rf)(i:Nat):Prop:=∃x,l[i]?=some x∧∃y∈l.take i,y.r=x.r
instance (l:List Rf) (i:Nat):Decidable (TY l i):=Classical.propDecidable _
def PJ(l:List Rf)(i:Nat):Int:=match l[i]? with
 |none=>0
 |some x=>if AW x≠0 then AW x else if TY l i then 23 else 0
def nG(l:List Rf):Int×Int:=dc (PJ l) 0 l.length
def Zi(ps:List PV)(v:PV):Prop:=∃(s:XE) (i:Nat) (x:Rf),ps=[pI i,x.pv,.cptr (LU s)]/\(s.l.length<=1000000/\s.l[i]?=some x)/\v=pI (PJ s.l i)
def GL:ay (ax [(72,eX FX),(75,ah Gn),(60,ah db),(74,ah eM)]) nj nn nb (ah Zi):=by
 rintro _ K ⟨_,⟨s,i,x,rfl,⟨hs,hx⟩,rfl⟩,hK⟩;have hi:=aZ hx;cases s with
 |nil=>exact absurd hi uX
 |sl l=>
  have hl:l.length<=1000000:=hs;have hi:i<l.length:=hi;have hx:l[i]?=some x:=hx;have hd:(∃y∈l.take i,y.r=x.r)↔TY l i:=⟨λh=>⟨x,hx,h⟩,λ⟨z,h1,h2⟩=>by rw[hx]at h1;cases h1;exact h2⟩
  have hE:∀b:Bool,(b=true↔TY l i)->bF [AW x,if (!b)=true then 0 else 23]=PJ l i:=λb hb=>by
   unfold PJ;rw[hx];simp only[bF];by_cases h1:AW x=0<;>by_cases h2:TY l i<;>cases b<;>simp_all
  have aS:(l.take i).length<=1000000:=om;have hK:K (.pv (pI (PJ l i))):=hK
  (repeat'((conv=>whnf);first|refine⟨_,⟨x,rfl,rfl⟩,?_⟩|refine⟨_,⟨.sl (l.take i),x,(by rw[HN];rfl),aS,rfl⟩,?_⟩|(refine ko ?_;first|refine dY ?_|refine gj ?_|refine cA (λ_=>?_) (λ_=>?_)|refine cw ?_|refine⟨_,⟨_,_,rfl,rfl⟩,?_⟩|refine zco jD ?_|refine⟨_,⟨[_,_],rfl,rfl⟩,?_⟩|fail)))<;>try(conv=>whnf)
  ·rename_i g;rw[<-hE true (by simp only[true_iff];exact hd.1 g)]at hK;exact aB
  ·rename_i g;rw[<-hE false (by simp only[zaG,false_iff];exact λe=>g (hd.2 e))]at hK;exact aB
def Uo(ps:List PV)(r:RV):Prop:=∃s:XE,ps=[LU s,.clo 71 [.cptr (LU s)]]/\s.l.length<=1000000/\r=.tup [.pv (pI (nG s.l).1),.pv (pI (nG s.l).2)]
def QN:ay (ax [(71,ah Zi)]) ga gd fZ (gR true Uo):=by
 rintro _ K ⟨_,⟨s,rfl,hs,rfl⟩,hK⟩
 (repeat'((conv=>whnf);first|refine jH ?_|refine gF λ_=>?_|fail))<;>try(conv=>whnf)
 refine⟨λm env σ=>∃n:Nat,(n+m=s.l.length∧∀k,k<n->PJ s.l k=0)/\σ=[]/\env=[(1,.pv (.clo 71 [.cptr (LU s)])),(9,.pv (LU s)),eN 10 s.l.length,eN 11 n],s.l.length,⟨0,⟨aa,λk hk=>aa⟩,rfl,rfl⟩,?_⟩;rintro m env σ ⟨n,⟨hn,h0⟩,rfl,rfl⟩;unfold nG at hK;by_cases aS:n<s.l.length
 ·obtain⟨a,ha⟩:∃a,s.l[n]?=some a:=⟨_,zak aS⟩
  (repeat'((conv=>whnf);first|refine dI ha ?_|refine⟨_,⟨s,n,a,rfl,⟨hs,ha⟩,rfl⟩,?_⟩|refine dJ aa ?_|refine ai aa ?_|refine cA (λ_=>?_) (λ_=>?_)|refine cw ?_|fail))<;>try(conv=>whnf)
  ·rename_i h;rw[nI h0 aS h]at hK;exact aO
  ·rename_i h;refine⟨m-1,aa,n+1,⟨aa,λk hk=>?_⟩,rfl,rfl⟩;rcases zcp (zcr hk)with h1|h1
   ·exact h0 k h1
   ·subst h1;exact zba.1 h
 ·rw[eD (λk hk=>h0 k aa)]at hK
  (repeat'((conv=>whnf);first|refine ar aa ?_|fail))<;>try(conv=>whnf)
  exact aO
def nA(l:List At):Nat:=if cz l<=440 then 1 else(eb l).length
def jC(f:Wh):Int×Int:=if (nk f).2≠0 then(0,(nk f).2)else if 12<nA f.at_.l then(0,16)else(nA f.at_.l,0)
def yz(ps:List PV)(r:RV):Prop:=∃f:Wh,ps=[f.pv]/\Tm f.at_.l/\r=.tup [.pv (pI (jC f).1),.pv (pI (jC f).2)]
def Kq:ay (ax [(12,gR true Vw),(62,gR false uw),(63,eX tc)]) oe oq o9 (gR true yz):=by
 rintro _ K ⟨_,⟨f,rfl,hs,rfl⟩,hK⟩;have hc:Nj f.at_.l (.clo 64 []) λa=>decide (440<fF a):=.great hs.2
 have hng:¬ ∃a∈f.at_.l,decide (440<fF a)=true:=by
  rintro⟨a,_,h⟩;have:=Cs a;simp at h;omega
 have hl:=hs.1;have hgl:=Ht f.at_.l;have hgm:((eb f.at_.l).map QB).length=(eb f.at_.l).length:=zan _;have hgR:uw [nd f.at_] (SB f.at_):=⟨f.at_,rfl,hs,rfl⟩
 unfold jC nA at hK;unfold SB at hgR;by_cases h0:(nk f).2=0
 ·rw[if_neg (λh=>h h0)]at hK;by_cases h4:cz f.at_.l<=440
  ·rw[if_pos h4,if_neg aa]at hK;rw[if_pos h4]at hgR
   (repeat'((conv=>whnf);first|refine⟨_,⟨f,rfl,hs,rfl⟩,?_⟩|refine⟨_,hgR,?_⟩|refine⟨_,⟨f.at_,_,_,rfl,⟨aa,hc⟩,rfl⟩,?_⟩|refine ar (λh=>h h0) ?_|refine ar hng ?_|refine dY ?_|refine gF λ_=>?_|fail))<;>try(conv=>whnf)
   exact aO
  ·rw[if_neg h4]at hK;rw[if_neg h4]at hgR
   (repeat'((conv=>whnf);first|refine⟨_,⟨f,rfl,hs,rfl⟩,?_⟩|refine⟨_,hgR,?_⟩|refine⟨_,⟨f.at_,_,_,rfl,⟨aa,hc⟩,rfl⟩,?_⟩|refine ar (λh=>h h0) ?_|refine ar hng ?_|refine gj ?_|refine cA (λ_=>?_) (λ_=>?_)|refine gF λ_=>?_|fail))<;>try(conv=>whnf)
   ·rename_i VL;rw[if_pos aa]at hK;exact aO
   ·rename_i VL _;rw[if_neg aa]at hK;exact aO
 ·rw[if_pos h0]at hK
  (repeat'((conv=>whnf);first|refine⟨_,⟨f,rfl,hs,rfl⟩,?_⟩|refine ai h0 ?_|fail))<;>try(conv=>whnf)
  exact aO
def adR(g:List At):As:=match g with|[]=>.nil|a::l=>.sl (a::l)
def aas(g:List At):(adR g).l=g:=by cases g<;>rfl
def anB(g:List At):nd (adR g)=QB g:=by cases g<;>rfl
def gO(l:List At):Bool:=decide (cz l<=440)
def K5(s:As):List As:=if cz s.l<=440 then[s]else(eb s.l).map adR
def Lq(l:List At):List (List At):=if cz l<=440 then[l]else eb l
def afi(s:As):(K5 s).map Sl.l=Lq s.l:=by
 unfold K5 Lq;split
 ·rfl
 ·rw[zcR];exact(zbA λg _=>aas g).trans (List.map_id _)
def HP(l:List At):(Lq l).length=nA l:=by unfold Lq nA;split<;>rfl
def adj(s:As):(K5 s).length=nA s.l:=by rw[<-HP,<-afi,zan]
def ado(s:As):SB s=.tup [.fresh 22 1 ((K5 s).map nd),.pv (pB (gO s.l))]:=by
 unfold SB K5 gO;by_cases h:cz s.l<=440
 ·rw[if_pos h,if_pos h,decide_eq_true h];rfl
 ·rw[if_neg h,if_neg h,decide_eq_false h,zcR];rw[show(nd∘adR)=QB from funext anB]
def FU(l:List At):1<=nA l/\nA l<=l.length+1:=by
 unfold nA;split
 ·omega
 ·exact Ht l
def CN{s t:As}(h:t∈K5 s):t.l.length<=s.l.length∧∀a∈t.l,a∈s.l:=by
 unfold K5 at h;split at h
 ·rw[zbs]at h;subst h;exact⟨zaj _,λ_ h=>h⟩
 ·obtain⟨g,hg,rfl⟩:=zaX.1 h;rw[aas];exact⟨FB _ hg,λa ha=>Uh hg ha⟩
def HL(al:Bool)(a:At)(k:Nat):At:=XF a (if al=true then a.id else k)
def ji(al:Bool)(g:List At):List At:=g.zipIdx.map λp=>HL al p.1 p.2
def DE{al:Bool}{g:List At}{n:Nat}{a:At}(h:g[n]?=some a):ji al (g.take (n+1))=ji al (g.take n)++[HL al a n]:=by
 have hn:=aZ h;unfold ji;rw[zct,h,zcW,zc4,zaD,zal,show min n g.length=n by omega];simp
def Ax(al:Bool)(g:List At):(ji al g).length=g.length:=by simp[ji]
def Hv(al:Bool)(g:List At):Int:=(ji al g).foldl (λm a=>max m (a.id+1)) 0
def IU{al:Bool}{g:List At}{n:Nat}{a:At}(h:g[n]?=some a):Hv al (g.take (n+1))=max (Hv al (g.take n)) ((HL al a n).id+1):=by
 unfold Hv;rw[DE h,List.foldl_append];rfl
def YY(al:Bool)(g:List At)(h:∀a∈g,-1000000<=a.id/\a.id<=1000000)(hl:g.length<=1000):0<=Hv al g/\Hv al g<=1000001:=by
 have key:∀n,n<=g.length->0<=Hv al (g.take n)/\Hv al (g.take n)<=1000001:=by
  intro n
  induction n with
  |zero=>intro _;exact⟨Int.le_refl _,by show(0:Int)<=_;omega⟩
  |succ n ih=>
   intro hn;have ha:=zak (show n<g.length by omega);rw[IU ha];have h1:=ih aa;have h2:=h _ (zcI (show n<g.length by omega));have h3:(HL al g[n] n).id<=1000000:=by
    show(if al=true then g[n].id else(n:Int))<=1000000;split<;>omega
   omega
 have:=key g.length (zaj _);rwa[zcX]at this
def pk(refs:List Rf)(i:Nat):Rf:=refs[i]?.getD ⟨0,0⟩
def JN(al:Bool)(r:Rf)(g:List At):List Le:=(ji al g).map λa=>⟨a.key,r,a.id⟩
def Qy{al:Bool}{g:List At}{n:Nat}{a:At}(r:Rf)(h:g[n]?=some a):JN al r (g.take (n+1))=JN al r (g.take n)++[⟨a.key,r,(HL al a n).id⟩]:=by
 unfold JN;rw[DE h,zaD];rfl
def ND(al:Bool)(r:Rf)(g:List At):(JN al r g).length=g.length:=by simp[JN,Ax]
def lF(f:Wh)(refs:List Rf)(al:Bool)(i:Nat)(g:List At):Rc where
 sq:=(pk refs i).s
 lk:=if i=0 then f.lk else 0
 fl:=if i=0 then f.fl else 1
 br:=if i=0 then 0 else(pk refs 0).r
 bs:=if i=0 then 0 else(pk refs 0).s
 nx:=Hv al g
 ls:=f.ls
 at_:=.sl (ji al g)
def Rc.hd(r:Rc):List PV:=[pI r.sq,pI r.lk,pI r.fl,pI r.br,pI r.bs,pI r.nx,pI r.ls]
def Rc.awl(r:Rc):r.pv=.agg (r.hd++[nd r.at_]):=rfl
def K6(gs:List As)(i:Nat):List At:=match gs[i]? with|some g=>g.l|none=>[]
def E_{gs:List As}{i:Nat}{g:As}(h:gs[i]?=some g):K6 gs i=g.l:=by unfold K6;rw[h]
def wa(f:Wh)(refs:List Rf)(al:Bool)(gs:List As)(n:Nat):List (List PV):=(List.range n).map λi=>(lF f refs al i (K6 gs i)).hd
def Cc(al:Bool)(gs:List As)(n:Nat):List (List PV):=(List.range n).map λi=>(ji al (K6 gs i)).map At.pv
def nL(refs:List Rf)(al:Bool)(gs:List As)(n:Nat):List Le:=(List.range n).flatMap λi=>JN al (pk refs i) (K6 gs i)
def MX(f:Wh)(refs:List Rf)(al:Bool)(gs:List As)(n:Nat):wa f refs al gs (n+1)=wa f refs al gs n++[(lF f refs al n (K6 gs n)).hd]:=by
 unfold wa;rw[zc0,zaD];rfl
def MK(al:Bool)(gs:List As)(n:Nat):Cc al gs (n+1)=Cc al gs n++[(ji al (K6 gs n)).map At.pv]:=by
 unfold Cc;rw[zc0,zaD];rfl
def AA(refs:List Rf)(al:Bool)(gs:List As)(n:Nat):nL refs al gs (n+1)=nL refs al gs n++JN al (pk refs n) (K6 gs n):=by
 unfold nL;rw[zc0,zaz];simp
def Qc(f:Wh)(refs:List Rf)(al:Bool)(gs:List As)(n:Nat):(wa f refs al gs n).length=n:=by simp[wa]
def KQ(al:Bool)(gs:List As)(n:Nat):(Cc al gs n).length=n:=by simp[Cc]
def X7{refs:List Rf}{al:Bool}{gs:List As}(h:∀t∈gs,t.l.length<=1000):∀n,(nL refs al gs n).length<=1000*n:=by
 intro n
 induction n with
 |zero=>simp[nL]
 |succ n ih=>
  rw[AA,zae,ND];have:(K6 gs n).length<=1000:=by
   unfold K6;split
   ·rename_i g hg;exact h g (zad hg)
   ·simp
  omega
def gE(f:Wh)(refs:List Rf):List Rc:=(List.range (nA f.at_.l)).map λi=>lF f refs (gO f.at_.l) i (K6 (K5 f.at_) i)
def fq(f:Wh)(refs:List Rf):List Le:=nL refs (gO f.at_.l) (K5 f.at_) (nA f.at_.l)
def ahG(f:Wh)(refs:List Rf):Prop:=Tm f.at_.l/\(∀a∈f.at_.l,a.rn.l.length<=1000000/\ -1000000<=a.id/\a.id<=1000000)/\nA f.at_.l<=refs.length/\refs.length<=1000
def plS(f:Wh)(refs:List Rf)(l:List (Value×List PV))(hs:List PV):aw:=
 [.pool 71 11 l [],.box 130 [.own 2,.own 3,.pv (.str []),.pv (.nil 2),.pv (pB (gO f.at_.l)),.own 4],
  .row 76 2 true (refs.map Rf.pv),.row 78 8 true (CY (wa f refs (gO f.at_.l) (K5 f.at_) (nA f.at_.l)) hs),.row 80 6 true ((fq f refs).map Le.pv)]
def Fk(xs:List AV)(σ:aw)(K:AV->aw->Prop):Prop:=
 ∃(f:Wh) (refs:XE),xs=[.pv f.pv,.pv (LU refs)]/\ahG f refs.l/\σ=[.pool 71 11 [] []]/\
  ∀(l:List (Value×List PV)) (hs:List PV),eK l 11 hs (Cc (gO f.at_.l) (K5 f.at_) (nA f.at_.l))->(∀x∈hs,∃v:Value,x=.val v)->K (.ref 1 0 0) (plS f refs.l l hs)
def LQ:ki (ax [(62,gR false uw),(114,gR true Qg),(116,gR false JB),(113,ah Ad)]) p8 p7 pU (x3 Fk):=by
 rintro _ _ K ⟨f,refs,rfl,⟨hB,hR,hN,hr⟩,rfl,hK⟩;have hgR:uw [nd f.at_] (SB f.at_):=⟨f.at_,rfl,hB,rfl⟩
 rw[ado]at hgR;have hgl:=adj f.at_;have hgb:=FU f.at_.l;have Ug:=hB.1;generalize hGs:K5 f.at_=Gs at*;generalize s9:gO f.at_.l=al at*;have hGm:(Gs.map nd).length=Gs.length:=zan _
 (repeat'((conv=>whnf);first|refine⟨_,hgR,?_⟩|refine⟨_,⟨refs,rfl,aa,rfl⟩,?_⟩|(refine⟨[GA.nrow 3 1 78,GA.nrow 3 5 80],?_⟩;(conv=>whnf);refine zco af ?_;(conv=>whnf);refine zco af ?_)|refine gF λ_=>?_|refine cw ?_|refine⟨([]:List GA),?_⟩|fail))<;>try(conv=>whnf)
 refine⟨λm env σ=>∃(n:Nat) (hs:List PV) (l:List (Value×List PV)),(n+m=Gs.length/\eK l 11 hs (Cc al Gs n)∧∀x∈hs,∃v:Value,x=.val v)/\
  σ=[.pool 71 11 l [],.box 24 [.pv (pI f.fl),.pv (pI f.lk),.pv (pI f.ls),.pv (nd f.at_)],.box 130 [.own 4,.own 5,.pv (.str []),.pv (.nil 2),.pv (pB al),.own 6],.row 22 1 true (Gs.map nd),.row 76 2 true (refs.l.map Rf.pv),.row 78 8 true (CY (wa f refs.l al Gs n) hs),.row 80 6 true ((nL refs.l al Gs n).map Le.pv)]/\
  env=[(1,.pv (LU refs)),(2,.ref 1 0 0),(6,.pv (pB al)),(7,.ref 2 0 0),(28,.own 3),eN 29 Gs.length,eN 30 n],Gs.length,⟨0,[],[],⟨aa,.nil,λx hx=>by cases hx⟩,rfl,by rw[<-hGm];rfl⟩,?_⟩
 rintro m env σ ⟨n,hs,l,⟨hn,hP,hv⟩,rfl,rfl⟩;by_cases aS:n<Gs.length
 case neg=>
  obtain rfl:n=nA f.at_.l:=aa;subst hGs s9
  (repeat'((conv=>whnf);first|refine ar aa ?_|refine⟨([]:List GA),?_⟩|fail))<;>try(conv=>whnf)
  exact hK l hs hP hv
 obtain⟨g,hg⟩:∃g,Gs[n]?=some g:=⟨_,zak aS⟩
 have hgm:=CN (s:=f.at_) (by rw[hGs];exact zad hg);have hGl:∀t∈Gs,t.l.length<=1000:=λt ht=>by have:=(CN (s:=f.at_) (t:=t) (by rw[hGs];exact ht)).1;omega
 have hgP:(Gs.map nd)[n]?=some (nd g):=by rw[zbC,hg];rfl
 have hgc:(nd g).cells=[nd g]:=Sl.cells;obtain⟨r,hr⟩:∃r,refs.l[n]?=some r:=⟨_,zak aa⟩
 obtain⟨r0,VO⟩:∃r,refs.l[0]?=some r:=⟨_,zak aa⟩
 (repeat'((conv=>whnf);first|rw[hgc]|refine jH ?_|refine dI hr ?_|refine dI VO ?_|refine ai aa ?_|refine⟨(none:Option (Nat×Nat)),?_⟩|(refine⟨[GA.nrow 7 7 71],?_⟩;(conv=>whnf);refine zco af ?_)|refine cA (λ_=>?_) (λ_=>?_)|refine gF λ_=>?_|refine avQ bL ?_|refine OWN aa ?_|refine cw ?_|refine⟨([]:List GA),?_⟩|refine Or.inl (zco bP ?_)|fail))<;>try(conv=>whnf)
 ·
  refine⟨λm' env σ=>∃k:Nat,k+m'=g.l.length/\
   σ=[.pool 71 11 l [],.box 24 [.pv (pI f.fl),.pv (pI f.lk),.pv (pI f.ls),.pv (nd f.at_)],.box 130 [.own 5,.own 6,.pv (.str []),.pv (.nil 2),.pv (pB al),.own 7],.box 78 [.pv (pI r.s),.pv (pI f.lk),.pv (pI f.fl),.pv (pI 0),.pv (pI 0),.pv (pI (Hv al (g.l.take k))),.pv (pI f.ls),.own 8],.row 22 1 true (Gs.map nd),.row 76 2 true (refs.l.map Rf.pv),.row 78 8 true (CY (wa f refs.l al Gs n) hs),.row 80 6 true ((nL refs.l al Gs n++JN al r (g.l.take k)).map Le.pv),.row 71 11 true ((ji al (g.l.take k)).map At.pv)]/\
   env=[(1,.pv (LU refs)),(2,.ref 1 0 0),(6,.pv (pB al)),(7,.ref 2 0 0),eN 8 n,(10,.ref 3 0 0),(28,.own 4),eN 29 Gs.length,eN 30 n,(56,.pv (nd g)),eN 57 g.l.length,eN 58 k],g.l.length,⟨0,aa,RW,rfl⟩,?_⟩
  rintro m' env σ ⟨k,hk,rfl,rfl⟩;have hEl:((nL refs.l al Gs n++JN al r (g.l.take k)).map Le.pv).length<=1001000:=QJ;have hAl:((ji al (g.l.take k)).map At.pv).length<=1000:=by rw[zan,Ax,zal];omega
  by_cases L1:k<g.l.length
  ·obtain⟨a,ha⟩:∃a,g.l[k]?=some a:=⟨_,zak L1⟩
   have haR:=hR a (hgm.2 a (zad ha));have hxb:=YY al (g.l.take k) (λa ha=>(hR a (hgm.2 a (za4 ha))).2) om;have e1:=IU (al:=al) ha;have e2:=DE (al:=al) ha;have e3:=Qy (al:=al) r ha;generalize Hv al (g.l.take k)=X at*;generalize ji al (g.l.take k)=GG at*;generalize JN al r (g.l.take k)=EE at*;cases al
   ·(repeat'((conv=>whnf);first|refine ai aa ?_|refine dI ha ?_|refine⟨_,⟨a,_,rfl,haR.1,rfl⟩,?_⟩|refine dI hr ?_|refine⟨_,⟨a,rfl,rfl⟩,?_⟩|refine⟨(none:Option (Nat×Nat)),?_⟩|refine zco ⟨gM,gM⟩ ?_|refine dJ aa ?_|refine MAX ?_|refine cw ?_|refine⟨([]:List GA),?_⟩|refine Or.inl (zco bP ?_)|fail))<;>try(conv=>whnf)
    have E1:(nL refs.l false Gs n++JN false r (g.l.take (k+1))).map Le.pv=(nL refs.l false Gs n++EE).map Le.pv++[Le.pv ⟨a.key,r,(HL false a k).id⟩]:=Ee;have E2:(ji false (g.l.take (k+1))).map At.pv=GG.map At.pv++[(HL false a k).pv]:=Eh;exact Ev
   ·(repeat'((conv=>whnf);first|refine ai aa ?_|refine dI ha ?_|refine⟨_,⟨a,_,rfl,haR.1,rfl⟩,?_⟩|refine dI hr ?_|refine⟨_,⟨a,rfl,rfl⟩,?_⟩|refine⟨(none:Option (Nat×Nat)),?_⟩|refine zco ⟨gM,gM⟩ ?_|refine dJ aa ?_|refine MAX ?_|refine cw ?_|refine⟨([]:List GA),?_⟩|refine Or.inl (zco bP ?_)|fail))<;>try(conv=>whnf)
    have E1:(nL refs.l true Gs n++JN true r (g.l.take (k+1))).map Le.pv=(nL refs.l true Gs n++EE).map Le.pv++[Le.pv ⟨a.key,r,(HL true a k).id⟩]:=Ee;have E2:(ji true (g.l.take (k+1))).map At.pv=GG.map At.pv++[(HL true a k).pv]:=Eh;exact Ev
  ·have kV:g.l.take k=g.l:=za1 aa;rw[kV]at hEl hAl ⊢;have hRl:(CY (wa f refs.l al Gs n) hs).length<=1001:=Qm
   (repeat'((conv=>whnf);first|refine ar aa ?_|(refine⟨[GA.put 8 0],?_⟩;(conv=>whnf);refine zco ⟨rfl,rfl,rfl⟩ ?_;intro v)|refine⟨(none:Option (Nat×Nat)),?_⟩|refine zco ⟨gM,gM⟩ ?_|refine dJ aa ?_|refine cw ?_|refine⟨([]:List GA),?_⟩|refine Or.inl (zco bP ?_)|fail))<;>try(conv=>whnf)
   have hrf:pk refs.l n=r:=by unfold pk;rw[hr];rfl
   have asO:pk refs.l 0=r0:=by unfold pk;rw[VO];rfl
   have e4:(lF f refs.l al n (K6 Gs n)).hd=[pI r.s,pI f.lk,pI f.fl,pI 0,pI 0,pI (Hv al g.l),pI f.ls]:=by
    have KX:n=0:=aa;unfold lF Rc.hd;rw[E_ hg,hrf,asO];simp only[KX,if_true,if_false]
   have hA:Cc al Gs (n+1)=Cc al Gs n++[(ji al g.l).map At.pv]:=by rw[MK,E_ hg]
   have hE:nL refs.l al Gs (n+1)=nL refs.l al Gs n++JN al r g.l:=by rw[AA,E_ hg,hrf]
   have hH:CY (wa f refs.l al Gs (n+1)) (hs++[.val v])=CY (wa f refs.l al Gs n) hs++[.agg ([pI r.s,pI f.lk,pI f.fl,pI 0,pI 0,pI (Hv al g.l),pI f.ls]++[.val v])]:=by
    rw[MX,e4];exact PL o6 _ _
   exact⟨m-1,aa,n+1,hs++[.val v],l++[(v,(ji al g.l).map At.pv)],⟨aa,by rw[hA];exact hP.push v _,λx hx=>by
    rcases zax.1 hx with hx|hx
    ·exact hv x hx
    ·exact⟨v,zbs.1 hx⟩⟩,by rw[hH,hE];rfl,rfl⟩
 ·
  refine⟨λm' env σ=>∃k:Nat,k+m'=g.l.length/\
   σ=[.pool 71 11 l [],.box 24 [.pv (pI f.fl),.pv (pI f.lk),.pv (pI f.ls),.pv (nd f.at_)],.box 130 [.own 5,.own 6,.pv (.str []),.pv (.nil 2),.pv (pB al),.own 7],.box 78 [.pv (pI r.s),.pv (pI 0),.pv (pI 1),.pv (pI r0.r),.pv (pI r0.s),.pv (pI (Hv al (g.l.take k))),.pv (pI f.ls),.own 8],.row 22 1 true (Gs.map nd),.row 76 2 true (refs.l.map Rf.pv),.row 78 8 true (CY (wa f refs.l al Gs n) hs),.row 80 6 true ((nL refs.l al Gs n++JN al r (g.l.take k)).map Le.pv),.row 71 11 true ((ji al (g.l.take k)).map At.pv)]/\
   env=[(1,.pv (LU refs)),(2,.ref 1 0 0),(6,.pv (pB al)),(7,.ref 2 0 0),eN 8 n,(10,.ref 3 0 0),(28,.own 4),eN 29 Gs.length,eN 30 n,(56,.pv (nd g)),eN 57 g.l.length,eN 58 k],g.l.length,⟨0,aa,RW,rfl⟩,?_⟩
  rintro m' env σ ⟨k,hk,rfl,rfl⟩;have hEl:((nL refs.l al Gs n++JN al r (g.l.take k)).map Le.pv).length<=1001000:=QJ;have hAl:((ji al (g.l.take k)).map At.pv).length<=1000:=by rw[zan,Ax,zal];omega
  by_cases L1:k<g.l.length
  ·obtain⟨a,ha⟩:∃a,g.l[k]?=some a:=⟨_,zak L1⟩
   have haR:=hR a (hgm.2 a (zad ha));have hxb:=YY al (g.l.take k) (λa ha=>(hR a (hgm.2 a (za4 ha))).2) om;have e1:=IU (al:=al) ha;have e2:=DE (al:=al) ha;have e3:=Qy (al:=al) r ha;generalize Hv al (g.l.take k)=X at*;generalize ji al (g.l.take k)=GG at*;generalize JN al r (g.l.take k)=EE at*;cases al
   ·(repeat'((conv=>whnf);first|refine ai aa ?_|refine dI ha ?_|refine⟨_,⟨a,_,rfl,haR.1,rfl⟩,?_⟩|refine dI hr ?_|refine⟨_,⟨a,rfl,rfl⟩,?_⟩|refine⟨(none:Option (Nat×Nat)),?_⟩|refine zco ⟨gM,gM⟩ ?_|refine dJ aa ?_|refine MAX ?_|refine cw ?_|refine⟨([]:List GA),?_⟩|refine Or.inl (zco bP ?_)|fail))<;>try(conv=>whnf)
    have E1:(nL refs.l false Gs n++JN false r (g.l.take (k+1))).map Le.pv=(nL refs.l false Gs n++EE).map Le.pv++[Le.pv ⟨a.key,r,(HL false a k).id⟩]:=Ee;have E2:(ji false (g.l.take (k+1))).map At.pv=GG.map At.pv++[(HL false a k).pv]:=Eh;exact Ev
   ·(repeat'((conv=>whnf);first|refine ai aa ?_|refine dI ha ?_|refine⟨_,⟨a,_,rfl,haR.1,rfl⟩,?_⟩|refine dI hr ?_|refine⟨_,⟨a,rfl,rfl⟩,?_⟩|refine⟨(none:Option (Nat×Nat)),?_⟩|refine zco ⟨gM,gM⟩ ?_|refine dJ aa ?_|refine MAX ?_|refine cw ?_|refine⟨([]:List GA),?_⟩|refine Or.inl (zco bP ?_)|fail))<;>try(conv=>whnf)
    have E1:(nL refs.l true Gs n++JN true r (g.l.take (k+1))).map Le.pv=(nL refs.l true Gs n++EE).map Le.pv++[Le.pv ⟨a.key,r,(HL true a k).id⟩]:=Ee;have E2:(ji true (g.l.take (k+1))).map At.pv=GG.map At.pv++[(HL true a k).pv]:=Eh;exact Ev
  ·have kV:g.l.take k=g.l:=za1 aa;rw[kV]at hEl hAl ⊢;have hRl:(CY (wa f refs.l al Gs n) hs).length<=1001:=Qm
   (repeat'((conv=>whnf);first|refine ar aa ?_|(refine⟨[GA.put 8 0],?_⟩;(conv=>whnf);refine zco ⟨rfl,rfl,rfl⟩ ?_;intro v)|refine⟨(none:Option (Nat×Nat)),?_⟩|refine zco ⟨gM,gM⟩ ?_|refine dJ aa ?_|refine cw ?_|refine⟨([]:List GA),?_⟩|refine Or.inl (zco bP ?_)|fail))<;>try(conv=>whnf)
   have hrf:pk refs.l n=r:=by unfold pk;rw[hr];rfl
   have asO:pk refs.l 0=r0:=by unfold pk;rw[VO];rfl
   have e4:(lF f refs.l al n (K6 Gs n)).hd=[pI r.s,pI 0,pI 1,pI r0.r,pI r0.s,pI (Hv al g.l),pI f.ls]:=by
    have KX:¬n=0:=aa;unfold lF Rc.hd;rw[E_ hg,hrf,asO];simp only[KX,if_true,if_false]
   have hA:Cc al Gs (n+1)=Cc al Gs n++[(ji al g.l).map At.pv]:=by rw[MK,E_ hg]
   have hE:nL refs.l al Gs (n+1)=nL refs.l al Gs n++JN al r g.l:=by rw[AA,E_ hg,hrf]
   have hH:CY (wa f refs.l al Gs (n+1)) (hs++[.val v])=CY (wa f refs.l al Gs n) hs++[.agg ([pI r.s,pI 0,pI 1,pI r0.r,pI r0.s,pI (Hv al g.l),pI f.ls]++[.val v])]:=by
    rw[MX,e4];exact PL o6 _ _
   exact⟨m-1,aa,n+1,hs++[.val v],l++[(v,(ji al g.l).map At.pv)],⟨aa,by rw[hA];exact hP.push v _,λx hx=>by
    rcases zax.1 hx with hx|hx
    ·exact hv x hx
    ·exact⟨v,zbs.1 hx⟩⟩,by rw[hH,hE];rfl,rfl⟩
def plT(al:Bool)(s:List UInt8)(lr:Rs)(refs:List Rf)(ds:List (List PV))(hs:List PV)(es:List Le)(l:List (Value×List PV)):aw:=
 [.box 130 [.own 1,.own 2,.pv (.str s),.pv (x4 lr),.pv (pB al),.own 3],.row 76 2 true (refs.map Rf.pv),.row 78 8 true (CY ds hs),.row 80 6 true (es.map Le.pv),.pool 71 11 l []]
def S5(ds:List (List PV))(hs:List PV)(l:List (Value×List PV))(gs:List (List PV))(b:Rc):Prop:=
 eK l 11 hs gs/\ds.length=hs.length/\(∀x∈hs,∃v:Value,x=.val v)/\ds[0]?=some b.hd/\gs[0]?=some (b.at_.l.map At.pv)
def zT(g:List At)(b:At):Prop:=b.vl.length<=400/\cz g+fF b<=440
instance (g:List At) (b:At):Decidable (zT g b):=by unfold zT;infer_instance
def J3(xs:List AV)(σ:aw)(K:AV->aw->Prop):Prop:=
 ∃(b:At) (al:Bool) (s:List UInt8) (lr:Rs) (refs:List Rf) (ds:List (List PV)) (hs:List PV) (es:List Le) (l:List (Value×List PV)) (gs:List (List PV)) (r:Rc),
  xs=[.ref 0 0 0,.pv b.pv]/\σ=plT al s lr refs ds hs es l/\S5 ds hs l gs r/\Tm r.at_.l/\b.nm.length<=1000000/\
  ∀p:Bool,(p=true↔zT r.at_.l b)->K (.pv (pB p)) (plT al s lr refs ds hs es l)
def nS{l:List (Value×List PV)}{k:Nat}{p:Value×List PV}(hk:l[k]?=some p):(l.set k (mc,[])).set k p=l:=by
 rw[zcO];refine zbb λi=>?_
 rw[zaR];have L1:=(zaa.1 hk).1;by_cases hi:k=i
 ·subst hi;rw[if_pos rfl,if_pos L1,hk]
 ·rw[if_neg hi]
def KE:ki (ax [(65,ah mb)]) jZ kg j5 (x3 J3):=by
 rintro _ _ K ⟨b,al,s,lr,refs,ds,hs,es,l,gs,r,rfl,rfl,⟨hP,hdl,hv,XA,O8⟩,hB,hbn,hK⟩;obtain⟨x0,vW⟩:∃x,hs[0]?=some x:=⟨_,zak (by have:=(zaa.1 XA).1;omega)⟩
 obtain⟨v0,rfl⟩:=hv x0 (zad vW);obtain⟨k,hk,hsw⟩:=hP.swap vW O8;have fN:=Us XA vW;have Ss:mb [.sl 11 (r.at_.l.map At.pv)] (pI (cz r.at_.l)):=⟨.sl r.at_.l,rfl,hB,rfl⟩
 have R1:mb [.sl 11 [b.pv]] (pI (cz [b])):=⟨.sl [b],rfl,⟨by show 1<=1000;omega,λx hx=>by rw[zbs.1 hx];exact hbn⟩,rfl⟩
 have lZ:cz [b]=fF b:=vu;have vT:=EW r.at_.l;have mN:=Cs b;have Ug:=hB.1;have s9:=Nz hdl;have h0l:=(zaa.1 vW).1;unfold plT;by_cases h4:b.vl.length<=400
 ·(repeat'((conv=>whnf);first|(refine⟨[GA.lend 4 k],?_⟩;(conv=>whnf);refine⟨_,_,hk,?_⟩)|(refine Or.inr (Or.inl (zco bP ?_)))|refine ai aa ?_|refine zco ⟨aa,ri⟩ ?_|refine⟨_,fN,?_⟩|(refine⟨some (4,5),?_⟩;(conv=>whnf);refine zco ⟨zcM ..,fM,fM⟩ ?_)|refine⟨(none:Option (Nat×Nat)),?_⟩|refine⟨_,Ss,?_⟩|refine⟨_,R1,?_⟩|((first|(have _:cz r.at_.l+fF b<=440:=aa)|(have _:440<cz r.at_.l+fF b:=aa));refine⟨[GA.back 5 4 k],?_⟩;(conv=>whnf);refine zco ⟨rfl,rfl,rfl⟩ ?_;refine⟨v0,zcM ..,?_⟩)|refine dJ aa ?_|refine cA (λ_=>?_) (λ_=>?_)|refine cw ?_|refine⟨([]:List GA),?_⟩|fail))<;>try(conv=>whnf)
  ·rename_i h5;have:=hK true (by unfold zT;simp only[true_iff];omega);unfold plT at this;rw[<-nS hk]at this;exact this
  ·rename_i h5;have:=hK false (by unfold zT;simp only[zaG,false_iff];omega);unfold plT at this;rw[<-nS hk]at this;exact this
 ·(repeat'((conv=>whnf);first|refine ar aa ?_|refine⟨(none:Option (Nat×Nat)),?_⟩|refine cw ?_|refine⟨([]:List GA),?_⟩|refine Or.inl (zco bP ?_)|fail))<;>try(conv=>whnf)
  exact hK false (by unfold zT;simp only[zaG,false_iff];omega)
def fi(nx:Int)(S:List UInt8):At:=⟨32,[],nx,0,true,S,0,.nil,0,0,0⟩
def yb(S:List UInt8):Int:=((S.length:Int)+256-1)/256
def eT(nx:Int)(S:List UInt8)(lr:List Rn):At:=⟨32,[],nx,0,false,[],0,.sl lr,yb S*256,S.length,S.length⟩
def mO(r:Rc)(S:List UInt8)(lr:List Rn):At:=if zT r.at_.l (fi r.nx S)then fi r.nx S else eT r.nx S lr
def K9(al:Bool)(r:Rc)(S:List UInt8):Int:=if al=true\/zT r.at_.l (fi r.nx S)then 0 else yb S
def Rc.plus(r:Rc)(a:At):Rc:={ r with nx:=r.nx+1,at_:=.sl (r.at_.l++[a]) }
def gP(S:List UInt8)(g:List At):Int:=if 2048<S.length then 8 else if 440<cz g then 16 else 0
def plB(s:List UInt8)(al:Bool)(b:AV)(refs:List Rf)(ds:List (List PV))(hs:List PV)(es:List Le)(l:List (Value×List PV))(m:List cu):aw:=
 [.box 130 [.own 1,.own 2,.pv (.str s),b,.pv (pB al),.own 3],.row 76 2 true (refs.map Rf.pv),.row 78 8 true (CY ds hs),.row 80 6 true (es.map Le.pv),.pool 71 11 l []]++m
def M4(xs:List AV)(σ:aw)(K:AV->aw->Prop):Prop:=
 ∃(al:Bool) (lr:Rs) (refs:List Rf) (ds:List (List PV)) (hs:List PV) (es:List Le) (l:List (Value×List PV)) (gs:List (List PV)) (r:Rc),
  xs=[.ref 0 0 0,.pv (x4 lr)]/\σ=plT al [] .nil refs ds hs es l/\S5 ds hs l gs r/\(r.at_.l.length<=900/\(∀a∈r.at_.l,a.nm.length<=1000000)/\(0<=r.nx/\r.nx<=1000001))/\abS es/\rnS lr.l/\
  (fI lr.l≠K9 al r (aM es)->K (.pv (pI 2)) (plT al [] .nil refs ds hs es l))/\
  (fI lr.l=K9 al r (aM es)->al=true->K (.pv (pI 0)) (plT al [] .nil refs ds hs es l))/\
  (fI lr.l=K9 al r (aM es)->al=false→∀(q7:List PV) (l':List (Value×List PV)),eK l' 11 q7 (gs.set 0 (((r.plus (mO r (aM es) lr.l)).at_.l).map At.pv))->(∀x∈q7,∃v:Value,x=.val v)->q7.length=hs.length->
    (zT r.at_.l (fi r.nx (aM es))->K (.pv (pI (gP (aM es) (r.plus (mO r (aM es) lr.l)).at_.l))) (plB [] al (.pv (.nil 2)) refs (ds.set 0 (r.plus (mO r (aM es) lr.l)).hd) q7 es l' []))/\
    (¬zT r.at_.l (fi r.nx (aM es))->K (.pv (pI (gP (aM es) (r.plus (mO r (aM es) lr.l)).at_.l))) (plB (aM es) al (.own 5) refs (ds.set 0 (r.plus (mO r (aM es) lr.l)).hd) q7 es l' [.row 123 2 true (lr.l.map Rn.pv)])))
def ox{ds:List (List PV)}{hs:List PV}(d:List PV)(v:PV):(CY ds hs).set 0 (.agg (d++[v]))=CY (ds.set 0 d) (hs.set 0 v):=by
 cases ds with
 |nil=>rfl
 |cons a ds=>cases hs<;>rfl
set_option maxRecDepth 20000 in
def Lh:ki (ax [(123,ah Jh),(144,x3 J3),(145,ah vO),(115,gR true Ib),(65,ah mb),(60,ah db),(74,ah eM)]) kQ kR kD (x3 M4):=by
 rintro _ _ K ⟨al,lr,refs,ds,hs,es,l,gs,r,rfl,rfl,⟨hP,hdl,hv,XA,O8⟩,⟨Ug,O7,hnx⟩,hle,L5,XJ,hK0,XL⟩;obtain⟨x0,vW⟩:∃x,hs[0]?=some x:=⟨_,zak (by have:=(zaa.1 XA).1;omega)⟩
 obtain⟨v0,rfl⟩:=hv x0 (zad vW);obtain⟨k,hk,hsw⟩:=hP.swap vW O8;have fN:=Us XA vW;have hB:Tm r.at_.l:=⟨aa,O7⟩
 have hbi:S5 ds hs l gs r:=⟨hP,hdl,hv,XA,O8⟩
 have aGy:=Nz hdl;have h0l:=(zaa.1 vW).1;have hSb:=Ti (l:=es) hle.2;have Xk:=hle.1;have aDp:=L5.sum lr.l.length (zaj _);have hrl:=L5.1;rw[zcX]at aDp;have hnO:yb (aM es)=((aM es).length+256-1)/256:=rfl;have abd:∀x:PV,((CY ds hs).set 0 x)[0]?=some x:=λx=>by rw[List.getElem?_set_self aa]
 have afU:∀x y:PV,(((CY ds hs).set 0 x).set 0 y)[0]?=some y:=λx y=>by rw[zcO];exact abd y
 have kV:∀(v:Value) (g:List PV),(l.set k (mc,[])++[(v,g)])[l.length]?=some (v,g):=λv g=>by rw[zam (by rw[zaL];omega),zaL,zcP];rfl
 have Xn:∀v:Value,∀x∈hs.set 0 (.val v),∃v:Value,x=.val v:=λv x hx=>by
  rcases zbF hx with h|rfl
  ·exact hv x h
  ·exact⟨v,rfl⟩
 have hAl:(r.at_.l.map At.pv).length=r.at_.l.length:=zan _;unfold plT;cases al with
 |true=>
  have e0:K9 true r (aM es)=0:=if_pos (.inl rfl);rw[e0]at XJ hK0;by_cases Sb:fI lr.l=0
  ·(repeat'((conv=>whnf);first|refine⟨.str (aM es),⟨.sl es,rfl,hle,rfl⟩,?_⟩|refine zco ⟨aa,ri⟩ ?_|refine⟨_,fN,?_⟩|refine⟨_,⟨lr,rfl,L5,rfl⟩,?_⟩|refine dY ?_|refine ar aa ?_|refine cw ?_|refine⟨([]:List GA),?_⟩|fail))<;>try(conv=>whnf)
   exact hK0 Sb rfl
  ·(repeat'((conv=>whnf);first|refine⟨.str (aM es),⟨.sl es,rfl,hle,rfl⟩,?_⟩|refine zco ⟨aa,ri⟩ ?_|refine⟨_,fN,?_⟩|refine⟨_,⟨lr,rfl,L5,rfl⟩,?_⟩|refine dY ?_|refine ai aa ?_|refine cw ?_|refine⟨([]:List GA),?_⟩|fail))<;>try(conv=>whnf)
   exact XJ Sb
 |false=>
  by_cases mW:zT r.at_.l (fi r.nx (aM es))
  ·have e0:K9 false r (aM es)=0:=if_pos (.inr mW);have eL:mO r (aM es) lr.l=fi r.nx (aM es):=if_pos mW;rw[e0]at XJ XL;rw[eL]at XL;have hz:mb [.sl 11 (r.at_.l.map At.pv++[(fi r.nx (aM es)).pv])] (pI (cz (r.at_.l++[fi r.nx (aM es)]))):=⟨.sl (r.at_.l++[fi r.nx (aM es)]),by rw[show nd (.sl (r.at_.l++[fi r.nx (aM es)]))=.sl 11 ((r.at_.l++[fi r.nx (aM es)]).map At.pv)from rfl,zaD];rfl,⟨by show(r.at_.l++[fi r.nx (aM es)]).length<=_;rw[zae,zbK];omega,λx hx=>by
    rcases zax.1 hx with hx|hx
    ·exact O7 x hx
    ·rw[zbs.1 hx];show 0<=_;omega⟩,rfl⟩
   have hzb:=EW (r.at_.l++[fi r.nx (aM es)]);by_cases Sb:fI lr.l=0
   ·(repeat'((conv=>whnf);first|refine⟨.str (aM es),⟨.sl es,rfl,hle,rfl⟩,?_⟩|refine zco ⟨aa,ri⟩ ?_|refine⟨_,fN,?_⟩|(refine⟨fi r.nx (aM es),false,[],.nil,refs,ds,hs,es,l,gs,r,rfl,rfl,hbi,hB,Ef,λp hp=>?_⟩;obtain rfl:p=true:=hp.2 mW)|refine⟨_,⟨lr,rfl,L5,rfl⟩,?_⟩|(refine dJ (n:=r.nx+1) aa ?_;have K4:0=0:=rfl)|(have _:=K4;refine⟨[GA.lend 4 k],?_⟩;(conv=>whnf);refine⟨_,_,hk,?_⟩)|(have _:=K4;refine Or.inr (Or.inl (zco bP ?_)))|refine⟨_,abd _,?_⟩|refine⟨_,afU _ _,?_⟩|(refine⟨some (4,6),?_⟩;(conv=>whnf);refine zco ⟨zcM ..,fM,fM⟩ ?_)|(refine⟨some (4,9),?_⟩;(conv=>whnf);refine zco ⟨zcM ..,fM,fM⟩ ?_)|refine⟨(none:Option (Nat×Nat)),?_⟩|refine zco ⟨DJ,DJ⟩ ?_|(refine⟨[GA.put 8 4,GA.drop 4 6],?_⟩;(conv=>whnf);refine zco ⟨rfl,rfl,rfl⟩ ?_;intro v)|(have _:=v;refine⟨[GA.lend 4 l.length],?_⟩;(conv=>whnf);refine⟨_,_,kV v _,?_⟩)|refine⟨_,hz,?_⟩|(refine cA (p:=((aM es).length:Int)<=2048) (λR7=>?_) (λR7=>?_))|(refine cA (p:=((cz (r.at_.l++[fi r.nx (aM es)]):Nat):Int)<=440) (λLZ=>?_) (λLZ=>?_))|(refine⟨[GA.back 9 4 l.length],?_⟩;(conv=>whnf);refine zco ⟨rfl,rfl,rfl⟩ ?_;refine⟨v,zcM ..,?_⟩)|(refine ko ?_;first|refine dY ?_|refine ar aa ?_|refine cw ?_|refine⟨([]:List GA),?_⟩|refine⟨_,⟨_,_,rfl,rfl⟩,?_⟩|refine⟨_,⟨[_,_],rfl,rfl⟩,?_⟩|fail)))<;>try(conv=>whnf)
    ·have e9:gP (aM es) (r.at_.l++[fi r.nx (aM es)])=0:=by unfold gP;rw[if_neg aa,if_neg aa]
     have hR:=(XL Sb rfl (hs.set 0 (.val v)) (l.set k (mc,[])++[(v,r.at_.l.map At.pv++[(fi r.nx (aM es)).pv])]) C1 (Xn v) ae).1 mW;rw[show(r.plus (fi r.nx (aM es))).at_.l=r.at_.l++[fi r.nx (aM es)]from rfl,e9]at hR;unfold plB at hR;rw[<-ox,<-nS (kV v _)]at hR;rw[<-zcO (a:=PV.agg ((r.plus (fi r.nx (aM es))).hd++[.val v0]))]at hR;exact hR
    ·have e9:gP (aM es) (r.at_.l++[fi r.nx (aM es)])=16:=by unfold gP;rw[if_neg aa,if_pos aa]
     have hR:=(XL Sb rfl (hs.set 0 (.val v)) (l.set k (mc,[])++[(v,r.at_.l.map At.pv++[(fi r.nx (aM es)).pv])]) C1 (Xn v) ae).1 mW;rw[show(r.plus (fi r.nx (aM es))).at_.l=r.at_.l++[fi r.nx (aM es)]from rfl,e9]at hR;unfold plB at hR;rw[<-ox,<-nS (kV v _)]at hR;rw[<-zcO (a:=PV.agg ((r.plus (fi r.nx (aM es))).hd++[.val v0]))]at hR;exact hR
    ·have e9:gP (aM es) (r.at_.l++[fi r.nx (aM es)])=8:=by unfold gP;rw[if_pos aa]
     have hR:=(XL Sb rfl (hs.set 0 (.val v)) (l.set k (mc,[])++[(v,r.at_.l.map At.pv++[(fi r.nx (aM es)).pv])]) C1 (Xn v) ae).1 mW;rw[show(r.plus (fi r.nx (aM es))).at_.l=r.at_.l++[fi r.nx (aM es)]from rfl,e9]at hR;unfold plB at hR;rw[<-ox,<-nS (kV v _)]at hR;rw[<-zcO (a:=PV.agg ((r.plus (fi r.nx (aM es))).hd++[.val v0]))]at hR;exact hR
    ·have e9:gP (aM es) (r.at_.l++[fi r.nx (aM es)])=8:=by unfold gP;rw[if_pos aa]
     have hR:=(XL Sb rfl (hs.set 0 (.val v)) (l.set k (mc,[])++[(v,r.at_.l.map At.pv++[(fi r.nx (aM es)).pv])]) C1 (Xn v) ae).1 mW;rw[show(r.plus (fi r.nx (aM es))).at_.l=r.at_.l++[fi r.nx (aM es)]from rfl,e9]at hR;unfold plB at hR;rw[<-ox,<-nS (kV v _)]at hR;rw[<-zcO (a:=PV.agg ((r.plus (fi r.nx (aM es))).hd++[.val v0]))]at hR;exact hR
   ·(repeat'((conv=>whnf);first|refine⟨.str (aM es),⟨.sl es,rfl,hle,rfl⟩,?_⟩|refine zco ⟨aa,ri⟩ ?_|refine⟨_,fN,?_⟩|(refine⟨fi r.nx (aM es),false,[],.nil,refs,ds,hs,es,l,gs,r,rfl,rfl,hbi,hB,Ef,λp hp=>?_⟩;obtain rfl:p=true:=hp.2 mW)|refine⟨_,⟨lr,rfl,L5,rfl⟩,?_⟩|refine dY ?_|refine ai aa ?_|refine cw ?_|refine⟨([]:List GA),?_⟩|fail))<;>try(conv=>whnf)
    exact XJ Sb
  ·have e0:K9 false r (aM es)=yb (aM es):=if_neg (λh=>h.elim (λh=>cI) mW);have eL:mO r (aM es) lr.l=eT r.nx (aM es) lr.l:=if_neg mW;rw[e0]at XJ XL;rw[eL]at XL;have hz:mb [.sl 11 (r.at_.l.map At.pv++[(eT r.nx (aM es) lr.l).pv])] (pI (cz (r.at_.l++[eT r.nx (aM es) lr.l]))):=⟨.sl (r.at_.l++[eT r.nx (aM es) lr.l]),by rw[show nd (.sl (r.at_.l++[eT r.nx (aM es) lr.l]))=.sl 11 ((r.at_.l++[eT r.nx (aM es) lr.l]).map At.pv)from rfl,zaD];rfl,⟨by show(r.at_.l++[eT r.nx (aM es) lr.l]).length<=_;rw[zae,zbK];omega,λx hx=>by
    rcases zax.1 hx with hx|hx
    ·exact O7 x hx
    ·rw[zbs.1 hx];show 0<=_;omega⟩,rfl⟩
   have hzb:=EW (r.at_.l++[eT r.nx (aM es) lr.l]);by_cases Sb:fI lr.l=yb (aM es)
   ·(repeat'((conv=>whnf);first|refine⟨.str (aM es),⟨.sl es,rfl,hle,rfl⟩,?_⟩|refine zco ⟨aa,ri⟩ ?_|refine⟨_,fN,?_⟩|(refine⟨fi r.nx (aM es),false,[],.nil,refs,ds,hs,es,l,gs,r,rfl,rfl,hbi,hB,Ef,λp hp=>?_⟩;obtain rfl:p=false:=(by cases p;rfl;exact absurd (hp.1 rfl) mW))|refine⟨_,⟨lr,rfl,L5,rfl⟩,?_⟩|refine⟨_,⟨lr,rfl,aa,rfl⟩,?_⟩|(refine dJ (n:=r.nx+1) aa ?_;have K4:0=0:=rfl)|(have _:=K4;refine⟨[GA.lend 4 k],?_⟩;(conv=>whnf);refine⟨_,_,hk,?_⟩)|(have _:=K4;refine Or.inr (Or.inl (zco bP ?_)))|refine⟨_,abd _,?_⟩|refine⟨_,afU _ _,?_⟩|(refine⟨some (4,8),?_⟩;(conv=>whnf);refine zco ⟨zcM ..,fM,fM⟩ ?_)|(refine⟨some (4,11),?_⟩;(conv=>whnf);refine zco ⟨zcM ..,fM,fM⟩ ?_)|refine⟨(none:Option (Nat×Nat)),?_⟩|refine zco ⟨DJ,DJ⟩ ?_|(refine⟨[GA.put 10 4,GA.drop 4 8],?_⟩;(conv=>whnf);refine zco ⟨rfl,rfl,rfl⟩ ?_;intro v)|(have _:=v;refine⟨[GA.lend 4 l.length],?_⟩;(conv=>whnf);refine⟨_,_,kV v _,?_⟩)|refine⟨_,hz,?_⟩|(refine cA (p:=((aM es).length:Int)<=2048) (λR7=>?_) (λR7=>?_))|(refine cA (p:=((cz (r.at_.l++[eT r.nx (aM es) lr.l]):Nat):Int)<=440) (λLZ=>?_) (λLZ=>?_))|(refine⟨[GA.back 11 4 l.length],?_⟩;(conv=>whnf);refine zco ⟨rfl,rfl,rfl⟩ ?_;refine⟨v,zcM ..,?_⟩)|(refine ko ?_;first|refine dJ aa ?_|refine gj ?_|refine ar aa ?_|refine QUO aa ?_|refine cw ?_|refine⟨([]:List GA),?_⟩|refine Or.inl (zco bP ?_)|refine⟨_,⟨_,_,rfl,rfl⟩,?_⟩|refine⟨_,⟨[_,_],rfl,rfl⟩,?_⟩|fail)))<;>try(conv=>whnf)
    ·have e9:gP (aM es) (r.at_.l++[eT r.nx (aM es) lr.l])=0:=by unfold gP;rw[if_neg aa,if_neg aa]
     have hR:=(XL Sb rfl (hs.set 0 (.val v)) (l.set k (mc,[])++[(v,r.at_.l.map At.pv++[(eT r.nx (aM es) lr.l).pv])]) C_ (Xn v) ae).2 mW;rw[show(r.plus (eT r.nx (aM es) lr.l)).at_.l=r.at_.l++[eT r.nx (aM es) lr.l]from rfl,e9]at hR;unfold plB at hR;rw[<-ox,<-nS (kV v _)]at hR;rw[<-zcO (a:=PV.agg ((r.plus (eT r.nx (aM es) lr.l)).hd++[.val v0]))]at hR;exact hR
    ·have e9:gP (aM es) (r.at_.l++[eT r.nx (aM es) lr.l])=16:=by unfold gP;rw[if_neg aa,if_pos aa]
     have hR:=(XL Sb rfl (hs.set 0 (.val v)) (l.set k (mc,[])++[(v,r.at_.l.map At.pv++[(eT r.nx (aM es) lr.l).pv])]) C_ (Xn v) ae).2 mW;rw[show(r.plus (eT r.nx (aM es) lr.l)).at_.l=r.at_.l++[eT r.nx (aM es) lr.l]from rfl,e9]at hR;unfold plB at hR;rw[<-ox,<-nS (kV v _)]at hR;rw[<-zcO (a:=PV.agg ((r.plus (eT r.nx (aM es) lr.l)).hd++[.val v0]))]at hR;exact hR
    ·have e9:gP (aM es) (r.at_.l++[eT r.nx (aM es) lr.l])=8:=by unfold gP;rw[if_pos aa]
     have hR:=(XL Sb rfl (hs.set 0 (.val v)) (l.set k (mc,[])++[(v,r.at_.l.map At.pv++[(eT r.nx (aM es) lr.l).pv])]) C_ (Xn v) ae).2 mW;rw[show(r.plus (eT r.nx (aM es) lr.l)).at_.l=r.at_.l++[eT r.nx (aM es) lr.l]from rfl,e9]at hR;unfold plB at hR;rw[<-ox,<-nS (kV v _)]at hR;rw[<-zcO (a:=PV.agg ((r.plus (eT r.nx (aM es) lr.l)).hd++[.val v0]))]at hR;exact hR
    ·have e9:gP (aM es) (r.at_.l++[eT r.nx (aM es) lr.l])=8:=by unfold gP;rw[if_pos aa]
     have hR:=(XL Sb rfl (hs.set 0 (.val v)) (l.set k (mc,[])++[(v,r.at_.l.map At.pv++[(eT r.nx (aM es) lr.l).pv])]) C_ (Xn v) ae).2 mW;rw[show(r.plus (eT r.nx (aM es) lr.l)).at_.l=r.at_.l++[eT r.nx (aM es) lr.l]from rfl,e9]at hR;unfold plB at hR;rw[<-ox,<-nS (kV v _)]at hR;rw[<-zcO (a:=PV.agg ((r.plus (eT r.nx (aM es) lr.l)).hd++[.val v0]))]at hR;exact hR
   ·(repeat'((conv=>whnf);first|refine⟨.str (aM es),⟨.sl es,rfl,hle,rfl⟩,?_⟩|refine zco ⟨aa,ri⟩ ?_|refine⟨_,fN,?_⟩|(refine⟨fi r.nx (aM es),false,[],.nil,refs,ds,hs,es,l,gs,r,rfl,rfl,hbi,hB,Ef,λp hp=>?_⟩;obtain rfl:p=false:=(by cases p;rfl;exact absurd (hp.1 rfl) mW))|refine⟨_,⟨lr,rfl,L5,rfl⟩,?_⟩|refine dJ aa ?_|refine gj ?_|refine ai aa ?_|refine QUO aa ?_|refine cw ?_|refine⟨([]:List GA),?_⟩|fail))<;>try(conv=>whnf)
    exact XJ Sb
def qJ{a:At}(h:iu a=0):V5 a:=V5.of (mA h).1
structure Fp where
 rf:XE
 rc:Sl Rc
 ls:List UInt8
 rn:Rs
def Fp.pv(p:Fp):PV:=.agg [LU p.rf,p.rc.pv Rc.pv 8,.str p.ls,x4 p.rn]
def fp0:Fp:=⟨.nil,.nil,[],.nil⟩
def QW(l:List Rn):Prop:=∃y∈l,y.s= -1
instance (l:List Rn):Decidable (QW l):=by unfold QW;infer_instance
def bG(f:Wh)(refs:List Rf):Rc:=lF f refs (gO f.at_.l) 0 (K6 (K5 f.at_) 0)
def GC(f:Wh)(refs:List Rf)(lr:List Rn):Int:=
 if fI lr≠K9 (gO f.at_.l) (bG f refs) (aM (fq f refs))then 2 else if gO f.at_.l=true then 0 else
  gP (aM (fq f refs)) ((bG f refs).plus (mO (bG f refs) (aM (fq f refs)) lr)).at_.l
def Hu(f:Wh)(refs:List Rf)(lr:List Rn):Fp:=
 if gO f.at_.l=true then⟨.sl refs,.sl (gE f refs),[],.nil⟩else
  ⟨.sl refs,.sl ((gE f refs).set 0 ((bG f refs).plus (mO (bG f refs) (aM (fq f refs)) lr))),
   if zT (bG f refs).at_.l (fi (bG f refs).nx (aM (fq f refs)))then[]else aM (fq f refs),
   if zT (bG f refs).at_.l (fi (bG f refs).nx (aM (fq f refs)))then .nil else .sl lr⟩
def x5(f:Wh)(refs:List Rf)(lr:List Rn):Int:=
 if (jC f).2≠0 then(jC f).2 else if (nG refs).2≠0 then(nG refs).2 else if (refs.length:Int)≠(jC f).1 then 10 else
  if (dD lr).2≠0 then(dD lr).2 else if QW lr then 3 else GC f refs lr
def spread(f:Wh)(refs:List Rf)(lr:List Rn):Fp×Int:=(if x5 f refs lr=0 then Hu f refs lr else fp0,x5 f refs lr)
def whB(f:Wh):Prop:=Tm f.at_.l∧∀a∈f.at_.l,a.rn.l.length<=1000000
def C8(ps:List PV)(r:RV):Prop:=∃(f:Wh) (refs:XE) (lr:Rs),ps=[f.pv,LU refs,x4 lr]/\(whB f/\refs.l.length<=1000000/\lr.l.length<=1000000)/\r=.tup [.pv (spread f refs.l lr.l).1.pv,.pv (pI (spread f refs.l lr.l).2)]
def Yc{rs:List Rc}{hs:List PV}{l:List (Value×List PV)}(h:eK l 11 hs (rs.map λr=>r.at_.l.map At.pv))(hv:∀x∈hs,∃v:Value,x=.val v)(hsl:∀r∈rs,∃m,r.at_=.sl m):
 u4 l 11 (CY (rs.map Rc.hd) hs) (rs.map Rc.pv):=by
 have hl:=h.len;rw[zan]at hl;have key:=h.axk (ds:=rs.map Rc.hd) u0;have e:CY (rs.map Rc.hd) (List.zipWith (slN 11) (rs.map λr=>r.at_.l.map At.pv) hs)=rs.map Rc.pv:=by
  refine zbb λi=>?_
  unfold CY;rw[zcT,zbC,zbC,zcT,zbC];cases hr:rs[i]? with
  |none=>rfl
  |some r=>
   obtain⟨x,hx⟩:∃x,hs[i]?=some x:=⟨_,zak (by have:=(zaa.1 hr).1;omega)⟩
   rw[hx];obtain⟨v,rfl⟩:=hv x (zad hx);obtain⟨m,hm⟩:=hsl r (zad hr);show some (PV.agg (r.hd++[slN 11 (r.at_.l.map At.pv) (.val v)]))=some r.pv;rw[Rc.awl,hm];rfl
 rw[e]at key;exact key
def yC{f:Wh}(h:(jC f).2=0):(nk f).2=0/\nA f.at_.l<=12/\(jC f).1=nA f.at_.l:=by
 unfold jC at h ⊢;split at h
 ·rename_i g;exact iH
 rename_i g;split at h
 ·cases h
 ·rename_i g2;rw[if_neg g,if_neg g2];exact⟨zba.1 g,aa,rfl⟩
def Mg{l:List Rf}(h:(nG l).2=0):∀x∈l,xT x:=λx hx=>by
 obtain⟨i,hi⟩:=ee.1 hx;have:=nJ h i (aZ hi);unfold PJ at this;rw[hi]at this;simp only at this;split at this
 ·rename_i g;exact absurd this g
 ·rename_i g;have g:=zba.1 g;unfold AW at g;split at g
  ·assumption
  ·cases g
def acv{l:List Rn}(h:(dD l).2=0):rnS l:=by
 unfold dD at h;split at h
 ·cases h
 ·rename_i g;split at h
  ·rename_i g2;exact absurd h g2
  ·rename_i g2;exact SS aa (nJ (zba.1 g2))
def nT{al:Bool}{g:List At}{x:At}(h:x∈ji al g):∃a∈g,∃k:Nat,k<g.length/\x=HL al a k:=by
 unfold ji at h;obtain⟨⟨a,k⟩,h1,rfl⟩:=zaX.1 h;have:=zc8 h1;exact⟨a,by rw[this.2];exact zcI _,k,this.1,rfl⟩
def Yf{al:Bool}{a:At}{k:Nat}(h:iu a=0)(hk:k<1000):0<=(HL al a k).id/\(HL al a k).id<=65535:=by
 have:=(qJ h).idf.1;show 0<=(if al=true then a.id else(k:Int))/\(if al=true then a.id else(k:Int))<=65535;split<;>omega
def WY{refs:List Rf}{al:Bool}{gs:List As}{B:Nat}(h:∀t∈gs,t.l.length<=B):∀n,(nL refs al gs n).length<=B*n:=by
 intro n
 induction n with
 |zero=>simp[nL]
 |succ n ih=>
  rw[AA,zae,ND,zcU];have:(K6 gs n).length<=B:=by
   unfold K6;split
   ·rename_i g hg;exact h g (zad hg)
   ·exact Nat.zero_le _
  omega
def Ns{s:As}{i:Nat}{a:At}(h:a∈K6 (K5 s) i):a∈s.l:=by
 unfold K6 at h;split at h
 ·rename_i g hg;exact(CN (zad hg)).2 a h
 ·cases h
def UU(s:As)(i:Nat):(K6 (K5 s) i).length<=s.l.length:=by
 unfold K6;split
 ·rename_i g hg;exact(CN (zad hg)).1
 ·exact Nat.zero_le _
def alS{f:Wh}{refs:List Rf}(h:(nk f).2=0)(hr:∀x∈refs,xT x)(hN:nA f.at_.l<=12)(hl:nA f.at_.l<=refs.length):abS (fq f refs):=by
 obtain⟨⟨_,h1⟩,_,_,h2,_⟩:=Dz h;unfold fq;refine⟨?_,λx hx=>?_⟩
 ·have:=WY (refs:=refs) (al:=gO f.at_.l) (gs:=K5 f.at_) (B:=32) (λt ht=>by have:=(CN ht).1;omega) (nA f.at_.l);omega
 ·unfold nL at hx;obtain⟨i,hi,hx⟩:=zbx.1 hx;rw[List.mem_range]at hi;unfold JN at hx;obtain⟨a',ha',rfl⟩:=zaX.1 hx;obtain⟨a,ha,k,hk,rfl⟩:=nT ha';have hm:=Ns ha;have hA:=h1 a hm;have ho:=qJ hA;have hid:=Yf (al:=gO f.at_.l) hA (k:=k) (by have:=UU f.at_ i;omega);have hrr:xT (pk refs i):=by
   unfold pk;obtain⟨y,hy⟩:∃y,refs[i]?=some y:=⟨_,zak aa⟩
   rw[hy];exact hr y (zad hy)
  unfold xT at hrr;have hft:0<=a.ft/\a.ft<=4096:=by
   cases Xy:a.rs with
   |true=>have:=(ho.rs Xy).2.1.1;omega
   |false=>exact(ho.ot Xy).2.2.1
  have Nb:=ho.ty;have hnm:=ho.nmL;refine⟨⟨?_,?_⟩,⟨?_,?_⟩,⟨?_,?_⟩,⟨?_,?_⟩,⟨?_,?_⟩,?_⟩
  ·show 0<=a.ty;omega
  ·show a.ty<=_;omega
  ·show 0<=a.ft;omega
  ·show a.ft<=_;omega
  ·show 0<=(pk refs i).r;omega
  ·show(pk refs i).r<=_;omega
  ·show 0<=(pk refs i).s;omega
  ·show(pk refs i).s<=_;omega
  ·exact hid.1
  ·exact Int.le_trans hid.2 af
  ·show a.nm.length<=_;omega
def UM{f:Wh}{refs:List Rf}(hb:whB f)(h:(nk f).2=0)(hl:nA f.at_.l<=refs.length)(hr:refs.length<=1000):ahG f refs:=by
 refine⟨hb.1,λa ha=>?_,hl,hr⟩;have:=(qJ ((Dz h).1.2 a ha)).idf.1;exact⟨hb.2 a ha,aa,aa⟩
def Zk(a b:Rn):[pI a.s,pI a.n]=[pI b.s,pI b.n]↔a=b:=by
 obtain⟨a1,a2⟩:=a;obtain⟨b1,b2⟩:=b;simp[pI]
def afl{α:Type}{l m:List α}(hl:l.length=m.length)(h:∀j,j<l.length->l[j]?=m[j]?):l=m:=by
 refine zbb λi=>?_
 by_cases hi:i<l.length
 ·exact h i hi
 ·rw[zaK aa,zaK aa]
def afn(ps:List PV)(p:Prop):Prop:=∃s t:XE,ps=[LU s,LU t]/\p=(s.l=t.l)
def Wz:ay (ax []) cP cQ cR (eX afn):=by
 rintro _ K ⟨_,⟨s,t,rfl,rfl⟩,hK⟩;by_cases hl:s.l.length=t.l.length
 case neg=>
  (repeat'((conv=>whnf);first|refine jH ?_|refine ai aa ?_|refine gF λ_=>?_|fail))<;>try(conv=>whnf)
  exact⟨.pv (.bool _),rfl,trivial,hK _ Q9⟩
 (repeat'((conv=>whnf);first|refine jH ?_|refine ar aa ?_|refine gF λ_=>?_|fail))<;>try(conv=>whnf)
 refine⟨λm env σ=>∃n:Nat,(n+m=s.l.length∧∀j,j<n->s.l[j]?=t.l[j]?)/\σ=[]/\env=[(0,.pv (LU s)),(1,.pv (LU t)),eN 12 s.l.length,eN 13 n],s.l.length,⟨0,⟨aa,λj hj=>aa⟩,rfl,rfl⟩,?_⟩;rintro m env σ ⟨n,⟨hn,h0⟩,rfl,rfl⟩;by_cases aS:n<s.l.length
 ·obtain⟨x,hx⟩:∃x,s.l[n]?=some x:=⟨_,zak aS⟩
  obtain⟨y,hy⟩:∃x,t.l[n]?=some x:=⟨_,zak aa⟩
  (repeat'((conv=>whnf);first|refine dI hx ?_|refine dI hy ?_|refine dJ aa ?_|refine ai aa ?_|refine cA (λ_=>?_) (λ_=>?_)|refine cw ?_|fail))<;>try(conv=>whnf)
  ·rename_i g;exact Iv
  ·rename_i g;have g:=(oL x y).1 (zba.1 g);subst g;refine⟨m-1,aa,n+1,⟨aa,λj hj=>?_⟩,rfl,rfl⟩;rcases zcp (zcr hj)with h1|h1
   ·exact h0 j h1
   ·subst h1;rw[hx,hy]
 ·(repeat'((conv=>whnf);first|refine ar aa ?_|fail))<;>try(conv=>whnf)
  exact⟨.pv (.bool _),rfl,trivial,hK _ P3⟩
def Yw(ps:List PV)(p:Prop):Prop:=∃s t:Rs,ps=[x4 s,x4 t]/\p=(s.l=t.l)
def V6:ay (ax []) cK cN cS (eX Yw):=by
 rintro _ K ⟨_,⟨s,t,rfl,rfl⟩,hK⟩;by_cases hl:s.l.length=t.l.length
 case neg=>
  (repeat'((conv=>whnf);first|refine jH ?_|refine ai aa ?_|refine gF λ_=>?_|fail))<;>try(conv=>whnf)
  exact⟨.pv (.bool _),rfl,trivial,hK _ Q9⟩
 (repeat'((conv=>whnf);first|refine jH ?_|refine ar aa ?_|refine gF λ_=>?_|fail))<;>try(conv=>whnf)
 refine⟨λm env σ=>∃n:Nat,(n+m=s.l.length∧∀j,j<n->s.l[j]?=t.l[j]?)/\σ=[]/\env=[(0,.pv (x4 s)),(1,.pv (x4 t)),eN 12 s.l.length,eN 13 n],s.l.length,⟨0,⟨aa,λj hj=>aa⟩,rfl,rfl⟩,?_⟩;rintro m env σ ⟨n,⟨hn,h0⟩,rfl,rfl⟩;by_cases aS:n<s.l.length
 ·obtain⟨x,hx⟩:∃x,s.l[n]?=some x:=⟨_,zak aS⟩
  obtain⟨y,hy⟩:∃x,t.l[n]?=some x:=⟨_,zak aa⟩
  (repeat'((conv=>whnf);first|refine dI hx ?_|refine dI hy ?_|refine dJ aa ?_|refine ai aa ?_|refine cA (λ_=>?_) (λ_=>?_)|refine cw ?_|fail))<;>try(conv=>whnf)
  ·rename_i g;exact Iv
  ·rename_i g;have g:=(Zk x y).1 (zba.1 g);subst g;refine⟨m-1,aa,n+1,⟨aa,λj hj=>?_⟩,rfl,rfl⟩;rcases zcp (zcr hj)with h1|h1
   ·exact h0 j h1
   ·subst h1;rw[hx,hy]
 ·(repeat'((conv=>whnf);first|refine ar aa ?_|fail))<;>try(conv=>whnf)
  exact⟨.pv (.bool _),rfl,trivial,hK _ P3⟩
def apC(a b:At):EL a=EL b↔a.key=b.key/\a.id=b.id/\a.fl=b.fl/\a.rs=b.rs/\a.vl=b.vl/\a.rn.l=b.rn.l/\a.al=b.al/\a.sz=b.sz/\a.vd=b.vd:=by
 obtain⟨a1,a2,a3,a4,a5,a6,a7,a8,a9,a10,a11⟩:=a;obtain⟨b1,b2,b3,b4,b5,b6,b7,b8,b9,b10,b11⟩:=b;simp only[EL,At.key,At.mk.injEq,Ky.mk.injEq,Sl.sl.injEq];constructor
 ·rintro⟨h1,h2,h3,h4,h5,h6,h7,h8,h9,M7,Sv⟩;exact⟨⟨h1,h2,h7⟩,h3,h4,h5,h6,h8,h9,M7,Sv⟩
 ·rintro⟨⟨h1,h2,h7⟩,h3,h4,h5,h6,h8,h9,M7,Sv⟩;exact⟨h1,h2,h3,h4,h5,h6,h7,h8,h9,M7,Sv⟩
def Py(ps:List PV)(p:Prop):Prop:=∃a b:At,ps=[a.pv,b.pv]/\p=(EL a=EL b)
set_option maxRecDepth 8000 in
def OL:ay (ax [(113,ah Ad),(159,eX Yw)]) iy iz iw (eX Py):=by
 rintro _ K ⟨_,⟨a,b,rfl,rfl⟩,hK⟩;rw[apC]at hK
 (repeat'((conv=>whnf);first|refine⟨_,⟨a,rfl,rfl⟩,?_⟩|refine⟨_,⟨b,rfl,rfl⟩,?_⟩|refine⟨_,⟨a.rn,b.rn,rfl,rfl⟩,?_⟩|refine cA (λ_=>?_) (λ_=>?_)|refine cw ?_|fail))<;>try(conv=>whnf)
 all_goals exact⟨.pv (.bool _),rfl,trivial,hK _ (by simp only[q6]at*;simp_all)⟩
def ZH(ps:List PV)(p:Prop):Prop:=∃s t:Sl At,ps=[s.pv At.pv 11,t.pv At.pv 11,.clo 195 []]/\p=(s.l.map EL=t.l.map EL)
set_option maxRecDepth 8000 in
def SF:ay (ax [(195,eX Py)]) aG aH aI (eX ZH):=by
 rintro _ K ⟨_,⟨s,t,rfl,rfl⟩,hK⟩;by_cases hl:s.l.length=t.l.length
 case neg=>
  (repeat'((conv=>whnf);first|refine jH ?_|refine ai aa ?_|refine gF λ_=>?_|fail))<;>try(conv=>whnf)
  exact⟨.pv (.bool _),rfl,trivial,hK _ (by simp only[zaG,false_iff];exact λe=>hl (by rw[<-zan (f:=EL),e,zan]))⟩
 (repeat'((conv=>whnf);first|refine jH ?_|refine ar aa ?_|refine gF λ_=>?_|fail))<;>try(conv=>whnf)
 refine⟨λm env σ=>∃n:Nat,(n+m=s.l.length∧∀j,j<n->(s.l.map EL)[j]?=(t.l.map EL)[j]?)/\σ=[]/\env=[(1,.pv (t.pv At.pv 11)),(2,.pv (.clo 195 [])),(15,.pv (s.pv At.pv 11)),eN 16 s.l.length,eN 17 n],s.l.length,⟨0,⟨aa,λj hj=>aa⟩,rfl,rfl⟩,?_⟩;rintro m env σ ⟨n,⟨hn,h0⟩,rfl,rfl⟩;by_cases aS:n<s.l.length
 ·obtain⟨x,hx⟩:∃x,s.l[n]?=some x:=⟨_,zak aS⟩
  obtain⟨y,hy⟩:∃x,t.l[n]?=some x:=⟨_,zak aa⟩
  have hxm:(s.l.map EL)[n]?=some (EL x):=by rw[zbC,hx];rfl
  have hym:(t.l.map EL)[n]?=some (EL y):=by rw[zbC,hy];rfl
  (repeat'((conv=>whnf);first|refine dI hx ?_|refine dI hy ?_|refine⟨_,⟨x,y,rfl,rfl⟩,?_⟩|refine dJ aa ?_|refine dY ?_|refine gj ?_|refine ai aa ?_|refine cA (λ_=>?_) (λ_=>?_)|refine cw ?_|fail))<;>try(conv=>whnf)
  ·rename_i g;refine⟨m-1,aa,n+1,⟨aa,λj hj=>?_⟩,rfl,rfl⟩;rcases zcp (zcr hj)with h1|h1
   ·exact h0 j h1
   ·subst h1;rw[hxm,hym,g]
  ·rename_i g;exact⟨.pv (.bool _),rfl,trivial,hK _ QU⟩
 ·(repeat'((conv=>whnf);first|refine ar aa ?_|fail))<;>try(conv=>whnf)
  exact⟨.pv (.bool _),rfl,trivial,hK _ P6⟩
def RH(ps:List PV)(p:Prop):Prop:=∃s t:As,ps=[nd s,nd t]/\p=(s.l.map EL=t.l.map EL)
def Od:ay (ax [(194,eX ZH)]) jr jo jm (eX RH):=by
 rintro _ K ⟨_,⟨s,t,rfl,rfl⟩,hK⟩
 (repeat'((conv=>whnf);first|refine⟨_,⟨s,t,rfl,rfl⟩,?_⟩|refine cA (λ_=>?_) (λ_=>?_)|fail))<;>try(conv=>whnf)
 all_goals exact mi
def Sn(r:Rc):Rc:={ r with at_:=.sl (r.at_.l.map EL) }
def alC(a b:Rc):Sn a=Sn b↔a.sq=b.sq/\a.lk=b.lk/\a.fl=b.fl/\(a.br=b.br/\a.bs=b.bs)/\a.nx=b.nx/\a.ls=b.ls/\a.at_.l.map EL=b.at_.l.map EL:=by
 obtain⟨a1,a2,a3,a4,a5,a6,a7,a8⟩:=a;obtain⟨b1,b2,b3,b4,b5,b6,b7,b8⟩:=b;simp only[Sn,Rc.mk.injEq,Sl.sl.injEq];constructor
 ·rintro⟨h1,h2,h3,h4,h5,h6,h7,h8⟩;exact⟨h1,h2,h3,⟨h4,h5⟩,h6,h7,h8⟩
 ·rintro⟨h1,h2,h3,⟨h4,h5⟩,h6,h7,h8⟩;exact⟨h1,h2,h3,h4,h5,h6,h7,h8⟩
def QX(ps:List PV)(p:Prop):Prop:=∃a b:Rc,ps=[a.pv,b.pv]/\p=(Sn a=Sn b)
def aBN(a b c d:Int):[pI a,pI b]=[pI c,pI d]↔a=c/\b=d:=by simp[pI]
set_option maxRecDepth 8000 in
def Oh:ay (ax [(162,eX RH)]) kO kC kv (eX QX):=by
 rintro _ K ⟨_,⟨a,b,rfl,rfl⟩,hK⟩;rw[alC]at hK
 (repeat'((conv=>whnf);first|refine⟨_,⟨a.at_,b.at_,rfl,rfl⟩,?_⟩|refine cA (λ_=>?_) (λ_=>?_)|fail))<;>try(conv=>whnf)
 all_goals exact⟨.pv (.bool _),rfl,trivial,hK _ (by first|(simp only[aBN]at*;simp_all;done)|(simp_all;done))⟩
def aax(ps:List PV)(p:Prop):Prop:=∃s t:Sl Rc,ps=[s.pv Rc.pv 8,t.pv Rc.pv 8,.clo 161 []]/\p=(s.l.map Sn=t.l.map Sn)
set_option maxRecDepth 8000 in
def TJ:ay (ax [(161,eX QX)]) aQ aP aN (eX aax):=by
 rintro _ K ⟨_,⟨s,t,rfl,rfl⟩,hK⟩;by_cases hl:s.l.length=t.l.length
 case neg=>
  (repeat'((conv=>whnf);first|refine jH ?_|refine ai aa ?_|refine gF λ_=>?_|fail))<;>try(conv=>whnf)
  exact⟨.pv (.bool _),rfl,trivial,hK _ (by simp only[zaG,false_iff];exact λe=>hl (by rw[<-zan (f:=Sn),e,zan]))⟩
 (repeat'((conv=>whnf);first|refine jH ?_|refine ar aa ?_|refine gF λ_=>?_|fail))<;>try(conv=>whnf)
 refine⟨λm env σ=>∃n:Nat,(n+m=s.l.length∧∀j,j<n->(s.l.map Sn)[j]?=(t.l.map Sn)[j]?)/\σ=[]/\env=[(1,.pv (t.pv Rc.pv 8)),(2,.pv (.clo 161 [])),(15,.pv (s.pv Rc.pv 8)),eN 16 s.l.length,eN 17 n],s.l.length,⟨0,⟨aa,λj hj=>aa⟩,rfl,rfl⟩,?_⟩;rintro m env σ ⟨n,⟨hn,h0⟩,rfl,rfl⟩;by_cases aS:n<s.l.length
 ·obtain⟨x,hx⟩:∃x,s.l[n]?=some x:=⟨_,zak aS⟩
  obtain⟨y,hy⟩:∃x,t.l[n]?=some x:=⟨_,zak aa⟩
  have hxm:(s.l.map Sn)[n]?=some (Sn x):=by rw[zbC,hx];rfl
  have hym:(t.l.map Sn)[n]?=some (Sn y):=by rw[zbC,hy];rfl
  (repeat'((conv=>whnf);first|refine dI hx ?_|refine dI hy ?_|refine⟨_,⟨x,y,rfl,rfl⟩,?_⟩|refine dJ aa ?_|refine dY ?_|refine gj ?_|refine ai aa ?_|refine cA (λ_=>?_) (λ_=>?_)|refine cw ?_|fail))<;>try(conv=>whnf)
  ·rename_i g;refine⟨m-1,aa,n+1,⟨aa,λj hj=>?_⟩,rfl,rfl⟩;rcases zcp (zcr hj)with h1|h1
   ·exact h0 j h1
   ·subst h1;rw[hxm,hym,g]
  ·rename_i g;exact⟨.pv (.bool _),rfl,trivial,hK _ QU⟩
 ·(repeat'((conv=>whnf);first|refine ar aa ?_|fail))<;>try(conv=>whnf)
  exact⟨.pv (.bool _),rfl,trivial,hK _ P6⟩
def zK(p q:Fp):Prop:=p.rf.l=q.rf.l/\p.ls=q.ls/\p.rn.l=q.rn.l/\p.rc.l.map Sn=q.rc.l.map Sn
def UB(ps:List PV)(p:Prop):Prop:=∃a b:Fp,ps=[a.pv,b.pv]/\p=zK a b
set_option maxRecDepth 8000 in
def Rk:ay (ax [(158,eX afn),(159,eX Yw),(160,eX aax)]) ns nf nh (eX UB):=by
 rintro _ K ⟨_,⟨a,b,rfl,rfl⟩,hK⟩;unfold zK at hK
 (repeat'((conv=>whnf);first|refine⟨_,⟨a.rf,b.rf,rfl,rfl⟩,?_⟩|refine⟨_,⟨a.rn,b.rn,rfl,rfl⟩,?_⟩|refine⟨_,⟨a.rc,b.rc,rfl,rfl⟩,?_⟩|refine cA (λ_=>?_) (λ_=>?_)|fail))<;>try(conv=>whnf)
 all_goals exact mF
def qM(l:List At):List At:=(l.filter λa=>!decide (a.ty=32)).map EL
def Wl{l:List At}{n:Nat}{a:At}(h:l[n]?=some a):qM (l.take (n+1))=qM (l.take n)++if a.ty=32 then[]else[EL a]:=by
 unfold qM;rw[zct,h,zcW,List.filter_append,zaD];congr 1;by_cases h:a.ty=32<;>simp[h]
def jf(rs:List Rc):List At:=rs.flatMap λr=>qM r.at_.l
def Wp{rs:List Rc}{n:Nat}{r:Rc}(h:rs[n]?=some r):jf (rs.take (n+1))=jf (rs.take n)++qM r.at_.l:=by
 unfold jf;rw[zct,h,zcW,zaz];simp
def Ba(l:List At):List At:=l.zipIdx.map λp=>{ p.1 with id:=p.2 }
def Ei(l:List At):(Ba l).length=l.length:=by simp[Ba]
def AJ(l:List At)(n:Nat):List At:=Ba (l.take n)++l.drop n
def V8{l:List At}{n:Nat}{a:At}(h:l[n]?=some a):Ba (l.take (n+1))=Ba (l.take n)++[{ a with id:=(n:Int) }]:=by
 have hn:=aZ h;unfold Ba;rw[zct,h,zcW,zc4,zaD,zal,show min n l.length=n by omega];simp
def V2(l:List At):AJ l 0=l:=by simp[AJ,Ba]
def Zp{l:List At}{n:Nat}(h:l.length<=n):AJ l n=Ba l:=by unfold AJ;rw[za1 h,zc2 h,zaY]
def ZA{l:List At}{n:Nat}(h:n<=l.length):(AJ l n).length=l.length:=by unfold AJ;rw[zae,Ei,zal,zbf];omega
def ZZ{l:List At}{n:Nat}{a:At}(h:l[n]?=some a):(AJ l n)[n]?=some a:=by
 have hn:=aZ h;have e:(Ba (l.take n)).length=n:=by rw[Ei,zal];omega
 unfold AJ;rw[zam aa,e,zcP,List.getElem?_drop,Nat.add_zero];exact h
def Ye{l:List At}{n:Nat}{a:At}(h:l[n]?=some a):(AJ l n).set n { a with id:=(n:Int) }=AJ l (n+1):=by
 have hn:=aZ h;have e:(Ba (l.take n)).length=n:=by rw[Ei,zal];omega
 unfold AJ;rw[List.set_append_right _ _ aa,e,zcP,V8 h,zah];congr 1;rw[zcn hn];rfl
def Tp(r:Rc):Prop:=∃a∈r.at_.l,a.ty=32
instance (r:Rc):Decidable (Tp r):=by unfold Tp;infer_instance
def rc0(rs:List Rc):Rc:=match rs with|[]=>⟨0,0,0,0,0,0,0,.nil⟩|r::_=>r
def kI(rs:List Rc):Wh:=⟨(rc0 rs).fl,(rc0 rs).lk,(rc0 rs).ls,.sl (if Tp (rc0 rs)then Ba (stS (jf rs))else jf rs)⟩
def aBw(rs:List Rc):Prop:=rs.length<=100∧∀r∈rs,r.at_.l.length<=1000∧∀a∈r.at_.l,a.rn.l.length<=1000000
def J8(l:List At):(qM l).length<=l.length:=by unfold qM;rw[zan];exact List.length_filter_le _ _
def aau{rs:List Rc}(h:∀r∈rs,r.at_.l.length<=1000):(jf rs).length<=1000*rs.length:=by
 induction rs with
 |nil=>simp[jf]
 |cons r rs ih=>
  have e:jf (r::rs)=qM r.at_.l++jf rs:=rfl;have h1:=ih λr hr=>h r (zcS _ hr)
  have h2:=J8 r.at_.l;have h3:=h r (zcM ..);rw[e,zae,zap];omega
def sT.refl{l:List (Value×List PV)}{s:Nat}:∀cs:List PV,sT l s cs cs
 |[]=>trivial
 |_::cs=>⟨.inl rfl,sT.refl cs⟩
def u4.refl{l:List (Value×List PV)}{s:Nat}:∀xs:List PV,u4 l s xs xs
 |[]=>trivial
 |_::xs=>⟨sT.refl _,u4.refl xs⟩
def E8(ps:List PV)(r:RV):Prop:=∃p:Fp,ps=[p.pv]/\(aBw p.rc.l/\0<p.rc.l.length)/\r=.pv (kI p.rc.l).pv
set_option maxRecDepth 20000 in
def JD:Fc 71 11 (ax [(155,eX uN),(116,gR false JB),(63,eX tc),(156,x3 Rj)]) ow oJ oH (gR false E8):=by
 refine⟨af,?_⟩;rintro _ K ⟨_,⟨p,rfl,⟨⟨Ug,O7⟩,h0⟩,rfl⟩,hK⟩;obtain⟨b,hb⟩:∃b,p.rc.l[0]?=some b:=⟨_,zak h0⟩
 (repeat'((conv=>whnf);first|refine dI hb ?_|(refine⟨[GA.nrow 4 3 71],?_⟩;(conv=>whnf);refine zco af ?_)|refine jH ?_|refine gF λ_=>?_|refine cw ?_|refine⟨([]:List GA),?_⟩|fail))<;>try(conv=>whnf)
 have Xl:rc0 p.rc.l=b:=by
  cases h:p.rc.l with
  |nil=>rw[h]at h0;simp at h0
  |cons x l=>rw[h]at hb;cases hb;rfl
 refine⟨λm env σ=>∃n:Nat,n+m=p.rc.l.length/\σ=[.box 24 [.pv (pI 0),.pv (pI 0),.pv (pI 0),.pv (.nil 11)],.box 78 [.pv (pI b.sq),.pv (pI b.lk),.pv (pI b.fl),.pv (pI b.br),.pv (pI b.bs),.pv (pI b.nx),.pv (pI b.ls),.pv (nd b.at_)],.box 24 [.pv (pI b.fl),.pv (pI b.lk),.pv (pI b.ls),.own 3],.row 71 11 true ((jf (p.rc.l.take n)).map At.pv),.pool 71 11 [] []]/\env=[(2,.ref 0 0 0),(3,.ref 1 0 0),(4,.ref 2 0 0),(22,.pv (p.rc.pv Rc.pv 8)),eN 23 p.rc.l.length,eN 24 n],p.rc.l.length,⟨0,aa,rfl,rfl⟩,?_⟩;rintro m env σ ⟨n,hn,rfl,rfl⟩;have hgl:(jf (p.rc.l.take n)).length<=1000*n:=by
  have:=aau (rs:=p.rc.l.take n) λr hr=>(O7 r (za4 hr)).1
  rw[zal]at this;exact Nat.le_trans this (zc3 _ (Nat.min_le_left _ _))
 by_cases aS:n<p.rc.l.length
 case pos=>
  obtain⟨r,hr⟩:∃r,p.rc.l[n]?=some r:=⟨_,zak aS⟩
  have hrB:=O7 r (zad hr);have hcc:(nd r.at_).cells=[nd r.at_]:=Sl.cells
  (repeat'((conv=>whnf);first|refine ai aa ?_|refine dI hr ?_|refine jH ?_|refine gF λ_=>?_|refine cw ?_|refine⟨([]:List GA),?_⟩|fail))<;>try(conv=>whnf)
  refine⟨λm' env σ=>∃k:Nat,k+m'=r.at_.l.length/\σ=[.box 24 [.pv (pI 0),.pv (pI 0),.pv (pI 0),.pv (.nil 11)],.box 78 [.pv (pI b.sq),.pv (pI b.lk),.pv (pI b.fl),.pv (pI b.br),.pv (pI b.bs),.pv (pI b.nx),.pv (pI b.ls),.pv (nd b.at_)],.box 24 [.pv (pI b.fl),.pv (pI b.lk),.pv (pI b.ls),.own 3],.row 71 11 true ((jf (p.rc.l.take n)++qM (r.at_.l.take k)).map At.pv),.pool 71 11 [] []]/\env=[(2,.ref 0 0 0),(3,.ref 1 0 0),(4,.ref 2 0 0),(22,.pv (p.rc.pv Rc.pv 8)),eN 23 p.rc.l.length,eN 24 n,(29,.pv (nd r.at_)),eN 30 r.at_.l.length,eN 31 k],r.at_.l.length,⟨0,aa,by rw[List.take_zero,show qM []=[]from rfl,zaY],rfl⟩,?_⟩;rintro m' env σ ⟨k,hk,rfl,rfl⟩;have hAl:((jf (p.rc.l.take n)++qM (r.at_.l.take k)).map At.pv).length<=1001000:=by
   rw[zan,zae];have h1:=J8 (r.at_.l.take k);rw[zal]at h1;omega
  by_cases L1:k<r.at_.l.length
  ·obtain⟨a,ha⟩:∃a,r.at_.l[k]?=some a:=⟨_,zak L1⟩
   have haR:=hrB.2 a (zad ha);have e1:=Wl ha;by_cases h32:a.ty=32
   ·rw[if_pos h32,zaY]at e1
    (repeat'((conv=>whnf);first|refine ai aa ?_|refine dI ha ?_|refine⟨_,⟨a,rfl,rfl⟩,?_⟩|refine dJ aa ?_|refine dY ?_|refine cw ?_|refine⟨([]:List GA),?_⟩|fail))<;>try(conv=>whnf)
    exact⟨m'-1,aa,k+1,aa,by rw[e1],rfl⟩
   ·rw[if_neg h32]at e1
    (repeat'((conv=>whnf);first|refine ai aa ?_|refine dI ha ?_|refine⟨_,⟨a,rfl,rfl⟩,?_⟩|refine ar h32 ?_|refine⟨_,⟨a,a.id,rfl,haR,rfl⟩,?_⟩|refine⟨(none:Option (Nat×Nat)),?_⟩|refine zco ⟨gM,gM⟩ ?_|refine dJ aa ?_|refine gj ?_|refine cw ?_|refine⟨([]:List GA),?_⟩|refine Or.inl (zco bP ?_)|fail))<;>try(conv=>whnf)
    have E:(jf (p.rc.l.take n)++qM (r.at_.l.take (k+1))).map At.pv=(jf (p.rc.l.take n)++qM (r.at_.l.take k)).map At.pv++[(EL a).pv]:=by rw[e1,<-zah,zaD];rfl
    exact⟨m'-1,aa,k+1,aa,by rw[E];rfl,rfl⟩
  ·have kV:r.at_.l.take k=r.at_.l:=za1 aa;rw[kV]
   (repeat'((conv=>whnf);first|refine ar aa ?_|refine dJ aa ?_|refine⟨([]:List GA),?_⟩|fail))<;>try(conv=>whnf)
   exact⟨m-1,aa,n+1,aa,by rw[Wp hr],rfl⟩
 have R0:p.rc.l.take n=p.rc.l:=za1 aa;rw[R0]at hgl ⊢;have hbB:=O7 b (zad hb);unfold kI at hK;rw[Xl]at hK;have hcc:(nd b.at_).cells=[nd b.at_]:=Sl.cells;by_cases hL:Tp b
 case neg=>
  rw[if_neg hL]at hK
  (repeat'((conv=>whnf);first|refine ar aa ?_|refine⟨_,⟨b.at_,_,_,rfl,⟨aa,.isL⟩,rfl⟩,?_⟩|refine ar (λ⟨a,h1,h2⟩=>hL ⟨a,h1,of_decide_eq_true h2⟩) ?_|refine gj ?_|refine cw ?_|refine⟨([]:List GA),?_⟩|fail))<;>try(conv=>whnf)
  exact⟨.pv (Wh.pv ⟨b.fl,b.lk,b.ls,.sl (jf p.rc.l)⟩),rfl,trivial,hK⟩
 rw[if_pos hL]at hK
 (repeat'((conv=>whnf);first|refine ar aa ?_|(refine⟨_,⟨b.at_,_,_,rfl,⟨aa,.isL⟩,rfl⟩,?_⟩;have K4:0=0:=rfl)|refine ai (by obtain⟨a,h1,h2⟩:=hL;exact⟨a,h1,decide_eq_true h2⟩) ?_|(have _:=K4;refine⟨[GA.solve 3 4 ((jf p.rc.l).map At.pv)],?_⟩;(conv=>whnf);refine zco (u4.refl _) ?_)|refine⟨true,jf p.rc.l,rfl,rfl,aa,?_⟩|refine dY ?_|refine gF λ_=>?_|refine⟨([]:List GA),?_⟩|fail))<;>try(conv=>whnf)
 generalize hS:stS (jf p.rc.l)=S at*;refine⟨λm' env σ=>∃k:Nat,k+m'=S.length/\σ=[.box 24 [.pv (pI 0),.pv (pI 0),.pv (pI 0),.pv (.nil 11)],.box 24 [.pv (pI b.fl),.pv (pI b.lk),.pv (pI b.ls),.own 2],.row 71 11 true ((AJ S k).map At.pv)]/\env=[(2,.ref 0 0 0),(4,.ref 1 0 0),eN 59 S.length,eN 60 k],S.length,⟨0,aa,by rw[V2],rfl⟩,?_⟩;rintro m' env σ ⟨k,hk,rfl,rfl⟩;by_cases L1:k<S.length
 ·obtain⟨a,ha⟩:∃a,S[k]?=some a:=⟨_,zak L1⟩
  have hg:((AJ S k).map At.pv)[k]?=some a.pv:=by rw[zbC,ZZ ha];rfl
  have hl:((AJ S k).map At.pv).length=S.length:=by rw[zan,ZA aa]
  have Hm:((AJ S k).map At.pv).set k ({ a with id:=(k:Int) }:At).pv=(AJ S (k+1)).map At.pv:=by rw[<-zcV,Ye ha]
  (repeat'((conv=>whnf);first|refine ai aa ?_|refine zco ⟨aa,by(show k<_;omega)⟩ ?_|refine⟨_,hg,?_⟩|refine dJ aa ?_|refine cw ?_|fail))<;>try(conv=>whnf)
  exact⟨m'-1,aa,k+1,aa,by rw[<-Hm];rfl,rfl⟩
 ·rw[Zp aa]
  (repeat'((conv=>whnf);first|refine ar aa ?_|refine cw ?_|fail))<;>try(conv=>whnf)
  exact⟨.pv (Wh.pv ⟨b.fl,b.lk,b.ls,.sl (Ba S)⟩),rfl,trivial,hK⟩
set_option maxRecDepth 20000 in
def OJ:Fc 71 11 (ax [(14,gR true yz),(70,gR true Uo),(76,eX Gl),(78,gR true U1),(74,ah eM),(79,x3 Fk),(80,x3 M4)]) sB rK se (gR false C8):=by
 refine⟨af,?_⟩;rintro _ K ⟨_,⟨f,refs,lr,rfl,⟨hB,hr,L5⟩,rfl⟩,hK⟩;unfold spread at hK;have KZ:yz [f.pv] _:=⟨f,rfl,hB.1,rfl⟩
 cases refs with
 |nil=>
 ·have hr:(Sl.nil).l.length<=1000000:=hr;have hK:K (.tup [.pv (if x5 f (Sl.nil).l lr.l=0 then Hu f (Sl.nil).l lr.l else fp0).pv,.pv (pI (x5 f (Sl.nil).l lr.l))]):=hK;by_cases h1:(jC f).2=0
  case neg=>
   have e:x5 f (Sl.nil).l lr.l=(jC f).2:=by unfold x5;rw[if_pos h1]
   rw[e,if_neg h1]at hK
   (repeat'((conv=>whnf);first|refine⟨_,KZ,?_⟩|refine ai h1 ?_|refine cw ?_|refine⟨([]:List GA),?_⟩|fail))<;>try(conv=>whnf)
   exact l9
  by_cases h2:(nG (Sl.nil).l).2=0
  case neg=>
   have e:x5 f (Sl.nil).l lr.l=(nG (Sl.nil).l).2:=by unfold x5;rw[if_neg (λh=>h h1),if_pos h2]
   rw[e,if_neg h2]at hK
   (repeat'((conv=>whnf);first|refine⟨_,KZ,?_⟩|refine ar (λh=>h h1) ?_|refine⟨_,⟨Sl.nil,rfl,hr,rfl⟩,?_⟩|refine ai h2 ?_|refine cw ?_|refine⟨([]:List GA),?_⟩|fail))<;>try(conv=>whnf)
   exact l9
  obtain⟨hc,hN,hN1⟩:=yC h1;have hNb:=FU f.at_.l;by_cases h3:(((Sl.nil:XE).l).length:Int)=(jC f).1
  case neg=>
   have e:x5 f (Sl.nil).l lr.l=10:=Pw;rw[e,if_neg af]at hK
   (repeat'((conv=>whnf);first|refine⟨_,KZ,?_⟩|refine ar (λh=>h h1) ?_|refine⟨_,⟨Sl.nil,rfl,hr,rfl⟩,?_⟩|refine ar (λh=>h h2) ?_|refine ai h3 ?_|refine gF λ_=>?_|refine cw ?_|refine⟨([]:List GA),?_⟩|fail))<;>try(conv=>whnf)
   exact l9
  have h3:(0:Int)=_:=h3;omega
 |sl rl=>
 ·have hr:rl.length<=1000000:=hr;have hK:K (.tup [.pv (if x5 f rl lr.l=0 then Hu f rl lr.l else fp0).pv,.pv (pI (x5 f rl lr.l))]):=hK;by_cases h1:(jC f).2=0
  case neg=>
   have e:x5 f rl lr.l=(jC f).2:=by unfold x5;rw[if_pos h1]
   rw[e,if_neg h1]at hK
   (repeat'((conv=>whnf);first|refine⟨_,KZ,?_⟩|refine ai h1 ?_|refine cw ?_|refine⟨([]:List GA),?_⟩|fail))<;>try(conv=>whnf)
   exact l9
  by_cases h2:(nG rl).2=0
  case neg=>
   have e:x5 f rl lr.l=(nG rl).2:=by unfold x5;rw[if_neg (λh=>h h1),if_pos h2]
   rw[e,if_neg h2]at hK
   (repeat'((conv=>whnf);first|refine⟨_,KZ,?_⟩|refine ar (λh=>h h1) ?_|refine⟨_,⟨Sl.sl rl,rfl,hr,rfl⟩,?_⟩|refine ai h2 ?_|refine cw ?_|refine⟨([]:List GA),?_⟩|fail))<;>try(conv=>whnf)
   exact l9
  obtain⟨hc,hN,hN1⟩:=yC h1;have hNb:=FU f.at_.l;by_cases h3:((rl).length:Int)=(jC f).1
  case neg=>
   have e:x5 f rl lr.l=10:=Pw;rw[e,if_neg af]at hK
   (repeat'((conv=>whnf);first|refine⟨_,KZ,?_⟩|refine ar (λh=>h h1) ?_|refine⟨_,⟨Sl.sl rl,rfl,hr,rfl⟩,?_⟩|refine ar (λh=>h h2) ?_|(show _<=_->_;intro _)|refine ai mj ?_|refine cw ?_|refine⟨([]:List GA),?_⟩|fail))<;>try(conv=>whnf)
   exact l9
  by_cases h4:(dD lr.l).2=0
  case neg=>
   have e:x5 f rl lr.l=(dD lr.l).2:=by unfold x5;rw[if_neg (λh=>h h1),if_neg (λh=>h h2),if_neg (λh=>h h3),if_pos h4]
   rw[e,if_neg h4]at hK;have hf:bF [(dD lr.l).2,3]=(dD lr.l).2:=if_neg h4;rw[<-hf]at hK
   (repeat'((conv=>whnf);first|refine⟨_,KZ,?_⟩|refine ar (λh=>h h1) ?_|refine⟨_,⟨Sl.sl rl,rfl,hr,rfl⟩,?_⟩|refine ar (λh=>h h2) ?_|(show _<=_->_;intro _)|refine ar (λh=>h mj) ?_|refine⟨_,⟨lr,rfl,L5,rfl⟩,?_⟩|refine⟨_,⟨lr,rfl,rfl⟩,?_⟩|refine ai h4 ?_|(refine ko ?_;first|refine cA (λ_=>?_) (λ_=>?_)|refine cw ?_|refine⟨([]:List GA),?_⟩|refine⟨_,⟨[_,_],rfl,rfl⟩,?_⟩|fail)))<;>try(conv=>whnf)
   all_goals exact l9
  by_cases h5:QW lr.l
  case pos=>
   have e:x5 f rl lr.l=3:=by unfold x5;rw[if_neg (λh=>h h1),if_neg (λh=>h h2),if_neg (λh=>h h3),if_neg (λh=>h h4),if_pos h5]
   have hf:bF [(dD lr.l).2,3]=3:=if_pos h4;rw[e,if_neg af,<-hf]at hK
   (repeat'((conv=>whnf);first|refine⟨_,KZ,?_⟩|refine ar (λh=>h h1) ?_|refine⟨_,⟨Sl.sl rl,rfl,hr,rfl⟩,?_⟩|refine ar (λh=>h h2) ?_|(show _<=_->_;intro _)|refine ar (λh=>h mj) ?_|refine⟨_,⟨lr,rfl,L5,rfl⟩,?_⟩|refine⟨_,⟨lr,rfl,rfl⟩,?_⟩|refine ar (λh=>h h4) ?_|refine ai (p:=∃y∈lr.l,y.s= -1) h5 ?_|(refine ko ?_;first|refine cw ?_|refine⟨([]:List GA),?_⟩|refine⟨_,⟨[_,_],rfl,rfl⟩,?_⟩|fail)))<;>try(conv=>whnf)
   exact l9
  have e:x5 f rl lr.l=GC f rl lr.l:=by unfold x5;rw[if_neg (λh=>h h1),if_neg (λh=>h h2),if_neg (λh=>h h3),if_neg (λh=>h h4),if_neg h5]
  rw[e]at hK;have hlen:nA f.at_.l<=rl.length:=aa;have hle:=alS hc (Mg h2) hN hlen;have HR:=UM hB hc hlen aa;have Xr:=acv h4;obtain⟨⟨_,aGD⟩,_,_,h32,_⟩:=Dz hc;have hgl:=UU f.at_ 0;have Hj:(bG f rl).at_.l.length<=900:=by show(ji _ _).length<=900;rw[Ax];omega
  have hbn:∀a∈(bG f rl).at_.l,a.nm.length<=1000000:=λa ha=>by
   obtain⟨b,hb,k,_,rfl⟩:=nT ha;exact hB.1.2 b (Ns hb)
  have St:0<=(bG f rl).nx/\(bG f rl).nx<=1000001:=YY _ _ (λa ha=>(HR.2.1 a (Ns ha)).2) aa;have XA:(wa f rl (gO f.at_.l) (K5 f.at_) (nA f.at_.l))[0]?=some (bG f rl).hd:=by
   unfold wa;rw[zbC,zbM aa];rfl
  have O8:(Cc (gO f.at_.l) (K5 f.at_) (nA f.at_.l))[0]?=some ((bG f rl).at_.l.map At.pv):=by
   unfold Cc;rw[zbC,zbM aa];rfl
  by_cases h6:fI lr.l=K9 (gO f.at_.l) (bG f rl) (aM (fq f rl))
  case neg=>
   rw[show GC f rl lr.l=2 from by unfold GC;exact if_pos h6,if_neg af]at hK
   (repeat'((conv=>whnf);first|refine⟨_,KZ,?_⟩|refine ar (λh=>h h1) ?_|refine⟨_,⟨Sl.sl rl,rfl,hr,rfl⟩,?_⟩|refine ar (λh=>h h2) ?_|(show _<=_->_;intro _)|refine ar (λh=>h mj) ?_|refine⟨_,⟨lr,rfl,L5,rfl⟩,?_⟩|refine⟨_,⟨lr,rfl,rfl⟩,?_⟩|refine ar (λh=>h h4) ?_|refine ar (p:=∃y∈lr.l,y.s= -1) h5 ?_|refine⟨f,.sl rl,rfl,HR,rfl,λl hs hP hv=>?_⟩|refine⟨gO f.at_.l,lr,rl,_,hs,fq f rl,l,_,bG f rl,rfl,rfl,⟨hP,o6,hv,XA,O8⟩,⟨Hj,hbn,St⟩,hle,Xr,λ_=>?_,λh=>absurd h h6,λh=>absurd h h6⟩|refine ai aa ?_|refine cw ?_|refine⟨([]:List GA),?_⟩|fail))<;>try(conv=>whnf)
   exact l9
  have eL:GC f rl lr.l=if gO f.at_.l=true then 0 else gP (aM (fq f rl)) ((bG f rl).plus (mO (bG f rl) (aM (fq f rl)) lr.l)).at_.l:=by unfold GC;exact if_neg (λh=>h h6)
  rw[eL]at hK;have hsl:∀r∈gE f rl,∃m,r.at_=.sl m:=λr hr=>by
   obtain⟨i,_,rfl⟩:=zaX.1 hr;exact⟨_,rfl⟩
  have eH:wa f rl (gO f.at_.l) (K5 f.at_) (nA f.at_.l)=(gE f rl).map Rc.hd:=by unfold wa gE;rw[zcR];rfl
  have eA:Cc (gO f.at_.l) (K5 f.at_) (nA f.at_.l)=(gE f rl).map λr=>r.at_.l.map At.pv:=by unfold Cc gE;rw[zcR];rfl
  by_cases s9:gO f.at_.l=true
  ·rw[if_pos s9,if_pos rfl]at hK;have Xm:Hu f rl lr.l=⟨.sl rl,.sl (gE f rl),[],.nil⟩:=if_pos s9;rw[Xm]at hK
   (repeat'((conv=>whnf);first|refine⟨_,KZ,?_⟩|refine ar (λh=>h h1) ?_|refine⟨_,⟨Sl.sl rl,rfl,hr,rfl⟩,?_⟩|refine ar (λh=>h h2) ?_|(show _<=_->_;intro _)|refine ar (λh=>h mj) ?_|refine⟨_,⟨lr,rfl,L5,rfl⟩,?_⟩|refine⟨_,⟨lr,rfl,rfl⟩,?_⟩|refine ar (λh=>h h4) ?_|refine ar (p:=∃y∈lr.l,y.s= -1) h5 ?_|refine⟨f,.sl rl,rfl,HR,rfl,λl hs hP hv=>?_⟩|refine⟨gO f.at_.l,lr,rl,_,hs,fq f rl,l,_,bG f rl,rfl,rfl,⟨hP,o6,hv,XA,O8⟩,⟨Hj,hbn,St⟩,hle,Xr,λh=>absurd h6 h,λSs _=>?_,λ_ h=>absurd (h.symm.trans s9) af⟩|(have _:=Ss;refine⟨[GA.solve 6 0 ((gE f rl).map Rc.pv)],?_⟩;(conv=>whnf);refine zco (by rw[show(Sl.sl rl).l=rl from rfl,eH];exact Yc (by rw[<-eA];exact hP) hv hsl) ?_)|refine ar aa ?_|refine cw ?_|refine⟨([]:List GA),?_⟩|fail))<;>try(conv=>whnf)
   exact⟨[.pv (Fp.pv ⟨.sl rl,.sl (gE f rl),[],.nil⟩),.pv _],⟨rfl,rfl,trivial⟩,trivial,hK⟩
  have abe:gO f.at_.l=false:=by cases h:gO f.at_.l with|true=>exact absurd h s9|false=>rfl
  rw[if_neg s9]at hK;have aB1:∀r∈(gE f rl).set 0 ((bG f rl).plus (mO (bG f rl) (aM (fq f rl)) lr.l)),∃m,r.at_=.sl m:=λr hr=>by
   rcases zbF hr with h|rfl
   ·exact hsl r h
   ·exact⟨_,rfl⟩
  generalize x6:(bG f rl).plus (mO (bG f rl) (aM (fq f rl)) lr.l)=b' at*;have eH2:((gE f rl).map Rc.hd).set 0 b'.hd=((gE f rl).set 0 b').map Rc.hd:=by rw[zcV]
  have eA2:((gE f rl).map λr=>r.at_.l.map At.pv).set 0 (b'.at_.l.map At.pv)=((gE f rl).set 0 b').map λr=>r.at_.l.map At.pv:=by rw[zcV]
  by_cases h7:gP (aM (fq f rl)) b'.at_.l=0
  ·rw[h7,if_pos rfl]at hK;by_cases mW:zT (bG f rl).at_.l (fi (bG f rl).nx (aM (fq f rl)))
   ·have Xm:Hu f rl lr.l=⟨.sl rl,.sl ((gE f rl).set 0 b'),[],.nil⟩:=by unfold Hu;rw[if_neg s9,x6,if_pos mW,if_pos mW]
    rw[Xm]at hK
    (repeat'((conv=>whnf);first|refine⟨_,KZ,?_⟩|refine ar (λh=>h h1) ?_|refine⟨_,⟨Sl.sl rl,rfl,hr,rfl⟩,?_⟩|refine ar (λh=>h h2) ?_|(show _<=_->_;intro _)|refine ar (λh=>h mj) ?_|refine⟨_,⟨lr,rfl,L5,rfl⟩,?_⟩|refine⟨_,⟨lr,rfl,rfl⟩,?_⟩|refine ar (λh=>h h4) ?_|refine ar (p:=∃y∈lr.l,y.s= -1) h5 ?_|refine⟨f,.sl rl,rfl,HR,rfl,λl hs hP hv=>?_⟩|refine⟨gO f.at_.l,lr,rl,_,hs,fq f rl,l,_,bG f rl,rfl,rfl,⟨hP,o6,hv,XA,O8⟩,⟨Hj,hbn,St⟩,hle,Xr,λh=>absurd h6 h,λ_ h=>absurd h s9,λ_ _ LX l2 hP2 xX Sc=>⟨λ_=>?_,λh=>absurd mW h⟩⟩|refine ar (p:=gP (aM (fq f rl)) ((bG f rl).plus (mO (bG f rl) (aM (fq f rl)) lr.l)).at_.l≠0) (by rw[x6];exact λh=>h h7) ?_|(refine⟨[GA.solve 6 0 (((gE f rl).set 0 b').map Rc.pv)],?_⟩;(conv=>whnf);refine zco P7 ?_)|refine cw ?_|refine⟨([]:List GA),?_⟩|fail))<;>try(conv=>whnf)
    exact⟨[.pv (Fp.pv ⟨.sl rl,.sl ((gE f rl).set 0 b'),[],.nil⟩),.pv _],⟨rfl,rfl,trivial⟩,trivial,hK⟩
   ·have Xm:Hu f rl lr.l=⟨.sl rl,.sl ((gE f rl).set 0 b'),aM (fq f rl),.sl lr.l⟩:=by unfold Hu;rw[if_neg s9,x6,if_neg mW,if_neg mW]
    rw[Xm]at hK
    (repeat'((conv=>whnf);first|refine⟨_,KZ,?_⟩|refine ar (λh=>h h1) ?_|refine⟨_,⟨Sl.sl rl,rfl,hr,rfl⟩,?_⟩|refine ar (λh=>h h2) ?_|(show _<=_->_;intro _)|refine ar (λh=>h mj) ?_|refine⟨_,⟨lr,rfl,L5,rfl⟩,?_⟩|refine⟨_,⟨lr,rfl,rfl⟩,?_⟩|refine ar (λh=>h h4) ?_|refine ar (p:=∃y∈lr.l,y.s= -1) h5 ?_|refine⟨f,.sl rl,rfl,HR,rfl,λl hs hP hv=>?_⟩|refine⟨gO f.at_.l,lr,rl,_,hs,fq f rl,l,_,bG f rl,rfl,rfl,⟨hP,o6,hv,XA,O8⟩,⟨Hj,hbn,St⟩,hle,Xr,λh=>absurd h6 h,λ_ h=>absurd h s9,λ_ _ LX l2 hP2 xX Sc=>⟨λh=>absurd h mW,λ_=>?_⟩⟩|refine ar (p:=gP (aM (fq f rl)) ((bG f rl).plus (mO (bG f rl) (aM (fq f rl)) lr.l)).at_.l≠0) (by rw[x6];exact λh=>h h7) ?_|(refine⟨[GA.solve 6 0 (((gE f rl).set 0 b').map Rc.pv)],?_⟩;(conv=>whnf);refine zco P7 ?_)|refine cw ?_|refine⟨([]:List GA),?_⟩|fail))<;>try(conv=>whnf)
    exact⟨[.pv (Fp.pv ⟨.sl rl,.sl ((gE f rl).set 0 b'),aM (fq f rl),.sl lr.l⟩),.pv _],⟨rfl,rfl,trivial⟩,trivial,hK⟩
  ·rw[if_neg h7]at hK;by_cases mW:zT (bG f rl).at_.l (fi (bG f rl).nx (aM (fq f rl)))
   ·(repeat'((conv=>whnf);first|refine⟨_,KZ,?_⟩|refine ar (λh=>h h1) ?_|refine⟨_,⟨Sl.sl rl,rfl,hr,rfl⟩,?_⟩|refine ar (λh=>h h2) ?_|(show _<=_->_;intro _)|refine ar (λh=>h mj) ?_|refine⟨_,⟨lr,rfl,L5,rfl⟩,?_⟩|refine⟨_,⟨lr,rfl,rfl⟩,?_⟩|refine ar (λh=>h h4) ?_|refine ar (p:=∃y∈lr.l,y.s= -1) h5 ?_|refine⟨f,.sl rl,rfl,HR,rfl,λl hs hP hv=>?_⟩|refine⟨gO f.at_.l,lr,rl,_,hs,fq f rl,l,_,bG f rl,rfl,rfl,⟨hP,o6,hv,XA,O8⟩,⟨Hj,hbn,St⟩,hle,Xr,λh=>absurd h6 h,λ_ h=>absurd h s9,λ_ _ LX l2 hP2 xX Sc=>⟨λ_=>?_,λh=>absurd mW h⟩⟩|refine ai (p:=gP (aM (fq f rl)) ((bG f rl).plus (mO (bG f rl) (aM (fq f rl)) lr.l)).at_.l≠0) (by rw[x6];exact h7) ?_|refine cw ?_|refine⟨([]:List GA),?_⟩|fail))<;>try(conv=>whnf)
    exact⟨[.pv fp0.pv,.pv _],⟨rfl,rfl,trivial⟩,trivial,(by rw[<-x6]at hK;exact hK)⟩
   ·(repeat'((conv=>whnf);first|refine⟨_,KZ,?_⟩|refine ar (λh=>h h1) ?_|refine⟨_,⟨Sl.sl rl,rfl,hr,rfl⟩,?_⟩|refine ar (λh=>h h2) ?_|(show _<=_->_;intro _)|refine ar (λh=>h mj) ?_|refine⟨_,⟨lr,rfl,L5,rfl⟩,?_⟩|refine⟨_,⟨lr,rfl,rfl⟩,?_⟩|refine ar (λh=>h h4) ?_|refine ar (p:=∃y∈lr.l,y.s= -1) h5 ?_|refine⟨f,.sl rl,rfl,HR,rfl,λl hs hP hv=>?_⟩|refine⟨gO f.at_.l,lr,rl,_,hs,fq f rl,l,_,bG f rl,rfl,rfl,⟨hP,o6,hv,XA,O8⟩,⟨Hj,hbn,St⟩,hle,Xr,λh=>absurd h6 h,λ_ h=>absurd h s9,λ_ _ LX l2 hP2 xX Sc=>⟨λh=>absurd h mW,λ_=>?_⟩⟩|refine ai (p:=gP (aM (fq f rl)) ((bG f rl).plus (mO (bG f rl) (aM (fq f rl)) lr.l)).at_.l≠0) (by rw[x6];exact h7) ?_|refine cw ?_|refine⟨([]:List GA),?_⟩|fail))<;>try(conv=>whnf)
    exact⟨[.pv fp0.pv,.pv _],⟨rfl,rfl,trivial⟩,trivial,(by rw[<-x6]at hK;exact hK)⟩
def FQ(r:Rc):Prop:=(1<=r.sq/\r.sq<=65535)/\(0<=r.lk/\r.lk<=65535)/\(0<=r.fl/\r.fl<=3)/\(0<=r.nx/\r.nx<=65535)/\(0<=r.ls/\r.ls<=2147483647)
instance (r:Rc):Decidable (FQ r):=by unfold FQ;infer_instance
def fo(r:Rc):Rf:=⟨r.br,r.bs⟩
def Cl(r:Rc):Prop:=r.fl=0/\r.at_.l.length=0/\r.lk=0/\fo r=⟨0,0⟩/\r.nx=0
instance (r:Rc):Decidable (Cl r):=by unfold Cl;infer_instance
def jk(r:Rc):Int:=Hx (λa:At=>decide (r.nx<=a.id)=true) r.at_.l
def ef(r:Rc):Int×Int:=
 if ¬FQ r then(0,2)else if sK (fo r)≠0 then(0,sK (fo r))else if ¬(r.fl%2=1\/Cl r)then(0,3)else
  if (cG r.at_.l).2≠0 then cG r.at_.l else if 0<=jk r then(jk r,9)else(0,if cz r.at_.l<=440 then 0 else 16)
def aaF(ps:List PV)(p:Prop):Prop:=∃r:Rc,ps=[r.pv]/\p=(hY .and .i64 r.fl 1≠0)
def OU:ay (ax []) xj xt xn (eX aaF):=by
 rintro _ K ⟨_,⟨r,rfl,rfl⟩,hK⟩
 (repeat'((conv=>whnf);first|refine cA (λ_=>?_) (λ_=>?_)|refine aBz ?_|fail))<;>try(conv=>whnf)
 all_goals exact mi
def Qj(ps:List PV)(x:RV):Prop:=∃r:Rc,ps=[r.pv]/\Tm r.at_.l/\x=.tup [.pv (pI (ef r).1),.pv (pI (ef r).2)]
def aad{n:Int}(h:0<=n/\n<=3):hY .and .i64 n 1≠0↔n%2=1:=by
 have:n=0\/n=1\/n=2\/n=3:=aa;rcases this with rfl|rfl|rfl|rfl<;>decide
def QY{r:Rc}(h:[pI r.br,pI r.bs]=[PV.int .i64 0,PV.int .i64 0]):fo r=⟨0,0⟩:=(oL (fo r) ⟨0,0⟩).1 h
set_option maxRecDepth 20000 in
def CW:ay (ax [(148,eX ed),(150,ah db),(151,ah Vs),(152,eX aaF),(149,ah eM),(55,gR true IV),(56,ah uI),(154,ah mb)]) oM n6 n5 (gR true Qj):=by
 rintro _ K ⟨_,⟨r,rfl,hB,rfl⟩,hK⟩;have hcc:(nd r.at_).cells=[nd r.at_]:=Sl.cells;have hBl:=hB.1;by_cases hn:FQ r
 case neg=>
  have e:ef r=(0,2):=if_pos hn;rw[e]at hK
  (repeat'((conv=>whnf);first|(exfalso;exact hn ⟨bL,bL,bL,bL,bL⟩)|refine⟨_,⟨fo r,rfl,rfl⟩,?_⟩|refine⟨_,⟨r,rfl,rfl⟩,?_⟩|refine jH ?_|(refine ai (by intro h;simp[bF]at h;done) ?_)|(refine ko ?_;first|refine ar aa ?_|refine cA (λ_=>?_) (λ_=>?_)|refine gF λ_=>?_|refine cw ?_|refine⟨_,⟨_,_,rfl,rfl⟩,?_⟩|refine⟨_,⟨_,_,_,rfl,rfl⟩,?_⟩|refine⟨_,⟨[_,_,_],rfl,rfl⟩,?_⟩|fail)))<;>try(conv=>whnf)
  all_goals exact aO
 have Pk:=aad hn.2.2.1;by_cases hb:sK (fo r)=0
 case neg=>
  have e:ef r=(0,sK (fo r)):=by unfold ef;rw[if_neg (λh=>h hn),if_pos hb]
  have e2:∀x,bF [if true=true then 0 else 2,sK (fo r),x]=sK (fo r):=λx=>by simp[bF,hb]
  rw[e]at hK
  (repeat'((conv=>whnf);first|refine⟨_,⟨fo r,rfl,rfl⟩,?_⟩|refine⟨_,⟨r,rfl,rfl⟩,?_⟩|refine jH ?_|refine ai hn.1 ?_|refine ai hn.2.1 ?_|refine ai hn.2.2.1 ?_|refine ai hn.2.2.2.1 ?_|refine ai hn.2.2.2.2 ?_|(refine ai (by rw[e2];exact hb) ?_)|(refine ko ?_;first|refine ar aa ?_|refine cA (λ_=>?_) (λ_=>?_)|refine gF λ_=>?_|refine cw ?_|refine⟨_,⟨_,_,rfl,rfl⟩,?_⟩|refine⟨_,⟨_,_,_,rfl,rfl⟩,?_⟩|refine⟨_,⟨[_,_,_],rfl,rfl⟩,?_⟩|fail)))<;>try(conv=>whnf)
  all_goals exact⟨[.pv _,.pv _],⟨rfl,rfl,trivial⟩,⟨trivial,trivial,trivial⟩,(by first|rw[e2 (if true=true then 0 else 3)];exact hK|rw[e2 (if false=true then 0 else 3)];exact hK)⟩
 by_cases hf:r.fl%2=1\/Cl r
 case neg=>
  have e:ef r=(0,3):=by unfold ef;rw[if_neg (λh=>h hn),if_neg (λh=>h hb),if_pos hf]
  have e2:bF [if true=true then 0 else 2,sK (fo r),if false=true then 0 else 3]=3:=by simp[bF,hb]
  rw[e]at hK;have hu:¬hY .and .i64 r.fl 1≠0:=λh=>hf (.inl (Pk.1 h))
  have hv:¬Cl r:=λh=>hf (.inr h)
  (repeat'((conv=>whnf);first|(exfalso;exact hv ⟨bL,aa,bL,(by rename_i g _;exact QY g),bL⟩)|refine⟨_,⟨fo r,rfl,rfl⟩,?_⟩|refine⟨_,⟨r,rfl,rfl⟩,?_⟩|refine jH ?_|refine ai hn.1 ?_|refine ai hn.2.1 ?_|refine ai hn.2.2.1 ?_|refine ai hn.2.2.2.1 ?_|refine ai hn.2.2.2.2 ?_|refine ar hu ?_|(refine ai (by rw[e2];decide) ?_)|(refine ko ?_;first|refine cA (λ_=>?_) (λ_=>?_)|refine gF λ_=>?_|refine cw ?_|refine⟨_,⟨_,_,rfl,rfl⟩,?_⟩|refine⟨_,⟨_,_,_,rfl,rfl⟩,?_⟩|refine⟨_,⟨[_,_,_],rfl,rfl⟩,?_⟩|fail)))<;>try(conv=>whnf)
  all_goals exact⟨[.pv _,.pv _],⟨rfl,rfl,trivial⟩,⟨trivial,trivial,trivial⟩,by rw[e2];exact hK⟩
 have e2:bF [if true=true then 0 else 2,sK (fo r),if true=true then 0 else 3]=0:=by simp[bF,hb]
 have eF:ef r=if (cG r.at_.l).2≠0 then cG r.at_.l else if 0<=jk r then(jk r,9)else(0,if cz r.at_.l<=440 then 0 else 16):=by
  unfold ef;rw[if_neg (λh=>h hn),if_neg (λh=>h hb),if_neg (λh=>h hf)]
 by_cases hu:hY .and .i64 r.fl 1≠0
 case pos=>
  by_cases ho:(cG r.at_.l).2=0
  case neg=>
   have e:ef r=cG r.at_.l:=by rw[eF,if_pos ho]
   rw[e]at hK
   (repeat'((conv=>whnf);first|refine⟨_,⟨fo r,rfl,rfl⟩,?_⟩|refine⟨_,⟨r,rfl,rfl⟩,?_⟩|refine ai hn.1 ?_|refine ai hn.2.1 ?_|refine ai hn.2.2.1 ?_|refine ai hn.2.2.2.1 ?_|refine ai hn.2.2.2.2 ?_|refine ai hu ?_|(refine ar nX ?_)|refine⟨_,⟨r.at_,rfl,hB,rfl⟩,?_⟩|refine ai (p:=(cG r.at_.l).2≠0) ho ?_|(refine ko ?_;first|refine ar aa ?_|refine cw ?_|refine⟨_,⟨_,_,rfl,rfl⟩,?_⟩|refine⟨_,⟨_,_,_,rfl,rfl⟩,?_⟩|refine⟨_,⟨[_,_,_],rfl,rfl⟩,?_⟩|fail)))<;>try(conv=>whnf)
   all_goals exact aO
  by_cases hx:0<=jk r
  case pos=>
   have e:ef r=(jk r,9):=by rw[eF,if_neg (λh=>h ho),if_pos hx]
   rw[e]at hK
   (repeat'((conv=>whnf);first|refine⟨_,⟨fo r,rfl,rfl⟩,?_⟩|refine⟨_,⟨r,rfl,rfl⟩,?_⟩|refine ai hn.1 ?_|refine ai hn.2.1 ?_|refine ai hn.2.2.1 ?_|refine ai hn.2.2.2.1 ?_|refine ai hn.2.2.2.2 ?_|refine ai hu ?_|(refine ar nX ?_)|refine⟨_,⟨r.at_,rfl,hB,rfl⟩,?_⟩|refine⟨_,⟨r.at_,_,_,rfl,⟨aa,.next r⟩,rfl⟩,?_⟩|refine ar (p:=(cG r.at_.l).2≠0) (λh=>h ho) ?_|refine ai (p:=0<=jk r) hx ?_|(refine ko ?_;first|refine ar aa ?_|refine cw ?_|refine⟨_,⟨_,_,rfl,rfl⟩,?_⟩|refine⟨_,⟨_,_,_,rfl,rfl⟩,?_⟩|refine⟨_,⟨[_,_,_],rfl,rfl⟩,?_⟩|fail)))<;>try(conv=>whnf)
   all_goals exact aO
  have e:ef r=(0,if cz r.at_.l<=440 then 0 else 16):=by rw[eF,if_neg (λh=>h ho),if_neg hx]
  rw[e]at hK;by_cases hz:cz r.at_.l<=440
  ·rw[if_pos hz]at hK
   (repeat'((conv=>whnf);first|refine⟨_,⟨fo r,rfl,rfl⟩,?_⟩|refine⟨_,⟨r,rfl,rfl⟩,?_⟩|refine ai hn.1 ?_|refine ai hn.2.1 ?_|refine ai hn.2.2.1 ?_|refine ai hn.2.2.2.1 ?_|refine ai hn.2.2.2.2 ?_|refine ai hu ?_|(refine ar nX ?_)|refine⟨_,⟨r.at_,rfl,hB,rfl⟩,?_⟩|refine⟨_,⟨r.at_,_,_,rfl,⟨aa,.next r⟩,rfl⟩,?_⟩|refine ar (p:=(cG r.at_.l).2≠0) (λh=>h ho) ?_|refine ar (p:=0<=jk r) hx ?_|refine ai (p:=((cz r.at_.l:Nat):Int)<=440) aa ?_|(refine ko ?_;first|refine ar aa ?_|refine cw ?_|refine⟨_,⟨_,_,rfl,rfl⟩,?_⟩|refine⟨_,⟨_,_,_,rfl,rfl⟩,?_⟩|refine⟨_,⟨[_,_,_],rfl,rfl⟩,?_⟩|fail)))<;>try(conv=>whnf)
   all_goals exact aO
  ·rw[if_neg hz]at hK
   (repeat'((conv=>whnf);first|refine⟨_,⟨fo r,rfl,rfl⟩,?_⟩|refine⟨_,⟨r,rfl,rfl⟩,?_⟩|refine ai hn.1 ?_|refine ai hn.2.1 ?_|refine ai hn.2.2.1 ?_|refine ai hn.2.2.2.1 ?_|refine ai hn.2.2.2.2 ?_|refine ai hu ?_|(refine ar nX ?_)|refine⟨_,⟨r.at_,rfl,hB,rfl⟩,?_⟩|refine⟨_,⟨r.at_,_,_,rfl,⟨aa,.next r⟩,rfl⟩,?_⟩|refine ar (p:=(cG r.at_.l).2≠0) (λh=>h ho) ?_|refine ar (p:=0<=jk r) hx ?_|refine ar (p:=((cz r.at_.l:Nat):Int)<=440) aa ?_|(refine ko ?_;first|refine ar aa ?_|refine cw ?_|refine⟨_,⟨_,_,rfl,rfl⟩,?_⟩|refine⟨_,⟨_,_,_,rfl,rfl⟩,?_⟩|refine⟨_,⟨[_,_,_],rfl,rfl⟩,?_⟩|fail)))<;>try(conv=>whnf)
   all_goals exact aO
 have hv:Cl r:=hf.resolve_left λh=>hu (Pk.2 h)
 have hvc:[pI r.br,pI r.bs]=[PV.int .i64 0,PV.int .i64 0]:=(oL (fo r) ⟨0,0⟩).2 hv.2.2.2.1;by_cases ho:(cG r.at_.l).2=0
 case neg=>
  have e:ef r=cG r.at_.l:=by rw[eF,if_pos ho]
  rw[e]at hK
  (repeat'((conv=>whnf);first|refine⟨_,⟨fo r,rfl,rfl⟩,?_⟩|refine⟨_,⟨r,rfl,rfl⟩,?_⟩|refine jH ?_|refine ai hn.1 ?_|refine ai hn.2.1 ?_|refine ai hn.2.2.1 ?_|refine ai hn.2.2.2.1 ?_|refine ai hn.2.2.2.2 ?_|refine ar hu ?_|refine ai hv.1 ?_|refine ai (p:=((r.at_.l.length:Nat):Int)=0) DI ?_|refine ai hv.2.2.1 ?_|refine ai hvc ?_|refine ai hv.2.2.2.2 ?_|(refine ar nX ?_)|refine⟨_,⟨r.at_,rfl,hB,rfl⟩,?_⟩|refine ai (p:=(cG r.at_.l).2≠0) ho ?_|(refine ko ?_;first|refine gF λ_=>?_|refine cw ?_|refine⟨_,⟨_,_,rfl,rfl⟩,?_⟩|refine⟨_,⟨_,_,_,rfl,rfl⟩,?_⟩|refine⟨_,⟨[_,_,_],rfl,rfl⟩,?_⟩|fail)))<;>try(conv=>whnf)
  all_goals exact aO
 by_cases hx:0<=jk r
 case pos=>
  have e:ef r=(jk r,9):=by rw[eF,if_neg (λh=>h ho),if_pos hx]
  rw[e]at hK
  (repeat'((conv=>whnf);first|refine⟨_,⟨fo r,rfl,rfl⟩,?_⟩|refine⟨_,⟨r,rfl,rfl⟩,?_⟩|refine jH ?_|refine ai hn.1 ?_|refine ai hn.2.1 ?_|refine ai hn.2.2.1 ?_|refine ai hn.2.2.2.1 ?_|refine ai hn.2.2.2.2 ?_|refine ar hu ?_|refine ai hv.1 ?_|refine ai (p:=((r.at_.l.length:Nat):Int)=0) DI ?_|refine ai hv.2.2.1 ?_|refine ai hvc ?_|refine ai hv.2.2.2.2 ?_|(refine ar nX ?_)|refine⟨_,⟨r.at_,rfl,hB,rfl⟩,?_⟩|refine⟨_,⟨r.at_,_,_,rfl,⟨aa,.next r⟩,rfl⟩,?_⟩|refine ar (p:=(cG r.at_.l).2≠0) (λh=>h ho) ?_|refine ai (p:=0<=jk r) hx ?_|(refine ko ?_;first|refine gF λ_=>?_|refine cw ?_|refine⟨_,⟨_,_,rfl,rfl⟩,?_⟩|refine⟨_,⟨_,_,_,rfl,rfl⟩,?_⟩|refine⟨_,⟨[_,_,_],rfl,rfl⟩,?_⟩|fail)))<;>try(conv=>whnf)
  all_goals exact aO
 have e:ef r=(0,if cz r.at_.l<=440 then 0 else 16):=by rw[eF,if_neg (λh=>h ho),if_neg hx]
 rw[e]at hK;by_cases hz:cz r.at_.l<=440
 ·rw[if_pos hz]at hK
  (repeat'((conv=>whnf);first|refine⟨_,⟨fo r,rfl,rfl⟩,?_⟩|refine⟨_,⟨r,rfl,rfl⟩,?_⟩|refine jH ?_|refine ai hn.1 ?_|refine ai hn.2.1 ?_|refine ai hn.2.2.1 ?_|refine ai hn.2.2.2.1 ?_|refine ai hn.2.2.2.2 ?_|refine ar hu ?_|refine ai hv.1 ?_|refine ai (p:=((r.at_.l.length:Nat):Int)=0) DI ?_|refine ai hv.2.2.1 ?_|refine ai hvc ?_|refine ai hv.2.2.2.2 ?_|(refine ar nX ?_)|refine⟨_,⟨r.at_,rfl,hB,rfl⟩,?_⟩|refine⟨_,⟨r.at_,_,_,rfl,⟨aa,.next r⟩,rfl⟩,?_⟩|refine ar (p:=(cG r.at_.l).2≠0) (λh=>h ho) ?_|refine ar (p:=0<=jk r) hx ?_|refine ai (p:=((cz r.at_.l:Nat):Int)<=440) aa ?_|(refine ko ?_;first|refine gF λ_=>?_|refine cw ?_|refine⟨_,⟨_,_,rfl,rfl⟩,?_⟩|refine⟨_,⟨_,_,_,rfl,rfl⟩,?_⟩|refine⟨_,⟨[_,_,_],rfl,rfl⟩,?_⟩|fail)))<;>try(conv=>whnf)
  all_goals exact aO
 ·rw[if_neg hz]at hK
  (repeat'((conv=>whnf);first|refine⟨_,⟨fo r,rfl,rfl⟩,?_⟩|refine⟨_,⟨r,rfl,rfl⟩,?_⟩|refine jH ?_|refine ai hn.1 ?_|refine ai hn.2.1 ?_|refine ai hn.2.2.1 ?_|refine ai hn.2.2.2.1 ?_|refine ai hn.2.2.2.2 ?_|refine ar hu ?_|refine ai hv.1 ?_|refine ai (p:=((r.at_.l.length:Nat):Int)=0) DI ?_|refine ai hv.2.2.1 ?_|refine ai hvc ?_|refine ai hv.2.2.2.2 ?_|(refine ar nX ?_)|refine⟨_,⟨r.at_,rfl,hB,rfl⟩,?_⟩|refine⟨_,⟨r.at_,_,_,rfl,⟨aa,.next r⟩,rfl⟩,?_⟩|refine ar (p:=(cG r.at_.l).2≠0) (λh=>h ho) ?_|refine ar (p:=0<=jk r) hx ?_|refine ar (p:=((cz r.at_.l:Nat):Int)<=440) aa ?_|(refine ko ?_;first|refine gF λ_=>?_|refine cw ?_|refine⟨_,⟨_,_,rfl,rfl⟩,?_⟩|refine⟨_,⟨_,_,_,rfl,rfl⟩,?_⟩|refine⟨_,⟨[_,_,_],rfl,rfl⟩,?_⟩|fail)))<;>try(conv=>whnf)
  all_goals exact aO
def fpB(p:Fp):Prop:=p.rc.l.length<=100/\(∀r∈p.rc.l,Tm r.at_.l∧∀a∈r.at_.l,a.rn.l.length<=1000000)/\p.rf.l.length<=1000000/\p.rn.l.length<=1000000
def qi(p:Fp)(i:Nat):Int:=match p.rf.l[i]?,p.rc.l[i]? with
 |some x,some r=>if AW x≠0 then AW x else(ef r).2
 |_,_=>0
def ZI{p:Fp}{i:Nat}{x:Rf}{r:Rc}(h1:p.rf.l[i]?=some x)(h2:p.rc.l[i]?=some r):qi p i=bF [AW x,(ef r).2]:=by
 unfold qi;rw[h1,h2];simp only[bF];by_cases h:AW x=0
 ·rw[if_neg (λg=>g h),if_pos h];split
  ·rename_i g;exact g
  ·rfl
 ·rw[if_pos h,if_neg h]
def Vx(ps:List PV)(v:PV):Prop:=∃(p:Fp) (i:Nat) (x:Rf) (r:Rc),ps=[pI i,r.pv,.cptr p.pv]/\(p.rf.l[i]?=some x/\p.rc.l[i]?=some r/\Tm r.at_.l)/\v=pI (qi p i)
def A8:ay (ax [(91,gR true Qj),(75,ah Gn),(74,ah eM)]) jS kh ke (ah Vx):=by
 rintro _ K ⟨_,⟨p,i,x,r,rfl,⟨h1,h2,h3⟩,rfl⟩,hK⟩;rw[ZI h1 h2]at hK;have hi:=aZ h1
 (repeat'((conv=>whnf);first|refine⟨_,⟨r,rfl,h3,rfl⟩,?_⟩|refine dI h1 ?_|refine⟨_,⟨x,rfl,rfl⟩,?_⟩|(refine ko ?_;first|refine cw ?_|refine⟨_,⟨[_,_],rfl,rfl⟩,?_⟩|fail)))<;>try(conv=>whnf)
 exact aB
def Vt(ps:List PV)(r:RV):Prop:=∃p:Fp,ps=[p.rc.pv Rc.pv 8,.clo 90 [.cptr p.pv]]/\(p.rf.l.length=p.rc.l.length/\p.rc.l.length<=1000000∧∀r∈p.rc.l,Tm r.at_.l)/\
 r=.tup [.pv (pI (dc (qi p) 0 p.rc.l.length).1),.pv (pI (dc (qi p) 0 p.rc.l.length).2)]
def Q4:ay (ax [(90,ah Vx)]) fh ff fg (gR true Vt):=by
 rintro _ K ⟨_,⟨p,rfl,⟨hl,hs,hB⟩,rfl⟩,hK⟩
 (repeat'((conv=>whnf);first|refine jH ?_|refine gF λ_=>?_|fail))<;>try(conv=>whnf)
 refine⟨λm env σ=>∃n:Nat,(n+m=p.rc.l.length∧∀k,k<n->qi p k=0)/\σ=[]/\env=[(1,.pv (.clo 90 [.cptr p.pv])),(9,.pv (p.rc.pv Rc.pv 8)),eN 10 p.rc.l.length,eN 11 n],p.rc.l.length,⟨0,⟨aa,λk hk=>aa⟩,rfl,rfl⟩,?_⟩;rintro m env σ ⟨n,⟨hn,h0⟩,rfl,rfl⟩;by_cases aS:n<p.rc.l.length
 ·obtain⟨a,ha⟩:∃a,p.rc.l[n]?=some a:=⟨_,zak aS⟩
  obtain⟨x,hx⟩:∃a,p.rf.l[n]?=some a:=⟨_,zak aa⟩
  (repeat'((conv=>whnf);first|refine dI ha ?_|refine⟨_,⟨p,n,x,a,rfl,⟨hx,ha,hB a (zad ha)⟩,rfl⟩,?_⟩|refine dJ aa ?_|refine ai aa ?_|refine cA (λ_=>?_) (λ_=>?_)|refine cw ?_|fail))<;>try(conv=>whnf)
  ·rename_i h;rw[nI h0 aS h]at hK;exact aO
  ·rename_i h;refine⟨m-1,aa,n+1,⟨aa,λk hk=>?_⟩,rfl,rfl⟩;rcases zcp (zcr hk)with h1|h1
   ·exact h0 k h1
   ·subst h1;exact zba.1 h
 ·rw[eD (λk hk=>h0 k aa)]at hK
  (repeat'((conv=>whnf);first|refine ar aa ?_|fail))<;>try(conv=>whnf)
  exact aO
def Aa{r:Rc}(h:(ef r).2=0):FQ r/\sK (fo r)=0/\(r.fl%2=1\/Cl r)/\(cG r.at_.l).2=0/\jk r<0/\cz r.at_.l<=440:=by
 unfold ef at h;split at h
 ·cases h
 rename_i g1;split at h
 ·rename_i g;exact iH
 rename_i g2;split at h
 ·cases h
 rename_i g3;split at h
 ·rename_i g;exact iH
 rename_i g4;split at h
 ·cases h
 rename_i g5;have g6:cz r.at_.l<=440:=by
  refine Classical.byContradiction λg=>?_
  simp only[if_neg g]at h;cases h
 exact⟨zba.1 g1,zba.1 g2,zba.1 g3,zba.1 g4,aa,g6⟩
def Z2{l:List At}{x:At}(h:x∈qM l):∃a∈l,a.ty≠32/\x=EL a:=by
 unfold qM at h;obtain⟨a,ha,rfl⟩:=zaX.1 h;obtain⟨h1,h2⟩:=List.mem_filter.1 ha;exact⟨a,h1,gu,rfl⟩
def Zs{rs:List Rc}{x:At}(h:x∈jf rs):∃r∈rs,∃a∈r.at_.l,a.ty≠32/\x=EL a:=by
 unfold jf at h;obtain⟨r,hr,h⟩:=zbx.1 h;obtain⟨a,ha⟩:=Z2 h;exact⟨r,hr,a,ha⟩
def Wg{rs:List Rc}{B:Nat}(h:∀r∈rs,r.at_.l.length<=B):(jf rs).length<=B*rs.length:=by
 induction rs with
 |nil=>simp[jf]
 |cons r rs ih=>
  have e:jf (r::rs)=qM r.at_.l++jf rs:=rfl;have h1:=ih λr hr=>h r (zcS _ hr)
  have h2:=J8 r.at_.l;have h3:=h r (zcM ..);rw[e,zae,zap,zcU];omega
def RT{l:List At}{x:At}(h:x∈Ba l):∃a∈l,∃i:Nat,x={ a with id:=(i:Int) }:=by
 unfold Ba at h;obtain⟨⟨a,i⟩,h1,rfl⟩:=zaX.1 h;have:=zc8 h1;exact⟨a,by rw[this.2];exact zcI _,i,rfl⟩
def aan{rs:List Rc}(hl:rs.length<=12)(h:∀r∈rs,r.at_.l.length<=32∧∀a∈r.at_.l,a.nm.length<=1000000/\a.rn.l.length<=1000000):whB (kI rs):=by
 have hg:=Wg λr hr=>(h r hr).1
 have hm:∀x∈jf rs,x.nm.length<=1000000/\x.rn.l.length<=1000000:=λx hx=>by
  obtain⟨r,hr,a,ha,_,rfl⟩:=Zs hx;exact(h r hr).2 a ha
 have hs:=Z9 (jf rs);unfold kI whB Tm;show((Sl.sl _).l.length<=1000∧∀a∈(Sl.sl _).l,_)∧∀a∈(Sl.sl _).l,_;simp only[Sl.l];split
 ·refine⟨⟨by rw[Ei,hs.length_eq];omega,λx hx=>?_⟩,λx hx=>?_⟩
  ·obtain⟨a,ha,i,rfl⟩:=RT hx;exact(hm a (hs.mem_iff.1 ha)).1
  ·obtain⟨a,ha,i,rfl⟩:=RT hx;exact(hm a (hs.mem_iff.1 ha)).2
 ·exact⟨⟨aa,λx hx=>(hm x hx).1⟩,λx hx=>(hm x hx).2⟩
instance (p q:Fp):Decidable (zK p q):=Classical.propDecidable _
def bN(p:Fp):Int×Int:=
 if p.rc.l.length=0 then(0,17)else if p.rf.l.length≠p.rc.l.length then(0,10)else if 12<p.rc.l.length then(0,8)else
  if (dc (qi p) 0 p.rc.l.length).2≠0 then dc (qi p) 0 p.rc.l.length else
   (0,if (spread (kI p.rc.l) p.rf.l p.rn.l).2=0/\zK (spread (kI p.rc.l) p.rf.l p.rn.l).1 p then 0 else 19)
def Jv(ps:List PV)(r:RV):Prop:=∃p:Fp,ps=[p.pv]/\fpB p/\r=.tup [.pv (pI (bN p).1),.pv (pI (bN p).2)]
def QA{p:Fp}(hl:p.rf.l.length=p.rc.l.length)(h:(dc (qi p) 0 p.rc.l.length).2=0):(∀r∈p.rc.l,(ef r).2=0)∧∀x∈p.rf.l,AW x=0:=by
 have key:∀i,i<p.rc.l.length→∃x r,p.rf.l[i]?=some x/\p.rc.l[i]?=some r/\AW x=0/\(ef r).2=0:=λi hi=>by
  obtain⟨r,hr⟩:∃a,p.rc.l[i]?=some a:=⟨_,zak hi⟩
  obtain⟨x,hx⟩:∃a,p.rf.l[i]?=some a:=⟨_,zak aa⟩
  have:=nJ h i hi;unfold qi at this;rw[hx,hr]at this;simp only at this;split at this
  ·rename_i g;exact absurd this g
  ·rename_i g;exact⟨x,r,hx,hr,zba.1 g,this⟩
 refine⟨λr hr=>?_,λx hx=>?_⟩
 ·obtain⟨i,hi⟩:=ee.1 hr;obtain⟨x,r',h1,h2,h3,h4⟩:=key i (aZ hi);rw[hi]at h2;cases h2;exact h4
 ·obtain⟨i,hi⟩:=ee.1 hx;obtain⟨x',r',h1,h2,h3,h4⟩:=key i (by have:=aZ hi;omega);rw[hi]at h1;cases h1;exact h3
set_option maxRecDepth 20000 in
def Fm:ay (ax [(60,ah db),(74,ah eM),(89,gR true Vt),(92,gR false E8),(18,gR false C8),(93,eX UB)]) l6 mG mz (gR true Jv):=by
 rintro _ K ⟨_,⟨p,rfl,⟨Ug,O7,hB3,hB4⟩,rfl⟩,hK⟩;by_cases h1:p.rc.l.length=0
 case pos=>
  have e:bN p=(0,17):=if_pos h1;rw[e]at hK
  (repeat'((conv=>whnf);first|refine jH ?_|refine ar (p:=0<((p.rc.l.length:Nat):Int)) aa ?_|(refine ko ?_;first|refine ai aa ?_|refine ai af ?_|refine cA (λ_=>?_) (λ_=>?_)|refine gF λ_=>?_|refine cw ?_|refine⟨_,⟨_,_,rfl,rfl⟩,?_⟩|refine⟨_,⟨[_,_,_],rfl,rfl⟩,?_⟩|fail)))<;>try(conv=>whnf)
  all_goals exact aO
 by_cases hl:p.rf.l.length=p.rc.l.length
 case neg=>
  have e:bN p=(0,10):=by unfold bN;rw[if_neg h1,if_pos hl]
  rw[e]at hK
  (repeat'((conv=>whnf);first|refine jH ?_|refine ai (p:=0<((p.rc.l.length:Nat):Int)) aa ?_|refine ar (p:=(((p.rf.l.map Rf.pv).length:Nat):Int)=((p.rc.l.length:Nat):Int)) (by rw[zan];omega) ?_|(refine ko ?_;first|refine ai af ?_|refine cA (λ_=>?_) (λ_=>?_)|refine gF λ_=>?_|refine cw ?_|refine⟨_,⟨_,_,rfl,rfl⟩,?_⟩|refine⟨_,⟨[_,_,_],rfl,rfl⟩,?_⟩|fail)))<;>try(conv=>whnf)
  all_goals exact aO
 by_cases VL:p.rc.l.length<=12
 case neg=>
  have e:bN p=(0,8):=by unfold bN;rw[if_neg h1,if_neg (λh=>h hl),if_pos aa]
  rw[e]at hK
  (repeat'((conv=>whnf);first|refine jH ?_|refine ai (p:=0<((p.rc.l.length:Nat):Int)) aa ?_|refine ai (p:=(((p.rf.l.map Rf.pv).length:Nat):Int)=((p.rc.l.length:Nat):Int)) u0 ?_|refine ar (p:=((p.rc.l.length:Nat):Int)<=12) aa ?_|(refine ko ?_;first|refine ai af ?_|refine gF λ_=>?_|refine cw ?_|refine⟨_,⟨_,_,rfl,rfl⟩,?_⟩|refine⟨_,⟨[_,_,_],rfl,rfl⟩,?_⟩|fail)))<;>try(conv=>whnf)
  all_goals exact aO
 have eF:bN p=if (dc (qi p) 0 p.rc.l.length).2≠0 then dc (qi p) 0 p.rc.l.length else
  (0,if (spread (kI p.rc.l) p.rf.l p.rn.l).2=0/\zK (spread (kI p.rc.l) p.rf.l p.rn.l).1 p then 0 else 19):=by
  unfold bN;rw[if_neg h1,if_neg (λh=>h hl),if_neg aa]
 by_cases he:(dc (qi p) 0 p.rc.l.length).2=0
 case neg=>
  rw[eF,if_pos he]at hK
  (repeat'((conv=>whnf);first|refine jH ?_|refine ai (p:=0<((p.rc.l.length:Nat):Int)) aa ?_|refine ai (p:=(((p.rf.l.map Rf.pv).length:Nat):Int)=((p.rc.l.length:Nat):Int)) u0 ?_|refine ai (p:=((p.rc.l.length:Nat):Int)<=12) aa ?_|refine ar (λh=>h rfl) ?_|refine⟨_,⟨p,rfl,⟨hl,aa,λr hr=>(O7 r hr).1⟩,rfl⟩,?_⟩|refine ai he ?_|(refine ko ?_;first|refine gF λ_=>?_|refine cw ?_|refine⟨_,⟨_,_,rfl,rfl⟩,?_⟩|refine⟨_,⟨[_,_,_],rfl,rfl⟩,?_⟩|fail)))<;>try(conv=>whnf)
  all_goals exact aO
 rw[eF,if_neg (λh=>h he)]at hK;obtain⟨CE,_⟩:=QA hl he;have hW:whB (kI p.rc.l):=aan VL λr hr=>⟨(u5 (Aa (CE r hr)).2.2.2.1).1,λa ha=>⟨(O7 r hr).1.2 a ha,(O7 r hr).2 a ha⟩⟩
 have hg:E8 [p.pv] (.pv (kI p.rc.l).pv):=⟨p,rfl,⟨⟨Ug,λr hr=>⟨(O7 r hr).1.1,(O7 r hr).2⟩⟩,aa⟩,rfl⟩
 by_cases hs:(spread (kI p.rc.l) p.rf.l p.rn.l).2=0
 case neg=>
  rw[if_neg (λh=>hs h.1)]at hK
  (repeat'((conv=>whnf);first|refine jH ?_|refine ai (p:=0<((p.rc.l.length:Nat):Int)) aa ?_|refine ai (p:=(((p.rf.l.map Rf.pv).length:Nat):Int)=((p.rc.l.length:Nat):Int)) u0 ?_|refine ai (p:=((p.rc.l.length:Nat):Int)<=12) aa ?_|refine ar (λh=>h rfl) ?_|refine⟨_,⟨p,rfl,⟨hl,aa,λr hr=>(O7 r hr).1⟩,rfl⟩,?_⟩|refine ar (λh=>h he) ?_|refine⟨_,hg,?_⟩|refine⟨_,⟨kI p.rc.l,p.rf,p.rn,rfl,⟨hW,hB3,hB4⟩,rfl⟩,?_⟩|refine ar hs ?_|(refine ko ?_;first|refine gF λ_=>?_|refine cw ?_|refine⟨_,⟨_,_,rfl,rfl⟩,?_⟩|refine⟨_,⟨[_,_,_],rfl,rfl⟩,?_⟩|fail)))<;>try(conv=>whnf)
  all_goals exact aO
 by_cases hm:zK (spread (kI p.rc.l) p.rf.l p.rn.l).1 p
 ·rw[if_pos ⟨hs,hm⟩]at hK
  (repeat'((conv=>whnf);first|refine jH ?_|refine ai (p:=0<((p.rc.l.length:Nat):Int)) aa ?_|refine ai (p:=(((p.rf.l.map Rf.pv).length:Nat):Int)=((p.rc.l.length:Nat):Int)) u0 ?_|refine ai (p:=((p.rc.l.length:Nat):Int)<=12) aa ?_|refine ar (λh=>h rfl) ?_|refine⟨_,⟨p,rfl,⟨hl,aa,λr hr=>(O7 r hr).1⟩,rfl⟩,?_⟩|refine ar (λh=>h he) ?_|refine⟨_,hg,?_⟩|refine⟨_,⟨kI p.rc.l,p.rf,p.rn,rfl,⟨hW,hB3,hB4⟩,rfl⟩,?_⟩|refine ai hs ?_|refine⟨_,⟨(spread (kI p.rc.l) p.rf.l p.rn.l).1,p,rfl,rfl⟩,?_⟩|refine ai hm ?_|(refine ko ?_;first|refine gF λ_=>?_|refine cw ?_|refine⟨_,⟨_,_,rfl,rfl⟩,?_⟩|refine⟨_,⟨[_,_,_],rfl,rfl⟩,?_⟩|fail)))<;>try(conv=>whnf)
  all_goals exact aO
 ·rw[if_neg (λh=>hm h.2)]at hK
  (repeat'((conv=>whnf);first|refine jH ?_|refine ai (p:=0<((p.rc.l.length:Nat):Int)) aa ?_|refine ai (p:=(((p.rf.l.map Rf.pv).length:Nat):Int)=((p.rc.l.length:Nat):Int)) u0 ?_|refine ai (p:=((p.rc.l.length:Nat):Int)<=12) aa ?_|refine ar (λh=>h rfl) ?_|refine⟨_,⟨p,rfl,⟨hl,aa,λr hr=>(O7 r hr).1⟩,rfl⟩,?_⟩|refine ar (λh=>h he) ?_|refine⟨_,hg,?_⟩|refine⟨_,⟨kI p.rc.l,p.rf,p.rn,rfl,⟨hW,hB3,hB4⟩,rfl⟩,?_⟩|refine ai hs ?_|refine⟨_,⟨(spread (kI p.rc.l) p.rf.l p.rn.l).1,p,rfl,rfl⟩,?_⟩|refine ar hm ?_|(refine ko ?_;first|refine gF λ_=>?_|refine cw ?_|refine⟨_,⟨_,_,rfl,rfl⟩,?_⟩|refine⟨_,⟨[_,_,_],rfl,rfl⟩,?_⟩|fail)))<;>try(conv=>whnf)
  all_goals exact aO
def Ff{f:Wh}{refs:List Rf}{lr:List Rn}(h:x5 f refs lr=0):(jC f).2=0/\(nG refs).2=0/\(refs.length:Int)=(jC f).1/\(dD lr).2=0∧¬QW lr/\GC f refs lr=0:=by
 unfold x5 at h;split at h
 ·rename_i g;exact iH
 rename_i g1;split at h
 ·rename_i g;exact iH
 rename_i g2;split at h
 ·cases h
 rename_i g3;split at h
 ·rename_i g;exact iH
 rename_i g4;split at h
 ·cases h
 rename_i g5;exact⟨zba.1 g1,zba.1 g2,zba.1 g3,zba.1 g4,g5,h⟩
def Gh{p:Fp}(h:(bN p).2=0):p.rc.l.length≠0/\p.rf.l.length=p.rc.l.length/\p.rc.l.length<=12/\(dc (qi p) 0 p.rc.l.length).2=0/\(spread (kI p.rc.l) p.rf.l p.rn.l).2=0/\zK (spread (kI p.rc.l) p.rf.l p.rn.l).1 p:=by
 unfold bN at h;split at h
 ·cases h
 rename_i g1;split at h
 ·cases h
 rename_i g2;split at h
 ·cases h
 rename_i g3;split at h
 ·rename_i g;exact iH
 rename_i g4;have g5:(spread (kI p.rc.l) p.rf.l p.rn.l).2=0/\zK (spread (kI p.rc.l) p.rf.l p.rn.l).1 p:=by
  refine Classical.byContradiction λg=>?_
  simp only[if_neg g]at h;cases h
 exact⟨g1,zba.1 g2,aa,zba.1 g4,g5.1,g5.2⟩
def Ke(ps:List PV)(v:PV):Prop:=∃p:Fp,ps=[p.pv]/\fpB p/\v=pI (bN p).2
def J7:ay (ax [(23,gR true Jv)]) oo o5 ov (ah Ke):=by
 rintro _ K ⟨_,⟨p,rfl,hB,rfl⟩,hK⟩
 (repeat'((conv=>whnf);first|refine⟨_,⟨p,rfl,hB,rfl⟩,?_⟩|fail))<;>try(conv=>whnf)
 exact aB
def U3{p:Fp}(hB:fpB p)(h:(bN p).2=0):E8 [p.pv] (.pv (kI p.rc.l).pv)/\whB (kI p.rc.l):=by
 obtain⟨h1,h2,h3,h4,_,_⟩:=Gh h;obtain⟨CE,_⟩:=QA h2 h4;exact⟨⟨p,rfl,⟨⟨hB.1,λr hr=>⟨(hB.2.1 r hr).1.1,(hB.2.1 r hr).2⟩⟩,aa⟩,rfl⟩,
  aan h3 λr hr=>⟨(u5 (Aa (CE r hr)).2.2.2.1).1,λa ha=>⟨(hB.2.1 r hr).1.2 a ha,(hB.2.1 r hr).2 a ha⟩⟩⟩
def amC(k:Ky)(a:At):Prop:=a.ty≠32/\a.key=k
instance (k:Ky) (a:At):Decidable (amC k a):=by unfold amC;infer_instance
def Bf(k:Ky)(l:List At):Int:=Hx (λa=>decide (amC k a)=true) l
def TC(k:Ky):List Rc->Nat->Int×Int×Int
 |[],_=>(0,0,6)
 |r::rs,i=>if 0<=Bf k r.at_.l then((i:Int),Bf k r.at_.l,0)else TC k rs (i+1)
def vY(k:Ky)(rs:List Rc):Int×Int×Int:=TC k rs 0
def Q5{k:Ky}{rs:List Rc}{n:Nat}(h:∀j r,j<n->rs[j]?=some r→¬0<=Bf k r.at_.l)(hn:n<=rs.length):vY k rs=TC k (rs.drop n) n:=by
 induction n with
 |zero=>rfl
 |succ n ih=>
  have hr:=zak (show n<rs.length by omega);rw[ih (λj r hj=>h j r aa) aa,zcn aa];show(if 0<=Bf k _ then _ else _)=_;rw[if_neg (h n _ aa hr)]
def UR(ps:List PV)(r:RV):Prop:=∃(p:Fp) (k:Ky),ps=[p.pv,k.pv]/\fpB p/\r=.tup [.pv (pI (vY k p.rc.l).1),.pv (pI (vY k p.rc.l).2.1),.pv (pI (vY k p.rc.l).2.2)]
def Qi:ay (ax [(56,ah uI)]) tu tD tL (gR true UR):=by
 rintro _ K ⟨_,⟨p,k,rfl,hB,rfl⟩,hK⟩
 (repeat'((conv=>whnf);first|refine jH ?_|refine gF λ_=>?_|fail))<;>try(conv=>whnf)
 refine⟨λm env σ=>∃(n:Nat) (S:cu),(n+m=p.rc.l.length/\(∀j r,j<n->p.rc.l[j]?=some r→¬0<=Bf k r.at_.l)/\(S=.box 51 [.pv (pI k.ty),.pv (.str k.nm),.pv (pI k.ft)]\/S=.fz (.cptr k.pv)))/\σ=[S]/\env=[(3,.ref 0 0 0),(11,.pv (p.rc.pv Rc.pv 8)),eN 12 p.rc.l.length,eN 13 n],p.rc.l.length,⟨0,_,⟨aa,λj r hj=>aa,.inl rfl⟩,rfl,rfl⟩,?_⟩;rintro m env σ ⟨n,S,⟨hn,h0,hS⟩,rfl,rfl⟩;have HR:=Q5 h0 aa;by_cases aS:n<p.rc.l.length
 ·obtain⟨r,hr⟩:∃r,p.rc.l[n]?=some r:=⟨_,zak aS⟩
  have hrB:=(hB.2.1 r (zad hr)).1.1;have hi:uI [nd r.at_,.clo 165 [.cptr k.pv]] (pI (Bf k r.at_.l)):=⟨r.at_,_,_,rfl,⟨aa,.place k⟩,rfl⟩
  have hcc:(nd r.at_).cells=[nd r.at_]:=Sl.cells;rw[zcn aS,show p.rc.l[n]=r from by rw[zak aS]at hr;exact Option.some.inj hr]at HR;by_cases hk:0<=Bf k r.at_.l
  ·have e:vY k p.rc.l=((n:Int),Bf k r.at_.l,0):=HR.trans (if_pos hk);rw[e]at hK;rcases hS with rfl|rfl
   all_goals
    (repeat'((conv=>whnf);first|refine ai aa ?_|refine dI hr ?_|refine⟨_,hi,?_⟩|refine cw ?_|fail))<;>try(conv=>whnf)
    exact⟨[.pv _,.pv _,.pv _],⟨rfl,rfl,rfl,trivial⟩,⟨trivial,trivial,trivial,trivial⟩,hK⟩
  ·have h1:∀j r',j<n+1->p.rc.l[j]?=some r'→¬0<=Bf k r'.at_.l:=λj r' hj dp=>by
    rcases zcp (zcr hj)with h1|h1
    ·exact h0 j r' h1 dp
    ·subst h1;rw[hr]at dp;cases dp;exact hk
   rcases hS with rfl|rfl
   all_goals
    (repeat'((conv=>whnf);first|refine ai aa ?_|refine dI hr ?_|refine⟨_,hi,?_⟩|refine ar (p:=0<=Bf k r.at_.l) hk ?_|refine dJ aa ?_|refine cw ?_|fail))<;>try(conv=>whnf)
    exact⟨m-1,aa,n+1,_,⟨aa,h1,.inr rfl⟩,rfl,rfl⟩
 ·rw[zc2 aa]at HR;have e:vY k p.rc.l=(0,0,6):=HR;rw[e]at hK;rcases hS with rfl|rfl
  all_goals
   (repeat'((conv=>whnf);first|refine ar aa ?_|fail))<;>try(conv=>whnf)
   exact⟨[.pv _,.pv _,.pv _],⟨rfl,rfl,rfl,trivial⟩,⟨trivial,trivial,trivial,trivial⟩,hK⟩
def IG(p:Fp)(k:Ky):Int×Int:=
 if (bN p).2≠0 then(0,(bN p).2)else if OI k≠0 then(0,OI k)else((vY k p.rc.l).1,(vY k p.rc.l).2.2)
def Nf(ps:List PV)(r:RV):Prop:=∃(p:Fp) (k:Ky),ps=[p.pv,k.pv]/\fpB p/\r=.tup [.pv (pI (IG p k).1),.pv (pI (IG p k).2)]
def Lt:ay (ax [(95,ah Ke),(96,ah RX),(74,ah eM),(97,gR true UR)]) qd qk pM (gR true Nf):=by
 rintro _ K ⟨_,⟨p,k,rfl,hB,rfl⟩,hK⟩;unfold IG at hK;have hf:bF [(bN p).2,OI k]=if (bN p).2≠0 then(bN p).2 else OI k:=by
  simp only[bF];by_cases h:(bN p).2=0
  ·rw[if_neg (show ¬(bN p).2≠0 from λg=>g h),if_pos h];split
   ·rename_i g;exact g.symm
   ·rfl
  ·rw[if_pos (show(bN p).2≠0 from h),if_neg h]
 by_cases h1:(bN p).2=0
 case neg=>
  rw[if_pos h1]at hK hf
  (repeat'((conv=>whnf);first|refine⟨_,⟨p,rfl,hB,rfl⟩,?_⟩|refine⟨_,⟨k,rfl,rfl⟩,?_⟩|refine ai (by rw[hf];exact h1) ?_|(refine ko ?_;first|refine cw ?_|refine⟨_,⟨[_,_],rfl,rfl⟩,?_⟩|fail)))<;>try(conv=>whnf)
  exact⟨[.pv _,.pv _],⟨rfl,rfl,trivial⟩,⟨trivial,trivial,trivial⟩,by rw[hf];exact hK⟩
 rw[if_neg (λh=>h h1)]at hK hf;by_cases h2:OI k=0
 ·rw[if_neg (λh=>h h2)]at hK
  (repeat'((conv=>whnf);first|refine⟨_,⟨p,rfl,hB,rfl⟩,?_⟩|refine⟨_,⟨k,rfl,rfl⟩,?_⟩|refine ar (by rw[hf];exact λh=>h h2) ?_|refine⟨_,⟨p,k,rfl,hB,rfl⟩,?_⟩|(refine ko ?_;first|refine cw ?_|refine⟨_,⟨[_,_],rfl,rfl⟩,?_⟩|fail)))<;>try(conv=>whnf)
  exact aO
 ·rw[if_pos h2]at hK
  (repeat'((conv=>whnf);first|refine⟨_,⟨p,rfl,hB,rfl⟩,?_⟩|refine⟨_,⟨k,rfl,rfl⟩,?_⟩|refine ai (by rw[hf];exact h2) ?_|(refine ko ?_;first|refine cw ?_|refine⟨_,⟨[_,_],rfl,rfl⟩,?_⟩|fail)))<;>try(conv=>whnf)
  exact⟨[.pv _,.pv _],⟨rfl,rfl,trivial⟩,⟨trivial,trivial,trivial⟩,by rw[hf];exact hK⟩
def U5(p:Fp):List Le:=if (bN p).2=0 then fq (kI p.rc.l) p.rf.l else[]
def tk(ps:List PV)(r:RV):Prop:=∃p:Fp,ps=[p.pv]/\fpB p/\r=.tup [.fresh 80 6 ((U5 p).map Le.pv),.pv (pI (bN p).2)]
def Tv{p:Fp}(hB:fpB p)(h:(bN p).2=0):ahG (kI p.rc.l) p.rf.l:=by
 obtain⟨h1,h2,h3,h4,h5,_⟩:=Gh h;obtain⟨s1,_,s3,_⟩:=Ff h5;obtain⟨n1,n2,n3⟩:=yC s1;exact UM (U3 hB h).2 n1 aa aa
set_option maxRecDepth 20000 in
def GF:Fc 71 11 (ax [(95,ah Ke),(92,gR false E8),(79,x3 Fk)]) na ng nt (gR false tk):=by
 refine⟨af,?_⟩;rintro _ K ⟨_,⟨p,rfl,hB,rfl⟩,hK⟩;unfold U5 at hK;by_cases h:(bN p).2=0
 ·rw[if_pos h]at hK;rw[h]at hK;obtain⟨hg,_⟩:=U3 hB h;have HR:=Tv hB h
  (repeat'((conv=>whnf);first|refine⟨_,⟨p,rfl,hB,rfl⟩,?_⟩|refine ar (λg=>g h) ?_|refine Or.inr (Or.inr (zco bP ?_))|refine⟨_,hg,?_⟩|refine⟨kI p.rc.l,p.rf,rfl,HR,rfl,λl hs hP hv=>?_⟩|refine⟨([]:List GA),?_⟩|refine ah0.mk ?_ ?_|fail))<;>try(conv=>whnf)
  all_goals exact yy
 ·rw[if_neg h]at hK
  (repeat'((conv=>whnf);first|refine⟨_,⟨p,rfl,hB,rfl⟩,?_⟩|refine ai h ?_|refine⟨([]:List GA),?_⟩|fail))<;>try(conv=>whnf)
  exact yy
def TF{α:Type}{R:α->α->Prop}(tr:∀x y z:α,R x y->R y z->R x z):∀{l:List α},(∀(i:Nat) x y,l[i]?=some x->l[i+1]?=some y->R x y)->l.Pairwise R
 |[],_=>.nil
 |a::l,h=>by
  have ih:l.Pairwise R:=TF tr λi x y h1 h2=>h (i+1) x y h1 h2
  refine zcN.2 ⟨λb hb=>?_,ih⟩;cases l with
  |nil=>cases hb
  |cons c l=>
   have hac:=h 0 a c rfl rfl;rcases zay.1 hb with rfl|hb
   ·exact hac
   ·exact tr _ _ _ hac ((zcN.1 ih).1 b hb)
def oR(x y:At):Prop:=O9 x.key y.key\/x.key=y.key/\x.ty=48/\x.id<y.id
def Q2{x y z:At}(h1:oR x y)(h2:oR y z):oR x z:=by
 rcases h1 with h1|⟨e1,t1,i1⟩
 ·rcases h2 with h2|⟨e2,_,_⟩
  ·exact .inl (Fo h1 h2)
  ·exact .inl (e2▸h1)
 ·rcases h2 with h2|⟨e2,_,i2⟩
  ·exact .inl (e1▸h2)
  ·exact .inr ⟨e1.trans e2,t1,aa⟩
def aab{x y:At}(h:x.key=y.key):x.ty=y.ty:=(Ky.mk.inj h).1
def Va{p a:At}(hi:p.id≠a.id):nxE p a=0↔oR p a:=by
 unfold nxE QO;rcases HI p.key a.key with h|h|h
 ·have h1:=zq.2 h;rw[if_pos (show lH p.key a.key≠0 by omega),if_neg aa,if_neg (λg=>jx _ (g.1▸h))];exact⟨λ_=>.inl h,λ_=>rfl⟩
 ·have h1:=Ct.2 h;have hc:=YK (a:=p.id) (b:=a.id);rw[if_neg (show ¬lH p.key a.key≠0 from λg=>g h1)];have ht:=aab h;constructor
  ·intro g;split at g
   ·cases g
   ·split at g
    ·cases g
    ·rename_i g1 g2;have g4:=mt hc.2 g1;refine .inr ⟨h,?_,aa⟩;refine Classical.byContradiction λg3=>g2 ⟨h,by rw[<-ht];exact g3⟩
  ·rintro(g|⟨_,g1,g2⟩)
   ·rw[h]at g;exact absurd g (jx _)
   ·rw[if_neg (by rw[hc];omega),if_neg (λg3=>g3.2 (by rw[<-ht];exact g1))]
 ·have h1:=X4.2 h;rw[if_pos (show lH p.key a.key≠0 by omega),if_pos h1];constructor
  ·intro g;cases g
  ·rintro(g|⟨g,_⟩)
   ·exact absurd g (Az h)
   ·rw[g]at h;exact absurd h (jx _)
def yf(l:List At):Prop:=l.length<=32/\(∀a∈l,iu a=0)/\(l.Pairwise λx y=>x.id≠y.id)/\l.Pairwise oR
def rN{l:List At}:(cG l).2=0↔yf l:=by
 constructor
 ·intro h;obtain⟨h1,h2⟩:=u5 h;have hs:∀i a,l[i]?=some a->Sm l i=0:=λi a ha=>by
   have:=h2 i (aZ ha);unfold A1 at this;rw[ha]at this;simp only at this;split at this
   ·rename_i g;exact absurd this g
   ·rename_i g;exact yP
  have hd:l.Pairwise λx y=>x.id≠y.id:=by
   rw[zbv];intro i j hi hj iT e;have:=hs j _ (zak hj);unfold Sm at this;rw[zak hj]at this;simp only at this;rw[if_neg (λg=>g (Ce h _ (zcI hj))),if_pos ⟨i,iT,_,_,zak hi,zak hj,e⟩]at this;cases this
  refine⟨h1,Ce h,hd,TF (R:=oR) (λ_ _ _=>Q2) λi x y hx hy=>?_⟩;have hi:=aZ hy;have h3:=h2 (i+1) hi;rw[TP hy aa (p:=x) yK,if_neg (λg=>g (hs _ _ hy))]at h3;have qY:x.id≠y.id:=by
   have hi2:=aZ hx;have:=zbv.1 hd i (i+1) hi2 hi aa;rw[zak hi2]at hx;rw[zak hi]at hy;rw[<-Option.some.inj hx,<-Option.some.inj hy];exact this
  exact(Va qY).1 h3
 ·rintro⟨h1,h2,h3,h4⟩;unfold cG;rw[if_neg aa,eD λi hi=>?_];obtain⟨a,ha⟩:∃a,l[i]?=some a:=⟨_,zak hi⟩
  have hs:Sm l i=0:=by
   unfold Sm;rw[ha];simp only;rw[if_neg (λg=>g (h2 a (zad ha))),if_neg];rintro⟨k,hk,y,b,e1,e2,e3⟩;rw[ha]at e2;cases e2;have kV:=aZ e1;have:=zbv.1 h3 k i kV hi hk;rw[zak kV]at e1;rw[zak hi]at ha;rw[Option.some.inj e1,Option.some.inj ha]at this;exact this e3
  by_cases h0:0<i
  ·obtain⟨p,hp⟩:∃a,l[i-1]?=some a:=⟨_,zak aa⟩
   rw[TP ha h0 hp,if_neg (λg=>g hs)];have hi1:=aZ hp;have e1:=zbv.1 h3 (i-1) i hi1 hi aa;have e2:=zbv.1 h4 (i-1) i hi1 hi aa;rw[zak hi1]at hp;rw[zak hi]at ha;rw[Option.some.inj hp,Option.some.inj ha]at e1 e2;exact(Va e1).2 e2
  ·rw[show i=0 by omega]at ha hs ⊢;rw[Yy ha,hs]
def yf.sub{l m:List At}(h:yf l)(s:m.Sublist l):yf m:=
 ⟨Nat.le_trans s.length_le h.1,λa ha=>h.2.1 a (s.subset ha),h.2.2.1.sublist s,h.2.2.2.sublist s⟩
def yf.k{l:List At}(h:yf l):adg l:=h.2.2.2.imp λ{x y} g k=>by
 rcases g with g|⟨g,_⟩
 ·exact Az g k
 ·rw[g]at k;exact jx _ k
def Mh(a:At)(i:Int):uf (XF a i)=uf a:=rfl
def HO{a:At}{i:Int}(h:iu a=0)(hi:0<=i/\i<=65535):iu (XF a i)=0:=by
 obtain⟨h1,h2⟩:=mA h;have hf:=(qJ h).idf.2;have h3:AX (XF a i)=0:=by
  unfold AX at h1;split at h1
  ·cases h1
  rename_i g1;split at h1
  ·cases h1
  rename_i g2;split at h1
  ·cases h1
  show(if a.ty∉Cz then(15:Int)else if ¬cb a.nm then 4 else if ¬pG (XF a i)then 2 else Du a)=0;rw[if_neg g1,if_neg g2,if_neg (λg=>g ⟨hi,hf⟩)];exact h1
 unfold iu;rw[if_neg (λg=>g h3),if_neg];rw[sF,Mh,<-sF];omega
def UD{a:At}{i:Int}(h:iu a=0)(hi:0<=i/\i<=65535):fF (XF a i)=fF a:=by
 unfold fF;rw[if_pos h,if_pos (HO h hi),Mh]
def er(al:Bool)(a:At):At:=if al=true then EL a else XF a 0
def L7{al:Bool}{a:At}(h:iu a=0):iu (er al a)=0/\fF (er al a)=fF a/\(er al a).ty=a.ty/\(er al a).key=a.key:=by
 have hi:=(qJ h).idf.1;unfold er;split
 ·exact⟨HO h hi,UD h hi,rfl,rfl⟩
 ·exact⟨HO h aa,UD h aa,rfl,rfl⟩
def ah3(al:Bool)(a:At)(k:Nat):HL al (er al a) k=HL al a k:=by cases al<;>rfl
def Z5(al:Bool)(g:List At):ji al (g.map (er al))=ji al g:=by
 unfold ji;rw[List.zipIdx_map,zcR];exact zbA λp _=>ah3 al p.1 p.2
def OA{l:List At}{f:At->At}(h:∀a∈l,fF (f a)=fF a):cz (l.map f)=cz l:=by
 unfold cz;rw[zcR];exact congrArg List.sum (zbA h)
def XZ{f:At->At}{gs:List (List At)}{a:At}(ha:(f a).ty=a.ty/\fF (f a)=fF a)(hg:∀g∈gs,∀x∈g,fF (f x)=fF x):jj (gs.map (List.map f)) (f a)=(jj gs a).map (List.map f):=by
 have hd:∀i:Nat,(gs.map (List.map f))[i]?.getD []=(gs[i]?.getD []).map f:=λi=>by
  rw[zbC];cases gs[i]?<;>rfl
 have hs:∀i:Nat,cz ((gs[i]?.getD []).map f)=cz (gs[i]?.getD []):=λi=>by
  cases h:gs[i]? with
  |none=>rfl
  |some g=>exact OA (hg g (zad h))
 unfold jj;rw[ha.1,ha.2,zan,hd,hd,hs];split
 ·rw[zcV,zaD];rfl
 ·split
  ·rw[zaD];rfl
  ·rw[zcV,zaD];rfl
def QP{f:At->At}{l:List At}(h:∀a∈l,(f a).ty=a.ty/\fF (f a)=fF a):eb (l.map f)=(eb l).map (List.map f):=by
 have key:∀(l:List At) (gs:List (List At)),(∀a∈l,(f a).ty=a.ty/\fF (f a)=fF a)->(∀g∈gs,∀x∈g,fF (f x)=fF x)->(l.map f).foldl jj (gs.map (List.map f))=(l.foldl jj gs).map (List.map f):=by
  intro l
  induction l with
  |nil=>intro gs _ _;rfl
  |cons a l ih=>
   intro gs h1 h2;rw[List.map_cons,zbh,zbh,XZ (h1 a (zcM ..)) h2];refine ih _ (λb hb=>h1 b (zcS _ hb)) λg hg x hx=>?_
   rcases Q6 hg hx with rfl|⟨g0,h3,h4⟩
   ·exact(h1 _ (zcM ..)).2
   ·exact h2 g0 h3 x h4
 exact key l [[]] h λg hg x hx=>by rw[zbs.1 hg]at hx;cases hx
def Zq(gs:List (List At)):Prop:=1<=gs.length/\(∀(i:Nat) g,1<=i->gs[i]?=some g->g≠[]/\cz g<=440∧∀x∈g,x.ty≠16)∧∀g,gs[0]?=some g→∀x∈g,x.ty=16
def Z6(l m:List At):cz (l++m)=cz l+cz m:=by unfold cz;rw[zaD,List.sum_append_nat]
def Qw(a:At):cz [a]=fF a:=vu
def amQ{gs:List (List At)}(h:Zq gs)(a:At):Zq (jj gs a):=by
 obtain⟨h0,h1,h2⟩:=h;unfold jj;by_cases ht:a.ty=16
 ·rw[if_pos ht];refine⟨by rw[zaL];exact h0,λi g hi hg=>?_,λg hg x hx=>?_⟩
  ·rw[zaR,if_neg aa]at hg;exact h1 i g hi hg
  ·rw[zaR,if_pos rfl,if_pos aa]at hg;cases hg;rcases zax.1 hx with hx|hx
   ·cases hh:gs[0]? with
    |none=>rw[hh]at hx;cases hx
    |some g0=>rw[hh]at hx;exact h2 g0 hh x hx
   ·rw[zbs.1 hx];exact ht
 ·rw[if_neg ht];have hb:=Cs a;split
  ·refine⟨by rw[zae];omega,λi g hi hg=>?_,λg hg=>?_⟩
   ·by_cases hl:i<gs.length
    ·rw[zar hl]at hg;exact h1 i g hi hg
    ·have:=(zaa.1 hg).1;rw[zae,zbK]at this;rw[zam aa,show i-gs.length=0 by omega]at hg;cases hg;exact⟨ae,by rw[Qw];omega,λx hx=>by rw[zbs.1 hx];exact ht⟩
   ·rw[zar aa]at hg;exact h2 g hg
  ·rename_i hn;refine⟨by rw[zaL];exact h0,λi g hi hg=>?_,λg hg=>?_⟩
   ·rw[zaR]at hg;split at hg
    ·split at hg
     ·cases hg;obtain⟨g0,O8⟩:∃g,gs[gs.length-1]?=some g:=⟨_,zak aa⟩
      rw[O8]at hn ⊢;have h3:=h1 _ g0 aa O8;refine⟨ae,?_,λx hx=>?_⟩
      ·rw[zby,Z6,Qw];rw[zby]at hn;omega
      ·rcases zax.1 hx with hx|hx
       ·exact h3.2.2 x hx
       ·rw[zbs.1 hx];exact ht
     ·cases hg
    ·exact h1 i g hi hg
   ·rw[zaR,if_neg aa]at hg;exact h2 g hg
def YX(l:List At):Zq (eb l):=by
 have key:∀(l:List At) (gs:List (List At)),Zq gs->Zq (l.foldl jj gs):=by
  intro l
  induction l with
  |nil=>intro gs h;exact h
  |cons a l ih=>intro gs h;exact ih _ (amQ h a)
 refine key l [[]] ⟨ae,λi g hi hg=>?_,λg hg x hx=>?_⟩
 ·rw[zaK aT]at hg;cases hg
 ·cases hg;cases hx
def Lc{gs:List (List At)}{m:List At}(h:1<=gs.length):(gs.set (gs.length-1) (gs[gs.length-1]?.getD []++m)).flatten=gs.flatten++m:=by
 induction gs with
 |nil=>simp at h
 |cons g gs ih=>
  cases gs with
  |nil=>simp
  |cons g2 gs=>
   have:=ih ae;simp only[zap,Nat.add_sub_cancel]at this ⊢;rw[List.set_cons_succ,zcZ,List.getElem?_cons_succ,this,zcZ (l:=g),zah]
def Wx{l:List At}(h:l.Pairwise λx y=>x.ty<=y.ty)(h16:∀a∈l,16<=a.ty):(eb l).flatten=l:=by
 have key:∀n,n<=l.length->(eb (l.take n)).flatten=l.take n/\((∀a∈l.take n,a.ty=16)->eb (l.take n)=[l.take n]):=by
  intro n
  induction n with
  |zero=>intro _;exact⟨rfl,λ_=>rfl⟩
  |succ n ih=>
   intro hn;obtain⟨ih1,ih2⟩:=ih aa;have aS:n<l.length:=aa;obtain⟨a,ha⟩:∃a,l[n]?=some a:=⟨_,zak aS⟩
   have ht:l.take (n+1)=l.take n++[a]:=by rw[zct,ha];rfl
   have hgl:=(Ht (l.take n)).1;have aeP:a.ty=16→∀b∈l.take n,b.ty=16:=λe b hb=>by
    obtain⟨i,hi⟩:=ee.1 hb;have hil:=aZ hi;rw[zal]at hil;rw[zcu aa]at hi;have h1:=zbv.1 h i n aa aS aa;rw[zak aa]at hi;rw[zak aS]at ha;rw[Option.some.inj hi,Option.some.inj ha]at h1;have h2:=h16 b (za4 hb);omega
   rw[jz ha,ht];by_cases e:a.ty=16
   ·have e2:=ih2 (aeP e);have e3:jj (eb (l.take n)) a=[l.take n++[a]]:=by
     unfold jj;rw[if_pos e,e2];rfl
    rw[e3];exact⟨ae,λ_=>rfl⟩
   ·refine⟨?_,λpK=>absurd (pK a ae) e⟩;unfold jj;rw[if_neg e];split
    ·rw[List.flatten_append,ih1];simp
    ·rw[Lc hgl,ih1]
 have:=(key l.length (zaj _)).1;rwa[zcX]at this
def Q8{α:Type}{g:List α}:∀{gs:List (List α)},g∈gs->g.Sublist gs.flatten
 |[],h=>by cases h
 |x::gs,h=>by
  rw[zcZ];rcases zay.1 h with rfl|h
  ·exact List.sublist_append_left ..
  ·exact(Q8 h).trans (List.sublist_append_right ..)
end Go.Dv.Try
end
