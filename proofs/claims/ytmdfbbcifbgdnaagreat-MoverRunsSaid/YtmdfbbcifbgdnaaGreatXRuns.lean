/- Own work: parts of the proof, shortened and laid together by a tool of our own. -/
import Derived.Test.YtmdfbbcifbgdnaaGreatP6
import Derived.Test.YtmdfbbcifbgdnaaGreatProg
import Derived.KernelRfl
set_option linter.defProp false
set_option linter.unusedSimpArgs false
set_option linter.unusedVariables false
open And renaming intro→zcB
open List renaming getElem?_eq_getElem→zah, length_map→zav, mem_of_getElem?→zag, getElem?_map→za9
open Bool renaming false_eq_true→zcn
namespace Go.Dv.Try
open Go Go.Dv Go.Proofs.Tryz Go.Proofs.Tryz
set_option maxRecDepth 100000
def JE:FC:=⟨[0,1,2,4,5,6,7,8,9,10,11,12,13,14,15],[⟨4,none⟩],aaq f10 [] [[5,6,9,10,11]]⟩
def abv:CO 10 JE 2:=bk f10 ak
def Li:FC:=⟨[0,1,2,4],[⟨4,none⟩],aaq f17 [] []⟩
def acF:CO 17 Li 2:=bk f17 ak
def ab_:FC:=⟨[0,1,2],[⟨2,none⟩],aaq f30 [] []⟩
def ai0:CO 30 ab_ 1:=bk f30 ak
def Zo:FC:=⟨[0,1,2,3,4],[⟨4,none⟩],aaq f34 [] []⟩
def ajw:CO 34 Zo 2:=bk f34 ak
def adF:FC:=⟨[0,1,2,3,6,7,8,9,10,11,12,13,14,15,56],[⟨6,none⟩,⟨7,some (⟨true,3⟩)⟩],aaq f61 [true] [[1,2,7,8,9,10]]⟩
def alb:CO 61 adF 3:=bk f61 ak
def AS:FC:=⟨[0,1,4,5],[⟨4,none⟩],aaq f96 [] [[0,1,5]]⟩
def Qn:CO 96 AS 2:=bk f96 ak
def x5:FC:=⟨[0,1,2,3,4],[⟨4,none⟩],aaq f138 [] []⟩
def JT:CO 138 x5 2:=bk f138 ak
end Go.Dv.Try
namespace Go.Dv.Try
open Go Go.Dv
def agX(a b:At):Prop:=a.ty=b.ty/\a.nm=b.nm/\a.id=b.id/\a.fl=b.fl/\a.rs=b.rs/\a.vl=b.vl/\a.ft=b.ft/\a.rn.l=b.rn.l/\a.al=b.al/\a.sz=b.sz/\a.vd=b.vd
def ae7(ps:List PV)(p:Prop):Prop:=∃a b:At,ps=[a.pv,b.pv]/\(a.rn.l.length<=1000000/\b.rn.l.length<=1000000)/\p=agX a b
set_option maxHeartbeats 2000000 in
def aiS:MT (ay [(18,bF jW)]) x5 (bF ae7):=by
 rintro _ K ⟨_,⟨a,b,rfl,h,rfl⟩,hK⟩;have QL:jW [qF a.rn,qF b.rn] (a.rn.l=b.rn.l):=⟨a.rn,b.rn,rfl,h,rfl⟩
 have yes:agX a b->K (.pv (.bool true)):=λh=>hK true uQ
 have no:¬agX a b->K (.pv (.bool false)):=λh=>hK false uQ
 unfold agX at yes no;clear hK;clear QL;have QL:jW [qF a.rn,qF b.rn] (a.rn.l=b.rn.l):=⟨a.rn,b.rn,rfl,h,rfl⟩
 (repeat'((conv=>whnf);first|refine⟨_,QL,?_⟩|refine de (λ_=>?_) (λ_=>?_)|fail))<;>try(conv=>whnf)
 all_goals clear QL h
 all_goals first
  |exact⟨.pv (.bool _),rfl,trivial,no (by intro hh;obtain⟨i1,i2,i3,i4,i5,i6,i7,i8,i9,i10,i11⟩:=hh;contradiction)⟩
  |exact⟨.pv (.bool _),rfl,trivial,yes (by refine⟨?_,?_,?_,?_,?_,?_,?_,?_,?_,?_,?_⟩<;>assumption)⟩
def azo{v:Vo}{l:List Sp}(h:A3 v):A3 (Jv v l):=by
 induction l generalizing v with
 |nil=>exact h
 |cons s r ih=>exact ih (ax0 h s)
def an1{α β:Type}{f:α->β}{a b:List α}(e:a.map f=b.map f){n:Nat}{x y:α}(hx:a[n]?=some x)(hy:b[n]?=some y):f x=f y:=by
 have h:(a.map f)[n]?=(b.map f)[n]?:=by rw[e]
 rw[za9,za9,hx,hy]at h;exact Option.some.inj h
def auz{a b:At}:agX a b↔aB a=aB b:=by
 unfold agX aB;cases a;cases b;simp
def ZT(ps:List PV)(p:Prop):Prop:=∃a b:Sl At,ps=[D4 a,D4 b]/\((a.l.length<=1000000/\b.l.length<=1000000)/\(∀x∈a.l,x.rn.l.length<=1000000)∧∀x∈b.l,x.rn.l.length<=1000000)/\p=(a.l.map aB=b.l.map aB)
set_option maxHeartbeats 2000000 in
def aji:MT (ay [(138,bF ae7)]) AS (bF ZT):=by
 rintro _ K ⟨_,⟨a,b,rfl,⟨⟨h1,h2⟩,h3,h4⟩,rfl⟩,hK⟩;by_cases hl:a.l.length=b.l.length
 case neg=>
  have cb:¬a.l.map aB=b.l.map aB:=λe=>hl (by have:=congrArg List.length e;simpa using this)
  (repeat'((conv=>whnf);first|refine KP ?_|refine au ab ?_|refine dq λ_=>?_|fail))<;>try(conv=>whnf)
  exact⟨.pv (.bool _),rfl,trivial,hK false (by simp only[cb,zcn])⟩
 (repeat'((conv=>whnf);first|refine KP ?_|refine aw ab ?_|refine dq λ_=>?_|fail))<;>try(conv=>whnf)
 refine⟨λm env σ=>∃n:Nat,(n+m=a.l.length∧∀j,j<n→∀x y,a.l[j]?=some x->b.l[j]?=some y->aB x=aB y)/\σ=[]/\env=[(0,.pv (D4 a)),(1,.pv (D4 b)),eN 5 n],a.l.length,⟨0,⟨ab,λj hj=>ab⟩,rfl,rfl⟩,?_⟩;rintro m env σ ⟨n,⟨hn,h0⟩,rfl,rfl⟩;by_cases aU:n<a.l.length
 ·obtain⟨x,hx⟩:∃x,a.l[n]?=some x:=⟨_,zah aU⟩
  obtain⟨y,hy⟩:∃y,b.l[n]?=some y:=⟨_,zah ab⟩
  have HO:D4 a=.sl 11 (a.l.map At.pv):=Sl.zN hx;have hsb:D4 b=.sl 11 (b.l.map At.pv):=Sl.zN hy;have Wk:=nS (f:=At.pv) hx;have hgy:=nS (f:=At.pv) hy;have hq:ae7 [x.pv,y.pv] _:=⟨x,y,rfl,⟨h3 x (zag hx),h4 y (zag hy)⟩,rfl⟩
  rw[auz]at hq;rw[HO,hsb];by_cases zn:aB x=aB y
  ·(repeat'((conv=>whnf);first|refine⟨_,⟨ab,Wk⟩,?_⟩|refine⟨_,⟨ab,hgy⟩,?_⟩|refine⟨_,hq,?_⟩|refine au zn ?_|refine au ab ?_|refine bj ab ?_|refine aN ?_|refine dq λ_=>?_|refine bT ?_|fail))<;>try(conv=>whnf)
   refine⟨m-1,ab,n+1,⟨ab,λj hj x' y' dR cn=>?_⟩,rfl,rfl⟩;rcases Nat.lt_or_eq_of_le (Nat.le_of_lt_succ hj)with h1|h1
   ·exact h0 j h1 x' y' dR cn
   ·subst h1;rw[hx]at dR;rw[hy]at cn;cases dR;cases cn;exact zn
  ·have cb:¬a.l.map aB=b.l.map aB:=λe=>zn (an1 e hx hy)
   (repeat'((conv=>whnf);first|refine⟨_,⟨ab,Wk⟩,?_⟩|refine⟨_,⟨ab,hgy⟩,?_⟩|refine⟨_,hq,?_⟩|refine aw zn ?_|refine au ab ?_|refine bP ?_|refine dq λ_=>?_|refine bT ?_|fail))<;>try(conv=>whnf)
   exact⟨.pv (.bool _),rfl,trivial,hK false (by simp only[cb,zcn])⟩
 ·have he:a.l.map aB=b.l.map aB:=ais hl λj x y hx hy=>h0 j (by have:=eT hx;omega) x y hx hy
  (repeat'((conv=>whnf);first|refine KP ?_|refine aw ab ?_|refine dq λ_=>?_|fail))<;>try(conv=>whnf)
  exact⟨.pv (.bool _),rfl,trivial,hK true (by simp only[he])⟩
def aqV(v w:Vo):Prop:=v.d.a_=w.d.a_/\v.d.mp=w.d.mp/\v.st.l.map aB=w.st.l.map aB
def Uq(ps:List PV)(p:Prop):Prop:=∃v w:Vo,ps=[v.pv,w.pv]/\(voN v/\voN w)/\p=aqV v w
def am9:MT (ay [(96,bF ZT)]) Zo (bF Uq):=by
 rintro _ K ⟨_,⟨v,w,rfl,⟨h1,h2⟩,rfl⟩,hK⟩;have hq:ZT [D4 v.st,D4 w.st] _:=⟨v.st,w.st,rfl,⟨⟨h1.1,h2.1⟩,h1.2,h2.2⟩,rfl⟩
 unfold aqV at hK;generalize (v.st.l.map aB=w.st.l.map aB)=P at*
 (repeat'((conv=>whnf);first|refine⟨_,hq,?_⟩|refine de (λ_=>?_) (λ_=>?_)|fail))<;>try(conv=>whnf)
 all_goals exact PN
section
open Classical in
noncomputable def ixE(v:Vo)(i:Int):Int:=if 0<=i/\i<=(v.st.l.length:Int)-1 then 0 else 6
def adG(ps:List PV)(x:PV):Prop:=∃(v:Vo) (i:Int),ps=[v.pv,pI i]/\v.st.l.length<=1000000/\x=pI (ixE v i)
def aq2:MT (ay [(32,bF bG)]) Li (ah adG):=by
 rintro _ K ⟨_,⟨v,i,rfl,h,rfl⟩,hK⟩;have gJ:(v.st.l.map At.pv).length=v.st.l.length:=zav _;unfold ixE at hK
 (repeat'((conv=>whnf);first|refine KP ?_|refine⟨_,⟨_,_,_,rfl,rfl⟩,?_⟩|refine bj ab ?_|refine aN ?_|refine bP ?_|refine de (λ_=>?_) (λ_=>?_)|refine dq λ_=>?_|fail))<;>try(conv=>whnf)
 all_goals
  refine⟨.pv (pI _),bu ?_,trivial,hK⟩;split<;>omega
end
def aaT{v:Vo}(h:A3 v):A3 (bp v):=by
 obtain⟨⟨h1,h2,h3⟩,h4⟩:=h;have hl:(bp v).st.l=v.st.l.map aB:=rfl;refine⟨⟨h1,by rw[hl,zav];exact h2,λa ha=>?_⟩,λa ha=>?_⟩<;>
 ·rw[hl]at ha;obtain⟨b,hb,rfl⟩:=List.mem_map.1 ha;first|exact h3 b hb|exact h4 b hb
def acq(ps:List PV)(p:Prop):Prop:=∃v:Vo,ps=[v.pv]/\voN v/\p=aqV v TZ
def amO:voN TZ:=⟨ao,λa ha=>by cases ha⟩
def aob:MT (ay [(34,bF Uq)]) ab_ (bF acq):=by
 rintro _ K ⟨_,⟨v,rfl,h,rfl⟩,hK⟩;have hq:Uq [v.pv,TZ.pv] _:=⟨v,TZ,rfl,⟨h,amO⟩,rfl⟩
 (repeat'((conv=>whnf);first|refine⟨_,hq,?_⟩|(refine λ(b:Bool) (hb:b=true↔_)=>?_)|fail))<;>try(conv=>whnf)
 exact⟨.pv (.bool _),rfl,trivial,hK _ hb⟩
def aj9(ps:List PV)(r:RV):Prop:=∃(v:Vo) (s:Sl Sp),ps=[v.pv,Im s,pB true]/\(A3 v/\s.l.length<=1000∧∀x∈s.l,x.dat.length<=1000000)/\r=.tup [.fresh 104 2 ((Kh v s.l).map An.pv),.pv (bp (Jv v s.l)).pv]
def awg{w:Vo}(h:bp w=w):w.st.l.map aB=w.st.l:=by
 have:=congrArg (λv:Vo=>v.st.l) h;exact this
def azr{w:Vo}(h:bp w=w){i:Nat}{b:At}(hb:w.st.l[i]?=some b):aB b=b:=by
 have h2:=awg h;have:(w.st.l.map aB)[i]?=w.st.l[i]?:=by rw[h2]
 rw[za9,hb]at this;exact Option.some.inj this
def Y4{w:Vo}(h:bp w=w)(D:Dk)(i:Nat)(A:At):bp (rl w D i A)=⟨D,.sl (w.st.l.set i (aB A))⟩:=by
 show(⟨D,.sl ((w.st.l.set i A).map aB)⟩:Vo)=_;rw[List.map_set,awg h]
set_option maxHeartbeats 16000000 in
def anX:MT (ay [(15,c8 false qM),(17,ah adG),(55,c8 false dK),(120,c8 true oN),(121,c8 false fm),(122,c8 false ko),(123,c8 false Ss),(101,c8 false W9)]) adF (c8 false aj9):=by
 rintro _ K ⟨_,⟨v,s,rfl,⟨hv,hs,hd⟩,rfl⟩,hK⟩;have gJ:(s.l.map Sp.pv).length=s.l.length:=zav _;have hC:qM [v.pv] _:=⟨v,rfl,⟨by have:=hv.own;omega,hv.own.2⟩,rfl⟩
 (repeat'((conv=>whnf);first|refine⟨_,hC,?_⟩|refine bT ?_|fail))<;>try(conv=>whnf)
 refine⟨λm env σ=>∃(n:Nat) (w:Vo) (l:List An),(n+m=s.l.length/\l.length<=n/\A3 w/\bp w=w/\Kh v s.l=l++Kh w (s.l.drop n)/\bp (Jv v s.l)=bp (Jv w (s.l.drop n)))/\
  σ=[.box 26 [.pv (.str []),.pv (.str []),.pv (.nil 11)],.box 26 [.pv (.str w.d.a_),.pv (.str w.d.mp),.own 3],.row 104 2 true (l.map An.pv),.row 41 11 true (w.st.l.map At.pv)]/\
  env=[(1,.pv (Im s)),(2,.pv (pB true)),(7,.ref 0 0 0),(8,.ref 1 0 0),(9,.own 2),eN 10 n],s.l.length,⟨0,bp v,[],⟨ab,aj,aaT hv,vE v,(UM s.l v).1.symm,(UM s.l v).2.symm⟩,rfl,rfl⟩,?_⟩
 rintro m env σ ⟨n,w,l,⟨hn,bJ,hw,how,hA,hV⟩,rfl,rfl⟩;by_cases aU:n<s.l.length
 case neg=>
  rw[List.drop_of_length_le ab]at hA hV;have OC:Kh v s.l=l:=by rw[hA];exact List.append_nil l
  have Y_:bp (Jv v s.l)=w:=by rw[hV];exact how
  rw[OC,Y_]at hK;have hsw:w.pv=.agg [.str w.d.a_,.str w.d.mp,.sl 11 (w.st.l.map At.pv)]:=by rw[<-how];rfl
  rw[hsw]at hK
  (repeat'((conv=>whnf);first|refine KP ?_|refine aw ab ?_|refine dq λ_=>?_|refine bT ?_|fail))<;>try(conv=>whnf)
  exact⟨[.fresh _ _ _,.pv _],⟨⟨rfl,rfl,rfl,rfl⟩,rfl,trivial⟩,trivial,hK⟩
 obtain⟨x,hx⟩:∃x,s.l[n]?=some x:=⟨_,zah aU⟩
 have qH:Im s=.sl 7 (s.l.map Sp.pv):=Sl.zN hx;have Wk:=nS (f:=Sp.pv) hx;have hxd:=hd x (zag hx);have hlA:(l.map An.pv).length=l.length:=zav _;have aJO:∀y:An,(l++[y]).map An.pv=l.map An.pv++[y.pv]:=λy=>by rw[List.map_append];rfl
 rw[drop_cons hx]at hA hV;have OC:Kh v s.l=(l++[vf w x])++Kh (YN w x) (s.l.drop (n+1)):=by rw[hA,List.append_assoc];rfl
 have Y_:bp (Jv v s.l)=bp (Jv (YN w x) (s.l.drop (n+1))):=hV;clear hA hV;have hwn:=hw.own;have XM:adG [.agg [.str w.d.a_,.str w.d.mp,.sl 11 (w.st.l.map At.pv)],pI x.i] _:=⟨w,x.i,by rw[<-how];rfl,ab,rfl⟩
 have hwl:(w.st.l.map At.pv).length=w.st.l.length:=zav _;have next:∀w':Vo,bp (YN w x)=w'->A3 w'/\bp w'=w'/\Kh v s.l=(l++[vf w x])++Kh w' (s.l.drop (n+1))/\bp (Jv v s.l)=bp (Jv w' (s.l.drop (n+1))):=λw' e=>by
  subst e;obtain⟨g1,g2⟩:=UM (s.l.drop (n+1)) (YN w x);exact⟨aaT (ax0 hw x),vE _,by rw[g1];exact OC,by rw[g2];exact Y_⟩
 clear OC Y_;rw[qH];by_cases hk:0<=x.i/\x.i<=(w.st.l.length:Int)-1
 case neg=>
  have e1:vf w x=⟨[],6⟩:=by unfold vf;rw[if_pos hk]
  have e2:YN w x=w:=by unfold YN;rw[if_pos hk]
  rw[show ixE w x.i=6 by unfold ixE;rw[if_neg hk]]at XM;rw[e1,e2]at next
  obtain⟨f1,f2,f3,f4⟩:=next w how
  (repeat'((conv=>whnf);first|refine au ab ?_|refine⟨_,⟨ab,Wk⟩,?_⟩|refine⟨_,XM,?_⟩|refine zcB ⟨by rw[hlA];simp;omega,by rw[hlA];simp;omega⟩ ?_|refine bj ab ?_|refine aN ?_|refine de (λ_=>?_) (λ_=>?_)|refine dq λ_=>?_|refine bT ?_|fail))<;>try(conv=>whnf)
  all_goals exact⟨m-1,ab,n+1,w,l++[⟨[],6⟩],⟨ab,aH,f1,f2,f3,f4⟩,by rw[aJO];rfl,rfl⟩
 rw[show ixE w x.i=0 by unfold ixE;rw[if_pos hk]]at XM;obtain⟨b,hb⟩:∃b,w.st.l[x.i.toNat]?=some b:=⟨_,zah ab⟩
 have hbm:=zag hb;have hcb:=azr how hb;have H6:(w.st.l.map At.pv)[x.i.toNat]?=some b.pv:=by rw[za9,hb];rfl
 have Aw:dK [b.pv] (.pv b.pv):=⟨b,rfl,hwn.2 b hbm,by rw[hcb]⟩
 have e0:ni w x.i=b:=by unfold ni;rw[hb];rfl
 have eN:vf w x=if x.k=0 then⟨H2 w.d b x.p x.n,xN w.d b x.p x.n⟩else⟨[],A4 w.d b x⟩:=by unfold vf;rw[if_neg (λh=>h hk)];simp only[e0]
 have eV:YN w x=if x.k=0 then w else if A4 w.d b x≠0 then w else rl w (Ib w.d b x) x.i.toNat (D2 w.d b x):=by unfold YN;rw[if_neg (λh=>h hk)];simp only[e0]
 obtain⟨⟨w1,w2,w3⟩,w4⟩:=hw;have Br:=w3 b hbm;have LO:∀A:At,(w.st.l.map At.pv).set x.i.toNat A.pv=(w.st.l.set x.i.toNat A).map At.pv:=λA=>by rw[List.map_set]
 have az3:w.st.l.set x.i.toNat b=w.st.l:=by
  obtain⟨g,e⟩:=List.getElem?_eq_some_iff.1 hb;rw[<-e];exact List.set_getElem_self g
 rw[eN,eV]at next
 by_cases k0:x.k=0
 ·have hr:oN [w.d.pv,b.pv,pI x.p,pI x.n] _:=⟨w.d,b,x.p,x.n,rfl,⟨pR w1,Br⟩,rfl⟩
  rw[if_pos k0,if_pos k0]at next
  obtain⟨f1,f2,f3,f4⟩:=next w how
  have Jq:=LO b;rw[az3]at Jq;generalize H2 w.d b x.p x.n=RN at*;generalize xN w.d b x.p x.n=RE at*;by_cases hE:RE=0
  ·(repeat'((conv=>whnf);first|refine au ab ?_|refine⟨_,⟨ab,Wk⟩,?_⟩|refine⟨_,XM,?_⟩|refine aw ab ?_|refine zcB ⟨ab,ab⟩ ?_|refine⟨_,H6,?_⟩|refine⟨_,Aw,?_⟩|refine⟨_,hr,?_⟩|refine zcB ⟨by rw[hlA];simp;omega,by rw[hlA];simp;omega⟩ ?_|refine bj ab ?_|refine dq λ_=>?_|refine bT ?_|fail))<;>try(conv=>whnf)
   all_goals
    have aA_:(w.st.l.map At.pv).set x.i.toNat (.agg [pI b.ty,.str b.nm,pI b.id,pI b.fl,pB b.rs,.str b.vl,pI b.ft,qF b.rn,pI b.al,pI b.sz,pI b.vd])=w.st.l.map At.pv:=Jq;rw[aA_];exact⟨m-1,ab,n+1,w,l++[⟨RN,RE⟩],⟨ab,aH,f1,f2,f3,f4⟩,by rw[aJO];rfl,rfl⟩
  ·(repeat'((conv=>whnf);first|refine au ab ?_|refine⟨_,⟨ab,Wk⟩,?_⟩|refine⟨_,XM,?_⟩|refine aw ab ?_|refine zcB ⟨ab,ab⟩ ?_|refine⟨_,H6,?_⟩|refine⟨_,Aw,?_⟩|refine⟨_,hr,?_⟩|refine zcB ⟨by rw[hlA];simp;omega,by rw[hlA];simp;omega⟩ ?_|refine bj ab ?_|refine dq λ_=>?_|refine bT ?_|fail))<;>try(conv=>whnf)
   all_goals exact⟨m-1,ab,n+1,w,l++[⟨RN,RE⟩],⟨ab,aH,f1,f2,f3,f4⟩,by rw[aJO];rfl,rfl⟩
 rw[if_neg k0,if_neg k0]at next
 have hAr:∀A:At,A=D2 w.d b x->A4 w.d b x=0->A.rn.l.length<=1000000:=λA e he=>by
  have:=(bZ (ar7 w1 Br (w4 b hbm) he).rn).1;rw[e];omega
 unfold A4 Ib D2 at next
 unfold A4 D2 at hAr;by_cases k1:x.k=1
 ·have hr:fm [w.d.pv,b.pv,pI x.p,.str x.dat] _:=⟨w.d,b,x.p,x.dat,rfl,⟨w1,Br,hwn.2 b hbm,hxd⟩,rfl⟩
  simp only[if_pos k1]at next hAr
  generalize AO w.d b x.p x.dat=E at*;generalize zM w.d b x.p x.dat=D at*;generalize yV w.d b x.p x.dat=A at*;by_cases hE:E=0
  ·rw[if_neg (λh=>h hE),Y4 how]at next
   obtain⟨f1,f2,f3,f4⟩:=next _ rfl
   have hcA:dK [A.pv] _:=⟨A,rfl,hAr A rfl hE,rfl⟩
   have Jq:=LO (aB A)
   (repeat'((conv=>whnf);first|refine au ab ?_|refine⟨_,⟨ab,Wk⟩,?_⟩|refine⟨_,XM,?_⟩|refine aw ab ?_|refine zcB ⟨ab,ab⟩ ?_|refine⟨_,H6,?_⟩|refine⟨_,Aw,?_⟩|refine⟨_,hr,?_⟩|refine⟨_,hcA,?_⟩|refine zcB ⟨by rw[hlA];simp;omega,by rw[hlA];simp;omega⟩ ?_|refine bj ab ?_|refine dq λ_=>?_|refine bT ?_|fail))<;>try(conv=>whnf)
   all_goals exact⟨m-1,ab,n+1,_,l++[⟨[],E⟩],⟨ab,aH,f1,f2,f3,f4⟩,by rw[aJO];exact congrArg (λy=>[_,_,_,dC.row 41 11 true y]) Jq,rfl⟩
  ·rw[if_pos hE]at next
   obtain⟨f1,f2,f3,f4⟩:=next w how
   (repeat'((conv=>whnf);first|refine au ab ?_|refine⟨_,⟨ab,Wk⟩,?_⟩|refine⟨_,XM,?_⟩|refine aw ab ?_|refine zcB ⟨ab,ab⟩ ?_|refine⟨_,H6,?_⟩|refine⟨_,Aw,?_⟩|refine⟨_,hr,?_⟩|refine zcB ⟨by rw[hlA];simp;omega,by rw[hlA];simp;omega⟩ ?_|refine bj ab ?_|refine dq λ_=>?_|refine bT ?_|fail))<;>try(conv=>whnf)
   all_goals exact⟨m-1,ab,n+1,w,l++[⟨[],E⟩],⟨ab,aH,f1,f2,f3,f4⟩,by rw[aJO];rfl,rfl⟩
 simp only[if_neg k1]at next hAr
 by_cases k2:x.k=2
 ·have hr:ko [w.d.pv,b.pv,pI x.n] _:=⟨w.d,b,x.n,rfl,⟨w1,Br⟩,rfl⟩
  simp only[if_pos k2]at next hAr
  generalize Jb w.d b x.n=E at*;generalize Jf w.d b x.n=D at*;generalize LA w.d b x.n=A at*;by_cases hE:E=0
  ·rw[if_neg (λh=>h hE),Y4 how]at next
   obtain⟨f1,f2,f3,f4⟩:=next _ rfl
   have hcA:dK [A.pv] _:=⟨A,rfl,hAr A rfl hE,rfl⟩
   have Jq:=LO (aB A)
   (repeat'((conv=>whnf);first|refine au ab ?_|refine⟨_,⟨ab,Wk⟩,?_⟩|refine⟨_,XM,?_⟩|refine aw ab ?_|refine zcB ⟨ab,ab⟩ ?_|refine⟨_,H6,?_⟩|refine⟨_,Aw,?_⟩|refine⟨_,hr,?_⟩|refine⟨_,hcA,?_⟩|refine zcB ⟨by rw[hlA];simp;omega,by rw[hlA];simp;omega⟩ ?_|refine bj ab ?_|refine dq λ_=>?_|refine bT ?_|fail))<;>try(conv=>whnf)
   all_goals exact⟨m-1,ab,n+1,_,l++[⟨[],E⟩],⟨ab,aH,f1,f2,f3,f4⟩,by rw[aJO];exact congrArg (λy=>[_,_,_,dC.row 41 11 true y]) Jq,rfl⟩
  ·rw[if_pos hE]at next
   obtain⟨f1,f2,f3,f4⟩:=next w how
   (repeat'((conv=>whnf);first|refine au ab ?_|refine⟨_,⟨ab,Wk⟩,?_⟩|refine⟨_,XM,?_⟩|refine aw ab ?_|refine zcB ⟨ab,ab⟩ ?_|refine⟨_,H6,?_⟩|refine⟨_,Aw,?_⟩|refine⟨_,hr,?_⟩|refine zcB ⟨by rw[hlA];simp;omega,by rw[hlA];simp;omega⟩ ?_|refine bj ab ?_|refine dq λ_=>?_|refine bT ?_|fail))<;>try(conv=>whnf)
   all_goals exact⟨m-1,ab,n+1,w,l++[⟨[],E⟩],⟨ab,aH,f1,f2,f3,f4⟩,by rw[aJO];rfl,rfl⟩
 simp only[if_neg k2]at next hAr
 by_cases k3:x.k=3
 ·have hr:Ss [w.d.pv,b.pv,pI x.p,pI x.n] _:=⟨w.d,b,x.p,x.n,rfl,⟨w1,Br⟩,rfl⟩
  simp only[if_pos k3]at next hAr
  generalize jm w.d b x.p x.n=E at*;generalize jU w.d b x.p x.n=D at*;generalize js w.d b x.p x.n=A at*;by_cases hE:E=0
  ·rw[if_neg (λh=>h hE),Y4 how]at next
   obtain⟨f1,f2,f3,f4⟩:=next _ rfl
   have hcA:dK [A.pv] _:=⟨A,rfl,hAr A rfl hE,rfl⟩
   have Jq:=LO (aB A)
   (repeat'((conv=>whnf);first|refine au ab ?_|refine⟨_,⟨ab,Wk⟩,?_⟩|refine⟨_,XM,?_⟩|refine aw ab ?_|refine zcB ⟨ab,ab⟩ ?_|refine⟨_,H6,?_⟩|refine⟨_,Aw,?_⟩|refine⟨_,hr,?_⟩|refine⟨_,hcA,?_⟩|refine zcB ⟨by rw[hlA];simp;omega,by rw[hlA];simp;omega⟩ ?_|refine bj ab ?_|refine dq λ_=>?_|refine bT ?_|fail))<;>try(conv=>whnf)
   all_goals exact⟨m-1,ab,n+1,_,l++[⟨[],E⟩],⟨ab,aH,f1,f2,f3,f4⟩,by rw[aJO];exact congrArg (λy=>[_,_,_,dC.row 41 11 true y]) Jq,rfl⟩
  ·rw[if_pos hE]at next
   obtain⟨f1,f2,f3,f4⟩:=next w how
   (repeat'((conv=>whnf);first|refine au ab ?_|refine⟨_,⟨ab,Wk⟩,?_⟩|refine⟨_,XM,?_⟩|refine aw ab ?_|refine zcB ⟨ab,ab⟩ ?_|refine⟨_,H6,?_⟩|refine⟨_,Aw,?_⟩|refine⟨_,hr,?_⟩|refine zcB ⟨by rw[hlA];simp;omega,by rw[hlA];simp;omega⟩ ?_|refine bj ab ?_|refine dq λ_=>?_|refine bT ?_|fail))<;>try(conv=>whnf)
   all_goals exact⟨m-1,ab,n+1,w,l++[⟨[],E⟩],⟨ab,aH,f1,f2,f3,f4⟩,by rw[aJO];rfl,rfl⟩
 simp only[if_neg k3]at next hAr
 have hr:W9 [w.d.pv,b.pv,pI x.p,x.t.pv] _:=⟨w.d,b,x.p,x.t,rfl,⟨w1,Br⟩,rfl⟩
 generalize dJ w.d b x.p x.t=E at*;generalize jM w.d b x.p x.t=D at*;generalize jG w.d b x.p x.t=A at*;by_cases hE:E=0
 ·rw[if_neg (λh=>h hE),Y4 how]at next
  obtain⟨f1,f2,f3,f4⟩:=next _ rfl
  have hcA:dK [A.pv] _:=⟨A,rfl,hAr A rfl hE,rfl⟩
  have Jq:=LO (aB A)
  (repeat'((conv=>whnf);first|refine au ab ?_|refine⟨_,⟨ab,Wk⟩,?_⟩|refine⟨_,XM,?_⟩|refine aw ab ?_|refine zcB ⟨ab,ab⟩ ?_|refine⟨_,H6,?_⟩|refine⟨_,Aw,?_⟩|refine⟨_,hr,?_⟩|refine⟨_,hcA,?_⟩|refine zcB ⟨by rw[hlA];simp;omega,by rw[hlA];simp;omega⟩ ?_|refine bj ab ?_|refine aN ?_|refine de (λ_=>?_) (λ_=>?_)|refine dq λ_=>?_|refine bT ?_|fail))<;>try(conv=>whnf)
  all_goals exact⟨m-1,ab,n+1,_,l++[⟨[],E⟩],⟨ab,aH,f1,f2,f3,f4⟩,by rw[aJO];exact congrArg (λy=>[_,_,_,dC.row 41 11 true y]) Jq,rfl⟩
 ·rw[if_pos hE]at next
  obtain⟨f1,f2,f3,f4⟩:=next w how
  (repeat'((conv=>whnf);first|refine au ab ?_|refine⟨_,⟨ab,Wk⟩,?_⟩|refine⟨_,XM,?_⟩|refine aw ab ?_|refine zcB ⟨ab,ab⟩ ?_|refine⟨_,H6,?_⟩|refine⟨_,Aw,?_⟩|refine⟨_,hr,?_⟩|refine zcB ⟨by rw[hlA];simp;omega,by rw[hlA];simp;omega⟩ ?_|refine bj ab ?_|refine aN ?_|refine de (λ_=>?_) (λ_=>?_)|refine dq λ_=>?_|refine bT ?_|fail))<;>try(conv=>whnf)
  all_goals exact⟨m-1,ab,n+1,w,l++[⟨[],E⟩],⟨ab,aH,f1,f2,f3,f4⟩,by rw[aJO];rfl,rfl⟩
def awh{v:Vo}{s:Sl Sp}(h:wX v≠0\/(wX v=0/\aox s.l≠0)):ID (bp v) (.sl s.l)=(if wX v≠0 then wX v else aox s.l)/\Sr (bp v) (.sl s.l)=[]/\SV (bp v) (.sl s.l)=TZ:=by
 have e:ID (bp v) (.sl s.l)=if wX v≠0 then wX v else aox s.l:=by
  unfold ID;rw[x_];rfl
 have cb:ID (bp v) (.sl s.l)≠0:=by
  rw[e];rcases h with h|⟨h1,h2⟩
  ·rw[if_pos h];exact h
  ·rw[if_neg (λg=>g h1)];exact h2
 refine⟨e,?_,?_⟩
 ·unfold Sr;rw[if_pos cb]
 ·unfold SV;rw[if_pos cb]
set_option maxHeartbeats 8000000 in
def ahm:MT (ay [(12,ah KL),(13,bF Wr),(57,bF TV),(15,c8 false qM),(59,c8 true ab9),(58,c8 false Oe),(16,ah OA),(60,ah akI),(30,bF acq),(61,c8 false aj9),(45,c8 true akH),(46,bF aeY)]) JE (ah afx):=by
 rintro _ K ⟨_,⟨v,s,rfl,rfl⟩,hK⟩;have lD:KL [] (pB true):=⟨rfl,rfl⟩
 have hfe:Wr [v.pv] _:=⟨v,rfl,rfl⟩
 have yB:TV [Im s] _:=⟨s,rfl,rfl⟩
 by_cases hf:ahf v
 case neg=>
  (repeat'((conv=>whnf);first|refine⟨_,lD,?_⟩|refine⟨_,hfe,?_⟩|refine aw hf ?_|refine aN ?_|refine bP ?_|fail))<;>try(conv=>whnf)
  exact⟨.pv (pB true),rfl,trivial,hK⟩
 by_cases hs:agk s.l
 case neg=>
  (repeat'((conv=>whnf);first|refine⟨_,lD,?_⟩|refine⟨_,hfe,?_⟩|refine au hf ?_|refine⟨_,yB,?_⟩|refine aw hs ?_|refine aN ?_|refine bP ?_|fail))<;>try(conv=>whnf)
  exact⟨.pv (pB true),rfl,trivial,hK⟩
 obtain⟨hb,hr,hn⟩:=hf.b;have qH:s.l.length<=42:=by have:=hs.1.2;omega
 have hC:qM [v.pv] _:=⟨v,rfl,hn,rfl⟩
 have hCs:ab9 [Im s] _:=⟨s,rfl,ab,rfl⟩
 have aho:∀x∈s.l,x.dat.length<=1000000:=λx hx=>by have:=hs.2 x hx;omega
 have c_:Oe [(bp v).pv,Im (.sl s.l)] _:=⟨bp v,.sl s.l,rfl,⟨Og hb,by show s.l.length<=_;omega,aho⟩,rfl⟩
 have hvE:OA [v.pv] _:=⟨v,rfl,⟨hb,hr⟩,rfl⟩
 have hlE:akI [Im s] _:=⟨s,rfl,ab,rfl⟩
 have tT:acq [TZ.pv] _:=⟨TZ,rfl,amO,rfl⟩
 have mD:aqV TZ TZ:=⟨rfl,rfl,rfl⟩
 by_cases he:wX v=0
 case neg=>
  obtain⟨e1,e2,e3⟩:=awh (s:=s) (.inl he);rw[if_pos he]at e1;rw[e1,e2,e3]at c_
  (repeat'((conv=>whnf);first|refine⟨_,lD,?_⟩|refine⟨_,hfe,?_⟩|refine au hf ?_|refine⟨_,yB,?_⟩|refine au hs ?_|refine⟨_,hC,?_⟩|refine⟨_,hCs,?_⟩|refine⟨_,c_,?_⟩|refine⟨_,hvE,?_⟩|refine aw he ?_|refine au he ?_|refine au rfl ?_|refine⟨_,tT,?_⟩|refine au mD ?_|refine aN ?_|refine dq λ_=>?_|refine bT ?_|fail))<;>try(conv=>whnf)
  exact⟨.pv (pB true),rfl,trivial,hK⟩
 by_cases hle:aox s.l=0
 case neg=>
  obtain⟨e1,e2,e3⟩:=awh (s:=s) (.inr ⟨he,hle⟩);rw[if_neg (λg=>g he)]at e1;rw[e1,e2,e3]at c_;rw[he]at hvE
  (repeat'((conv=>whnf);first|refine⟨_,lD,?_⟩|refine⟨_,hfe,?_⟩|refine au hf ?_|refine⟨_,yB,?_⟩|refine au hs ?_|refine⟨_,hC,?_⟩|refine⟨_,hCs,?_⟩|refine⟨_,c_,?_⟩|refine⟨_,hvE,?_⟩|refine au rfl ?_|refine⟨_,hlE,?_⟩|refine au hle ?_|refine⟨_,tT,?_⟩|refine au mD ?_|refine aN ?_|refine dq λ_=>?_|refine bT ?_|fail))<;>try(conv=>whnf)
  exact⟨.pv (pB true),rfl,trivial,hK⟩
 obtain⟨e1,e2,e3⟩:=azx (s:=s) he hle;rw[e1,e2,e3]at c_;rw[he]at hvE;rw[hle]at hlE;have BV:=acx hb he;have Yh:aj9 [v.pv,Im s,pB true] _:=⟨v,s,rfl,⟨BV,ab,aho⟩,rfl⟩
 have hG:KX (bp (Jv v s.l)):=axS (awu ⟨hb,he⟩);have hRR:=aaT (azo (l:=s.l) BV);generalize bp (Jv v s.l)=X at*;generalize Kh v s.l=A at*;have hXE:OA [X.pv] _:=⟨X,rfl,⟨hG.1,hRR.own.2⟩,rfl⟩
 rw[hG.2]at hXE;have CY:akH [X.pv] _:=⟨X,rfl,⟨hG,hRR.own.2⟩,rfl⟩
 have mE:(ac4 X).length<=1000000:=by unfold ac4;rw[zav];exact hG.1.2.2
 have htx:aeY [.sl 1 (Px (ac4 X)),.sl 1 (Px (ac4 X))] _:=⟨_,_,rfl,⟨mE,mE⟩,rfl⟩
 have Ng:(A.map An.pv).length=A.length:=zav _
 (repeat'((conv=>whnf);first|refine⟨_,lD,?_⟩|refine⟨_,hfe,?_⟩|refine au hf ?_|refine⟨_,yB,?_⟩|refine au hs ?_|refine⟨_,hC,?_⟩|refine⟨_,hCs,?_⟩|refine⟨_,c_,?_⟩|refine⟨_,hvE,?_⟩|refine au rfl ?_|refine⟨_,hlE,?_⟩|refine aw (λh=>h rfl) ?_|refine⟨_,Yh,?_⟩|refine aN ?_|refine dq λ_=>?_|refine bT ?_|fail))<;>try(conv=>whnf)
 refine⟨λm env σ=>∃n:Nat,n+m=A.length/\σ=[.row 104 2 true (A.map An.pv),.box 26 [.pv (.str X.d.a_),.pv (.str X.d.mp),.pv (D4 X.st)],.row 104 2 true (A.map An.pv),.box 26 [.pv (.str X.d.a_),.pv (.str X.d.mp),.pv (D4 X.st)]]/\env=[(5,.own 0),(6,.ref 1 0 0),(9,.own 2),(10,.ref 3 0 0),eN 11 n],A.length,⟨0,ab,rfl,rfl⟩,?_⟩;rintro m env σ ⟨n,kp,rfl,rfl⟩;by_cases aU:n<A.length
 ·obtain⟨x,hx⟩:∃x,A[n]?=some x:=⟨_,zah aU⟩
  have Wk:=nS (f:=An.pv) hx
  (repeat'((conv=>whnf);first|refine au ab ?_|refine zcB ⟨ab,ab⟩ ?_|refine⟨_,Wk,?_⟩|refine aw (λh=>h rfl) ?_|refine bj ab ?_|refine dq λ_=>?_|refine bT ?_|fail))<;>try(conv=>whnf)
  exact⟨m-1,ab,n+1,ab,rfl,rfl⟩
 ·(repeat'((conv=>whnf);first|refine aw ab ?_|refine⟨_,CY,?_⟩|refine⟨_,hXE,?_⟩|refine⟨_,htx,?_⟩|refine au rfl ?_|refine dq λ_=>?_|fail))<;>try(conv=>whnf)
  exact⟨.pv (pB true),rfl,trivial,hK⟩
def Bl:bU bb 138 (bF ae7):=JT.sound mixed (aaB nN aq) (b_ _) (by rintro _ _ ⟨_,⟨_,_,rfl,_⟩,_⟩;rfl) aiS
def zP:bU bb 96 (bF ZT):=Qn.sound mixed (aaB Bl aq) (b_ _) (by rintro _ _ ⟨_,⟨_,_,rfl,_⟩,_⟩;rfl) aji
def Aa:bU bb 34 (bF Uq):=ajw.sound mixed (aaB zP aq) (b_ _) (by rintro _ _ ⟨_,⟨_,_,rfl,_⟩,_⟩;rfl) am9
def adH:bU bb 17 (ah adG):=acF.sound mixed (aaB bw aq) (ax _) (by rintro _ _ ⟨_,⟨_,_,rfl,_⟩,_⟩;rfl) aq2
def Bo:bU bb 30 (bF acq):=ai0.sound mixed (aaB Aa aq) (b_ _) (by rintro _ _ ⟨_,⟨_,rfl,_⟩,_⟩;rfl) aob
def Vy:bU bb 61 (c8 false aj9):=alb.sound mixed (aaB eO (aaB adH (aaB bo (aaB rr (aaB aaC (aaB gk (aaB CR (aaB EY aq)))))))) (dQ _ _) (by rintro _ _ ⟨_,⟨_,_,rfl,_⟩,_⟩;rfl) anX
def FY:bU bb 10 (ah afx):=abv.sound mixed (aaB nW (aaB sR (aaB Bz (aaB eO (aaB GI (aaB Du (aaB ox (aaB KR (aaB Bo (aaB Vy (aaB KV (aaB Q6 aq)))))))))))) (ax _) (by rintro _ _ ⟨_,⟨_,_,rfl,_⟩,_⟩;rfl) ahm
end Go.Dv.Try
