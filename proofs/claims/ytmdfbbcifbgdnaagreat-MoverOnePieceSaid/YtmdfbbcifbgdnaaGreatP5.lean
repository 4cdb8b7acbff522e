/- Own work: parts of the proof, shortened and laid together by a tool of our own. -/
import Derived.Test.YtmdfbbcifbgdnaaGreatP4
import Derived.KernelRfl
set_option linter.defProp false
set_option linter.unusedSimpArgs false
set_option linter.unusedVariables false
open List renaming mem_of_getElem?→OF, length_map→PX, getElem?_eq_getElem→OO, mem_singleton→ZT, getElem?_eq_none→RP, eq_nil_or_concat→zay, concat_eq_append→zaz, length_singleton→WA, getElem?_eq_some_iff→Oe, getElem?_map→TC, mem_cons→Qg, pairwise_singleton→zaL, foldl_cons→TX, getElem?_take_of_lt→Y3, ext_getElem?→TJ, flatMap_cons→Pj, drop_of_length_le→zaA, take_of_length_le→S1, length_take→O4, length_cons→Pb, mem_iff_getElem?→Rr, mem_map→SD, mem_append→Qq, mem_cons_of_mem→zbc, length_append→Ow, getElem?_drop→QR, range'_succ→zbd, take_length→zar, filterMap_cons_some→zbe, map_append→UO, nil_append→SV, append_nil→TW, filter_eq_nil_iff→zbf, filterMap_append→zbg, pairwise_append→zaI, map_cons→PM, filter_eq_self→W4, pairwise_cons→zbh, filterMap_map→zbi, append_assoc→OY, not_mem_nil→Zd, mem_filter→Uq
open Int renaming toNat_natCast→QT
open Option renaming getD_some→Vh
open And renaming intro→Yk
open Nat renaming le_refl→OS, add_assoc→RN
namespace Go.Dv.Try
open Go Go.Dv
def aaT{v:Vo}(h:Fi v):Fi (bp v):=by
 obtain⟨⟨h1,h2,h3⟩,h4⟩:=h;have hl:(bp v).st.l=v.st.l.map aB:=rfl;refine⟨⟨h1,by rw[hl,PX];exact h2,λa ha=>?_⟩,λa ha=>?_⟩<;>
 ·rw[hl]at ha;obtain⟨b,hb,rfl⟩:=SD.1 ha;first|exact h3 b hb|exact h4 b hb
def UP(ps:List PV)(r:RV):Prop:=∃(v:Vo) (s:Sl Mv),ps=[v.pv,OI s]/\(Fi v/\s.l.length<=1000000)/\r=.tup [.pv (ey v s).1.pv,.pv (pI (ey v s).2.1),.pv (pI (ey v s).2.2)]
set_option maxHeartbeats 4000000 in
def ahr:MT (ay [(15,c8 false qM),(43,c8 false Y_)]) P4 (c8 false UP):=by
 rintro _ K ⟨_,⟨v,s,rfl,⟨hv,hs⟩,rfl⟩,hK⟩;have gJ:(s.l.map Mv.pv).length=s.l.length:=PX _;unfold ey at hK;by_cases hl:s.l.length<=300
 case neg=>
  rw[if_neg hl]at hK
  (repeat'((conv=>whnf);first|refine KP ?_|refine au ab ?_|refine dq λ_=>?_|refine bT ?_|fail))<;>try(conv=>whnf)
  exact⟨[.pv TZ.pv,.pv (pI 0),.pv (pI 8)],⟨rfl,rfl,rfl,trivial⟩,trivial,hK⟩
 rw[if_pos hl]at hK;have hC:qM [v.pv] _:=⟨v,rfl,⟨by have:=hv.own;omega,hv.own.2⟩,rfl⟩
 (repeat'((conv=>whnf);first|refine KP ?_|refine aw ab ?_|refine⟨_,hC,?_⟩|refine dq λ_=>?_|refine bT ?_|fail))<;>try(conv=>whnf)
 refine⟨λm env σ=>∃(n:Nat) (w:Vo),(n+m=s.l.length/\Fi w/\bp w=w/\(PU v 0 s.l).2=(PU w n (s.l.drop n)).2/\bp (PU v 0 s.l).1=bp (PU w n (s.l.drop n)).1)/\
  ((n=0/\w=bp v/\σ=[.box 26 [.pv (.str []),.pv (.str []),.pv (.nil 11)],.box 26 [.pv (.str v.d.a_),.pv (.str v.d.mp),.own 2],.row 41 11 true ((v.st.l.map aB).map At.pv)])\/
    σ=[.box 26 [.pv (.str []),.pv (.str []),.pv (.nil 11)],.box 26 [.pv (.str w.d.a_),.pv (.str w.d.mp),.pv (D4 w.st)]])/\
  env=[(1,.pv (OI s)),(4,.ref 0 0 0),(7,.ref 1 0 0),eN 8 n],s.l.length,⟨0,bp v,⟨ab,aaT hv,vE v,(ae7 v s.l 0).1.symm,(ae7 v s.l 0).2.symm⟩,.inl ⟨rfl,rfl,rfl⟩,rfl⟩,?_⟩
 rintro m env σ ⟨n,w,⟨hn,hw,Ma,vA,mU⟩,hσ,rfl⟩;have Ss:(bp v).pv=.agg [.str v.d.a_,.str v.d.mp,.sl 11 ((v.st.l.map aB).map At.pv)]:=rfl;by_cases aU:n<s.l.length
 ·obtain⟨a,ha⟩:∃a,s.l[n]?=some a:=⟨_,OO aU⟩
  have qH:OI s=.sl 4 (s.l.map Mv.pv):=Sl.zN ha;have lR:=oa (f:=Mv.pv) ha;have uk:Y_ [w.pv,a.pv] _:=⟨w,a,rfl,hw,rfl⟩
  rw[drop_cons ha]at vA mU;have hB:PU w n (a::s.l.drop (n+1))=if ub w a≠0 then(w,(n:Int),ub w a)else PU (nX w a) (n+1) (s.l.drop (n+1)):=rfl;rw[hB]at vA mU;rw[qH];by_cases he:ub w a=0
  case neg=>
   rw[if_pos he]at vA;rw[vA,if_pos he]at hK;rcases hσ with⟨rfl,rfl,rfl⟩|rfl
   ·rw[Ss]at uk
    (repeat'((conv=>whnf);first|refine au ab ?_|refine⟨_,⟨ab,lR⟩,?_⟩|refine⟨_,uk,?_⟩|refine dq λ_=>?_|refine bT ?_|fail))<;>try(conv=>whnf)
    exact⟨[.pv TZ.pv,.pv (pI _),.pv (pI _)],⟨rfl,rfl,rfl,trivial⟩,trivial,hK⟩
   ·(repeat'((conv=>whnf);first|refine au ab ?_|refine⟨_,⟨ab,lR⟩,?_⟩|refine⟨_,uk,?_⟩|refine dq λ_=>?_|refine bT ?_|fail))<;>try(conv=>whnf)
    exact⟨[.pv TZ.pv,.pv (pI _),.pv (pI _)],⟨rfl,rfl,rfl,trivial⟩,trivial,hK⟩
  ·have Hw:fW w a=bp (nX w a):=by unfold fW;rw[if_neg (λh=>h he)]
   rw[Hw]at uk;rw[if_neg (λh=>h he)]at vA mU;have Gs:∀k:Nat,k=n+1->Fi (bp (nX w a))/\bp (bp (nX w a))=bp (nX w a)/\(PU v 0 s.l).2=(PU (bp (nX w a)) (k:Nat) (s.l.drop k)).2/\bp (PU v 0 s.l).1=bp (PU (bp (nX w a)) (k:Nat) (s.l.drop k)).1:=λk hk=>by
    subst hk;obtain⟨g1,g2⟩:=ae7 (nX w a) (s.l.drop (n+1)) ((n+1:Nat):Int);exact⟨aaT (aql hw a),vE _,by rw[g1];exact vA,by rw[g2];exact mU⟩
   obtain⟨k1,k2,k3,k4⟩:=Gs (n+1) rfl;rcases hσ with⟨rfl,rfl,rfl⟩|rfl
   ·rw[Ss]at uk
    (repeat'((conv=>whnf);first|refine au ab ?_|refine⟨_,⟨ab,lR⟩,?_⟩|refine⟨_,uk,?_⟩|refine aw (λh=>h he) ?_|refine bj ab ?_|refine dq λ_=>?_|refine bT ?_|fail))<;>try(conv=>whnf)
    exact⟨m-1,ab,0+1,bp (nX (bp v) a),⟨ab,k1,k2,k3,k4⟩,.inr rfl,rfl⟩
   ·(repeat'((conv=>whnf);first|refine au ab ?_|refine⟨_,⟨ab,lR⟩,?_⟩|refine⟨_,uk,?_⟩|refine aw (λh=>h he) ?_|refine bj ab ?_|refine dq λ_=>?_|refine bT ?_|fail))<;>try(conv=>whnf)
    exact⟨m-1,ab,n+1,bp (nX w a),⟨ab,k1,k2,k3,k4⟩,.inr rfl,rfl⟩
 ·rw[zaA ab]at vA mU;have hB:PU w n []=(w,0,0):=rfl;rw[hB]at vA mU;rw[vA,if_neg (λh=>h rfl),mU]at hK;simp only at hK;rw[Ma]at hK;rcases hσ with⟨rfl,rfl,rfl⟩|rfl
  ·(repeat'((conv=>whnf);first|refine KP ?_|refine aw ab ?_|refine dq λ_=>?_|refine bT ?_|fail))<;>try(conv=>whnf)
   exact⟨[.pv (bp v).pv,.pv (pI _),.pv (pI 0)],⟨rfl,rfl,rfl,trivial⟩,trivial,hK⟩
  ·(repeat'((conv=>whnf);first|refine KP ?_|refine aw ab ?_|refine dq λ_=>?_|refine bT ?_|fail))<;>try(conv=>whnf)
   exact⟨[.pv w.pv,.pv (pI _),.pv (pI 0)],⟨rfl,rfl,rfl,trivial⟩,trivial,hK⟩
def akH(ps:List PV)(r:RV):Prop:=∃v:Vo,ps=[v.pv]/\(nS v∧∀a∈v.st.l,a.rn.l.length<=1000000)/\r=.tup [.fresh 9 1 (Px (ac4 v)),.pv (pB true)]
def arJ(l:List (List UInt8)):∀x∈Px l,x.flat:=by
 intro x hx;obtain⟨b,_,rfl⟩:=SD.1 hx;exact trivial
set_option maxHeartbeats 4000000 in
def aou:MT (ay [(55,c8 false dK),(102,c8 true fi)]) ME (c8 true akH):=by
 rintro _ K ⟨_,⟨v,rfl,⟨hv,hr⟩,rfl⟩,hK⟩;have hlen:=hv.1.2.2;have sM:=(AZ.1 hv.2).2.2.1;have mE:(ac4 v).length=v.st.l.length:=PX _
 (conv=>whnf)
 refine⟨λm env σ=>∃n:Nat,n+m=v.st.l.length/\σ=[.box 26 [.pv (.str v.d.a_),.pv (.str v.d.mp),.pv (D4 v.st)],.row 9 1 true (Px ((ac4 v).take n))]/\env=[(1,.ref 0 0 0),(4,.own 1),eN 5 n],v.st.l.length,⟨0,ab,rfl,rfl⟩,?_⟩;rintro m env σ ⟨n,hn,rfl,rfl⟩;by_cases aU:n<v.st.l.length
 ·obtain⟨a,ha⟩:∃a,v.st.l[n]?=some a:=⟨_,OO aU⟩
  have HA:=OF ha;have qH:D4 v.st=.sl 11 (v.st.l.map At.pv):=Sl.zN ha;have lR:=oa (f:=At.pv) ha;have h0:=sM a HA;have Aw:dK [a.pv] _:=⟨a,rfl,hr a HA,rfl⟩
  have CY:fi [v.d.pv,(aB a).pv] _:=⟨v.d,aB a,rfl,⟨hv.1.1,hv.1.2.1 a HA⟩,rfl⟩
  have e1:auS v.d (aB a)=aV (ar v.d a):=by unfold auS;rw[kU,h0,Hm];rfl
  rw[kU,h0,e1]at CY;have hl:(Px ((ac4 v).take n)).length=n:=by unfold Px;rw[PX,O4];omega
  have ht:Px ((ac4 v).take (n+1))=Px ((ac4 v).take n)++[.str (aV (ar v.d a))]:=by
   rw[List.take_add_one,show(ac4 v)[n]?=some (aV (ar v.d a)) by unfold ac4;rw[TC,ha];rfl];unfold Px;rw[UO];rfl
  generalize Px ((ac4 v).take n)=T at*;rw[qH]
  (repeat'((conv=>whnf);first|refine au ab ?_|refine⟨_,⟨ab,lR⟩,?_⟩|refine⟨_,Aw,?_⟩|refine⟨_,CY,?_⟩|refine Yk ⟨by rw[hl];simp;omega,by rw[hl];simp;omega⟩ ?_|refine bj ab ?_|refine aw ab ?_|refine dq λ_=>?_|refine bT ?_|fail))<;>try(conv=>whnf)
  exact⟨m-1,ab,n+1,ab,by rw[ht],rfl⟩
 ·(repeat'((conv=>whnf);first|refine KP ?_|refine aw ab ?_|refine dq λ_=>?_|fail))<;>try(conv=>whnf)
  rw[S1 ab];exact⟨[.fresh _ _ _,.pv (.bool true)],⟨⟨rfl,rfl,rfl,rfl⟩,rfl,trivial⟩,⟨arJ _,trivial,trivial⟩,hK⟩
def PI:At:=⟨128,[],0,0,false,[],0,.sl [⟨4,2⟩,⟨8,1⟩],768,700,700⟩
def Ax:At:=⟨128,[98],1,0,false,[],0,.sl [⟨6,2⟩],512,512,512⟩
def hH:Dk:=⟨ai 16384,255::1::ai 6⟩
def I7:Vo:=⟨hH,.sl [PI,Ax]⟩
def Ci:Mv:=⟨1,0,⟨9,2⟩⟩
def arc:hH.n=64:=by
 unfold Dk.n hH;rw[aW]
def aAm:fH hH:=⟨by show(ai 16384).length<=_;rw[aW];decide,ao⟩
def azD:gm hH=0:=by
 unfold gm;rw[arc,show hH.a_=ai 16384 from rfl,aW,if_neg ao,if_neg ao];show nu (255::1::ai 6) 64=0;decide+kernel
def azg{l:List Int}(h:(∀a∈l,a<64/\(a≠ -1->bH (255::1::ai 6) a.toNat≠0))):pG hH l=0:=by
 unfold pG;rw[arc,if_neg,if_neg]
 ·rintro⟨a,ha,h1,h2⟩;exact(h a ha).2 h1 h2
 ·rintro⟨a,ha,h1⟩;have:=(h a ha).1;omega
def azz{a:At}(h1:oT a=0)(h2:a.rs=false)(h3:a.fl=0)(h4:∀x∈az a.rn.l,x<64/\(x≠ -1->bH (255::1::ai 6) x.toNat≠0))(h5:a.al=bt (az a.rn.l)*256/\((az a.rn.l).length:Int)=(a.sz+255)/256/\bt (az a.rn.l)=(az a.rn.l).length):aK hH a=0:=by
 have hs:iW a (az a.rn.l)=0:=by
  unfold iW;rw[if_pos];unfold lJ;rw[h3,if_neg ao];exact⟨h5.1,h5.2.1,.inr h5.2.2⟩
 unfold aK;rw[azD,h1,h2,azg h4,hs,h3];simp
def aAo:aK hH PI=0:=azz LM rfl rfl LM LM
def aza:aK hH Ax=0:=azz LM rfl rfl LM LM
def agt:wX I7=0:=by
 refine AZ.2 ⟨azD,ao,λa ha=>?_,?_⟩
 ·rcases Qg.1 ha with rfl|ha
  ·exact aAo
  ·rw[ZT]at ha;subst ha;exact aza
 ·refine zbh.2 ⟨λb hb=>?_,zaL _ _⟩;rw[ZT]at hb;subst hb;intro c h1 h2;have e1:az PI.rn.l=[4,5,8]:=LM;have e2:az Ax.rn.l=[6,7]:=LM;rw[e1]at h1;rw[e2]at h2;simp only[Qg,Zd,or_false]at h1 h2;omega
def adj:vf I7:=by
 refine⟨aAm,λa ha=>?_,ao⟩;rcases Qg.1 ha with rfl|ha
 ·decide
 ·rw[ZT]at ha;subst ha;decide
def azn:ub I7 Ci=0:=by
 have hk:0<=Ci.k/\Ci.k<=(I7.st.l.length:Int)-1:=⟨ao,ao⟩
 have e0:I7.st.l[Ci.k.toNat]?=some Ax:=Oe.2 ⟨ao,rfl⟩;have e:ni I7 Ci.k=Ax:=by unfold ni;rw[e0];rfl
 have e2:dJ I7.d Ax Ci.p Ci.t=dJ hH Ax 0 ⟨9,2⟩:=rfl;unfold ub;rw[if_neg (λh=>h hk),e,e2,(azk aza).1];have hm:SJ (ar hH Ax) 0 ⟨9,2⟩=0:=by
  have dB:=arc;have e3:((cQ (df hH) 64).drop (9:Int).toNat).take (2:Int).toNat=[false,false]:=by
   have:df hH=λc=>decide (bH (255::1::ai 6) c=1):=rfl
   rw[this];decide+kernel
  have a2:Pv (ar hH Ax) 0 ⟨9,2⟩:=by
   have e:(ar hH Ax).d.n=64:=arc;unfold Pv;rw[e];decide
  have a4:(ar hH Ax).pl=[6,7]:=(show az Ax.rn.l=[6,7] by decide+kernel)
  have a5:¬true∈((cQ (df (ar hH Ax).d) (ar hH Ax).d.n).drop (9:Int).toNat).take (2:Int).toNat:=by
   have e:cQ (df (ar hH Ax).d) (ar hH Ax).d.n=cQ (df hH) 64:=by
    show cQ (df hH) hH.n=_;rw[dB]
   rw[e,e3];decide
  unfold SJ;rw[if_neg (λh=>nomatch h),if_neg (λh=>h a2),a4,if_neg ao,if_neg LM,if_neg a5]
 unfold fE;rw[if_neg (λh=>h hm),if_neg];rintro(h|h)
 ·revert h;decide+kernel
 ·revert h;decide+kernel
def alI{P:Nat->Prop}{k:Nat}:∀n,(∀c,c<n->(P c↔k<=c))->ae P n=if n<=k then[]else[⟨k,(n:Int)-k⟩]
 |0,_=>by simp[ae]
 |n+1,h=>by
  have ih:=alI n λc hc=>h c ab
  by_cases hn:k<=n
  ·rw[N0 ((h n ab).2 hn),ih];by_cases e:n<=k
   ·rw[if_pos e,if_neg ab,Hu];have:n=k:=ab;subst this;congr 2;omega
   ·rw[if_neg e,if_neg ab];show cO ([]++[_]) _=_;rw[xw,if_pos (by simp only;omega)];simp only[SV];congr 2;omega
  ·rw[GJ (λg=>hn ((h n ab).1 g)),ih,if_pos ab,if_pos ab]
def akN{d:Dk}:∀{l:List At} {o:List Int} {i:Int},(FH d o i l).2=0→∀c,(ac5 o i l)[c]?.getD 0=yL c (o[c]?.getD 0) i l
 |[],o,i,_,c=>rfl
 |a::l,o,i,h,c=>by
  obtain⟨h0,o',ho,h2⟩:=aeW h;have e1:ac5 o i (a::l)=ac5 o' (i+1) l:=by
   show ac5 ((Wi o i (xM a.rn.l)).getD o) _ _=_;rw[ho];rfl
  have e2:yL c (o[c]?.getD 0) i (a::l)=yL c (if c∈Dc a then i else o[c]?.getD 0) (i+1) l:=rfl;rw[e1,e2,akN h2 c,aa8 ho c,R_ h0]
def ah7{v:Vo}(h:U1 v):ct v=b8 v:=by
 have h1:=yx v;have h2:=aj3 v;refine TJ λc=>?_
 by_cases hc:c<v.d.n
 ·rw[aiZ hc];have h3:=akN h.ch c;have h4:(Fu v.d)[c]?.getD 0=xd v.d c:=by
   unfold Fu;rw[TC,List.getElem?_range hc];rfl
  rw[h4]at h3;have h5:(ct v)[c]?=some ((ct v)[c]?.getD 0):=by
   rw[OO ab];rfl
  rw[h5];exact congrArg some h3
 ·rw[RP ab,RP ab]
def atp{d:Dk}{a:At}(h:aK d a=0){c:Nat}(hc:c∈xM a.rn.l):bH d.mp c=1/\c<d.n:=by
 have hr:=Bd h;have hp:=(abi λr ic=>(hr r ic).imp id (·.1)).1 hc;exact⟨QX h hp,by
  obtain⟨r,Ql,Wo⟩:=List.mem_flatMap.1 hc;have h5:=hr r Ql;unfold kx at Wo;split at Wo
  ·exact absurd Wo aj
  ·rw[List.mem_range'_1]at Wo;omega⟩
def aie{c:Nat}:∀{l:List At} {o i:Int},(∀a∈l,c∉Dc a)->yL c o i l=o
 |[],_,_,_=>rfl
 |a::l,o,i,h=>by
  show yL c (if c∈Dc a then i else o) (i+1) l=o;rw[if_neg (h a aj)];exact aie λx hx=>h x iP
def aid{c:Nat}:∀{l:List At} {o i:Int},0<=i->((∃a∈l,c∈Dc a)\/0<=o)->0<=yL c o i l
 |[],_,_,_,h=>h.elim (λ⟨_,h,_⟩=>bV) id
 |a::l,o,i,hi,h=>by
  show 0<=yL c (if c∈Dc a then i else o) (i+1) l;refine aid ab ?_;by_cases g:c∈Dc a
  ·rw[if_pos g];exact .inr hi
  ·rw[if_neg g];rcases h with⟨x,hx,uu⟩|h
   ·rcases Qg.1 hx with rfl|hx
    ·exact absurd uu g
    ·exact .inl ⟨x,hx,uu⟩
   ·exact .inr h
def axp{v:Vo}(h:U1 v){c:Nat}(hc:c<v.d.n):(∃a∈v.st.l,c∈Dc a)/\bH v.d.mp c=1/\0<=yL c (xd v.d c) 0 v.st.l\/(∀a∈v.st.l,c∉Dc a)/\yL c (xd v.d c) 0 v.st.l=xd v.d c:=by
 by_cases g:∃a∈v.st.l,c∈Dc a
 ·left;refine⟨g,?_,aid ab (.inl g)⟩;obtain⟨a,ha,Mq⟩:=g;rw[R_ (h.op a ha)]at Mq;exact(atp (h.op a ha) Mq).1
 ·right;have g2:∀a∈v.st.l,c∉Dc a:=λa ha Mq=>g ⟨a,ha,Mq⟩
  exact⟨g2,aie g2⟩
def atL{v:Vo}(h:U1 v){c:Nat}(hc:c<v.d.n):(ct v)[c]?=some (-1)↔¬bH v.d.mp c=1:=by
 rw[ah7 h,aiZ hc];have hb:xd v.d c=if bH v.d.mp c=1 then-2 else-1:=rfl
 rcases axp h hc with⟨_,h2,h3⟩|⟨_,h2⟩
 ·constructor
  ·intro e;have:=Option.some.inj e;omega
  ·intro e;exact absurd h2 e
 ·rw[h2,hb];constructor
  ·intro e g;rw[if_pos g]at e;have:=Option.some.inj e;omega
  ·intro g;rw[if_neg g]
def aiJ{P Q:Nat->Prop}:∀n,(∀c,c<n->(P c↔Q c))->ae P n=ae Q n
 |0,_=>rfl
 |n+1,h=>by
  have ih:=aiJ n λc hc=>h c ab
  by_cases g:P n
  ·rw[N0 g,N0 ((h n ab).1 g),ih]
  ·rw[GJ g,GJ (λk=>g ((h n ab).2 k)),ih]
def awy{v:Vo}(h:U1 v):DS v=acZ v.d:=by
 unfold DS acZ;rw[yx];refine aiJ _ λc hc=>?_
 unfold aqZ;rw[atL h hc];exact⟨λh=>h.1,λh=>⟨h,trivial⟩⟩
def Ua:∀(n:Nat) (p:List Rn) (s k:Int) (c:Nat),s+k=c->(List.range' c n).foldl (λ(acc:List Rn) (c:Nat)=>cO acc (c:Int)) (p++[⟨s,k⟩])=p++[⟨s,k+n⟩]
 |0,p,s,k,c,_=>by simp
 |n+1,p,s,k,c,h=>by
  rw[zbd,TX,xw,if_pos (by simp only;omega)];rw[Ua n p s (k+1) (c+1) ab];congr 3;omega
def asz{acc:List Rn}{r:Rn}(h:r.s= -1\/(0<=r.s/\1<=r.n)):(kx r).foldl (λ(acc:List Rn) (c:Nat)=>cO acc (c:Int)) acc=cg acc r:=by
 by_cases hs:r.s= -1
 ·unfold kx cg;rw[if_pos hs,if_pos hs];rfl
 ·have h:=h.resolve_left hs;have e:kx r=List.range' r.s.toNat r.n.toNat:=by unfold kx;rw[if_neg hs]
  obtain⟨n,hn⟩:∃n,r.n.toNat=n+1:=⟨r.n.toNat-1,ab⟩
  have ZI:((r.s.toNat:Nat):Int)=r.s:=ab;have LD:(1:Int)+(n:Nat)=r.n:=ab;rw[e,hn,zbd,TX];rcases zay acc with rfl|⟨p,q,rfl⟩
  ·rw[Hu,aac hs];have:=Ua n [] ((r.s.toNat:Nat):Int) 1 (r.s.toNat+1) ab;rw[SV]at this;rw[this,ZI,LD];rfl
  ·simp only[zaz];rw[xw,Sj hs];by_cases g:q.s+q.n=r.s
   ·rw[if_pos ab,if_pos g,Ua n p q.s (q.n+1) (r.s.toNat+1) ab];congr 3;omega
   ·rw[if_neg ab,if_neg g,Ua n (p++[q]) _ 1 (r.s.toNat+1) ab,ZI,LD]
def auW{l:List Rn}(h:∀r∈l,r.s= -1\/(0<=r.s/\1<=r.n)):LZ (xM l)=Yd l:=by
 have main:∀(l:List Rn) (acc:List Rn),(∀r∈l,r.s= -1\/(0<=r.s/\1<=r.n))->(xM l).foldl (λ(acc:List Rn) (c:Nat)=>cO acc (c:Int)) acc=l.foldl cg acc:=by
  intro l
  induction l with
  |nil=>intro acc _;rfl
  |cons r l ih=>
   intro acc h;have e:xM (r::l)=kx r++xM l:=Pj;rw[e,List.foldl_append,asz (h r aj),ih _ λx hx=>h x iP];rfl
 exact main l [] h
def amk{d:Dk}{a:At}(h:aK d a=0):LZ (Dc a)=Yd a.rn.l:=by
 rw[R_ h];refine auW λr hr=>?_
 have h1:=Bd h r hr;have h2:=rG ((bZ (bc h).1.rn).2.2.2 r hr);rcases h1 with h1|h1
 ·exact .inl h1
 ·exact .inr ⟨h1.1,h2.1.1⟩
def amg:∀(l:List Rn) (b:Rn),(Ot b l).n=l.foldl (λm r=>max m r.n) b.n
 |[],b=>rfl
 |x::l,b=>by
  show(Ot (if b.n<x.n then x else b) l).n=(l.foldl (λm r=>max m r.n) (max b.n x.n))
  rw[amg l];congr 1;split<;>omega
def auw{l:List Rn}(h:∀r∈l,0<=r.n):akU l=anU l:=by
 cases l with
 |nil=>rfl
 |cons b l=>
  have hb:=h b aj;show(Ot b l).n=l.foldl (λm r=>max m r.n) (max 0 b.n);rw[amg,show max 0 b.n=b.n by omega]
def asm{d:Dk}:∀{l:List At},(∀a∈l,aK d a=0)->XT l=Nd l
 |[],_=>rfl
 |a::l,h=>by
  have ih:=asm (l:=l) λx hx=>h x iP
  unfold XT Nd at*;rw[PM,PM,List.sum_cons,List.sum_cons,ih,amk (h a aj)]
def alK{v:Vo}(h:U1 v):Zi v=eJ v:=by
 unfold Zi eJ;rw[awy h,asm h.op,auw λr hr=>by have:=(ah9 (λc=>¬bH v.d.mp c=1) v.d.n).1 r hr;omega]
def akG(ps:List PV)(r:RV):Prop:=ps=[]/\r=.pv I7.pv
set_option maxHeartbeats 2000000 in
def an0:MT (ay [(97,ah Xs)]) S2 (c8 false akG):=by
 rintro _ K ⟨_,⟨rfl,rfl⟩,hK⟩;obtain⟨Z,hZ⟩:∃Z,Z=ai (16384:Int).toNat:=⟨_,rfl⟩
 have hl:Z.length=16384:=by rw[hZ,aW];rfl
 have e:I7.pv=.agg [.str Z,.str (255::1::ai 6),.sl 11 [PI.pv,Ax.pv]]:=by rw[hZ];rfl
 have hz:Xs [pI 16384] (.str Z):=⟨16384,rfl,ab,by rw[hZ]⟩
 have Am:Xs [pI 6] (.str (ai 6)):=⟨6,rfl,ab,rfl⟩
 rw[e]at hK;clear hZ e;have hle:((([255,1]:List UInt8).length+(ai 6).length:Nat):Int)<=9223372036854775807:=by rw[aW];decide
 (repeat'((conv=>whnf);first|refine⟨_,hz,?_⟩|refine⟨_,Am,?_⟩|refine Yk hle ?_|refine bT ?_|fail))<;>try(conv=>whnf)
 exact FI
def azf:NH I7=⟨3,55,1,55⟩:=by
 have hk:=P0 adj agt;have hf:acZ I7.d=[⟨9,55⟩]:=by
  unfold acZ;rw[show I7.d.n=64 from arc];have h:=alI (P:=λc=>¬bH I7.d.mp c=1) (k:=9) 64 (by
   have e:I7.d.mp=255::1::ai 6:=rfl;rw[e];intro c hc;have:∀c:Fin 64,(¬bH (255::1::ai 6) c.val=1↔9<=c.val):=LM;exact this ⟨c,hc⟩)
  rw[h,if_neg ao];rfl
 unfold NH;rw[if_neg (λh=>h agt),alK hk];unfold eJ;rw[hf];have:Nd I7.st.l=3:=by
  show Nd [PI,Ax]=3;decide+kernel
 rw[this];rfl
def awb:LI I7 0=0:=by
 unfold LI;rw[if_neg (λh=>h agt),if_pos ⟨ao,ao⟩]
def azv:fm I7 0=[⟨4,2⟩,⟨8,1⟩]:=by
 unfold fm;rw[if_neg (λh=>h awb)];have e0:I7.st.l[(0:Int).toNat]?=some PI:=rfl;have e:ni I7 0=PI:=by unfold ni;rw[e0];rfl
 rw[e];decide+kernel
def azj:akj I7 Ci=0/\(afD I7 Ci).length=4:=by
 have e:akj I7 Ci=0:=by unfold akj;rw[if_neg (λh=>h agt)];exact azn
 refine⟨e,?_⟩;unfold afD;rw[if_neg (λh=>h e)];rfl
def awc:NY I7 9 1 I7.d.n=0/\NY I7 8 1 I7.d.n=18:=by
 have en:I7.d.n=64:=arc;rw[en];have r9:aos (255::1::ai 6) 64 9=0:=LM;have r8:aos (255::1::ai 6) 64 8=18:=LM;constructor
 ·unfold NY;rw[if_neg (λh=>h agt),if_pos ⟨ao,ao⟩,en];exact r9
 ·unfold NY;rw[if_neg (λh=>h agt),if_pos ⟨ao,ao⟩,en];exact r8
def KL(ps:List PV)(x:PV):Prop:=ps=[]/\x=pB true
set_option maxHeartbeats 4000000 in
def an8:MT (ay [(62,c8 false akG),(22,c8 true HW),(14,c8 false A8),(42,c8 false N7),(27,c8 false IE),(18,bF jW)]) WC (ah KL):=by
 rintro _ K ⟨_,⟨rfl,rfl⟩,hK⟩;have lQ:akG [] (.pv I7.pv):=⟨rfl,rfl⟩
 have ed:HW [I7.pv] (.tup [.pv (NH I7).pv,.pv (pI (wX I7))]):=⟨I7,rfl,adj,rfl⟩
 have s7:A8 [I7.pv,pI 0] _:=⟨I7,0,rfl,adj,rfl⟩
 have fM:N7 [I7.pv,.agg [pI 1,pI 0,pI 9,pI 2]] _:=⟨I7,Ci,rfl,adj,rfl⟩
 have h9:IE [I7.pv,pI 9] _:=⟨I7,9,rfl,adj,rfl⟩
 have h8:IE [I7.pv,pI 8] _:=⟨I7,8,rfl,adj,rfl⟩
 obtain⟨s1,s2⟩:=azj;rw[agt,azf]at ed;rw[azv,awb]at s7;rw[s1]at fM;rw[awc.1]at h9;rw[awc.2]at h8;have qH:((afD I7 Ci).map Vo.pv).length=4:=by rw[PX];exact s2
 generalize (afD I7 Ci).map Vo.pv=L at*;generalize SE I7 9 1 I7.d.n=X9 at*;generalize SE I7 8 1 I7.d.n=X8 at*;generalize I7=V at*;have QL:jW [.sl 2 [.agg [pI 4,pI 2],.agg [pI 8,pI 1]],.sl 2 [.agg [pI 4,pI 2],.agg [pI 8,pI 1]]] _:=⟨.sl [⟨4,2⟩,⟨8,1⟩],.sl [⟨4,2⟩,⟨8,1⟩],rfl,ao,rfl⟩
 (repeat'((conv=>whnf);first|refine⟨_,lQ,?_⟩|refine⟨_,ed,?_⟩|refine⟨_,s7,?_⟩|refine⟨_,fM,?_⟩|refine⟨_,h9,?_⟩|refine⟨_,h8,?_⟩|refine⟨_,QL,?_⟩|refine au rfl ?_|refine au ab ?_|refine dq λ_=>?_|refine bT ?_|fail))<;>try(conv=>whnf)
 exact⟨.pv (pB true),rfl,trivial,hK⟩
def aqa{d:Dk}:∀(l:List At) (o:List Int) (i:Int),FH d o i (l.map aB)=FH d o i l
 |[],_,_=>rfl
 |a::l,o,i=>by
  rw[PM];unfold FH;rw[kU,awk];split
  ·rfl
  ·split
   ·rfl
   ·exact aqa l _ _
def amC(v:Vo):ZX (bp v)=ZX v:=by
 unfold ZX;rw[show(bp v).st.l=v.st.l.map aB from rfl,PX,aqa];rfl
def x_(v:Vo):wX (bp v)=wX v:=by unfold wX;rw[amC]
def Og{v:Vo}(h:vf v):vf (bp v):=by
 refine⟨h.1,λa ha=>?_,by show(v.st.l.map aB).length<=_;rw[PX];exact h.2.2⟩;obtain⟨b,hb,rfl⟩:=SD.1 (show a∈v.st.l.map aB from ha);exact h.2.1 b hb
def acE(l:List Rn)(r:Rn):bI (l++[r])=bI l+r.n:=by simp[bI]
def avZ(acc:List Rn)(r:Rn):bI (cg acc r)=bI acc+if r.s= -1 then 0 else r.n:=by
 by_cases hs:r.s= -1
 ·unfold cg;rw[if_pos hs,if_pos hs];omega
 ·rw[if_neg hs];rcases zay acc with rfl|⟨p,q,rfl⟩
  ·rw[aac hs];simp[bI]
  ·rw[zaz,Sj hs];split
   ·rw[acE,acE];simp only;omega
   ·rw[acE (p++[q])]
def au5(l:List Rn)(h:∀r∈l,r.s= -1\/(0<=r.s/\0<=r.n)):bI (Yd l)=bt (az l):=by
 have main:∀(l:List Rn) (acc:List Rn),(∀r∈l,r.s= -1\/(0<=r.s/\0<=r.n))->bI (l.foldl cg acc)=bI acc+bt (az l):=by
  intro l
  induction l with
  |nil=>intro acc _;simp[az,bt]
  |cons r l ih=>
   intro acc h;rw[TX,ih _ λx hx=>h x iP,avZ];have e:az (r::l)=iV r++az l:=Pj;have hu:bt (az (r::l))=bt (iV r)+bt (az l):=by rw[e];unfold bt;rw[List.filter_append,Ow]
   have hr:(bt (iV r):Int)=if r.s= -1 then 0 else r.n:=by
    unfold bt iV;rcases h r aj with hs|⟨h0,h1⟩
    ·rw[if_pos hs,zbf.2]
     ·rfl
     ·intro x hx;obtain⟨k,_,rfl⟩:=SD.1 hx;simp[hs]
    ·rw[if_neg ab,W4.2]
     ·rw[PX,List.length_range];omega
     ·intro x hx;obtain⟨k,_,rfl⟩:=SD.1 hx;rw[if_neg ab];exact decide_eq_true ab
   rw[hu,Int.natCast_add,hr];omega
 have:=main l [] h;rw[show bI ([]:List Rn)=0 from rfl]at this;unfold Yd;omega
def afl(ps:List PV)(x:PV):Prop:=∃(v:Vo) (i:Int),ps=[v.pv,pI i]/\x=pB true
def DT{d:Dk}{a:At}{p:Int}{tr:Rn}(he:dJ d a p tr=0):uR d tr∧∀c:Nat,tr.s<=c->(c:Int)<tr.s+tr.n→¬bH d.mp c=1:=by
 have h0:=Zv he;have hm:SJ (ar d a) p tr=0:=by
  unfold dJ at he;rw[if_neg (λh=>h h0)]at he;split at he
  ·rename_i g;exact absurd he g
  ·rename_i g;exact K6
 unfold SJ at hm;split at hm
 ·exact absurd hm ao
 split at hm
 ·exact absurd hm ao
 rename_i di;have di:=Decidable.not_not.1 di;split at hm
 ·exact absurd hm ao
 split at hm
 ·exact absurd hm ao
 split at hm
 ·exact absurd hm ao
 rename_i F6;unfold Pv at di;have hd:(ar d a).d=d:=rfl;rw[hd]at di F6;refine⟨⟨di.2.1,di.2.2⟩,λc h1 h2 hb=>F6 ?_⟩;rw[jk];refine⟨c-tr.s.toNat,?_⟩;rw[Y3 ab,QR,show tr.s.toNat+(c-tr.s.toNat)=c by omega,bO ab];unfold df;rw[decide_eq_true hb]
def DM{b:Nat->Bool}{pl:List Int}{p:Int}{tr:Rn}{c:Nat}:∀k:Nat,ON b pl p tr k c=true->b c=true∨∃j:Nat,j<k/\c=(tr.s+j).toNat
 |0,h=>.inl h
 |k+1,h=>by
  unfold ON at h;split at h
  ·rename_i g;exact .inr ⟨k,ab,g⟩
  ·split at h
   ·cases h
   ·rcases DM k h with h|⟨j,hj,e⟩
    ·exact .inl h
    ·exact .inr ⟨j,ab,e⟩
def DJ{B:List UInt8}{pl:List Int}{p:Int}{tr:Rn}{c:Nat}(h:∀k:Nat,(k:Int)<tr.n->0<=tr.s+k/\(tr.s+k+1)*256<=B.length/\((pl[p.toNat+k]?.getD 0).toNat+1)*256<=B.length)(hc:256*(c+1)<=B.length)(ho:∀j:Nat,(j:Int)<tr.n->c≠(tr.s+j).toNat):
 ∀k:Nat,(k:Int)<=tr.n->eU (J2 B pl p tr k) c=eU B c
 |0,_=>rfl
 |k+1,hk=>by
  obtain⟨g1,g2,g3⟩:=h k ab;have hl:=Xk h k ab;have ih:=DJ h hc ho k ab;show eU (MF (J2 B pl p tr k) (tr.s+(k:Int)).toNat (eU B (pl[p.toNat+k]?.getD 0).toNat)) c=_;rw[ahQ ab (gI ab) ab,if_neg (ho k ab),ih]
def ES{d:Dk}{a:At}{p:Int}{tr:Rn}(hd:wU d)(hn:a.nm.length<=1000000)(he:dJ d a p tr=0):
 (∀c:Nat,c<d.n→¬(tr.s<=c/\(c:Int)<tr.s+tr.n)->eU (jM d a p tr).a_ c=eU d.a_ c)∧∀c:Nat,c<d.n->bH (jM d a p tr).mp c=1->bH d.mp c=1\/(tr.s<=c/\(c:Int)<tr.s+tr.n):=by
 have h0:=Zv he;obtain⟨hp,_⟩:=DT he;unfold uR at hp;have hm:SJ (ar d a) p tr=0:=by
  unfold dJ at he;rw[if_neg (λh=>h h0)]at he;split at he
  ·rename_i g;exact absurd he g
  ·rename_i g;exact K6
 have hD:jM d a p tr=⟨J2 d.a_ (az a.rn.l) p tr tr.n.toNat,mG (cQ (ON (df d) (az a.rn.l) p tr tr.n.toNat) d.n)⟩:=by
  unfold jM;rw[if_neg (λh=>h he)]
 rw[hD];have qG:=(bc h0).1.pl;have M8:d.n=d.a_.length/256:=rfl;have Gr:∀k:Nat,(k:Int)<tr.n->0<=tr.s+k/\(tr.s+k+1)*256<=d.a_.length/\(((az a.rn.l)[p.toNat+k]?.getD 0).toNat+1)*256<=d.a_.length:=λk hk=>by
  refine⟨ab,ab,?_⟩;cases hx:(az a.rn.l)[p.toNat+k]? with
  |none=>simp only[Option.getD_none];omega
  |some x=>
   rcases qG x (OF hx)with g|g
   ·subst g;simp only[Vh];omega
   ·simp only[Vh];omega
 constructor
 ·intro c hc ho;exact DJ Gr ab (λj hj e=>ho ab) tr.n.toNat ab
 ·intro c hc hb;have e:bH (mG (cQ (ON (df d) (az a.rn.l) p tr tr.n.toNat) d.n)) c=mS (ON (df d) (az a.rn.l) p tr tr.n.toNat c):=by
   unfold mG;rw[ck,KI (λi=>Jj _),if_pos hc,bO hc];rfl
  have hb:bH (mG (cQ (ON (df d) (az a.rn.l) p tr tr.n.toNat) d.n)) c=1:=hb;rw[e]at hb;have ht:ON (df d) (az a.rn.l) p tr tr.n.toNat c=true:=by
   cases g:ON (df d) (az a.rn.l) p tr tr.n.toNat c with
   |true=>rfl
   |false=>rw[g]at hb;exact absurd hb ao
  rcases DM _ ht with g|⟨j,hj,e⟩
  ·exact .inl (of_decide_eq_true g)
  ·exact .inr ab
def EO(l:List Rn)(c:Int):bI (cO l c)=bI l+1:=by
 rcases zay l with rfl|⟨p,q,rfl⟩
 ·rw[Hu];rfl
 ·simp only[zaz];rw[xw];split
  ·rw[J8,J8];show _+(q.n+1+0)=_+(q.n+0)+1;omega
  ·rw[J8];rfl
def DO(s:List UInt8):∀n:Nat,bI (ae (λc=>¬bH s c=1) n)+(oF s n:Int)=n
 |0=>rfl
 |n+1=>by
  have ih:=DO s n;have hb:=mK s n;have e:oF s (n+1)=oF s n+bH s n:=rfl;by_cases g:bH s n=1
  ·rw[GJ (λk=>k g),e,g];omega
  ·rw[N0 g,EO,e];omega
def Du(d:Dk):bI (acZ d)=d.n-(oF d.mp d.n:Int):=by
 have:=DO d.mp d.n;unfold acZ;omega
def si(v:Vo):ac4 (bp v)=ac4 v:=by
 unfold ac4;rw[show(bp v).st.l=v.st.l.map aB from rfl,List.map_map];exact List.map_congr_left λa _=>Hm v.d a
def nS.rn{v:Vo}(h:nS v):∀a∈v.st.l,a.rn.l.length<=1000000:=(acx h.1 h.2).own.2
def IN(P:Nat->Prop):∀n:Nat,(∀c:Nat,(∃r∈ae P n,fR r c=true)↔c<n/\P c)/\(ae P n).Pairwise (λa b=>∀i,¬(fR a i=true/\fR b i=true))
 |0=>by
  refine⟨λc=>⟨λh=>?_,λh=>absurd h.1 ab⟩,.nil⟩;obtain⟨r,hr,_⟩:=h;cases hr
 |n+1=>by
  obtain⟨h1,h2⟩:=IN P n;by_cases g:P n
  case neg=>
   rw[GJ g];refine⟨λc=>(h1 c).trans ⟨λh=>⟨ab,h.2⟩,λh=>⟨?_,h.2⟩⟩,h2⟩;have:c≠n:=λe=>g (e▸h.2)
   omega
  rw[N0 g];have hb:=(ah9 P n).1;generalize ae P n=l at*;have kR:∀c:Nat,fR (⟨(n:Int),1⟩:Rn) c=true↔c=n:=λc=>by
   unfold fR;rw[decide_eq_true_eq];simp only;omega
  rcases zay l with rfl|⟨p,q,rfl⟩
  ·rw[Hu];refine⟨λc=>?_,zaL _ _⟩;have JR:=h1 c;simp only[Zd,false_and,exists_false,false_iff]at JR;simp only[ZT,exists_eq_left,kR];constructor
   ·rintro rfl;exact⟨ab,g⟩
   ·intro h;apply Classical.byContradiction;intro k;exact JR ⟨ab,h.2⟩
  ·simp only[zaz]at*;rw[xw];have hq:=hb q aj;have cell:∀c:Nat,(∃r∈p++[q],fR r c=true)\/c=n↔c<n+1/\P c:=λc=>by
    rw[h1 c];constructor
    ·rintro(h|rfl)
     ·exact⟨ab,h.2⟩
     ·exact⟨ab,g⟩
    ·intro h;by_cases k:c=n
     ·exact .inr k
     ·exact .inl ⟨ab,h.2⟩
   have jB:∀a∈p++[q],∀i:Nat,fR a i=true->i<n:=λa ha i hi=>by
    have:=hb a ha;unfold fR at hi;rw[decide_eq_true_eq]at hi;omega
   split
   ·rename_i e;have hx:∀c:Nat,fR (⟨q.s,q.n+1⟩:Rn) c=true↔fR q c=true\/c=n:=λc=>by
     unfold fR;rw[decide_eq_true_eq,decide_eq_true_eq];simp only;omega
    constructor
    ·intro c;rw[<-cell c];simp only[Qq,ZT];constructor
     ·rintro⟨r,hr|rfl,hc⟩
      ·exact .inl ⟨r,.inl hr,hc⟩
      ·rcases(hx c).1 hc with h|h
       ·exact .inl ⟨q,.inr rfl,h⟩
       ·exact .inr h
     ·rintro(⟨r,hr|rfl,hc⟩|h)
      ·exact⟨r,.inl hr,hc⟩
      ·exact⟨_,.inr rfl,(hx c).2 (.inl hc)⟩
      ·exact⟨_,.inr rfl,(hx c).2 (.inr h)⟩
    ·rw[zaI]at h2 ⊢;refine⟨h2.1,zaL _ _,λa ha b t_ i hi=>?_⟩;rw[ZT]at t_;subst t_;rcases(hx i).1 hi.2 with h|h
     ·exact h2.2.2 a ha q aj i ⟨hi.1,h⟩
     ·have:=jB a (by simp[ha]) i hi.1;omega
   ·constructor
    ·intro c;rw[<-cell c];constructor
     ·rintro⟨r,hr,hc⟩;rcases Qq.1 hr with hr|hr
      ·exact .inl ⟨r,hr,hc⟩
      ·rw[ZT]at hr;subst hr;exact .inr ((kR c).1 hc)
     ·rintro(⟨r,hr,hc⟩|h)
      ·exact⟨r,List.mem_append_left _ hr,hc⟩
      ·exact⟨_,List.mem_append_right _ (ZT.2 rfl),(kR c).2 h⟩
    ·rw[zaI];refine⟨h2,zaL _ _,λa ha b t_ i hi=>?_⟩;rw[ZT]at t_;subst t_;have:=jB a ha i hi.1;have:=(kR i).1 hi.2;omega
abbrev aAz:List CT:=[.int .i64,.str,.int .i64,.int .i64,.bool,.str,.int .i64,.sl true [.int .i64,.int .i64],.int .i64,.int .i64,.int .i64]
abbrev kG:Bool×List CT:=(true,[.str,.str,.sl true [.int .i64,.str,.int .i64,.int .i64,.bool,.str,.int .i64,.sl true [.int .i64,.int .i64],.int .i64,.int .i64,.int .i64]])
abbrev tu:Bool×List CT:=(false,[.int .i64])
def ajp{y:PV}(h:∃zs,y=.agg zs/\ou [.str,.str,.sl true aAz] zs):∃v:Vo,y=v.pv:=by
 obtain⟨zs,rfl,h⟩:=h;simp only[ou]at h;obtain⟨_,_,rfl,hb,_,_,rfl,hm,_,_,rfl,hs,rfl⟩:=h;simp only[O1]at hb hm hs;obtain⟨b,rfl,_⟩:=hb;obtain⟨m,rfl,_⟩:=hm;obtain⟨aC,rfl,_,he⟩:=hs;obtain⟨l,rfl,_⟩:=awZ (g:=At.pv) (q:=λ_=>True) λz hz=>by
  obtain⟨a,ha⟩:=auD ((he z hz).1 trivial);exact⟨a,ha,trivial⟩
 exact⟨⟨⟨b,m⟩,.sl l⟩,rfl⟩
def axd:∀xs,xS [kG,tu] xs->(ah afl).run xs λr=>r=.pv (.bool true):=λxs h=>by
 simp only[xS]at h;obtain⟨y,_,rfl,h1,_,u,_,rfl,_,h3,rfl⟩:=h;obtain⟨v,rfl⟩:=ajp (h1 trivial);obtain⟨n,rfl,_⟩:=ax2 (h3 trivial);exact⟨_,⟨v,n,rfl,rfl⟩,rfl⟩
def CU(B:Int)(r:Rn):Prop:=0<=r.s/\0<=r.n/\r.s+r.n<=B
def H5{B:Int}{acc:List Rn}{r:Rn}(h:∀q∈acc,CU B q)(hr:r.s= -1\/CU B r):∀q∈cg acc r,CU B q:=by
 by_cases hs:r.s= -1
 ·unfold cg;rw[if_pos hs];exact h
 have hr:=hr.resolve_left hs;rcases zay acc with rfl|⟨p,q,rfl⟩
 ·rw[aac hs];intro x hx;rw[ZT]at hx;subst hx;exact hr
 ·rw[zaz]at h ⊢;rw[Sj hs];intro x hx;have hq:=h q aj;unfold CU at*;split at hx
  ·rename_i e;rcases Qq.1 hx with hx|hx
   ·exact h x iP
   ·rw[ZT]at hx;subst hx;simp only;omega
  ·rcases Qq.1 hx with hx|hx
   ·exact h x hx
   ·rw[ZT]at hx;subst hx;exact hr
def Io{B:Int}{l:List Rn}(h:∀r∈l,r.s= -1\/CU B r):∀n,(∀q∈Yd (l.take n),CU B q)/\(Yd (l.take n)).length<=n:=by
 intro n
 induction n with
 |zero=>exact⟨λq hq=>absurd hq (by simp[Yd]),by simp[Yd]⟩
 |succ n ih=>
  by_cases aU:n<l.length
  ·obtain⟨r,hr⟩:∃r,l[n]?=some r:=⟨_,OO aU⟩
   rw[am0 hr];refine⟨H5 ih.1 (h r (OF hr)),?_⟩;generalize Yd (l.take n)=acc at*;by_cases hs:r.s= -1
   ·unfold cg;rw[if_pos hs];omega
   rcases zay acc with rfl|⟨p,q,rfl⟩
   ·rw[aac hs];simp
   ·rw[zaz]at ih ⊢;rw[Sj hs];have:=ih.2;simp only[Ow,WA]at this;split<;>simp<;>omega
  ·rw[S1 ab];rw[S1 ab]at ih;exact⟨ih.1,ab⟩
def gU(i at_:Int):List Rn->List Mv
 |[]=>[]
 |r::l=>⟨i,r.s,⟨at_,r.n⟩⟩::gU i (at_+r.n) l
noncomputable def It(v:Vo)(i:Int):List Rn:=rh (bI (Yd (ni v i).rn.l)) (ae (aqZ v λ_=>True) (ct v).length)
noncomputable def CQ(v:Vo)(i:Int):List Mv:=match It v i with
 |[]=>[]
 |b::l=>gU i (dz b l).s (qz (ni v i))
noncomputable def j6(v:Vo)(i:Int):Int:=if LI v i≠0 then LI v i else if (Yd (ni v i).rn.l).length<=1 then 0 else if It v i=[]then 16 else gM v (.sl (CQ v i))
noncomputable def C4(v:Vo)(i:Int):List Mv:=if LI v i≠0\/(Yd (ni v i).rn.l).length<=1\/j6 v i≠0 then[]else CQ v i
def gj(ps:List PV)(r:RV):Prop:=∃(v:Vo) (i:Int),ps=[v.pv,pI i]/\vf v/\r=.tup [.pv (.sl 4 ((C4 v i).map Mv.pv)),.pv (pI (j6 v i))]
def Hn{a:At}(h:dU a.rn.l=0):(qz a).length<=4096∧∀r∈qz a,0<=r.s/\1<=r.n/\r.s+r.n<=4096:=by
 have h1:=(G8 h).1;unfold qz;split
 ·have h2:=kI (Jc (az a.rn.l)) (az a.rn.l).length;exact⟨by have:=h2.2.1;omega,λr hr=>by have:=h2.1 r hr;omega⟩
 ·exact⟨aj,λr hr=>absurd hr aj⟩
set_option maxHeartbeats 4000000 in
def mJ:MT (ay [(63,c8 false ZQ),(64,c8 true H7),(78,ah ajs),(77,bF amX),(76,c8 true aeM),(109,bF Bj),(108,sB j7),(80,ah alV),(110,CX),(54,c8 true Ca),(106,c8 false js)]) eD (c8 false gj):=by
 rintro _ K ⟨_,⟨v,i,rfl,h1,rfl⟩,hK⟩;have ho:ZQ [v.pv,pI i] _:=⟨v,i,rfl,h1,rfl⟩
 unfold C4 at hK;by_cases hE:LI v i=0
 case neg=>
  have e:j6 v i=LI v i:=by unfold j6;rw[if_pos hE]
  rw[if_pos (.inl hE),e]at hK
  (repeat'((conv=>whnf);first|refine⟨_,ho,?_⟩|(refine au hE ?_)|refine bT ?_|fail))<;>try(conv=>whnf)
  exact⟨[.pv (.sl 4 []),.pv (pI _)],⟨rfl,rfl,trivial⟩,trivial,hK⟩
 have sM:wX v=0:=by
  apply Classical.byContradiction;intro g;unfold LI at hE;rw[if_pos g]at hE;exact g hE
 have hi:0<=i/\i<=(v.st.l.length:Int)-1:=by
  apply Classical.byContradiction;intro g;unfold LI at hE;rw[if_neg (λh=>h sM),if_neg g]at hE;exact absurd hE ao
 have hk:=P0 h1 sM;obtain⟨b,hb⟩:∃b,v.st.l[i.toNat]?=some b:=⟨_,OO ab⟩
 have eb:ni v i=b:=by unfold ni;rw[hb];rfl
 have lT:=bc (hk.op b (OF hb));have tZ:=bZ lT.1.rn;have aCy:=(rX hk.dk).2.1;have I6:=Bd (hk.op b (OF hb));have jg:H7 [v.pv,pI i] _:=⟨v,i,b,rfl,⟨hi.1,hb,ab,λr hr=>by rcases I6 r hr with h|⟨h,h',CA⟩;exact .inl h;exact .inr ⟨h,h',ab⟩⟩,rfl⟩
 have e_:=Io (B:=v.d.n) I6 b.rn.l.length;rw[zar]at e_;have qG:((Yd b.rn.l).map Rn.pv).length=(Yd b.rn.l).length:=PX _;by_cases kR:(Yd b.rn.l).length<=1
 ·have e:j6 v i=0:=by unfold j6;rw[if_neg (λh=>h hE),eb,if_pos kR]
  rw[if_pos (.inr (.inl (by rw[eb];exact kR))),e]at hK
  (repeat'((conv=>whnf);first|refine⟨_,ho,?_⟩|(refine aw (λh=>h hE) ?_)|refine⟨_,jg,?_⟩|refine au ab ?_|refine dq λ_=>?_|refine bT ?_|fail))<;>try(conv=>whnf)
  exact⟨[.pv (.sl 4 []),.pv (pI 0)],⟨rfl,rfl,trivial⟩,trivial,hK⟩
 have aHt:ajs [.sl 2 ((Yd b.rn.l).map Rn.pv)] _:=⟨_,rfl,⟨ab,λr hr=>by have:=e_.1 r hr;unfold CU at this;omega⟩,rfl⟩
 have aoA:aeM [v.pv,.clo 77 []] _:=⟨v,_,_,rfl,⟨hk,.any⟩,rfl⟩
 have HU:It v i=rh (bI (Yd b.rn.l)) (ae (aqZ v λ_=>True) (ct v).length):=by unfold It;rw[eb]
 (repeat'((conv=>whnf);first|refine⟨_,ho,?_⟩|(refine aw (λh=>h hE) ?_)|refine⟨_,jg,?_⟩|refine aw ab ?_|refine⟨_,aHt,?_⟩|refine⟨_,aoA,?_⟩|refine dq λ_=>?_|refine bT ?_|fail))<;>try(conv=>whnf)
 have SL:(ae (aqZ v λ_=>True) (ct v).length).length<=1000000:=by
  have:=(ah9 (aqZ v λ_=>True) (ct v).length).2;have:=yx v;omega
 have jE:∀q∈ae (aqZ v λ_=>True) (ct v).length,0<=q.s/\q.s<=1000000:=λq hq=>by
  have:=(ah9 (aqZ v λ_=>True) (ct v).length).1 q hq;have:=yx v;omega
 generalize ae (aqZ v λ_=>True) (ct v).length=F at*;generalize bI (Yd b.rn.l)=oV at*;have hd:Ca [b.pv] _:=⟨b,rfl,h1.2.1 b (OF hb),rfl⟩
 have qH:D4 v.st=.sl 11 (v.st.l.map At.pv):=by
  cases h:v.st with
  |nil=>rw[h]at hb;cases hb
  |sl l=>rfl
 have H6:(v.st.l.map At.pv)[i.toNat]?=some b.pv:=by rw[TC,hb];rfl
 refine⟨true,_,_,rfl,rfl,SL,λhid=>?_,λR k ht AP=>?_⟩
 ·rw[hid]at HU;rw[qH];cases F with
  |nil=>
   have e:j6 v i=16:=by unfold j6;rw[if_neg (λh=>h hE),eb,if_neg kR,if_pos HU]
   rw[e,if_pos (.inr (.inr ao))]at hK
   (repeat'((conv=>whnf);first|refine au rfl ?_|refine dq λ_=>?_|fail))<;>try(conv=>whnf)
   exact⟨[.pv (.sl 4 []),.pv (pI 16)],⟨rfl,rfl,trivial⟩,trivial,hK⟩
  |cons q l=>
   have KO:((q::l).map Rn.pv).length=l.length+1:=aj;have bJ:l.length<=1000000:=by simp at SL;omega
   (repeat'((conv=>whnf);first|refine aw (by rw[Pb];omega) ?_|refine⟨q,l,rfl,bJ,?_⟩|refine⟨_,⟨hi.1,H6⟩,?_⟩|refine⟨_,hd,?_⟩|refine dq λ_=>?_|fail))<;>try(conv=>whnf)
   have hA:0<=(dz q l).s/\(dz q l).s<=1000000:=by
    have:=jE (dz q l) (by rcases nB q l with h|h;rw[h];simp;exact zbc _ h);omega
   have Jb:CQ v i=gU i (dz q l).s (qz b):=by unfold CQ;rw[HU,eb]
   have eE:j6 v i=gM v (.sl (gU i (dz q l).s (qz b))):=by
    unfold j6;rw[if_neg (λh=>h hE),eb,if_neg kR,if_neg (by rw[HU];exact λh=>nomatch h),Jb]
   have eL:(if LI v i≠0\/(Yd (ni v i).rn.l).length<=1\/j6 v i≠0 then[]else CQ v i)=if gM v (.sl (gU i (dz q l).s (qz b)))≠0 then[]else gU i (dz q l).s (qz b):=by
    rw[eE,Jb];by_cases g:gM v (.sl (gU i (dz q l).s (qz b)))=0
    ·rw[if_neg (by rw[eb];intro h;rcases h with h|h|h;exact h hE;exact kR h;exact h g),if_neg (λh=>h g)]
    ·rw[if_pos (.inr (.inr g)),if_pos g]
   rw[eL,eE]at hK;have lr:=Hn lT.1.rn;have Mb:((qz b).map Rn.pv).length=(qz b).length:=PX _;generalize (dz q l).s=A at*;generalize uS:qz b=D at*;refine⟨λm env σ=>∃(n:Nat) (a:Int) (M:List Mv),(n+m=D.length/\M.length=n/\M++gU i a (D.drop n)=gU i A D/\0<=a/\a<=1000000+4096*n)/\σ=[.box 110 [.pv (.str v.d.a_),.pv (.str v.d.mp),.pv (.sl 11 (v.st.l.map At.pv))],.row 75 4 true (M.map Mv.pv),.row 37 2 true (D.map Rn.pv)]/\
    env=[eN 1 i,(6,.ref 0 0 0),eN 11 a,(14,.own 1),(53,.own 2),eN 54 D.length,eN 55 n],D.length,⟨0,A,[],⟨ab,rfl,rfl,ab,ab⟩,rfl,rfl⟩,?_⟩
   rintro m env σ ⟨n,a,M,⟨hn,JT,hM,Mc,Md⟩,rfl,rfl⟩;have Mu:(M.map Mv.pv).length=M.length:=PX _;by_cases aU:n<D.length
   ·obtain⟨x,hx⟩:∃x,D[n]?=some x:=⟨_,OO aU⟩
    have Wk:(D.map Rn.pv)[(n:Int).toNat]?=some x.pv:=by rw[QT,TC,hx];rfl
    have Kz:=lr.2 x (OF hx);rw[drop_cons hx]at hM;have JX:(M++[⟨i,x.s,⟨a,x.n⟩⟩])++gU i (a+x.n) (D.drop (n+1))=gU i A D:=by rw[<-hM,OY];rfl
    (repeat'((conv=>whnf);first|refine au ab ?_|refine Yk ⟨by simp only[PX,WA];omega,by simp only[PX,WA];omega⟩ ?_|refine bj ab ?_|refine uM aA ?_|refine Q3 ab ?_|refine bT ?_|fail))<;>try(conv=>whnf)
    exact⟨m-1,ab,n+1,a+x.n,M++[⟨i,x.s,⟨a,x.n⟩⟩],⟨ab,by simp[JT],JX,ab,ab⟩,by rw[UO];rfl,rfl⟩
   ·rw[zaA ab]at hM;have J0:gU i A D=M:=by rw[<-hM];exact TW M
    rw[J0]at hK;have PA:js [.agg [.str v.d.a_,.str v.d.mp,.sl 11 (v.st.l.map At.pv)],.sl 4 (M.map Mv.pv)] _:=⟨v,.sl M,by unfold Vo.pv;rw[qH];rfl,⟨ar4 h1 sM,by show M.length<=_;omega⟩,rfl⟩
    have e:(if gM v (.sl M)≠0 then PV.sl 4 []else OI (.sl M))=.sl 4 ((if gM v (.sl M)≠0 then[]else M).map Mv.pv):=by split<;>rfl
    rw[e]at PA
    (repeat'((conv=>whnf);first|refine aw ab ?_|refine⟨_,PA,?_⟩|fail))<;>try(conv=>whnf)
    exact⟨[.pv (.sl 4 _),.pv (pI _)],⟨rfl,rfl,trivial⟩,trivial,hK⟩
 ·rw[<-ht]at HU;rw[qH];have Eo:(R.take k).length=k:=eI;have HR:cut 0 (0+k) (R.map Rn.pv)=(R.take k).map Rn.pv:=by unfold cut;rw[Nat.zero_add,List.drop_zero,List.map_take]
  have G6:(R.take k).length<=1000000:=by rw[ht];exact Nat.le_trans (List.length_filter_le _ _) SL
  have Mx:∀x∈R.take k,0<=x.s/\x.s<=1000000:=λx hx=>by rw[ht]at hx;exact jE x (Uq.1 hx).1
  generalize hT:R.take k=T at*;cases T with
  |nil=>
   have e:j6 v i=16:=by unfold j6;rw[if_neg (λh=>h hE),eb,if_neg kR,if_pos HU]
   have ND:k=0:=by simpa using Eo.symm
   rw[e,if_pos (.inr (.inr ao))]at hK
   (repeat'((conv=>whnf);first|refine au (by rw[HR];rfl) ?_|refine dq λ_=>?_|refine wz ?_|fail))<;>try(conv=>whnf)
   exact⟨[.pv (.sl 4 []),.pv (pI 16)],⟨rfl,rfl,trivial⟩,trivial,hK⟩
  |cons q l=>
   have KO:((q::l).map Rn.pv).length=l.length+1:=aj;rw[Pb]at Eo G6;have bJ:l.length<=1000000:=ab;have hA:0<=(dz q l).s/\(dz q l).s<=1000000:=Mx (dz q l) (by rcases nB q l with h|h;rw[h];simp;exact zbc _ h)
   (repeat'((conv=>whnf);first|refine aw (by rw[HR,KO];omega) ?_|refine⟨q,l,by rw[HR],bJ,?_⟩|refine⟨_,⟨hi.1,H6⟩,?_⟩|refine⟨_,hd,?_⟩|refine dq λ_=>?_|refine Yk cu ?_|fail))<;>try(conv=>whnf)
   have Jb:CQ v i=gU i (dz q l).s (qz b):=by unfold CQ;rw[HU,eb]
   have eE:j6 v i=gM v (.sl (gU i (dz q l).s (qz b))):=by
    unfold j6;rw[if_neg (λh=>h hE),eb,if_neg kR,if_neg (by rw[HU];exact λh=>nomatch h),Jb]
   have eL:(if LI v i≠0\/(Yd (ni v i).rn.l).length<=1\/j6 v i≠0 then[]else CQ v i)=if gM v (.sl (gU i (dz q l).s (qz b)))≠0 then[]else gU i (dz q l).s (qz b):=by
    rw[eE,Jb];by_cases g:gM v (.sl (gU i (dz q l).s (qz b)))=0
    ·rw[if_neg (by rw[eb];intro h;rcases h with h|h|h;exact h hE;exact kR h;exact h g),if_neg (λh=>h g)]
    ·rw[if_pos (.inr (.inr g)),if_pos g]
   rw[eL,eE]at hK;have lr:=Hn lT.1.rn;have Mb:((qz b).map Rn.pv).length=(qz b).length:=PX _;generalize (dz q l).s=A at*;generalize uS:qz b=D at*;refine⟨λm env σ=>∃(n:Nat) (a:Int) (M:List Mv),(n+m=D.length/\M.length=n/\M++gU i a (D.drop n)=gU i A D/\0<=a/\a<=1000000+4096*n)/\σ=[.box 110 [.pv (.str v.d.a_),.pv (.str v.d.mp),.pv (.sl 11 (v.st.l.map At.pv))],.row 75 4 true (M.map Mv.pv),.row 37 2 true (D.map Rn.pv)]/\
    env=[eN 1 i,(6,.ref 0 0 0),eN 11 a,(14,.own 1),(53,.own 2),eN 54 D.length,eN 55 n],D.length,⟨0,A,[],⟨ab,rfl,rfl,ab,ab⟩,rfl,rfl⟩,?_⟩
   rintro m env σ ⟨n,a,M,⟨hn,JT,hM,Mc,Md⟩,rfl,rfl⟩;have Mu:(M.map Mv.pv).length=M.length:=PX _;by_cases aU:n<D.length
   ·obtain⟨x,hx⟩:∃x,D[n]?=some x:=⟨_,OO aU⟩
    have Wk:(D.map Rn.pv)[(n:Int).toNat]?=some x.pv:=by rw[QT,TC,hx];rfl
    have Kz:=lr.2 x (OF hx);rw[drop_cons hx]at hM;have JX:(M++[⟨i,x.s,⟨a,x.n⟩⟩])++gU i (a+x.n) (D.drop (n+1))=gU i A D:=by rw[<-hM,OY];rfl
    (repeat'((conv=>whnf);first|refine au ab ?_|refine Yk ⟨by simp only[PX,WA];omega,by simp only[PX,WA];omega⟩ ?_|refine bj ab ?_|refine uM aA ?_|refine Q3 ab ?_|refine bT ?_|fail))<;>try(conv=>whnf)
    exact⟨m-1,ab,n+1,a+x.n,M++[⟨i,x.s,⟨a,x.n⟩⟩],⟨ab,by simp[JT],JX,ab,ab⟩,by rw[UO];rfl,rfl⟩
   ·rw[zaA ab]at hM;have J0:gU i A D=M:=by rw[<-hM];exact TW M
    rw[J0]at hK;have PA:js [.agg [.str v.d.a_,.str v.d.mp,.sl 11 (v.st.l.map At.pv)],.sl 4 (M.map Mv.pv)] _:=⟨v,.sl M,by unfold Vo.pv;rw[qH];rfl,⟨ar4 h1 sM,by show M.length<=_;omega⟩,rfl⟩
    have e:(if gM v (.sl M)≠0 then PV.sl 4 []else OI (.sl M))=.sl 4 ((if gM v (.sl M)≠0 then[]else M).map Mv.pv):=by split<;>rfl
    rw[e]at PA
    (repeat'((conv=>whnf);first|refine aw ab ?_|refine⟨_,PA,?_⟩|refine⟨_,PA,?_⟩|fail))<;>try(conv=>whnf)
    exact⟨[.pv (.sl 4 _),.pv (pI _)],⟨rfl,rfl,trivial⟩,trivial,hK⟩
def CR(l:List Rn)(c:Int):cO l c=zh l c:=by
 rcases zay l with rfl|⟨p,q,rfl⟩
 ·rfl
 ·simp only[zaz];rw[xw,xz]
def CI(h:Nat->Bool):∀n,bh h n=ae (λk=>h k=true) n
 |0=>rfl
 |n+1=>by
  have ih:=CI h n;by_cases g:h n=true
  ·rw[N0 g,CR,<-ih];show(if h n=true then _ else _)=_;rw[if_pos g]
  ·rw[GJ g,<-ih];show(if h n=true then _ else _)=_;rw[if_neg g]
structure BE(h:Nat->Bool)(N e:Nat)(l:List Rn):Prop where
 b:∀r∈l,(e:Int)<=r.s/\1<=r.n/\r.s+r.n<=N
 ap:l.Pairwise λa b=>a.s+a.n<b.s
 cell:∀k,e<=k->k<N->(h k=true↔∃r∈l,fR r k=true)
 le:e<=N
def Dx(h:Nat->Bool)(N:Nat):BE h N 0 (bh h N):=by
 have h1:=(kI h N).1;refine⟨λr hr=>by have:=h1 r hr;omega,(ajV h N).1,λk _ hk=>?_,ab⟩;rw[CI];have:=(IN (λk=>h k=true) N).1 k;rw[this];exact⟨λg=>⟨hk,g⟩,λg=>g.2⟩
def iq{r:Rn}{k:Nat}:fR r k=true↔r.s<=k/\(k:Int)<r.s+r.n:=by unfold fR;rw[decide_eq_true_eq]
def BE.next{h:Nat->Bool}{N e:Nat}{r:Rn}{l:List Rn}(q:BE h N e (r::l)):∃p m:Nat,r=⟨p,m⟩/\e<=p/\1<=m/\p+m<=N/\(∀k,e<=k->k<p->h k=false)/\(∀k,p<=k->k<p+m->h k=true)/\(p+m<N->h (p+m)=false)/\BE h N (p+m) l:=by
 obtain⟨b1,b2,b3⟩:=q.b r aj;have hp:=zbh.1 q.ap;have tT:∀k,e<=k->k<N->(∀x∈r::l,¬fR x k=true)->h k=false:=λk k1 k2 k3=>by
  cases g:h k with
  |false=>rfl
  |true=>obtain⟨x,hx,hi⟩:=(q.cell k k1 k2).1 g;exact absurd hi (k3 x hx)
 refine⟨r.s.toNat,r.n.toNat,?_,ab,ab,ab,λk k1 k2=>tT k k1 ab λx hx hi=>?_,λk k1 k2=>(q.cell k ab ab).2 ⟨r,aj,iq.2 ab⟩,λg=>tT _ ab g λx hx hi=>?_,⟨λx hx=>?_,hp.2,λk k1 k2=>?_,ab⟩⟩
 ·cases r;simp only at*;congr 1<;>omega
 ·rw[iq]at hi;rcases Qg.1 hx with rfl|hx
  ·omega
  ·have:=hp.1 x hx;omega
 ·rw[iq]at hi;rcases Qg.1 hx with rfl|hx
  ·omega
  ·have:=hp.1 x hx;omega
 ·have h1:=hp.1 x hx;have h2:=q.b x iP;omega
 ·rw[q.cell k ab k2];constructor
  ·rintro⟨x,hx,hi⟩;rcases Qg.1 hx with rfl|hx
   ·rw[iq]at hi;omega
   ·exact⟨x,hx,hi⟩
  ·rintro⟨x,hx,hi⟩;exact⟨x,iP,hi⟩
def ju{h:Nat->Bool}{a:Nat}:∀j,(∀k,a<=k->k<a+j->h k=false)->gy h (a+j)=gy h a
 |0,_=>rfl
 |j+1,g=>by
  rw[<-RN,cJ,ju j λk k1 k2=>g k k1 ab,g (a+j) ab ab];rfl
def An{h:Nat->Bool}{a:Nat}:∀j,(∀k,a<=k->k<a+j->h k=true)->gy h (a+j)=gy h a+j
 |0,_=>rfl
 |j+1,g=>by
  rw[<-RN,cJ,An j λk k1 k2=>g k k1 ab,g (a+j) ab ab];rfl
def jU(P:List Int)(s:Int)(e k:Nat):Int:=if Jc P k=true then(if k<e then s+(gy (Jc P) k:Int)else P[k]?.getD (-1))else-1
def AS(P:List Int)(s:Int):cQ (jU P s 0) P.length=P:=by
 refine TJ λi=>?_
 by_cases hi:i<P.length
 ·rw[bO hi,OO hi];congr 1;unfold jU Jc;rw[OO hi,Vh];by_cases g:P[i]= -1
  ·rw[decide_eq_false (λk=>k g),if_neg ao,g]
  ·rw[decide_eq_true g,if_pos rfl,if_neg ab]
 ·rw[RP kD,RP ab]
def EB{P:List Int}{s:Int}{e p m:Nat}(h1:e<=p)(h2:p+m<=P.length)(h3:∀k,e<=k->k<p->Jc P k=false)(h4:∀k,p<=k->k<p+m->Jc P k=true):
 C8 (cQ (jU P s e) P.length) p ⟨s+(gy (Jc P) e:Int),m⟩ m=cQ (jU P s (p+m)) P.length:=by
 refine TJ λi=>?_
 rw[Sz ab kD];simp only[QT];have hp:gy (Jc P) p=gy (Jc P) e:=by
  have:=ju (h:=Jc P) (a:=e) (p-e) λk k1 k2=>h3 k k1 ab
  rwa[show e+(p-e)=p by omega]at this
 by_cases hi:i<P.length
 ·rw[bO hi,bO hi];by_cases g:p<=i/\i<p+m
  ·rw[if_pos g];congr 1;have:=An (h:=Jc P) (a:=p) (i-p) λk k1 k2=>h4 k k1 ab
   rw[show p+(i-p)=i by omega]at this;unfold jU;rw[h4 i g.1 g.2,if_pos rfl,if_pos ab,this];omega
  ·rw[if_neg g];congr 1;unfold jU;by_cases k:Jc P i=true
   ·rw[if_pos k,if_pos k];by_cases ke:i<e
    ·rw[if_pos ke,if_pos ab]
    ·have:¬i<p:=λq=>by rw[h3 i ab q]at k;cases k
     rw[if_neg ke,if_neg ab]
   ·rw[if_neg k,if_neg k]
 ·rw[if_neg ab,RP kD,RP kD]
def FZ{P:List Int}{s:Int}{e:Nat}(hs:0<=s)(hP:∀x∈P,-1<=x)(i:Nat): -1<=jU P s e i:=by
 unfold jU;split
 ·split
  ·omega
  ·cases g:P[i]? with
   |none=>simp
   |some x=>have:=hP x (OF g);simpa using this
 ·omega
def E6{P:List Int}{s:Int}{e:Nat}(hs:0<=s)(hP:∀x∈P,-1<=x)(he:e=0\/P.length<=e\/Jc P e=false):(IA (cQ (jU P s e) P.length)).length<=(IA P).length:=by
 have h0:=AS P s;rw[(Xc (FZ hs hP) P.length).1]
 conv=>rhs;rw[<-h0]
 rw[(Xc (FZ hs hP) P.length).1];refine sk λi hi g=>?_
 unfold bR at g ⊢;rw[decide_eq_true_eq]at g ⊢;rcases g with g|g
 ·exact .inl g
 by_cases i0:i=0
 ·exact .inl i0
 refine .inr λj=>g ?_
 obtain⟨k,rfl⟩:∃k,i=k+1:=⟨i-1,ab⟩
 rw[Nat.add_sub_cancel]at j ⊢;unfold jU at j ⊢;have hd:∀k,Jc P k=true->P[k]?.getD (-1)≠ -1:=λk g=>of_decide_eq_true g
 unfold zC at j ⊢;have c1:=cJ (Jc P) k;by_cases a1:Jc P k=true
 ·have p1:=hd k a1;by_cases a2:Jc P (k+1)=true
  ·have p2:=hd (k+1) a2;rw[if_pos a1]at c1;rw[if_pos a1,if_pos a2]at j ⊢;rw[if_neg ab,if_neg ab]at j;by_cases q:k+1<e
   ·rw[if_pos ab,if_pos q];omega
   ·by_cases q2:k<e
    ·have:e=k+1:=by omega
     subst this;rcases he with he|he|he
     ·omega
     ·omega
     ·rw[a2]at he;cases he
    ·rw[if_neg q2,if_neg q];exact j
  ·rw[if_pos a1,if_neg a2,if_neg ab]at j;exfalso;rcases j with j|j
   ·exact p1 j.1
   ·exact j.2.1 rfl
 ·by_cases a2:Jc P (k+1)=true
  ·have p2:=hd (k+1) a2;rw[if_neg a1,if_pos a2,if_neg ab]at j;exfalso;rcases j with j|j
   ·exact p2 j.2
   ·exact j.1 rfl
  ·rw[if_neg a1,if_neg a2];exact .inl ⟨rfl,rfl⟩
def Gb{b:At}{l:List Int}(h:gu b=0)(c_:b.rs=false)(hf:b.ft=0)(hb:∀x∈l,x= -1\/(0<=x/\x<512))(hd:yw l)(hl:l.length<=128)(hn:(IA l).length<=64):gu { b with rn:=.sl (IA l) }=0:=by
 have ok:=AD h;obtain⟨o1,o2,o3,o4,o5,o6,o7⟩:=ok.ot c_;have hr:=apJ hb hd ab hn;have t_:∀a∈l,-1<=a/\a<=1000000:=λa ha=>by rcases hb a ha with h|h<;>omega
 have hq:=(agT t_ l.length).2;rw[zar]at hq;have hs:=xA (l:=IA l) (λr hr=>by have:=(hq r hr).1;omega);rw[ZB t_]at hs;have hk:Iv { b with rn:=.sl (IA l) }=0:=by
  show(if b.rs=true then Hy _ else GG { b with rn:=.sl (IA l) })=0;rw[if_neg qD];unfold GG;show(if b.ty∈VG then(20:Int)else if b.vl≠[]then 3 else if ¬(0<=b.ft/\b.ft<=4096)then 2 else
   if dU (IA l)≠0 then dU (IA l)else if 0<b.ft/\(IA l).length=0 then 17 else
   if 4096<b.ft+bI (IA l)then 8 else if 0<b.ft∧¬(b.al=0/\b.sz=0/\b.vd=0)then 3 else
   if ¬pL b then 2 else if b.sz<b.vd then 9 else 0)=0
  rw[if_neg o1,if_neg (λg=>g o2),if_neg (λg=>g o3),hr,if_neg (λg=>g rfl),if_neg ab,if_neg ab,if_neg ab,if_neg (λg=>g o6),if_neg ab]
 have hw:(T5 { b with rn:=.sl (IA l) }).length<=440:=by
  rw[al6 (a:={ b with rn:=.sl (IA l) }) c_];have h1:=i_ (40+b.nm.length);have o_:(N8 { b with rn:=.sl (IA l) }).length<=321:=by
   show(if b.rs=true then b.vl else qL (IA l)).length<=321;rw[if_neg qD];unfold qL;have:=JP (IA l) _ (OS _);rw[Ow,WA];omega
  have kp:=ok.DL;have e1:l8 { b with rn:=.sl (IA l) }=B5 (40+b.nm.length):=by
   show B5 ((if b.rs=true then 24 else 40)+b.nm.length)=_;rw[if_neg qD]
  have h2:=i_ (l8 { b with rn:=.sl (IA l) }+(N8 { b with rn:=.sl (IA l) }).length);show B5 (l8 { b with rn:=.sl (IA l) }+(N8 { b with rn:=.sl (IA l) }).length)<=440;omega
 unfold gu;rw[if_neg,if_neg ab];refine λh=>h ?_
 unfold TI;rw[if_neg,if_neg,if_neg,hk]
 ·exact λh=>h ok.GZ
 ·exact λh=>h ok.nm
 ·exact λh=>h ok.S3
def FY(h:Nat->Bool){a b:Nat}(g:a<=b):gy h a<=gy h b:=by
 obtain⟨j,rfl⟩:∃j,b=a+j:=⟨b-a,ab⟩
 clear g
 induction j with
 |zero=>exact OS _
 |succ j ih=>rw[<-RN,cJ];omega
def Eb{l:List Int}(h:∀x∈l,x≠ -1):bt l=l.length:=by
 unfold bt;rw[W4.2 λx hx=>decide_eq_true (h x hx)]
structure Is(v:Vo)(i:Nat)(a:At)(s:Int)(w:Vo)(e:Nat):Prop where
 g:nS w
 fN:ac4 w=ac4 v
 n:w.d.n=v.d.n
 len:w.st.l.length=v.st.l.length
 fr:bI (acZ w.d)=bI (acZ v.d)
 at_:∃b:At,w.st.l[i]?=some b/\b={ a with rn:=b.rn }/\az b.rn.l=cQ (jU (az a.rn.l) s e) (az a.rn.l).length
 Ln:∀c:Nat,s+(gy (Jc (az a.rn.l)) e:Int)<=c->(c:Int)<s+(gy (Jc (az a.rn.l)) (az a.rn.l).length:Int)→¬bH w.d.mp c=1
def Ga{v:Vo}{i:Nat}{a:At}{s:Int}{w:Vo}{e p m:Nat}(hv:nS v)(hi:v.st.l[i]?=some a)(c_:a.rs=false)(hs:0<=s)(iS:s+(gy (Jc (az a.rn.l)) (az a.rn.l).length:Int)<=v.d.n)(I:Is v i a s w e)
 (h1:e<=p) (mY:1<=m) (h2:p+m<=(az a.rn.l).length) (h3:∀k,e<=k->k<p->Jc (az a.rn.l) k=false) (h4:∀k,p<=k->k<p+m->Jc (az a.rn.l) k=true) (h5:p+m<(az a.rn.l).length->Jc (az a.rn.l) (p+m)=false):
 ub w ⟨i,p,⟨s+(gy (Jc (az a.rn.l)) e:Int),m⟩⟩=0/\Is v i a s (nX w ⟨i,p,⟨s+(gy (Jc (az a.rn.l)) e:Int),m⟩⟩) (p+m):=by
 obtain⟨b,hb,Be,qG⟩:=I.at_;have iX:=(Oe.1 hb).1;have kE:=OF hb;obtain⟨o1,o2,o3,o4⟩:=AZ.1 I.g.2;have h0:=o3 b kE;have WW:=L0 o1;have kp:=I.g.1.2.1 b kE;obtain⟨ok,oo⟩:=bc h0;obtain⟨q1,q2,q3,q4,q5⟩:=lE ok.str;have E3:b.rs=false:=by rw[Be];exact c_
 have rK:=ok.nb;have Cd:=(bc ((AZ.1 hv.2).2.2.1 a (OF hi))).1;have J6:=Cd.pl;have My:∀x∈az a.rn.l,-1<=x:=λx hx=>by rcases J6 x hx with g|g<;>omega
 have hlen:=ok.len;have cL:(IA (az a.rn.l)).length<=64:=Nat.le_trans (XP λr hr=>by
  have:=(bZ Cd.rn).2.2.2 r hr;unfold jZ at this;split at this<;>omega) (bZ Cd.rn).1
 have lM:=EB (s:=s) h1 h2 h3 h4;have NF:=E6 (s:=s) (e:=p+m) hs My (by
  by_cases g:p+m<(az a.rn.l).length
  ·exact .inr (.inr (h5 g))
  ·exact .inr (.inl ab))
 have Cw:gy (Jc (az a.rn.l)) (p+m)=gy (Jc (az a.rn.l)) e+m:=by
  have g1:=ju (h:=Jc (az a.rn.l)) (a:=e) (p-e) λk k1 k2=>h3 k k1 ab
  rw[show e+(p-e)=p by omega]at g1;rw[An m h4,g1]
 have NL:=FY (Jc (az a.rn.l)) h2;have Gy:=I.Ln;have hn:=I.n;have hh:∀k,Jc (az a.rn.l) k=true->k<(az a.rn.l).length:=λk g=>by
  apply Classical.byContradiction;intro q;unfold Jc at g;rw[RP ab]at g;exact absurd g ao
 generalize hC:gy (Jc (az a.rn.l)) e=C at*;have MD:SJ (ar w.d b) p ⟨s+(C:Int),m⟩=0:=by
  unfold SJ;have e1:(ar w.d b).a.rs=false:=E3;have e2:(ar w.d b).pl=cQ (jU (az a.rn.l) s e) (az a.rn.l).length:=qG;have e3:(ar w.d b).d=w.d:=rfl;rw[e1,if_neg ao,if_neg,if_neg,if_neg,if_neg]
  ·rw[e3];intro g;obtain⟨j,hj⟩:=Rr.1 g;simp only at hj;have MM:j<m:=by
    have:=(Oe.1 hj).1;rw[O4]at this;omega
   rw[Y3 ab,QR,bO ab]at hj;have hj:=Option.some.inj hj;unfold df at hj;exact Gy ((s+(C:Int)).toNat+j) ab ab (of_decide_eq_true hj)
  ·rw[e2];refine λg=>g ?_
   simp only[QT];rw[Eb,O4,List.length_drop,ck]
   ·omega
   ·intro x hx;obtain⟨j,hj⟩:=Rr.1 hx;have MM:j<m:=by
     have:=(Oe.1 hj).1;rw[O4]at this;omega
    rw[Y3 ab,QR,bO ab]at hj;have hj:=Option.some.inj hj;have g:=h4 (p+j) ab ab;rw[<-hj];unfold jU;rw[g,if_pos rfl];split
    ·omega
    ·exact of_decide_eq_true g
  ·rw[e2,ck];simp only;omega
  ·refine λg=>g ?_
   unfold Pv;rw[e3];simp only;omega
 have MO:(Il b p ⟨s+(C:Int),m⟩).rn=.sl (IA (cQ (jU (az a.rn.l) s (p+m)) (az a.rn.l).length)):=by
  show Sl.sl (IA (C8 (az b.rn.l) p ⟨s+(C:Int),m⟩ ((m:Int)).toNat))=_;rw[qG,QT,lM]
 have J9:Il b p ⟨s+(C:Int),m⟩={ b with rn:=.sl (IA (cQ (jU (az a.rn.l) s (p+m)) (az a.rn.l).length)) }:=by
  unfold Il;rw[qG];simp only[QT];rw[lM]
 have Ke:=ok.pl;have Jf:∀x∈az b.rn.l,x= -1\/(0<=x/\x<512):=λx hx=>by
  rcases Ke x hx with g|g
  ·exact .inl g
  ·have M8:w.d.n=w.d.a_.length/256:=rfl;exact .inr ab
 have Es:=u0 ok.rn;have PB:∀j:Nat,(cQ (jU (az a.rn.l) s (p+m)) (az a.rn.l).length)[j]?=if p<=j/\j<p+m then some (s+(C:Int)+((j-p:Nat):Int))else(az b.rn.l)[j]?:=λj=>by
  have g:=Sz (pl:=cQ (jU (az a.rn.l) s e) (az a.rn.l).length) (p:=(p:Int)) (tr:=⟨s+(C:Int),m⟩) ab (k:=m) kD j;rw[lM,QT,<-qG]at g;exact g
 have KR:∀x∈cQ (jU (az a.rn.l) s (p+m)) (az a.rn.l).length,x= -1\/(0<=x/\x<512):=λx hx=>by
  obtain⟨j,hj⟩:=Rr.1 hx;rw[PB j]at hj;split at hj
  ·have:=Option.some.inj hj;exact .inr ab
  ·exact Jf x (OF hj)
 have MS:yw (cQ (jU (az a.rn.l) s (p+m)) (az a.rn.l).length):=Xt λj k x hj hk hx=>by
  rw[PB j]at hj;rw[PB k]at hk;have pD:∀y:Int,y∈az b.rn.l->y≠ -1->bH w.d.mp y.toNat=1:=λy hy h1=>QX h0 (by
   rcases Jf y hy with g|g
   ·exact absurd g h1
   ·rw[show((y.toNat:Nat):Int)=y by omega];exact hy)
  by_cases g1:p<=j/\j<p+m
  ·rw[if_pos g1]at hj;have hj:=Option.some.inj hj;by_cases g2:p<=k/\k<p+m
   ·rw[if_pos g2]at hk;have hk:=Option.some.inj hk;omega
   ·rw[if_neg g2]at hk;have:=pD x (OF hk) hx;exact absurd this (Gy x.toNat ab ab)
  ·rw[if_neg g1]at hj;by_cases g2:p<=k/\k<p+m
   ·rw[if_pos g2]at hk;have hk:=Option.some.inj hk;have:=pD x (OF hj) hx;exact absurd this (Gy x.toNat ab ab)
   ·rw[if_neg g2]at hk;exact XD Es hj hk hx
 have M0:(cQ (jU (az a.rn.l) s (p+m)) (az a.rn.l).length).length<=128:=by rw[ck];exact Cd.len
 have IF:gu (Il b p ⟨s+(C:Int),m⟩)=0:=by
  rw[J9];exact Gb q1 E3 q4 KR MS M0 ab
 have hx:fE w.d b p ⟨s+(C:Int),m⟩=0:=by
  unfold fE;rw[MD,if_neg (λg=>g rfl),if_neg];rintro(g|g)
  ·rw[qG]at g;simp only[QT]at g;rw[lM]at g;omega
  ·exact g IF
 have he:dJ w.d b p ⟨s+(C:Int),m⟩=0:=by rw[(azk h0).1];exact hx
 have fM:ni w (i:Int)=b:=by unfold ni;rw[QT,hb];rfl
 have Jh:ub w ⟨i,p,⟨s+(C:Int),m⟩⟩=0:=by
  unfold ub;rw[if_neg (by simp only;omega)];show dJ w.d (ni w i) p _=0;rw[fM];exact he
 refine⟨Jh,?_⟩;have aLE:=Dr I.g ⟨i,p,⟨s+(C:Int),m⟩⟩;have hG:=Er I.g ⟨i,p,⟨s+(C:Int),m⟩⟩;have ml:=aBQ h0 WW kp he;have md:=ES WW kp he;have e:nX w ⟨i,p,⟨s+(C:Int),m⟩⟩=rl w (Lz w.d b p ⟨s+(C:Int),m⟩) i (Il b p ⟨s+(C:Int),m⟩):=by
  unfold nX;rw[if_neg (λg=>g Jh)];show rl w (jM w.d (ni w i) p _) ((i:Int)).toNat (jG w.d (ni w i) p _)=_;rw[fM,ml.D,ml.A,QT]
 rw[ml.D]at md;rw[e]at hG aLE ⊢;refine⟨hG,aLE.1.trans I.fN,aLE.2.trans I.n,by show(w.st.l.set i _).length=_;rw[List.length_set];exact I.len,?_,?_,λc c1 c2=>?_⟩
 ·show bI (acZ (Lz w.d b p ⟨s+(C:Int),m⟩))=_;rw[Du,ml.n,ml.gy,<-Du];exact I.fr
 ·refine⟨Il b p ⟨s+(C:Int),m⟩,by show(w.st.l.set i _)[i]?=_;rw[List.getElem?_set_self iX],?_,?_⟩
  ·unfold Il;rw[Be]
  ·rw[MO];exact ZB λx hx=>by rcases KR x hx with g|g<;>omega
 ·intro uq;have:=md.2 c ab uq;rcases this with g|g
  ·exact Gy c ab c2 g
  ·simp only at g;omega
def Fj{P:List Int}{s:Int}{e n k:Nat}(h1:e<=n)(h:∀k,e<=k->k<n->Jc P k=false)(hk:k<n):jU P s e k=jU P s n k:=by
 unfold jU;by_cases g:Jc P k=true
 ·have:k<e:=by
   apply Classical.byContradiction;intro q;rw[h k ab hk]at g;cases g
  rw[if_pos g,if_pos g,if_pos this,if_pos hk]
 ·rw[if_neg g,if_neg g]
def EU{v:Vo}{i:Nat}{a:At}{s:Int}(hv:nS v)(hi:v.st.l[i]?=some a)(c_:a.rs=false)(hs:0<=s)(iS:s+(gy (Jc (az a.rn.l)) (az a.rn.l).length:Int)<=v.d.n):
 ∀(l:List Rn) (w:Vo) (e:Nat) (k:Int),Is v i a s w e->BE (Jc (az a.rn.l)) (az a.rn.l).length e l->
  (PU w k (gU i (s+(gy (Jc (az a.rn.l)) e:Int)) l)).2.2=0/\Is v i a s (PU w k (gU i (s+(gy (Jc (az a.rn.l)) e:Int)) l)).1 (az a.rn.l).length
 |[],w,e,k,I,R=>by
  have tT:∀k,e<=k->k<(az a.rn.l).length->Jc (az a.rn.l) k=false:=λk k1 k2=>by
   cases g:Jc (az a.rn.l) k with
   |false=>rfl
   |true=>obtain⟨x,hx,_⟩:=(R.cell k k1 k2).1 g;cases hx
  have hc:=ju (h:=Jc (az a.rn.l)) (a:=e) ((az a.rn.l).length-e) λk k1 k2=>tT k k1 (by have:=R.le;omega)
  rw[show e+((az a.rn.l).length-e)=(az a.rn.l).length by have:=R.le;omega]at hc;refine⟨rfl,I.g,I.fN,I.n,I.len,I.fr,?_,λc c1 c2=>?_⟩
  ·obtain⟨b,h1,h2,h3⟩:=I.at_;refine⟨b,h1,h2,h3.trans (TJ λj=>?_)⟩;by_cases hj:j<(az a.rn.l).length
   ·rw[bO hj,bO hj,Fj R.le tT hj]
   ·rw[RP kD,RP kD]
  ·omega
 |r::l,w,e,k,I,R=>by
  obtain⟨p,m,rfl,g1,g2,g3,g4,g5,g6,g7⟩:=R.next
  obtain⟨m1,m2⟩:=Ga hv hi c_ hs iS I g1 g2 g3 g4 g5 g6;have hc:gy (Jc (az a.rn.l)) (p+m)=gy (Jc (az a.rn.l)) e+m:=by
   have q1:=ju (h:=Jc (az a.rn.l)) (a:=e) (p-e) λk k1 k2=>g4 k k1 ab
   rw[show e+(p-e)=p by omega]at q1;rw[An m g5,q1]
  have ih:=EU hv hi c_ hs iS l _ (p+m) (k+1) m2 g7;have e1:s+(gy (Jc (az a.rn.l)) (p+m):Int)=s+(gy (Jc (az a.rn.l)) e:Int)+(m:Int):=ab;rw[e1]at ih;show(if ub w _≠0 then _ else PU (nX w _) (k+1) (gU i (s+(gy (Jc (az a.rn.l)) e:Int)+(m:Int)) l):Vo×Int×Int).2.2=0/\Is v i a s (if ub w _≠0 then _ else PU (nX w _) (k+1) (gU i (s+(gy (Jc (az a.rn.l)) e:Int)+(m:Int)) l):Vo×Int×Int).1 _;rw[if_neg (λq=>q m1)];exact ih
def Aa(x:Int):Option Nat:=if x= -1 then none else some x.toNat
def Ap:∀{l:List Rn},(∀r∈l,r.s= -1\/0<=r.s)->xM l=(az l).filterMap Aa
 |[],_=>rfl
 |r::l,h=>by
  have ih:=Ap (l:=l) λx hx=>h x iP
  have e1:xM (r::l)=kx r++xM l:=Pj;have e2:az (r::l)=iV r++az l:=Pj;rw[e1,e2,zbg,ih];congr 1;unfold kx iV;by_cases hs:r.s= -1
  ·rw[if_pos hs,zbi];refine(List.filterMap_eq_nil_iff.2 λj _=>?_).symm;show Aa (if r.s= -1 then-1 else r.s+(j:Int))=none;rw[if_pos hs];rfl
  ·have h0:=(h r aj).resolve_left hs;have e:(Aa∘λj:Nat=>if r.s= -1 then(-1:Int)else r.s+(j:Int))=(some∘λj:Nat=>r.s.toNat+j):=funext λj=>by
    show Aa (if r.s= -1 then-1 else r.s+(j:Int))=some (r.s.toNat+j);rw[if_neg hs];unfold Aa;rw[if_neg ab];congr 1;omega
   rw[if_neg hs,zbi,List.range'_eq_map_range,e,List.filterMap_eq_map]
def ir{P:List Int}{s:Int}(hs:0<=s):∀n,n<=P.length->(cQ (jU P s P.length) n).filterMap Aa=List.range' s.toNat (gy (Jc P) n)
 |0,_=>rfl
 |n+1,h=>by
  rw[Lt,zbg,ir hs n ab,cJ];by_cases g:Jc P n=true
  ·have e:jU P s P.length n=s+(gy (Jc P) n:Int):=by unfold jU;rw[if_pos g,if_pos ab]
   rw[e,if_pos g,List.range'_1_concat];congr 1;rw[zbe (b:=s.toNat+gy (Jc P) n) (by unfold Aa;rw[if_neg ab];congr 1;omega)];rfl
  ·have e:jU P s P.length n= -1:=by unfold jU;rw[if_neg g]
   rw[e,if_neg g];exact TW _
def Ec(s:Nat):∀n,1<=n->(LZ (List.range' s n)).length=1
 |0,h=>absurd h ab
 |n+1,_=>by
  unfold LZ;rw[zbd,TX,Hu];have:=Ua n [] (s:Int) 1 (s+1) ab;rw[SV]at this;rw[this];rfl
def A4(P:List Int):∀n,n<=P.length->gy (Jc P) n=bt (P.take n)
 |0,_=>rfl
 |n+1,h=>by
  obtain⟨x,hx⟩:∃x,P[n]?=some x:=⟨_,OO ab⟩
  rw[cJ,ao2 hx,A4 P n ab];congr 1;unfold Jc;rw[hx,Vh];by_cases g:x= -1
  ·rw[if_pos g,if_neg];rw[g];decide
  ·rw[if_neg g,decide_eq_true g,if_pos rfl]
def Dj{l:List Rn}(h:∀r∈l,r.s= -1\/0<=r.s):(xM l).length=bt (az l):=by
 rw[Ap h];generalize az l=P
 induction P with
 |nil=>rfl
 |cons x P ih=>
  unfold bt at ih ⊢;by_cases g:x= -1
  ·rw[List.filterMap_cons_none (by unfold Aa;rw[if_pos g]),List.filter_cons_of_neg (by simp[g])];exact ih
  ·rw[zbe (b:=x.toNat) (by unfold Aa;rw[if_neg g]),List.filter_cons_of_pos (by simp[g]),Pb,Pb,ih]
def F9{l:List Rn}{c:Int}:∀m,l.foldl (λm r=>max m r.n) m<c↔m<c∧∀r∈l,r.n<c:=by
 induction l with
 |nil=>intro m;simp
 |cons x l ih=>
  intro m;rw[TX,ih];simp only[Qg,forall_eq_or_imp];constructor
  ·rintro⟨g1,g2⟩;exact⟨ab,ab,g2⟩
  ·rintro⟨g1,g2,g3⟩;exact⟨ab,g3⟩
def Fs{l:List Rn}{c:Int}(hc:0<c):rh c l=[]↔anU l<c:=by
 unfold anU;rw[F9];unfold rh small;rw[zbf];constructor
 ·intro h;refine⟨hc,λr hr=>?_⟩;have:=h r hr;simpa using this
 ·rintro⟨_,h⟩ r hr;have:=h r hr;simpa using this
def C1(i:Int):∀(l:List Rn) (s:Int),(gU i s l).length=l.length
 |[],_=>rfl
 |r::l,s=>by show(gU i _ l).length+1=l.length+1;rw[C1 i l]
def He(i:Int):∀(l:List Rn) (s:Int),∀m∈gU i s l,m.k=i
 |[],_,m,h=>by cases h
 |r::l,s,m,h=>by
  rcases Qg.1 (show m∈_::gU i _ l from h)with rfl|h
  ·rfl
  ·exact He i l _ m h
structure IJ(v:Vo)(i:Nat)(l:List Mv):Prop where
 e:(PU v 0 l).2.2=0
 g:nS (PU v 0 l).1
 fN:ac4 (PU v 0 l).1=ac4 v
 fr:bI (acZ (PU v 0 l).1.d)=bI (acZ v.d)
 one:∃b,(PU v 0 l).1.st.l[i]?=some b/\(LZ (Dc b)).length=1
 k:∀m∈l,m.k=i
def Gc{v:Vo}(h:nS v){i:Nat}{a:At}(hi:v.st.l[i]?=some a):
 ((LZ (Dc a)).length<=1/\j6 v i=0/\C4 v i=[])\/
 (1<(LZ (Dc a)).length/\anU (acZ v.d)<(Dc a).length/\j6 v i=16/\C4 v i=[])\/
 (1<(LZ (Dc a)).length∧¬anU (acZ v.d)<(Dc a).length/\j6 v i=0/\fu a=0/\(C4 v i).length=(qz a).length/\IJ v i (C4 v i)):=by
 have HA:=OF hi;have iX:=(Oe.1 hi).1;obtain⟨o1,o2,o3,o4⟩:=AZ.1 h.2;have hk:=P0 h.1 h.2;have h0:=o3 a HA;obtain⟨ok,_⟩:=bc h0;obtain⟨q1,q2,q3,q4,q5⟩:=lE ok.str;have fM:ni v (i:Int)=a:=by unfold ni;rw[QT,hi];rfl
 have Jw:LI v (i:Int)=0:=by unfold LI;rw[if_neg (λg=>g h.2),if_pos ab]
 have jg:=amk h0;have Jk:=R_ h0;have c_:=λr hr=>Bd h0 r hr
 have Kh:∀r∈a.rn.l,r.s= -1\/0<=r.s:=λr hr=>(c_ r hr).imp id (·.1)
 by_cases kR:(Yd a.rn.l).length<=1
 ·refine .inl ⟨by rw[jg];exact kR,?_,?_⟩
  ·unfold j6;rw[Jw,if_neg (λg=>g rfl),fM,if_pos kR]
  ·unfold C4;rw[fM,if_pos (.inr (.inl kR))]
 have xH:1<(LZ (Dc a)).length:=by rw[jg];omega
 have cb:Dc a≠[]:=λg=>by rw[g]at xH;exact absurd xH ao
 have Gq:=List.length_pos_iff.2 cb;have F2:a.rs=false:=by
  cases g:a.rs with
  |false=>rfl
  |true=>exact absurd (show Dc a=[] by unfold Dc;rw[if_pos g]) cb
 have sH:=Dj Kh;have Jl:bI (Yd a.rn.l)=((Dc a).length:Int):=by
  rw[Jk,sH,au5 a.rn.l λr hr=>by
   rcases c_ r hr with g|g
   ·exact .inl g
   ·exact .inr ⟨g.1,by have:=rG ((bZ ok.rn).2.2.2 r hr);omega⟩]
 have Nt:=A4 (az a.rn.l) (az a.rn.l).length (OS _);rw[zar,<-sH,<-Jk]at Nt;have hR:It v (i:Int)=rh ((Dc a).length:Int) (acZ v.d):=by
  unfold It;rw[fM,Jl,show ae (aqZ v λ_=>True) (ct v).length=acZ v.d from awy hk]
 have Nv:=Fs (l:=acZ v.d) (c:=((Dc a).length:Int)) ab;by_cases hm:anU (acZ v.d)<(Dc a).length
 ·have e:j6 v (i:Int)=16:=by unfold j6;rw[Jw,if_neg (λg=>g rfl),fM,if_neg kR,hR,if_pos (Nv.2 hm)]
  exact .inr (.inl ⟨xH,hm,e,by unfold C4;rw[e,if_pos (.inr (.inr ao))]⟩)
 have K3:rh ((Dc a).length:Int) (acZ v.d)≠[]:=λg=>hm (Nv.1 g)
 obtain⟨b,l,Gn⟩:∃b l,rh ((Dc a).length:Int) (acZ v.d)=b::l:=by
  cases g:rh ((Dc a).length:Int) (acZ v.d)with
  |nil=>exact absurd g K3
  |cons b l=>exact⟨b,l,rfl⟩
 have SF:dz b l∈rh ((Dc a).length:Int) (acZ v.d):=by
  rw[Gn];rcases nB b l with g|g
  ·rw[g];simp
  ·exact zbc _ g
 have hS:CQ v (i:Int)=gU i (dz b l).s (qz a):=by unfold CQ;rw[hR,Gn,fM]
 generalize dz b l=r0 at*;obtain⟨Gw,CW⟩:=Uq.1 (show r0∈(acZ v.d).filter _ from SF);have CW:((Dc a).length:Int)<=r0.n:=by
  unfold small at CW;simpa using CW
 have pq:=(ah9 (λc=>¬bH v.d.mp c=1) v.d.n).1 r0 Gw;have Gp:=(IN (λc=>¬bH v.d.mp c=1) v.d.n).1;have K5:fu a=0:=by unfold fu;rw[q1,if_neg (λg=>g rfl),if_neg (by rw[F2];decide)]
 have Aj:qz a=bh (Jc (az a.rn.l)) (az a.rn.l).length:=by unfold qz;rw[if_pos K5]
 have hI:Is v i a r0.s v 0:=by
  refine⟨h,rfl,rfl,rfl,rfl,⟨a,hi,rfl,(AS _ _).symm⟩,λc c1 c2=>?_⟩;rw[Nt]at c2;have c1:r0.s<=c:=by have:gy (Jc (az a.rn.l)) 0=0:=rfl;omega
  exact((Gp c).1 ⟨r0,Gw,iq.2 ab⟩).2
 obtain⟨g1,g2⟩:=EU h hi F2 pq.1 (by rw[Nt];omega) _ v 0 0 hI (Dx _ _);rw[<-Aj,show r0.s+(gy (Jc (az a.rn.l)) 0:Int)=r0.s from Int.add_zero _,<-hS]at g1 g2;have hlen:(CQ v (i:Int)).length=(qz a).length:=by rw[hS,C1]
 have Kn:(CQ v (i:Int)).length<=300:=by
  rw[hlen,Aj];have:=(kI (Jc (az a.rn.l)) (az a.rn.l).length).2.1;have:=ok.len;omega
 have Kr:gM v (.sl (CQ v (i:Int)))=0:=by
  unfold gM;rw[show(Sl.sl (CQ v (i:Int))).l=CQ v (i:Int)from rfl,if_neg (λq=>q g1),if_pos Kn]
 have hE:j6 v (i:Int)=0:=by unfold j6;rw[Jw,if_neg (λg=>g rfl),fM,if_neg kR,hR,if_neg K3];exact Kr
 have hL:C4 v (i:Int)=CQ v (i:Int):=by
  unfold C4;rw[if_neg];rw[Jw,fM,hE];rintro(q|q|q)
  ·exact q rfl
  ·exact kR q
  ·exact q rfl
 rw[hL];refine .inr (.inr ⟨xH,hm,hE,K5,hlen,g1,g2.g,g2.fN,g2.fr,?_,λm hm=>by rw[hS]at hm;exact He _ _ _ m hm⟩);obtain⟨b,b1,b2,b3⟩:=g2.at_;refine⟨b,b1,?_⟩;have cq:=(AZ.1 g2.g.2).2.2.1 b (OF b1);rw[R_ cq,Ap (λr hr=>(Bd cq r hr).imp id (·.1)),b3,ir pq.1 _ (OS _)];exact Ec _ _ ab
structure Hp(v:Vo)(s:Sl Mv):Prop where
 e:(ey v s).2.2=0
 g:nS (ey v s).1
 fN:ac4 (ey v s).1=ac4 v
 fr:bI (acZ (ey v s).1.d)=bI (acZ v.d)
def kA(ps:List PV)(x:PV):Prop:=∃(v:Vo) (s:Sl Mv),ps=[v.pv,OI s]/\(nS v/\s.l.length<=1000000/\Hp v s)/\x=pB true
set_option maxHeartbeats 4000000 in
def Bl:MT (ay [(41,c8 false UP),(16,ah OA),(45,c8 true akH),(46,bF aeY),(26,c8 true Ty)]) gN (ah kA):=by
 rintro _ K ⟨_,⟨v,s,rfl,⟨hv,hs,H⟩,rfl⟩,hK⟩;obtain⟨h1,h2,h3,h4⟩:=H;have qG:UP [v.pv,OI s] _:=⟨v,s,rfl,⟨acx hv.1 hv.2,hs⟩,rfl⟩
 generalize ey v s=R at*;obtain⟨X,J,E⟩:=R;simp only at h1 h2 h3 h4 qG;subst h1;have K8:OA [X.pv] _:=⟨X,rfl,⟨h2.1,h2.rn⟩,rfl⟩
 rw[h2.2]at K8;have Oi:akH [v.pv] _:=⟨v,rfl,⟨hv,hv.rn⟩,rfl⟩
 have Cw:akH [X.pv] _:=⟨X,rfl,⟨h2,h2.rn⟩,rfl⟩
 rw[h3]at Cw;have lX:Ty [v.pv] _:=⟨v,rfl,P0 hv.1 hv.2,rfl⟩
 have ZI:Ty [X.pv] _:=⟨X,rfl,P0 h2.1 h2.2,rfl⟩
 have Gv:(eJ v).f=(eJ X).f:=h4.symm;have mE:(ac4 v).length<=1000000:=by unfold ac4;rw[PX];exact hv.1.2.2
 have Hx:aeY [.sl 1 (Px (ac4 v)),.sl 1 (Px (ac4 v))] _:=⟨_,_,rfl,⟨mE,mE⟩,rfl⟩
 generalize ac4 v=CV at*
 (repeat'((conv=>whnf);first|refine⟨_,qG,?_⟩|refine aw (λh=>h rfl) ?_|refine⟨_,K8,?_⟩|refine⟨_,Oi,?_⟩|refine⟨_,Cw,?_⟩|refine⟨_,Hx,?_⟩|refine au rfl ?_|refine⟨_,lX,?_⟩|refine⟨_,ZI,?_⟩|refine au Gv ?_|refine bT ?_|fail))<;>try(conv=>whnf)
 exact⟨.pv (pB true),rfl,trivial,hK⟩
def lx(ps:List PV)(x:PV):Prop:=∃(v:Vo) (s:Sl Mv) (i:Nat),ps=[v.pv,OI s,pI i]/\(nS v/\s.l.length<=1000000/\(ey v s).2.2=0/\nS (ey v s).1∧∃b,(ey v s).1.st.l[i]?=some b/\(LZ (Dc b)).length=1)/\x=pB true
def C9{v:Vo}(h:nS v){a:At}(ha:a∈v.st.l):a.rn.l.length<=1000000/\(∀r∈a.rn.l,r.s= -1\/CM r)/\(xM a.rn.l).length<=1000000:=by
 have hk:=P0 h.1 h.2;have h0:=(AZ.1 h.2).2.2.1 a ha;obtain⟨b1,b2⟩:=hk.rb ha;refine⟨ab,b2,?_⟩;rw[Dj λr hr=>(Bd h0 r hr).imp id (·.1)];have:=oG (az a.rn.l);have:=(bc h0).1.len;omega
set_option maxHeartbeats 4000000 in
def Ay:MT (ay [(41,c8 false UP),(19,c8 true A3)]) fD (ah lx):=by
 rintro _ K ⟨_,⟨v,s,i,rfl,⟨hv,hs,h1,h2,b,hb,kR⟩,rfl⟩,hK⟩;have qG:UP [v.pv,OI s] _:=⟨v,s,rfl,⟨acx hv.1 hv.2,hs⟩,rfl⟩
 generalize ey v s=R at*;obtain⟨X,J,E⟩:=R;simp only at h1 h2 hb qG;subst h1;have qH:D4 X.st=.sl 11 (X.st.l.map At.pv):=Sl.zN hb;have M1:X.pv=.agg [.str X.d.a_,.str X.d.mp,.sl 11 (X.st.l.map At.pv)]:=by unfold Vo.pv;rw[qH]
 have H6:=oa (f:=At.pv) hb;have s7:A3 [b.pv] _:=⟨b,rfl,C9 h2 (OF hb),rfl⟩
 have M4:((LZ (Dc b)).map Rn.pv).length=1:=by rw[PX];exact kR
 rw[M1]at qG
 (repeat'((conv=>whnf);first|refine⟨_,qG,?_⟩|refine au rfl ?_|refine⟨_,⟨ab,H6⟩,?_⟩|refine⟨_,s7,?_⟩|refine au ab ?_|refine dq λ_=>?_|refine bT ?_|fail))<;>try(conv=>whnf)
 exact⟨.pv (pB true),rfl,trivial,hK⟩
def E7(a:At):fu (aB a)=fu a:=FB
def Eg(a:At):qz (aB a)=qz a:=FB
def FU{v:Vo}(h:nS v){i:Nat}{l:List Mv}(W:IJ (bp v) i l)(hl:l.length<=300):Hp v (.sl l)∧∃b,(ey v (.sl l)).1.st.l[i]?=some b/\(LZ (Dc b)).length=1:=by
 obtain⟨b1,b2⟩:=ae7 v l 0;have e:ey v (.sl l)=(bp (PU (bp v) 0 l).1,(l.length:Int),0):=by
  have h1:=W.e;rw[b1]at h1;unfold ey;rw[show(Sl.sl l).l=l from rfl,if_pos hl,if_neg (λg=>g h1),b2]
 refine⟨⟨by rw[e],by rw[e];exact axS W.g,by rw[e];show ac4 (bp _)=_;rw[si,W.fN,si],by rw[e];exact W.fr⟩,?_⟩;obtain⟨b,g1,g2⟩:=W.one;refine⟨aB b,?_,g2⟩;rw[e];show((PU (bp v) 0 l).1.st.l.map aB)[i]?=_;rw[TC,g1];rfl
set_option maxHeartbeats 8000000 in
def gY:MT (ay [(12,ah KL),(13,bF Wr),(15,c8 false qM),(52,c8 false gj),(16,ah OA),(17,ah adG),(19,c8 true A3),(26,c8 true Ty),(53,c8 true BU),(55,c8 false dK),(54,c8 true Ca),(51,ah kA),(56,ah lx)]) eA (ah afl):=by
 rintro _ K ⟨_,⟨v,i,rfl,rfl⟩,hK⟩;have lD:KL [] (pB true):=⟨rfl,rfl⟩
 have cT:Wr [v.pv] _:=⟨v,rfl,rfl⟩
 by_cases hf:ahf v
 case neg=>
  (repeat'((conv=>whnf);first|refine⟨_,lD,?_⟩|refine⟨_,cT,?_⟩|refine aw hf ?_|refine aN ?_|refine bP ?_|fail))<;>try(conv=>whnf)
  exact⟨.pv (pB true),rfl,trivial,hK⟩
 obtain⟨hb,hr,hn⟩:=hf.b;have hC:qM [v.pv] _:=⟨v,rfl,hn,rfl⟩
 have sM:gj [(bp v).pv,pI i] (.tup [.pv (.sl 4 ((C4 (bp v) i).map Mv.pv)),.pv (pI (j6 (bp v) i))]):=⟨bp v,i,rfl,Og hb,rfl⟩
 have fh:OA [v.pv] _:=⟨v,rfl,⟨hb,hr⟩,rfl⟩
 have sS:(bp v).st.l.length=v.st.l.length:=PX _;have cb:∀E:Int,E≠0->LI (bp v) i=E->j6 (bp v) i=E/\C4 (bp v) i=[]:=λE h0 h=>by
  have e:j6 (bp v) i=E:=by unfold j6;rw[h,if_pos h0]
  exact⟨e,by unfold C4;rw[if_pos (.inl (by rw[h];exact h0))]⟩
 by_cases he:wX v=0
 case neg=>
  obtain⟨e1,e2⟩:=cb (wX v) he (by unfold LI;rw[if_pos (by rw[x_];exact he),x_]);rw[e1,e2]at sM
  (repeat'((conv=>whnf);first|refine⟨_,lD,?_⟩|refine⟨_,cT,?_⟩|refine au hf ?_|refine⟨_,hC,?_⟩|refine⟨_,sM,?_⟩|refine⟨_,fh,?_⟩|refine aw he ?_|refine au he ?_|refine au rfl ?_|refine aN ?_|refine dq λ_=>?_|fail))<;>try(conv=>whnf)
  exact⟨.pv (pB true),rfl,trivial,hK⟩
 have hG:nS v:=⟨hb,he⟩
 have XM:adG [v.pv,pI i] _:=⟨v,i,rfl,by have:=hn.1;omega,rfl⟩
 rw[he]at fh;by_cases hk:0<=i/\i<=(v.st.l.length:Int)-1
 case neg=>
  obtain⟨e1,e2⟩:=cb 6 ao (by unfold LI;rw[x_,if_neg (λg=>g he),sS,if_neg hk]);rw[e1,e2]at sM;rw[show Im v i=6 by unfold Im;rw[if_neg hk]]at XM
  (repeat'((conv=>whnf);first|refine⟨_,lD,?_⟩|refine⟨_,cT,?_⟩|refine au hf ?_|refine⟨_,hC,?_⟩|refine⟨_,sM,?_⟩|refine⟨_,fh,?_⟩|refine au rfl ?_|refine⟨_,XM,?_⟩|refine au ao ?_|refine aN ?_|refine dq λ_=>?_|fail))<;>try(conv=>whnf)
  exact⟨.pv (pB true),rfl,trivial,hK⟩
 rw[show Im v i=0 by unfold Im;rw[if_pos hk]]at XM;obtain⟨k,rfl⟩:∃k:Nat,i=k:=⟨i.toNat,ab⟩
 obtain⟨a,ha⟩:∃a,v.st.l[k]?=some a:=⟨_,OO ab⟩
 have HA:=OF ha;have M9:(bp v).st.l[k]?=some (aB a):=by
  show(v.st.l.map aB)[k]?=_;rw[TC,ha];rfl
 have law:=Gc (axS hG) M9;rw[E7,Eg,show Dc (aB a)=Dc a from rfl,show(bp v).d=v.d from rfl]at law;have qH:D4 v.st=.sl 11 (v.st.l.map At.pv):=Sl.zN ha;have lR:=oa (f:=At.pv) ha;have jg:=C9 hG HA;have s7:A3 [a.pv] _:=⟨a,rfl,jg,rfl⟩
 have Jk:BU [a.pv] _:=⟨a,rfl,jg,rfl⟩
 have lp:Ty [v.pv] _:=⟨v,rfl,P0 hb he,rfl⟩
 have Aw:dK [a.pv] _:=⟨a,rfl,hr a HA,rfl⟩
 have K_:Ca [(aB a).pv] (.tup [.fresh 37 2 ((qz a).map Rn.pv),.pv (pI (fu a))]):=⟨aB a,rfl,hb.2.1 a HA,by rw[E7,Eg]⟩
 have qG:((LZ (Dc a)).map Rn.pv).length=(LZ (Dc a)).length:=PX _;have Aj:(sw (Dc a)).length=(Dc a).length:=by unfold sw;rw[PX,PX]
 have bJ:((qz a).map Rn.pv).length=(qz a).length:=PX _;have jV:v.pv=.agg [.str v.d.a_,.str v.d.mp,.sl 11 (v.st.l.map At.pv)]:=by unfold Vo.pv;rw[qH]
 have XJ:(eJ v).l=anU (acZ v.d):=rfl;rcases law with⟨l1,e1,e2⟩|⟨l1,l2,e1,e2⟩|⟨l1,l2,e1,de,el,W⟩
 ·rw[e1,e2]at sM;rw[jV]at cT hC fh XM ⊢
  (repeat'((conv=>whnf);first|refine⟨_,lD,?_⟩|refine⟨_,cT,?_⟩|refine au hf ?_|refine⟨_,hC,?_⟩|refine⟨_,sM,?_⟩|refine⟨_,fh,?_⟩|refine au rfl ?_|refine⟨_,XM,?_⟩|refine aw (λh=>h rfl) ?_|refine⟨_,⟨ab,lR⟩,?_⟩|refine⟨_,s7,?_⟩|refine au ab ?_|refine aN ?_|refine dq λ_=>?_|refine bT ?_|fail))<;>try(conv=>whnf)
  exact⟨.pv (pB true),rfl,trivial,hK⟩
 ·rw[e1,e2]at sM;rw[jV]at cT hC fh XM lp ⊢
  (repeat'((conv=>whnf);first|refine⟨_,lD,?_⟩|refine⟨_,cT,?_⟩|refine au hf ?_|refine⟨_,hC,?_⟩|refine⟨_,sM,?_⟩|refine⟨_,fh,?_⟩|refine au rfl ?_|refine⟨_,XM,?_⟩|refine aw (λh=>h rfl) ?_|refine⟨_,⟨ab,lR⟩,?_⟩|refine⟨_,s7,?_⟩|refine aw ab ?_|refine⟨_,lp,?_⟩|refine⟨_,Jk,?_⟩|refine au xI ?_|refine aN ?_|refine dq λ_=>?_|refine bT ?_|fail))<;>try(conv=>whnf)
  exact⟨.pv (pB true),rfl,trivial,hK⟩
 ·obtain⟨sQ,gn⟩:=FU hG W (by
   rw[el];unfold qz;rw[if_pos de];have:=(kI (Jc (az a.rn.l)) (az a.rn.l).length).2.1;have:=(bc ((AZ.1 he).2.2.1 a HA)).1.len;omega)
  have Ng:=W.k;rw[e1]at sM;rw[de]at K_;generalize C4 (bp v) k=L at*;have Zw:L.length<=1000000:=by
   rw[el];unfold qz;rw[if_pos de];have:=(kI (Jc (az a.rn.l)) (az a.rn.l).length).2.1;have:=(bc ((AZ.1 he).2.2.1 a HA)).1.len;omega
  have Ib:(L.map Mv.pv).length=L.length:=PX _;have Lc:kA [v.pv,.sl 4 (L.map Mv.pv)] _:=⟨v,.sl L,rfl,⟨hG,Zw,sQ⟩,rfl⟩
  have I6:lx [v.pv,.sl 4 (L.map Mv.pv),pI k] _:=⟨v,.sl L,k,rfl,⟨hG,Zw,sQ.e,sQ.g,gn⟩,rfl⟩
  rw[jV]at cT hC fh XM lp Lc I6 ⊢
  (repeat'((conv=>whnf);first|refine⟨_,lD,?_⟩|refine⟨_,cT,?_⟩|refine au hf ?_|refine⟨_,hC,?_⟩|refine⟨_,sM,?_⟩|refine⟨_,fh,?_⟩|refine au rfl ?_|refine⟨_,XM,?_⟩|refine aw (λh=>h rfl) ?_|refine⟨_,⟨ab,lR⟩,?_⟩|refine⟨_,s7,?_⟩|refine aw ab ?_|refine⟨_,lp,?_⟩|refine⟨_,Jk,?_⟩|refine aw ao ?_|refine⟨_,Aw,?_⟩|refine⟨_,K_,?_⟩|refine dq λ_=>?_|refine bT ?_|fail))<;>try(conv=>whnf)
  refine⟨λq env σ=>∃n:Nat,n+q=L.length/\σ=[.box 26 [.pv (.str v.d.a_),.pv (.str v.d.mp),.pv (.sl 11 (v.st.l.map At.pv))]]/\env=[eN 1 k,(2,.ref 0 0 0),(5,.pv (.sl 4 (L.map Mv.pv))),eN 11 n],L.length,⟨0,ab,rfl,rfl⟩,?_⟩;rintro q env σ ⟨n,NP,rfl,rfl⟩;by_cases aU:n<L.length
  ·obtain⟨x,hx⟩:∃x,L[n]?=some x:=⟨_,OO aU⟩
   have Wk:=oa (f:=Mv.pv) hx;have Nl:=Ng x (OF hx)
   (repeat'((conv=>whnf);first|refine au ab ?_|refine⟨_,⟨ab,Wk⟩,?_⟩|refine aw (λh=>h Nl) ?_|refine bj ab ?_|refine dq λ_=>?_|fail))<;>try(conv=>whnf)
   exact⟨q-1,ab,n+1,ab,rfl,rfl⟩
  ·(repeat'((conv=>whnf);first|refine aw ab ?_|refine⟨_,Lc,?_⟩|refine⟨_,I6,?_⟩|refine dq λ_=>?_|fail))<;>try(conv=>whnf)
   exact⟨.pv (pB true),rfl,trivial,hK⟩
def dQ(lone:Bool)(R:List PV->RV->Prop):ajo (c8 lone R):=⟨λe=>cz,λ_ _ h=>h,rfl⟩
def apT:ajo BX:=by
 refine⟨λ_=>⟨rfl,λps K h=>?_⟩,λ_ _ h=>h,rfl⟩;obtain⟨a,b,rfl,h1,h2⟩:=h;by_cases ha:a=0
 ·exact⟨pI b,h2 ha,λK' h=>⟨a,b,rfl,λh'=>absurd ha h',λ_=>h⟩⟩
 ·exact⟨pI a,h1 ha,λK' h=>⟨a,b,rfl,λ_=>h,λh'=>absurd h' ha⟩⟩
def SN:MT (ay []) RZ (ah gB):=kS
def rQ:bU bb 293 (ah jj):=Qi.sound mixed aq (ax _) (by rintro _ _ ⟨_,⟨_,rfl,_⟩,_⟩;rfl) I0
def th:bU bb 276 (ah jj):=Wl.sound mixed (aaB rQ aq) (ax _) (by rintro _ _ ⟨_,⟨_,rfl,_⟩,_⟩;rfl) No
def fJ:bU bb 260 (ah rU):=Ul.sound mixed (aaB th aq) (ax _) (by rintro _ _ ⟨_,⟨_,rfl,_⟩,_⟩;rfl) Ki
def ja:bU bb 295 (ah fF):=Ov.sound mixed (aaB fJ aq) (ax _) (by rintro _ _ ⟨_,⟨_,rfl,_⟩,_⟩;rfl) Hr
def rP:bU bb 294 (ah jl):=Q7.sound mixed aq (ax _) (by rintro _ _ ⟨_,⟨_,_,_,rfl,_⟩,_⟩;rfl) IT
def eZ:bU bb 239 (ah l5):=Rh.sound mixed aq (ax _) (by rintro _ _ ⟨_,⟨_,_,rfl,_⟩,_⟩;rfl) IX
def kL:bU bb 238 (ah qZ):=Tz.sound mixed aq (ax _) (by rintro _ _ ⟨_,⟨_,rfl,_⟩,_⟩;rfl) JC
def ca:bU bb 263 (ah cm):=Sh.sound mixed aq (ax _) (by rintro _ _ ⟨_,⟨_,rfl,_⟩,_⟩;rfl) I5
def c7:bU bb 261 (ah dW):=WK.sound mixed (aaB ca aq) (ax _) (by rintro _ _ ⟨_,⟨_,rfl,_⟩,_⟩;rfl) MP
def vD:bU bb 277 (ah wY):=MA.sound mixed (aaB ca (aaB eZ (aaB kL (aaB rP (aaB ja (aaB c7 aq)))))) (ax _) (by rintro _ _ ⟨_,⟨_,_,rfl,_⟩,_⟩;rfl) Zl
def q8:bU bb 262 oZ:=GU.sound mixed (aaB vD (aaB c7 aq)) (azL _ _) (by rintro _ _ ⟨_,rfl,_⟩;rfl) Qo
def vG:bU bb 241 tf:=M3.sound mixed (aaB ca aq) (azL _ _) (by rintro _ _ ⟨_,rfl,_⟩;rfl) Y2
def pF:bU bb 259 (ah P5):=Si.sound mixed aq (ax _) (by rintro _ _ ⟨_,⟨_,rfl,_⟩,_⟩;rfl) ae4
def Aq:bU bb 237 abr:=RH.sound mixed (aaB pF (aaB eZ aq)) (azL _ _) (by rintro _ _ ⟨_,_,rfl,_⟩;rfl) afO
def yC:bU bb 240 S4:=QZ.sound mixed (aaB fJ (aaB pF (aaB c7 (aaB q8 aq)))) (azL _ _) (by rintro _ _ ⟨_,rfl,_⟩;rfl) afI
def we:bU bb 97 (ah Xs):=Qc.sound mixed aq (ax _) (by rintro _ _ ⟨_,⟨_,rfl,_⟩,_⟩;rfl) akb
def mA:bU bb 242 (ah GS):=MR.sound mixed aq (ax _) (by rintro _ _ ⟨_,⟨_,rfl,_⟩,_⟩;rfl) YU
def uP:bU bb 170 (ah lz):=Iz.sound mixed aq (ax _) (by rintro _ _ ⟨_,⟨_,_,_,rfl,_⟩,_⟩;rfl) M7
def ej:bU bb 172 (ah jw):=Vz.sound mixed aq (ax _) (by rintro _ _ ⟨_,⟨_,_,rfl,_⟩,_⟩;rfl) Nc
def fv:bU bb 129 (ah jQ):=ag5.sound mixed aq (ax _) (by rintro _ _ ⟨_,⟨_,rfl,_⟩,_⟩;rfl) Te
def vS:bU bb 171 (ah ae6):=acL.sound mixed aq (ax _) (by rintro _ _ ⟨_,⟨_,rfl,_⟩,_⟩;rfl) amE
def nU:bU bb 125 (ah HN):=JV.sound mixed (aaB uP (aaB vS (aaB ej aq))) (ax _) (by rintro _ _ ⟨_,⟨_,_,rfl,_⟩,_⟩;rfl) PQ
def lq:bU bb 170 (bF bG):=Iz.sound mixed aq (b_ _) (by rintro _ _ ⟨_,⟨_,_,_,rfl,_⟩,_⟩;rfl) acU
def bw:bU bb 32 (bF bG):=DQ.sound mixed aq (b_ _) (by rintro _ _ ⟨_,⟨_,_,_,rfl,_⟩,_⟩;rfl) acX
def rZ:bU bb 175 (ah awJ):=Pr.sound mixed aq (ax _) (by rintro _ _ ⟨_,⟨_,_,_,rfl,_⟩,_⟩;rfl) as7
def wg:bU bb 173 afd:=acs.sound mixed (aaB nU aq) (azL _ _) (by rintro _ _ ⟨_,_,rfl,_⟩;rfl) alR
def dN:bU bb 174 BX:=Yw.sound mixed aq apT (by rintro _ _ ⟨_,_,rfl,_⟩;rfl) agS
def tO:bU bb 126 XF:=X7.sound mixed (aaB wg (aaB dN (aaB ej (aaB lq (aaB rZ aq))))) (azL _ _) (by rintro _ _ ⟨_,_,_,rfl,_⟩;rfl) ahs
def Gl:bU bb 182 agu:=ZZ.sound mixed (aaB lq (aaB vS aq)) (azL _ _) (by rintro _ _ ⟨_,rfl,_⟩;rfl) aip
def vC:bU bb 201 JN:=Pg.sound mixed (aaB Gl aq) (azL _ _) (by rintro _ _ ⟨_,rfl,_⟩;rfl) V4
def s8:bU bb 227 Sn:=DK.sound mixed aq (azL _ _) (by rintro _ _ ⟨_,_,rfl,_⟩;rfl) agM
def ua:bU bb 195 ah2:=Ac.sound mixed (aaB s8 aq) (azL _ _) (by rintro _ _ ⟨_,_,rfl,_⟩;rfl) VP
def En:bU bb 181 (ah afu):=VK.sound mixed aq (ax _) (by rintro _ _ ⟨_,⟨_,rfl,_⟩,_⟩;rfl) ahJ
def yA:bU bb 128 (ah Ts):=Q_.sound mixed (aaB En aq) (ax _) (by rintro _ _ ⟨_,⟨_,_,rfl,_⟩,_⟩;rfl) adf
def kB:bU bb 148 (ah gB):=QM.sound mixed aq (ax _) (by rintro _ _ ⟨_,⟨_,rfl,_⟩,_⟩;rfl) kS
def Hz:bU bb 243 (ah gB):=adw.sound mixed aq (ax _) (by rintro _ _ ⟨_,⟨_,rfl,_⟩,_⟩;rfl) Qv
def fA:bU bb 149 (ah dG):=OP.sound mixed aq (ax _) (by rintro _ _ ⟨_,⟨_,_,rfl,_⟩,_⟩;rfl) jP
def D9:bU bb 244 (ah dG):=ZC.sound mixed aq (ax _) (by rintro _ _ ⟨_,⟨_,_,rfl,_⟩,_⟩;rfl) OQ
def jo:bU bb 229 (ah dG):=ac9.sound mixed aq (ax _) (by rintro _ _ ⟨_,⟨_,_,rfl,_⟩,_⟩;rfl) RG
def oK:bU bb 152 (bF bG):=OM.sound mixed aq (b_ _) (by rintro _ _ ⟨_,⟨_,_,_,rfl,_⟩,_⟩;rfl) uL
def nr:bU bb 230 (bF bG):=acA.sound mixed aq (b_ _) (by rintro _ _ ⟨_,⟨_,_,_,rfl,_⟩,_⟩;rfl) Sd
def fT:bU bb 233 (bF BJ):=acP.sound mixed aq (b_ _) (by rintro _ _ ⟨_,⟨_,rfl,_⟩,_⟩;rfl) ae1
def Ae:bU bb 246 (ah Ph):=Wh.sound mixed (aaB fT (aaB nr (aaB jo aq))) (ax _) (by rintro _ _ ⟨_,⟨_,rfl,_⟩,_⟩;rfl) Yf
def vV:bU bb 247 (bF Ab):=agd.sound mixed (aaB fT aq) (b_ _) (by rintro _ _ ⟨_,⟨_,_,rfl,_⟩,_⟩;rfl) akf
def sE:bU bb 248 (sB ag6):=Th.rJ mixed (aaB fT aq) (by rintro _ _ _ ⟨_,_,_,rfl,_⟩;rfl) al1
def jr:bU bb 197 (ah iu):=ac8.sound mixed aq (ax _) (by rintro _ _ ⟨_,⟨_,rfl,_⟩,_⟩;rfl) agW
def tE:bU bb 208 (c8 true aae):=TO.sound mixed (aaB Ae (aaB vV (aaB sE (aaB jr (aaB jo aq))))) (dQ _ _) (by rintro _ _ ⟨_,⟨_,rfl,_⟩,_⟩;rfl) Wc
def vk:bU bb 83 (bF YX):=alj.sound mixed aq (b_ _) (by rintro _ _ ⟨_,⟨_,_,rfl,_⟩,_⟩;rfl) aqO
def FP:bU bb 249 (ah aaw):=acK.sound mixed (aaB nr aq) (ax _) (by rintro _ _ ⟨_,⟨_,rfl,_⟩,_⟩;rfl) afr
def FM:bU bb 250 (c8 true Z0):=adl.sound mixed aq (dQ _ _) (by rintro _ _ ⟨_,⟨_,_,rfl,_⟩,_⟩;rfl) agJ
def lu:bU bb 196 (ah wB):=aaM.sound mixed (aaB tE aq) (ax _) (by rintro _ _ ⟨_,⟨_,rfl,_⟩,_⟩;rfl) ac2
def vL:bU bb 210 (c8 true G7):=QA.sound mixed (aaB lu (aaB fT (aaB FP (aaB FM aq)))) (dQ _ _) (by rintro _ _ ⟨_,⟨_,rfl,_⟩,_⟩;rfl) Uu
def nF:bU bb 281 (bF AM):=uY.sound mixed aq (b_ _) (by rintro _ _ ⟨_,⟨_,_,rfl,_⟩,_⟩;rfl) Uk
def wF:bU bb 266 (bF AM):=MN.sound mixed (aaB nF aq) (b_ _) (by rintro _ _ ⟨_,⟨_,_,rfl,_⟩,_⟩;rfl) Wt
def ka:bU bb 209 (ah xr):=Js.sound mixed aq (ax _) (by rintro _ _ ⟨_,⟨_,rfl,_⟩,_⟩;rfl) Ro
def tU:bU bb 153 (ah E9):=EF.sound mixed (aaB fA (aaB kB aq)) (ax _) (by rintro _ _ ⟨_,⟨_,rfl,_⟩,_⟩;rfl) afP
def FN:bU bb 213 (sB agl):=Wz.rJ mixed aq (by rintro _ _ _ ⟨_,_,_,_,rfl,_⟩;rfl) als
def Ai:bU bb 211 (ah Tj):=TG.sound mixed aq (ax _) (by rintro _ _ ⟨_,⟨_,_,rfl,_⟩,_⟩;rfl) acG
def wN:bU bb 212 (ah Uo):=MJ.sound mixed aq (ax _) (by rintro _ _ ⟨_,⟨_,_,rfl,_⟩,_⟩;rfl) adm
def Ak:bU bb 155 (ah Tp):=MZ.sound mixed (aaB vL (aaB Ai (aaB wN (aaB FN (aaB ka aq))))) (ax _) (by rintro _ _ ⟨_,⟨_,rfl,_⟩,_⟩;rfl) ac6
def bY:bU bb 111 (ah gB):=agP.sound mixed aq (ax _) (by rintro _ _ ⟨_,⟨_,rfl,_⟩,_⟩;rfl) Pc
def bL:bU bb 113 (ah dG):=VM.sound mixed aq (ax _) (by rintro _ _ ⟨_,⟨_,_,rfl,_⟩,_⟩;rfl) MW
def ri:bU bb 193 (bF bG):=VT.sound mixed aq (b_ _) (by rintro _ _ ⟨_,⟨_,_,_,rfl,_⟩,_⟩;rfl) MU
def dw:bU bb 115 (bF GM):=VF.sound mixed aq (b_ _) (by rintro _ _ ⟨_,⟨_,rfl,_⟩,_⟩;rfl) ML
def d_:bU bb 124 (ah bA):=MV.sound mixed aq (ax _) (by rintro _ _ ⟨_,⟨_,rfl,_⟩,_⟩;rfl) Gg
def rm:bU bb 218 (ah K4):=WM.sound mixed aq (ax _) (by rintro _ _ ⟨_,⟨_,_,rfl,_⟩,_⟩;rfl) Nf
def kz:bU bb 220 (bF K7):=Eh.sound mixed aq (b_ _) (by rintro _ _ ⟨_,⟨_,rfl,_⟩,_⟩;rfl) IV
def cS:bU bb 179 (bF oA):=yF.sound mixed aq (b_ _) (by rintro _ _ ⟨_,⟨_,rfl,_⟩,_⟩;rfl) CC
def fI:bU bb 143 (ah AN):=Fk.sound mixed aq (ax _) (by rintro _ _ ⟨_,⟨_,_,rfl,_⟩,_⟩;rfl) JG
def lS:bU bb 204 (ah QP):=HP.sound mixed (aaB fI aq) (ax _) (by rintro _ _ ⟨_,⟨_,_,rfl,_⟩,_⟩;rfl) MB
def lf:bU bb 194 (ah Uc):=acJ.sound mixed (aaB dw aq) (ax _) (by rintro _ _ ⟨_,⟨_,rfl,_⟩,_⟩;rfl) Rp
def jb:bU bb 114 (c8 false dL):=QY.sound mixed aq (dQ _ _) (by rintro _ _ ⟨_,⟨_,rfl,_⟩,_⟩;rfl) IQ
def lN:bU bb 219 (ah Sx):=GF.sound mixed aq (ax _) (by rintro _ _ ⟨_,⟨_,_,rfl,_⟩,_⟩;rfl) agq
def fV:bU bb 217 (bF uy):=yM.sound mixed aq (b_ _) (by rintro _ _ ⟨_,⟨_,_,rfl,_⟩,_⟩;rfl) Pp
def qX:bU bb 133 (ah Tm):=Cq.sound mixed (aaB fV aq) (ax _) (by rintro _ _ ⟨_,⟨_,_,rfl,_⟩,_⟩;rfl) adk
def nH:bU bb 88 (bF Hj):=ya.sound mixed (aaB qX aq) (b_ _) (by rintro _ _ ⟨_,⟨_,_,rfl,_⟩,_⟩;rfl) SU
def jn:bU bb 142 (c8 true xj):=Zs.sound mixed (aaB d_ (aaB tO aq)) (dQ _ _) (by rintro _ _ ⟨_,⟨_,rfl,_⟩,_⟩;rfl) ajH
def jt:bU bb 144 (ah Mn):=aa6.sound mixed (aaB vC aq) (ax _) (by rintro _ _ ⟨_,⟨_,rfl,_⟩,_⟩;rfl) ajC
def qC:bU bb 177 (ah Lb):=CD.sound mixed (aaB d_ (aaB nH (aaB fV (aaB dw (aaB tO aq))))) (ax _) (by rintro _ _ ⟨_,⟨_,rfl,_⟩,_⟩;rfl) V_
def mq:bU bb 67 (ah dm):=Pw.sound mixed (aaB bL (aaB d_ (aaB nU (aaB bY aq)))) (ax _) (by rintro _ _ ⟨_,⟨_,rfl,_⟩,_⟩;rfl) Wy
def gC:bU bb 135 (c8 true YI):=jS.sound mixed aq (dQ _ _) (by rintro _ _ ⟨_,⟨_,rfl,_⟩,_⟩;rfl) aga
def eP:bU bb 195 (bF Ji):=Ac.sound mixed (aaB s8 aq) (b_ _) (by rintro _ _ ⟨_,⟨_,_,rfl,_⟩,_⟩;rfl) T6
def sY:bU bb 140 (ah Mk):=EH.sound mixed (aaB d_ (aaB ri (aaB bL (aaB bY (aaB jn (aaB lf (aaB eP aq))))))) (ax _) (by rintro _ _ ⟨_,⟨_,_,_,rfl,_⟩,_⟩;rfl) acp
def GA:bU bb 256 (sB arH):=Wn.rJ mixed (aaB vV aq) (by rintro _ _ _ ⟨_,_,rfl,_⟩;rfl) aqm
def y6:bU bb 231 (sB abp):=Pu.rJ mixed (aaB GA aq) (by rintro _ _ _ ⟨_,_,_,rfl,_⟩;rfl) agx
def Nn:bU bb 200 (c8 true YT):=ail.sound mixed (aaB fT aq) (dQ _ _) (by rintro _ _ ⟨_,⟨_,_,_,rfl,_⟩,_⟩;rfl) alA
def yp:bU bb 116 (c8 true Hv):=VZ.sound mixed aq (dQ _ _) (by rintro _ _ ⟨_,⟨_,rfl,_⟩,_⟩;rfl) Tv
def bo:bU bb 55 (c8 false dK):=Jn.sound mixed (aaB yp aq) (dQ _ _) (by rintro _ _ ⟨_,⟨_,rfl,_⟩,_⟩;rfl) acO
def nN:bU bb 18 (bF jW):=V8.sound mixed aq (b_ _) (by rintro _ _ ⟨_,⟨_,_,rfl,_⟩,_⟩;rfl) T0
def jy:bU bb 66 (ah gB):=ahj.sound mixed aq (ax _) (by rintro _ _ ⟨_,⟨_,rfl,_⟩,_⟩;rfl) Y1
def dj:bU bb 68 (ah dG):=agB.sound mixed aq (ax _) (by rintro _ _ ⟨_,⟨_,_,rfl,_⟩,_⟩;rfl) YD
def dT:bU bb 92 (bF bG):=af0.sound mixed aq (b_ _) (by rintro _ _ ⟨_,⟨_,_,_,rfl,_⟩,_⟩;rfl) YM
def fU:bU bb 86 (ah bA):=acy.sound mixed aq (ax _) (by rintro _ _ ⟨_,⟨_,rfl,_⟩,_⟩;rfl) SM
def AA:bU bb 69 (c8 true UL):=aj1.sound mixed (aaB fU (aaB tO aq)) (dQ _ _) (by rintro _ _ ⟨_,⟨_,rfl,_⟩,_⟩;rfl) ac3
def y5:bU bb 73 (sB afc):=ahn.rJ mixed aq (by rintro _ _ _ ⟨_,_,_,rfl,_⟩;rfl) amG
def oy:bU bb 75 (c8 true HB):=Q5.sound mixed (aaB AA (aaB y5 aq)) (dQ _ _) (by rintro _ _ ⟨_,⟨_,rfl,_⟩,_⟩;rfl) ajZ
def Vg:bU bb 78 (ah ajs):=anc.sound mixed aq (ax _) (by rintro _ _ ⟨_,⟨_,rfl,_⟩,_⟩;rfl) aoW
def pg:bU bb 64 (c8 true H7):=QO.sound mixed aq (dQ _ _) (by rintro _ _ ⟨_,⟨_,_,_,rfl,_⟩,_⟩;rfl) afX
def yY:bU bb 77 (bF amX):=acz.sound mixed aq (b_ _) (by rintro _ _ ⟨_,⟨_,rfl,_⟩,_⟩;rfl) agR
def D1:bU bb 103 (bF ajL):=SK.sound mixed (aaB dT aq) (b_ _) (by rintro _ _ ⟨_,⟨_,_,rfl,_⟩,_⟩;rfl) XI
def DU:bU bb 76 (c8 true aeM):=VX.sound mixed (aaB oy (aaB yY (aaB D1 aq))) (dQ _ _) (by rintro _ _ ⟨_,⟨_,_,_,rfl,_⟩,_⟩;rfl) akP
def bx:bU bb 134 (c8 false Np):=iH.sound mixed aq (dQ _ _) (by rintro _ _ ⟨_,⟨_,rfl,_⟩,_⟩;rfl) ajh
def mQ:bU bb 100 (c8 false GC):=VD.sound mixed (aaB bx aq) (dQ _ _) (by rintro _ _ ⟨_,⟨_,_,_,_,rfl,_⟩,_⟩;rfl) amd
def iQ:bU bb 90 (c8 false Ks):=Xz.sound mixed (aaB bx (aaB gC aq)) (dQ _ _) (by rintro _ _ ⟨_,⟨_,rfl,_⟩,_⟩;rfl) aoy
def sJ:bU bb 53 (c8 true BU):=aj2.sound mixed aq (dQ _ _) (by rintro _ _ ⟨_,⟨_,rfl,_⟩,_⟩;rfl) akp
def Pq:bU bb 81 (ah aeN):=ahe.sound mixed (aaB sJ (aaB vk aq)) (ax _) (by rintro _ _ ⟨_,⟨_,rfl,_⟩,_⟩;rfl) alF
def Q6:bU bb 46 (bF aeY):=akr.sound mixed aq (b_ _) (by rintro _ _ ⟨_,⟨_,_,rfl,_⟩,_⟩;rfl) amT
def zV:bU bb 65 (c8 false aa7):=QD.sound mixed (aaB bo aq) (dQ _ _) (by rintro _ _ ⟨_,⟨_,rfl,_⟩,_⟩;rfl) aky
def eO:bU bb 15 (c8 false qM):=aj6.sound mixed (aaB zV aq) (dQ _ _) (by rintro _ _ ⟨_,⟨_,rfl,_⟩,_⟩;rfl) alu
def rO:bU bb 31 (ah bA):=acr.sound mixed aq (ax _) (by rintro _ _ ⟨_,⟨_,rfl,_⟩,_⟩;rfl) acj
def x7:bU bb 82 (bF NK):=agI.sound mixed (aaB fv aq) (b_ _) (by rintro _ _ ⟨_,⟨_,_,rfl,_⟩,_⟩;rfl) akm
def vt:bU bb 19 (c8 true A3):=ag8.sound mixed (aaB sJ aq) (dQ _ _) (by rintro _ _ ⟨_,⟨_,rfl,_⟩,_⟩;rfl) afz
def N1:bU bb 84 (c8 true abT):=akE.sound mixed (aaB rO (aaB x7 aq)) (dQ _ _) (by rintro _ _ ⟨_,⟨_,rfl,_⟩,_⟩;rfl) akJ
def vv:bU bb 183 (sB aps):=VC.rJ mixed aq (by rintro _ _ _ ⟨_,_,_,_,_,rfl,_⟩;rfl) arj
def G0:bU bb 130 adt:=ac7.sound mixed (aaB wg (aaB Gl (aaB rZ (aaB vv aq)))) (azL _ _) (by rintro _ _ ⟨_,_,_,rfl,_⟩;rfl) ag2
def cG:bU bb 109 (bF Bj):=fG.sound mixed aq (b_ _) (by rintro _ _ ⟨_,⟨_,_,rfl,_⟩,_⟩;rfl) D2
def bW:bU bb 147 nw:=iO.sound mixed (aaB cG aq) (azL _ _) (by rintro _ _ ⟨_,_,rfl,_⟩;rfl) zP
def bl:bU bb 108 (sB j7):=iL.rJ mixed (aaB bW (aaB cG aq)) (by rintro _ _ _ ⟨_,_,_,rfl,_⟩;rfl) x5
def yS:bU bb 80 (ah alV):=acw.sound mixed (aaB yA aq) (ax _) (by rintro _ _ ⟨_,⟨_,_,rfl,_⟩,_⟩;rfl) aq_
def cf:bU bb 110 CX:=dv.sound mixed (aaB yS aq) (azL _ _) (by rintro _ _ ⟨_,_,rfl,_⟩;rfl) C0
def iK:bU bb 79 aoV:=mC.sound mixed (aaB yS aq) (azL _ _) (by rintro _ _ ⟨_,_,rfl,_⟩;rfl) ao1
def KT:bU bb 26 (c8 true Ty):=ahg.sound mixed (aaB vt (aaB N1 aq)) (dQ _ _) (by rintro _ _ ⟨_,⟨_,rfl,_⟩,_⟩;rfl) ahk
def sR:bU bb 13 (bF Wr):=amU.sound mixed aq (b_ _) (by rintro _ _ ⟨_,⟨_,rfl,_⟩,_⟩;rfl) aqF
def ru:bU bb 17 (ah adG):=acF.sound mixed (aaB bw aq) (ax _) (by rintro _ _ ⟨_,⟨_,_,rfl,_⟩,_⟩;rfl) aq2
def xK:bU bb 226 XZ:=Ni.sound mixed (aaB lq (aaB ua aq)) (azL _ _) (by rintro _ _ ⟨_,_,_,rfl,_⟩;rfl) agy
def GQ:bU bb 190 (sB aov):=Wf.rJ mixed (aaB xK (aaB rZ (aaB vv aq))) (by rintro _ _ _ ⟨_,_,_,_,_,rfl,_⟩;rfl) aoG
def Dp:bU bb 136 Ye:=acn.sound mixed (aaB wg (aaB GQ aq)) (azL _ _) (by rintro _ _ ⟨_,_,_,_,rfl,_⟩;rfl) agw
def Hf:bU bb 93 (c8 true Pf):=ad7.sound mixed (aaB Dp aq) (dQ _ _) (by rintro _ _ ⟨_,⟨_,_,_,rfl,_⟩,_⟩;rfl) ag1
def Oa:bU bb 62 (c8 false akG):=afS.sound mixed (aaB we aq) (dQ _ _) (by rintro _ _ ⟨_,⟨rfl,_⟩,_⟩;rfl) an0
def vU:bU bb 228 (ah gB):=afb.sound mixed aq (ax _) (by rintro _ _ ⟨_,⟨_,rfl,_⟩,_⟩;rfl) SN
def pQ:bU bb 131 (ah Lo):=aqk
def mH:bU bb 297 (ah qc):=af6
def jJ:bU bb 258 L7:=alX aq
def qk:bU bb 206 (c8 true Xi):=aus
def vB:bU bb 235 aeV:=Hi.sound mixed (aaB jJ aq) (azL _ _) (by rintro _ _ ⟨_,rfl,_⟩;rfl) ahK
def tX:bU bb 257 auV:=Bs.sound mixed (aaB jJ aq) (azL _ _) (by rintro _ _ ⟨_,rfl,_⟩;rfl) VJ
def vM:bU bb 234 Ti:=Km.sound mixed (aaB tX aq) (azL _ _) (by rintro _ _ ⟨_,rfl,_⟩;rfl) acY
def rj:bU bb 236 (ah Xj):=TY.sound mixed (aaB pQ aq) (ax _) (by rintro _ _ ⟨_,⟨_,rfl,_⟩,_⟩;rfl) aiO
def mB:bU bb 203 By:=I4.sound mixed (aaB rj (aaB Aq (aaB eZ (aaB kL (aaB yC (aaB vG (aaB mA aq))))))) (azL _ _) (by rintro _ _ ⟨_,rfl,_⟩;rfl) To
def uO:bU bb 280 (ah qc):=MC.sound mixed (aaB mH aq) (ax _) (by rintro _ _ ⟨_,⟨_,_,rfl,_⟩,_⟩;rfl) Wb
def zi:bU bb 265 (bF L8):=Nk.sound mixed (aaB uO aq) (b_ _) (by rintro _ _ ⟨_,⟨_,rfl,_⟩,_⟩;rfl) RU
def vN:bU bb 279 (bF O9):=M6.sound mixed (aaB zi aq) (b_ _) (by rintro _ _ ⟨_,⟨_,rfl,_⟩,_⟩;rfl) RS
def oh:bU bb 296 (ah HK):=zj.sound mixed (aaB vN aq) (ax _) (by rintro _ _ ⟨_,⟨_,rfl,_⟩,_⟩;rfl) Un
def lv:bU bb 278 (bF yH):=vI.sound mixed (aaB oh aq) (b_ _) (by rintro _ _ ⟨_,⟨_,rfl,_⟩,_⟩;rfl) Nq
def yv:bU bb 264 (bF OW):=S9.sound mixed (aaB lv aq) (b_ _) (by rintro _ _ ⟨_,⟨_,rfl,_⟩,_⟩;rfl) ZY
def B9:bU bb 245 (bF Uw):=V3.sound mixed (aaB yv (aaB wF aq)) (b_ _) (by rintro _ _ ⟨_,⟨_,rfl,_⟩,_⟩;rfl) adg
def B0:bU bb 207 (ah LY):=Sg.sound mixed (aaB D9 (aaB B9 (aaB Hz aq))) (ax _) (by rintro _ _ ⟨_,⟨_,rfl,_⟩,_⟩;rfl) VR
def yD:bU bb 150 (bF EV):=O8.sound mixed (aaB qk aq) (b_ _) (by rintro _ _ ⟨_,⟨_,rfl,_⟩,_⟩;rfl) ae5
def vJ:bU bb 151 (ah Ps):=MX.sound mixed (aaB B0 (aaB fA aq)) (ax _) (by rintro _ _ ⟨_,⟨_,rfl,_⟩,_⟩;rfl) Z7
def wm:bU bb 154 (ah Fa):=KZ.sound mixed (aaB qk (aaB fA (aaB kB (aaB oK (aaB tE (aaB ka aq)))))) (ax _) (by rintro _ _ ⟨_,⟨_,rfl,_⟩,_⟩;rfl) afi
def dO:bU bb 112 (ah nC):=Bp.sound mixed (aaB yD (aaB fA (aaB vJ (aaB oK (aaB kB (aaB tU (aaB wm (aaB Ak aq)))))))) (ax _) (by rintro _ _ ⟨_,⟨_,rfl,_⟩,_⟩;rfl) JJ
def iI:bU bb 165 (ah EI):=Zn.sound mixed (aaB pQ aq) (ax _) (by rintro _ _ ⟨_,⟨_,rfl,_⟩,_⟩;rfl) zQ
def ij:bU bb 157 (ah Bf):=WH.sound mixed (aaB iI aq) (ax _) (by rintro _ _ ⟨_,⟨_,_,rfl,_⟩,_⟩;rfl) Na
def iB:bU bb 202 P8:=IL.sound mixed (aaB vB (aaB vM aq)) (azL _ _) (by rintro _ _ ⟨_,rfl,_⟩;rfl) aiX
def wS:bU bb 205 (ah agE):=IS.sound mixed (aaB ij aq) (ax _) (by rintro _ _ ⟨_,⟨_,_,rfl,_⟩,_⟩;rfl) ahL
def cw:bU bb 145 (ah tN):=Fx.sound mixed (aaB cS (aaB iB (aaB lS (aaB mB (aaB wS (aaB iI (aaB fI aq))))))) (ax _) (by rintro _ _ ⟨_,⟨_,rfl,_⟩,_⟩;rfl) acW
def rN:bU bb 178 (ah OX):=Ei.sound mixed (aaB lf (aaB cS (aaB rm (aaB iB (aaB lN (aaB kz (aaB bL aq))))))) (ax _) (by rintro _ _ ⟨_,⟨_,rfl,_⟩,_⟩;rfl) abw
def mw:bU bb 176 (ah Dy):=OK.sound mixed (aaB dO (aaB bL (aaB bY aq))) (ax _) (by rintro _ _ ⟨_,⟨_,rfl,_⟩,_⟩;rfl) VO
def rA:bU bb 180 (ah OG):=DR.sound mixed (aaB iB (aaB lS (aaB mB (aaB lf (aaB iI aq))))) (ax _) (by rintro _ _ ⟨_,⟨_,rfl,_⟩,_⟩;rfl) abH
def cY:bU bb 127 xt:=acu.sound mixed (aaB mq (aaB mw (aaB bY (aaB jb (aaB qC (aaB rN (aaB cS (aaB rA aq)))))))) (azL _ _) (by rintro _ _ ⟨_,_,rfl,_⟩;rfl) ajq
def sf:bU bb 72 (ah tQ):=Kp.sound mixed (aaB cY aq) (ax _) (by rintro _ _ ⟨_,⟨_,_,rfl,_⟩,_⟩;rfl) Q4
def gZ:bU bb 102 (c8 true fi):=Pe.sound mixed (aaB cY (aaB cw aq)) (dQ _ _) (by rintro _ _ ⟨_,⟨_,_,rfl,_⟩,_⟩;rfl) VN
def CP:bU bb 54 (c8 true Ca):=Wu.sound mixed (aaB dO (aaB bL (aaB bY (aaB jb (aaB dw aq))))) (dQ _ _) (by rintro _ _ ⟨_,⟨_,rfl,_⟩,_⟩;rfl) Av
def El:bU bb 232 (sB ak4):=SW.rJ mixed (aaB sE (aaB jo (aaB jr (aaB vU aq)))) (by rintro _ _ _ ⟨_,rfl,_⟩;rfl) al3
def Kg:bU bb 199 (c8 true Xb):=aiQ.sound mixed (aaB y6 (aaB El aq)) (dQ _ _) (by rintro _ _ ⟨_,⟨_,rfl,_⟩,_⟩;rfl) ai7
def ym:bU bb 198 (ah Dz):=Ud.sound mixed (aaB lu (aaB nr (aaB jo (aaB jr (aaB vU aq))))) (ax _) (by rintro _ _ ⟨_,⟨_,_,_,rfl,_⟩,_⟩;rfl) VV
def Ad:bU bb 141 (c8 true Hs):=VE.sound mixed (aaB lu (aaB jr (aaB ym (aaB Nn (aaB Kg aq))))) (dQ _ _) (by rintro _ _ ⟨_,⟨_,_,_,rfl,_⟩,_⟩;rfl) aao
def EY:bU bb 101 (c8 false W9):=ZH.sound mixed (aaB cY (aaB sY (aaB Ad (aaB dO (aaB jn (aaB fI (aaB jt aq))))))) (dQ _ _) (by rintro _ _ ⟨_,⟨_,_,_,_,rfl,_⟩,_⟩;rfl) aj8
def sa:bU bb 71 (sB ajO):=OH.rJ mixed (aaB sf (aaB y5 (aaB dj aq))) (by rintro _ _ _ ⟨_,_,_,_,_,rfl,_⟩;rfl) aoC
def qg:bU bb 70 (sB akk):=wI.rJ mixed (aaB sa aq) (by rintro _ _ _ ⟨_,_,_,_,rfl,_⟩;rfl) anm
def uc:bU bb 20 (c8 true aco):=Vm.sound mixed (aaB mq (aaB dj (aaB jy (aaB AA (aaB sa (aaB qg aq)))))) (dQ _ _) (by rintro _ _ ⟨_,⟨_,rfl,_⟩,_⟩;rfl) abN
def eF:bU bb 74 (c8 false q6):=ajc.sound mixed (aaB uc aq) (dQ _ _) (by rintro _ _ ⟨_,⟨_,rfl,_⟩,_⟩;rfl) acR
def DE:bU bb 63 (c8 false ZQ):=X0.sound mixed (aaB eF (aaB dT (aaB dj (aaB jy aq)))) (dQ _ _) (by rintro _ _ ⟨_,⟨_,_,rfl,_⟩,_⟩;rfl) adu
def rC:bU bb 99 (c8 false Lq):=Ri.sound mixed (aaB dT (aaB EY (aaB mQ aq))) (dQ _ _) (by rintro _ _ ⟨_,⟨_,_,rfl,_⟩,_⟩;rfl) akA
def uB:bU bb 192 (sB aqr):=Sm.rJ mixed (aaB rC aq) (by rintro _ _ _ ⟨_,_,_,rfl,_⟩;rfl) aq6
def qK:bU bb 191 (sB akD):=wV.rJ mixed (aaB uB aq) (by rintro _ _ _ ⟨_,_,rfl,_⟩;rfl) alp
def KX:bU bb 139 (c8 false apP):=aaZ.sound mixed (aaB uB (aaB qK aq)) (dQ _ _) (by rintro _ _ ⟨_,⟨_,_,rfl,_⟩,_⟩;rfl) aqX
def eX:bU bb 106 (c8 false js):=gK.sound mixed (aaB KX (aaB dj (aaB jy aq))) (dQ _ _) (by rintro _ _ ⟨_,⟨_,_,rfl,_⟩,_⟩;rfl) Bo
def xT:bU bb 23 (c8 true H4):=ahl.sound mixed (aaB mq (aaB bo (aaB sf (aaB Pq aq)))) (dQ _ _) (by rintro _ _ ⟨_,⟨_,rfl,_⟩,_⟩;rfl) ahd
def tw:bU bb 14 (c8 false A8):=aci.sound mixed (aaB DE (aaB pg aq)) (dQ _ _) (by rintro _ _ ⟨_,⟨_,_,rfl,_⟩,_⟩;rfl) agD
def Jg:bU bb 85 (c8 false TM):=adZ.sound mixed (aaB eF (aaB dT (aaB dj (aaB jy (aaB iQ (aaB fU (aaB G0 (aaB pQ aq)))))))) (dQ _ _) (by rintro _ _ ⟨_,⟨_,_,_,_,rfl,_⟩,_⟩;rfl) ag_
def DD:bU bb 27 (c8 false IE):=acQ.sound mixed (aaB fU (aaB Jg aq)) (dQ _ _) (by rintro _ _ ⟨_,⟨_,_,rfl,_⟩,_⟩;rfl) afw
def wk:bU bb 22 (c8 true HW):=aef.sound mixed (aaB eF (aaB yY (aaB DU (aaB Vg (aaB yS (aaB iK (aaB pg aq))))))) (dQ _ _) (by rintro _ _ ⟨_,⟨_,rfl,_⟩,_⟩;rfl) ah1
def ox:bU bb 16 (ah OA):=abG.sound mixed (aaB xT aq) (ax _) (by rintro _ _ ⟨_,⟨_,rfl,_⟩,_⟩;rfl) aow
def DV:bU bb 42 (c8 false N7):=acv.sound mixed (aaB eF (aaB rC (aaB mQ (aaB fU (aaB Hf (aaB iQ aq)))))) (dQ _ _) (by rintro _ _ ⟨_,⟨_,_,rfl,_⟩,_⟩;rfl) af5
def L3:bU bb 43 (c8 false Y_):=ahF.sound mixed (aaB ru (aaB bo (aaB EY (aaB eO aq)))) (dQ _ _) (by rintro _ _ ⟨_,⟨_,_,rfl,_⟩,_⟩;rfl) ajn
def I9:bU bb 41 (c8 false UP):=adV.sound mixed (aaB eO (aaB L3 aq)) (dQ _ _) (by rintro _ _ ⟨_,⟨_,_,rfl,_⟩,_⟩;rfl) ahr
def KV:bU bb 45 (c8 true akH):=acH.sound mixed (aaB bo (aaB gZ aq)) (dQ _ _) (by rintro _ _ ⟨_,⟨_,rfl,_⟩,_⟩;rfl) aou
def nW:bU bb 12 (ah KL):=ahh.sound mixed (aaB Oa (aaB wk (aaB tw (aaB DV (aaB DD (aaB nN aq)))))) (ax _) (by rintro _ _ ⟨_,⟨rfl,_⟩,_⟩;rfl) an8
def dY:bU bb 52 (c8 false gj):=gz.sound mixed (aaB DE (aaB pg (aaB Vg (aaB yY (aaB DU (aaB cG (aaB bl (aaB yS (aaB cf (aaB CP (aaB eX aq))))))))))) (dQ _ _) (by rintro _ _ ⟨_,⟨_,_,rfl,_⟩,_⟩;rfl) mJ
def gi:bU bb 51 (ah kA):=rV.sound mixed (aaB I9 (aaB ox (aaB KV (aaB Q6 (aaB KT aq))))) (ax _) (by rintro _ _ ⟨_,⟨_,_,rfl,_⟩,_⟩;rfl) Bl
def fB:bU bb 56 (ah lx):=j_.sound mixed (aaB I9 (aaB vt aq)) (ax _) (by rintro _ _ ⟨_,⟨_,_,_,rfl,_⟩,_⟩;rfl) Ay
def er:bU bb 9 (ah afl):=gq.sound mixed (aaB nW (aaB sR (aaB eO (aaB dY (aaB ox (aaB ru (aaB vt (aaB KT (aaB sJ (aaB bo (aaB CP (aaB gi (aaB fB aq))))))))))))) (ax _) (by rintro _ _ ⟨_,⟨_,_,rfl,_⟩,_⟩;rfl) gY
end Go.Dv.Try
