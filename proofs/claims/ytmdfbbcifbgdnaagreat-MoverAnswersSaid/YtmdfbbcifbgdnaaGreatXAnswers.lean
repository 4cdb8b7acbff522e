/- Own work: parts of the proof, shortened and laid together by a tool of our own. -/
import Derived.Test.YtmdfbbcifbgdnaaGreatP6
import Derived.Test.YtmdfbbcifbgdnaaGreatProg
import Derived.KernelRfl
set_option linter.defProp false
set_option linter.unusedSimpArgs false
set_option linter.unusedVariables false
open List renaming getElem?_eq_getElem→zah, mem_of_getElem?→zag, getElem?_eq_some_iff→zaa, length_map→zav, filter_append→zb0, filter_cons_of_pos→zd6, getElem?_map→za9, getElem?_eq_none→zaK, length_filter_le→zdj, getElem?_append_right→zak, getElem?_set→zaS, take_add_one→zcX, take_length→zcZ, filter_cons_of_neg→zd7, length_set→za0, take_append_drop→zaD, length_singleton→zbS, ext_getElem?→zba, length_take→zal, mem_filter→zbn
open Option renaming toList_some→zdq
open And renaming intro→zcB
open Int renaming le_refl→zdv
namespace Go.Dv.Try
open Go Go.Dv Go.Proofs.Tryz Go.Proofs.Tryz
set_option maxRecDepth 100000
def uR:FC:=⟨[0,1,2,4,5,6,7,8,9,10,11,12,13,14,15,16,17,18],[⟨4,none⟩],aaq f11 [] [[1,2,5,6],[1,7,8,10,11,13,14]]⟩
def adM:CO 11 uR 2:=bk f11 ak
end Go.Dv.Try
namespace Go.Dv.Try
open Go Go.Dv
def OT{d e:Dk}{a b:At}{C:List UInt8}{v:Int}{rs:Bool}:rL d e a b C v rs↔aK e b=0/\adv d e a b/\aV (ar e b)=C/\b.rs=rs/\(b.rs=false->b.vd=v)/\b.ty=a.ty/\b.nm=a.nm/\b.id=a.id/\b.fl=a.fl:=
 ⟨λh=>⟨h.op,h.su,h.fN,h.rs,h.vd,h.ty,h.nm,h.id,h.fl⟩,λ⟨h1,h2,h3,h4,h5,h6,h7,h8,h9⟩=>⟨h1,h2,h3,h4,h5,h6,h7,h8,h9⟩⟩
def aiL{v:Vo}(h:KX v)(m:Mv):KX (nX v m):=by
 by_cases he:ub v m=0
 case neg=>unfold nX;rw[if_pos he];exact h
 have e:nX v m=rl v (jM v.d (ni v m.k) m.p m.t) m.k.toNat (jG v.d (ni v m.k) m.p m.t):=by unfold nX;rw[if_neg (λg=>g he)]
 rw[e];have hk:0<=m.k/\m.k<=(v.st.l.length:Int)-1:=by
  apply Classical.byContradiction;intro g;unfold ub at he;rw[if_pos g]at he;exact absurd he ao
 have hm:dJ v.d (ni v m.k) m.p m.t=0:=by unfold ub at he;rw[if_neg (λg=>g hk)]at he;exact he
 obtain⟨b,hb⟩:∃b,v.st.l[m.k.toNat]?=some b:=⟨_,zah ab⟩
 have eb:ni v m.k=b:=by unfold ni;rw[hb];rfl
 rw[eb]at hm ⊢;have hn:=h.1.2.1 b (zag hb);have ml:=aBQ (Zv hm) (L0 (AZ.1 h.2).1) hn hm;rw[ml.D,ml.A];exact avi h hb ⟨ml.op,ml.fN,ml.su,hn⟩
def aaz{v:Vo}(h:KX v)(m:Mv):ac4 (nX v m)=ac4 v/\(nX v m).d.n=v.d.n:=by
 by_cases he:ub v m=0
 case neg=>unfold nX;rw[if_pos he];exact⟨rfl,rfl⟩
 have e:nX v m=rl v (jM v.d (ni v m.k) m.p m.t) m.k.toNat (jG v.d (ni v m.k) m.p m.t):=by unfold nX;rw[if_neg (λg=>g he)]
 rw[e];have hk:0<=m.k/\m.k<=(v.st.l.length:Int)-1:=by
  apply Classical.byContradiction;intro g;unfold ub at he;rw[if_pos g]at he;exact absurd he ao
 have hm:dJ v.d (ni v m.k) m.p m.t=0:=by unfold ub at he;rw[if_neg (λg=>g hk)]at he;exact he
 obtain⟨b,hb⟩:∃b,v.st.l[m.k.toNat]?=some b:=⟨_,zah ab⟩
 have eb:ni v m.k=b:=by unfold ni;rw[hb];rfl
 rw[eb]at hm ⊢;have hn:=h.1.2.1 b (zag hb);have ml:=aBQ (Zv hm) (L0 (AZ.1 h.2).1) hn hm;rw[ml.D,ml.A];obtain⟨_,g2,g3⟩:=au2 h.1 h.2 hb ⟨ml.op,ml.fN,ml.su,hn⟩;refine⟨?_,g3⟩;unfold ac4;refine zba λj=>?_
 show((v.st.l.set m.k.toNat _).map _)[j]?=_;rw[za9,za9,zaS];by_cases g:m.k.toNat=j
 ·subst g;rw[if_pos rfl,if_pos ab,hb];exact congrArg some ml.fN
 ·rw[if_neg g];cases hj:v.st.l[j]? with
  |none=>rfl
  |some x=>exact congrArg some (g2 j x (λe=>g e.symm) hj)
def QI(v:Vo):ac4 (bp v)=ac4 v:=by
 unfold ac4;rw[show(bp v).st.l=v.st.l.map aB from rfl,List.map_map];exact List.map_congr_left λa _=>Hm v.d a
def KX.rn{v:Vo}(h:KX v):∀a∈v.st.l,a.rn.l.length<=1000000:=(acx h.1 h.2).own.2
section
structure adV(d:Dk)(a:At)(e:Dk)(b:At):Prop where
 f:b={ a with rn:=b.rn }
 h:∀i,OS (ar d a) i↔OS (ar e b) i
 u:bt (az a.rn.l)=bt (az b.rn.l)
 c:aV (ar d a)=aV (ar e b)
structure Sm(d:Dk)(a:At):Prop where
 o:aK d a=0
 d:wU d
 n:a.nm.length<=1000000
section
variable {d e:Dk} {a b:At} {C:List UInt8} {v:Int} {dt:Nat->Prop}
def age(h:Sm d a)(hc:GZ (ar d a) C v dt)(he:Md (ar d a) C v dt=0):
 (∀i,OS (ar (XY (ar d a) C dt) (Gv (ar d a) C v dt)) i↔i<(aQ (ar d a) C dt).length/\jz (aQ (ar d a) C dt) i=true)/\bt (az (Gv (ar d a) C v dt).rn.l)=aoK (aQ (ar d a) C dt):=by
 have hm:=Xo h.o h.d h.n hc he;have hk:∀i,i<(aQ (ar d a) C dt).length->(Be (ar d a) C dt i≠ -1↔jz (aQ (ar d a) C dt) i=true):=λi hi=>by
  constructor
  ·intro g;cases cb:jz (aQ (ar d a) C dt) i with
   |false=>exact absurd (hm.pl.no i cb) g
   |true=>rfl
  ·intro g;have:=hm.pl.yes i hi g;omega
 constructor
 ·intro i;unfold OS;show(∃x,(az (Gv (ar d a) C v dt).rn.l)[i]?=some x/\x≠ -1)↔_;rw[hm.plc];unfold Cz;by_cases hi:i<(aQ (ar d a) C dt).length
  ·rw[bO hi];constructor
   ·rintro⟨x,hx,h1⟩;have hx:=Option.some.inj hx;exact⟨hi,(hk i hi).1 (by rw[hx];exact h1)⟩
   ·rintro⟨_,h1⟩;exact⟨_,rfl,(hk i hi).2 h1⟩
  ·rw[zaK kD];constructor
   ·rintro⟨x,hx,_⟩;cases hx
   ·rintro⟨h1,_⟩;exact absurd h1 hi
 ·rw[hm.plc];unfold Cz aoK;rw[aaJ];refine jq λi hi=>?_
  have:=hk i hi;cases cb:jz (aQ (ar d a) C dt) i with
  |false=>rw[cb]at this;exact decide_eq_false λg=>by have:=this.1 g;cases this
  |true=>rw[cb]at this;exact decide_eq_true (this.2 rfl)
def aeZ(h:Sm d a)(hc:GZ (ar d a) C v dt)(he:Md (ar d a) C v dt=0):
 oF (XY (ar d a) C dt).mp d.n+bt (az a.rn.l)=oF d.mp d.n+aoK (aQ (ar d a) C dt)/\(XY (ar d a) C dt).n=d.n:=by
 have hs:=OT.1 (aiI h.o h.d h.n hc he);have:=Q1 hs.2.1 h.o hs.1;rw[(age h hc he).2]at this;exact⟨this,by unfold Dk.n;rw[hs.2.1.1.1]⟩
def ag5(S:adV d a e b)(h:Sm d a)(h':Sm e b)(hn:d.n=e.n)(aQf:oF d.mp d.n=oF e.mp e.n)(hc:GZ (ar d a) C v dt)(PE:ahC (ar d a) dt)(WS:GZ (ar e b) C v dt)(acr:ahC (ar e b) dt):
 (Md (ar d a) C v dt=Md (ar e b) C v dt\/Md (ar d a) C v dt=8\/Md (ar e b) C v dt=8)/\
 (Md (ar d a) C v dt=0->Md (ar e b) C v dt=0->adV (XY (ar d a) C dt) (Gv (ar d a) C v dt) (XY (ar e b) C dt) (Gv (ar e b) C v dt)/\oF (XY (ar d a) C dt).mp (XY (ar d a) C dt).n=oF (XY (ar e b) C dt).mp (XY (ar e b) C dt).n/\(XY (ar d a) C dt).n=(XY (ar e b) C dt).n):=by
 have SL:b.fl=a.fl:=by rw[S.f]
 have hp:aQ (ar e b) C dt=aQ (ar d a) C dt:=by
  unfold aQ;rw[show(ar e b).a.fl=(ar d a).a.fl from SL]
 have hu:=S.u;constructor
 ·by_cases z1:Md (ar d a) C v dt=0
  ·obtain⟨r1,_⟩:=aeZ h hc z1;have c1:=Bj (XY (ar d a) C dt).mp d.n;by_cases z2:Md (ar e b) C v dt=0
   ·exact .inl (z1.trans z2.symm)
   ·have r2:=atg h'.o h'.d h'.n WS acr z2 (zdv _);unfold Ny at r2;rw[Lc,hp]at r2;rcases r2 with r2|r2
    ·exact .inr (.inr r2.1)
    ·omega
  ·have r1:=atg h.o h.d h.n hc PE z1 (zdv _);unfold Ny at r1;rw[Lc]at r1;rcases r1 with r1|r1
   ·exact .inr (.inl r1.1)
   by_cases z2:Md (ar e b) C v dt=0
   ·obtain⟨r2,_⟩:=aeZ h' WS z2;have c2:=Bj (XY (ar e b) C dt).mp e.n;rw[hp]at r2;omega
   ·have r2:=atg h'.o h'.d h'.n WS acr z2 (zdv _);unfold Ny at r2;rcases r2 with r2|r2
    ·exact .inr (.inr r2.1)
    ·exact .inl (r1.1.trans r2.1.symm)
 ·intro z1 z2;obtain⟨r1,n1⟩:=aeZ h hc z1;obtain⟨r2,n2⟩:=aeZ h' WS z2;obtain⟨a1,a2⟩:=age h hc z1;obtain⟨b1,b2⟩:=age h' WS z2;have m1:=Xo h.o h.d h.n hc z1;have m2:=Xo h'.o h'.d h'.n WS z2;rw[hp]at r2 b1 b2;refine⟨⟨?_,λi=>(a1 i).trans (b1 i).symm,a2.trans b2.symm,m1.fN.trans m2.fN.symm⟩,by rw[n1,n2];omega,by rw[n1,n2];exact hn⟩;have u1:bt (Cz (ar d a) C dt)=bt (Cz (ar e b) C dt):=by rw[<-m1.plc,<-m2.plc,a2,b2]
  have e1:(ar e b).a=b:=rfl;have e2:(ar d a).a=a:=rfl;unfold Gv;rw[e1,e2,u1,S.f]
def ag8(S:adV d a e b)(h:Sm d a)(h':Sm e b)(hn:d.n=e.n)(aQf:oF d.mp d.n=oF e.mp e.n)(hc:GZ (ar d a) C v dt)(PE:ahC (ar d a) dt)(WS:GZ (ar e b) C v dt)(acr:ahC (ar e b) dt):
 (DJ (ar d a) C v dt=DJ (ar e b) C v dt\/DJ (ar d a) C v dt=8\/DJ (ar e b) C v dt=8)/\
 (DJ (ar d a) C v dt=0->DJ (ar e b) C v dt=0->adV (lQ (ar d a) C v dt) (jK (ar d a) C v dt) (lQ (ar e b) C v dt) (jK (ar e b) C v dt)/\oF (lQ (ar d a) C v dt).mp (lQ (ar d a) C v dt).n=oF (lQ (ar e b) C v dt).mp (lQ (ar e b) C v dt).n/\(lQ (ar d a) C v dt).n=(lQ (ar e b) C v dt).n):=by
 have c_:b.rs=a.rs:=by rw[S.f]
 have e1:(ar e b).a.rs=b.rs:=rfl;have e2:(ar d a).a.rs=a.rs:=rfl;unfold DJ lQ jK;rw[e1,e2,c_];by_cases g:a.rs=true/\C.length<=200
 ·simp only[if_pos g];refine⟨.inl trivial,λ_ _=>⟨⟨?_,λi=>Iff.rfl,rfl,rfl⟩,aQf,hn⟩⟩;show Hx b C={ Hx a C with rn:=(Hx b C).rn }
  rw[S.f];rfl
 ·simp only[if_neg g];obtain⟨m1,m2⟩:=ag5 S h h' hn aQf hc PE WS acr;refine⟨m1,λz1 z2=>?_⟩;rw[if_pos z1,if_pos z2,if_pos z1,if_pos z2];exact m2 z1 z2
end
end
section
section
variable {d e:Dk} {a b:At}
structure ahw(E F:Int)(d':Dk)(a':At)(e':Dk)(b':At):Prop where
 er:E=F\/E=8\/F=8
 ok:E=0->F=0->adV d' a' e' b'/\oF d'.mp d'.n=oF e'.mp e'.n/\d'.n=e'.n
def adV.ace(S:adV d a e b):adV d (aB a) e (aB b):=by
 refine⟨?_,S.h,S.u,?_⟩
 ·have:=S.f;unfold aB;rw[this]
 ·rw[Hm,Hm];exact S.c
def adb(S:adV d a e b)(h:Sm d a)(h':Sm e b)(hn:d.n=e.n)(aQf:oF d.mp d.n=oF e.mp e.n)(p:Int)(dat:List UInt8):
 ahw (AO d a p dat) (AO e b p dat) (zM d a p dat) (yV d a p dat) (zM e b p dat) (yV e b p dat):=by
 have h0:yE d a p dat=yE e b p dat:=by unfold yE;rw[h.o,h'.o]
 by_cases z:yE d a p dat=0
 case neg=>
  have e1:AO d a p dat=yE d a p dat:=by unfold AO;rw[if_pos z]
  have e2:AO e b p dat=yE d a p dat:=by unfold AO;rw[<-h0,if_pos z]
  exact⟨.inl (e1.trans e2.symm),λg=>absurd (e1.symm.trans g) z⟩
 have z':yE e b p dat=0:=h0▸z;have hp:=z;unfold yE iU at hp;rw[if_neg (λg=>g h.o)]at hp;have XN:0<=p/\p<=32768:=Classical.byContradiction λg=>by rw[if_pos g]at hp;exact absurd hp ao
 rw[if_neg (λg=>g XN)]at hp;have eQ:¬32768-p<dat.length:=λg=>by rw[if_pos g]at hp;exact absurd hp ao
 by_cases he:dat=[]
 ·have e1:AO d a p dat=0:=by unfold AO;rw[z,if_neg z0,if_pos he]
  have e2:AO e b p dat=0:=by unfold AO;rw[z',if_neg z0,if_pos he]
  refine⟨.inl (e1.trans e2.symm),λ_ _=>?_⟩;have d1:zM d a p dat=d:=by unfold zM;rw[z,if_neg z0,if_pos he]
  have d2:zM e b p dat=e:=by unfold zM;rw[z',if_neg z0,if_pos he]
  have a1:yV d a p dat=aB a:=by unfold yV;rw[z,if_neg z0,if_pos he];rfl
  have a2:yV e b p dat=aB b:=by unfold yV;rw[z',if_neg z0,if_pos he];rfl
  rw[d1,d2,a1,a2];exact⟨S.ace,aQf,hn⟩
 have hv:cG b=cG a:=by rw[S.f];rfl
 have hw:b8 (ar e b) p (p+dat.length)=b8 (ar d a) p (p+dat.length):=funext λi=>propext (by
  unfold b8;rw[S.h i,show(ar e b).a.vl=(ar d a).a.vl by show b.vl=a.vl;rw[S.f]])
 have c1:=aoc (qo h.o) (dat:=dat) XN.1 ab;have t1:=aEU (d:=d) (a:=a) (f:=p) (t:=p+dat.length) XN.1 ab;have c2:=aoc (qo h'.o) (dat:=dat) XN.1 ab;have t2:=aEU (d:=e) (a:=b) (f:=p) (t:=p+dat.length) XN.1 ab;rw[hw,hv,<-S.c]at c2;rw[hw]at t2;have m:=ag8 S h h' hn aQf c1 t1 c2 t2;unfold AO zM yV;rw[z,z',if_neg z0,if_neg z0,if_neg z0,if_neg z0,if_neg z0,if_neg z0,if_neg he,if_neg he,if_neg he,if_neg he,if_neg he,if_neg he,hw,hv,<-S.c];exact⟨m.1,m.2⟩
def ajd(S:adV d a e b)(h:Sm d a)(h':Sm e b)(hn:d.n=e.n)(aQf:oF d.mp d.n=oF e.mp e.n)(n:Int):
 ahw (Jb d a n) (Jb e b n) (Jf d a n) (LA d a n) (Jf e b n) (LA e b n):=by
 have h0:D8 d a n=D8 e b n:=by unfold D8;rw[h.o,h'.o]
 by_cases z:D8 d a n=0
 case neg=>
  have e1:Jb d a n=D8 d a n:=by unfold Jb;rw[if_pos z]
  have e2:Jb e b n=D8 d a n:=by unfold Jb;rw[<-h0,if_pos z]
  exact⟨.inl (e1.trans e2.symm),λg=>absurd (e1.symm.trans g) z⟩
 have z':D8 e b n=0:=h0▸z;have hp:=z;unfold D8 iU at hp;rw[if_neg (λg=>g h.o)]at hp;have XN:0<=n/\n<=32768:=Classical.byContradiction λg=>by rw[if_pos g]at hp;exact absurd hp ao
 have hv:cG b=cG a:=by rw[S.f];rfl
 have hw:Yk (ar e b)=Yk (ar d a):=funext λi=>propext (by
  unfold Yk;rw[S.h i,show(ar e b).a.vl=(ar d a).a.vl by show b.vl=a.vl;rw[S.f]])
 have c1:=anp (qo h.o) XN;have t1:=aFF (d:=d) (a:=a);have c2:=anp (qo h'.o) XN;have t2:=aFF (d:=e) (a:=b);rw[hw,hv,<-S.c]at c2;rw[hw]at t2;have m:=ag8 S h h' hn aQf c1 t1 c2 t2;unfold Jb Jf LA;rw[z,z',if_neg z0,if_neg z0,if_neg z0,if_neg z0,if_neg z0,if_neg z0,hw,hv,<-S.c];exact⟨m.1,m.2⟩
def ai_(S:adV d a e b)(h:Sm d a)(h':Sm e b)(hn:d.n=e.n)(aQf:oF d.mp d.n=oF e.mp e.n)(p n:Int):
 ahw (jm d a p n) (jm e b p n) (jU d a p n) (js d a p n) (jU e b p n) (js e b p n):=by
 have h0:KF d a p n=KF e b p n:=by unfold KF;rw[h.o,h'.o]
 by_cases z:KF d a p n=0
 case neg=>
  have e1:jm d a p n=KF d a p n:=by unfold jm;rw[if_pos z]
  have e2:jm e b p n=KF d a p n:=by unfold jm;rw[<-h0,if_pos z]
  exact⟨.inl (e1.trans e2.symm),λg=>absurd (e1.symm.trans g) z⟩
 have z':KF e b p n=0:=h0▸z;have hp:=z;unfold KF iU at hp;rw[if_neg (λg=>g h.o)]at hp;have XN:(0<=p/\p<=32768)/\0<=n/\n<=32768:=Classical.byContradiction λg=>by rw[if_pos g]at hp;exact absurd hp ao
 have c_:b.rs=a.rs:=by rw[S.f]
 have hvd:b.vd=a.vd:=by rw[S.f]
 have hN:QC e b p n=QC d a p n:=by unfold QC;rw[S.c]
 have hw:ju e b p n=ju d a p n:=funext λi=>propext (by
  unfold ju yN;rw[hN,S.h i,S.c])
 unfold jm jU js;rw[z,z',if_neg z0,if_neg z0,if_neg z0,if_neg z0,if_neg z0,if_neg z0,c_,hvd,hN,hw];by_cases g:a.rs=true
 ·simp only[if_pos g];refine⟨.inl rfl,λ_ _=>⟨⟨?_,λi=>Iff.rfl,rfl,rfl⟩,aQf,hn⟩⟩;rw[S.f];rfl
 ·simp only[if_neg g];have g1:a.rs=false:=by simpa using g
  have v1:a.vl=[]:=((AD (lE (bc h.o).1.str).1).ot g1).2.1;have g2:b.rs=false:=c_.trans g1;have v2:b.vl=[]:=((AD (lE (bc h'.o).1.str).1).ot g2).2.1;have c1:=aFf (qo h.o) g1 XN.1.1 XN.2.1 v1;have c2:=aFf (qo h'.o) g2 XN.1.1 XN.2.1 v2;obtain⟨_,_,f3,f4⟩:=ay1 (d:=d) (a:=a) XN.1.1 XN.2.1;obtain⟨_,_,k3,k4⟩:=ay1 (d:=e) (a:=b) XN.1.1 XN.2.1;have t1:ahC (ar d a) (ju d a p n):=aFj f3 f4;have t2:ahC (ar e b) (ju e b p n):=aFj k3 k4;rw[hN,hw,hvd]at c2;rw[hw]at t2;obtain⟨m1,m2⟩:=ag5 S h h' hn aQf c1 t1 c2 t2;refine⟨m1,λz1 z2=>?_⟩;rw[if_pos z1,if_pos z2,if_pos z1,if_pos z2];exact m2 z1 z2
def acC(S:adV d a e b)(h:Sm d a)(h':Sm e b)(hn:d.n=e.n)(aQf:oF d.mp d.n=oF e.mp e.n)(s:Sp)(hk:s.k=1\/s.k=2\/s.k=3):
 ahw (A4 d a s) (A4 e b s) (Ib d a s) (D2 d a s) (Ib e b s) (D2 e b s):=by
 unfold A4 Ib D2;rcases hk with hk|hk|hk
 ·simp only[if_pos hk];exact adb S h h' hn aQf _ _
 ·simp only[if_neg (show ¬s.k=1 by omega),if_pos hk];exact ajd S h h' hn aQf _
 ·simp only[if_neg (show ¬s.k=1 by omega),if_neg (show ¬s.k=2 by omega),if_pos hk];exact ai_ S h h' hn aQf _ _
def acE(S:adV d a e b)(h:Sm d a)(h':Sm e b)(p n:Int):H2 d a p n=H2 e b p n/\xN d a p n=xN e b p n:=by
 have h1:xN d a p n=xN e b p n:=by unfold xN;rw[h.o,h'.o]
 refine⟨?_,h1⟩;unfold H2;rw[h1,S.c]
end
end
structure afl(w u:Vo):Prop where
 g:KX w
 g':KX u
 n:w.d.n=u.d.n
 c:oF w.d.mp w.d.n=oF u.d.mp u.d.n
 len:w.st.l.length=u.st.l.length
 s:∀(i:Nat) a b,w.st.l[i]?=some a->u.st.l[i]?=some b->adV w.d a u.d b
def afl.refl{v:Vo}(h:KX v):afl v v:=
 ⟨h,h,rfl,rfl,rfl,λi a b h1 h2=>by rw[h1]at h2;cases h2;exact⟨rfl,λ_=>Iff.rfl,rfl,rfl⟩⟩
def afl.fN{w u:Vo}(S:afl w u):ac4 w=ac4 u:=by
 have hl:=S.len;unfold ac4;refine zba λi=>?_
 rw[za9,za9];by_cases hi:i<w.st.l.length
 ·obtain⟨a,ha⟩:∃a,w.st.l[i]?=some a:=⟨_,zah hi⟩
  obtain⟨b,hb⟩:∃b,u.st.l[i]?=some b:=⟨_,zah ab⟩
  rw[ha,hb];exact congrArg some (S.s i a b ha hb).c
 ·rw[zaK ab,zaK ab];rfl
def KX.on{v:Vo}(h:KX v){i:Nat}{a:At}(ha:v.st.l[i]?=some a):Sm v.d a:=by
 obtain⟨o1,_,o3,_⟩:=AZ.1 h.2;exact⟨o3 a (zag ha),L0 o1,h.1.2.1 a (zag ha)⟩
def adV.adW{d e d' e':Dk}{a b:At}(S:adV d a e b)(h1:aV (ar d' a)=aV (ar d a))(h2:aV (ar e' b)=aV (ar e b)):adV d' a e' b:=
 ⟨S.f,S.h,S.u,h1.trans (S.c.trans h2.symm)⟩
def abP{w u:Vo}(S:afl w u)(x:Sp)(hk:x.k=0\/x.k=1\/x.k=2\/x.k=3):(vf w x=vf u x/\afl (YN w x) (YN u x))\/(vf w x).e=8\/(vf u x).e=8:=by
 have hl:=S.len;by_cases hi:0<=x.i/\x.i<=(w.st.l.length:Int)-1
 case neg=>
  have j9:¬(0<=x.i/\x.i<=(u.st.l.length:Int)-1):=ab;unfold vf YN;rw[if_pos hi,if_pos j9,if_pos hi,if_pos j9];exact .inl ⟨rfl,S⟩
 have j9:0<=x.i/\x.i<=(u.st.l.length:Int)-1:=ab;obtain⟨a,ha⟩:∃a,w.st.l[x.i.toNat]?=some a:=⟨_,zah ab⟩
 obtain⟨b,hb⟩:∃b,u.st.l[x.i.toNat]?=some b:=⟨_,zah ab⟩
 have ea:ni w x.i=a:=by unfold ni;rw[ha];rfl
 have eb:ni u x.i=b:=by unfold ni;rw[hb];rfl
 have SA:=S.s _ a b ha hb;have oa:=S.g.on ha;have ob:=S.g'.on hb;have n1:vf w x=if x.k=0 then⟨H2 w.d a x.p x.n,xN w.d a x.p x.n⟩else⟨[],A4 w.d a x⟩:=by unfold vf;rw[if_neg (λh=>h hi)];simp only[ea]
 have v1:YN w x=if x.k=0 then w else if A4 w.d a x≠0 then w else rl w (Ib w.d a x) x.i.toNat (D2 w.d a x):=by unfold YN;rw[if_neg (λh=>h hi)];simp only[ea]
 have n2:vf u x=if x.k=0 then⟨H2 u.d b x.p x.n,xN u.d b x.p x.n⟩else⟨[],A4 u.d b x⟩:=by unfold vf;rw[if_neg (λh=>h j9)];simp only[eb]
 have v2:YN u x=if x.k=0 then u else if A4 u.d b x≠0 then u else rl u (Ib u.d b x) x.i.toNat (D2 u.d b x):=by unfold YN;rw[if_neg (λh=>h j9)];simp only[eb]
 rw[n1,v1,n2,v2];by_cases k0:x.k=0
 ·rw[if_pos k0,if_pos k0,if_pos k0,if_pos k0];obtain⟨r1,r2⟩:=acE SA oa ob x.p x.n;rw[r1,r2];exact .inl ⟨rfl,S⟩
 rw[if_neg k0,if_neg k0,if_neg k0,if_neg k0];obtain⟨er,ok⟩:=acC SA oa ob S.n S.c x ab;rcases er with er|er|er
 case inr.inl=>exact .inr (.inl er)
 case inr.inr=>exact .inr (.inr er)
 by_cases z:A4 w.d a x=0
 case neg=>
  rw[if_pos z,if_pos (er▸z),er];exact .inl ⟨rfl,S⟩
 have z':A4 u.d b x=0:=er▸z;rw[if_neg (λg=>g z),if_neg (λg=>g z'),z,z'];obtain⟨q1,q2,q3⟩:=ok z z';obtain⟨C,sp⟩:=aup oa.d oa.n z;obtain⟨C',sp'⟩:=aup ob.d ob.n z';obtain⟨_,w2,w3⟩:=au2 S.g.1 S.g.2 ha sp;obtain⟨_,u2,u3⟩:=au2 S.g'.1 S.g'.2 hb sp';refine .inl ⟨rfl,avi S.g ha sp,avi S.g' hb sp',q3,q2,?_,λj a' b' h1 h2=>?_⟩
 ·show(w.st.l.set _ _).length=(u.st.l.set _ _).length;rw[za0,za0,hl]
 ·have h1:(w.st.l.set x.i.toNat (D2 w.d a x))[j]?=some a':=h1;have h2:(u.st.l.set x.i.toNat (D2 u.d b x))[j]?=some b':=h2;rw[zaS]at h1 h2;by_cases g:x.i.toNat=j
  ·rw[if_pos g,if_pos ab]at h1 h2;cases h1;cases h2;exact q1
  ·rw[if_neg g]at h1 h2;exact(S.s j a' b' h1 h2).adW (w2 j a' (λe=>g e.symm) h1) (u2 j b' (λe=>g e.symm) h2)
def abQ{d:Dk}{a:At}{p:Int}{tr:Rn}(h0:aK d a=0)(hd:wU d)(he:dJ d a p tr=0):∀i,OS (ar (Lz d a p tr) (Il a p tr)) i↔OS (ar d a) i:=by
 have hx:fE d a p tr=0:=by rw[<-(azk h0).1];exact he
 have hm:SJ (ar d a) p tr=0:=by
  unfold fE at hx;split at hx
  ·exact hx
  ·rename_i g;exact K6
 have mo:=Up hm;have hk:=mo.ok;unfold Pv at hk;have hlen:p+tr.n<=(az a.rn.l).length:=mo.len;have ab8:∀k:Nat,(k:Int)<tr.n→∃x,(az a.rn.l)[p.toNat+k]?=some x/\x≠ -1:=mo.from_;have hsn:(ar d a).d=d:=rfl;rw[hsn]at hk;obtain⟨ok,_⟩:=bc h0;have rK:=ok.nb;have hg:∀i:Nat,(az (Il a p tr).rn.l)[i]?=if p.toNat<=i/\i<p.toNat+tr.n.toNat then some (tr.s+((i-p.toNat:Nat):Int))else(az a.rn.l)[i]?:=λi=>by
  have e:az (Il a p tr).rn.l=C8 (az a.rn.l) p tr tr.n.toNat:=by
   refine ZB λx hx=>?_
   obtain⟨j,hj⟩:=List.mem_iff_getElem?.1 hx;rw[Sz hk.1 ab]at hj;split at hj
   ·have:=Option.some.inj hj;omega
   ·have M8:d.n=d.a_.length/256:=rfl;rcases ok.pl x (zag hj)with g|g<;>omega
  rw[e,Sz hk.1 ab]
 intro i;unfold OS;show(∃x,(az (Il a p tr).rn.l)[i]?=some x/\x≠ -1)↔∃x,(az a.rn.l)[i]?=some x/\x≠ -1;rw[hg i];by_cases g:p.toNat<=i/\i<p.toNat+tr.n.toNat
 ·rw[if_pos g];constructor
  ·intro _;have:=ab8 (i-p.toNat) ab;rwa[show p.toNat+(i-p.toNat)=i by omega]at this
  ·intro _;exact⟨_,rfl,ab⟩
 ·rw[if_neg g]
def abT{w u:Vo}(S:afl w u)(m:Mv):afl (nX w m) u:=by
 by_cases he:ub w m=0
 case neg=>unfold nX;rw[if_pos he];exact S
 have hG:=aiL S.g m;have hc:=aaz S.g m;obtain⟨k0,k1,hm⟩:=apm he;obtain⟨a,ha⟩:∃a,w.st.l[m.k.toNat]?=some a:=⟨_,zah ab⟩
 have ea:ni w m.k=a:=by unfold ni;rw[ha];rfl
 have e:nX w m=rl w (jM w.d (ni w m.k) m.p m.t) m.k.toNat (jG w.d (ni w m.k) m.p m.t):=by unfold nX;rw[if_neg (λg=>g he)]
 rw[ea]at hm e;have oa:=S.g.on ha;have ml:=aBQ oa.o oa.d oa.n hm;have mh:=abQ oa.o oa.d hm;rw[ml.D,ml.A]at e;obtain⟨_,w2,w3⟩:=au2 S.g.1 S.g.2 ha ⟨ml.op,ml.fN,ml.su,oa.n⟩;have hf:=Q1 ml.su oa.o ml.op;rw[ml.gy]at hf;rw[e]at hG hc ⊢;have hn:(Lz w.d a m.p m.t).n=w.d.n:=ml.n;refine⟨hG,S.g',hc.2.trans S.n,?_,?_,λj a' b' h1 h2=>?_⟩
 ·show oF (Lz w.d a m.p m.t).mp (Lz w.d a m.p m.t).n=_;rw[hn,ml.gy];exact S.c
 ·show(w.st.l.set _ _).length=_;rw[za0];exact S.len
 ·have h1:(w.st.l.set m.k.toNat (Il a m.p m.t))[j]?=some a':=h1;rw[zaS]at h1;by_cases g:m.k.toNat=j
  ·rw[if_pos g,if_pos ab]at h1;cases h1;rw[g]at ha;have SA:=S.s j a b' ha h2;refine⟨?_,λi=>(mh i).trans (SA.h i),by have:=SA.u;omega,ml.fN.trans SA.c⟩;rw[SA.f];rfl
  ·rw[if_neg g]at h1;exact(S.s j a' b' h1 h2).adW (w2 j a' (λe=>g e.symm) h1) rfl
def adn{w:Vo}{x:Sp}(hk:x.k=4):YN w x=nX w ⟨x.i,x.p,x.t⟩:=by
 unfold YN nX ub;by_cases hi:0<=x.i/\x.i<=(w.st.l.length:Int)-1
 ·have e:A4 w.d (ni w x.i) x=dJ w.d (ni w x.i) x.p x.t:=by
   unfold A4;rw[if_neg ab,if_neg ab,if_neg ab]
  simp only[if_neg (show ¬ ¬(0<=x.i/\x.i<=(w.st.l.length:Int)-1)from λg=>g hi),e];rw[if_neg ab];split
  ·rfl
  ·unfold Ib D2;rw[if_neg ab,if_neg ab,if_neg ab,if_neg ab,if_neg ab,if_neg ab]
 ·simp only[if_pos (show ¬(0<=x.i/\x.i<=(w.st.l.length:Int)-1)from hi)];rw[if_pos ao]
def nmB(s:Sp):Bool:=decide (s.k≠4)
def afA:∀{l:List Sp} {i:Int},(BE i l).2=0↔∀s∈l,EB s.k=0
 |[],i=>by simp[BE]
 |s::l,i=>by
  unfold BE;by_cases g:EB s.k=0
  ·rw[if_neg (λk=>k g),afA (l:=l)];simp[g]
  ·rw[if_pos g];simp[g]
def agI{l:List Sp}(h:aox l=0):l.length<=40∧∀s∈l,0<=s.k/\s.k<=4:=by
 unfold aox at h;by_cases hl:l.length<=40
 case neg=>rw[if_neg hl]at h;exact absurd h ao
 rw[if_pos hl]at h;refine⟨hl,λs hs=>?_⟩;have:=afA.1 h s hs;unfold EB at this;apply Classical.byContradiction;intro g;rw[if_neg g]at this;exact absurd this ao
def agb{l:List Sp}(h:aox l=0):aox (l.filter nmB)=0:=by
 have hl:=(agI h).1;have hf:=zdj nmB l;unfold aox at h ⊢;rw[if_pos hl]at h;rw[if_pos ab];exact afA.2 λs hs=>afA.1 h s (zbn.1 hs).1
def afU(v:Vo):∀(l m:List Sp),Jv v (l++m)=Jv (Jv v l) m
 |[],m=>rfl
 |s::l,m=>afU (YN v s) l m
def Td(v:Vo):∀(l m:List Sp),Kh v (l++m)=Kh v l++Kh (Jv v l) m
 |[],m=>rfl
 |s::l,m=>by
  show vf v s::Kh (YN v s) (l++m)=vf v s::(Kh (YN v s) l++Kh (Jv (YN v s) l) m);rw[Td (YN v s) l m]
def aet(v:Vo):∀l:List Sp,(Kh v l).length=l.length
 |[]=>rfl
 |s::l=>by show(Kh (YN v s) l).length+1=l.length+1;rw[aet (YN v s) l]
def afK{v:Vo}{l:List Sp}{n:Nat}{x:Sp}(h:l[n]?=some x):(Kh v l)[n]?=some (vf (Jv v (l.take n)) x):=by
 have hn:=(zaa.1 h).1;have e:l=l.take n++x::l.drop (n+1):=by rw[<-drop_cons h,zaD]
 have hl:(Kh v (l.take n)).length=n:=by rw[aet,zal];omega
 conv=>lhs;rw[e]
 rw[Td,zak ab,hl,Nat.sub_self];rfl
def JB{v:Vo}{l:List Sp}{n:Nat}{x:Sp}(h:l[n]?=some x):Jv v (l.take (n+1))=YN (Jv v (l.take n)) x:=by
 rw[zcX,h,zdq,afU];rfl
def nmN(l:List Sp)(n:Nat):Nat:=((l.take n).filter nmB).length
def ag9(l:List Sp)(n:Nat):l.filter nmB=(l.take n).filter nmB++(l.drop n).filter nmB:=by
 rw[<-zb0,zaD]
def afz{l:List Sp}{n:Nat}{x:Sp}(h:l[n]?=some x):nmN l (n+1)=nmN l n+if x.k=4 then 0 else 1:=by
 unfold nmN;rw[zcX,h,zdq,zb0,List.length_append];congr 1;by_cases g:x.k=4
 ·rw[if_pos g,zd7 (by unfold nmB;simp[g])];rfl
 ·rw[if_neg g,zd6 (by unfold nmB;simp[g])];rfl
def aaZ{l:List Sp}{n:Nat}{x:Sp}(h:l[n]?=some x)(hk:¬x.k=4):(l.filter nmB)[nmN l n]?=some x:=by
 rw[ag9 l n];unfold nmN;rw[zak (Nat.le_refl _),Nat.sub_self,drop_cons h,zd6 (by unfold nmB;simp[hk])];rfl
def aeX(v:Vo)(l:List Sp)(n:Nat):Prop:=afl (Jv v (l.take n)) (Jv v ((l.filter nmB).take (nmN l n)))
def acj{v:Vo}{l:List Sp}{n:Nat}{x:Sp}(h:l[n]?=some x)(hk:x.k=4)(S:aeX v l n):aeX v l (n+1):=by
 unfold aeX at S ⊢;rw[JB h,afz h,if_pos hk,Nat.add_zero,adn hk];exact abT S _
def acf{v:Vo}{l:List Sp}{n:Nat}{x:Sp}(h:l[n]?=some x)(hk:¬x.k=4)(AP:0<=x.k/\x.k<=4)(S:aeX v l n):
 ∃y z:An,(Kh v l)[n]?=some y/\(Kh v (l.filter nmB))[nmN l n]?=some z/\(y.e=8\/z.e=8\/(y=z/\aeX v l (n+1))):=by
 refine⟨_,_,afK h,afK (aaZ h hk),?_⟩;unfold aeX at S ⊢;rcases abP S x ab with⟨g1,g2⟩|g|g
 ·refine .inr (.inr ⟨g1,?_⟩);rw[JB h,afz h,if_neg hk,JB (aaZ h hk)];exact g2
 ·exact .inl g
 ·exact .inr (.inl g)
def acg{v:Vo}{l:List Sp}(S:aeX v l l.length):ac4 (Jv v l)=ac4 (Jv v (l.filter nmB)):=by
 have h:=S.fN;have e:nmN l l.length=(l.filter nmB).length:=by unfold nmN;rw[zcZ]
 rwa[zcZ,e,zcZ]at h
set_option maxHeartbeats 8000000 in
def aev:MT (ay [(12,ah KL),(13,bF Wr),(57,bF TV),(16,ah OA),(60,ah akI),(15,c8 false qM),(59,c8 true ab9),(58,c8 false Oe),(45,c8 true akH),(46,bF aeY)]) uR (ah afx):=by
 rintro _ K ⟨_,⟨v,s,rfl,rfl⟩,hK⟩;have lD:KL [] (pB true):=⟨rfl,rfl⟩
 have hfe:Wr [v.pv] _:=⟨v,rfl,rfl⟩
 have yB:TV [Im s] _:=⟨s,rfl,rfl⟩
 by_cases hf:ahf v
 case neg=>
  (repeat'((conv=>whnf);first|refine⟨_,lD,?_⟩|refine⟨_,hfe,?_⟩|refine aw hf ?_|refine aN ?_|refine bP ?_|fail))<;>try(conv=>whnf)
  exact⟨.pv (pB true),rfl,trivial,hK⟩
 by_cases hs:agk s.l
 case neg=>
  (repeat'((conv=>whnf);first|refine⟨_,lD,?_⟩|refine⟨_,hfe,?_⟩|refine au hf ?_|refine⟨_,yB,?_⟩|refine aw hs ?_|refine aN ?_|refine bP ?_|fail))<;>try(conv=>whnf)
  exact⟨.pv (pB true),rfl,trivial,hK⟩
 obtain⟨hb,hr,hn⟩:=hf.b;have qH:s.l.length<=42:=by have:=hs.1.2;omega
 have hvE:OA [v.pv] _:=⟨v,rfl,⟨hb,hr⟩,rfl⟩
 have hlE:akI [Im s] _:=⟨s,rfl,ab,rfl⟩
 by_cases he:wX v=0
 case neg=>
  (repeat'((conv=>whnf);first|refine⟨_,lD,?_⟩|refine⟨_,hfe,?_⟩|refine au hf ?_|refine⟨_,yB,?_⟩|refine au hs ?_|refine⟨_,hvE,?_⟩|refine au he ?_|refine aN ?_|fail))<;>try(conv=>whnf)
  exact⟨.pv (pB true),rfl,trivial,hK⟩
 by_cases hle:aox s.l=0
 case neg=>
  rw[he]at hvE
  (repeat'((conv=>whnf);first|refine⟨_,lD,?_⟩|refine⟨_,hfe,?_⟩|refine au hf ?_|refine⟨_,yB,?_⟩|refine au hs ?_|refine⟨_,hvE,?_⟩|refine aw (λh=>h rfl) ?_|refine⟨_,hlE,?_⟩|refine au hle ?_|refine aN ?_|fail))<;>try(conv=>whnf)
  exact⟨.pv (pB true),rfl,trivial,hK⟩
 have hC:qM [v.pv] _:=⟨v,rfl,hn,rfl⟩
 have hCs:ab9 [Im s] _:=⟨s,rfl,ab,rfl⟩
 have aho:∀x∈s.l,x.dat.length<=1000000:=λx hx=>by have:=hs.2 x hx;omega
 have SL:=zdj nmB s.l;obtain⟨e1,e2,e3⟩:=azx (s:=s) he hle;obtain⟨f1,f2,f3⟩:=azx (s:=.sl (s.l.filter nmB)) he (agb hle);have c_:Oe [(bp v).pv,Im (.sl s.l)] _:=⟨bp v,.sl s.l,rfl,⟨Og hb,by show s.l.length<=_;omega,aho⟩,rfl⟩
 have hrf:Oe [(bp v).pv,.sl 7 ((s.l.filter nmB).map Sp.pv)] _:=⟨bp v,.sl (s.l.filter nmB),rfl,⟨Og hb,by show(s.l.filter nmB).length<=_;omega,λx hx=>aho x (zbn.1 hx).1⟩,rfl⟩
 rw[e1,e2,e3]at c_;rw[show Sl.sl (s.l.filter nmB)=Sl.sl (Sl.sl (s.l.filter nmB)).l from rfl,f1,f2,f3]at hrf;rw[he]at hvE;rw[hle]at hlE;have E4:=(agI hle).2;have hG:KX v:=⟨hb,he⟩
 have hS0:aeX v s.l 0:=afl.refl hG;have atZ:=λ(n:Nat) (x:Sp) (h:s.l[n]?=some x) (hk:x.k=4) (S:aeX v s.l n)=>acj h hk S
 have at5:=λ(n:Nat) (x:Sp) (h:s.l[n]?=some x) (hk:¬x.k=4) (S:aeX v s.l n)=>acf h hk (E4 x (zag h)) S
 have adL:aeX v s.l s.l.length->ac4 (bp (Jv v s.l))=ac4 (bp (Jv v (s.l.filter nmB))):=λS=>by rw[QI,QI];exact acg S
 have hX:KX (bp (Jv v s.l)):=axS (awu hG);have hY:KX (bp (Jv v (s.l.filter nmB))):=axS (awu hG);have Ng:=aet v s.l;have hBl:=aet v (s.l.filter nmB);have hlf:(Sl.sl (s.l.filter nmB)).l=s.l.filter nmB:=rfl;rw[hlf]at hrf;generalize bp (Jv v s.l)=X at*;generalize bp (Jv v (s.l.filter nmB))=Y at*;generalize Kh v s.l=A at*;generalize Kh v (s.l.filter nmB)=B at*;have hcX:akH [X.pv] _:=⟨X,rfl,⟨hX,hX.rn⟩,rfl⟩
 have hcY:akH [Y.pv] _:=⟨Y,rfl,⟨hY,hY.rn⟩,rfl⟩
 have mE:(ac4 X).length<=1000000:=by unfold ac4;rw[zav];exact hX.1.2.2
 have htx:aeY [.sl 1 (Px (ac4 X)),.sl 1 (Px (ac4 X))] _:=⟨_,_,rfl,⟨mE,mE⟩,rfl⟩
 have gJ:(s.l.map Sp.pv).length=s.l.length:=zav _;have hAm:(A.map An.pv).length=A.length:=zav _;have hBm:(B.map An.pv).length=B.length:=zav _
 (repeat'((conv=>whnf);first|refine⟨_,lD,?_⟩|refine⟨_,hfe,?_⟩|refine au hf ?_|refine⟨_,yB,?_⟩|refine au hs ?_|refine⟨_,hvE,?_⟩|refine aw (λh=>h rfl) ?_|refine⟨_,hlE,?_⟩|refine aN ?_|fail))<;>try(conv=>whnf)
 refine⟨λm env σ=>∃n:Nat,n+m=s.l.length/\σ=[.box 26 [.pv (.str v.d.a_),.pv (.str v.d.mp),.pv (D4 v.st)],.row 107 7 true (((s.l.take n).filter nmB).map Sp.pv)]/\env=[(1,.pv (Im s)),(2,.ref 0 0 0),(5,.own 1),eN 6 n],s.l.length,⟨0,ab,rfl,rfl⟩,?_⟩;rintro m env σ ⟨n,kp,rfl,rfl⟩;by_cases aU:n<s.l.length
 ·obtain⟨x,hx⟩:∃x,s.l[n]?=some x:=⟨_,zah aU⟩
  have Cy:Im s=.sl 7 (s.l.map Sp.pv):=Sl.zN hx;have Wk:=nS (f:=Sp.pv) hx;have kv:s.l.take (n+1)=s.l.take n++[x]:=by rw[zcX,hx];rfl
  have bJ:(((s.l.take n).filter nmB).map Sp.pv).length<=n:=by rw[zav];have:=zdj nmB (s.l.take n);rw[zal]at this;omega
  rw[Cy];by_cases hk:x.k=4
  ·have e:(s.l.take (n+1)).filter nmB=(s.l.take n).filter nmB:=by
    rw[kv,zb0,zd7 (by unfold nmB;simp[hk])];exact List.append_nil _
   (repeat'((conv=>whnf);first|refine au ab ?_|refine⟨_,⟨ab,Wk⟩,?_⟩|refine aw (λh=>h hk) ?_|refine bj ab ?_|refine dq λ_=>?_|fail))<;>try(conv=>whnf)
   exact⟨m-1,ab,n+1,ab,by rw[e],rfl⟩
  ·have e:(s.l.take (n+1)).filter nmB=(s.l.take n).filter nmB++[x]:=by
    rw[kv,zb0,zd6 (by unfold nmB;simp[hk])];rfl
   (repeat'((conv=>whnf);first|refine au ab ?_|refine⟨_,⟨ab,Wk⟩,?_⟩|refine zcB ⟨by simp only[zbS];omega,by simp only[zbS];omega⟩ ?_|refine bj ab ?_|refine dq λ_=>?_|refine bT ?_|fail))<;>try(conv=>whnf)
   exact⟨m-1,ab,n+1,ab,by rw[e,List.map_append];rfl,rfl⟩
 rw[List.take_of_length_le ab]
 (repeat'((conv=>whnf);first|refine KP ?_|refine aw ab ?_|refine⟨_,hC,?_⟩|refine⟨_,hCs,?_⟩|refine⟨_,c_,?_⟩|refine⟨_,hrf,?_⟩|refine dq λ_=>?_|refine bT ?_|fail))<;>try(conv=>whnf)
 refine⟨λm env σ=>∃n:Nat,n+m=s.l.length/\aeX v s.l n/\σ=[.row 104 2 true (A.map An.pv),.box 26 [.pv (.str X.d.a_),.pv (.str X.d.mp),.pv (D4 X.st)],.row 104 2 true (B.map An.pv),.box 26 [.pv (.str Y.d.a_),.pv (.str Y.d.mp),.pv (D4 Y.st)]]/\
  env=[(1,.pv (Im s)),(7,.own 0),(8,.ref 1 0 0),(10,.own 2),(11,.ref 3 0 0),eN 13 (nmN s.l n),eN 14 n],s.l.length,⟨0,ab,hS0,rfl,rfl⟩,?_⟩
 rintro m2 env σ ⟨n2,LD,hS,rfl,rfl⟩;by_cases aym:n2<s.l.length
 case neg=>
  have e:n2=s.l.length:=ab;have hce:=adL (e▸hS);rw[<-hce]at hcY
  (repeat'((conv=>whnf);first|refine KP ?_|refine aw ab ?_|refine⟨_,hcX,?_⟩|refine⟨_,hcY,?_⟩|refine⟨_,htx,?_⟩|refine au rfl ?_|refine dq λ_=>?_|fail))<;>try(conv=>whnf)
  exact⟨.pv (pB true),rfl,trivial,hK⟩
 obtain⟨x,hx⟩:∃x,s.l[n2]?=some x:=⟨_,zah aym⟩
 have Cy:Im s=.sl 7 (s.l.map Sp.pv):=Sl.zN hx;have Wk:=nS (f:=Sp.pv) hx;have hsu:=afz hx;rw[Cy];by_cases hk:x.k=4
 ·rw[if_pos hk]at hsu;have hS2:=atZ n2 x hx hk hS
  (repeat'((conv=>whnf);first|refine au ab ?_|refine⟨_,⟨ab,Wk⟩,?_⟩|refine bj ab ?_|refine dq λ_=>?_|fail))<;>try(conv=>whnf)
  exact⟨m2-1,ab,n2+1,ab,hS2,rfl,by rw[hsu];rfl⟩
 rw[if_neg hk]at hsu;obtain⟨y,z,hy,hz,hyz⟩:=at5 n2 x hx hk hS;have hgy:=nS (f:=An.pv) hy;have hgz:=nS (f:=An.pv) hz;have hny:=(zaa.1 hy).1;have hnz:=(zaa.1 hz).1;by_cases hy8:y.e=8
 ·(repeat'((conv=>whnf);first|refine au ab ?_|refine⟨_,⟨ab,Wk⟩,?_⟩|refine aw hk ?_|refine zcB ⟨ab,ab⟩ ?_|refine⟨_,hgy,?_⟩|refine dq λ_=>?_|fail))<;>try(conv=>whnf)
  exact⟨.pv (pB true),rfl,trivial,hK⟩
 by_cases hz8:z.e=8
 ·(repeat'((conv=>whnf);first|refine au ab ?_|refine⟨_,⟨ab,Wk⟩,?_⟩|refine aw hk ?_|refine zcB ⟨ab,ab⟩ ?_|refine⟨_,hgy,?_⟩|refine aw hy8 ?_|refine⟨_,hgz,?_⟩|refine dq λ_=>?_|fail))<;>try(conv=>whnf)
  exact⟨.pv (pB true),rfl,trivial,hK⟩
 obtain⟨hyz,hS2⟩:=(hyz.resolve_left hy8).resolve_left hz8;subst hyz
 (repeat'((conv=>whnf);first|refine au ab ?_|refine⟨_,⟨ab,Wk⟩,?_⟩|refine aw hk ?_|refine zcB ⟨ab,ab⟩ ?_|refine⟨_,hgy,?_⟩|refine aw hy8 ?_|refine⟨_,hgz,?_⟩|refine aw (λh=>h rfl) ?_|refine bj ab ?_|refine bj ab ?_|refine dq λ_=>?_|refine bT ?_|fail))<;>try(conv=>whnf)
 exact⟨m2-1,ab,n2+1,ab,hS2,rfl,by rw[hsu];rfl⟩
def ru:bU bb 11 (ah afx):=adM.sound mixed (aaB nW (aaB sR (aaB Bz (aaB ox (aaB KR (aaB eO (aaB GI (aaB Du (aaB KV (aaB Q6 aq)))))))))) (ax _) (by rintro _ _ ⟨_,⟨_,_,rfl,_⟩,_⟩;rfl) aev
end Go.Dv.Try
