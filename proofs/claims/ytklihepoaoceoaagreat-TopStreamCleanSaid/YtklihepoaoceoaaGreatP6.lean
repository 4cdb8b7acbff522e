/- Own work: parts of the proof, shortened and laid together by a tool of our own. -/
import Derived.Test.YtklihepoaoceoaaGreatP5
import Derived.KernelRfl
set_option linter.defProp false
set_option linter.unusedSimpArgs false
set_option linter.unusedVariables false
open List renaming getElem?_eq_getElem→zah, length_map→zav, length_singleton→zbS, length_filter_le→zdl, mem_of_getElem?→zag, length_take→zal, length_drop→zax
open Nat renaming lt_or_eq_of_le→zc4, le_of_lt_succ→zc5
open Bool renaming false_eq_true→zcf
namespace Go.Dv.Try
open Go Go.Dv
def I9(a:At):az (aB a).rn.l=az a.rn.l:=FB
def Qp{d:Dk}{a:At}(h0:aK d a=0):adv d d a a:=by
 refine⟨⟨rfl,(bc h0).1.dk⟩,λc _=>⟨λ_=>⟨rfl,rfl⟩,λh=>absurd h.1 h.2,λh=>QX h0 (Dl.1 h),λh=>absurd h.1 h.2⟩⟩
structure As(d:Dk)(a:At)(e:Dk)(b:At)(C:List UInt8):Prop where
 op:aK e b=0
 fN:aV (ar e b)=C
 su:adv d e a b
 nm:b.nm.length<=1000000
def As.refl{d:Dk}{a:At}(h0:aK d a=0)(hn:a.nm.length<=1000000):As d a d a (aV (ar d a)):=⟨h0,rfl,Qp h0,hn⟩
def As.of{d e:Dk}{a b:At}{C:List UInt8}{v:Int}{rs:Bool}(h:rL d e a b C v rs)(hn:a.nm.length<=1000000):As d a e b C:=⟨h.op,h.fN,h.su,by rw[h.nm];exact hn⟩
def As.sd{d e:Dk}{a b:At}{C:List UInt8}(h:As d a e b C)(hd:wU d):wU e:=atK h.op h.su.1.1 hd
structure NG(d:Dk)(a b:At):Prop where
 sd:wU d
 a0:aK d a=0
 b0:aK d b=0
 an:a.nm.length<=1000000
 bn:b.nm.length<=1000000
 ap:apS a b
def NG.symm{d:Dk}{a b:At}(h:NG d a b):NG d b a:=⟨h.sd,h.b0,h.a0,h.bn,h.an,λc h1 h2=>h.ap c h2 h1⟩
def NG.step{d e:Dk}{a b a':At}{C:List UInt8}(h:NG d a b)(s:As d a e a' C):NG e a' b/\aV (ar e b)=aV (ar d b)/\e.n=d.n/\
 oF e.mp d.n+bt (az a.rn.l)=oF d.mp d.n+bt (az a'.rn.l):=by
 obtain⟨h1,h2⟩:=beside s.su h.b0 h.symm.ap;obtain⟨h3,h4⟩:=PS h1 h.b0;exact⟨⟨s.sd h.sd,s.op,h3,s.nm,h.bn,λc g1 g2=>h2 c g2 g1⟩,h4,by unfold Dk.n;rw[s.su.1.1],Q1 s.su h.a0 s.op⟩
noncomputable def Ri(d:Dk)(a:At)(k p n q:Int)(aa:List UInt8):Int:=
 if k=0 then AO d (aB a) p aa else if k=1 then Jb d (aB a) n else if k=2 then jm d (aB a) p n
 else if Ml d.mp d.n (1+n%3) q=0 then dJ d (aB a) (p%20) ⟨HA d.mp d.n (1+n%3) q,1+n%3⟩else 16
noncomputable def Sm(d:Dk)(a:At)(k p n q:Int)(aa:List UInt8):Dk:=
 if Ri d a k p n q aa≠0 then d else if k=0 then zM d (aB a) p aa else if k=1 then Jf d (aB a) n else if k=2 then jU d (aB a) p n
 else jM d (aB a) (p%20) ⟨HA d.mp d.n (1+n%3) q,1+n%3⟩
noncomputable def R2(d:Dk)(a:At)(k p n q:Int)(aa:List UInt8):At:=
 if Ri d a k p n q aa≠0 then a else if k=0 then yV d (aB a) p aa else if k=1 then LA d (aB a) n else if k=2 then js d (aB a) p n
 else jG d (aB a) (p%20) ⟨HA d.mp d.n (1+n%3) q,1+n%3⟩
noncomputable def Sr(d:Dk)(a:At)(s:List UInt8)(k p n q:Int)(aa:List UInt8):List UInt8:=
 if Ri d a k p n q aa≠0 then s else if k=0 then yr s p.toNat aa else if k=1 then M9 s n.toNat else if k=2 then PY s p n else s
def abS{d:Dk}{a:At}{p:Int}(h0:aK d a=0)(hp:0<=p)(hl:p<=32768):zM d a p []=d/\yV d a p []=aB a:=by
 have Gy:yE d a p []=0:=by unfold yE iU;rw[if_neg (λe=>e h0),if_neg (λe=>e ab),if_neg aH]
 constructor
 ·unfold zM;rw[Gy,if_neg z0,if_pos rfl]
 ·unfold yV;rw[Gy,if_neg z0,if_pos rfl];rfl
def Wr{d:Dk}{a:At}{k p n q:Int}{aa:List UInt8}(h0:aK d a=0)(hd:wU d)(hn:a.nm.length<=1000000)(hp:0<=p/\p<9000)(hc:0<=n/\n<9000)(hl:aa.length<=3000):
 As d a (Sm d a k p n q aa) (R2 d a k p n q aa) (Sr d a (aV (ar d a)) k p n q aa):=by
 by_cases he:Ri d a k p n q aa=0
 case neg=>
  unfold Sm R2 Sr;rw[if_pos he,if_pos he,if_pos he];exact .refl h0 hn
 have na:aK d (aB a)=0:=xJ;have back:∀{e:Dk} {b:At} {C:List UInt8},As d (aB a) e b C->As d a e b C:=λh=>⟨h.op,h.fN,⟨h.su.1,λc hc=>by have:=h.su.2 c hc;rw[I9]at this;exact this⟩,h.nm⟩
 unfold Sm R2 Sr;have cb:¬Ri d a k p n q aa≠0:=λh=>h he
 rw[if_neg cb,if_neg cb,if_neg cb];clear cb;unfold Ri at he;rw[<-Hm];by_cases k0:k=0
 ·rw[if_pos k0]at he ⊢;rw[if_pos k0,if_pos k0];by_cases cb:aa=[]
  ·subst cb;obtain⟨g1,g2⟩:=abS (p:=p) na hp.1 ab;rw[g1,g2,S6,show aB (aB a)=aB a from rfl];exact back (.refl na hn)
  ·exact back (.of ((Uz na hd hn hp.1 ab cb).ok he).1 hn)
 rw[if_neg k0]at he ⊢;rw[if_neg k0,if_neg k0];by_cases k1:k=1
 ·rw[if_pos k1]at he ⊢;rw[if_pos k1,if_pos k1];exact back (.of ((af3 na hd hn ⟨hc.1,ab⟩).ok he).1 hn)
 rw[if_neg k1]at he ⊢;rw[if_neg k1,if_neg k1];by_cases k2:k=2
 ·rw[if_pos k2]at he ⊢;rw[if_pos k2,if_pos k2];exact back (.of ((aCh na hd hn ⟨hp.1,ab⟩ ⟨hc.1,ab⟩).ok he).1 hn)
 rw[if_neg k2]at he ⊢;rw[if_neg k2,if_neg k2];split at he
 ·have hm:=aBQ na hd hn he;rw[hm.D,hm.A];exact back ⟨hm.op,hm.fN,hm.su,hn⟩
 ·exact absurd he ao
def L0{d:Dk}(h:gm d=0):wU d:=by
 obtain⟨q1,q2,q3⟩:=rX h;obtain⟨_,_,b3,b4,_⟩:=iR q3;unfold Dk.n at q2 b4;exact⟨ab,by unfold sx at b4;omega⟩
def abT{d:Dk}(h:gm d=0):fH d:=pR (L0 h)
def OI(ps:List PV)(x:PV):Prop:=∃d:Dk,ps=[d.pv]/\d.a_.length<=9223372036854775807/\x=pI d.n
def FY:MT (ay []) E8 (ah OI):=by
 rintro _ K ⟨_,⟨d,rfl,h,rfl⟩,hK⟩
 (repeat'((conv=>whnf);first|refine l7 ab ?_|fail))<;>try(conv=>whnf)
 exact⟨.pv (pI _),bu so,trivial,hK⟩
def Av(ps:List PV)(x:PV):Prop:=∃d:Dk,ps=[d.pv]/\d.a_.length<=9223372036854775807/\x=pI (gm d)
def GC:MT (ay [(7,ah OI),(36,ah LZ)]) H_ (ah Av):=by
 rintro _ K ⟨_,⟨d,rfl,h1,rfl⟩,hK⟩;unfold gm at hK
 (repeat'((conv=>whnf);first|refine oQ ?_|(refine⟨_,⟨d,rfl,h1,rfl⟩,?_⟩)|(refine⟨_,⟨d.mp,(d.n:Int),rfl,ab,rfl⟩,?_⟩)|refine de (λ_=>?_) (λ_=>?_)|refine lW ab ?_|fail))<;>try(conv=>whnf)
 ·rename_i x;rw[if_pos ab]at hK;exact aG
 ·rename_i x y;rw[if_neg ab,if_pos ab]at hK;exact aG
 ·rename_i x y;rw[if_neg ab,if_neg ab]at hK;exact aG
def NY(ps:List PV)(x:PV):Prop:=∃a:At,ps=[a.pv]/\x=pI (gu a)
def Im:MT (ay [(109,bF EV),(110,bF TF),(29,bF bG),(111,ah Fa),(112,ah E9),(113,ah Tp)]) Vm (ah NY):=by
 rintro _ K ⟨_,⟨a,rfl,rfl⟩,hK⟩;rw[aom]at hK;obtain⟨ty,nm,id,fl,rs,vl,ft,rn,al,sz,vd⟩:=a;have h0:ty∈S3->fy nm->yi ⟨ty,nm,id,fl,rs,vl,ft,rn,al,sz,vd⟩->Iv ⟨ty,nm,id,fl,rs,vl,ft,rn,al,sz,vd⟩=0->TI ⟨ty,nm,id,fl,rs,vl,ft,rn,al,sz,vd⟩=0:=λg1 g2 g3 g4=>(ad6 g1 g2 g3).trans g4
 unfold yi Iv at hK h0;simp only at hK h0;simp only[At.pv];cases rs with
 |true=>
  (repeat'((conv=>whnf);first|refine⟨_,⟨_,rfl,rfl⟩,?_⟩|refine⟨_,⟨⟨ty,nm,id,fl,true,vl,ft,rn,al,sz,vd⟩,rfl,rfl⟩,?_⟩|refine⟨_,⟨⟨ty,nm,id,fl,true,vl,ft,rn,al,sz,vd⟩,rfl,h0 aA aA ⟨aA,aA⟩ aA,rfl⟩,?_⟩|(refine fe ?_;first|refine aN ?_|refine bP ?_|refine de (λ_=>?_) (λ_=>?_)|refine⟨_,⟨_,_,_,rfl,rfl⟩,?_⟩|fail)))<;>try(conv=>whnf)
  all_goals
   refine⟨.pv (pI _),bu ?_,trivial,hK⟩;simp only[*,if_true,zcf,if_false,not_true_eq_false,not_false_eq_true,ne_eq,and_self,and_true,true_and,and_false,false_and];try omega
   try((repeat' split)<;>first|rfl|omega|contradiction)
 |false=>
  (repeat'((conv=>whnf);first|refine⟨_,⟨_,rfl,rfl⟩,?_⟩|refine⟨_,⟨⟨ty,nm,id,fl,false,vl,ft,rn,al,sz,vd⟩,rfl,rfl⟩,?_⟩|refine⟨_,⟨⟨ty,nm,id,fl,false,vl,ft,rn,al,sz,vd⟩,rfl,h0 aA aA ⟨aA,aA⟩ aA,rfl⟩,?_⟩|(refine fe ?_;first|refine aN ?_|refine bP ?_|refine de (λ_=>?_) (λ_=>?_)|refine⟨_,⟨_,_,_,rfl,rfl⟩,?_⟩|fail)))<;>try(conv=>whnf)
  all_goals
   refine⟨.pv (pI _),bu ?_,trivial,hK⟩;simp only[*,if_true,zcf,if_false,not_true_eq_false,not_false_eq_true,ne_eq,and_self,and_true,true_and,and_false,false_and];try omega
   try((repeat' split)<;>first|rfl|omega|contradiction)
def yn(ps:List PV)(x:PV):Prop:=∃(d:Dk) (a:At),ps=[d.pv,a.pv]/\d.a_.length<=9223372036854775807/\x=pI (aK d a)
set_option maxHeartbeats 4000000 in
def LB:MT (ay [(6,ah Av),(37,ah NY),(38,bF uJ),(39,c8 false dL),(7,ah bA),(40,ah qM),(41,ah Xz),(42,ah GJ),(43,ah Dc)]) Vg (ah yn):=by
 rintro _ K ⟨_,⟨d,a,rfl,h1,rfl⟩,hK⟩;have hd:Av [d.pv] (pI (gm d)):=⟨d,rfl,h1,rfl⟩
 have ha:NY [a.pv] (pI (gu a)):=⟨a,rfl,rfl⟩
 by_cases cO:gm d=0
 case neg=>
  have he:aK d a=gm d:=by unfold aK;rw[if_pos cO]
  rw[he]at hK
  (repeat'((conv=>whnf);first|refine⟨_,hd,?_⟩|refine au cO ?_|fail))<;>try(conv=>whnf)
  exact aG
 have h1:=abT cO;by_cases pA:gu a=0
 case neg=>
  have he:aK d a=gu a:=by
   have:oT a=gu a:=by unfold oT;rw[if_pos pA]
   unfold aK;rw[if_neg (λe=>e cO),if_pos (by rw[this];exact pA),this]
  rw[he]at hK
  (repeat'((conv=>whnf);first|refine⟨_,hd,?_⟩|refine aw (λe=>e cO) ?_|refine⟨_,ha,?_⟩|refine au pA ?_|fail))<;>try(conv=>whnf)
  exact aG
 have SL:=afv pA;have di:=Ms pA;by_cases hs:oT a=0
 case neg=>
  have he:aK d a=oT a:=by unfold aK;rw[if_neg (λe=>e cO),if_pos hs]
  rw[he]at hK;unfold oT at hK hs;rw[if_neg (λe=>e pA)]at hK hs;generalize gu a=AE at*;generalize gm d=DE at*
  (repeat'((conv=>whnf);first|refine⟨_,hd,?_⟩|refine aw (λe=>e cO) ?_|refine⟨_,ha,?_⟩|refine aw (λe=>e pA) ?_|refine⟨_,⟨a,4,rfl,⟨ab,.inr (.inr rfl)⟩,rfl⟩,?_⟩|refine au ab ?_|refine de (λ_=>?_) (λ_=>?_)|fail))<;>try(conv=>whnf)
  all_goals
   refine⟨.pv (pI _),bu ?_,trivial,hK⟩;clear ha hd he hK pA cO;first
    |omega
    |(split<;>first|omega|(split<;>first|omega|(split<;>omega)))
 obtain⟨_,g2,g3,g4,g5⟩:=lE hs;have hO:aK d a=if a.rs=true then 0 else if pG d (az a.rn.l)≠0 then pG d (az a.rn.l)else if iW a (az a.rn.l)≠0 then iW a (az a.rn.l)
  else if a.fl%2=1 then qw d.a_ a.vd (chunks (az a.rn.l))else 0:=by unfold aK;rw[if_neg (λe=>e cO),if_neg (λe=>e hs)]
 obtain⟨q1,q2,q3⟩:=rX cO;have gr:=bZ (tH hs);have lF:=tH hs;have PF:=r8 (tH hs);obtain⟨gl,gb⟩:=ED (tH hs);have Nt:bA [d.pv] (pI d.n):=⟨d,rfl,h1.1,rfl⟩
 rw[cO]at hd;rw[pA]at ha;clear cO pA hs;cases c_:a.rs with
 |true=>
  rw[if_pos c_]at hO;rw[hO]at hK
  (repeat'((conv=>whnf);first|refine⟨_,hd,?_⟩|refine aw (λe=>e rfl) ?_|refine⟨_,ha,?_⟩|refine⟨_,⟨a,4,rfl,⟨ab,.inr (.inr rfl)⟩,rfl⟩,?_⟩|refine tW c_ ?_|refine aw ab ?_|fail))<;>try(conv=>whnf)
  exact aG
 |false=>
  rw[if_neg qD]at hO;have hot:=di.ot c_;have LV:=hot.2.2.2.2.2.1;have hvd:=hot.2.2.2.2.2.2;unfold pL at LV;rw[hO]at hK;clear hO
  (repeat'((conv=>whnf);first|refine⟨_,hd,?_⟩|refine aw (λe=>e rfl) ?_|refine⟨_,ha,?_⟩|refine⟨_,⟨a,4,rfl,⟨ab,.inr (.inr rfl)⟩,rfl⟩,?_⟩|refine qT c_ ?_|refine⟨_,PF,?_⟩|refine aw ab ?_|fail))<;>try(conv=>whnf)
  have hSt:∀S T:aF,S=T->S=T:=λ_ _ h=>h
  obtain⟨N,hN⟩:∃N,N=d.n:=⟨_,rfl⟩
  rw[<-hN]at Nt q2 q3;have rH:pG d (az a.rn.l)=if ∃x∈az a.rn.l,(N:Int)<=x then 2 else if ∃x∈az a.rn.l,x≠ -1/\bH d.mp x.toNat=0 then 14 else 0:=by rw[hN];rfl
  obtain⟨_,_,q6,_,_⟩:=iR q3;have Ng:Xz [qF a.rn] (pI (bt (az a.rn.l))):=⟨a.rn,rfl,⟨ab,gr.2.2.2⟩,rfl⟩
  have XJ:((az a.rn.l).map pI).length=(az a.rn.l).length:=zav _;refine⟨λm env σ=>∃n:Nat,n+m=(az a.rn.l).length/\(∀j,j<n→∀y,(az a.rn.l)[j]?=some y→¬(N:Int)<=y)/\
   σ=[.box 23 [.pv (.str d.a_),.pv (.str d.mp)],.box 31 [.pv (pI a.ty),.pv (.str a.nm),.pv (pI a.id),.pv (pI a.fl),.pv (pB a.rs),.pv (.str a.vl),.pv (pI a.ft),.pv (qF a.rn),.pv (pI a.al),.pv (pI a.sz),.pv (pI a.vd)]]/\
   env=[(2,.ref 0 0 0),(3,.ref 1 0 0),(7,.pv (rI (az a.rn.l))),eN 8 n],(az a.rn.l).length,⟨0,ab,λj hj=>ab,rfl,rfl⟩,?_⟩
  rintro m env σ ⟨n,hn,tT,rfl,rfl⟩;by_cases aU:n<(az a.rn.l).length
  ·obtain⟨x,hx⟩:∃x,(az a.rn.l)[n]?=some x:=⟨_,zah aU⟩
   have zP:=zag hx;by_cases LU:(N:Int)<=x
   ·have rF:pG d (az a.rn.l)=2:=by rw[rH,if_pos ⟨x,zP,LU⟩]
    rw[rF,if_pos z2]at hK
    (repeat'((conv=>whnf);first|refine oQ ?_|refine⟨_,Nt,?_⟩|refine au ab ?_|refine ez λ_=>?_|refine iY aA ?_|fail))<;>try(conv=>whnf)
    exact aG
   ·clear hK
    (repeat'((conv=>whnf);first|refine oQ ?_|refine⟨_,Nt,?_⟩|refine bj ab ?_|refine au ab ?_|refine aw ab ?_|refine ez λ_=>?_|refine iY aA ?_|fail))<;>try(conv=>whnf)
    exact⟨m-1,ab,n+1,ab,aa7 tT hx LU,rfl,rfl⟩
  have kr:¬ ∃x∈az a.rn.l,(N:Int)<=x:=by
   rintro⟨x,hx,hle⟩;obtain⟨k,hk⟩:=jk.1 hx;exact tT k vg x hk hle
  rw[if_neg kr]at rH
  (repeat'((conv=>whnf);first|refine aw ab ?_|refine ez λ_=>?_|fail))<;>try(conv=>whnf)
  refine⟨λm env σ=>∃n:Nat,n+m=(az a.rn.l).length/\(∀j,j<n→∀y,(az a.rn.l)[j]?=some y→¬(y≠ -1/\bH d.mp y.toNat=0))/\
   σ=[.box 23 [.pv (.str d.a_),.pv (.str d.mp)],.box 31 [.pv (pI a.ty),.pv (.str a.nm),.pv (pI a.id),.pv (pI a.fl),.pv (pB a.rs),.pv (.str a.vl),.pv (pI a.ft),.pv (qF a.rn),.pv (pI a.al),.pv (pI a.sz),.pv (pI a.vd)]]/\
   env=[(2,.ref 0 0 0),(3,.ref 1 0 0),(7,.pv (rI (az a.rn.l))),eN 9 n],(az a.rn.l).length,⟨0,ab,λj hj=>ab,rfl,rfl⟩,?_⟩
  rintro m env σ ⟨n,hn,tT,rfl,rfl⟩;by_cases aU:n<(az a.rn.l).length
  ·obtain⟨x,hx⟩:∃x,(az a.rn.l)[n]?=some x:=⟨_,zah aU⟩
   have zP:=zag hx;have Xu:=gb x zP;have hxN:¬(N:Int)<=x:=λh=>kr ⟨x,zP,h⟩
   by_cases h0:x= -1
   ·clear hK
    (repeat'((conv=>whnf);first|refine oQ ?_|refine aw (λe=>e h0) ?_|refine bj ab ?_|refine au ab ?_|refine ez λ_=>?_|refine iY aA ?_|fail))<;>try(conv=>whnf)
    exact⟨m-1,ab,n+1,ab,aa7 tT hx (λe=>e.1 h0),rfl,rfl⟩
   ·obtain⟨k,rfl⟩:∃k:Nat,x=k:=⟨x.toNat,ab⟩
    have pD:qM [.str d.mp,pI (k:Nat)] (pI (bH d.mp k)):=⟨d.mp,k,rfl,⟨ab,h1.2⟩,rfl⟩
    by_cases hb:bH d.mp k=0
    ·have rF:pG d (az a.rn.l)=14:=by rw[rH,if_pos ⟨_,zP,h0,by simpa using hb⟩]
     rw[rF,if_pos ao]at hK
     (repeat'((conv=>whnf);first|refine oQ ?_|refine au h0 ?_|refine⟨_,pD,?_⟩|refine au ab ?_|refine ez λ_=>?_|refine iY aA ?_|fail))<;>try(conv=>whnf)
     exact aG
    ·clear hK
     (repeat'((conv=>whnf);first|refine oQ ?_|refine au h0 ?_|refine⟨_,pD,?_⟩|refine bj ab ?_|refine au ab ?_|refine aw ab ?_|refine ez λ_=>?_|refine iY aA ?_|fail))<;>try(conv=>whnf)
     exact⟨m-1,ab,n+1,ab,aa7 tT hx (λe=>hb (by simpa using e.2)),rfl,rfl⟩
  have hnz:¬ ∃x∈az a.rn.l,x≠ -1/\bH d.mp x.toNat=0:=by
   rintro⟨x,hx,hle⟩;obtain⟨k,hk⟩:=jk.1 hx;exact tT k vg x hk hle
  rw[if_neg hnz]at rH;rw[rH,if_neg z0]at hK;have ayI:GJ [a.pv,pI a.sz] (pI (aqF a a.sz)):=⟨a,a.sz,rfl,⟨ab,ab⟩,rfl⟩
  have QL:=apP (a:=a) (pl:=az a.rn.l) g3;have Vr:=oG (az a.rn.l);have am1:uJ [a.pv,pI 1] (a.fl/1%2=1):=⟨a,1,rfl,⟨SL,.inl rfl⟩,rfl⟩
  by_cases yB:ZQ a (az a.rn.l)
  ·have arb:=yB;unfold ZQ at yB;by_cases hc:a.fl%2=1
   ·have aNj:(az a.rn.l).length%16=0:=by unfold aqF at yB;rw[if_pos hc]at yB;omega
    (repeat'((conv=>whnf);first|refine oQ ?_|refine⟨_,Ng,?_⟩|refine⟨_,ayI,?_⟩|refine⟨_,am1,?_⟩|refine bj ab ?_|refine aN ?_|refine au ab ?_|refine aw ab ?_|refine ez λ_=>?_|fail))<;>try(conv=>whnf)
    have avT:=abC (λx hx=>(gb x hx).1) rH;have am2:iW a (az a.rn.l)=0\/iW a (az a.rn.l)=3:=by unfold iW;split;exact .inl rfl;exact .inr rfl
    have hU:qw d.a_ a.vd (chunks (az a.rn.l))=TE (λi=>xC d.a_ a.vd i (bq (az a.rn.l) i)) ((az a.rn.l).length/16):=by
     unfold qw;rw[om,show((az a.rn.l).length+15)/16=(az a.rn.l).length/16 by omega];unfold TE;congr 1;refine List.map_congr_left λi hi=>?_
     have hi:=List.mem_range.1 hi;rw[p_ (az a.rn.l) FO];rfl
    have aPZ:=gl;rw[hU]at hK;clear hU rH hnz kr yB Vr ayI Ng;generalize AU:az a.rn.l=PL at*;refine⟨λm env σ=>∃n:Nat,(m=PL.length-n/\1<=n∧∀i,1<=i->i<n->i<PL.length->i%16≠0->PL[i-1]?=some (-1)->PL[i]?=some (-1))/\
     σ=[.box 23 [.pv (.str d.a_),.pv (.str d.mp)],.box 31 [.pv (pI a.ty),.pv (.str a.nm),.pv (pI a.id),.pv (pI a.fl),.pv (pB a.rs),.pv (.str a.vl),.pv (pI a.ft),.pv (qF a.rn),.pv (pI a.al),.pv (pI a.sz),.pv (pI a.vd)]]/\
     env=[(2,.ref 0 0 0),(3,.ref 1 0 0),(7,.pv (rI PL)),eN 10 n],PL.length-1,⟨1,⟨rfl,ab,λi h1 h2=>ab⟩,rfl,rfl⟩,?_⟩
    rintro m env σ ⟨n,⟨rfl,Kt,tT⟩,rfl,rfl⟩;by_cases aU:n<PL.length
    ·obtain⟨x,hx⟩:∃x,PL[n-1]?=some x:=⟨_,zah ab⟩
     obtain⟨y,hy⟩:∃y,PL[n]?=some y:=⟨_,zah aU⟩
     have dR:PL[((n:Int)-1).toNat]?=some x:=abb;by_cases LU:n%16≠0/\x= -1/\y≠ -1
     ·have Jq:iW a PL=3:=by
       refine am2.resolve_left λe=>?_
       have:=(QL.1 (aeg.1 e)).2 hc n Kt aU LU.1 (by rw[hx,LU.2.1]);rw[hy]at this;exact LU.2.2 (Option.some.inj this)
      rw[Jq,if_pos ao]at hK;obtain⟨b1,b2,b3⟩:=LU
      (repeat'((conv=>whnf);first|refine au (p:=(n:Int)%16≠0) ab ?_|refine anF ab dR ?_|refine au (p:=x= -1) b2 ?_|refine au (p:=y≠ -1) b3 ?_|refine bj ab ?_|refine au ab ?_|refine lW ab ?_|refine ez λ_=>?_|refine iY aA ?_|fail))<;>try(conv=>whnf)
      all_goals exact aG
     ·have fM:∀i,1<=i->i<n+1->i<PL.length->i%16≠0->PL[i-1]?=some (-1)->PL[i]?=some (-1):=λi h1 h2 h3 h4 h5=>by
       rcases zc4 (zc5 h2)with h6|h6
       ·exact tT i h1 h6 h3 h4 h5
       ·subst h6;rw[hx]at h5;rw[hy];congr 1;exact Classical.byContradiction λh7=>LU ⟨h4,Option.some.inj h5,h7⟩
      clear hK QL tT
      (repeat'((conv=>whnf);first|refine anF ab dR ?_|refine bj ab ?_|refine au ab ?_|refine aw ab ?_|refine de (λ_=>?_) (λ_=>?_)|refine lW ab ?_|refine ez λ_=>?_|refine iY aA ?_|fail))<;>try(conv=>whnf)
      all_goals first
       |exact⟨PL.length-(n+1),ab,n+1,⟨rfl,ab,fM⟩,rfl,rfl⟩
       |(exfalso;exact LU ⟨ab,ab,ab⟩)
    have Jq:iW a PL=0:=by
     unfold iW;rw[if_pos (QL.2 ⟨arb,λ_ i h1 h2 h3 h4=>tT i h1 ab h2 h3 h4⟩)]
    rw[Jq,if_neg z0,if_pos hc]at hK;generalize hF:(λi=>xC d.a_ a.vd i (bq PL i))=F at*
    (repeat'((conv=>whnf);first|refine aw ab ?_|refine ez λ_=>?_|fail))<;>try(conv=>whnf)
    refine⟨λm env σ=>∃n:Nat,(n+m=PL.length/16∧∀j,j<n->F j=0)/\
     σ=[.box 23 [.pv (.str d.a_),.pv (.str d.mp)],.box 31 [.pv (pI a.ty),.pv (.str a.nm),.pv (pI a.id),.pv (pI a.fl),.pv (pB a.rs),.pv (.str a.vl),.pv (pI a.ft),.pv (qF a.rn),.pv (pI a.al),.pv (pI a.sz),.pv (pI a.vd)]]/\
     env=[(2,.ref 0 0 0),(3,.ref 1 0 0),(7,.pv (rI PL)),eN 11 n],PL.length/16,⟨0,⟨ab,λj hj=>ab⟩,rfl,rfl⟩,?_⟩
    rintro m env σ ⟨n,⟨hn,h0⟩,rfl,rfl⟩;by_cases aU:n<PL.length/16
    ·have lY:F n=xC d.a_ a.vd n (bq PL n):=by rw[<-hF]
     have hue:Dc [d.pv,a.pv,pI n] (pI (F n)):=⟨d,a,n,rfl,⟨h1,lF,by rw[AU];exact avT,by rw[AU];omega,ab⟩,by rw[AU,lY]⟩
     have LU:F n≠0->K (.pv (pI (F n))):=λh=>by
      rw[agf h0 aU h]at hK;exact hK
     have fM:F n=0→∀j,j<n+1->F j=0:=λh j hj=>by
      rcases zc4 (zc5 hj)with h1|h1
      ·exact h0 j h1
      ·rw[h1];exact h
     clear hK hF QL tT lY
     (repeat'((conv=>whnf);first|refine⟨_,hue,?_⟩|refine bj ab ?_|refine au ab ?_|refine de (λ_=>?_) (λ_=>?_)|refine l7 ab ?_|refine ez λ_=>?_|fail))<;>try(conv=>whnf)
     ·rename_i cb;exact⟨.pv (pI _),rfl,trivial,LU cb⟩
     ·rename_i cb;exact⟨m-1,ab,n+1,⟨ab,fM (Decidable.not_not.1 cb)⟩,rfl,rfl⟩
    ·rw[AG.2 λj hj=>h0 j ab]at hK
     (repeat'((conv=>whnf);first|refine aw ab ?_|refine l7 ab ?_|refine ez λ_=>?_|fail))<;>try(conv=>whnf)
     exact aG
   ·have Jq:iW a (az a.rn.l)=0:=by unfold iW;rw[if_pos (QL.2 ⟨arb,λh=>absurd h hc⟩)]
    rw[Jq,if_neg z0,if_neg hc]at hK
    (repeat'((conv=>whnf);first|refine oQ ?_|refine⟨_,Ng,?_⟩|refine⟨_,ayI,?_⟩|refine⟨_,am1,?_⟩|refine bj ab ?_|refine bP ?_|refine aw ab ?_|refine de (λ_=>?_) (λ_=>?_)|refine ez λ_=>?_|fail))<;>try(conv=>whnf)
    all_goals exact aG
  ·have Jq:iW a (az a.rn.l)=3:=by unfold iW;rw[if_neg (λe=>yB (QL.1 e).1)]
   rw[Jq,if_pos ao]at hK;unfold ZQ at yB
   (repeat'((conv=>whnf);first|refine oQ ?_|refine⟨_,Ng,?_⟩|refine⟨_,ayI,?_⟩|refine bj ab ?_|refine au ab ?_|refine aw ab ?_|refine de (λ_=>?_) (λ_=>?_)|refine ez λ_=>?_|fail))<;>try(conv=>whnf)
   all_goals exact aG
def aF1:SK.n=64:=by
 unfold Dk.n SK;rw[aW];rfl
def aJC:wU SK:=by
 refine⟨?_,ao⟩;show(ai (16384:Int).toNat).length<=200000;rw[aW];decide
def aFy:gm SK=0:=by
 unfold gm;rw[aF1,show SK.a_=ai (16384:Int).toNat from rfl,aW,if_neg ao,if_neg ao];show nu (255::ai 7) 64=0;decide+kernel
def ajZ{fl:Int}(h:oT (fU [] fl 1)=0):aK SK (fU [] fl 1)=0:=by
 unfold aK;rw[aFy,h,if_neg aj,if_neg aj];rfl
def aAX:oF SK.mp 64=8:=LM
def aGi:oT (fU [] 0 1)=0:=LM
def aFe:oT (fU [] 2 1)=0:=LM
def as2{l:List Int}:bt l=RF (l.map λx=>decide (x≠ -1)):=by
 unfold bt RF;rw[List.countP_map,List.countP_eq_length_filter];congr 1
def au5{d:Dk}{a:At}{p n:Int}{s:List UInt8}(h0:aK d a=0)(hd:wU d)(hn:a.nm.length<=1000000)(h1:0<=p/\p<=32768)(h2:0<=n/\n<=32768)(hl:s.length=min n.toNat ((aV (ar d a)).length-p.toNat))(hs:∀i,i<s.length->ta (aV (ar d a)) (p.toNat+i)=ta s i):
 oN [d.pv,a.pv,pI p,pI n] (.tup [.pv (.str s),.pv (pI 0)]):=by
 have hr:xN d a p n=0:=by unfold xN;rw[if_neg (λe=>e h0),if_pos ⟨h1,h2⟩]
 have hN:H2 d a p n=s:=by
  unfold H2;rw[if_pos hr];refine Mv (by rw[zal,zax,hl]) λi hi=>?_
  rw[zal,zax]at hi;rw[sC,if_pos ab,Fs,hs i ab]
 exact⟨d,a,p,n,rfl,⟨pR hd,hn⟩,by rw[hr,hN]⟩
structure AwF(D1 D2 D3 D4:Dk)(A1 A2 A3 A4:At)(X:List UInt8):Prop where
 n0:gV [.str [],pI 0,pI 1] (.tup [.pv (fU [] 0 1).pv,.pv (pI 0)])
 w1:fm [SK.pv,(fU [] 0 1).pv,pI 0,.str X] (.tup [.pv D1.pv,.pv A1.pv,.pv (pI 0)])
 a1:A1.al=512/\A1.sz=300/\A1.vd=300
 r1:oN [D1.pv,A1.pv,pI 296,pI 10] (.tup [.pv (.str [120,120,120,120]),.pv (pI 0)])
 s2:ko [D1.pv,A1.pv,pI 600] (.tup [.pv D2.pv,.pv A2.pv,.pv (pI 0)])
 a2:A2.vd=300
 l2:iu [qF A2.rn] (pI 3)
 w3:fm [D2.pv,A2.pv,pI 500,.str [121]] (.tup [.pv D3.pv,.pv A3.pv,.pv (pI 0)])
 a3:A3.vd=501
 r3:oN [D3.pv,A3.pv,pI 298,pI 4] (.tup [.pv (.str [120,120,0,0]),.pv (pI 0)])
 n2:gV [.str [],pI 2,pI 1] (.tup [.pv (fU [] 2 1).pv,.pv (pI 0)])
 w4:fm [SK.pv,(fU [] 2 1).pv,pI 1000,.str [122]] (.tup [.pv D4.pv,.pv A4.pv,.pv (pI 0)])
 a4:A4.al=256/\A4.vd=1001
 l4:iu [qF A4.rn] (pI 4)
 r4:oN [D4.pv,A4.pv,pI 998,pI 9] (.tup [.pv (.str [0,0,122]),.pv (pI 0)])
def asP{X:List UInt8}(hX:X.length=300)(hx:∀i,i<300->ta X i=120):∃(D1 D2 D3 D4:Dk) (A1 A2 A3 A4:At),AwF D1 D2 D3 D4 A1 A2 A3 A4 X:=by
 have o0:=ajZ aGi;have o2:=ajZ aFe;have lK:=aJC;have x3:=aF1;have jF:=aAX;have kp:∀fl,(fU [] fl 1).nm.length<=1000000:=λfl=>Nat.zero_le _
 have hz0:∀fl,cf (fU [] fl 1)=0:=λfl=>rfl
 have Ej:∀fl,cG (fU [] fl 1)=0:=λfl=>rfl
 have azS:∀fl,aV (ar SK (fU [] fl 1))=[]:=λfl=>rfl
 have ayL:X≠[]:=by rintro rfl;cases hX
 have e1:AO SK (fU [] 0 1) 0 X=0:=asl o0 lK (kp 0) ab ab (by rw[hz0];omega) ayL ao ab (by
  unfold Ns;rw[if_neg ao,if_neg ao,hz0,x3,jF];omega)
 have s1:=((Uz o0 lK (kp 0) ab ab ayL).ok e1).1;rw[decide_eq_false (by rintro⟨_,h⟩;rw[hz0]at h;omega),azS,Ej]at s1;have w1:fm [SK.pv,(fU [] 0 1).pv,pI 0,.str X] (.tup [.pv (zM SK (fU [] 0 1) 0 X).pv,.pv (yV SK (fU [] 0 1) 0 X).pv,.pv (pI (AO SK (fU [] 0 1) 0 X))]):=⟨_,_,_,_,rfl,⟨lK,kp 0,ao,ab⟩,rfl⟩
 rw[e1]at w1;generalize zM SK (fU [] 0 1) 0 X=D1 at*;generalize yV SK (fU [] 0 1) 0 X=A1 at*;have c1:=qo s1.op;have l1:(yr [] (0:Int).toNat X).length=300:=by rw[Hq ayL,xx];simp[hX]
 have z1:∀i,ta (aV (ar D1 A1)) i=if i<300 then 120 else 0:=λi=>by
  rw[s1.fN];by_cases h:i<300
  ·rw[if_pos h,Hq ayL,Py,if_pos aH];exact hx i h
  ·rw[if_neg h,Sq ab]
 have f1:A1.fl=0:=s1.fl;have g1:=xV c1;rw[s1.fN,l1]at g1;have mL:cf A1=A1.sz:=by unfold cf;rw[s1.rs];rfl
 have qR:cG A1=A1.vd:=by unfold cG;rw[s1.rs];rfl
 have v1:=s1.vd s1.rs;obtain⟨p1,p2,p3,p4⟩:=OC s1.op s1.rs (by rw[f1];decide);have p3:=p3 (by rw[f1];decide);obtain⟨k1,k2,k3,k4,k5⟩:=xT s1 lK;have n1:D1.n=64:=by unfold Dk.n at x3 ⊢;rw[<-s1.su.1.1];exact x3
 have m1:=an0 s1.su s1.op;rw[x3,jF]at m1;have AT:A1.nm.length<=1000000:=by rw[s1.nm];exact kp 0
 have e2:Jb D1 A1 600=0:=aGj s1.op k2 AT ab (by rw[f1];decide) ab (by
  unfold Ns;rw[f1,if_neg ao,if_neg ao,n1];omega)
 have s2:=((af3 s1.op k2 AT (show(0:Int)<=600/\(600:Int)<=32768 by omega)).ok e2).1;rw[decide_eq_false (by rintro⟨h,_⟩;rw[s1.rs]at h;cases h)]at s2;have w2:ko [D1.pv,A1.pv,pI 600] (.tup [.pv (Jf D1 A1 600).pv,.pv (LA D1 A1 600).pv,.pv (pI (Jb D1 A1 600))]):=⟨_,_,_,rfl,⟨k2,AT⟩,rfl⟩
 rw[e2]at w2;generalize Jf D1 A1 600=D2 at*;generalize LA D1 A1 600=A2 at*;have c2:=qo s2.op;have l2:(aV (ar D2 A2)).length=600:=by rw[s2.fN,Ag];rfl
 have f2:A2.fl=0:=by rw[s2.fl,f1]
 have g2:=xV c2;have eJ:cf A2=A2.sz:=by unfold cf;rw[s2.rs];rfl
 have Oh:cG A2=A2.vd:=by unfold cG;rw[s2.rs];rfl
 have v2:=s2.vd s2.rs;obtain⟨q1,q2,q3,q4⟩:=OC s2.op s2.rs (by rw[f2];decide);have q3:=q3 (by rw[f2];decide);obtain⟨k1',NJ,k3',k4',k5'⟩:=xT s2 k2;have n2:D2.n=64:=by unfold Dk.n at n1 ⊢;rw[<-s2.su.1.1];exact n1
 have m2:=an0 s2.su s2.op;rw[n1]at m2;have nm2:A2.nm.length<=1000000:=by rw[s2.nm];exact AT
 have e3:AO D2 A2 500 [121]=0:=asl s2.op NJ nm2 ab aj ab aj (by rw[f2];decide) ab (by
  unfold Ns;rw[f2,if_neg ao,if_neg ao,n2];simp only[zbS];omega)
 have s3:=((Uz s2.op NJ nm2 (show(0:Int)<=500 by omega) (show(500:Int)+([121]:List UInt8).length<=32768 by simp) aj).ok e3).1;rw[decide_eq_false (by rintro⟨h,_⟩;rw[s2.rs]at h;cases h)]at s3;have w3:fm [D2.pv,A2.pv,pI 500,.str [121]] (.tup [.pv (zM D2 A2 500 [121]).pv,.pv (yV D2 A2 500 [121]).pv,.pv (pI (AO D2 A2 500 [121]))]):=⟨_,_,_,_,rfl,⟨NJ,nm2,k5',aj⟩,rfl⟩
 rw[e3]at w3;generalize zM D2 A2 500 [121]=D3 at*;generalize yV D2 A2 500 [121]=A3 at*;have v3:=s3.vd s3.rs;obtain⟨_,k23,_,_,_⟩:=xT s3 NJ;have nm3:A3.nm.length<=1000000:=by rw[s3.nm];exact nm2
 have l3:(aV (ar D3 A3)).length=600:=by
  rw[s3.fN,Hq aj,xx,l2];rfl
 have z3:∀i,i<500->ta (aV (ar D3 A3)) i=if i<300 then 120 else 0:=λi hi=>by
  rw[s3.fN,Hq aj,Py,if_neg (by rw[show(500:Int).toNat=500 from rfl];omega),s2.fN,Uv,if_pos (by rw[show(600:Int).toNat=600 from rfl];omega),z1]
 have Y3:nJ (fU [] 2 1) 1000 (1000+(([122]:List UInt8).length:Nat)) (max (cf (fU [] 2 1)) (1000+(([122]:List UInt8).length:Nat)))=[false,false,false,true]:=LM;have e4:AO SK (fU [] 2 1) 1000 [122]=0:=asl o2 lK (kp 2) ab aj (by rw[hz0];omega) aj ao ab (by
  unfold Ns;rw[if_neg ao,if_pos ao,x3,jF,Y3];decide)
 have s4:=(Uz o2 lK (kp 2) (show(0:Int)<=1000 by omega) (show(1000:Int)+([122]:List UInt8).length<=32768 by simp) aj).ok e4;have uC:¬((fU [] 2 1).rs=true/\max (cf (fU [] 2 1)) (1000+(([122]:List UInt8).length:Nat))<=200):=ao;have t4:=s4.2 uC ao;have s4:=s4.1;rw[Y3]at t4;rw[decide_eq_false uC,azS,Ej]at s4;have w4:fm [SK.pv,(fU [] 2 1).pv,pI 1000,.str [122]] (.tup [.pv (zM SK (fU [] 2 1) 1000 [122]).pv,.pv (yV SK (fU [] 2 1) 1000 [122]).pv,.pv (pI (AO SK (fU [] 2 1) 1000 [122]))]):=⟨_,_,_,_,rfl,⟨lK,kp 2,ao,aj⟩,rfl⟩
 rw[e4]at w4;generalize zM SK (fU [] 2 1) 1000 [122]=D4 at*;generalize yV SK (fU [] 2 1) 1000 [122]=A4 at*;have v4:=s4.vd s4.rs;have f4:A4.fl=2:=s4.fl;obtain⟨r1,r2,_,r4⟩:=OC s4.op s4.rs (by rw[f4];decide);have hu4:bt (az A4.rn.l)=1:=by rw[as2,t4];rfl
 have hl4:(az A4.rn.l).length=4:=by
  have:=congrArg List.length t4;rw[zav]at this;exact this
 obtain⟨_,k24,_,_,_⟩:=xT s4 lK;have nm4:A4.nm.length<=1000000:=by rw[s4.nm];exact kp 2
 have l4:(aV (ar D4 A4)).length=1001:=by
  rw[s4.fN,Hq aj,xx];rfl
 have z4:∀i,ta (aV (ar D4 A4)) i=if i=1000 then 122 else 0:=λi=>by
  rw[s4.fN,Hq aj,Py,show(1000:Int).toNat=1000 from rfl,zbS];by_cases h:i=1000
  ·subst h;rfl
  ·rw[if_neg ab,if_neg h];rfl
 have LD:gV [.str [],pI 2,pI 1] (.tup [.pv (fU [] 2 1).pv,.pv (pI 0)]):=⟨[],2,1,rfl,ao,by rw[aFe,if_pos rfl]⟩
 have aLm:gV [.str [],pI 0,pI 1] (.tup [.pv (fU [] 0 1).pv,.pv (pI 0)]):=⟨[],0,1,rfl,ao,by rw[aGi,if_pos rfl]⟩
 have aLn:bI A2.rn.l=3:=ab;have aLo:bI A4.rn.l=4:=ab;refine⟨D1,D2,D3,D4,A1,A2,A3,A4,aLm,w1,?_,?_,w2,?_,?_,w3,?_,?_,LD,w4,?_,?_,?_⟩
 ·omega
 ·refine au5 s1.op k2 AT ab ab ?_ λi hi=>?_
  ·rw[s1.fN,l1];rfl
  ·rw[z1,show(296:Int).toNat=296 from rfl];have:i<4:=hi;obtain rfl|rfl|rfl|rfl:i=0\/i=1\/i=2\/i=3:=ab;all_goals rfl
 ·omega
 ·exact⟨A2.rn,rfl,anc s2.op,by rw[aLn]⟩
 ·simp only[zbS]at v3;omega
 ·refine au5 s3.op k23 nm3 ab ab ?_ λi hi=>?_
  ·rw[l3];rfl
  ·have:i<4:=hi;rw[show(298:Int).toNat=298 from rfl,z3 _ ab];obtain rfl|rfl|rfl|rfl:i=0\/i=1\/i=2\/i=3:=ab;all_goals rfl
 ·simp only[zbS]at v4;omega
 ·exact⟨A4.rn,rfl,anc s4.op,by rw[aLo]⟩
 ·refine au5 s4.op k24 nm4 ab ab ?_ λi hi=>?_
  ·rw[l4];rfl
  ·rw[z4,show(998:Int).toNat=998 from rfl];have:i<3:=hi;obtain rfl|rfl|rfl:i=0\/i=1\/i=2:=ab;all_goals rfl
def Xg(a b:At):Prop:=∃x∈tV (az a.rn.l),x∈tV (az b.rn.l)
def NU{a b:At}(ha:∀x∈az a.rn.l,-1<=x):¬Xg a b↔apS a b:=by
 unfold Xg apS;constructor
 ·intro h c h1 h2;exact h ⟨c,Dl.2 h1,Dl.2 h2⟩
 ·rintro h ⟨x,h1,h2⟩;have hm:=atd.1 h1;have hx:0<=x:=by have:=ha x hm.1;have:=hm.2;omega
  obtain⟨k,rfl⟩:∃k:Nat,x=k:=⟨x.toNat,ab⟩
  exact h k (Dl.1 h1) (Dl.1 h2)
def x7(ps:List PV)(p:Prop):Prop:=∃a b:At,ps=[a.pv,b.pv]/\(dU a.rn.l=0/\dU b.rn.l=0)/\p=Xg a b
def JT:MT (ay [(16,c8 false QH),(44,bF YX)]) Bl (bF x7):=by
 rintro _ K ⟨_,⟨a,b,rfl,⟨h1,h2⟩,rfl⟩,hK⟩;have hA:QH [a.pv] _:=⟨a,rfl,h1,rfl⟩
 have hB:QH [b.pv] _:=⟨b,rfl,h2,rfl⟩
 have la:=Lc (az a.rn.l);have lb:=Lc (az b.rn.l);have UB:=(ED h1).1;have C3:=(ED h2).1;have hua:bt (az a.rn.l)<=(az a.rn.l).length:=zdl _ _;have hub:bt (az b.rn.l)<=(az b.rn.l).length:=zdl _ _;have hxa:(tV (az a.rn.l)).length<=1000000:=ab;have Xu:(tV (az b.rn.l)).length<=1000000:=ab;unfold Xg at hK;clear la lb UB C3 hua hub h1 h2;generalize tV (az a.rn.l)=X at*;generalize tV (az b.rn.l)=Y at*;have gJ:(X.map pI).length=X.length:=zav _
 (repeat'((conv=>whnf);first|refine⟨_,hA,?_⟩|refine⟨_,hB,?_⟩|refine bT ?_|fail))<;>try(conv=>whnf)
 refine⟨λm env σ=>∃n:Nat,(n+m=X.length∧∀j,j<n→∀y,X[j]?=some y→¬y∈Y)/\σ=[]/\env=[(5,.pv (rI X)),(6,.pv (rI Y)),eN 7 n],X.length,⟨0,⟨ab,λj hj=>ab⟩,rfl,rfl⟩,?_⟩;rintro m env σ ⟨n,⟨hn,h0⟩,rfl,rfl⟩
 (repeat'((conv=>whnf);first|refine⟨_,⟨Y,_,rfl,Xu,rfl⟩,?_⟩|refine bj ab ?_|refine de (λ_=>?_) (λ_=>?_)|refine ez λ_=>?_|refine aii ab (λ_ _=>?_)|fail))<;>try(conv=>whnf)
 ·rename_i x hx h;exact⟨.pv (.bool _),rfl,trivial,YES hK ⟨x,zag hx,h⟩⟩
 ·rename_i x hx h;exact⟨m-1,ab,n+1,⟨ab,aa7 (P:=λy=>y∈Y) h0 hx h⟩,rfl,rfl⟩
 ·refine⟨.pv (.bool _),rfl,trivial,NO hK ?_⟩;rintro⟨x,hx,hy⟩;obtain⟨k,hk⟩:=jk.1 hx;exact h0 k vg x hk hy
def T0(ps:List PV)(r:RV):Prop:=∃(d:Dk) (a:At) (s:List UInt8) (w k p n:Int) (aa:List UInt8),ps=[d.pv,a.pv,.str s,.agg [pI w,pI k,pI p,pI n,.str aa]]/\(wU d/\d.mp.length<=100000/\a.nm.length<=1000000/\a.rn.l.length<=1000000/\s.length<=40000/\aa.length<=3000)/\
 r=.tup [.pv (Sm d a (k%4) (p%9000) (n%9000) (p%4096) aa).pv,.pv (R2 d a (k%4) (p%9000) (n%9000) (p%4096) aa).pv,.pv (.str (Sr d a s (k%4) (p%9000) (n%9000) (p%4096) aa))]
set_option maxHeartbeats 4000000 in
def B1:MT (ay [(12,ah nW),(10,c8 false dK),(33,c8 false fm),(50,ah Mi),(51,c8 false ko),(52,ah AI),(53,c8 false Ss),(54,ah Hg),(7,ah bA),(55,c8 true CY),(56,c8 false W9)]) vE (c8 false T0):=by
 rintro _ K ⟨_,⟨d,a,s,w,k,p,n,aa,rfl,⟨h1,h2,h3,h4,h5,h6⟩,rfl⟩,hK⟩;have mY:nW [pI p,pI 9000] (pI (p%9000)):=⟨p,9000,rfl,ab,rfl⟩
 have sL:nW [pI n,pI 9000] (pI (n%9000)):=⟨n,9000,rfl,ab,rfl⟩
 have hm3:nW [pI k,pI 4] (pI (k%4)):=⟨k,4,rfl,ab,rfl⟩
 have hm4:nW [pI p,pI 4096] (pI (p%4096)):=⟨p,4096,rfl,ab,rfl⟩
 have E4:0<=k%4/\k%4<4:=ab;have hp9:0<=p%9000/\p%9000<9000:=ab;have hn9:0<=n%9000/\n%9000<9000:=ab;have Aw:dK [a.pv] (.pv (aB a).pv):=⟨a,rfl,h4,rfl⟩
 have mE:bA [d.pv] (pI d.n):=⟨d,rfl,(pR h1).1,rfl⟩
 generalize p%9000=P at*;generalize n%9000=N at*;generalize p%4096=Q at*;generalize k%4=k4 at*;by_cases k0:k4=0
 ·subst k0;have hw:fm [d.pv,(aB a).pv,pI P,.str aa] _:=⟨d,aB a,P,aa,rfl,⟨h1,h3,h4,ab⟩,rfl⟩
  have hr:Mi [.str s,pI P,.str aa] _:=⟨s,P,aa,rfl,ab,rfl⟩
  simp only[Sm,R2,Sr,Ri,if_true]at hK;generalize AO d (aB a) P aa=E at*;generalize zM d (aB a) P aa=D at*;generalize yV d (aB a) P aa=A at*;generalize yr s P.toNat aa=C at*
  (repeat'((conv=>whnf);first|refine⟨_,mY,?_⟩|refine⟨_,sL,?_⟩|refine⟨_,hm3,?_⟩|refine⟨_,Aw,?_⟩|refine⟨_,hw,?_⟩|refine⟨_,hr,?_⟩|refine au rfl ?_|refine de (λ_=>?_) (λ_=>?_)|refine bT ?_|fail))<;>try(conv=>whnf)
  ·rename_i x;rw[if_pos x,if_pos x,if_pos x]at hK;exact⟨[.pv d.pv,.pv a.pv,.pv (.str s)],⟨rfl,rfl,rfl,trivial⟩,trivial,hK⟩
  ·rename_i x;rw[if_neg x,if_neg x,if_neg x]at hK;exact⟨[.pv D.pv,.pv A.pv,.pv (.str C)],⟨rfl,rfl,rfl,trivial⟩,trivial,hK⟩
 by_cases k1:k4=1
 ·subst k1;have hw:ko [d.pv,(aB a).pv,pI N] _:=⟨d,aB a,N,rfl,⟨h1,h3⟩,rfl⟩
  have hr:AI [.str s,pI N] _:=⟨s,N,rfl,ab,rfl⟩
  simp only[Sm,R2,Sr,Ri,if_neg k0,if_true]at hK;generalize Jb d (aB a) N=E at*;generalize Jf d (aB a) N=D at*;generalize LA d (aB a) N=A at*;generalize M9 s N.toNat=C at*
  (repeat'((conv=>whnf);first|refine⟨_,mY,?_⟩|refine⟨_,sL,?_⟩|refine⟨_,hm3,?_⟩|refine⟨_,Aw,?_⟩|refine⟨_,hw,?_⟩|refine⟨_,hr,?_⟩|refine aw k0 ?_|refine au rfl ?_|refine de (λ_=>?_) (λ_=>?_)|refine bT ?_|fail))<;>try(conv=>whnf)
  ·rename_i x;rw[if_pos x,if_pos x,if_pos x]at hK;exact⟨[.pv d.pv,.pv a.pv,.pv (.str s)],⟨rfl,rfl,rfl,trivial⟩,trivial,hK⟩
  ·rename_i x;rw[if_neg x,if_neg x,if_neg x]at hK;exact⟨[.pv D.pv,.pv A.pv,.pv (.str C)],⟨rfl,rfl,rfl,trivial⟩,trivial,hK⟩
 by_cases k2:k4=2
 ·subst k2;have hw:Ss [d.pv,(aB a).pv,pI P,pI N] _:=⟨d,aB a,P,N,rfl,⟨h1,h3⟩,rfl⟩
  have hr:Hg [.str s,pI P,pI N] _:=⟨s,P,N,rfl,ab,rfl⟩
  simp only[Sm,R2,Sr,Ri,if_neg k0,if_neg k1,if_true]at hK;generalize jm d (aB a) P N=E at*;generalize jU d (aB a) P N=D at*;generalize js d (aB a) P N=A at*;generalize PY s P N=C at*
  (repeat'((conv=>whnf);first|refine⟨_,mY,?_⟩|refine⟨_,sL,?_⟩|refine⟨_,hm3,?_⟩|refine⟨_,Aw,?_⟩|refine⟨_,hw,?_⟩|refine⟨_,hr,?_⟩|refine aw k0 ?_|refine aw k1 ?_|refine au rfl ?_|refine de (λ_=>?_) (λ_=>?_)|refine bT ?_|fail))<;>try(conv=>whnf)
  ·rename_i x;rw[if_pos x,if_pos x,if_pos x]at hK;exact⟨[.pv d.pv,.pv a.pv,.pv (.str s)],⟨rfl,rfl,rfl,trivial⟩,trivial,hK⟩
  ·rename_i x;rw[if_neg x,if_neg x,if_neg x]at hK;exact⟨[.pv D.pv,.pv A.pv,.pv (.str C)],⟨rfl,rfl,rfl,trivial⟩,trivial,hK⟩
 have k3:k4=3:=ab;have hnf:CY [.str d.mp,pI d.n,.agg [pI (1+N%3),pI Q]] _:=⟨d.mp,d.n,1+N%3,Q,rfl,h2,rfl⟩
 simp only[Sm,R2,Sr,Ri,if_neg k0,if_neg k1,if_neg k2]at hK;generalize HA d.mp d.n (1+N%3) Q=kk at*;by_cases hf:Ml d.mp d.n (1+N%3) Q=0
 ·simp only[if_pos hf]at hK;rw[hf]at hnf;have hw:W9 [d.pv,(aB a).pv,pI (P%20),.agg [pI kk,pI (1+N%3)]] _:=⟨d,aB a,P%20,⟨kk,1+N%3⟩,rfl,⟨h1,h3⟩,rfl⟩
  generalize dJ d (aB a) (P%20) ⟨kk,1+N%3⟩=E at*;generalize jM d (aB a) (P%20) ⟨kk,1+N%3⟩=D at*;generalize jG d (aB a) (P%20) ⟨kk,1+N%3⟩=A at*;obtain⟨C,hC⟩:∃C,C=s:=⟨_,rfl⟩
  (repeat'((conv=>whnf);first|refine⟨_,mY,?_⟩|refine⟨_,sL,?_⟩|refine⟨_,hm3,?_⟩|refine⟨_,hm4,?_⟩|refine⟨_,mE,?_⟩|refine⟨_,hnf,?_⟩|refine⟨_,Aw,?_⟩|refine⟨_,hw,?_⟩|refine aw k0 ?_|refine aw k1 ?_|refine aw k2 ?_|refine au k3 ?_|refine au rfl ?_|refine bj ab ?_|refine de (λ_=>?_) (λ_=>?_)|refine lW ab ?_|refine bT ?_|fail))<;>try(conv=>whnf)
  ·rename_i x;rw[if_pos x,if_pos x]at hK;simp only[ite_self]at hK;exact⟨[.pv d.pv,.pv a.pv,.pv (.str s)],⟨rfl,rfl,rfl,trivial⟩,trivial,hK⟩
  ·rename_i x;rw[if_neg x,if_neg x]at hK;simp only[ite_self]at hK;exact⟨[.pv D.pv,.pv A.pv,.pv (.str s)],⟨rfl,rfl,rfl,trivial⟩,trivial,hK⟩
 ·simp only[if_neg hf]at hK;generalize Ml d.mp d.n (1+N%3) Q=E at*
  (repeat'((conv=>whnf);first|refine⟨_,mY,?_⟩|refine⟨_,sL,?_⟩|refine⟨_,hm3,?_⟩|refine⟨_,hm4,?_⟩|refine⟨_,mE,?_⟩|refine⟨_,hnf,?_⟩|refine aw k0 ?_|refine aw k1 ?_|refine aw k2 ?_|refine au k3 ?_|refine aw hf ?_|refine bj ab ?_|refine au ab ?_|refine lW ab ?_|refine bT ?_|fail))<;>try(conv=>whnf)
  simp only[ne_eq,Int.reduceEq,not_false_eq_true,if_true]at hK;exact⟨[.pv d.pv,.pv a.pv,.pv (.str s)],⟨rfl,rfl,rfl,trivial⟩,trivial,hK⟩
set_option maxHeartbeats 2000000 in
def Al:MT (ay [(32,c8 false gV),(34,c8 false agU),(33,c8 false fm),(35,c8 true oN)]) sJ (ah CM):=by
 rintro _ K ⟨_,⟨rfl,rfl⟩,hK⟩;obtain⟨X,hX⟩:∃X:List UInt8,X=List.replicate 300 120:=⟨_,rfl⟩
 have hl:X.length=300:=by rw[hX,List.length_replicate]
 have hx:∀i,i<300->ta X i=120:=λi hi=>by
  unfold ta;rw[hX,List.getElem?_replicate,if_pos hi];rfl
 obtain⟨D1,D2,D3,D4,A1,A2,A3,A4,F⟩:=asP hl hx;clear hX hx;have lO:agU [] (.pv SK.pv):=⟨rfl,rfl⟩
 obtain⟨Y,hY⟩:∃Y,Y=SK:=⟨_,rfl⟩
 have hw4:=F.w4;rw[<-hY]at lO hw4;clear hY;obtain⟨p4,p5⟩:=F.a4
 (repeat'((conv=>whnf);first|refine⟨_,lO,?_⟩|refine⟨_,F.n2,?_⟩|refine⟨_,hw4,?_⟩|refine⟨_,F.r4,?_⟩|refine au rfl ?_|refine au ab ?_|refine bT ?_|fail))<;>try(conv=>whnf)
 exact aI
structure Qn where
 w:Int
 k:Int
 p:Int
 n:Int
 aa:List UInt8
def Qn.pv(s:Qn):PV:=.agg [pI s.w,pI s.k,pI s.p,pI s.n,.str s.aa]
structure Fv(d0:Dk)(a0 b0:At)(d:Dk)(x y:At):Prop where
 tw:NG d x y
 n:d.n=d0.n
 gy:oF d.mp d0.n+bt (az a0.rn.l)+bt (az b0.rn.l)=oF d0.mp d0.n+bt (az x.rn.l)+bt (az y.rn.l)
def Fv.aaD{d0 d e:Dk}{a0 b0 x y x':At}{C:List UInt8}(h:Fv d0 a0 b0 d x y)(s:As d x e x' C):Fv d0 a0 b0 e x' y/\aV (ar e y)=aV (ar d y)/\adv d e x x'∧¬Xg x' y:=by
 obtain⟨h1,h2,h3,h4⟩:=h.tw.step s;have h5:=h.gy;have h6:=h.n;rw[h6]at h4;refine⟨⟨h1,h3.trans h6,ab⟩,h2,s.su,?_⟩;rw[NU λz hz=>((ED (bc s.op).1.rn).2 z hz).1];exact h1.ap
def Fv.abd{d0 d e:Dk}{a0 b0 x y y':At}{C:List UInt8}(h:Fv d0 a0 b0 d x y)(s:As d y e y' C):Fv d0 a0 b0 e x y'/\aV (ar e x)=aV (ar d x)/\adv d e y y'∧¬Xg x y':=by
 obtain⟨h1,h2,h3,h4⟩:=h.tw.symm.step s;have h5:=h.gy;have h6:=h.n;rw[h6]at h4;refine⟨⟨h1.symm,h3.trans h6,ab⟩,h2,s.su,?_⟩;rw[NU λz hz=>((ED (bc h1.symm.a0).1.rn).2 z hz).1];exact h1.symm.ap
def PI(ps:List PV)(x:PV):Prop:=∃(d:Dk) (l:List At) (st:List Qn),ps=[d.pv,.sl 11 (l.map At.pv),.sl 5 (st.map Qn.pv)]/\d.a_.length<=9223372036854775807/\x=pB true
def Re{α:Type}{l:List α}{P:α->Prop}{n:Nat}{x:α}(h0:∀j,j<n→∀y,l[j]?=some y→¬P y)(hx:l[n]?=some x)(cb:¬P x):∀j,j<n+1→∀y,l[j]?=some y→¬P y:=by
 intro j hj y hy;rcases zc4 (zc5 hj)with h1|h1
 ·exact h0 j h1 y hy
 ·subst h1;rw[hx]at hy;cases hy;exact cb
def WI{d:Dk}{a:At}(h:aK d a=0):a.nm.length<=1000000:=by
 obtain⟨ok,_⟩:=bc h;obtain⟨s1,_⟩:=lE ok.str;have:=(AD s1).DL;omega
def Q8{d:Dk}(h:gm d=0):d.n<=8*d.mp.length:=by
 obtain⟨_,_,q3⟩:=rX h;obtain⟨_,_,b3,b4,_⟩:=iR q3;omega
set_option maxHeartbeats 16000000 in
def ME:MT (ay [(5,ah CM),(6,ah Av),(7,ah OI),(8,ah yn),(9,bF x7),(10,c8 false dK),(11,ah dj),(12,ah nW),(13,c8 false T0),(14,bF aa8),(15,ah DO),(16,c8 false QH),(17,c8 false WZ)]) rC (ah PI):=by
 rintro _ K ⟨_,⟨d,l,st,rfl,mW,rfl⟩,hK⟩;have lD:CM [] (pB true):=⟨rfl,rfl⟩
 have hdW:Av [d.pv] (pI (gm d)):=⟨d,rfl,mW,rfl⟩
 have u4:OI [d.pv] (pI d.n):=⟨d,rfl,mW,rfl⟩
 have gJ:(l.map At.pv).length=l.length:=zav _;have SE:(st.map Qn.pv).length=st.length:=zav _;by_cases hl:∃a b,l=[a,b]
 case neg=>
  have cH:¬(l.length:Int)=2:=λh=>hl (by
   match l,h with
   |[a,b],_=>exact⟨a,b,rfl⟩
   |[],h=>simp at h
   |[a],h=>simp at h
   |a::b::c::l,h=>simp at h;omega)
  (repeat'((conv=>whnf);first|refine⟨_,lD,?_⟩|refine au (by rw[gJ];exact cH) ?_|refine aN ?_|refine bT ?_|fail))<;>try(conv=>whnf)
  exact aI
 obtain⟨a,b,rfl⟩:=hl;have heA:yn [d.pv,a.pv] (pI (aK d a)):=⟨d,a,rfl,mW,rfl⟩
 have heB:yn [d.pv,b.pv] (pI (aK d b)):=⟨d,b,rfl,mW,rfl⟩
 by_cases fM:st.length<=10
 case neg=>
  (repeat'((conv=>whnf);first|refine⟨_,lD,?_⟩|refine aw (λh=>h rfl) ?_|refine aN ?_|refine au ab ?_|refine bT ?_|fail))<;>try(conv=>whnf)
  exact aI
 by_cases hd:gm d=0
 case neg=>
  (repeat'((conv=>whnf);first|refine⟨_,lD,?_⟩|refine aw (λh=>h rfl) ?_|refine⟨_,hdW,?_⟩|refine au hd ?_|refine aN ?_|refine aw ab ?_|refine bT ?_|fail))<;>try(conv=>whnf)
  exact aI
 by_cases ha:aK d a=0
 case neg=>
  (repeat'((conv=>whnf);first|refine⟨_,lD,?_⟩|refine aw (λh=>h rfl) ?_|refine⟨_,hdW,?_⟩|refine aw (λh=>h hd) ?_|refine⟨_,u4,?_⟩|refine⟨_,⟨ao,rfl⟩,?_⟩|refine⟨_,heA,?_⟩|refine au ha ?_|refine aN ?_|refine aw ab ?_|refine de (λ_=>?_) (λ_=>?_)|refine bT ?_|fail))<;>try(conv=>whnf)
  all_goals exact aI
 by_cases hb:aK d b=0
 case neg=>
  (repeat'((conv=>whnf);first|refine⟨_,lD,?_⟩|refine aw (λh=>h rfl) ?_|refine⟨_,hdW,?_⟩|refine aw (λh=>h hd) ?_|refine⟨_,u4,?_⟩|refine⟨_,⟨ao,rfl⟩,?_⟩|refine⟨_,heA,?_⟩|refine aw (λh=>h ha) ?_|refine⟨_,heB,?_⟩|refine au hb ?_|refine aN ?_|refine aw ab ?_|refine de (λ_=>?_) (λ_=>?_)|refine bT ?_|fail))<;>try(conv=>whnf)
  all_goals exact aI
 have ra:=(bc ha).1.rn;have rb:=(bc hb).1.rn;have yB:x7 [a.pv,b.pv] (Xg a b):=⟨a,b,rfl,⟨ra,rb⟩,rfl⟩
 by_cases hs:Xg a b
 case pos=>
  (repeat'((conv=>whnf);first|refine⟨_,lD,?_⟩|refine aw (λh=>h rfl) ?_|refine⟨_,hdW,?_⟩|refine aw (λh=>h hd) ?_|refine⟨_,u4,?_⟩|refine⟨_,⟨ao,rfl⟩,?_⟩|refine⟨_,heA,?_⟩|refine aw (λh=>h ha) ?_|refine⟨_,heB,?_⟩|refine aw (λh=>h hb) ?_|refine⟨_,yB,?_⟩|refine au hs ?_|refine aN ?_|refine aw ab ?_|refine de (λ_=>?_) (λ_=>?_)|refine bT ?_|fail))<;>try(conv=>whnf)
  all_goals exact aI
 by_cases hn:d.n<=140
 case neg=>
  (repeat'((conv=>whnf);first|refine⟨_,lD,?_⟩|refine aw (λh=>h rfl) ?_|refine⟨_,hdW,?_⟩|refine aw (λh=>h hd) ?_|refine⟨_,u4,?_⟩|refine aN ?_|refine au ab ?_|refine aw ab ?_|refine bT ?_|fail))<;>try(conv=>whnf)
  all_goals exact aI
 (repeat'((conv=>whnf);first|refine⟨_,lD,?_⟩|refine aw (λh=>h rfl) ?_|refine⟨_,hdW,?_⟩|refine aw (λh=>h hd) ?_|refine⟨_,u4,?_⟩|refine⟨_,⟨ao,rfl⟩,?_⟩|refine⟨_,heA,?_⟩|refine aw (λh=>h ha) ?_|refine⟨_,heB,?_⟩|refine aw (λh=>h hb) ?_|refine⟨_,yB,?_⟩|refine aw hs ?_|refine aN ?_|refine aw ab ?_|refine bT ?_|fail))<;>try(conv=>whnf)
 refine⟨λm env σ=>∃n:Nat,(n+m=st.length∧∀j,j<n→∀y,st[j]?=some y→¬3000<y.aa.length)/\σ=[.box 23 [.pv (.str d.a_),.pv (.str d.mp)]]/\env=[(1,.pv (.sl 11 [a.pv,b.pv])),(2,.pv (.sl 5 (st.map Qn.pv))),(3,.ref 0 0 0),eN 7 n],st.length,⟨0,⟨ab,λj hj=>ab⟩,rfl,rfl⟩,?_⟩;rintro m env σ ⟨n,⟨kp,ace⟩,rfl,rfl⟩;by_cases aU:n<st.length
 case pos=>
  obtain⟨x,hx⟩:∃x,st[n]?=some x:=⟨_,zah aU⟩
  (repeat'((conv=>whnf);first|refine bj ab ?_|refine au ab ?_|refine de (λ_=>?_) (λ_=>?_)|refine ez λ_=>?_|refine iY aA ?_|fail))<;>try(conv=>whnf)
  ·exact aI
  ·rename_i h;exact⟨m-1,ab,n+1,⟨ab,Re ace hx ab⟩,rfl,rfl⟩
 have aho:∀(j:Nat) (s:Qn),st[j]?=some s->s.aa.length<=3000:=λj s hj=>by
  have:=ace j (by have:=eT hj;omega) s hj;omega
 clear ace hdW u4 heA heB yB;have D_:=L0 hd;have Cd:a.nm.length<=1000000:=WI ha;have kr:b.nm.length<=1000000:=WI hb;have UB:=(bZ ra).1;have C3:=(bZ rb).1;have Mq:dK [a.pv] (.pv (aB a).pv):=⟨a,rfl,ab,rfl⟩
 have hcb:dK [b.pv] (.pv (aB b).pv):=⟨b,rfl,ab,rfl⟩
 have hCa:dj [d.pv,a.pv] (.str (aV (ar d a))):=⟨d,a,rfl,⟨pR D_,ha⟩,rfl⟩
 have hCb:dj [d.pv,b.pv] (.str (aV (ar d b))):=⟨d,b,rfl,⟨pR D_,hb⟩,rfl⟩
 have hinv:Fv d a b d (aB a) (aB b):=by
  refine⟨⟨D_,by rw[kU];exact ha,by rw[kU];exact hb,Cd,kr,λc h1 h2=>?_⟩,rfl,by rw[I9,I9]⟩;rw[I9]at h1 h2;exact(NU λz hz=>((ED ra).2 z hz).1).1 hs c h1 h2
 (repeat'((conv=>whnf);first|refine⟨_,Mq,?_⟩|refine⟨_,hcb,?_⟩|refine⟨_,hCa,?_⟩|refine⟨_,hCb,?_⟩|refine⟨_,⟨ao,rfl⟩,?_⟩|refine aw ab ?_|refine ez λ_=>?_|refine bT ?_|fail))<;>try(conv=>whnf)
 refine⟨λm env σ=>∃(n:Nat) (e:Dk) (x y:At) (X Y:List UInt8),(n+m=st.length/\Fv d a b e x y/\aV (ar e x)=X/\aV (ar e y)=Y)/\σ=[.box 23 [.pv (.str e.a_),.pv (.str e.mp)],.box 23 [.pv (.str d.a_),.pv (.str d.mp)],.row 31 11 true [x.pv,y.pv],.row 9 1 true [.str X,.str Y]]/\
  env=[(1,.pv (.sl 11 [a.pv,b.pv])),(2,.pv (.sl 5 (st.map Qn.pv))),(3,.ref 0 0 0),(8,.ref 1 0 0),(9,.own 2),(10,.own 3),eN 11 n],st.length,⟨0,d,aB a,aB b,_,_,⟨ab,hinv,Hm d a,Hm d b⟩,rfl,rfl⟩,?_⟩
 clear hinv Mq hcb hCa hCb aU kp m n;rintro m env σ ⟨n,e,x,y,X,Y,⟨kp,hi,hX,hY⟩,rfl,rfl⟩;have ox:=(bc hi.tw.a0).1;have oy:=(bc hi.tw.b0).1;have V8:=hi.tw.sd;have Rf:e.mp.length<=100000:=by
  obtain⟨_,_,b3,b4,_⟩:=iR ox.bm;have:=ox.nb;have:=V8.1;unfold sx at b4;omega
 have hlx:=(bZ ox.rn).1;have hly:=(bZ oy.rn).1;have hXl:X.length<=40000:=by have:=(qo hi.tw.a0).len;rw[hX]at this;omega
 have hYl:Y.length<=40000:=by have:=(qo hi.tw.b0).len;rw[hY]at this;omega
 by_cases aU:n<st.length
 case pos=>
  obtain⟨s,hx⟩:∃x,st[n]?=some x:=⟨_,zah aU⟩
  have WW:=aho n s hx;have hp9:0<=s.p%9000/\s.p%9000<9000:=ab;have hn9:0<=s.n%9000/\s.n%9000<9000:=ab;have WT:s.w%2=0\/s.w%2=1:=ab;rcases WT with hw|hw
  ·have PA:nW [pI s.w,pI 2] (pI 0):=⟨s.w,2,rfl,ab,by rw[hw]⟩
   have kv:T0 [e.pv,x.pv,.str X,s.pv] _:=⟨e,x,X,s.w,s.k,s.p,s.n,s.aa,rfl,⟨V8,Rf,hi.tw.an,ab,hXl,WW⟩,rfl⟩
   have fM:=Wr (k:=s.k%4) (q:=s.p%4096) hi.tw.a0 V8 hi.tw.an hp9 hn9 WW;rw[hX]at fM;obtain⟨g1,g2,g3,g4⟩:=hi.aaD fM;have hC:=fM.fN;rw[hY]at g2;generalize Sm e x (s.k%4) (s.p%9000) (s.n%9000) (s.p%4096) s.aa=D at*;generalize R2 e x (s.k%4) (s.p%9000) (s.n%9000) (s.p%4096) s.aa=x' at*;generalize Sr e x X (s.k%4) (s.p%9000) (s.n%9000) (s.p%4096) s.aa=X' at*;have dx:=(bc g1.tw.a0).1;have dy:=(bc g1.tw.b0).1;have hot:aa8 [e.pv,D.pv,x.pv,x'.pv] _:=⟨e,D,x,x',rfl,⟨pR V8,pR g1.tw.sd,ox.dk,ox.rn,dx.rn⟩,rfl⟩
   have yB:x7 [x'.pv,y.pv] _:=⟨x',y,rfl,⟨dx.rn,dy.rn⟩,rfl⟩
   clear fM
   (repeat'((conv=>whnf);first|refine⟨_,PA,?_⟩|refine⟨_,kv,?_⟩|refine⟨_,hot,?_⟩|refine⟨_,yB,?_⟩|refine au g3 ?_|refine aw g4 ?_|(refine⟨⟨ao,(by show(_:Nat)<2;decide)⟩,?_⟩)|refine⟨_,rfl,?_⟩|refine aN ?_|refine au ab ?_|refine ez λ_=>?_|refine iY aA ?_|refine bT ?_|fail))<;>try(conv=>whnf)
   refine⟨λm env σ=>∃q:Nat,q+m=2/\σ=[.box 23 [.pv (.str D.a_),.pv (.str D.mp)],.box 23 [.pv (.str d.a_),.pv (.str d.mp)],.row 31 11 true [x'.pv,y.pv],.row 9 1 true [.str X',.str Y]]/\
    env=[(1,.pv (.sl 11 [a.pv,b.pv])),(2,.pv (.sl 5 (st.map Qn.pv))),(3,.ref 0 0 0),(8,.ref 1 0 0),(9,.own 2),(10,.own 3),eN 11 n,eN 15 q],2,⟨0,ab,rfl,rfl⟩,?_⟩
   rintro m2 env σ ⟨q,hq,rfl,rfl⟩;have hDl:=g1.tw.sd.1;have e1:yn [D.pv,x'.pv] (pI 0):=⟨D,x',rfl,ab,by rw[g1.tw.a0]⟩
   have e2:yn [D.pv,y.pv] (pI 0):=⟨D,y,rfl,ab,by rw[g1.tw.b0]⟩
   have c1:dj [D.pv,x'.pv] (.str X'):=⟨D,x',rfl,⟨pR g1.tw.sd,g1.tw.a0⟩,by rw[hC]⟩
   have c2:dj [D.pv,y.pv] (.str Y):=⟨D,y,rfl,⟨pR g1.tw.sd,g1.tw.b0⟩,by rw[g2]⟩
   rcases(by omega:q=0\/q=1\/q=2)with rfl|rfl|rfl
   ·(repeat'((conv=>whnf);first|(refine⟨⟨ao,(by show(_:Nat)<2;decide)⟩,?_⟩)|refine⟨_,rfl,?_⟩|refine⟨_,e1,?_⟩|refine⟨_,c1,?_⟩|refine aw (λh=>h rfl) ?_|refine bj ab ?_|refine au ab ?_|refine bT ?_|fail))<;>try(conv=>whnf)
    exact⟨m2-1,ab,1,ab,rfl,rfl⟩
   ·(repeat'((conv=>whnf);first|(refine⟨⟨ao,(by show(_:Nat)<2;decide)⟩,?_⟩)|refine⟨_,rfl,?_⟩|refine⟨_,e2,?_⟩|refine⟨_,c2,?_⟩|refine aw (λh=>h rfl) ?_|refine bj ab ?_|refine au ab ?_|refine bT ?_|fail))<;>try(conv=>whnf)
    exact⟨m2-1,ab,2,ab,rfl,rfl⟩
   ·(repeat'((conv=>whnf);first|refine bj ab ?_|refine aw ab ?_|fail))<;>try(conv=>whnf)
    exact⟨m-1,ab,n+1,D,x',y,X',Y,⟨ab,g1,hC,g2⟩,rfl,rfl⟩
  ·have PA:nW [pI s.w,pI 2] (pI 1):=⟨s.w,2,rfl,ab,by rw[hw]⟩
   have kv:T0 [e.pv,y.pv,.str Y,s.pv] _:=⟨e,y,Y,s.w,s.k,s.p,s.n,s.aa,rfl,⟨V8,Rf,hi.tw.bn,ab,hYl,WW⟩,rfl⟩
   have fM:=Wr (k:=s.k%4) (q:=s.p%4096) hi.tw.b0 V8 hi.tw.bn hp9 hn9 WW;rw[hY]at fM;obtain⟨g1,g2,g3,g4⟩:=hi.abd fM;have hC:=fM.fN;rw[hX]at g2;generalize Sm e y (s.k%4) (s.p%9000) (s.n%9000) (s.p%4096) s.aa=D at*;generalize R2 e y (s.k%4) (s.p%9000) (s.n%9000) (s.p%4096) s.aa=y' at*;generalize Sr e y Y (s.k%4) (s.p%9000) (s.n%9000) (s.p%4096) s.aa=Y' at*;have dx:=(bc g1.tw.a0).1;have dy:=(bc g1.tw.b0).1;have hot:aa8 [e.pv,D.pv,y.pv,y'.pv] _:=⟨e,D,y,y',rfl,⟨pR V8,pR g1.tw.sd,ox.dk,oy.rn,dy.rn⟩,rfl⟩
   have yB:x7 [x.pv,y'.pv] _:=⟨x,y',rfl,⟨dx.rn,dy.rn⟩,rfl⟩
   clear fM
   (repeat'((conv=>whnf);first|refine⟨_,PA,?_⟩|refine⟨_,kv,?_⟩|refine⟨_,hot,?_⟩|refine⟨_,yB,?_⟩|refine au g3 ?_|refine aw g4 ?_|(refine⟨⟨ao,(by show(_:Nat)<2;decide)⟩,?_⟩)|refine⟨_,rfl,?_⟩|refine aN ?_|refine au ab ?_|refine ez λ_=>?_|refine iY aA ?_|refine bT ?_|fail))<;>try(conv=>whnf)
   refine⟨λm env σ=>∃q:Nat,q+m=2/\σ=[.box 23 [.pv (.str D.a_),.pv (.str D.mp)],.box 23 [.pv (.str d.a_),.pv (.str d.mp)],.row 31 11 true [x.pv,y'.pv],.row 9 1 true [.str X,.str Y']]/\
    env=[(1,.pv (.sl 11 [a.pv,b.pv])),(2,.pv (.sl 5 (st.map Qn.pv))),(3,.ref 0 0 0),(8,.ref 1 0 0),(9,.own 2),(10,.own 3),eN 11 n,eN 15 q],2,⟨0,ab,rfl,rfl⟩,?_⟩
   rintro m2 env σ ⟨q,hq,rfl,rfl⟩;have hDl:=g1.tw.sd.1;have e1:yn [D.pv,x.pv] (pI 0):=⟨D,x,rfl,ab,by rw[g1.tw.a0]⟩
   have e2:yn [D.pv,y'.pv] (pI 0):=⟨D,y',rfl,ab,by rw[g1.tw.b0]⟩
   have c1:dj [D.pv,x.pv] (.str X):=⟨D,x,rfl,⟨pR g1.tw.sd,g1.tw.a0⟩,by rw[g2]⟩
   have c2:dj [D.pv,y'.pv] (.str Y'):=⟨D,y',rfl,⟨pR g1.tw.sd,g1.tw.b0⟩,by rw[hC]⟩
   rcases(by omega:q=0\/q=1\/q=2)with rfl|rfl|rfl
   ·(repeat'((conv=>whnf);first|(refine⟨⟨ao,(by show(_:Nat)<2;decide)⟩,?_⟩)|refine⟨_,rfl,?_⟩|refine⟨_,e1,?_⟩|refine⟨_,c1,?_⟩|refine aw (λh=>h rfl) ?_|refine bj ab ?_|refine au ab ?_|refine bT ?_|fail))<;>try(conv=>whnf)
    exact⟨m2-1,ab,1,ab,rfl,rfl⟩
   ·(repeat'((conv=>whnf);first|(refine⟨⟨ao,(by show(_:Nat)<2;decide)⟩,?_⟩)|refine⟨_,rfl,?_⟩|refine⟨_,e2,?_⟩|refine⟨_,c2,?_⟩|refine aw (λh=>h rfl) ?_|refine bj ab ?_|refine au ab ?_|refine bT ?_|fail))<;>try(conv=>whnf)
    exact⟨m2-1,ab,2,ab,rfl,rfl⟩
   ·(repeat'((conv=>whnf);first|refine bj ab ?_|refine aw ab ?_|fail))<;>try(conv=>whnf)
    exact⟨m-1,ab,n+1,D,x,y',X,Y',⟨ab,g1,g2,hC⟩,rfl,rfl⟩
 have pe:=aBU hi.tw.a0 V8 hi.tw.an;have s1:=As.of pe.snd hi.tw.an;obtain⟨i1,_,_,_⟩:=hi.aaD s1;have k1:=pe.fre;have f1:WZ [e.pv,x.pv] (.tup [.pv (NA e x).pv,.pv (l6 e x).pv,.pv (pI 0)]):=⟨e,x,rfl,⟨V8,hi.tw.an⟩,by rw[pe.e]⟩
 have r1:=pe.snd.rs;generalize NA e x=D1 at*;generalize l6 e x=A1 at*;have aLM:=aBU i1.tw.b0 i1.tw.sd i1.tw.bn;have s2:=As.of aLM.snd i1.tw.bn;obtain⟨i2,_,_,_⟩:=i1.abd s2;have k2:=aLM.fre;have f2:WZ [D1.pv,y.pv] (.tup [.pv (NA D1 y).pv,.pv (l6 D1 y).pv,.pv (pI 0)]):=⟨D1,y,rfl,⟨i1.tw.sd,i1.tw.bn⟩,by rw[aLM.e]⟩
 have r2:=aLM.snd.rs;generalize NA D1 y=D2 at*;generalize l6 D1 y=A2 at*;have n1:=hi.n;have n2:=i1.n;have n3:=i2.n;have c0:=hi.gy;have c1:=i1.gy;have c2:=i2.gy;rw[n1]at k1;rw[n2]at k2;have cM:=Bj d.mp d.n;have ahp:=Bj D2.mp D2.n;have hoa:QH [a.pv] (.pv (rI (tV (az a.rn.l)))):=⟨a,rfl,ra,rfl⟩
 have hob:QH [b.pv] (.pv (rI (tV (az b.rn.l)))):=⟨b,rfl,rb,rfl⟩
 have la:((tV (az a.rn.l)).map pI).length=bt (az a.rn.l):=by rw[zav,Lc]
 have lb:((tV (az b.rn.l)).map pI).length=bt (az b.rn.l):=by rw[zav,Lc]
 have ua:bt (az a.rn.l)<=4096:=Nat.le_trans (zdl _ _) (ED ra).1;have ub:bt (az b.rn.l)<=4096:=Nat.le_trans (zdl _ _) (ED rb).1;generalize tV (az a.rn.l)=OA at*;generalize tV (az b.rn.l)=OB at*;have xq:DO [d.pv] (pI ((d.n:Int)-oF d.mp d.n)):=⟨d,rfl,⟨pR D_,Q8 hd⟩,rfl⟩
 have hfe:DO [D2.pv] (pI ((D2.n:Int)-oF D2.mp D2.n)):=⟨D2,rfl,⟨pR i2.tw.sd,Q8 (bc i2.tw.a0).1.dk⟩,rfl⟩
 rw[n3]at hfe ahp
 (repeat'((conv=>whnf);first|refine⟨_,xq,?_⟩|refine⟨_,hoa,?_⟩|refine⟨_,hob,?_⟩|refine⟨_,⟨ao,rfl⟩,?_⟩|refine bj ab ?_|refine aw ab ?_|refine ez λ_=>?_|refine bT ?_|fail))<;>try(conv=>whnf)
 refine⟨λm env σ=>∃(q:Nat) (G:Dk),(q+m=2/\(q=0->G=e)/\(q=1->G=D1)/\(q=2->G=D2))/\σ=[.box 23 [.pv (.str G.a_),.pv (.str G.mp)],.row 31 11 true [x.pv,y.pv]]/\
  env=[(3,.ref 0 0 0),(9,.own 1),eN 16 ((d.n:Int)-oF d.mp d.n+(OA.map pI).length+(OB.map pI).length),eN 17 q],2,⟨0,e,⟨ab,λ_=>rfl,λh=>ab,λh=>ab⟩,rfl,rfl⟩,?_⟩
 rintro m2 env σ ⟨q,G,⟨hq,q0,q1,q2⟩,rfl,rfl⟩;rcases(by omega:q=0\/q=1\/q=2)with rfl|rfl|rfl
 ·rw[q0 rfl]
  (repeat'((conv=>whnf);first|(refine⟨⟨ao,(by show(_:Nat)<2;decide)⟩,?_⟩)|refine⟨_,rfl,?_⟩|refine⟨_,f1,?_⟩|refine aw (λh=>h rfl) ?_|(refine aw (λh=>by rw[r1]at h;cases h) ?_)|refine bj ab ?_|refine au ab ?_|refine bT ?_|fail))<;>try(conv=>whnf)
  exact⟨m2-1,ab,1,D1,⟨ab,λh=>ab,λ_=>rfl,λh=>ab⟩,rfl,rfl⟩
 ·rw[q1 rfl]
  (repeat'((conv=>whnf);first|(refine⟨⟨ao,(by show(_:Nat)<2;decide)⟩,?_⟩)|refine⟨_,rfl,?_⟩|refine⟨_,f2,?_⟩|refine aw (λh=>h rfl) ?_|(refine aw (λh=>by rw[r2]at h;cases h) ?_)|refine bj ab ?_|refine au ab ?_|refine bT ?_|fail))<;>try(conv=>whnf)
  exact⟨m2-1,ab,2,D2,⟨ab,λh=>ab,λh=>ab,λ_=>rfl⟩,rfl,rfl⟩
 ·rw[q2 rfl]
  (repeat'((conv=>whnf);first|refine⟨_,hfe,?_⟩|refine au ab ?_|refine aw ab ?_|fail))<;>try(conv=>whnf)
  exact aI
end Go.Dv.Try
namespace Go.Dv.Try
open Go Go.Dv Go.Deep
def Ut{y:PV}(h:∃zs,y=.agg zs/\ou [.int .i64,.int .i64,.int .i64,.int .i64,.str] zs):∃s:Qn,y=s.pv:=by
 obtain⟨zs,rfl,h⟩:=h;simp only[ou,O1]at h;obtain⟨_,_,rfl,⟨w,rfl,_⟩,_,_,rfl,⟨k,rfl,_⟩,_,_,rfl,⟨p,rfl,_⟩,_,_,rfl,⟨n,rfl,_⟩,_,_,rfl,⟨aa,rfl,_⟩,rfl⟩:=h;exact⟨⟨w,k,p,n,aa⟩,rfl⟩
abbrev af5:Bool×List CT:=(false,[.sl true [.int .i64,.str,.int .i64,.int .i64,.bool,.str,.int .i64,.sl true [.int .i64,.int .i64],.int .i64,.int .i64,.int .i64]])
abbrev agb:Bool×List CT:=(false,[.sl true [.int .i64,.int .i64,.int .i64,.int .i64,.str]])
def Td{y:PV}(h:∃zs,y=.agg zs/\ou [.str,.str] zs):∃d:Dk,y=d.pv/\d.a_.length<=9223372036854775807:=by
 obtain⟨zs,rfl,h⟩:=h;simp only[ou,O1]at h;obtain⟨_,_,rfl,⟨b,rfl,hb⟩,_,_,rfl,⟨m,rfl,_⟩,rfl⟩:=h;exact⟨⟨b,m⟩,rfl,by unfold maxLen at hb;exact hb⟩
def aqp:∀xs,xS [vt,af5,agb] xs->(ah PI).run xs λr=>r=.pv (.bool true):=λxs h=>by
 simp only[xS]at h;obtain⟨y,_,rfl,h1,_,z,_,rfl,_,h2,u,_,rfl,_,h3,rfl⟩:=h;obtain⟨d,rfl,hd⟩:=Td (h1 trivial);have h2:=h2 trivial;have h3:=h3 trivial;simp only[ou]at h2 h3;obtain⟨_,_,e2,h2,rfl⟩:=h2;cases e2;obtain⟨_,_,e3,h3,rfl⟩:=h3;cases e3;simp only[O1]at h2 h3;obtain⟨aC,rfl,_,he⟩:=h2;obtain⟨abR,rfl,_,qN⟩:=h3;obtain⟨l,rfl,_⟩:=awZ (g:=At.pv) (q:=λ_=>True) λz hz=>by
  obtain⟨a,ha⟩:=auD ((he z hz).1 trivial);exact⟨a,ha,trivial⟩
 obtain⟨st,rfl,_⟩:=awZ (g:=Qn.pv) (q:=λ_=>True) λz hz=>by
  obtain⟨a,ha⟩:=Ut ((qN z hz).1 trivial);exact⟨a,ha,trivial⟩
 exact⟨_,⟨d,l,st,rfl,hd,rfl⟩,rfl⟩
end Go.Dv.Try
namespace Go.Dv.Try
open Go Go.Dv
def aAt(h1:bU bb 273 (ah Pt))(h2:bU bb 319 (sB anV)):∀k,bU bb 310 (sB (aoh k)):=by
 intro k
 induction k with
 |zero=>
  refine⟨λe=>cz,λe=>cz,λ_ _ _ _ _ e=>cz,λ_ _ _ _ _ _ _ _ h=>(show False from h).elim,?_⟩;rintro w ok di σ0 eR xs vs K _ PD l9 ⟨ap,f,N,a,m,b,c,near,_,_,hp,_⟩;exfalso;omega
 |succ k ih=>
  exact nE.rJ mixed (aaB h1 (aaB h2 (aaB ih aq))) (by rintro _ _ _ ⟨_,_,_,_,_,_,_,_,rfl,_⟩;rfl) (apq k)
def dQ(lone:Bool)(R:List PV->RV->Prop):ajo (c8 lone R):=⟨λe=>cz,λ_ _ h=>h,rfl⟩
def apT:ajo BX:=by
 refine⟨λ_=>⟨rfl,λps K h=>?_⟩,λ_ _ h=>h,rfl⟩;obtain⟨a,b,rfl,h1,h2⟩:=h;by_cases ha:a=0
 ·exact⟨pI b,h2 ha,λK' h=>⟨a,b,rfl,λh'=>absurd ha h',λ_=>h⟩⟩
 ·exact⟨pI a,h1 ha,λK' h=>⟨a,b,rfl,λ_=>h,λh'=>absurd h' ha⟩⟩
def SN:MT (ay []) RZ (ah gB):=kS
def rQ:=Qi.snd (by trivial) I0
def th:=Wl.snd (by exact⟨rQ,trivial⟩) No
def fJ:=Ul.snd (by exact⟨th,trivial⟩) Ki
def ja:=Ov.snd (by exact⟨fJ,trivial⟩) Hr
def rP:=Q7.snd (by trivial) IT
def uB:=DQ.snd (by trivial) Sj
def eZ:=Rh.snd (by trivial) IX
def kL:=Tz.snd (by trivial) JC
def ca:=Sh.snd (by trivial) I5
def c7:=WK.snd (by exact⟨ca,trivial⟩) MP
def gN:=Kr.snd (by exact⟨ja,trivial⟩) Er
def nh:=IK.snd (by exact⟨gN,trivial⟩) CI
def lr:=Gc.snd (by trivial) Ah
def tA:=VU.snd (by trivial) alL
def k7:=VY.snd (by exact⟨tA,trivial⟩) amt
def yZ:=IM.aD (by trivial) aqs
def sG:=I6.snd (by exact⟨ca,fJ,tA,trivial⟩) T8
def vD:=MA.snd (by exact⟨ca,eZ,kL,rP,ja,c7,trivial⟩) Zl
def q8:=GU.snd (by exact⟨vD,c7,trivial⟩) Qo
def vG:=M3.snd (by exact⟨ca,trivial⟩) Y2
def pF:=Si.snd (by trivial) ae4
def Aq:=RH.snd (by exact⟨pF,eZ,trivial⟩) afO
def yC:=QZ.snd (by exact⟨fJ,pF,c7,q8,trivial⟩) afI
def we:=Qc.snd (by trivial) akb
def mA:=MR.snd (by trivial) YU
def uP:=Iz.snd (by trivial) M7
def wI:=DQ.snd (by trivial) Np
def ej:=Vz.snd (by trivial) Nc
def dq:=ag5.snd (by trivial) Te
def jR:=amG.snd (by trivial) ZX
def vT:=aeZ.snd (by trivial) aiJ
def xK:=Vd.snd (by exact⟨vT,trivial⟩) ahr
def vS:=acL.snd (by trivial) amE
def Cb:=WJ.snd (by exact⟨wI,trivial⟩) acC
def eF:=aj6.snd (by exact⟨dq,trivial⟩) ae9
def KT:=ah9.snd (by exact⟨Cb,xK,eF,trivial⟩) agy
def nU:=JV.snd (by exact⟨uP,vS,ej,trivial⟩) PQ
def CB:=acw.snd (by exact⟨eF,trivial⟩) YN
def lq:=Iz.snd (by trivial) acU
def bw:=DQ.snd (by trivial) acX
def rZ:=Pr.snd (by trivial) as7
def wg:=acs.snd (by exact⟨nU,trivial⟩) alR
def ir:=BK.snd (by exact⟨rZ,trivial⟩) TS
def yz:=LK.snd (by exact⟨ir,trivial⟩) akQ
def kx:=Ga.snd (by exact⟨yz,ir,trivial⟩) ade
def dN:bU bb 180 BX:=Yw.sound mixed aq apT (by rintro _ _ ⟨_,_,rfl,_⟩;rfl) agS
def tO:=X7.snd (by exact⟨wg,dN,ej,lq,rZ,trivial⟩) ahs
def Gl:=ZZ.snd (by exact⟨lq,vS,trivial⟩) aip
def vC:=Pg.snd (by exact⟨Gl,trivial⟩) V4
def s8:=DK.snd (by trivial) agM
def En:=VK.snd (by trivial) ahJ
def yA:=Q_.snd (by exact⟨En,trivial⟩) adf
def Pj:=afq.snd (by trivial) ar9
def vZ:=adp.snd (by trivial) amx
def jE:=KN.snd (by exact⟨Pj,yA,vZ,trivial⟩) ak8
def jV:=nw.aD (by trivial) al5
def lp:=oL.aD (by exact⟨jV,trivial⟩) ap8
def jg:=lx.aD (by exact⟨jE,trivial⟩) apR
def z7:=Uy.snd (by exact⟨wg,dN,ej,lq,trivial⟩) acD
def fG:=Gh.snd (by trivial) adq
def fD:=iO.snd (by exact⟨fG,trivial⟩) afY
def fB:=iL.aD (by exact⟨fD,fG,trivial⟩) agA
def y7:=K8.snd (by exact⟨kx,fB,fG,trivial⟩) akS
def yu:=LH.snd (by exact⟨y7,vZ,trivial⟩) amJ
def xn:=ah9.snd (by exact⟨Cb,xK,eF,trivial⟩) G0
def kB:=QM.snd (by trivial) kS
def Hz:=adw.snd (by trivial) Qv
def fA:=OP.snd (by trivial) jP
def D9:=ZC.snd (by trivial) OQ
def jo:=ac9.snd (by trivial) RG
def oK:=OM.snd (by trivial) uL
def nr:=acA.snd (by trivial) Sd
def fT:=acP.snd (by trivial) ae1
def Ae:=Wh.snd (by exact⟨fT,nr,jo,trivial⟩) Yf
def vV:=agd.snd (by exact⟨fT,trivial⟩) akf
def sE:=Th.aD (by exact⟨fT,trivial⟩) al1
def jr:=ac8.snd (by trivial) agW
def GQ:=adj.snd (by exact⟨bw,trivial⟩) ajL
def uc:=acZ.snd (by trivial) ads
def DU:=aat.snd (by trivial) agB
def BU:=V0.snd (by exact⟨DU,trivial⟩) adu
def iH:=Yd.snd (by trivial) abN
def KV:=acR.snd (by exact⟨GQ,uc,BU,iH,trivial⟩) acx
def KR:=ahF.snd (by exact⟨KV,trivial⟩) ah_
def tE:=TO.snd (by exact⟨Ae,vV,sE,jr,jo,trivial⟩) Wc
def jL:=Vd.snd (by exact⟨vT,trivial⟩) alr
def Q6:=aaz.snd (by trivial) apt
def vk:=alj.snd (by trivial) aqO
def ni:=acQ.snd (by trivial) afU
def dc:=Qc.snd (by trivial) Ye
def Bd:=X4.snd (by exact⟨bw,ni,jR,trivial⟩) Zo
def FP:=acK.snd (by exact⟨nr,trivial⟩) afr
def FM:=adl.snd (by trivial) agJ
def lu:=aaM.snd (by exact⟨tE,trivial⟩) ac2
def vL:=QA.snd (by exact⟨lu,fT,FP,FM,trivial⟩) Uu
def Bo:=aaZ.snd (by exact⟨Bd,ni,dc,trivial⟩) abv
def nF:=uY.snd (by trivial) Uk
def wF:=MN.snd (by exact⟨nF,trivial⟩) Wt
def HB:=acv.snd (by trivial) ac5
def DJ:=VD.snd (by exact⟨HB,trivial⟩) adB
def ka:=Js.snd (by trivial) Ro
def tU:=EF.snd (by exact⟨fA,kB,trivial⟩) afP
def D6:=Z3.snd (by exact⟨vk,trivial⟩) Zv
def yL:=TM.snd (by exact⟨vk,trivial⟩) SM
def tg:=E7.snd (by exact⟨DJ,trivial⟩) Wi
def x_:=Ni.snd (by trivial) YZ
def FN:=Wz.aD (by trivial) als
def Ai:=TG.snd (by trivial) acG
def wN:=MJ.snd (by trivial) adm
def Ak:=MZ.snd (by exact⟨vL,Ai,wN,FN,ka,trivial⟩) ac6
def Eg:=Y_.snd (by exact⟨jL,dc,trivial⟩) afw
def GI:=abI.snd (by exact⟨Bo,jL,ni,Q6,jR,iH,dc,Eg,trivial⟩) YD
def Br:=TZ.snd (by exact⟨yL,bw,KR,iH,trivial⟩) Y1
def hH:=aeW.snd (by trivial) Ua
def mQ:=acq.snd (by exact⟨hH,trivial⟩) QO
def nX:=aaz.snd (by trivial) aay
def mC:=adF.snd (by exact⟨dq,trivial⟩) P0
def sa:=VC.snd (by exact⟨mC,dq,trivial⟩) MG
def yS:=T7.snd (by exact⟨hH,uB,sa,trivial⟩) P4
def sR:=Nh.snd (by exact⟨yS,mQ,trivial⟩) Lk
def xd:=PM.snd (by exact⟨sR,trivial⟩) Vw
def oU:=TV.snd (by exact⟨hH,trivial⟩) PU
def fg:=Wq.snd (by trivial) S0
def sn:=adn.snd (by exact⟨fg,trivial⟩) adr
def rU:=ZT.snd (by exact⟨fg,dq,mC,nX,mQ,xd,trivial⟩) VX
def rl:=JF.snd (by trivial) N0
def DV:=Ld.snd (by exact⟨we,sn,fg,rU,oU,rl,trivial⟩) H7
def bY:=X9.snd (by trivial) Pc
def bL:=VM.snd (by trivial) MW
def ri:=VT.snd (by trivial) MU
def dw:=VF.snd (by trivial) ML
def d_:=MV.snd (by trivial) Gg
def rm:=WM.snd (by trivial) Nf
def fh:=Qq.snd (by exact⟨ri,trivial⟩) IW
def kz:=Eh.snd (by trivial) IV
def ch:=yF.snd (by trivial) CC
def fI:=Fk.snd (by trivial) JG
def lS:=HP.snd (by exact⟨fI,trivial⟩) MB
def lf:=acJ.snd (by exact⟨dw,trivial⟩) Rp
def gz:=MO.snd (by exact⟨dw,trivial⟩) Tu
def qA:=Nr.snd (by trivial) TX
def mR:=IJ.snd (by trivial) OF
def lR:=IP.snd (by trivial) Kn
def wA:=Kz.snd (by trivial) M0
def jb:=QY.snd (by trivial) IQ
def CA:=VH.snd (by exact⟨dw,trivial⟩) Nl
def lN:=GF.snd (by trivial) agq
def qh:=CG.snd (by exact⟨lN,trivial⟩) VQ
def fV:=yM.snd (by trivial) Pp
def qX:=Cq.snd (by exact⟨fV,trivial⟩) adk
def nH:=ya.snd (by exact⟨qX,trivial⟩) SU
def jn:=Zs.snd (by exact⟨d_,tO,trivial⟩) ajH
def jt:=aa6.snd (by exact⟨vC,trivial⟩) ajC
def qC:=CD.snd (by exact⟨d_,nH,fV,dw,tO,trivial⟩) V_
def mq:=Pw.snd (by exact⟨bL,d_,nU,bY,trivial⟩) Wy
def gM:=Hn.snd (by trivial) ae8
def bx:=S2.snd (by trivial) Ty
def dT:=WN.snd (by trivial) Wa
def jy:=WC.snd (by exact⟨bx,KT,trivial⟩) V7
def eO:=aka.snd (by trivial) ajc
def AS:=aad.snd (by exact⟨eO,jL,trivial⟩) XZ
def pP:=aaT.snd (by exact⟨dT,trivial⟩) YM
def bp:=Fu.snd (by trivial) aqa
def CU:=MD.snd (by exact⟨gz,lR,qA,trivial⟩) arI
def CJ:=M1.snd (by exact⟨gz,lR,qA,trivial⟩) asD
def Ec:=OY.snd (by exact⟨gz,wA,trivial⟩) arR
def gC:=jS.snd (by trivial) aga
def pt:=Ac.snd (by exact⟨s8,trivial⟩) T6
def sY:=EH.snd (by exact⟨d_,ri,bL,bY,jn,lf,pt,trivial⟩) acp
def GA:=Wn.aD (by exact⟨vV,trivial⟩) aqm
def y6:=Pu.aD (by exact⟨GA,trivial⟩) agx
def Nn:=ail.snd (by exact⟨fT,trivial⟩) alA
def A8:=Ql.snd (by trivial) aj9
def ru:=JF.snd (by trivial) Zt
def yY:=Vy.snd (by exact⟨bp,pP,DV,ru,trivial⟩) Wf
def I7:=Ld.snd (by exact⟨we,sn,fg,rU,oU,rl,trivial⟩) Tg
def cS:=Wo.snd (by exact⟨bp,eO,pP,I7,dc,dT,trivial⟩) Wk
def yp:=VZ.snd (by trivial) Tv
def bo:=Jn.snd (by exact⟨yp,trivial⟩) acO
def pg:=afz.snd (by trivial) aie
def se:=ac3.snd (by exact⟨dc,trivial⟩) adE
def BY:=VB.snd (by exact⟨se,pg,trivial⟩) acH
def A6:=YK.snd (by exact⟨dc,pg,trivial⟩) acn
def tj:=ajd.snd (by exact⟨bp,trivial⟩) ao1
def qg:=agI.snd (by exact⟨bx,CB,trivial⟩) akU
def DW:=Yh.snd (by exact⟨jy,tj,bx,vk,eF,dT,trivial⟩) agr
def Li:=agR.snd (by exact⟨dc,trivial⟩) TL
def rO:=Du.snd (by exact⟨z7,yu,ej,trivial⟩) Hf
def jW:=S2.snd (by trivial) FY
def iK:=WC.snd (by exact⟨jW,xn,trivial⟩) GC
def yT:=ajh.snd (by exact⟨D6,tg,bw,Br,x_,GI,trivial⟩) Im
def yx:=ais.snd (by exact⟨iK,yT,eO,bp,bx,eF,A8,AS,yY,trivial⟩) LB
def wV:=KL.snd (by exact⟨tj,vk,trivial⟩) JT
def vU:=afb.snd (by trivial) SN
def ey:bU bb 316 yg:=agN (aaB gN (aaB nh aq))
def pQ:bU bb 174 (ah Lo):=aqk
def iq:bU bb 268 (sB C4):=af2
def td:bU bb 231 (sB ZR):=aqS
def mH:bU bb 321 (ah qc):=af6
def jJ:bU bb 255 L7:=alX aq
def kn:bU bb 310 (sB ae_):=aAt jE lp 100000
def qk:bU bb 245 (c8 true Xi):=aus
def vB:=Hi.snd (by exact⟨jJ,trivial⟩) ahK
def tX:=Bs.snd (by exact⟨jJ,trivial⟩) VJ
def vM:=Km.snd (by exact⟨tX,trivial⟩) acY
def kJ:=EO.snd (by exact⟨ey,trivial⟩) acI
def rB:=DS.snd (by exact⟨kJ,ey,trivial⟩) Zb
def sZ:=EU.snd (by exact⟨kJ,ey,trivial⟩) acM
def yQ:=J6.snd (by exact⟨rB,trivial⟩) alW
def wG:=IN.snd (by exact⟨yQ,trivial⟩) akd
def sU:=Ez.snd (by exact⟨wG,lr,sZ,c7,trivial⟩) ac1
def pn:=Ap.aD (by exact⟨iq,trivial⟩) Wg
def m_:=yq.aD (by exact⟨iq,trivial⟩) PW
def CH:=S5.snd (by exact⟨ca,sG,c7,pn,m_,yZ,td,k7,trivial⟩) ahS
def rj:=TY.snd (by exact⟨pQ,trivial⟩) aiO
def vK:=MS.snd (by exact⟨rj,sU,CH,mA,trivial⟩) aag
def mB:=I4.snd (by exact⟨rj,Aq,eZ,kL,yC,vG,mA,trivial⟩) To
def ll:=oJ.aD (by exact⟨jg,kn,trivial⟩) aqN
def eW:=gU.aD (by exact⟨ll,trivial⟩) afN
def wO:=R1.snd (by exact⟨z7,yu,kx,eW,jE,dN,ej,trivial⟩) V2
def uO:=MC.snd (by exact⟨mH,trivial⟩) Wb
def zi:=Nk.snd (by exact⟨uO,trivial⟩) RU
def vN:=M6.snd (by exact⟨zi,trivial⟩) RS
def oh:=zj.snd (by exact⟨vN,trivial⟩) Un
def lv:=vI.snd (by exact⟨oh,trivial⟩) Nq
def yv:=S9.snd (by exact⟨lv,trivial⟩) ZY
def B9:=V3.snd (by exact⟨yv,wF,trivial⟩) adg
def B0:=Sg.snd (by exact⟨D9,B9,Hz,trivial⟩) VR
def yD:=O8.snd (by exact⟨qk,trivial⟩) ae5
def vJ:=MX.snd (by exact⟨B0,fA,trivial⟩) Z7
def wm:=KZ.snd (by exact⟨qk,fA,kB,oK,tE,ka,trivial⟩) afi
def dO:=Bp.snd (by exact⟨yD,fA,vJ,oK,kB,tU,wm,Ak,trivial⟩) JJ
def iI:=Zn.snd (by exact⟨pQ,trivial⟩) zQ
def ij:=WH.snd (by exact⟨iI,trivial⟩) Na
def iB:=IL.snd (by exact⟨vB,vM,trivial⟩) aiX
def wS:=IS.snd (by exact⟨ij,trivial⟩) ahL
def cw:=Fx.snd (by exact⟨ch,iB,lS,mB,wS,iI,fI,trivial⟩) acW
def rN:=Ei.snd (by exact⟨lf,ch,rm,iB,lN,kz,bL,trivial⟩) abw
def mw:=OK.snd (by exact⟨dO,bL,bY,trivial⟩) VO
def rA:=DR.snd (by exact⟨iB,lS,mB,lf,iI,trivial⟩) abH
def cY:=acu.snd (by exact⟨mq,mw,bY,jb,qC,rN,ch,rA,trivial⟩) ajq
def rr:=VS.snd (by exact⟨cY,fh,bL,bY,cw,trivial⟩) afM
def my:=OH.snd (by exact⟨mw,trivial⟩) Wv
def uz:=He.snd (by exact⟨ch,ij,vK,rm,kz,CU,CJ,Ec,trivial⟩) agp
def u_:=Hw.aD (by exact⟨gz,dw,qh,jt,wO,jb,trivial⟩) agC
def oM:=K_.snd (by exact⟨uz,jn,u_,CA,lf,dO,jt,trivial⟩) ak9
def kH:=FU.snd (by exact⟨gM,oM,trivial⟩) ack
def aaC:=Tr.snd (by exact⟨cY,fh,bL,bY,gC,cw,ij,mR,kH,trivial⟩) adi
def gk:=Us.snd (by exact⟨cY,fh,bL,bY,cw,ij,mR,kH,trivial⟩) V6
def CR:=WL.snd (by exact⟨cY,fh,bL,bY,cw,iI,gM,oM,trivial⟩) Zw
def F0:=ZA.snd (by exact⟨cY,jn,dw,jt,gM,trivial⟩) ajp
def El:=SW.aD (by exact⟨sE,jo,jr,vU,trivial⟩) al3
def Kg:=aiQ.snd (by exact⟨y6,El,trivial⟩) ai7
def ym:=Ud.snd (by exact⟨lu,nr,jo,jr,vU,trivial⟩) VV
def Ad:=VE.snd (by exact⟨lu,jr,ym,Nn,Kg,trivial⟩) aao
def EY:=ZH.snd (by exact⟨cY,sY,Ad,dO,jn,fI,jt,trivial⟩) aj8
def wk:bU bb 13 (c8 false T0):=by exact DD.sound mixed (aaB jR (aaB bo (aaB aaC (aaB BY (aaB gk (aaB se (aaB CR (aaB A6 (aaB bx (aaB rO (aaB EY aq))))))))))) (dQ _ _) (by rintro _ _ ⟨_,⟨_,_,_,_,_,_,_,_,rfl,_⟩,_⟩;rfl) B1
def vv:=AA.snd (by exact⟨my,Li,aaC,rr,trivial⟩) Al
def nN:=x5.snd (by exact⟨vv,iK,jW,yx,wV,bo,cS,jR,wk,DW,qg,tj,F0,trivial⟩) ME
end Go.Dv.Try
