/- Own work: parts of the proof, shortened and laid together by a tool of our own. -/
import Derived.Test.YtcfhhnapcpgecaaGreatP5
import Derived.KernelRfl
set_option linter.defProp false
set_option linter.unusedSimpArgs false
set_option linter.unusedVariables false
open List renaming mem_of_getElem?→zag, mem_iff_getElem?→zaE, getElem?_map→za9, flatMap_def→zdU, getElem?_eq_none→zaK, getElem?_set→zaS, flatMap_map→zdE
open Option renaming getD_some→zbA, map_some→zb4
open Int renaming toNat_natCast→zaC
open Nat renaming le_refl→zai
open Bool renaming not_eq_true'→zbs, and_eq_true→zaU
namespace Go.Dv.Try
open Go Go.Dv
def aut{f:Nat->Bool}{a b n:Nat}(ha:f a=false)(hb:f b=true)(JZ:a<n)(hbn:b<n):gy (λc=>if c=a then true else if c=b then false else f c) n=gy f n:=by
 have h1:=Ed (p:=λc=>f c&&!decide (c=b)) (q:=λc=>decide (c=b)) (n:=n) λc _=>by
  rintro⟨g1,g2⟩;simp only[zaU,zbs,decide_eq_false_iff_not,decide_eq_true_eq]at g1 g2;exact g1.2 g2
 have h2:=Ed (p:=λc=>f c&&!decide (c=b)) (q:=λc=>decide (c=a)) (n:=n) λc _=>by
  rintro⟨g1,g2⟩;simp only[zaU,zbs,decide_eq_false_iff_not,decide_eq_true_eq]at g1 g2;rw[g2,ha]at g1;cases g1.1
 rw[xh,if_pos hbn]at h1;rw[xh,if_pos JZ]at h2;have e1:gy f n=gy (λc=>(f c&&!decide (c=b))||decide (c=b)) n:=jq λc _=>by
  by_cases g:c=b
  ·subst g;simp[hb]
  ·simp[g]
 have e2:gy (λc=>if c=a then true else if c=b then false else f c) n=gy (λc=>(f c&&!decide (c=b))||decide (c=a)) n:=jq λc _=>by
  by_cases g:c=a
  ·simp[g]
  ·by_cases g2:c=b
   ·simp[g,g2]
   ·simp[g,g2]
 omega
def Mf{l:List Int}:bt l=RF (l.map λx=>decide (x≠ -1)):=by
 unfold bt RF;rw[List.countP_map,List.countP_eq_length_filter];congr 1
def amB{c c':List Int}(h:c.map (λx=>decide (x≠ -1))=c'.map (λx=>decide (x≠ -1)))(hp:mh c):mh c':=by
 have hg:∀i:Nat,(c[i]?).map (λx=>decide (x≠ -1))=(c'[i]?).map (λx=>decide (x≠ -1)):=λi=>by
  rw[<-za9,<-za9,h]
 unfold mh at hp ⊢;rcases Az (p:=λy:Int=>y= -1) c' with⟨h1,_⟩|⟨i,x,h1,h2,h3,h4⟩
 ·left;rw[h1];decide
 ·right;rw[h1,zaC];have nt:=hg i;rw[h2]at nt;rcases Az (p:=λy:Int=>y= -1) c with⟨g1,g2⟩|⟨j,y,g1,g2,g3,g4⟩
  ·exfalso;cases hc:c[i]? with
   |none=>rw[hc]at nt;simp at nt
   |some z=>
    rw[hc]at nt;have:=g2 z (zag hc);simp only[zb4,Option.some.injEq]at nt;rw[h3]at nt;simp[this]at nt
  ·have zk:j=i:=by
    rcases Nat.lt_trichotomy i j with aU|he|aU
    ·exfalso;cases hc:c[i]? with
     |none=>rw[hc]at nt;simp at nt
     |some z=>
      rw[hc]at nt;have:=g4 i aU z hc;simp only[zb4,Option.some.injEq]at nt;rw[h3]at nt;simp[this]at nt
    ·exact he.symm
    ·exfalso;have Rt:=hg j;rw[g2]at Rt;cases hc:c'[j]? with
     |none=>rw[hc]at Rt;simp at Rt
     |some z=>
      rw[hc]at Rt;have:=h4 j aU z hc;simp only[zb4,Option.some.injEq]at Rt;rw[g3]at Rt;simp[this]at Rt
   subst zk;rw[g1,zaC]at hp;have hp:=hp.resolve_left ab;rw[Mf,List.map_drop,<-h,<-List.map_drop,<-Mf];exact hp
def alH{B B':List UInt8}{l l':List Int}(h:l'.map (tS B')=l.map (tS B))(k:Nat):dF B' (bq l' k)=dF B (bq l k):=by
 unfold dF;rw[zdU,zdU,<-pZ,<-pZ,h]
structure MvL(d:Dk)(a:At)(p:Int)(tr:Rn):Prop where
 D:jM d a p tr=Lz d a p tr
 A:jG d a p tr=Il a p tr
 op:aK (Lz d a p tr) (Il a p tr)=0
 fN:aV (ar (Lz d a p tr) (Il a p tr))=aV (ar d a)
 n:(Lz d a p tr).n=d.n
 gy:oF (Lz d a p tr).mp d.n=oF d.mp d.n
 su:adv d (Lz d a p tr) a (Il a p tr)
 len:(Lz d a p tr).a_.length=d.a_.length
def aBQ{d:Dk}{a:At}{p:Int}{tr:Rn}(h0:aK d a=0)(hd:wU d)(hn:a.nm.length<=1000000)(he:dJ d a p tr=0):MvL d a p tr:=by
 obtain⟨ok,oo⟩:=bc h0;have st:=ok.st hd hn;have Es:yw (az a.rn.l):=u0 ok.rn;obtain⟨e1,e2⟩:=azk (p:=p) (tr:=tr) h0;have hx:fE d a p tr=0:=by rw[<-e1];exact he
 have hm:SJ (ar d a) p tr=0:=by
  unfold fE at hx;split at hx
  ·exact hx
  ·rename_i g;exact K6
 have IF:gu (Il a p tr)=0:=by
  unfold fE at hx;rw[if_neg (λh=>h hm)]at hx;split at hx
  ·cases hx
  ·rename_i g;exact Decidable.not_not.1 λh=>g (.inr h)
 have e2:=e2 hm;have mo:=Up hm;have hk:=mo.ok;unfold Pv at hk;have WW:(ar d a).d=d:=rfl;have Cy:(ar d a).pl=az a.rn.l:=rfl;have hlen:=mo.len;have ab8:=mo.from_;have aoA:=mo.free;have c_:a.rs=false:=mo.rs;rw[WW]at hk aoA;rw[Cy]at hlen ab8;have hb:=X6 st;rw[Cy,WW]at hb;have rK:d.n<=512:=ok.nb;obtain⟨d1,d2,d3⟩:=rX ok.dk;obtain⟨s1,s2,s3,s4,s5⟩:=lE ok.str;obtain⟨aQC,yB,pd⟩:=oo c_;have eh:=λc hc=>QX (d:=d) (a:=a) h0 (c:=c) hc
 generalize hP:az a.rn.l=pl at*;obtain⟨T,hT⟩:∃T:Nat,tr.s=T:=⟨tr.s.toNat,ab⟩
 obtain⟨N,hN⟩:∃N:Nat,tr.n=N:=⟨tr.n.toNat,ab⟩
 obtain⟨q,hq⟩:∃q:Nat,p=q:=⟨p.toNat,ab⟩
 have rD:p.toNat=q:=ab;have hNn:tr.n.toNat=N:=ab;have hTN:T+N<=d.n:=ab;have hqN:q+N<=pl.length:=ab;rw[rD]at ab8;have pe:∀k,k<N→∃x:Nat,pl[q+k]?=some (x:Int)/\x<d.n/\df d x=true:=λk hkN=>by
  obtain⟨x,I_,vR⟩:=ab8 k ab;have h3:=hb x (zag I_);refine⟨x.toNat,by rw[I_];congr 1;omega,ab,?_⟩;have:=eh x.toNat (by rw[show((x.toNat:Nat):Int)=x by omega];exact zag I_);unfold df;rw[this];rfl
 have nj:∀c,T<=c->c<T+N->df d c=false:=λc h1 h2=>aoA c ab ab
 have fu:∀i j (x:Int),pl[i]?=some x->pl[j]?=some x->x≠ -1->i=j:=λi j x h1 h2 h3=>XD Es h1 h2 h3
 have lM:∀k,k<=N→∀c,ON (df d) pl p tr k c=true↔(T<=c/\c<T+k)\/(df d c=true∧¬ ∃j,j<k/\pl[q+j]?=some (c:Int)):=by
  intro k
  induction k with
  |zero=>
   intro _ c;show df d c=true↔_;exact⟨λh=>.inr ⟨h,by rintro⟨j,hj,_⟩;omega⟩,λh=>by rcases h with h|h;omega;exact h.1⟩
  |succ k ih=>
   intro SH c;have ih:=ih ab c;obtain⟨x,I_,vR,mV⟩:=pe k ab;show(if c=(tr.s+(k:Int)).toNat then true else if c=(pl[p.toNat+k]?.getD 0).toNat then false else ON (df d) pl p tr k c)=true↔_;rw[rD,I_,zbA,zaC,show(tr.s+(k:Int)).toNat=T+k by omega];by_cases g1:c=T+k
   ·rw[if_pos g1];exact⟨λ_=>.inl ab,λ_=>rfl⟩
   ·rw[if_neg g1];by_cases g2:c=x
    ·rw[if_pos g2];constructor
     ·intro h;cases h
     ·rintro(h|⟨_,h⟩)
      ·have:=nj c ab ab;rw[g2,mV]at this;cases this
      ·exact absurd ⟨k,ab,by rw[I_,g2]⟩ h
    ·rw[if_neg g2,ih];constructor
     ·rintro(h|⟨h1,h2⟩)
      ·exact .inl ab
      ·refine .inr ⟨h1,?_⟩;rintro⟨j,hj,Gx⟩;by_cases se:j=k
       ·subst se;rw[I_]at Gx;have:=Option.some.inj Gx;omega
       ·exact h2 ⟨j,ab,Gx⟩
     ·rintro(h|⟨h1,h2⟩)
      ·exact .inl ab
      ·exact .inr ⟨h1,λ⟨j,hj,Gx⟩=>h2 ⟨j,ab,Gx⟩⟩
 have Gn:=L9 d.mp d.n;have Vv:∀k,k<=N→∀c,c<d.n->((cX (sj d.mp d.n) pl p tr k)[c]?.getD 0).toNat=mS (ON (df d) pl p tr k c):=by
  intro k
  induction k with
  |zero=>
   intro _ c hc;show((sj d.mp d.n)[c]?.getD 0).toNat=mS (df d c);rw[ael hc,zbA,zaC];have:=mK d.mp c;unfold df mS;by_cases g:bH d.mp c=1
   ·rw[g];rfl
   ·rw[show bH d.mp c=0 by omega];rfl
  |succ k ih=>
   intro SH c hc;have ih:=ih ab c hc;obtain⟨x,I_,vR,mV⟩:=pe k ab;have cb:x≠T+k:=λh=>by
    have:=nj (T+k) ab ab;rw[<-h,mV]at this;cases this
   show((((cX (sj d.mp d.n) pl p tr k).set (tr.s+(k:Int)).toNat 1).set (pl[p.toNat+k]?.getD 0).toNat 0)[c]?.getD 0).toNat=mS (if c=(tr.s+(k:Int)).toNat then true else if c=(pl[p.toNat+k]?.getD 0).toNat then false else ON (df d) pl p tr k c);rw[rD,I_,zbA,zaC,show(tr.s+(k:Int)).toNat=T+k by omega,zaS,List.length_set,RQ,Gn,zaS,RQ,Gn];by_cases g1:c=T+k
   ·subst g1;rw[if_neg ab,if_pos rfl,if_pos ab,if_pos rfl];rfl
   ·by_cases g2:c=x
    ·subst g2;rw[if_pos rfl,if_pos ab,if_neg g1,if_pos rfl];rfl
    ·rw[if_neg (λh=>g2 h.symm),if_neg (λh=>g1 h.symm),if_neg g1,if_neg g2];exact ih
 have av4:=DF (l:=cQ (ON (df d) pl p tr N) d.n) kD;rw[ck]at av4;have Rf:VA (λi=>((cX (sj d.mp d.n) pl p tr N)[i]?.getD 0).toNat) d.n=mG (cQ (ON (df d) pl p tr N) d.n):=by
  unfold mG;rw[ck];refine ak_ (λi=>?_) (λi=>Jj _) λi hi=>?_
  ·by_cases hi:i<d.n
   ·rw[Vv N (zai _) i hi];exact Jj _
   ·rw[zaK (by rw[RQ,Gn];omega)];simp
  ·rw[bO hi,zbA];exact Vv N (zai _) i hi
 have uS:Lz d a p tr=⟨J2 d.a_ pl p tr N,mG (cQ (ON (df d) pl p tr N) d.n)⟩:=by
  unfold Lz;rw[hP,hNn,Rf]
 have aLt:256*d.n<=d.a_.length:=so;have yh:∀k,k<=N->(J2 d.a_ pl p tr k).length=d.a_.length:=λk hkN=>Xk (λj hj=>by
  obtain⟨x,I_,vR,_⟩:=pe j ab;rw[rD,I_,zbA,zaC];exact⟨ab,ab,ab⟩) k ab
 have mE:∀k,k<=N→∀c,c<d.n->eU (J2 d.a_ pl p tr k) c=if T<=c/\c<T+k then eU d.a_ (pl[q+(c-T)]?.getD 0).toNat else eU d.a_ c:=by
  intro k
  induction k with
  |zero=>intro _ c _;rw[if_neg ab];rfl
  |succ k ih=>
   intro SH c hc;have ih:=ih ab c hc;obtain⟨x,I_,vR,mV⟩:=pe k ab;have hl:=yh k ab;show eU (MF (J2 d.a_ pl p tr k) (tr.s+(k:Int)).toNat (eU d.a_ (pl[p.toNat+k]?.getD 0).toNat)) c=_;rw[rD,I_,zbA,zaC,show(tr.s+(k:Int)).toNat=T+k by omega,ahQ ab (gI ab) ab,ih];by_cases g:c=T+k
   ·rw[if_pos g,if_pos ab,g,show T+k-T=k by omega,I_,zbA,zaC]
   ·rw[if_neg g];by_cases g2:T<=c/\c<T+k
    ·rw[if_pos g2,if_pos ab]
    ·rw[if_neg g2,if_neg ab]
 have aD1:=mE N (zai _);have aD2:az (Il a p tr).rn.l=C8 pl p tr N:=by
  show az (nS (C8 (az a.rn.l) p tr tr.n.toNat))=_;rw[hP,hNn];refine ZB λx hx=>?_
  obtain⟨i,hi⟩:=zaE.1 hx;rw[Sz ab ab]at hi;split at hi
  ·have:=Option.some.inj hi;omega
  ·have:=hb x (zag hi);omega
 have aD3:∀i,i<pl.length→∃x x':Int,pl[i]?=some x/\(C8 pl p tr N)[i]?=some x'/\((x= -1/\x'= -1)\/(x≠ -1/\(0<=x'/\x'<d.n)/\ON (df d) pl p tr N x'.toNat=true/\eU (J2 d.a_ pl p tr N) x'.toNat=eU d.a_ x.toNat)):=λi hi=>by
  have hg:=Sz (tr:=tr) (pl:=pl) (p:=p) ab (k:=N) ab i;rw[rD]at hg;by_cases g:q<=i/\i<q+N
  ·rw[if_pos g]at hg;obtain⟨x,I_,vR,mV⟩:=pe (i-q) ab;rw[show q+(i-q)=i by omega]at I_;refine⟨x,_,I_,hg,.inr ⟨ab,ab,(lM N (zai _) _).2 (.inl ab),?_⟩⟩;rw[aD1 _ ab,if_pos ab,show q+((tr.s+((i-q:Nat):Int)).toNat-T)=i by omega,I_,zbA]
  ·rw[if_neg g]at hg;have hx:pl[i]?=some pl[i]:=List.getElem?_eq_getElem hi;rw[hx]at hg;have s9:=hb _ (zag hx);refine⟨_,_,hx,hg,?_⟩;by_cases h1:pl[i]= -1
   ·exact .inl ⟨h1,h1⟩
   ·have uq:df d pl[i].toNat=true:=by
     have:=eh pl[i].toNat (by rw[show((pl[i].toNat:Nat):Int)=pl[i] by omega];exact zag hx);unfold df;rw[this];rfl
    have l6:¬(T<=pl[i].toNat/\pl[i].toNat<T+N):=λh=>by
     rw[nj _ h.1 h.2]at uq;cases uq
    refine .inr ⟨h1,ab,(lM N (zai _) _).2 (.inr ⟨uq,?_⟩),?_⟩
    ·rintro⟨j,hj,Gx⟩;rw[show((pl[i].toNat:Nat):Int)=pl[i] by omega]at Gx;have:=fu _ _ _ hx Gx h1;omega
    ·rw[aD1 _ ab,if_neg l6]
 have AY:=Xy pl p tr N;have aD4:∀{β:Type} (f g:Int->β),f (-1)=g (-1)->(∀x x':Int,x≠ -1->0<=x'->eU (J2 d.a_ pl p tr N) x'.toNat=eU d.a_ x.toNat->f x'=g x)->(C8 pl p tr N).map f=pl.map g:=λf g h1 h2=>by
  refine List.ext_getElem? λi=>?_
  rw[za9,za9];by_cases hi:i<pl.length
  ·obtain⟨x,x',g1,g2,g3⟩:=aD3 i hi;rw[g1,g2];simp only[zb4];congr 1;rcases g3 with⟨rfl,rfl⟩|⟨g3,g4,g5,g6⟩
   ·exact h1
   ·exact h2 x x' g3 g4.1 g6
  ·rw[zaK ab,zaK ab];rfl
 have mY:(C8 pl p tr N).map (λx=>decide (x≠ -1))=pl.map (λx=>decide (x≠ -1)):=aD4 _ _ rfl λx x' h1 h2 _=>by
  rw[Bool.eq_iff_iff,decide_eq_true_eq,decide_eq_true_eq];exact⟨λ_=>h1,λ_=>ab⟩
 have sL:(C8 pl p tr N).map (tS (J2 d.a_ pl p tr N))=pl.map (tS d.a_):=aD4 _ _ rfl λx x' h1 h2 h3=>by
  unfold tS;rw[if_neg ab,if_neg h1,h3]
 have hm3:(C8 pl p tr N).map (λn=>if n= -1 then ai 256 else eU (J2 d.a_ pl p tr N) n.toNat)=pl.map (λn=>if n= -1 then ai 256 else eU d.a_ n.toNat):=aD4 _ _ rfl λx x' h1 h2 h3=>by
  rw[if_neg ab,if_neg h1,h3]
 have aDV:rz (J2 d.a_ pl p tr N) (C8 pl p tr N)=rz d.a_ pl:=by
  unfold rz;rw[zdU,zdU,hm3]
 have aHX:bt (C8 pl p tr N)=bt pl:=by rw[Mf,Mf,mY]
 have aHY:∀k,(bq (C8 pl p tr N) k).map (λx=>decide (x≠ -1))=(bq pl k).map (λx=>decide (x≠ -1)):=λk=>by rw[<-pZ,<-pZ,mY]
 have fM:=alH sL;have huc:∀k,bt (bq (C8 pl p tr N) k)=bt (bq pl k):=λk=>by rw[Mf,Mf,aHY]
 have aDW:ow (J2 d.a_ pl p tr N) (chunks (C8 pl p tr N))=ow d.a_ (chunks pl):=by
  unfold ow chunks;rw[zdE,zdE,AY];exact Mr λk _=>by rw[fM]
 have aDX:∀v,qw (J2 d.a_ pl p tr N) v (chunks (C8 pl p tr N))=qw d.a_ v (chunks pl):=λv=>by
  unfold qw;rw[om,om,AY];unfold TE;congr 1;refine List.map_congr_left λk hk=>?_
  have hk:=List.mem_range.1 hk;rw[p_ _ (by rw[AY];unfold eE;omega),p_ _ FO,zbA,zbA];unfold xC;rw[fM,huc]
 have AI:(Lz d a p tr).n=d.n:=by
  rw[uS];show(J2 d.a_ pl p tr N).length/256=d.a_.length/256;rw[yh N (zai _)]
 have pD:∀c,c<d.n->bH (Lz d a p tr).mp c=mS (ON (df d) pl p tr N c):=λc hc=>by
  rw[uS];show bH (mG _) c=_;rw[av4.2,if_pos hc,bO hc,zbA]
 have lO:gm (Lz d a p tr)=0:=by
  unfold gm;rw[AI];have e:(Lz d a p tr).a_.length=d.a_.length:=by rw[uS];exact yh N (zai _)
  rw[e,if_neg ab,if_neg ab,uS];exact av4.1
 have SF:∀c:Nat,(c:Int)∈C8 pl p tr N↔(T<=c/\c<T+N)\/((c:Int)∈pl∧¬ ∃j,j<N/\pl[q+j]?=some (c:Int)):=λc=>by
  have hg:=λi=>Sz (tr:=tr) (pl:=pl) (p:=p) ab (k:=N) ab i
  rw[rD]at hg;constructor
  ·intro h;obtain⟨i,hi⟩:=zaE.1 h;rw[hg i]at hi;split at hi
   ·have:=Option.some.inj hi;left;omega
   ·rename_i g;refine .inr ⟨zag hi,?_⟩;rintro⟨j,hj,Gx⟩;have:=fu _ _ _ hi Gx ab;omega
  ·rintro(h|⟨h1,h2⟩)
   ·refine zag (i:=q+(c-T)) ?_;rw[hg,if_pos ab];congr 1;omega
   ·obtain⟨i,hi⟩:=zaE.1 h1;refine zag (i:=i) ?_;rw[hg,if_neg,hi];intro g;exact h2 ⟨i-q,ab,by rw[show q+(i-q)=i by omega];exact hi⟩
 have aLG:jM d a p tr=Lz d a p tr:=by
  unfold jM;rw[if_neg (λh=>h he),uS,hP,hNn]
 have aLH:jG d a p tr=Il a p tr:=by
  unfold jG;rw[if_neg (λh=>h he),e2]
 refine⟨aLG,aLH,?_,?_,AI,?_,⟨⟨by rw[uS];exact(yh N (zai _)).symm,lO⟩,λc hc=>?_⟩,by rw[uS];exact yh N (zai _)⟩
 ·have hsE:oT (Il a p tr)=0:=by
   unfold oT;rw[IF,if_neg aj,if_neg,if_neg,if_neg]
   ·show ¬32768<a.sz;omega
   ·show ¬a.ft≠0;omega
   ·show ¬(a.ty≠128\/4<=a.fl\/a.fl=3);omega
  have rH:pG (Lz d a p tr) (C8 pl p tr N)=0:=by
   unfold pG;rw[AI,if_neg,if_neg]
   ·rintro⟨x,hx,h1,h2⟩;obtain⟨i,hi⟩:=zaE.1 hx;have iX:i<pl.length:=aaX;obtain⟨y,x',g1,g2,g3⟩:=aD3 i iX;rw[hi]at g2;have g2:=Option.some.inj g2;subst g2;rcases g3 with⟨_,g3⟩|⟨_,g4,g5,_⟩
    ·exact h1 g3
    ·rw[pD _ ab,g5]at h2;cases h2
   ·rintro⟨x,hx,h1⟩;obtain⟨i,hi⟩:=zaE.1 hx;have iX:i<pl.length:=aaX;obtain⟨y,x',g1,g2,g3⟩:=aD3 i iX;rw[hi]at g2;have g2:=Option.some.inj g2;subst g2;rcases g3 with⟨_,g3⟩|⟨_,g4,g5,_⟩<;>omega
  have aLI:lJ (Il a p tr) (C8 pl p tr N):=by
   have arb:=yB;unfold lJ at arb ⊢;rw[aHX,AY];show a.al=_/\if a.fl%2=1 then _/\_ else _
   refine⟨arb.1,?_⟩;have am2:=arb.2;by_cases hf:a.fl%2=1
   ·rw[if_pos hf]at am2 ⊢;refine⟨am2.1,λc hc=>?_⟩;unfold chunks at hc;obtain⟨k,SH,rfl⟩:=List.mem_map.1 hc;rw[AY]at SH;exact amB (aHY k).symm (am2.2 _ (by unfold chunks;exact List.mem_map.2 ⟨k,SH,rfl⟩))
   ·rw[if_neg hf]at am2 ⊢;exact am2
  unfold aK;rw[lO,hsE,if_neg aj,if_neg aj,if_neg (show ¬(Il a p tr).rs=true from λh=>by rw[show(Il a p tr).rs=a.rs from rfl,c_]at h;cases h),aD2,rH,if_neg aj];unfold iW;rw[if_pos aLI,if_neg aj];split
  ·rename_i g;rw[uS];show qw (J2 d.a_ pl p tr N) a.vd _=0;rw[aDX];exact pd g
  ·rfl
 ·unfold aV;rw[if_neg (show ¬(ar (Lz d a p tr) (Il a p tr)).a.rs=true from λh=>by rw[show(ar (Lz d a p tr) (Il a p tr)).a.rs=a.rs from rfl,c_]at h;cases h),if_neg (show ¬(ar d a).a.rs=true from λh=>ai8)];show nA a (if a.fl%2=1 then ow (Lz d a p tr).a_ (chunks (az (Il a p tr).rn.l))else rz (Lz d a p tr).a_ (az (Il a p tr).rn.l))=nA a (if a.fl%2=1 then ow d.a_ (chunks (az a.rn.l))else rz d.a_ (az a.rn.l));rw[aD2,hP,uS];show nA a (if a.fl%2=1 then ow (J2 d.a_ pl p tr N) _ else rz (J2 d.a_ pl p tr N) _)=_;rw[aDW,aDV]
 ·have hc:∀k,k<=N->gy (ON (df d) pl p tr k) d.n=gy (df d) d.n:=by
   intro k
   induction k with
   |zero=>intro _;rfl
   |succ k ih=>
    intro SH;obtain⟨x,I_,vR,mV⟩:=pe k ab;have hf:ON (df d) pl p tr (k+1)=λc=>if c=T+k then true else if c=x then false else ON (df d) pl p tr k c:=by
     funext c;show(if c=(tr.s+(k:Int)).toNat then true else if c=(pl[p.toNat+k]?.getD 0).toNat then false else ON (df d) pl p tr k c)=_;rw[rD,I_,zbA,zaC,show(tr.s+(k:Int)).toNat=T+k by omega]
    rw[hf,aut _ _ ab vR,ih ab]
    ·cases h:ON (df d) pl p tr k (T+k)with
     |false=>rfl
     |true=>
      rcases(lM k ab _).1 h with h|h
      ·omega
      ·rw[nj (T+k) ab ab]at h;cases h.1
    ·refine(lM k ab _).2 (.inr ⟨mV,?_⟩);rintro⟨j,hj,Gx⟩;have:=fu _ _ _ I_ Gx ab;omega
  rw[vp,vp];have e3:gy (λc=>decide (bH (Lz d a p tr).mp c=1)) d.n=gy (ON (df d) pl p tr N) d.n:=jq λc hc=>by
   rw[pD c hc];cases ON (df d) pl p tr N c<;>simp[mS]
  rw[e3,hc N (zai _)];rfl
 ·unfold E0;rw[Dl,Dl,aD2,hP,SF];have dz:=lM N (zai _) c;have hbc:=pD c hc;have cq:df d c=true↔bH d.mp c=1:=by unfold df;simp
  have aHU:=mK d.mp c;have ht:mS true=1:=rfl;have hf:mS false=0:=rfl;refine⟨λ⟨g1,g2⟩=>⟨?_,?_⟩,λ⟨g1,g2⟩=>?_,λg=>?_,λ⟨g1,g2⟩=>?_⟩
  ·rw[hbc];have l6:¬(T<=c/\c<T+N):=λh=>g2 (.inl h)
   by_cases CV:df d c=true
   ·rw[dz.2 (.inr ⟨CV,λ⟨j,_,hj⟩=>g1 (zag hj)⟩),ht,cq.1 CV]
   ·have:ON (df d) pl p tr N c=false:=by
     cases h:ON (df d) pl p tr N c with
     |false=>rfl
     |true=>
      rcases dz.1 h with h|h
      ·exact absurd h l6
      ·exact absurd h.1 CV
    rw[this,hf];have:¬bH d.mp c=1:=λh=>CV (cq.2 h)
    omega
  ·rw[uS];show eU d.a_ c=eU (J2 d.a_ pl p tr N) c;rw[aD1 c hc,if_neg λh=>g2 (.inl h)]
  ·rw[hbc];have:ON (df d) pl p tr N c=false:=by
    cases h:ON (df d) pl p tr N c with
    |false=>rfl
    |true=>
     rcases dz.1 h with h|h
     ·exact absurd (.inl h) g2
     ·exact absurd (.inr ⟨g1,h.2⟩) g2
   rw[this,hf]
  ·rw[hbc];have:ON (df d) pl p tr N c=true:=by
    rcases g with h|⟨h1,h2⟩
    ·exact dz.2 (.inl h)
    ·exact dz.2 (.inr ⟨cq.2 (eh c h1),h2⟩)
   rw[this,ht]
  ·rcases g1 with h|⟨h1,_⟩
   ·have:=nj c h.1 h.2;have:¬bH d.mp c=1:=λh=>by rw[cq.2 h]at this;cases this
    omega
   ·exact absurd h1 g2
def aBb(d:Dk)(a:At)(p:Int)(t:Rn):fE d (aB a) p t=fE d a p t:=FB
def ar7{d:Dk}{a:At}{p:Int}{t:Rn}(h0:aK d a=0)(hd:wU d)(hn:a.nm.length<=1000000):dJ d (aB a) p t=fE d a p t/\(fE d a p t≠0->jM d (aB a) p t=zD/\jG d (aB a) p t=zA)/\(fE d a p t=0->jM d (aB a) p t=Lz d a p t/\jG d (aB a) p t=Il a p t/\aK (Lz d a p t) (Il a p t)=0/\aV (ar (Lz d a p t) (Il a p t))=aV (ar d a)/\(Lz d a p t).n=d.n/\oF (Lz d a p t).mp d.n=oF d.mp d.n/\adv d (Lz d a p t) a (Il a p t)/\(Lz d a p t).a_.length=d.a_.length):=by
 have na:aK d (aB a)=0:=xJ;have e1:=(azk (p:=p) (tr:=t) na).1;rw[aBb]at e1;refine⟨e1,λh=>?_,λh=>?_⟩
 ·constructor
  ·unfold jM;rw[e1,if_pos h]
  ·unfold jG;rw[e1,if_pos h]
 ·have hm:=aBQ na hd hn (e1.trans h);refine⟨hm.D,hm.A,hm.op,?_,hm.n,hm.gy,hm.su,hm.len⟩;have:=hm.fN;rw[Hm]at this;exact this
def OI(ps:List PV)(x:PV):Prop:=∃(d:Dk) (a:At) (p n:Int) (aa:List UInt8) (t:Rn),ps=[d.pv,a.pv,.agg [pI p,pI n,.str aa,pI t.s,pI t.n]]/\x=pB true
set_option maxHeartbeats 8000000 in
def abi:MT (ay [(10,ah CM),(11,bF sJ),(13,c8 false dK),(51,c8 false W9),(14,ah aW),(52,ah Du),(16,bF Fv),(17,bF Av),(53,c8 false FY),(54,c8 false Qp),(23,ah dj),(37,ah DO)]) zQ (ah OI):=by
 rintro _ K ⟨_,⟨d,a,p,n,aa,t,rfl,rfl⟩,hK⟩;have lD:CM [] (pB true):=⟨rfl,rfl⟩
 by_cases SE:wV d a
 case neg=>
  (repeat'((conv=>whnf);first|refine⟨_,lD,?_⟩|refine⟨_,⟨d,a,rfl,rfl⟩,?_⟩|refine aN ?_|refine bP ?_|refine aw ab ?_|fail))<;>try(conv=>whnf)
  exact aI
 obtain⟨m1,m2,m3,m4,m5⟩:=id SE;have hd:wU d:=⟨ab,ab⟩
 have PI:=pR hd;have hn:a.nm.length<=1000000:=ab;have Aw:dK [a.pv] (.pv (aB a).pv):=⟨a,rfl,ab,rfl⟩
 have uk:W9 [d.pv,(aB a).pv,pI p,t.pv] (.tup [.pv (jM d (aB a) p t).pv,.pv (jG d (aB a) p t).pv,.pv (pI (dJ d (aB a) p t))]):=⟨d,aB a,p,t,rfl,⟨hd,hn⟩,rfl⟩
 have vv:aW [d.pv,a.pv] (pI (aK d a)):=⟨d,a,rfl,⟨PI,hn⟩,rfl⟩
 by_cases h0:aK d a=0
 case neg=>
  have e1:dJ d (aB a) p t=aK d a:=by unfold dJ;rw[kU,if_pos h0]
  have e2:jM d (aB a) p t=zD:=by unfold jM;rw[e1,if_pos h0]
  have e3:jG d (aB a) p t=zA:=by unfold jG;rw[e1,if_pos h0]
  rw[e1,e2,e3]at uk;have hf:=lC (aK d a);generalize aK d a=E at*
  (repeat'((conv=>whnf);first|refine⟨_,lD,?_⟩|refine⟨_,⟨d,a,rfl,rfl⟩,?_⟩|refine⟨_,Aw,?_⟩|refine⟨_,uk,?_⟩|refine⟨_,vv,?_⟩|refine⟨_,⟨zD,zA,E,E,rfl,ao,rfl⟩,?_⟩|refine aN ?_|refine au ab ?_|refine aw ab ?_|refine bT ?_|fail))<;>try(conv=>whnf)
  exact aI
 obtain⟨e1,e2,e3⟩:=ar7 (p:=p) (t:=t) h0 hd hn;have iE:Du [d.pv,a.pv,pI p,t.pv] (pI (fE d a p t)):=⟨d,a,p,t,rfl,⟨PI,h0,hn⟩,rfl⟩
 rw[e1]at uk;by_cases hx:fE d a p t=0
 case neg=>
  obtain⟨f2,f3⟩:=e2 hx;rw[f2,f3]at uk;rw[h0]at vv;have hf:=lC (fE d a p t);clear e1 e2 e3;generalize fE d a p t=E at*
  (repeat'((conv=>whnf);first|refine⟨_,lD,?_⟩|refine⟨_,⟨d,a,rfl,rfl⟩,?_⟩|refine⟨_,Aw,?_⟩|refine⟨_,uk,?_⟩|refine⟨_,vv,?_⟩|refine⟨_,iE,?_⟩|refine⟨_,⟨zD,zA,E,E,rfl,ao,rfl⟩,?_⟩|refine aN ?_|refine au ab ?_|refine bT ?_|fail))<;>try(conv=>whnf)
  exact aI
 obtain⟨g1,g2,g3,g4,g5,g6,g7,g8⟩:=e3 hx;have hm:SJ (ar d a) p t=0:=by
  unfold fE at hx;split at hx
  ·exact hx
  ·rename_i g;exact K6
 have mo:=Up hm;have hk:=mo.ok;unfold Pv at hk;have XJ:=mo.len;rw[show(ar d a).d=d from rfl]at hk;rw[show(ar d a).pl=az a.rn.l from rfl]at XJ;have ok:=(bc h0).1;have ok2:=(bc g3).1;obtain⟨_,_,b3,_⟩:=iR ok.bm;obtain⟨_,_,b4,b5,_⟩:=iR ok2.bm;have kr:=ok.nb;have cM:=Bj d.mp d.n;have hma:FY [a.pv,pI p,t.pv] (.pv (Il a p t).pv):=⟨a,p,t,rfl,⟨ok.rn,ab,ab,ab,ab,ab⟩,rfl⟩
 have PA:Qp [d.pv,a.pv,pI p,t.pv] (.pv (Lz d a p t).pv):=⟨d,a,p,t,rfl,⟨PI,h0,hm⟩,rfl⟩
 have aD5:fH (Lz d a p t):=⟨ab,by unfold sx at b5;omega⟩
 have aLK:aW [(Lz d a p t).pv,(Il a p t).pv] (pI 0):=⟨_,_,rfl,⟨aD5,hn⟩,by rw[g3]⟩
 have CY:dj [d.pv,a.pv] (.str (aV (ar d a))):=⟨d,a,rfl,⟨PI,h0⟩,rfl⟩
 have aLL:dj [(Lz d a p t).pv,(Il a p t).pv] (.str (aV (ar d a))):=⟨_,_,rfl,⟨aD5,g3⟩,by rw[g4]⟩
 have pe:DO [d.pv] (pI ((d.n:Int)-oF d.mp d.n)):=⟨d,rfl,⟨PI,ab⟩,rfl⟩
 have aLM:DO [(Lz d a p t).pv] (pI ((d.n:Int)-oF d.mp d.n)):=⟨_,rfl,⟨aD5,ab⟩,by rw[g5,g6]⟩
 have kf:(Il a p t).rn.l.length<=1000000:=by have:=(bZ ok2.rn).1;omega
 have HO:=PJ (Il a p t);rw[g1,g2,hx]at uk;rw[h0]at vv;rw[hx]at iE;clear e1 e2 e3 g1 g2 g3 g4 g5 g6 g7 g8 hm mo hk ok ok2;generalize Lz d a p t=D at*;generalize Il a p t=A at*;generalize aV (ar d a)=C at*
 (repeat'((conv=>whnf);first|refine oQ ?_|refine⟨_,lD,?_⟩|refine⟨_,⟨d,a,rfl,rfl⟩,?_⟩|refine⟨_,Aw,?_⟩|refine⟨_,uk,?_⟩|refine⟨_,vv,?_⟩|refine⟨_,aLK,?_⟩|refine⟨_,iE,?_⟩|refine⟨_,hma,?_⟩|refine⟨_,PA,?_⟩|refine⟨_,CY,?_⟩|refine⟨_,aLL,?_⟩|refine⟨_,pe,?_⟩|refine⟨_,aLM,?_⟩|refine⟨_,⟨A,A,rfl,⟨kf,kf⟩,rfl⟩,?_⟩|refine au rfl ?_|refine aN ?_|refine au ab ?_|refine aw ab ?_|fail))<;>try(conv=>whnf)
 exact aI
def ap_:∀xs,xS [vt,wk,Bl] xs->(ah OI).run xs λr=>r=.pv (.bool true):=λxs h=>by
 obtain⟨d,a,p,n,aa,t,rfl⟩:=LZ h;exact Sv
def aAt(h1:an bb 231 (ah Pt))(h2:an bb 287 (sB anV)):∀k,an bb 277 (sB (aoh k)):=by
 intro k
 induction k with
 |zero=>
  refine⟨λe=>cz,λe=>cz,λ_ _ _ _ _ e=>cz,λ_ _ _ _ _ _ _ _ h=>(show False from h).elim,?_⟩;rintro w ok di σ0 eR xs vs K _ PD ub ⟨ap,f,N,a,m,b,c,near,_,_,hp,_⟩;exfalso;omega
 |succ k ih=>
  exact nE.rJ mixed (aaB h1 (aaB h2 (aaB ih aq))) (by rintro _ _ _ ⟨_,_,_,_,_,_,_,_,rfl,_⟩;rfl) (apq k)
def dQ(lone:Bool)(R:List PV->RV->Prop):ajo (c8 lone R):=⟨λe=>cz,λ_ _ h=>h,rfl⟩
def apT:ajo BX:=by
 refine⟨λ_=>⟨rfl,λps K h=>?_⟩,λ_ _ h=>h,rfl⟩;obtain⟨a,b,rfl,h1,h2⟩:=h;by_cases ha:a=0
 ·exact⟨pI b,h2 ha,λK' h=>⟨a,b,rfl,λh'=>absurd ha h',λ_=>h⟩⟩
 ·exact⟨pI a,h1 ha,λK' h=>⟨a,b,rfl,λ_=>h,λh'=>absurd h' ha⟩⟩
def awF:ajo agk:=by
 refine⟨λ_=>⟨rfl,λps K h=>?_⟩,λ_ _ h=>h,rfl⟩;obtain⟨l,rfl,hp,hK⟩:=h;exact⟨_,hK,λK' h=>⟨l,rfl,hp,h⟩⟩
def SN:MT (ay []) RZ (ah gB):=kS
def rQ:=Qi.snd (by trivial) I0
def th:=Wl.snd (by exact⟨rQ,trivial⟩) No
def fJ:=Ul.snd (by exact⟨th,trivial⟩) Ki
def ja:=Ov.snd (by exact⟨fJ,trivial⟩) Hr
def rP:=Q7.snd (by trivial) IT
def uB:=DQ.snd (by trivial) Sj
def eZ:=Rh.snd (by trivial) IX
def kL:=Tz.snd (by trivial) JC
def ca:=Sh.snd (by trivial) I5
def c7:=WK.snd (by exact⟨ca,trivial⟩) MP
def gN:=Kr.snd (by exact⟨ja,trivial⟩) Er
def nh:=IK.snd (by exact⟨gN,trivial⟩) CI
def lr:=Gc.snd (by trivial) Ah
def tA:=VU.snd (by trivial) alL
def k7:=VY.snd (by exact⟨tA,trivial⟩) amt
def yZ:=IM.aD (by trivial) aqs
def sG:=I6.snd (by exact⟨ca,fJ,tA,trivial⟩) T8
def vD:=MA.snd (by exact⟨ca,eZ,kL,rP,ja,c7,trivial⟩) Zl
def q8:=GU.snd (by exact⟨vD,c7,trivial⟩) Qo
def vG:=M3.snd (by exact⟨ca,trivial⟩) Y2
def pF:=Si.snd (by trivial) ae4
def Aq:=RH.snd (by exact⟨pF,eZ,trivial⟩) afO
def yC:=QZ.snd (by exact⟨fJ,pF,c7,q8,trivial⟩) afI
def we:=Qc.snd (by trivial) akb
def mA:=MR.snd (by trivial) YU
def uP:=Iz.snd (by trivial) M7
def wI:=DQ.snd (by trivial) Np
def ej:=Vz.snd (by trivial) Nc
def dq:=ag5.snd (by trivial) Te
def jR:=amG.snd (by trivial) ZX
def vT:=aeZ.snd (by trivial) aiJ
def xK:=Vd.snd (by exact⟨vT,trivial⟩) ahr
def vS:=acL.snd (by trivial) amE
def Cb:=WJ.snd (by exact⟨wI,trivial⟩) acC
def eF:=aj6.snd (by exact⟨dq,trivial⟩) ae9
def KT:=ah9.snd (by exact⟨Cb,xK,eF,trivial⟩) agy
def nU:=JV.snd (by exact⟨uP,vS,ej,trivial⟩) PQ
def CB:=acw.snd (by exact⟨eF,trivial⟩) YN
def lq:=Iz.snd (by trivial) acU
def bw:=DQ.snd (by trivial) acX
def rZ:=Pr.snd (by trivial) as7
def wg:=acs.snd (by exact⟨nU,trivial⟩) alR
def ir:=BK.snd (by exact⟨rZ,trivial⟩) TS
def yz:=LK.snd (by exact⟨ir,trivial⟩) akQ
def kx:=Ga.snd (by exact⟨yz,ir,trivial⟩) ade
def mb:an bb 180 BX:=Yw.sound mixed aq apT (by rintro _ _ ⟨_,_,rfl,_⟩;rfl) agS
def tO:=X7.snd (by exact⟨wg,mb,ej,lq,rZ,trivial⟩) ahs
def Gl:=ZZ.snd (by exact⟨lq,vS,trivial⟩) aip
def vC:=Pg.snd (by exact⟨Gl,trivial⟩) V4
def s8:=DK.snd (by trivial) agM
def LB:an bb 112 agk:=ae7.sound mixed (aaB xK (aaB dq aq)) awF (by rintro _ _ ⟨_,rfl,_⟩;rfl) alp
def En:=VK.snd (by trivial) ahJ
def yA:=Q_.snd (by exact⟨En,trivial⟩) adf
def Pj:=afq.snd (by trivial) ar9
def vZ:=adp.snd (by trivial) amx
def jE:=KN.snd (by exact⟨Pj,yA,vZ,trivial⟩) ak8
def jV:=nw.aD (by trivial) al5
def lp:=oL.aD (by exact⟨jV,trivial⟩) ap8
def jg:=lx.aD (by exact⟨jE,trivial⟩) apR
def z7:=Uy.snd (by exact⟨wg,mb,ej,lq,trivial⟩) acD
def fG:=Gh.snd (by trivial) adq
def fD:=iO.snd (by exact⟨fG,trivial⟩) afY
def fB:=iL.aD (by exact⟨fD,fG,trivial⟩) agA
def y7:=K8.snd (by exact⟨kx,fB,fG,trivial⟩) akS
def yu:=LH.snd (by exact⟨y7,vZ,trivial⟩) amJ
def kB:=QM.snd (by trivial) kS
def Hz:=adw.snd (by trivial) Qv
def fA:=OP.snd (by trivial) jP
def D9:=ZC.snd (by trivial) OQ
def jo:=ac9.snd (by trivial) RG
def oK:=OM.snd (by trivial) uL
def nr:=acA.snd (by trivial) Sd
def fT:=acP.snd (by trivial) ae1
def Ae:=Wh.snd (by exact⟨fT,nr,jo,trivial⟩) Yf
def vV:=agd.snd (by exact⟨fT,trivial⟩) akf
def sE:=Th.aD (by exact⟨fT,trivial⟩) al1
def jr:=ac8.snd (by trivial) agW
def GQ:=adj.snd (by exact⟨bw,trivial⟩) ajL
def uc:=acZ.snd (by trivial) ads
def DU:=aat.snd (by trivial) agB
def BU:=V0.snd (by exact⟨DU,trivial⟩) adu
def iH:=Yd.snd (by trivial) abN
def KV:=acR.snd (by exact⟨GQ,uc,BU,iH,trivial⟩) acx
def KR:=ahF.snd (by exact⟨KV,trivial⟩) ah_
def tE:=TO.snd (by exact⟨Ae,vV,sE,jr,jo,trivial⟩) Wc
def jL:=Vd.snd (by exact⟨vT,trivial⟩) alr
def Q6:=aaz.snd (by trivial) apt
def vk:=alj.snd (by trivial) aqO
def ni:=acQ.snd (by trivial) afU
def dc:=Qc.snd (by trivial) Ye
def Bd:=X4.snd (by exact⟨bw,ni,jR,trivial⟩) Zo
def FP:=acK.snd (by exact⟨nr,trivial⟩) afr
def FM:=adl.snd (by trivial) agJ
def lu:=aaM.snd (by exact⟨tE,trivial⟩) ac2
def vL:=QA.snd (by exact⟨lu,fT,FP,FM,trivial⟩) Uu
def Bo:=aaZ.snd (by exact⟨Bd,ni,dc,trivial⟩) abv
def nF:=uY.snd (by trivial) Uk
def wF:=MN.snd (by exact⟨nF,trivial⟩) Wt
def HB:=acv.snd (by trivial) ac5
def DJ:=VD.snd (by exact⟨HB,trivial⟩) adB
def ka:=Js.snd (by trivial) Ro
def tU:=EF.snd (by exact⟨fA,kB,trivial⟩) afP
def D6:=Z3.snd (by exact⟨vk,trivial⟩) Zv
def yL:=TM.snd (by exact⟨vk,trivial⟩) SM
def tg:=E7.snd (by exact⟨DJ,trivial⟩) Wi
def x_:=Ni.snd (by trivial) YZ
def FN:=Wz.aD (by trivial) als
def Ai:=TG.snd (by trivial) acG
def wN:=MJ.snd (by trivial) adm
def Ak:=MZ.snd (by exact⟨vL,Ai,wN,FN,ka,trivial⟩) ac6
def Eg:=Y_.snd (by exact⟨jL,dc,trivial⟩) afw
def GI:=abI.snd (by exact⟨Bo,jL,ni,Q6,jR,iH,dc,Eg,trivial⟩) YD
def Br:=TZ.snd (by exact⟨yL,bw,KR,iH,trivial⟩) Y1
def rC:=ajh.snd (by exact⟨D6,tg,bw,Br,x_,GI,trivial⟩) aiZ
def hH:=aeW.snd (by trivial) Ua
def mQ:=acq.snd (by exact⟨hH,trivial⟩) QO
def nX:=aaz.snd (by trivial) aay
def mC:=adF.snd (by exact⟨dq,trivial⟩) P0
def sa:=VC.snd (by exact⟨mC,dq,trivial⟩) MG
def yS:=T7.snd (by exact⟨hH,uB,sa,trivial⟩) P4
def sR:=Nh.snd (by exact⟨yS,mQ,trivial⟩) Lk
def xd:=PM.snd (by exact⟨sR,trivial⟩) Vw
def oU:=TV.snd (by exact⟨hH,trivial⟩) PU
def fg:=Wq.snd (by trivial) S0
def sn:=adn.snd (by exact⟨fg,trivial⟩) adr
def rU:=ZT.snd (by exact⟨fg,dq,mC,nX,mQ,xd,trivial⟩) VX
def rl:=JF.snd (by trivial) N0
def DV:=Ld.snd (by exact⟨we,sn,fg,rU,oU,rl,trivial⟩) H7
def bY:=X9.snd (by trivial) Pc
def bL:=VM.snd (by trivial) MW
def ri:=VT.snd (by trivial) MU
def dw:=VF.snd (by trivial) ML
def d_:=MV.snd (by trivial) Gg
def rm:=WM.snd (by trivial) Nf
def fh:=Qq.snd (by exact⟨ri,trivial⟩) IW
def kz:=Eh.snd (by trivial) IV
def ch:=yF.snd (by trivial) CC
def fI:=Fk.snd (by trivial) JG
def lS:=HP.snd (by exact⟨fI,trivial⟩) MB
def lf:=acJ.snd (by exact⟨dw,trivial⟩) Rp
def gz:=MO.snd (by exact⟨dw,trivial⟩) Tu
def qA:=Nr.snd (by trivial) TX
def mR:=IJ.snd (by trivial) OF
def lR:=IP.snd (by trivial) Kn
def wA:=Kz.snd (by trivial) M0
def jb:=QY.snd (by trivial) IQ
def CA:=VH.snd (by exact⟨dw,trivial⟩) Nl
def lN:=GF.snd (by trivial) agq
def qh:=CG.snd (by exact⟨lN,trivial⟩) VQ
def fV:=yM.snd (by trivial) Pp
def qX:=Cq.snd (by exact⟨fV,trivial⟩) adk
def nH:=ya.snd (by exact⟨qX,trivial⟩) SU
def jn:=Zs.snd (by exact⟨d_,tO,trivial⟩) ajH
def jt:=aa6.snd (by exact⟨vC,trivial⟩) ajC
def qC:=CD.snd (by exact⟨d_,nH,fV,dw,tO,trivial⟩) V_
def mq:=Pw.snd (by exact⟨bL,d_,nU,bY,trivial⟩) Wy
def gM:=Hn.snd (by trivial) ae8
def bx:=S2.snd (by trivial) Ty
def dT:=WN.snd (by trivial) Wa
def jy:=WC.snd (by exact⟨bx,KT,trivial⟩) V7
def eO:=aka.snd (by trivial) ajc
def AS:=aad.snd (by exact⟨eO,jL,trivial⟩) XZ
def pP:=aaT.snd (by exact⟨dT,trivial⟩) YM
def bp:=Fu.snd (by trivial) aqa
def CU:=MD.snd (by exact⟨gz,lR,qA,trivial⟩) arI
def CJ:=M1.snd (by exact⟨gz,lR,qA,trivial⟩) asD
def Ec:=OY.snd (by exact⟨gz,wA,trivial⟩) arR
def gC:=jS.snd (by trivial) aga
def pt:=Ac.snd (by exact⟨s8,trivial⟩) T6
def sY:=EH.snd (by exact⟨d_,ri,bL,bY,jn,lf,pt,trivial⟩) acp
def GA:=Wn.aD (by exact⟨vV,trivial⟩) aqm
def y6:=Pu.aD (by exact⟨GA,trivial⟩) agx
def Nn:=ail.snd (by exact⟨fT,trivial⟩) alA
def A8:=Ql.snd (by trivial) aj9
def ru:=JF.snd (by trivial) Zt
def yY:=Vy.snd (by exact⟨bp,pP,DV,ru,trivial⟩) Wf
def bU:=ais.snd (by exact⟨jy,rC,eO,bp,bx,eF,A8,AS,yY,trivial⟩) aj2
def I7:=Ld.snd (by exact⟨we,sn,fg,rU,oU,rl,trivial⟩) Tg
def cS:=Wo.snd (by exact⟨bp,eO,pP,I7,dc,dT,trivial⟩) Wk
def yp:=VZ.snd (by trivial) Tv
def bo:=Jn.snd (by exact⟨yp,trivial⟩) acO
def pg:=afz.snd (by trivial) aie
def nN:=V8.snd (by trivial) T0
def ff:=JT.snd (by exact⟨nN,trivial⟩) aiS
def qg:=agI.snd (by exact⟨bx,CB,trivial⟩) akU
def HA:=af0.snd (by exact⟨uc,trivial⟩) ag2
def G0:=ag1.snd (by exact⟨HA,trivial⟩) agV
def As:=Fu.snd (by trivial) amn
def lX:=GC.snd (by exact⟨bo,As,G0,trivial⟩) agK
def yT:=Wr.snd (by exact⟨bw,bx,bp,eF,lX,rC,trivial⟩) WI
def I9:=R2.snd (by exact⟨eF,trivial⟩) abP
def Al:=Qn.snd (by exact⟨bp,bx,I9,dT,pg,LB,trivial⟩) afk
def Li:=agR.snd (by exact⟨dc,trivial⟩) TL
def x7:=afK.snd (by trivial) akY
def dN:=acV.snd (by trivial) ah3
def iK:=aaD.snd (by exact⟨ff,trivial⟩) agP
def vU:=afb.snd (by trivial) SN
def ey:an bb 283 yg:=agN (aaB gN (aaB nh aq))
def pQ:an bb 131 (ah Lo):=aqk
def iq:an bb 223 (sB C4):=af2
def td:an bb 188 (sB ZR):=aqS
def mH:an bb 289 (ah qc):=af6
def jJ:an bb 213 L7:=alX aq
def kn:an bb 277 (sB ae_):=aAt jE lp 100000
def qk:an bb 192 (c8 true Xi):=aus
def kJ:=EO.snd (by exact⟨ey,trivial⟩) acI
def rB:=DS.snd (by exact⟨kJ,ey,trivial⟩) Zb
def sZ:=EU.snd (by exact⟨kJ,ey,trivial⟩) acM
def yQ:=J6.snd (by exact⟨rB,trivial⟩) alW
def wG:=IN.snd (by exact⟨yQ,trivial⟩) akd
def sU:=Ez.snd (by exact⟨wG,lr,sZ,c7,trivial⟩) ac1
def pn:=Ap.aD (by exact⟨iq,trivial⟩) Wg
def m_:=yq.aD (by exact⟨iq,trivial⟩) PW
def CH:=S5.snd (by exact⟨ca,sG,c7,pn,m_,yZ,td,k7,trivial⟩) ahS
def rj:=TY.snd (by exact⟨pQ,trivial⟩) aiO
def vK:=MS.snd (by exact⟨rj,sU,CH,mA,trivial⟩) aag
def mB:=I4.snd (by exact⟨rj,Aq,eZ,kL,yC,vG,mA,trivial⟩) To
def ll:=oJ.aD (by exact⟨jg,kn,trivial⟩) aqN
def eW:=gU.aD (by exact⟨ll,trivial⟩) afN
def wO:=R1.snd (by exact⟨z7,yu,kx,eW,jE,mb,ej,trivial⟩) V2
def uO:=MC.snd (by exact⟨mH,trivial⟩) Wb
def zi:=Nk.snd (by exact⟨uO,trivial⟩) RU
def vN:=M6.snd (by exact⟨zi,trivial⟩) RS
def oh:=zj.snd (by exact⟨vN,trivial⟩) Un
def lv:=vI.snd (by exact⟨oh,trivial⟩) Nq
def yv:=S9.snd (by exact⟨lv,trivial⟩) ZY
def B9:=V3.snd (by exact⟨yv,wF,trivial⟩) adg
def B0:=Sg.snd (by exact⟨D9,B9,Hz,trivial⟩) VR
def yD:=O8.snd (by exact⟨qk,trivial⟩) ae5
def vJ:=MX.snd (by exact⟨B0,fA,trivial⟩) Z7
def wm:=KZ.snd (by exact⟨qk,fA,kB,oK,tE,ka,trivial⟩) afi
def dO:=Bp.snd (by exact⟨yD,fA,vJ,oK,kB,tU,wm,Ak,trivial⟩) JJ
def vB:=Hi.snd (by exact⟨jJ,trivial⟩) ahK
def tX:=Bs.snd (by exact⟨jJ,trivial⟩) VJ
def vM:=Km.snd (by exact⟨tX,trivial⟩) acY
def iI:=Zn.snd (by exact⟨pQ,trivial⟩) OA
def ij:=WH.snd (by exact⟨iI,trivial⟩) Na
def iB:=IL.snd (by exact⟨vB,vM,trivial⟩) aiX
def wS:=IS.snd (by exact⟨ij,trivial⟩) ahL
def cw:=Fx.snd (by exact⟨ch,iB,lS,mB,wS,iI,fI,trivial⟩) acW
def rN:=Ei.snd (by exact⟨lf,ch,rm,iB,lN,kz,bL,trivial⟩) abw
def mw:=OK.snd (by exact⟨dO,bL,bY,trivial⟩) VO
def rA:=DR.snd (by exact⟨iB,lS,mB,lf,iI,trivial⟩) abH
def cY:=acu.snd (by exact⟨mq,mw,bY,jb,qC,rN,ch,rA,trivial⟩) ajq
def rr:=VS.snd (by exact⟨cY,fh,bL,bY,cw,trivial⟩) afM
def my:=OH.snd (by exact⟨mw,trivial⟩) Wv
def uz:=He.snd (by exact⟨ch,ij,vK,rm,kz,CU,CJ,Ec,trivial⟩) agp
def u_:=Hw.aD (by exact⟨gz,dw,qh,jt,wO,jb,trivial⟩) agC
def oM:=K_.snd (by exact⟨uz,jn,u_,CA,lf,dO,jt,trivial⟩) ak9
def kH:=FU.snd (by exact⟨gM,oM,trivial⟩) ack
def aaC:=Tr.snd (by exact⟨cY,fh,bL,bY,gC,cw,ij,mR,kH,trivial⟩) adi
def gk:=Us.snd (by exact⟨cY,fh,bL,bY,cw,ij,mR,kH,trivial⟩) V6
def El:=SW.aD (by exact⟨sE,jo,jr,vU,trivial⟩) al3
def Kg:=aiQ.snd (by exact⟨y6,El,trivial⟩) ai7
def ym:=Ud.snd (by exact⟨lu,nr,jo,jr,vU,trivial⟩) VV
def Ad:=VE.snd (by exact⟨lu,jr,ym,Nn,Kg,trivial⟩) aao
def EY:=ZH.snd (by exact⟨cY,sY,Ad,dO,jn,fI,jt,trivial⟩) aj8
def eY:=acS.snd (by exact⟨my,Li,x7,aaC,rr,gk,iH,trivial⟩) aco
def vE:=Nb.snd (by exact⟨eY,dN,bo,EY,bU,yT,iK,ff,lX,Al,cS,qg,trivial⟩) abi
end Go.Dv.Try
