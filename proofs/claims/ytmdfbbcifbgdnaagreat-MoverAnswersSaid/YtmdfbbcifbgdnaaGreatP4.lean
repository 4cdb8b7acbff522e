/- Own work: parts of the proof, shortened and laid together by a tool of our own. -/
import Derived.Test.YtmdfbbcifbgdnaaGreatP3
import Derived.KernelRfl
import Derived.MapKept
set_option linter.defProp false
set_option linter.unusedSimpArgs false
set_option linter.unusedVariables false
open List renaming getElem?_eq_getElem→zah, mem_of_getElem?→zag, take_of_length_le→za1, length_append→zad, length_map→zav, take_add_one→zcX, drop_eq_nil_of_le→zcc, length_take→zal, map_append→zbu, length_cons→zam, take_length→zcZ, append_assoc→zaj, drop_eq_getElem_cons→zcj, mem_singleton→zc2, getElem?_map→za9, length_pos_iff→zcb, mem_append→zaA, mem_of_mem_take→zaL, mem_map→zaX, length_nil→zaY, getElem?_set_self→zbQ, flatMap_cons→zan, length_replicate→zap, mem_of_getLast?→zc3, pairwise_append→zc4, mem_cons→zaw, getLast?_eq_getElem?→zc5, nil_append→zaZ, filter_append→zb0, map_replicate→zcm, drop_left→zbk, mem_range→zbm, getElem?_cons_zero→zc8, pairwise_singleton→zc9, set_append_right→zcF, getElem?_eq_none→zaK, append_nil→zbf, getLast?_eq_some_getLast→zdb, getElem?_range→zbD, dropLast_concat_getLast→zdc, map_take→zdd, map_drop→zdf, getElem?_take_of_lt→zdg, map_set→zdh, cons_append→zbd, length_drop→zax, range_succ→zdi, drop_drop→zaQ, length_filter_le→zdj, take_append_drop→zaD, drop_zero→zdk, drop_take→zdl, getElem?_set_ne→zcG, dropLast_subset→zdm, map_cons→zat, any_cons→zdn, filter_eq_self→zbW, drop_set_of_lt→zdo, getElem?_drop→zaB, any_nil→zdr, pairwise_cons→zds, any_eq_false→zdu, ext_getElem?→zba, getElem_mem→zdw, not_mem_nil→zb9, all_eq_true→zbo, mem_flatMap→zbz, mem_filter→zbn, length_set→za0, any_append→zdA, take_left→zbj
open And renaming intro→zcB
open Decidable renaming not_not→zcY
open Bool renaming false_eq_true→zcn, or_false→zde, toNat_false→zdx, and_eq_true→zaU, eq_iff_iff→zaN, or_eq_true→zbE, toNat_true→zdz
open Nat renaming le_refl→zai, lt_or_eq_of_le→zc0, le_of_lt_succ→zc1, dvd_of_mod_eq_zero→zda, min_eq_right→zbK, min_eq_left→zas, pow_le_pow_right→zb8, add_assoc→zaJ, sub_self→zck, add_mod_right→zdt
open Int renaming toNat_natCast→zaC, eq_ofNat_of_zero_le→zc6, ediv_ediv_of_nonneg→zc7, pow_succ→zdp, le_refl→zdv
open Option renaming getD_some→zbA, toList_some→zdq
open UInt8 renaming toNat_inj→zdy
namespace Go.Dv.Try
open Go Go.Dv
def aoh(k:Nat)(xs:List AV)(σ:aF)(K:AV->aF->Prop):Prop:=
 ∃(ap:Bool) (f:Nat->Rn) (N:Nat) (a m b c near:Int),xs=[.own 0,.pv (pI a),.pv (pI m),.pv (pI b),.pv (OD c near)]/\σ=[Cf ap f N]/\
  (0<=a/\a<m/\m<b/\b<=N/\N<=100000/\b-a<=k/\(∀j,I3 (f j))/\aee near/\bl (vw near) a.toNat m.toNat f/\bl (vw near) m.toNat b.toNat f)/\
  ∀g,fg a.toNat b.toNat f g->bl (vw near) a.toNat b.toNat g->K (.tup []) [Cf ap g N]
def TN{near:Int}{p q:Rn}(h:alq near p q<0):vw near p q=true:=by unfold vw;rw[decide_eq_true_iff];exact h
def SQ{near:Int}{p q:Rn}(h:¬alq near p q<0):vw near p q=false:=by unfold vw;rw[decide_eq_false_iff_not];exact h
def Qj(g:Nat->Rn)(a k:Nat):Nat->Rn:=λj=>if j=k then g a else if a<=j/\j<k then g (j+1)else g j
def aej(g:Nat->Rn)(a:Nat):Qj g a a=g:=by
 funext j;unfold Qj
 repeat' split
 all_goals first|(exfalso;omega)|rfl|(congr 1<;>omega)
def aea(g:Nat->Rn){a k:Nat}(h:a<=k):FL (Qj g a k) k (k+1)=Qj g a (k+1):=by
 funext j;unfold FL Qj
 repeat' split
 all_goals first|(exfalso;omega)|rfl|(congr 1<;>omega)
def apH(g:Nat->Rn){a:Nat}:∀d,fg a (a+d+1) g (Qj g a (a+d)):=by
 intro d
 induction d with
 |zero=>rw[show a+0=a by omega,aej];exact .refl _ _ _
 |succ d ih=>
  rw[<-zaJ,<-aea g ab];exact(ih.wide (zai _) ab ab).trans ((YE _).wide ab ab ab)
def aiq{lt:Rn->Rn->Bool}(o:Ord lt){a b k:Nat}{g:Nat->Rn}(hs:bl lt (a+1) b g)(hk:a<=k)(hkb:k<b)(h1:∀j,a<j->j<=k->lt (g j) (g a)=true)(h2:k+1<b->lt (g (k+1)) (g a)=false):bl lt a b (Qj g a k):=by
 apply Vn o;intro j hj sy;show lt (if j+1=k then g a else if a<=j+1/\j+1<k then g (j+1+1)else g (j+1)) (if j=k then g a else if a<=j/\j<k then g (j+1)else g j)=false;by_cases e1:j=k
 ·rw[if_neg ab,if_neg ab,if_pos e1,e1];exact h2 ab
 ·rw[if_neg e1];by_cases e2:j+1=k
  ·rw[if_pos e2,if_pos ab];exact o.asymm _ _ (h1 (j+1) ab ab)
  ·rw[if_neg e2];by_cases e3:j<k
   ·rw[if_pos ab,if_pos ab];exact hs _ _ ab ab ab
   ·rw[if_neg ab,if_neg ab];exact hs _ _ ab ab ab
set_option maxHeartbeats 4000000 in
def Fc{lt:Rn->Rn->Bool}{a i b:Nat}{g:Nat->Rn}(c1:bl lt a i g)(c2:bl lt i b g)(h:¬(a<i/\i<b))(h1:a<=i)(h2:i<=b):bl lt a b g:=by
 by_cases e:a=i
 ·exact e▸c2
 ·rw[show b=i by omega];exact c1
def aaY{lt:Rn->Rn->Bool}{a k e b:Nat}{f g0 g1:Nat->Rn}(q1:fg a k g0 g1)(p0:fg a b f g0)(ha:a<=k)(hk:k<=e)(he:e<=b)(c3:bl lt k e g0)(c4:bl lt e b g0)(cx:∀x y,a<=x->x<k->k<=y->y<b->lt (g0 y) (g0 x)=false):
 bl lt k e g1/\bl lt e b g1/\(∀x y,a<=x->x<k->k<=y->y<b->lt (g1 y) (g1 x)=false)/\fg a b f g1:=by
 refine⟨dM c3 λy y1 y2=>q1.2 y ab,dM c4 λy y1 y2=>q1.2 y ab,λx y hx vR hy cj=>?_,p0.trans (q1.wide (zai _) ab ab)⟩;obtain⟨z,mL,hz2,hz⟩:=q1.mem hx vR;rw[hz,q1.2 y ab];exact cx z y mL hz2 hy cj
def aar{lt:Rn->Rn->Bool}{a k b:Nat}{f g1 g2:Nat->Rn}(p1:fg a b f g1)(t1:bl lt a k g1)(sX:∀x y,a<=x->x<k->k<=y->y<b->lt (g1 y) (g1 x)=false)(q2:fg k b g1 g2)(t2:bl lt k b g2)(ha:a<=k)(hb:k<=b):
 fg a b f g2/\bl lt a b g2:=by
 refine⟨p1.trans (q2.wide ha (zai _) hb),nO (dM t1 λy y1 y2=>q2.2 y ab) t2 λx y hx vR hy cj=>?_⟩;obtain⟨z,mL,hz2,hz⟩:=q2.mem hy cj;rw[hz,q2.2 x ab];exact sX x z hx vR mL hz2
set_option maxHeartbeats 1000000 in
def apq(k:Nat):gO (ay [(273,ah Pt),(309,sB anV),(303,sB (aoh k))]) gn (sB (aoh (k+1))):=by
 rintro _ _ K ⟨ap,f,N,a,m,b,c,near,rfl,rfl,⟨h0,h1,h2,h3,h4,h5,hB,hN,lX,ZI⟩,hK⟩;have ho:=Ma near
 (repeat'(refine iM ?_;first|refine bj ab ?_|refine de (λ_=>?_) (λ_=>?_)|refine DW ab ?_|refine awP ab ?_|fail))<;>try(conv=>whnf)
 ·rename_i mY;refine⟨λq env σ=>∃(i j:Int),(q=(j-i).toNat/\m<=i/\i<=j/\j<=b/\(∀x:Nat,m<=x->x<i->vw near (f x) (f a.toNat)=true)/\(j<b->vw near (f j.toNat) (f a.toNat)=false))/\σ=[Cf ap f N]/\env=[(0,.own 0),eN 1 a,(4,.pv (OD c near)),eN 10 i,eN 11 j],(b-m).toNat,⟨m,b,⟨rfl,ab,ab,ab,λx hx vR=>ab,λh=>ab⟩,rfl,rfl⟩,?_⟩;rintro q env σ ⟨i,j,⟨hq,hi,zk,hj,aU,lA⟩,rfl,rfl⟩
  (repeat'(refine iM ?_;first|refine bj ab ?_|refine de (λ_=>?_) (λ_=>?_)|refine DW ab ?_|refine awP ab ?_|refine Vx ab ?_|refine Ug ab ?_|refine bT ?_|fail))<;>try(conv=>whnf)
  ·refine⟨_,⟨_,_,c,near,rfl,⟨hB _,hB _,hN⟩,rfl⟩,?_⟩
   (repeat'(refine iM ?_;first|refine bj ab ?_|refine de (λ_=>?_) (λ_=>?_)|fail))<;>try(conv=>whnf)
   ·rename_i hc;have hc:=TN hc;refine⟨(j-((i+j)/2+1)).toNat,ab,(i+j)/2+1,j,⟨rfl,ab,ab,ab,λx hx vR=>?_,lA⟩,rfl,rfl⟩;cases hh:vw near (f x) (f a.toNat)with
    |true=>rfl
    |false=>
     have:=ho.trans _ _ _ hh (ZI x ((i+j)/2).toNat ab ab ab);rw[hc]at this;cases this
   ·rename_i hc;have hc:=SQ hc;exact⟨((i+j)/2-i).toNat,ab,i,(i+j)/2,⟨rfl,ab,ab,ab,aU,λ_=>hc⟩,rfl,rfl⟩
  ·rename_i aKZ;have zk:i=j:=ab;subst zk;refine⟨λq env σ=>∃(x:Int),(q=(i-1-x).toNat/\a<=x/\x<=i-1)/\σ=[Cf ap (Qj f a.toNat x.toNat) N]/\env=[(0,.own 0),eN 10 i,eN 13 x],(i-1-a).toNat,⟨a,⟨rfl,ab,ab⟩,by rw[aej],rfl⟩,?_⟩;rintro q env σ ⟨x,⟨hq,hx,vR⟩,rfl,rfl⟩
   (repeat'(refine iM ?_;first|refine axL ab ?_|refine bj ab ?_|refine de (λ_=>?_) (λ_=>?_)|refine Vx ab ?_|refine Ug ab ?_|refine bT ?_|refine zcB cu ?_|fail))<;>try(conv=>whnf)
   ·refine⟨(i-1-(x+1)).toNat,ab,x+1,⟨rfl,ab,ab⟩,?_,rfl⟩;refine congrArg (λx=>[dC.row _ _ _ x]) ?_;rw[show PV.agg [pI (Qj f a.toNat x.toNat (x+1).toNat).s,pI (Qj f a.toNat x.toNat (x+1).toNat).n]=(Qj f a.toNat x.toNat (x+1).toNat).pv from rfl,
     show PV.agg [pI (Qj f a.toNat x.toNat x.toNat).s,pI (Qj f a.toNat x.toNat x.toNat).n]=(Qj f a.toNat x.toNat x.toNat).pv from rfl,oU,oU,tg,tg]
    refine congrArg (List.map Rn.pv) ?_;rw[show(x+1).toNat=x.toNat+1 by omega,<-aea f ab];refine kT λy _=>?_
    unfold FL
    repeat' split
    all_goals first|(exfalso;omega)|rfl
   ·have hxi:x=i-1:=by omega
    refine hK _ ?_ ?_
    ·have:=apH f (a:=a.toNat) (x-a).toNat;rw[show a.toNat+(x-a).toNat=x.toNat by omega]at this;exact this.wide (zai _) ab ab
    ·refine aiq ho (amH ZI ab (zai _)) ab ab (λy h6 h7=>aU y ab ab) λh=>?_
     rw[show x.toNat+1=i.toNat by omega];exact lA ab
 ·rename_i mY eE;refine⟨λq env σ=>∃(i j:Int),(q=(j-i).toNat/\a<=i/\i<=j/\j<=m/\(a<i->vw near (f m.toNat) (f (i-1).toNat)=false)/\(∀x:Nat,j<=x->x<m->vw near (f m.toNat) (f x)=true))/\σ=[Cf ap f N]/\env=[(0,.own 0),eN 2 m,(4,.pv (OD c near)),eN 14 i,eN 15 j],(m-a).toNat,⟨a,m,⟨rfl,ab,ab,ab,λh=>ab,λx hx vR=>ab⟩,rfl,rfl⟩,?_⟩;rintro q env σ ⟨i,j,⟨hq,hi,zk,hj,lA,aU⟩,rfl,rfl⟩
  (repeat'(refine iM ?_;first|refine bj ab ?_|refine de (λ_=>?_) (λ_=>?_)|refine DW ab ?_|refine awP ab ?_|refine Vx ab ?_|refine Ug ab ?_|refine bT ?_|fail))<;>try(conv=>whnf)
  ·refine⟨_,⟨_,_,c,near,rfl,⟨hB _,hB _,hN⟩,rfl⟩,?_⟩
   (repeat'(refine iM ?_;first|refine bj ab ?_|refine aN ?_|refine bP ?_|refine de (λ_=>?_) (λ_=>?_)|fail))<;>try(conv=>whnf)
   ·rename_i hc;have hc:=TN hc;refine⟨((i+j)/2-i).toNat,ab,i,(i+j)/2,⟨rfl,ab,ab,ab,lA,λx hx vR=>?_⟩,rfl,rfl⟩;cases hh:vw near (f m.toNat) (f x)with
    |true=>rfl
    |false=>
     have:=ho.trans _ _ _ (lX ((i+j)/2).toNat x ab ab ab) hh;rw[hc]at this;cases this
   ·rename_i hc;have hc:=SQ hc;refine⟨(j-((i+j)/2+1)).toNat,ab,(i+j)/2+1,j,⟨rfl,ab,ab,ab,λ_=>?_,aU⟩,rfl,rfl⟩;rw[show(i+j)/2+1-1=(i+j)/2 by omega];exact hc
  ·rename_i aKZ;have zk:i=j:=ab;subst zk;refine⟨λq env σ=>∃(x:Int),(q=(x-i).toNat/\i<=x/\x<=m)/\σ=[Cf ap (s_ f x.toNat m.toNat) N]/\env=[(0,.own 0),eN 14 i,eN 17 x],(m-i).toNat,⟨m,⟨rfl,ab,ab⟩,by rw[S8],rfl⟩,?_⟩;rintro q env σ ⟨x,⟨hq,hx,vR⟩,rfl,rfl⟩
   (repeat'(refine iM ?_;first|refine axL ab ?_|refine bj ab ?_|refine de (λ_=>?_) (λ_=>?_)|refine Vx ab ?_|refine Ug ab ?_|refine bT ?_|refine zcB cu ?_|fail))<;>try(conv=>whnf)
   ·refine⟨(x-1-i).toNat,ab,x-1,⟨rfl,ab,ab⟩,?_,rfl⟩;refine congrArg (λx=>[dC.row _ _ _ x]) ?_;rw[show PV.agg [pI (s_ f x.toNat m.toNat (x-1).toNat).s,pI (s_ f x.toNat m.toNat (x-1).toNat).n]=(s_ f x.toNat m.toNat (x-1).toNat).pv from rfl,
     show PV.agg [pI (s_ f x.toNat m.toNat x.toNat).s,pI (s_ f x.toNat m.toNat x.toNat).n]=(s_ f x.toNat m.toNat x.toNat).pv from rfl,oU,oU,tg,tg]
    refine congrArg (List.map Rn.pv) ?_;rw[show(x-1).toNat=x.toNat-1 by omega,<-Ta f ab ab];refine kT λy _=>?_
    unfold FL
    repeat' split
    all_goals first|(exfalso;omega)|rfl
   ·have hxi:x=i:=by omega
    have ebm:b.toNat=m.toNat+1:=ab;refine hK _ ?_ ?_
    ·have:=T3 f (a:=a.toNat) (i:=m.toNat) (m-x).toNat ab ab;rw[show m.toNat-(m-x).toNat=x.toNat by omega]at this;rw[ebm];exact this
    ·rw[ebm];refine DM ho lX ab ab (λy h6 h7=>aU y ab ab) λh=>?_
     rw[show x.toNat-1=(i-1).toNat by omega];exact lA ab
 all_goals
  rename_i aeT;obtain⟨lo,hi,UC,Cp⟩:∃lo hi,lo=(if (a+b)/2<m then(a+b)/2+m-b else a)/\hi=(if (a+b)/2<m then(a+b)/2 else m):=⟨_,_,rfl,rfl⟩
  have F:a<=lo/\hi<=m/\lo<=hi/\(lo=a\/lo=(a+b)/2+m-b)/\(hi=m\/hi=(a+b)/2)/\(a+b)/2+m-lo<=b/\hi<=(a+b)/2:=by
   first|(rw[if_pos aeT]at UC Cp;omega)|(rw[if_neg aeT]at UC Cp;omega)
  obtain⟨F1,F2,F3,F4,F5,F6,F7⟩:=F;refine⟨λq env σ=>∃(i j:Int),(q=(j-i).toNat/\lo<=i/\i<=j/\j<=hi/\(lo<i->vw near (f ((a+b)/2+m-i).toNat) (f (i-1).toNat)=false)/\(j<hi->vw near (f ((a+b)/2+m-1-j).toNat) (f j.toNat)=true))/\σ=[Cf ap f N]/\env=[(0,.own 0),eN 1 a,eN 2 m,eN 3 b,(4,.pv (OD c near)),eN 18 ((a+b)/2),eN 19 ((a+b)/2+m),eN 20 i,eN 21 j,eN 22 ((a+b)/2+m-1)],(hi-lo).toNat,⟨lo,hi,⟨rfl,ab,ab,ab,λh=>ab,λh=>ab⟩,rfl,by first|(rw[UC,Cp,if_pos aeT,if_pos aeT]<;>rfl)|(rw[UC,Cp,if_neg aeT,if_neg aeT]<;>rfl)⟩,?_⟩;rintro q env σ ⟨i,j,⟨hq,ud,zk,hj,lA,aU⟩,rfl,rfl⟩;by_cases aK0:i<j
  ·(repeat'(refine iM ?_;first|refine bj ab ?_|refine au ab ?_|refine DW ab ?_|refine awP ab ?_|refine Vx ab ?_|refine Ug ab ?_|refine bT ?_|fail))<;>try(conv=>whnf)
   refine⟨_,⟨_,_,c,near,rfl,⟨hB _,hB _,hN⟩,rfl⟩,?_⟩
   (repeat'(refine iM ?_;first|refine bj ab ?_|refine aN ?_|refine bP ?_|refine de (λ_=>?_) (λ_=>?_)|fail))<;>try(conv=>whnf)
   ·rename_i hc;have hc:=TN hc;exact⟨((i+j)/2-i).toNat,ab,i,(i+j)/2,⟨rfl,ab,ab,ab,lA,λ_=>hc⟩,rfl,rfl⟩
   ·rename_i hc;have hc:=SQ hc;refine⟨(j-((i+j)/2+1)).toNat,ab,(i+j)/2+1,j,⟨rfl,ab,ab,ab,λ_=>?_,aU⟩,rfl,rfl⟩;rw[show(i+j)/2+1-1=(i+j)/2 by omega,show(a+b)/2+m-((i+j)/2+1)=(a+b)/2+m-1-(i+j)/2 by omega];exact hc
  ·have zk:i=j:=by omega
   subst zk;have M:=afC ho lX ZI (s:=i.toNat) (e:=((a+b)/2+m-i).toNat) (mid:=((a+b)/2).toNat) ab ab ab ab ab
    (λx1 x2=>by rw[show i.toNat-1=(i-1).toNat by omega];exact lA ab)
    (λx1 x2=>by rw[show((a+b)/2+m-i).toNat-1=((a+b)/2+m-1-i).toNat by omega];exact aU ab)
   obtain⟨c1,c2,c3,c4,cx⟩:=M;obtain⟨G1,G2,G3,G4,G5,G6⟩:i<=m/\i<=(a+b)/2/\m<=(a+b)/2+m-i/\(a+b)/2+m-i<=b/\(a+b)/2<=(a+b)/2+m-i/\a<=i:=ab;have hii:¬i<i:=Int.lt_irrefl i;clear UC Cp F1 F2 F3 F4 F5 F6 F7 lA aU hq zk hj aK0 ud;have p0:fg a.toNat b.toNat f (mJ f i.toNat m.toNat ((a+b)/2+m-i).toNat):=(ap4 f ab ab).wide ab ab ab;by_cases h1':i<m/\m<(a+b)/2+m-i
   ·have ye:∀j,I3 ((mJ f i.toNat m.toNat ((a+b)/2+m-i).toNat) j):=p0.all hB;by_cases pr:a<i/\i<(a+b)/2
    ·first
      |(exfalso;omega)
      |((repeat'(refine iM ?_;first|refine bj ab ?_|refine au ab ?_|refine aw ab ?_|refine⟨_,_,_,_,_,_,_,_,rfl,rfl,cU,?_⟩|fail))<;>try(conv=>whnf)
        intro g1 q1 t1;have J9:∀j,I3 (g1 j):=q1.all ye;obtain⟨r3,r4,sX,p1⟩:=aaY q1 p0 ab ab ab c3 c4 cx;by_cases tY:(a+b)/2<(a+b)/2+m-i/\(a+b)/2+m-i<b
        ·first
          |(exfalso;omega)
          |((repeat'(refine iM ?_;first|refine au ab ?_|refine⟨_,_,_,_,_,_,_,_,rfl,rfl,cU,?_⟩|fail))<;>try(conv=>whnf)
            intro g2 q2 t2;have E:=aar p1 t1 sX q2 t2 ab ab;exact hK g2 E.1 E.2)
        ·first
          |(exfalso;omega)
          |(have t2:=Fc r3 r4 ab ab ab
            (repeat'(refine iM ?_;first|refine au ab ?_|refine aw ab ?_|fail))<;>try(conv=>whnf)
            all_goals exact hK g1 p1 (nO t1 t2 sX)))
    ·first
      |(exfalso;omega)
      |(have t1:=Fc c1 c2 ab ab ab
        have q1:fg a.toNat ((a+b)/2).toNat ((mJ f i.toNat m.toNat ((a+b)/2+m-i).toNat)) ((mJ f i.toNat m.toNat ((a+b)/2+m-i).toNat)):=.refl _ _ _;have J9:∀j,I3 (((mJ f i.toNat m.toNat ((a+b)/2+m-i).toNat)) j):=q1.all ye;obtain⟨r3,r4,sX,p1⟩:=aaY q1 p0 ab ab ab c3 c4 cx;by_cases tY:(a+b)/2<(a+b)/2+m-i/\(a+b)/2+m-i<b
        ·first
          |(exfalso;omega)
          |((repeat'(refine iM ?_;first|refine bj ab ?_|refine au ab ?_|refine aw ab ?_|refine⟨_,_,_,_,_,_,_,_,rfl,rfl,cU,?_⟩|fail))<;>try(conv=>whnf)
            intro g2 q2 t2;have E:=aar p1 t1 sX q2 t2 ab ab;exact hK g2 E.1 E.2)
        ·first
          |(exfalso;omega)
          |(have t2:=Fc r3 r4 ab ab ab
            (repeat'(refine iM ?_;first|refine bj ab ?_|refine au ab ?_|refine aw ab ?_|refine⟨_,_,_,_,_,_,_,_,rfl,rfl,cU,?_⟩|fail))<;>try(conv=>whnf)
            all_goals exact hK ((mJ f i.toNat m.toNat ((a+b)/2+m-i).toNat)) p1 (nO t1 t2 sX)))
   ·have hfg:mJ f i.toNat m.toNat ((a+b)/2+m-i).toNat=f:=by
     funext x;unfold mJ
     repeat' split
     all_goals first|(exfalso;omega)|rfl|(congr 1<;>omega)
    rw[hfg]at c1 c2 c3 c4 cx p0;have ye:∀j,I3 (f j):=p0.all hB;by_cases pr:a<i/\i<(a+b)/2
    ·first
      |(exfalso;omega)
      |((repeat'(refine iM ?_;first|refine bj ab ?_|refine au ab ?_|refine aw ab ?_|refine⟨_,_,_,_,_,_,_,_,rfl,rfl,cU,?_⟩|fail))<;>try(conv=>whnf)
        intro g1 q1 t1;have J9:∀j,I3 (g1 j):=q1.all ye;obtain⟨r3,r4,sX,p1⟩:=aaY q1 p0 ab ab ab c3 c4 cx;by_cases tY:(a+b)/2<(a+b)/2+m-i/\(a+b)/2+m-i<b
        ·first
          |(exfalso;omega)
          |(skip
            intro g2 q2 t2;have E:=aar p1 t1 sX q2 t2 ab ab;exact hK g2 E.1 E.2)
        ·first
          |(exfalso;omega)
          |(have t2:=Fc r3 r4 ab ab ab
            (repeat'(refine iM ?_;first|refine aw ab ?_|fail))<;>try(conv=>whnf)
            all_goals exact hK g1 p1 (nO t1 t2 sX)))
    ·first
      |(exfalso;omega)
      |(have t1:=Fc c1 c2 ab ab ab
        have q1:fg a.toNat ((a+b)/2).toNat (f) (f):=.refl _ _ _;have J9:∀j,I3 ((f) j):=q1.all ye;obtain⟨r3,r4,sX,p1⟩:=aaY q1 p0 ab ab ab c3 c4 cx;by_cases tY:(a+b)/2<(a+b)/2+m-i/\(a+b)/2+m-i<b
        ·first
          |(exfalso;omega)
          |((repeat'(refine iM ?_;first|refine bj ab ?_|refine au ab ?_|refine aw ab ?_|refine⟨_,_,_,_,_,_,_,_,rfl,rfl,cU,?_⟩|fail))<;>try(conv=>whnf)
            intro g2 q2 t2;have E:=aar p1 t1 sX q2 t2 ab ab;exact hK g2 E.1 E.2)
        ·first
          |(exfalso;omega)
          |(have t2:=Fc r3 r4 ab ab ab
            (repeat'(refine iM ?_;first|refine bj ab ?_|refine au ab ?_|refine aw ab ?_|fail))<;>try(conv=>whnf)
            all_goals exact hK (f) p1 (nO t1 t2 sX)))
def agF{d x a:Nat}(h1:x%d=0)(h2:a%d=0)(h:x<a):x+d<=a:=by
 obtain⟨p,rfl⟩:=zda h1;obtain⟨q,rfl⟩:=zda h2;have WZ:p<q:=Nat.lt_of_mul_lt_mul_left h
 calc d*p+d=d*(p+1):=by rw[Nat.mul_succ]
  _<=d*q:=Nat.mul_le_mul_left d WZ
def arK{d a:Nat}(h:a%(2*d)=0):a%d=0:=Nat.mod_eq_zero_of_dvd (Nat.dvd_trans ⟨2,by rw[Nat.mul_comm]⟩ (zda h))
def al0(lt:Rn->Rn->Bool)(s a:Nat)(f:Nat->Rn):Prop:=∀x,x%s=0->x+s<=a->bl lt x (x+s) f
def axv(lt:Rn->Rn->Bool)(s a n:Nat)(f:Nat->Rn):Prop:=∀x,x%s=0->a<=x->x<n->bl lt x (min (x+s) n) f
def al0.step{lt:Rn->Rn->Bool}{s a:Nat}{f g:Nat->Rn}(h:al0 lt s a f)(ha:a%s=0)(hs:bl lt a (a+s) g)(e:∀j,j<a->g j=f j):al0 lt s (a+s) g:=by
 intro x hx hxa;by_cases h1:x<a
 ·have:=agF hx ha h1;exact dM (h x hx this) λj h2 h3=>e j ab
 ·have:x=a:=by omega
  subst this;exact hs
def al0.all{lt:Rn->Rn->Bool}{s a n:Nat}{f g:Nat->Rn}(h:al0 lt s a f)(ha:a%s=0)(JZ:a<=n)(Cd:n<=a+s)(hs:bl lt a n g)(e:∀j,j<a->g j=f j):axv lt s 0 n g:=by
 intro x hx _ hxn;by_cases h1:x<a
 ·have:=agF hx ha h1;rw[zas ab];exact dM (h x hx this) λj h2 h3=>e j ab
 ·have:¬a<x:=λh2=>by have:=agF ha hx h2;omega
  have:x=a:=ab;subst this;rw[zbK ab];exact hs
def arM(xs:List AV)(σ:aF)(K:AV->aF->Prop):Prop:=
 ∃(ap:Bool) (f:Nat->Rn) (N:Nat) (c near:Int),xs=[.own 0,.pv (pI N),.pv (OD c near)]/\σ=[Cf ap f N]/\(N<=100000/\(∀j,I3 (f j))/\aee near)/\
  ∀g,fg 0 N f g->bl (vw near) 0 N g->K (.tup []) [Cf ap g N]
def ae_(xs:List AV)(σ:aF)(K:AV->aF->Prop):Prop:=aoh 100000 xs σ K
def aqN:gO (ay [(302,sB ats),(303,sB ae_)]) gW (sB arM):=by
 rintro _ _ K ⟨ap,f,N,c,near,rfl,rfl,⟨hN,hB,azK⟩,hK⟩
 (conv=>whnf)
 refine⟨λq env σ=>∃(a:Int) (g:Nat->Rn),(q=(N-a).toNat/\0<=a/\a<=N/\a.toNat%20=0/\fg 0 N f g/\al0 (vw near) 20 a.toNat g)/\σ=[Cf ap g N]/\env=[(0,.own 0),eN 1 N,(2,.pv (OD c near)),eN 6 20,eN 7 a,eN 8 (a+20)],N,⟨0,f,⟨ab,ab,ab,rfl,.refl _ _ _,λx _ h=>ab⟩,rfl,rfl⟩,?_⟩;rintro q env σ ⟨a,g,⟨hq,ha0,haN,ha,hp,hb⟩,rfl,rfl⟩;have J9:=hp.all (P:=I3) hB
 (repeat'(refine iM ?_;first|refine de (λ_=>?_) (λ_=>?_)|refine⟨_,_,_,_,_,_,_,rfl,rfl,cU,?_⟩|fail))<;>try(conv=>whnf)
 ·rename_i hle;intro g1 q1 t1
  (repeat'(refine iM ?_;first|refine bj ab ?_|fail))<;>try(conv=>whnf)
  refine⟨(N-(a+20)).toNat,ab,a+20,g1,⟨rfl,ab,ab,ab,hp.trans (q1.wide ab ab ab),?_⟩,rfl,rfl⟩;rw[show(a+20).toNat=a.toNat+20 by omega]at t1 q1 ⊢;exact hb.step ha t1 λj hj=>q1.2 j ab
 ·rename_i hle;intro g1 q1 t1;have XN:fg 0 N f g1:=hp.trans (q1.wide ab ab ab);have Gw:axv (vw near) 20 0 N g1:=hb.all ha ab ab (by simpa using t1) λj hj=>q1.2 j ab
  refine⟨λq env σ=>∃(s:Int) (g:Nat->Rn),(q=(N-s).toNat/\0<s/\s<=200000/\fg 0 N f g/\axv (vw near) s.toNat 0 N g)/\σ=[Cf ap g N]/\env=[(0,.own 0),eN 1 N,(2,.pv (OD c near)),eN 6 s],(N-20:Int).toNat,⟨20,g1,⟨ab,ab,ab,XN,Gw⟩,rfl,rfl⟩,?_⟩;clear hb hp hq ha hle t1 q1 XN Gw J9;rintro q env σ ⟨s,g,⟨hq,lK,lX,hp,hr⟩,rfl,rfl⟩
  (repeat'(refine iM ?_;first|refine bj ab ?_|refine de (λ_=>?_) (λ_=>?_)|fail))<;>try(conv=>whnf)
  ·rename_i hsN;refine⟨λq' env σ=>∃(a:Int) (g:Nat->Rn),(q'=(N-a).toNat/\0<=a/\a<=N/\a.toNat%(2*s.toNat)=0/\fg 0 N f g/\al0 (vw near) (2*s.toNat) a.toNat g/\axv (vw near) s.toNat a.toNat N g)/\σ=[Cf ap g N]/\env=[(0,.own 0),eN 1 N,(2,.pv (OD c near)),eN 6 s,eN 7 a,eN 8 (a+2*s)],N,⟨0,g,⟨ab,ab,ab,Nat.zero_mod _,hp,λx _ h=>ab,hr⟩,rfl,by rw[Int.zero_add]⟩,?_⟩;clear hp hr;rintro q' env σ ⟨a,g,⟨hq',ha0,haN,ha,hp,hb,hr⟩,rfl,rfl⟩;have J9:=hp.all (P:=I3) hB;have hh:=arK ha;have r1:a.toNat<N->bl (vw near) a.toNat (min (a.toNat+s.toNat) N) g:=λh=>hr _ hh (zai _) h
   have r2:a.toNat+s.toNat<N->bl (vw near) (a.toNat+s.toNat) (min (a.toNat+s.toNat+s.toNat) N) g:=λh=>hr _ (by rw[zdt];exact hh) ab h
   (repeat'(refine iM ?_;first|refine bj ab ?_|refine de (λ_=>?_) (λ_=>?_)|fail))<;>try(conv=>whnf)
   ·rename_i hle;have r1:=r1 ab;have r2:=r2 ab;rw[zas ab,show a.toNat+s.toNat=(a+s).toNat by omega]at r1;rw[zas ab,show a.toNat+s.toNat+s.toNat=(a+2*s).toNat by omega,show a.toNat+s.toNat=(a+s).toNat by omega]at r2;unfold ae_
    (repeat'(refine iM ?_;first|refine⟨_,_,_,_,_,_,_,_,rfl,rfl,cU,?_⟩|fail))<;>try(conv=>whnf)
    intro g1 q1 t1
    (repeat'(refine iM ?_;first|refine bj ab ?_|fail))<;>try(conv=>whnf)
    refine⟨(N-(a+2*s)).toNat,ab,a+2*s,g1,⟨rfl,ab,ab,?_,hp.trans (q1.wide ab ab ab),?_,λx hx vR mV=>?_⟩,rfl,rfl⟩
    ·rw[show(a+2*s).toNat=a.toNat+2*s.toNat by omega,zdt];exact ha
    ·rw[show(a+2*s).toNat=a.toNat+2*s.toNat by omega]at t1 q1 ⊢;exact hb.step ha t1 λj hj=>q1.2 j ab
    ·exact dM (hr x hx ab mV) λj h1 h2=>q1.2 j ab
   ·rename_i hle aU;have r1:=r1 ab;have r2:=r2 ab;rw[zas ab,show a.toNat+s.toNat=(a+s).toNat by omega]at r1;rw[zbK ab,show a.toNat+s.toNat=(a+s).toNat by omega]at r2;unfold ae_;refine⟨ap,g,N,a,a+s,N,c,near,rfl,rfl,⟨ab,ab,ab,ab,ab,ab,J9,azK,r1,by simpa using r2⟩,λg1 q1 t1=>?_⟩
    (repeat'(refine iM ?_;first|refine bj ab ?_|fail))<;>try(conv=>whnf)
    refine⟨(N-s*2).toNat,ab,s*2,g1,⟨rfl,ab,ab,hp.trans (q1.wide ab ab ab),?_⟩,rfl,rfl⟩;rw[show(s*2).toNat=2*s.toNat by omega];exact hb.all ha ab ab (by simpa using t1) λj hj=>q1.2 j ab
   ·rename_i hle aU;refine⟨(N-s*2).toNat,ab,s*2,g,⟨rfl,ab,ab,hp,?_⟩,rfl,rfl⟩;rw[show(s*2).toNat=2*s.toNat by omega];refine hb.all ha ab ab ?_ λj _=>rfl
    by_cases aK2:a.toNat<N
    ·have:=r1 aK2;rw[zbK ab]at this;exact this
    ·exact λx y h1 h2 h3=>ab
  ·rename_i hsN;refine hK g hp ?_;by_cases h0:0<N
   ·have:=hr 0 (Nat.zero_mod _) (zai _) h0;rw[zbK ab]at this;exact this
   ·exact λx y h1 h2 h3=>ab
def QR(xs:List AV)(σ:aF)(K:AV->aF->Prop):Prop:=
 ∃(ap:Bool) (L:List Rn) (c near:Int),xs=[.own 0,.pv (OD c near)]/\σ=[.row 37 2 ap (L.map Rn.pv)]/\(L.length<=100000/\(∀r∈L,I3 r)/\aee near)/\
  ∀S:List Rn,S.Perm L->S.Pairwise (λx y=>vw near y x=false)->K (.tup []) [.row 37 2 ap (S.map Rn.pv)]
def afN:gO (ay [(291,sB arM)]) db (sB QR):=by
 rintro _ _ K ⟨ap,L,c,near,rfl,rfl,⟨hN,hB,azK⟩,hK⟩;obtain⟨f,hf⟩:∃f:Nat->Rn,f=λi=>L[i]?.getD ⟨0,0⟩:=⟨_,rfl⟩
 have hL:L=cQ f L.length:=az2 λi x hx=>by rw[hf];simp[hx]
 have hBf:∀j,I3 (f j):=by
  intro j;rw[hf];show I3 (L[j]?.getD ⟨0,0⟩);cases h:L[j]? with
  |none=>simp[I3]
  |some x=>exact hB x (zag h)
 generalize hn:L.length=N at*;rw[hL]
 (repeat'(refine iM ?_;first|refine dq λ_=>?_|refine⟨_,_,_,_,_,rfl,rfl,cU,?_⟩|fail))<;>try(conv=>whnf)
 intro g hp hs;refine hK (cQ g N) ?_ ?_
 ·rw[hL];exact hp.perm
 ·rw[List.pairwise_iff_getElem];intro i j h1 h2 h3;have e1:=bO (f:=g) (n:=N) (i:=i) xO;have e2:=bO (f:=g) (n:=N) (i:=j) iT;rw[zah h1]at e1;rw[zah h2]at e2;rw[Option.some.inj e1,Option.some.inj e2];exact hs i j ab ab iT
def IZ(s:List UInt8)(n c near:Int):Int:=ac0 (nu s n) ((1<=c/\c<=4096)/\0<=near/\near<=4095)
def My:Spec:=EM false false λps K=>∃(s:List UInt8) (n c near:Int),ps=[.str s,pI n,.agg [pI c,pI near]]/\s.length<=1000000/\K (.tup [.agg [.row 5 1 (s.map aL),.pv (pI n)],.pv (pI (IZ s n c near))])
def acD:MT (ay [(173,afd),(174,BX),(172,ah jw),(170,bF bG)]) ES My:=by
 rintro _ K ⟨s,n,c,near,rfl,hs,hK⟩;unfold IZ ac0 at hK;by_cases he:nu s n=0
 ·simp only[he,ne_eq,not_true_eq_false,if_false]at hK
  (repeat'(refine iM ?_;first|refine de (λ_=>?_) (λ_=>?_)|refine bT ?_|refine⟨_,⟨_,_,rfl,rfl⟩,?_⟩|refine⟨_,⟨_,_,_,rfl,rfl⟩,?_⟩|refine⟨_,_,rfl,λh=>absurd h ab,λ_=>?_⟩|refine⟨_,_,rfl,cU,?_⟩|fail))<;>try(conv=>whnf)
  ·rename_i h1 h2 h3;rw[if_pos ⟨h1,h2⟩]at hK
   (refine⟨_,?_,?_,hK⟩<;>repeat'(first|exact rfl|exact trivial|exact bD _|exact dn _|exact cr|refine⟨?_,?_⟩))
  ·rename_i h1 h2 h3;rw[if_neg (λh=>h2 h.2)]at hK
   (refine⟨_,?_,?_,hK⟩<;>repeat'(first|exact rfl|exact trivial|exact bD _|exact dn _|exact cr|refine⟨?_,?_⟩))
  ·rename_i h1 h2;rw[if_neg (λh=>h1 h.1)]at hK
   (refine⟨_,?_,?_,hK⟩<;>repeat'(first|exact rfl|exact trivial|exact bD _|exact dn _|exact cr|refine⟨?_,?_⟩))
 ·rw[if_pos he]at hK
  (repeat'(refine iM ?_;first|refine de (λ_=>?_) (λ_=>?_)|refine bT ?_|refine⟨_,⟨_,_,rfl,rfl⟩,?_⟩|refine⟨_,⟨_,_,_,rfl,rfl⟩,?_⟩|refine⟨_,_,rfl,λ_=>?_,λh=>absurd h ab⟩|refine⟨_,_,rfl,cU,?_⟩|fail))<;>try(conv=>whnf)
  all_goals(refine⟨_,?_,?_,hK⟩<;>repeat'(first|exact rfl|exact trivial|exact bD _|exact dn _|exact cr|refine⟨?_,?_⟩))
def FZ(ps:List PV)(p:Prop):Prop:=∃(r:Rn) (c:Int),ps=[r.pv,.cptr (pI c)]/\p=(r.n<c)
def adq:MT (ay []) tM (bF FZ):=by
 rintro _ K ⟨_,⟨r,c,rfl,rfl⟩,hK⟩
 (repeat'(refine iM ?_;first|refine de (λ_=>?_) (λ_=>?_)|fail))<;>try(conv=>whnf)
 all_goals exact kQ
def aw4(c:Int):PV:=.clo 301 [.cptr (pI c)]
def small(c:Int)(r:Rn):Bool:=decide (r.n<c)
def aaU:Spec:=EM true false λps K=>∃(l:List Rn) (c:Int),ps=[.sl 2 (l.map Rn.pv),aw4 c]/\l.length<=1000000/\
 ((∀r∈l,small c r=false)->K (.pv (pI (-1))))∧∀(i:Nat) (r:Rn),l[i]?=some r->small c r=true->(∀r∈l.take i,small c r=false)->K (.pv (pI i))
def afY:MT (ay [(301,bF FZ)]) dI aaU:=by
 rintro _ K ⟨l,c,rfl,hl,Gt,xy⟩
 (repeat'(refine iM ?_;first|refine dq λ_=>?_|fail))<;>try(conv=>whnf)
 refine⟨λm env σ=>∃i:Nat,(i+m=l.length∧∀r∈l.take i,small c r=false)/\σ=[]/\env=[(0,.pv (.sl 2 (l.map Rn.pv))),(1,.pv (aw4 c)),eN 7 l.length,eN 8 i],l.length,⟨0,⟨ab,λr h=>bV⟩,rfl,rfl⟩,?_⟩;rintro m env σ ⟨i,⟨hi,h0⟩,rfl,rfl⟩
 (repeat'(refine iM ?_;first|refine bj ab ?_|refine de (λ_=>?_) (λ_=>?_)|refine aii ab (λ_ _=>?_)|refine⟨_,⟨_,_,rfl,rfl⟩,?_⟩|fail))<;>try(conv=>whnf)
 ·rename_i r hr h;have hK:=xy i r hr (by simpa[small]using h) h0
  (refine⟨_,?_,?_,hK⟩<;>repeat'(first|exact rfl|exact trivial|exact bD _|exact dn _|exact cr|refine⟨?_,?_⟩))
 ·rename_i r hr h;refine⟨m-1,ab,i+1,⟨ab,λx hx=>?_⟩,rfl,rfl⟩;rw[zcX,hr]at hx;rcases zaA.1 hx with hx|hx
  ·exact h0 x hx
  ·simp at hx;subst hx;simpa[small]using h
 ·have:i=l.length:=by omega
  subst this;rw[zcZ]at h0;have hK:=Gt h0
  (refine⟨_,?_,?_,hK⟩<;>repeat'(first|exact rfl|exact trivial|exact bD _|exact dn _|exact cr|refine⟨?_,?_⟩))
def rh(c:Int)(l:List Rn):List Rn:=l.filter λr=>!small c r
def abe(xs:List AV)(σ:aF)(K:AV->aF->Prop):Prop:=
 ∃(ap:Bool) (L:List Rn) (c:Int),xs=[.own 0,.pv (aw4 c)]/\σ=[.row 37 2 ap (L.map Rn.pv)]/\L.length<=1000000/\
  (rh c L=L->K (.own 0) [.row 37 2 ap (L.map Rn.pv)])∧∀(R:List Rn) (k:Nat),R.take k=rh c L->k<=R.length->K (.sub 0 2 0 k) [.row 37 2 ap (R.map Rn.pv)]
def agA:gO (ay [(147,aaU),(301,bF FZ)]) dE (sB abe):=by
 rintro _ _ K ⟨ap,L,c,rfl,rfl,hl,Gt,xy⟩;refine⟨L,c,rfl,hl,λh=>?_,λi r hr hs h0=>?_⟩
 ·(repeat'(refine iM ?_;first|refine au ab ?_|fail))<;>try(conv=>whnf)
  refine Gt ?_;unfold rh;rw[zbW];intro r hr;rw[h r hr];rfl
 ·have hi:=eT hr
  (repeat'(refine iM ?_;first|refine bj ab ?_|refine aw ab ?_|fail))<;>try(conv=>whnf)
  refine⟨λm env σ=>∃(k j:Nat) (R:List Rn),(j+m=L.length/\k<j/\R.length=L.length/\R.take k=rh c (L.take j)/\R.drop j=L.drop j)/\σ=[.row 37 2 ap (R.map Rn.pv)]/\env=[(0,.own 0),(1,.pv (aw4 c)),eN 5 k,eN 6 j],L.length-(i+1),⟨i,i+1,L,⟨ab,ab,rfl,?_,rfl⟩,rfl,rfl⟩,?_⟩
  ·rw[zcX,hr,show(some r).toList=[r]from rfl];have e1:rh c (L.take i)=L.take i:=by
    unfold rh;rw[zbW];intro x hx;rw[h0 x hx];rfl
   show _=rh c (L.take i++[r]);unfold rh at e1 ⊢;rw[zb0,e1];simp[hs]
  rintro m env σ ⟨k,j,R,⟨hj,hkj,hR,ht,hd⟩,rfl,rfl⟩;have Gr:∀x,R[j]?=some x->L[j]?=some x:=by
   intro x hx;have h1:(R.drop j)[0]?=R[j]?:=by rw[zaB];rfl
   have h2:(L.drop j)[0]?=L[j]?:=by rw[zaB];rfl
   rw[<-h2,<-hd,h1];exact hx
  have uF:R.drop (j+1)=L.drop (j+1):=by have:=congrArg (List.drop 1) hd;rwa[zaQ,zaQ]at this
  (repeat'(refine iM ?_;first|refine bj ab ?_|refine aN ?_|refine bP ?_|refine de (λ_=>?_) (λ_=>?_)|refine dq λ_=>?_|refine Q3 ab ?_|refine aEY ab (λ_ _=>?_)|refine bT ?_|refine⟨_,⟨_,_,rfl,rfl⟩,?_⟩|fail))<;>try(conv=>whnf)
  ·rename_i x hx xc;have hxL:=Gr x hx;refine⟨m-1,ab,k,j+1,R,⟨ab,ab,hR,?_,?_⟩,rfl,rfl⟩
   ·rw[ht,zcX (l:=L),hxL];unfold rh;rw[zb0];have:small c x=true:=by unfold small;simpa using xc
    simp[this]
   ·exact uF
  ·rename_i x hx xc y hy;have hxL:=Gr x hx;have e1:(R.map Rn.pv).set (k:Int).toNat (.agg [pI x.s,pI x.n])=(R.set k x).map Rn.pv:=by rw[zaC,<-oU];rfl
   refine⟨m-1,ab,k+1,j+1,R.set k x,⟨ab,ab,by simp[hR],?_,?_⟩,congrArg (λl=>[dC.row _ _ _ l]) e1,rfl⟩
   ·rw[zcX,List.take_set,List.set_eq_of_length_le eI,zbQ ab,ht,zcX (l:=L),hxL];unfold rh;rw[zb0];have JL:small c x=false:=by unfold small;simpa using xc
    simp[JL]
   ·rw[zdo ab];exact uF
  ·have:j=L.length:=by omega
   subst this;rw[zcZ]at ht;refine .inr ?_
   (repeat'(refine iM ?_;first|refine zcB cu ?_|fail))<;>try(conv=>whnf)
   have pj:(cut (k:Int).toNat ((k:Int).toNat+((R.map Rn.pv).length-(k:Int).toNat)) (R.map Rn.pv)).length=R.length-k:=by
    rw[awU PR,zav,zaC];omega
   have e:((R.map Rn.pv).take (k:Int).toNat++((List.replicate (cut (k:Int).toNat ((k:Int).toNat+((R.map Rn.pv).length-(k:Int).toNat)) (R.map Rn.pv)).length (PV.agg [.int .i64 0,.int .i64 0])).take ((R.map Rn.pv).length-(k:Int).toNat))++
    (R.map Rn.pv).drop ((k:Int).toNat+min (List.replicate (cut (k:Int).toNat ((k:Int).toNat+((R.map Rn.pv).length-(k:Int).toNat)) (R.map Rn.pv)).length (PV.agg [.int .i64 0,.int .i64 0])).length ((R.map Rn.pv).length-(k:Int).toNat)))=(R.take k++List.replicate (R.length-k) (⟨0,0⟩:Rn)).map Rn.pv:=by
    rw[pj,zap,zav,zaC,Nat.min_self,zcc oP,zbf,zbu,<-zdd,za1 (l:=List.replicate (R.length-k) (PV.agg [.int .i64 0,.int .i64 0])) (by rw[zap];omega),zcm];rfl
   refine .inr ⟨by rw[e];simp;omega,?_⟩;have hh:=xy (R.take k++List.replicate (R.length-k) ⟨0,0⟩) k (by rw[List.take_append_of_le_length eI,List.take_take,Nat.min_self];exact ht) aH;rw[<-e]at hh;exact hh
def amb:Spec:=EM false false λps K=>∃(B:List UInt8) (n c:Int),ps=[Bb B n,pI c]/\(0<=n/\n<=8*B.length/\B.length<=100000)/\K (.pv (.sl 2 ((rh c (bh (jf B 0) n.toNat)).map Rn.pv)))
def JQ{p:Nat->Bool}{n:Nat}:(bh p n).length<=n:=(kI p n).2.1
def akS:MT (ay [(271,FQ),(108,sB abe),(301,bF FZ)]) yt amb:=by
 rintro _ K ⟨B,n,c,rfl,⟨h0,h1,h2⟩,hK⟩
 (repeat'(refine iM ?_;first|refine⟨_,_,_,rfl,cU,?_⟩|fail))<;>try(conv=>whnf)
 have hb:= @JQ (jf B 0) n.toNat;refine⟨true,bh (jf B 0) n.toNat,c,rfl,rfl,ab,λh=>?_,λR k ht hk=>?_⟩
 ·(conv=>whnf)
  rw[h]at hK;exact⟨.pv (.sl _ _),rfl,trivial,hK⟩
 ·(conv=>whnf)
  have e:cut 0 (0+k) (R.map Rn.pv)=(rh c (bh (jf B 0) n.toNat)).map Rn.pv:=by
   rw[Nat.zero_add,LX,<-ht];rfl
  rw[<-e]at hK;exact⟨.pv (.sl _ _),⟨oP,rfl⟩,trivial,hK⟩
def axI{s:List UInt8}{n c near:Int}(h:IZ s n c near=0):nu s n=0/\(1<=c/\c<=4096)/\0<=near/\near<=4095:=by
 unfold IZ ac0 at h;split at h
 ·rename_i h';exact absurd h h'
 ·rename_i h';split at h
  ·rename_i h2;exact⟨Decidable.of_not_not h',h2⟩
  ·cases h
def PJ{c:Int}{l:List Rn}:(rh c l).length<=l.length:=zdj _ _
def apU{p:Nat->Bool}{n:Nat}(h:n<=1000000):∀r∈bh p n,I3 r:=by
 intro r hr;have:=(kI p n).1 r hr;unfold I3;omega
def wv(near c:Int)(r:Rn):Int:=min (max near r.s) (r.s+r.n-c)
def x9(near c:Int)(b:Option Int)(r:Rn):Option Int:=
 match b with
 |none=>some (wv near c r)
 |some x=>if H5 (wv near c r) near<H5 x near then some (wv near c r)else some x
def Ix(near c:Int)(l:List Rn):Option Int:=l.foldl (x9 near c) none
def alC(near c:Int)(l:List Rn)(r:Rn):Ix near c (l++[r])=x9 near c (Ix near c l) r:=by simp[Ix]
def aww(o:Option Int):Int:=o.getD 0
def Vl{near c:Int}{r:Rn}(hn:0<=near/\near<=4095)(hr:0<=r.s/\r.s<=1000000/\0<=r.n/\r.n<=1000000)(hc:0<=c/\c<=r.n):0<=wv near c r/\wv near c r<=2000000:=by
 unfold wv;omega
def aif{near c:Int}{l:List Rn}(hn:0<=near/\near<=4095)(hc:0<=c)(hl:∀r∈l,0<=r.s/\r.s<=1000000/\0<=r.n/\r.n<=1000000/\c<=r.n):∀x,Ix near c l=some x->0<=x/\x<=2000000:=by
 unfold Ix
 suffices H:∀(b:Option Int),(∀x,b=some x->0<=x/\x<=2000000)→∀x,l.foldl (x9 near c) b=some x->0<=x/\x<=2000000 from H none (λ_ h=>bV)
 induction l with
 |nil=>intro b hb x hx;exact hb x hx
 |cons r l ih=>
  intro b hb;refine ih (λr hr=>hl r (by simp[hr])) _ ?_;intro x hx;have h1:=hl r aj;have h2:=Vl hn ⟨h1.1,h1.2.1,h1.2.2.1,h1.2.2.2.1⟩ ⟨hc,h1.2.2.2.2⟩;unfold x9 at hx;split at hx
  ·cases hx;exact h2
  ·split at hx
   ·cases hx;exact h2
   ·cases hx;exact hb _ rfl
def ae0:Spec:=EM true false λps K=>∃(B:List UInt8) (n c near:Int),ps=[Bb B n,.agg [pI c,pI near]]/\(0<=n/\n<=4096/\n<=8*B.length/\B.length<=100000/\1<=c/\c<=4096/\0<=near/\near<=4095)/\K (.tup [.pv (pI (aww (Ix near c (rh c (bh (jf B 0) n.toNat))))),.pv (pB (Ix near c (rh c (bh (jf B 0) n.toNat))).isSome)])
def amJ:MT (ay [(288,amb),(275,ah afn)]) xG ae0:=by
 rintro _ K ⟨B,n,c,near,rfl,⟨h1,h2,h3,h4,h5,h6,h7,h8⟩,hK⟩;have hb:= @JQ (jf B 0) n.toNat;have t_:= @PJ c (bh (jf B 0) n.toNat);have hR:∀r∈rh c (bh (jf B 0) n.toNat),0<=r.s/\r.s<=1000000/\0<=r.n/\r.n<=1000000/\c<=r.n:=λr hr=>by
  obtain⟨h9,XK⟩:=zbn.1 hr;have:=(kI (jf B 0) n.toNat).1 r h9;simp[small]at XK;omega
 refine⟨B,n,c,rfl,ab,?_⟩;generalize rh c (bh (jf B 0) n.toNat)=R at*
 (repeat'(refine iM ?_;first|refine dq λ_=>?_|fail))<;>try(conv=>whnf)
 refine⟨λm env σ=>∃(i:Nat),(i+m=R.length)/\σ=[.box 283 [.pv (pI c),.pv (pI near)]]/\env=[(3,.ref 0 0 0),eN 6 (aww (Ix near c (R.take i))),(7,.pv (pB (Ix near c (R.take i)).isSome)),(14,.pv (.sl 2 (R.map Rn.pv))),eN 15 R.length,eN 16 i],R.length,⟨0,ab,rfl,rfl⟩,?_⟩;rintro m env σ ⟨i,hi,rfl,rfl⟩;have o_:=aif (l:=R.take i) ⟨h7,h8⟩ ab (λr hr=>hR r (zaL hr));by_cases aU:i<R.length
 ·obtain⟨r,hr⟩:∃r,R[i]?=some r:=⟨R[i],zah aU⟩
  have tZ:=hR r (zag hr);have e1:R.take (i+1)=R.take i++[r]:=by rw[zcX,hr];rfl
  have e2:=alC near c (R.take i) r;rw[<-e1]at e2;have mE:=Vl (near:=near) (c:=c) (r:=r) ⟨h7,h8⟩ ab ab;generalize Ix near c (R.take i)=b at*;cases b with
  |none=>
   simp only[Option.isSome_none,aww,Option.getD_none]
   (repeat'(refine iM ?_;first|refine bj ab ?_|refine bP ?_|refine au ab ?_|refine fQ ?_|refine I8 ?_|refine iY aA ?_|refine bT ?_|fail))<;>try(conv=>whnf)
   refine⟨m-1,ab,i+1,ab,rfl,?_⟩;rw[e2];rfl
  |some x=>
   simp only[Option.isSome_some,aww,zbA];have hx:=o_ x rfl;unfold wv at mE
   (repeat'(refine iM ?_;first|refine bj ab ?_|refine aN ?_|refine au ab ?_|refine de (λ_=>?_) (λ_=>?_)|refine fQ ?_|refine I8 ?_|refine iY aA ?_|refine bT ?_|refine⟨_,⟨_,_,rfl,cU,rfl⟩,?_⟩|fail))<;>try(conv=>whnf)
   ·rename_i h;have e3:x9 near c (some x) r=some (wv near c r):=if_pos h;refine⟨m-1,ab,i+1,ab,rfl,?_⟩;rw[e2,e3];rfl
   ·rename_i h;have e3:x9 near c (some x) r=some x:=if_neg h;refine⟨m-1,ab,i+1,ab,rfl,?_⟩;rw[e2,e3];rfl
 ·(repeat'(refine iM ?_;first|refine aw ab ?_|fail))<;>try(conv=>whnf)
  have:i=R.length:=ab;subst this;rw[zcZ]
  (refine⟨_,?_,?_,hK⟩<;>repeat'(first|exact rfl|exact trivial|exact bD _|exact dn _|exact cr|refine⟨?_,?_⟩))
def Sw(s:List UInt8)(n c near:Int):Option Int:=Ix near c (rh c (bh (jf s 0) n.toNat))
def nG(s:List UInt8)(n:Int):List Rn:=bh (jf s 0) n.toNat
def kA:Int->List Rn->List Rn
 |_,[]=>[]
 |c,r::l=>if c=0 then[]else⟨r.s,min r.n c⟩::kA (c-min r.n c) l
def qa:Int->List Rn->Int
 |c,[]=>c
 |c,r::l=>if c=0 then 0 else qa (c-min r.n c) l
def ahT(near:Int)(L S:List Rn):Prop:=S.Perm L/\S.Pairwise (λx y=>vw near y x=false)
def apg{near:Int}{L S T:List Rn}(h1:ahT near L S)(h2:ahT near L T):S=T:=by
 have hp:S.Perm T:=h1.1.trans h2.1.symm;exact hp.eq_of_pairwise (λa b _ _ rE hba=>awt hba rE) h1.2 h2.2
def I2(left:Int)(n:Nat):Int:=if left≠0 then 16 else if n<=64 then 0 else 8
def afW{n:Nat}(h:n<=64):I2 0 n=0:=by unfold I2;rw[if_neg ao,if_pos h]
def O3{n:Nat}(h:¬n<=64):I2 0 n=8:=by unfold I2;rw[if_neg ao,if_neg h]
def ad9{c:Int}{n:Nat}(h:c≠0):I2 c n=16:=by unfold I2;rw[if_pos h]
def alo:Spec:=EM true false λps K=>∃(s:List UInt8) (n c near:Int),ps=[.str s,pI n,.agg [pI c,pI near]]/\s.length<=100000/\
 (IZ s n c near≠0->K (.tup [.fresh 37 2 [],.pv (pI (IZ s n c near))]))/\
 (IZ s n c near=0→∀x,Sw s n c near=some x->K (.tup [.fresh 37 2 ([(⟨x,c⟩:Rn)].map Rn.pv),.pv (pI 0)]))/\
 (IZ s n c near=0->Sw s n c near=none→∀S,ahT near (nG s n) S->
   (I2 (qa c S) (kA c S).length=0->K (.tup [.fresh 37 2 ((kA c S).map Rn.pv),.pv (pI 0)]))/\(I2 (qa c S) (kA c S).length≠0->K (.tup [.fresh 37 2 [],.pv (pI (I2 (qa c S) (kA c S).length))])))
set_option maxHeartbeats 2000000 in
def abk:MT (ay [(269,My),(270,ae0),(271,FQ),(272,sB QR),(273,ah Pt),(174,BX),(172,ah jw)]) uW alo:=by
 rintro _ K ⟨s,n,c,near,rfl,hs,Gt,xy,kO⟩;by_cases he:IZ s n c near=0
 ·obtain⟨h0,h7,h8⟩:=axI he;obtain⟨h1,h2,h3,h4,h5⟩:=iR h0;have xy:=xy he;have kO:=kO he;unfold Sw at xy kO
  (repeat'(refine iM ?_;first|refine aw ab ?_|refine bT ?_|refine⟨_,_,_,_,rfl,cU,?_⟩|fail))<;>try(conv=>whnf)
  generalize Ix near c (rh c (bh (jf s 0) n.toNat))=b at*;cases b with
  |some x=>
   have hK:=xy x rfl
   (repeat'(refine iM ?_;first|refine bT ?_|fail))<;>try(conv=>whnf)
   (refine⟨_,?_,?_,hK⟩<;>repeat'(first|exact rfl|exact trivial|exact bD _|exact dn _|exact cr|refine⟨?_,?_⟩))
  |none=>
   have kO:=kO rfl
   (repeat'(refine iM ?_;first|refine⟨_,_,_,rfl,cU,?_⟩|fail))<;>try(conv=>whnf)
   have hb:= @JQ (jf s 0) n.toNat;have hr0:=(kI (jf s 0) n.toNat).1;refine⟨true,bh (jf s 0) n.toNat,c,near,rfl,rfl,⟨ab,apU ab,by unfold aee;omega⟩,λS hp hS=>?_⟩;obtain⟨hK4,hK5⟩:=kO S ⟨hp,hS⟩;have hlen:S.length<=4096:=by rw[hp.length_eq];omega
   have hS1:∀r∈S,1<=r.n/\r.n<=4096:=λr hr=>by have:=hr0 r (hp.mem_iff.1 hr);omega
   (repeat'(refine iM ?_;first|refine dq λ_=>?_|fail))<;>try(conv=>whnf)
   refine⟨λm env σ=>∃(i:Nat) (left:Int) (out:List Rn),(i+m=S.length/\0<=left/\left<=4096/\out.length<=i/\out++kA left (S.drop i)=kA c S/\qa left (S.drop i)=qa c S)/\σ=[.row 37 2 true (out.map Rn.pv),.row 37 2 true (S.map Rn.pv)]/\env=[(13,.own 0),eN 14 left,(47,.own 1),eN 48 S.length,eN 49 i],S.length,⟨0,c,[],⟨ab,ab,ab,aj,rfl,rfl⟩,rfl,rfl⟩,?_⟩;rintro m env σ ⟨i,left,out,⟨hi,da,pj,ho,hg,D6⟩,rfl,rfl⟩;have stop:(left=0∨¬i<S.length)->out=kA c S/\left=qa c S:=by
    intro h;rw[<-hg,<-D6];by_cases aU:i<S.length
    ·have h0:left=0:=by rcases h with h|h;exact h;exact absurd aU h
     rw[zcj aU];subst h0;simp[kA,qa]
    ·rw[zcc ab];simp[kA,qa]
   have fin:(left=0∨¬i<S.length)->(I2 left out.length=0->K (.tup [.fresh 37 2 (out.map Rn.pv),.pv (pI 0)]))/\(I2 left out.length≠0->K (.tup [.fresh 37 2 [],.pv (pI (I2 left out.length))])):=by
    intro h;obtain⟨e1,e2⟩:=stop h;rw[e1,e2];exact⟨hK4,hK5⟩
   by_cases aU:i<S.length
   ·obtain⟨r,hr⟩:∃r,S[i]?=some r:=⟨S[i],zah aU⟩
    have Gw:=hS1 r (zag hr);by_cases hz:left=0
    ·obtain⟨f1,f2⟩:=fin (.inl hz);subst hz;by_cases iG:out.length<=64
     ·have hK:=f1 (afW iG)
      (repeat'(refine iM ?_;first|refine au ab ?_|refine aw ao ?_|refine dq λ_=>?_|refine uM aA ?_|refine Q3 ab ?_|refine bT ?_|refine⟨_,⟨_,_,rfl,rfl⟩,?_⟩|refine⟨_,_,rfl,λh=>absurd h ao,λ_=>?_⟩|fail))<;>try(conv=>whnf)
      (refine⟨_,?_,?_,hK⟩<;>repeat'(first|exact rfl|exact trivial|exact bD _|exact dn _|exact cr|refine⟨?_,?_⟩))
     ·rw[O3 iG]at f2;have hK:=f2 ao
      (repeat'(refine iM ?_;first|refine au ab ?_|refine aw ab ?_|refine au ao ?_|refine dq λ_=>?_|refine uM aA ?_|refine Q3 ab ?_|refine bT ?_|refine⟨_,⟨_,_,rfl,rfl⟩,?_⟩|refine⟨_,_,rfl,λh=>absurd h ao,λ_=>?_⟩|fail))<;>try(conv=>whnf)
      (refine⟨_,?_,?_,hK⟩<;>repeat'(first|exact rfl|exact trivial|exact bD _|exact dn _|exact cr|refine⟨?_,?_⟩))
    ·have ed:S.drop i=r::S.drop (i+1):=by
      rw[zah aU]at hr;rw[zcj aU,Option.some.inj hr]
     rw[ed]at hg D6;simp only[kA,qa,if_neg hz]at hg D6
     (repeat'(refine iM ?_;first|refine bj ab ?_|refine au ab ?_|refine aw ab ?_|refine I8 ?_|refine uM aA ?_|refine Q3 ab ?_|refine bT ?_|refine zcB cu ?_|fail))<;>try(conv=>whnf)
     refine⟨m-1,ab,i+1,left-min r.n left,out++[⟨r.s,min r.n left⟩],⟨ab,ab,ab,aH,?_,D6⟩,?_,rfl⟩
     ·rw[<-hg,zaj];rfl
     ·rw[zbu];rfl
   ·obtain⟨f1,f2⟩:=fin (.inr aU);by_cases hz:left=0
    ·subst hz;by_cases iG:out.length<=64
     ·have hK:=f1 (afW iG)
      (repeat'(refine iM ?_;first|refine au ab ?_|refine aw ab ?_|refine aw ao ?_|refine dq λ_=>?_|refine bT ?_|refine⟨_,⟨_,_,rfl,rfl⟩,?_⟩|refine⟨_,_,rfl,λh=>absurd h ao,λ_=>?_⟩|fail))<;>try(conv=>whnf)
      (refine⟨_,?_,?_,hK⟩<;>repeat'(first|exact rfl|exact trivial|exact bD _|exact dn _|exact cr|refine⟨?_,?_⟩))
     ·rw[O3 iG]at f2;have hK:=f2 ao
      (repeat'(refine iM ?_;first|refine au ab ?_|refine aw ab ?_|refine au ao ?_|refine dq λ_=>?_|refine bT ?_|refine⟨_,⟨_,_,rfl,rfl⟩,?_⟩|refine⟨_,_,rfl,λh=>absurd h ao,λ_=>?_⟩|fail))<;>try(conv=>whnf)
      (refine⟨_,?_,?_,hK⟩<;>repeat'(first|exact rfl|exact trivial|exact bD _|exact dn _|exact cr|refine⟨?_,?_⟩))
    ·rw[ad9 hz]at f2;have hK:=f2 ao
     (repeat'(refine iM ?_;first|refine au ab ?_|refine aw ab ?_|refine de (λ_=>?_) (λ_=>?_)|refine dq λ_=>?_|refine bT ?_|refine⟨_,⟨_,_,rfl,rfl⟩,?_⟩|refine⟨_,_,rfl,λ_=>?_,λh=>absurd h ao⟩|fail))<;>try(conv=>whnf)
     all_goals(refine⟨_,?_,?_,hK⟩<;>repeat'(first|exact rfl|exact trivial|exact bD _|exact dn _|exact cr|refine⟨?_,?_⟩))
 ·have hK:=Gt he
  (repeat'(refine iM ?_;first|refine au ab ?_|refine bT ?_|refine⟨_,_,_,_,rfl,cU,?_⟩|fail))<;>try(conv=>whnf)
  (refine⟨_,?_,?_,hK⟩<;>repeat'(first|exact rfl|exact trivial|exact bD _|exact dn _|exact cr|refine⟨?_,?_⟩))
def UO(near:Int)(L:List Rn):List Rn:=L.mergeSort (λx y=>!vw near y x)
def YV(near:Int)(L:List Rn):ahT near L (UO near L):=by
 have ho:=Ma near;refine⟨List.mergeSort_perm _ _,?_⟩;have:=List.pairwise_mergeSort (le:=λx y=>!vw near y x) (λa b c h1 h2=>by
  simp at h1 h2 ⊢;exact ho.trans _ _ _ h1 h2) (λa b=>by
  cases h:vw near b a with
  |false=>simp
  |true=>simp[ho.asymm _ _ h]) L
 exact this.imp λh=>ky
def Ju(s:List UInt8)(n c near:Int):List Rn:=
 if IZ s n c near≠0 then[]else match Sw s n c near with
  |some x=>[⟨x,c⟩]
  |none=>if I2 (qa c (UO near (nG s n))) (kA c (UO near (nG s n))).length=0 then kA c (UO near (nG s n))else[]
def Fy(s:List UInt8)(n c near:Int):Int:=
 if IZ s n c near≠0 then IZ s n c near else match Sw s n c near with
  |some _=>0
  |none=>I2 (qa c (UO near (nG s n))) (kA c (UO near (nG s n))).length
def aun{s:List UInt8}{n c near:Int}{K:RV->Prop}(hK:K (.tup [.fresh 37 2 ((Ju s n c near).map Rn.pv),.pv (pI (Fy s n c near))])):
 (IZ s n c near≠0->K (.tup [.fresh 37 2 [],.pv (pI (IZ s n c near))]))/\
 (IZ s n c near=0→∀x,Sw s n c near=some x->K (.tup [.fresh 37 2 ([(⟨x,c⟩:Rn)].map Rn.pv),.pv (pI 0)]))/\
 (IZ s n c near=0->Sw s n c near=none→∀S,ahT near (nG s n) S->
 (I2 (qa c S) (kA c S).length=0->K (.tup [.fresh 37 2 ((kA c S).map Rn.pv),.pv (pI 0)]))/\(I2 (qa c S) (kA c S).length≠0->K (.tup [.fresh 37 2 [],.pv (pI (I2 (qa c S) (kA c S).length))]))):=by
 unfold Ju Fy at hK;refine⟨λh=>?_,λh x hx=>?_,λh hx S hS=>?_⟩
 ·rw[if_pos h,if_pos h]at hK;exact hK
 ·simp only[h,hx,ne_eq,not_true_eq_false,if_false]at hK;exact hK
 ·simp only[h,hx,ne_eq,not_true_eq_false,if_false]at hK;have:=apg hS (YV near (nG s n));subst this;refine⟨λh=>?_,λh=>?_⟩
  ·simp only[if_pos h]at hK;rw[h]at hK;exact hK
  ·simp only[if_neg h]at hK;exact hK
def K3:Spec:=EM true false λps K=>∃(s:List UInt8) (n c near:Int),ps=[.str s,pI n,.agg [pI c,pI near]]/\s.length<=100000/\K (.tup [.fresh 37 2 ((Ju s n c near).map Rn.pv),.pv (pI (Fy s n c near))])
def V2:MT (ay [(269,My),(270,ae0),(271,FQ),(272,sB QR),(273,ah Pt),(174,BX),(172,ah jw)]) uW K3:=
 λargs K ⟨s,n,c,near,h1,h2,hK⟩=>abk args K ⟨s,n,c,near,h1,h2,aun hK⟩
inductive Sl(α:Type) where
 |nil
 |sl (l:List α)
def Sl.l{α:Type}:Sl α->List α
 |nil=>[]
 |sl l=>l
def Sl.pv{α:Type}(f:α->PV)(sz:Nat):Sl α->PV
 |nil=>.nil sz
 |sl l=>.sl sz (l.map f)
def KP{α:Type}{f:α->PV}{sz:Nat}{s:Sl α}{K:Nat->List PV->Prop}(k:K sz (s.l.map f)):Ef [] (.pv (s.pv f sz)) K:=by
 cases s<;>exact k
def n5{α:Type}{f:α->PV}{sz:Nat}{s:Sl α}{i:Nat}{K:PV->Prop}(h:i<s.l.length)(k:∀x,s.l[i]?=some x->K (f x)):
 (match s.pv f sz with
   | .sl s aC=>(match Nat.beq s sz with
    |true=>∃y,(0<=(i:Int)/\aC[(i:Int).toNat]?=some y)/\K y
    |false=>False)
   |_=>False):=by
 cases s with
 |nil=>exact absurd h (by simp[Sl.l])
 |sl l=>
  show(match Nat.beq sz sz with|true=>∃y,(0<=(i:Int)/\(l.map f)[(i:Int).toNat]?=some y)/\K y|false=>False);rw[Nat.beq_refl];exact⟨f l[i],⟨ab,by rw[zaC,za9,show l[i]?=some l[i]from zah h];rfl⟩,k _ (zah h)⟩
def Ek{α:Type}{f:α->PV}{sz:Nat}{s:Sl α}{i:Nat}{x:α}{K:PV->Prop}(h:s.l[i]?=some x)(k:K (f x)):
 (match s.pv f sz with
   | .sl s aC=>(match Nat.beq s sz with
    |true=>∃y,(0<=(i:Int)/\aC[(i:Int).toNat]?=some y)/\K y
    |false=>False)
   |_=>False):=n5 (eT h) (λ_ h'=>get_inj h h'▸k)
def aEP{α:Type}{f:α->PV}{sz:Nat}{s:Sl α}{i:Int}{x:α}{K:PV->Prop}(h0:0<=i)(h:s.l[i.toNat]?=some x)(k:K (f x)):
 (match s.pv f sz with
   | .sl s aC=>(match Nat.beq s sz with
    |true=>∃y,(0<=i/\aC[i.toNat]?=some y)/\K y
    |false=>False)
   |_=>False):=by
 obtain⟨n,rfl⟩:=zc6 h0;exact Ek ky k
def Sl.cells{α:Type}{f:α->PV}{sz:Nat}{s:Sl α}:(s.pv f sz).cells=[s.pv f sz]:=by cases s<;>rfl
abbrev Rs:=Sl Rn
abbrev qF(s:Sl Rn):PV:=s.pv Rn.pv 2
structure At where
 ty:Int
 nm:List UInt8
 id:Int
 fl:Int
 rs:Bool
 vl:List UInt8
 ft:Int
 rn:Sl Rn
 al:Int
 sz:Int
 vd:Int
def At.pv(a:At):PV:=.agg [pI a.ty,.str a.nm,pI a.id,pI a.fl,pB a.rs,.str a.vl,pI a.ft,qF a.rn,pI a.al,pI a.sz,pI a.vd]
def gB(ps:List PV)(x:PV):Prop:=∃l:List Int,ps=[.sl 1 (l.map pI)]/\x=pI (bQ l)
def kS:MT (ay []) DG (ah gB):=by
 rintro _ K ⟨_,⟨l,rfl,rfl⟩,hK⟩;refine λhl=>?_
 rw[zav]at hl;refine⟨λm env σ=>∃n:Nat,(n+m=l.length∧∀j,j<n->l[j]?=some 0)/\σ=[]/\env=[(5,.pv (.sl 1 (l.map pI))),eN 6 ((l.map pI).length:Nat),eN 7 n],l.length,⟨0,⟨ab,λj hj=>ab⟩,rfl,rfl⟩,?_⟩;rintro m env σ ⟨n,⟨hn,h0⟩,rfl,rfl⟩;refine λb hb=>?_
 rw[zav]at hb;rcases cmp hb with⟨rfl,h⟩|⟨rfl,h⟩
 ·have aU:n<l.length:=by omega
  refine⟨pI l[n],⟨ab,?_⟩,?_⟩
  ·show(l.map pI)[n]?=some (pI l[n]);simp[aU]
  refine λb hb=>?_
  rcases cmp hb with⟨rfl,h⟩|⟨rfl,h⟩
  ·refine⟨.pv (pI _),bu ?_,trivial,hK⟩;rw[ke l n h0,zcj aU];simp[bQ,h]
  ·refine λx hx=>?_
   replace hx:=dB hx ab;subst hx;refine⟨m-1,ab,n+1,⟨ab,λj hj=>?_⟩,rfl,rfl⟩;by_cases nd:j<n
   ·exact h0 j nd
   ·have:j=n:=by omega
    subst this;rw[zah aU];simpa using h
 ·refine⟨.pv (pI _),bu ?_,trivial,hK⟩;rw[ke l n h0,zcc ab];rfl
def Qv:MT (ay []) N6 (ah gB):=kS
def dG(ps:List PV)(x:PV):Prop:=∃(ok:Bool) (e:Int),ps=[pB ok,pI e]/\x=pI (if ok=true then 0 else e)
def jP:MT (ay []) AX (ah dG):=by
 rintro _ K ⟨_,⟨ok,e,rfl,rfl⟩,hK⟩;cases ok with
 |true=>exact aG
 |false=>exact aG
def OQ:MT (ay []) LJ (ah dG):=jP
def RG:MT (ay []) N_ (ah dG):=jP
def uL:MT (ay []) Cr (bF bG):=by
 rintro _ K ⟨_,⟨n,lo,hi,rfl,rfl⟩,hK⟩
 (repeat'((conv=>whnf);first|refine de (λ_=>?_) (λ_=>?_)|fail))<;>try(conv=>whnf)
 all_goals exact kQ
def Sd:MT (ay []) N2 (bF bG):=uL
def BJ(ps:List PV)(p:Prop):Prop:=∃r:Rn,ps=[r.pv]/\p=(r.s= -1)
def ae1:MT (ay []) N4 (bF BJ):=by
 rintro _ K ⟨_,⟨r,rfl,rfl⟩,hK⟩
 (repeat'((conv=>whnf);first|refine de (λ_=>?_) (λ_=>?_)|fail))<;>try(conv=>whnf)
 all_goals exact kQ
def jZ(r:Rn):Prop:=if r.s= -1 then 1<=r.n/\r.n<=4096 else(0<=r.s/\r.s<=511)/\1<=r.n/\r.n<=512-r.s
instance (r:Rn):Decidable (jZ r):=by unfold jZ;infer_instance
def Ph(ps:List PV)(x:PV):Prop:=∃r:Rn,ps=[r.pv]/\x=pI (if jZ r then 0 else 2)
def Yf:MT (ay [(233,bF BJ),(230,bF bG),(229,ah dG)]) HT (ah Ph):=by
 rintro _ K ⟨_,⟨r,rfl,rfl⟩,hK⟩;unfold jZ at hK
 (repeat'(refine iM ?_;first|refine bj ab ?_|refine aN ?_|refine bP ?_|refine de (λ_=>?_) (λ_=>?_)|refine⟨_,⟨_,rfl,rfl⟩,?_⟩|refine⟨_,⟨_,_,rfl,rfl⟩,?_⟩|refine⟨_,⟨_,_,_,rfl,rfl⟩,?_⟩|fail))<;>try(conv=>whnf)
 all_goals(refine⟨.pv (pI _),bu ?_,trivial,hK⟩;simp[*])
def iy(a b:Rn):Prop:=(a.s= -1↔b.s= -1)/\(a.s= -1\/a.s+a.n=b.s)
instance (a b:Rn):Decidable (iy a b):=by unfold iy;infer_instance
def jZ.b{r:Rn}(h:jZ r):I3 r:=by unfold jZ at h;unfold I3;split at h<;>omega
def Ab(ps:List PV)(p:Prop):Prop:=∃a b:Rn,ps=[a.pv,b.pv]/\(I3 a/\I3 b)/\p=iy a b
def akf:MT (ay [(233,bF BJ)]) Sf (bF Ab):=by
 rintro _ K ⟨_,⟨a,b,rfl,⟨ha,hb⟩,rfl⟩,hK⟩;unfold iy at hK;unfold I3 at ha hb
 (repeat'(refine iM ?_;first|refine bj ab ?_|refine aN ?_|refine bP ?_|refine au ab ?_|refine aw ab ?_|refine au ao ?_|refine aw ao ?_|refine de (λ_=>?_) (λ_=>?_)|refine bT ?_|refine⟨_,⟨_,rfl,rfl⟩,?_⟩|fail))<;>try(conv=>whnf)
 all_goals exact yj
def Rn.has(r:Rn)(c:Nat):Bool:=decide (r.s≠ -1/\r.s<=c/\(c:Int)<r.s+r.n)
abbrev Yi(L:List Bool):dC:=.row 277 1 false (L.map PV.bool)
structure mc(L:List Bool)(f:Nat->Bool):Prop where
 len:L.length=512
 get:∀c,c<512->L[c]?=some (f c)
def mc.set{L:List Bool}{f:Nat->Bool}(h:mc L f)(i:Nat):mc (L.set i true) (λc=>f c||decide (c=i)):=by
 refine⟨by simp[h.len],λc hc=>?_⟩;by_cases e:i=c
 ·subst e;simp[h.len,hc]
 ·rw[zcG e,h.get c hc];simp[Ne.symm e]
def mc.congr{L:List Bool}{f g:Nat->Bool}(h:mc L f)(e:∀c,c<512->f c=g c):mc L g:=⟨h.len,λc hc=>(e c hc)▸h.get c hc⟩
def ag6(xs:List AV)(σ:aF)(K:AV->aF->Prop):Prop:=∃(r:Rn) (f:Nat->Bool) (L:List Bool),xs=[.ref 0 0 0,.pv r.pv]/\(jZ r/\mc L f)/\σ=[Yi L]∧∀(ok:Bool) (L':List Bool),(ok=true↔∀c,c<512->r.has c=true->f c=false)->mc L' (λc=>f c||r.has c)->K (.pv (pB ok)) [Yi L']
def Rn.QV(r:Rn)(n:Nat)(c:Nat):Bool:=decide (r.s<=c/\(c:Int)<r.s+n)
def al1:gO (ay [(233,bF BJ)]) Gi (sB ag6):=by
 rintro _ _ K ⟨r,f,L,rfl,⟨hr,hL⟩,rfl,hK⟩;unfold jZ at hr
 (repeat'(refine iM ?_;first|refine de (λ_=>?_) (λ_=>?_)|refine⟨_,⟨_,rfl,rfl⟩,?_⟩|fail))<;>try(conv=>whnf)
 ·exact hK true L (by simp[Rn.has, *]) (hL.congr λc _=>by simp[Rn.has, *])
 ·rename_i hs;rw[if_neg hs]at hr;refine⟨λm env σ=>∃(n:Nat) (ok:Bool) (L:List Bool),(n+m=r.n.toNat/\(ok=true↔∀c,c<512->r.QV n c=true->f c=false)/\mc L (λc=>f c||r.QV n c))/\σ=[Yi L,.box 37 [.pv (pI r.s),.pv (pI r.n)]]/\env=[(0,.ref 0 0 0),(3,.ref 1 0 0),(5,.pv (pB ok)),eN 6 (r.s+n)],r.n.toNat,⟨0,true,L,⟨ab,by simp[Rn.QV];omega,hL.congr λc _=>by simp[Rn.QV];omega⟩,rfl,aj⟩,?_⟩;rintro m env σ ⟨n,ok,L,⟨hn,di,hL⟩,rfl,rfl⟩;have KS:∀c,r.QV (n+1) c=(r.QV n c||decide (c=(r.s+n).toNat)):=λc=>by
   unfold Rn.QV;rw[zaN];simp;omega
  have LO:mc (L.set (r.s+n).toNat true) (λc=>f c||r.QV (n+1) c):=(hL.set (r.s+n).toNat).congr λc _=>by rw[KS c,Bool.or_assoc]
  have aK4:r.QV n (r.s+n).toNat=false:=by unfold Rn.QV;simp;omega
  have Gr:n<r.n.toNat->L[(r.s+n).toNat]?=some (f (r.s+n).toNat):=λh=>by rw[hL.get _ ab,aK4,zde]
  have e:r.s+((n+1:Nat):Int)=r.s+(n:Int)+1:=ab;have nK:n<r.n.toNat->((∀c,c<512->r.QV (n+1) c=true->f c=false)↔(∀c,c<512->r.QV n c=true->f c=false)/\f (r.s+n).toNat=false):=λh=>by
   constructor
   ·intro h1;exact⟨λc hc hh=>h1 c hc (by rw[KS,hh];rfl),h1 _ ab (by rw[KS];simp)⟩
   ·rintro⟨h1,h2⟩ c hc hh;rw[KS,zbE,decide_eq_true_iff]at hh;rcases hh with hh|hh
    ·exact h1 c hc hh
    ·rw[hh];exact h2
  have adL:¬n<r.n.toNat→∀c,r.QV n c=r.has c:=λh c=>by unfold Rn.QV Rn.has;rw[zaN];simp;omega
  cases ok
  ·(repeat'((conv=>whnf);first|refine zcB ⟨by rw[zav];exact hL.len,ab,ab⟩ ?_|refine aFA (Gr ab) ?_|refine bj ab ?_|refine de (λ_=>?_) (λ_=>?_)|refine bT ?_|fail))<;>try(conv=>whnf)
   ·refine⟨m-1,ab,n+1,false,_,⟨ab,?_,LO⟩,congrArg (λx=>[dC.row 277 1 false x,_]) oU,by rw[e]⟩;rw[nK ab,<-di];simp
   ·refine hK false L (by simpa only[adL ab]using di) (hL.congr λc _=>by rw[adL ab])
  ·(repeat'((conv=>whnf);first|refine zcB ⟨by rw[zav];exact hL.len,ab,ab⟩ ?_|refine aFA (Gr ab) ?_|refine bj ab ?_|refine de (λ_=>?_) (λ_=>?_)|refine bT ?_|fail))<;>try(conv=>whnf)
   ·rename_i hf;refine⟨m-1,ab,n+1,true,_,⟨ab,?_,LO⟩,congrArg (λx=>[dC.row 277 1 false x,_]) oU,by rw[e]⟩;rw[nK ab,<-di];simp[hf]
   ·rename_i hf;refine⟨m-1,ab,n+1,false,_,⟨ab,?_,LO⟩,congrArg (λx=>[dC.row 277 1 false x,_]) oU,by rw[e]⟩;rw[nK ab,<-di];simpa using hf
   ·refine hK true L (by simpa only[adL ab]using di) (hL.congr λc _=>by rw[adL ab])
def J8(l m:List Rn):bI (l++m)=bI l+bI m:=by simp[bI]
def aeq{l:List Rn}{i:Nat}{r:Rn}(h:l[i]?=some r):bI (l.take (i+1))=bI (l.take i)+r.n:=by
 rw[zcX,h,J8];simp[bI]
def yP(l:List Rn):Prop:=l.length<=1000∧∀r∈l,-1000000000000<=r.n/\r.n<=1000000000000
def yP.sum{l:List Rn}(h:yP l):∀i,i<=l.length-> -1000000000000*i<=bI (l.take i)/\bI (l.take i)<=1000000000000*i:=by
 intro i
 induction i with
 |zero=>intro _;simp[bI]
 |succ i ih=>
  intro hi;have hx:=zah (show i<l.length by omega);rw[aeq hx];have h1:=ih ab;have h2:=h.2 _ (zdw (show i<l.length by omega));omega
def iu(ps:List PV)(x:PV):Prop:=∃s:Rs,ps=[qF s]/\yP s.l/\x=pI (bI s.l)
def agW:MT (ay []) NI (ah iu):=by
 rintro _ K ⟨_,⟨s,rfl,hs,rfl⟩,hK⟩
 (repeat'((conv=>whnf);first|refine KP ?_|refine dq λ_=>?_|fail))<;>try(conv=>whnf)
 refine⟨λm env σ=>∃(n:Nat),n+m=s.l.length/\σ=[]/\env=[eN 3 (bI (s.l.take n)),(6,.pv (qF s)),eN 7 s.l.length,eN 8 n],s.l.length,⟨0,ab,rfl,rfl⟩,?_⟩;rintro m env σ ⟨n,hn,rfl,rfl⟩;have hb:=hs.sum n ab;have hl:=hs.1
 (repeat'((conv=>whnf);first|(refine n5 ab (λx hx=>?_);have:=hs.2 x (zag hx))|refine bj ab ?_|refine de (λ_=>?_) (λ_=>?_)|refine bT ?_|fail))<;>try(conv=>whnf)
 ·exact abg
 ·rw[za1 ab];exact aG
def wo(f:Nat->Int):Nat->Nat->Int×Int
 |_,0=>(0,0)
 |i,n+1=>if f i=0 then wo f (i+1) n else((i:Int),f i)
def aiD{f:Nat->Int}{i n:Nat}(h:f i≠0):wo f i (n+1)=((i:Int),f i):=if_neg h
def ap7{f:Nat->Int}{i n:Nat}(h:f i=0):wo f i (n+1)=wo f (i+1) n:=if_pos h
def U2{f:Nat->Int}{i n:Nat}(h:∀j,j<i->f j=0):∀k,k<=i->i<=n->wo f k (n-k)=wo f i (n-i):=by
 intro k
 induction hd:i-k generalizing k with
 |zero=>intro h1 _;have:k=i:=by omega
        subst this;rfl
 |succ d ih=>
  intro h1 h2;rw[<-ih (k+1) ab ab h2,show n-k=(n-(k+1))+1 by omega,ap7 (h k ab)]
def aqT{f:Nat->Int}{i n:Nat}(h:∀j,j<i->f j=0)(hi:i<n)(hf:f i≠0):wo f 0 n=((i:Int),f i):=by
 have:=U2 (n:=n) h 0 ab ab;rw[Nat.sub_zero]at this;rw[this,show n-i=(n-i-1)+1 by omega,aiD hf]
def ai6{f:Nat->Int}{n:Nat}(h:∀j,j<n->f j=0):wo f 0 n=(0,0):=by
 have:=U2 (n:=n) h 0 ab (zai _);rw[Nat.sub_zero,zck]at this;rw[this];rfl
def apf{f:Nat->Int}{n:Nat}(h:(wo f 0 n).2=0):∀j,j<n->f j=0:=by
 intro j hj;refine Classical.byContradiction λcb=>?_
 have:∀i k,(∃j,i<=j/\j<i+k/\f j≠0)->(wo f i k).2≠0:=by
  intro i k
  induction k generalizing i with
  |zero=>rintro⟨j,h1,h2,_⟩;omega
  |succ k ih=>
   rintro⟨j,h1,h2,h3⟩;unfold wo;split
   ·rename_i h0;refine ih (i+1) ⟨j,?_,ab,h3⟩;rcases zc0 h1 with h4|h4
    ·omega
    ·subst h4;exact absurd h0 h3
   ·assumption
 exact this 0 n ⟨j,ab,ab,cb⟩ h
def pE(a b:Rn):Prop:=a.s≠ -1/\b.s≠ -1/\a.s<b.s+b.n/\b.s<a.s+a.n
instance (a b:Rn):Decidable (pE a b):=by unfold pE;infer_instance
def Wx(l:List Rn)(i:Nat):Int:=match l[i]? with
 |none=>0
 |some r=>if ¬jZ r then 2 else if 0<i/\(∃p,l[i-1]?=some p/\iy p r)then 3 else if ∃k,k<i∧∃p,l[k]?=some p/\pE p r then 23 else 0
def Jr{l:List Rn}{i:Nat}{r:Rn}(h:l[i]?=some r)(h0:Wx l i=0):jZ r:=by
 unfold Wx at h0;rw[h]at h0;refine Classical.byContradiction λhr=>?_
 simp[hr]at h0
def kX(l:List Rn):Int×Int:=if 64<l.length then(0,8)else if (wo (Wx l) 0 l.length).2≠0 then wo (Wx l) 0 l.length else(0,if bI l<=4096 then 0 else 8)
def dU(l:List Rn):Int:=(kX l).2
def agj{l:List Rn}(hl:l.length<=1000)(h:∀j,j<l.length->Wx l j=0):yP l:=by
 refine⟨hl,λr hr=>?_⟩;obtain⟨i,hi⟩:=jk.1 hr;have:=(Jr hi (h i (eT hi))).b;unfold I3 at this;omega
def aje{l:List Rn}{n:Nat}{x p:Rn}(hx:l[n]?=some x)(h:jZ x)(hn:0<n)(hp:l[n-1]?=some p)(hj:iy p x):Wx l n=3:=by
 unfold Wx;rw[hx];simp only[h,not_true_eq_false,if_false];rw[if_pos ⟨hn,p,hp,hj⟩]
def afo{l:List Rn}{n:Nat}{x:Rn}(hx:l[n]?=some x)(h:jZ x)(hj:∀p,0<n->l[n-1]?=some p→¬iy p x)(hd:∃k,k<n∧∃p,l[k]?=some p/\pE p x):Wx l n=23:=by
 unfold Wx;rw[hx];simp only[h,not_true_eq_false,if_false];rw[if_neg (by rintro⟨h1,p,h2,h3⟩;exact hj p h1 h2 h3),if_pos hd]
def KD{l:List Rn}{n:Nat}{x:Rn}(hx:l[n]?=some x)(h:jZ x)(hj:∀p,0<n->l[n-1]?=some p→¬iy p x)(hd:¬ ∃k,k<n∧∃p,l[k]?=some p/\pE p x):Wx l n=0:=by
 unfold Wx;rw[hx];simp only[h,not_true_eq_false,if_false];rw[if_neg (by rintro⟨h1,p,h2,h3⟩;exact hj p h1 h2 h3),if_neg hd]
def Zz{p q:Rn}(hp:jZ p)(hq:jZ q):pE p q↔∃c:Nat,c<512/\p.has c=true/\q.has c=true:=by
 unfold jZ at hp hq;unfold pE Rn.has;simp only[decide_eq_true_iff];constructor
 ·rintro⟨h1,h2,h3,h4⟩;rw[if_neg h1]at hp;rw[if_neg h2]at hq;exact⟨(max p.s q.s).toNat,ab,⟨h1,ab,ab⟩,⟨h2,ab,ab⟩⟩
 ·rintro⟨c,_,⟨h1,h2,h3⟩,⟨h4,h5,h6⟩⟩;exact⟨h1,h4,ab,ab⟩
def aae(ps:List PV)(r:RV):Prop:=∃s:Rs,ps=[qF s]/\r=.tup [.pv (pI (kX s.l).1),.pv (pI (kX s.l).2)]
def anq{l:List Rn}(h:64<l.length):kX l=(0,8):=by unfold kX;rw[if_pos h]
def Ox{l:List Rn}{n:Nat}{e:Int}(hl:l.length<=64)(h0:∀k,k<n->Wx l k=0)(aU:n<l.length)(he:Wx l n=e)(cb:e≠0):kX l=((n:Int),e):=by
 unfold kX;rw[if_neg ab,aqT h0 aU (by rw[he];exact cb),he,if_pos cb]
def Mo{l:List Rn}(hl:l.length<=64)(h0:∀k,k<l.length->Wx l k=0):kX l=(0,if bI l<=4096 then 0 else 8):=by
 unfold kX;rw[if_neg ab,ai6 h0,if_neg aj]
def Bc(l:List Rn)(n c:Nat):Bool:=(l.take n).any λr=>r.has c
def KY{l:List Rn}{n c:Nat}{x:Rn}(h:l[n]?=some x):Bc l (n+1) c=(Bc l n c||x.has c):=by
 unfold Bc;rw[zcX,h];simp
def Fq{l:List Rn}{n:Nat}{x:Rn}(h0:∀k,k<n->Wx l k=0)(hx:jZ x):(∃k,k<n∧∃p,l[k]?=some p/\pE p x)↔¬ ∀c,c<512->x.has c=true->Bc l n c=false:=by
 constructor
 ·rintro⟨k,hk,p,hp,hs⟩ h;obtain⟨c,h1,h2,h3⟩:=(Zz (Jr hp (h0 k hk)) hx).1 hs;have h4:=h c h1 h3;unfold Bc at h4;rw[zdu]at h4;exact h4 p (zag (by rw[zdg hk];exact hp)) h2
 ·intro h;refine Classical.byContradiction λhn=>h λc hc hh=>?_
  unfold Bc;rw[zdu];intro p hp s7;obtain⟨k,hk⟩:=jk.1 hp;have kP:k<n:=by have:=eT hk;simp at this;omega
  rw[zdg kP]at hk;exact hn ⟨k,kP,p,hk,(Zz (Jr hk (h0 k kP)) hx).2 ⟨c,hc,s7,hh⟩⟩
def aF7(l:List Rn):mc (List.replicate 512 false) (Bc l 0):=⟨zap,λc hc=>by rw[List.getElem?_replicate,if_pos hc];rfl⟩
def Wc:MT (ay [(246,ah Ph),(247,bF Ab),(248,sB ag6),(197,ah iu),(229,ah dG)]) FW (c8 true aae):=by
 rintro _ K ⟨_,⟨s,rfl,rfl⟩,hK⟩
 (repeat'((conv=>whnf);first|refine KP ?_|refine de (λ_=>?_) (λ_=>?_)|refine dq λ_=>?_|fail))<;>try(conv=>whnf)
 ·rename_i h;rw[anq ab]at hK;exact kM
 rename_i h;refine⟨λm env σ=>∃(n:Nat) (L:List Bool),(n+m=s.l.length/\(∀k,k<n->Wx s.l k=0)/\mc L (Bc s.l n))/\σ=[Yi L]/\env=[(0,.pv (qF s)),(4,.ref 0 0 0),(11,.pv (qF s)),eN 12 s.l.length,eN 13 n],s.l.length,⟨0,List.replicate 512 false,⟨ab,λk hk=>ab,aF7 _⟩,by unfold Yi;rw[zcm],rfl⟩,?_⟩;rintro m env σ ⟨n,L,⟨hn,h0,hL⟩,rfl,rfl⟩;by_cases aU:n<s.l.length
 ·obtain⟨x,hx⟩:∃x,s.l[n]?=some x:=⟨_,zah aU⟩
  by_cases SI:jZ x
  case neg=>
   have hv:kX s.l=((n:Int),2):=Ox ab h0 aU (by unfold Wx;rw[hx];simp[SI]) ao;rw[hv]at hK
   (repeat'((conv=>whnf);first|refine Ek hx ?_|refine⟨_,⟨x,rfl,rfl⟩,?_⟩|refine au (by rw[if_neg SI];decide) ?_|refine au ab ?_|refine bT ?_|fail))<;>try(conv=>whnf)
   rw[if_neg SI];exact kM
  by_cases x3:0<n
  ·obtain⟨p,hp⟩:∃p,s.l[n-1]?=some p:=⟨_,zah ab⟩
   (repeat'((conv=>whnf);first|refine Ek hx ?_|refine aEP (x:=p) ab aiB ?_|refine⟨_,⟨x,rfl,rfl⟩,?_⟩|refine aw (λh=>h (if_pos SI)) ?_|refine⟨_,⟨p,x,rfl,⟨(Jr hp (h0 _ ab)).b,SI.b⟩,rfl⟩,?_⟩|refine⟨x,_,L,rfl,⟨SI,hL⟩,rfl,λok L' di y3=>?_⟩|refine bj ab ?_|refine au ab ?_|refine de (λ_=>?_) (λ_=>?_)|refine bT ?_|fail))<;>try(conv=>whnf)
   ·rename_i hj;have hv:kX s.l=((n:Int),3):=Ox ab h0 aU (aje hx SI x3 hp hj) ao;rw[hv]at hK;exact kM
   ·rename_i hj hd;have hv:kX s.l=((n:Int),23):=Ox ab h0 aU (afo hx SI (λq _ hq=>Qe) ((Fq h0 SI).2 λh=>by rw[di.2 h]at hd;cases hd)) ao;rw[hv]at hK;exact kM
   ·rename_i hj hd;have hz:=KD hx SI (λq _ hq=>Qe) (λh=>(Fq h0 SI).1 h (di.1 (by simpa using hd)));exact⟨m-1,ab,n+1,L',⟨ab,λk hk=>by
     rcases zc0 (zc1 hk)with h1|h1
     ·exact h0 k h1
     ·rw[h1];exact hz,y3.congr λc _=>(KY hx).symm⟩,rfl,rfl⟩
  ·(repeat'((conv=>whnf);first|refine Ek hx ?_|refine⟨_,⟨x,rfl,rfl⟩,?_⟩|refine aw (λh=>h (if_pos SI)) ?_|refine⟨x,_,L,rfl,⟨SI,hL⟩,rfl,λok L' di y3=>?_⟩|refine bj ab ?_|refine au ab ?_|refine aw ab ?_|refine de (λ_=>?_) (λ_=>?_)|refine bT ?_|fail))<;>try(conv=>whnf)
   ·rename_i hd;have hv:kX s.l=((n:Int),23):=Ox ab h0 aU (afo hx SI (λq h _=>absurd h x3) ((Fq h0 SI).2 λh=>by rw[di.2 h]at hd;cases hd)) ao;rw[hv]at hK;exact kM
   ·rename_i hd;have hz:=KD hx SI (λq h _=>absurd h x3) (λh=>(Fq h0 SI).1 h (di.1 (by simpa using hd)));exact⟨m-1,ab,n+1,L',⟨ab,λk hk=>by
     rcases zc0 (zc1 hk)with h1|h1
     ·exact h0 k h1
     ·rw[h1];exact hz,y3.congr λc _=>(KY hx).symm⟩,rfl,rfl⟩
 ·(repeat'((conv=>whnf);first|refine⟨_,⟨s,rfl,agj ab (λj hj=>h0 j ab),rfl⟩,?_⟩|(refine fe ?_;first|refine aw ab ?_|refine de (λ_=>?_) (λ_=>?_)|refine⟨_,⟨_,_,rfl,rfl⟩,?_⟩|fail)))<;>try(conv=>whnf)
  ·rename_i hs;rw[Mo ab (λk hk=>h0 k ab),if_pos ab]at hK;exact kM
  ·rename_i hs;rw[Mo ab (λk hk=>h0 k ab),if_neg ab]at hK;exact kM
def Iy(n m:Int):Int:=0-(0-n)/m
def YX(ps:List PV)(p:Prop):Prop:=∃(l:List Int) (n:Int),ps=[.sl 1 (l.map pI),pI n]/\l.length<=1000000/\p=(n∈l)
def aqO:MT (ay []) ZL (bF YX):=by
 rintro _ K ⟨_,⟨l,x,rfl,hl,rfl⟩,hK⟩
 (conv=>whnf)
 refine⟨λm env σ=>∃(n:Nat),(n+m=l.length∧∀k,k<n->l[k]?≠some x)/\σ=[]/\env=[(0,.pv (.sl 1 (l.map pI))),eN 1 x,eN 5 n],l.length,⟨0,⟨ab,λk hk=>ab⟩,rfl,rfl⟩,?_⟩;rintro m env σ ⟨n,⟨hn,h0⟩,rfl,rfl⟩
 (repeat'((conv=>whnf);first|refine bj ab ?_|refine de (λ_=>?_) (λ_=>?_)|refine dq λ_=>?_|refine aii ab (λ_ _=>?_)|fail))<;>try(conv=>whnf)
 ·rename_i y hy he;exact⟨.pv (.bool _),rfl,trivial,hK true (by simp only[true_iff];exact he▸zag hy)⟩
 ·rename_i y hy he;exact⟨m-1,ab,n+1,⟨ab,λk hk hq=>by
   rcases zc0 (zc1 hk)with h1|h1
   ·exact h0 k h1 hq
   ·subst h1;rw[hy]at hq;cases hq;exact he rfl⟩,rfl,rfl⟩
 ·refine⟨.pv (.bool _),rfl,trivial,hK false ?_⟩;simp only[zcn,false_iff];intro hx;obtain⟨k,hk⟩:=jk.1 hx;exact h0 k vg hk
def aJ(n:Int):Nat->List UInt8
 |0=>[]
 |k+1=>lV (n%256).toNat::aJ (n/256) k
def gL(k:Nat):∀n,(aJ n k).length=k:=by
 induction k with
 |zero=>intro n;rfl
 |succ k ih=>intro n;simp[aJ,ih]
def aam(k:Nat):∀n,aJ n (k+1)=aJ n k++[lV (n/256^k%256).toNat]:=by
 induction k with
 |zero=>intro n;simp[aJ]
 |succ k ih=>
  intro n;rw[aJ,ih (n/256),aJ,zc7 ao];simp[zdp,Int.mul_comm]
def CL(n:Int):PV.int .u8 (n%256)=aL (lV (n%256).toNat):=ue ab
def IU(B:List UInt8)(at_:Nat)(bs:List UInt8):List UInt8:=B.take at_++bs++B.drop (at_+bs.length)
def auf{B bs:List UInt8}{at_:Nat}(h:at_+bs.length<=B.length):(IU B at_ bs).length=B.length:=by unfold IU;simp;omega
def ajN(B:List UInt8)(at_:Nat):IU B at_ []=B:=by unfold IU;simp
def aqR{B bs:List UInt8}{at_:Nat}{b:UInt8}(h:at_+bs.length<B.length):(IU B at_ bs).set (at_+bs.length) b=IU B at_ (bs++[b]):=by
 unfold IU;rw[zcF _ _ aH];have e:at_+bs.length-(B.take at_++bs).length=0:=aH;rw[e,zcj h,List.set_cons_zero];simp[zaJ]
def aFx{n:Int}{K:Int->Prop}(k:K (n/256)):0<=(8:Int)∧∀r:Int,r=n.fdiv (2^min (8:Int).toNat IntKind.i64.bits)->K r:=by
 refine⟨ao,λr hr=>?_⟩;have e8:min (8:Int).toNat IntKind.i64.bits=8:=ao;rw[e8,Int.fdiv_eq_ediv_of_nonneg _ ao]at hr;rw[hr];exact k
def ayY(xs:List AV)(σ:aF)(K:AV->aF->Prop):Prop:=∃(B:List UInt8) (at_ k:Nat) (n:Int),xs=[.own 0,.pv (pI at_),.pv (pI k),.pv (pI n)]/\(at_+k<=B.length/\B.length<=1000000)/\σ=[.row 5 1 true (B.map aL)]/\K (.tup []) [.row 5 1 true ((IU B at_ (aJ n k)).map aL)]
def apz:gO (ay []) yG (sB ayY):=by
 rintro _ _ K ⟨B,at_,k,n,rfl,⟨h1,h2⟩,rfl,hK⟩
 (conv=>whnf)
 refine⟨λm env σ=>∃(i:Nat),i+m=k/\σ=[.row 5 1 true ((IU B at_ (aJ n i)).map aL)]/\env=[(0,.own 0),eN 1 at_,eN 3 (n/256^i),eN 9 k,eN 10 i],k,⟨0,ab,by simp[aJ,ajN],aj⟩,?_⟩;rintro m env σ ⟨i,hi,rfl,rfl⟩;have bJ:=gL i n;have qG:=auf (B:=B) (at_:=at_) (bs:=aJ n i) ab
 (repeat'((conv=>whnf);first|refine aFx ?_|refine bj ab ?_|refine de (λ_=>?_) (λ_=>?_)|refine Oo ?_|refine Q3 ab ?_|refine aFU ab (λ_ _ _=>?_)|refine bT ?_|fail))<;>try(conv=>whnf)
 ·refine⟨m-1,ab,i+1,ab,?_,?_⟩
  ·rw[aam,<-aqR ab,<-oU,bJ];exact congrArg (λx=>[dC.row 5 1 true (List.set _ _ x)]) (CL _)
  ·rw[zdp,<-zc7 (Int.pow_nonneg ao)];rfl
 ·have:i=k:=by omega
  subst this;exact hK
def jv(n:Int):Nat:=if-128<=n/\n<=127 then 1 else 2
def Y8(n:Int):List UInt8:=aJ n (jv n)
def Bx{n v:Int}{K:Int->Prop}(h:n=v)(k:K v):∀r:Int,r=n->K r:=λr hr=>by rw[hr,h];exact k
def aaw(ps:List PV)(x:PV):Prop:=∃n:Int,ps=[pI n]/\(-32768<=n/\n<=32767)/\x=pI (jv n)
def afr:MT (ay [(230,bF bG)]) NN (ah aaw):=by
 rintro _ K ⟨_,⟨n,rfl,h,rfl⟩,hK⟩;unfold jv at hK
 (conv=>whnf)
 refine⟨λm env σ=>(m=1/\σ=[]/\env=[eN 0 n,eN 3 1])\/(m=0∧¬(-128<=n/\n<=127)/\σ=[]/\env=[eN 0 n,eN 3 2]),1,.inl ⟨rfl,rfl,rfl⟩,?_⟩;rintro m env σ (⟨rfl,rfl,rfl⟩|⟨rfl,hn,rfl,rfl⟩)
 ·(repeat'((conv=>whnf);first|refine Bx (v:= -128) ao ?_|refine Bx (v:=128) ao ?_|(refine fe ?_;first|refine bj ab ?_|refine aN ?_|refine bP ?_|refine de (λ_=>?_) (λ_=>?_)|refine bT ?_|refine⟨_,⟨_,_,_,rfl,rfl⟩,?_⟩|refine wz ?_|fail)))<;>try(conv=>whnf)
  ·rename_i hc;rw[if_pos ab]at hK;exact aG
  ·rename_i hc;exact⟨0,ao,.inr ⟨rfl,ab,rfl,rfl⟩⟩
 ·(repeat'((conv=>whnf);first|refine Bx (v:= -32768) ao ?_|refine Bx (v:=32768) ao ?_|(refine fe ?_;first|refine bj ab ?_|refine aN ?_|refine au ab ?_|refine bT ?_|refine⟨_,⟨_,_,_,rfl,rfl⟩,?_⟩|refine wz ?_|fail)))<;>try(conv=>whnf)
  rw[if_neg hn]at hK;exact aG
def l_(l:List UInt8):∀x∈l.map aL,x.flat:=by
 intro x hx;obtain⟨t,_,rfl⟩:=zaX.1 hx;trivial
def Z0(ps:List PV)(r:RV):Prop:=∃(n:Int) (k:Nat),ps=[pI n,pI k]/\k<=1000/\r=.fresh 5 1 ((aJ n k).map aL)
def agJ:MT (ay []) Od (c8 true Z0):=by
 rintro _ K ⟨_,⟨n,k,rfl,hk,rfl⟩,hK⟩
 (conv=>whnf)
 refine⟨λm env σ=>∃(i:Nat),i+m=k/\σ=[.row 5 1 true ((aJ n i).map aL)]/\env=[eN 0 (n/256^i),(5,.own 0),eN 6 k,eN 7 i],k,⟨0,ab,rfl,aj⟩,?_⟩;rintro m env σ ⟨i,hi,rfl,rfl⟩;have bJ:=gL i n
 (repeat'((conv=>whnf);first|refine aFx ?_|refine bj ab ?_|refine de (λ_=>?_) (λ_=>?_)|refine Oo ?_|refine bT ?_|refine zcB cu ?_|fail))<;>try(conv=>whnf)
 ·refine⟨m-1,ab,i+1,ab,?_,?_⟩
  ·rw[aam,zbu];exact congrArg (λx=>[dC.row 5 1 true (_++[x])]) (CL _)
  ·rw[zdp,<-zc7 (Int.pow_nonneg ao)];rfl
 ·have:i=k:=by omega
  subst this;exact⟨.fresh _ _ _,⟨rfl,rfl,rfl,rfl⟩,l_ _,hK⟩
def wB(ps:List PV)(x:PV):Prop:=∃ls:List Rs,ps=[.sl 1 (ls.map qF)]/\ls.length<=100/\x=pI (bQ (ls.map λs=>dU s.l))
def ac2:MT (ay [(208,c8 true aae)]) J3 (ah wB):=by
 rintro _ K ⟨_,⟨ls,rfl,hl,rfl⟩,hK⟩
 (repeat'((conv=>whnf);first|refine dq λ_=>?_|fail))<;>try(conv=>whnf)
 refine⟨λm env σ=>∃(n:Nat),(n+m=ls.length∧∀j,j<n->(ls.map λs=>dU s.l)[j]?=some 0)/\σ=[]/\env=[(7,.pv (.sl 1 (ls.map qF))),eN 8 ls.length,eN 9 n],ls.length,⟨0,⟨ab,λj hj=>ab⟩,rfl,aj⟩,?_⟩;rintro m env σ ⟨n,⟨hn,h0⟩,rfl,rfl⟩;by_cases aU:n<ls.length
 ·obtain⟨s,hs⟩:∃s,ls[n]?=some s:=⟨_,zah aU⟩
  have hg:(ls.map λs=>dU s.l)[n]?=some (dU s.l):=by rw[za9,hs];rfl
  (repeat'((conv=>whnf);first|refine iY hs ?_|refine⟨_,⟨s,rfl,rfl⟩,?_⟩|rw[Sl.cells]|refine bj ab ?_|refine au ab ?_|refine de (λ_=>?_) (λ_=>?_)|fail))<;>try(conv=>whnf)
  ·rename_i cb;rw[ke _ n h0,zcj (eT hg)]at hK;rw[zah (eT hg)]at hg;rw[Option.some.inj hg]at hK;simp only[bQ]at hK;rw[if_neg (show ¬dU s.l=0 from cb)]at hK;exact aG
  ·rename_i cb;refine⟨m-1,ab,n+1,⟨ab,λj hj=>?_⟩,rfl,rfl⟩;by_cases nd:j<n
   ·exact h0 j nd
   ·rw[show j=n by omega,hg];exact congrArg some (by unfold dU;simpa using cb)
 ·(repeat'((conv=>whnf);first|refine aw ab ?_|fail))<;>try(conv=>whnf)
  rw[ke _ n h0,zcc aH]at hK;exact aG
def acT(st:List UInt8×Int)(r:Rn):List UInt8×Int:=
 if r.s= -1 then(st.1++aJ (jv r.n) 1++Y8 r.n,st.2)
 else(st.1++aJ (jv r.n+16*jv (r.s-st.2)) 1++Y8 r.n++Y8 (r.s-st.2),r.s)
def Cn(l:List Rn)(n:Nat):List UInt8×Int:=(l.take n).foldl acT ([],0)
def tD{l:List Rn}{n:Nat}{x:Rn}(h:l[n]?=some x):Cn l (n+1)=acT (Cn l n) x:=by
 unfold Cn;rw[zcX,h,List.foldl_append];rfl
def qL(l:List Rn):List UInt8:=(Cn l l.length).1++[0]
def afG(n:Int):(Y8 n).length=jv n:=gL _ _
def uB(n:Int):1<=jv n/\jv n<=2:=by unfold jv;split<;>omega
def JP(l:List Rn):∀n,n<=l.length->(Cn l n).1.length<=5*n:=by
 intro n
 induction n with
 |zero=>intro _;simp[Cn]
 |succ n ih=>
  intro h;rw[tD (zah (show n<l.length by omega))];have:=ih ab;have h1:=uB l[n].n;have h2:=uB (l[n].s-(Cn l n).2);unfold acT;split<;>simp only[zad,afG,gL]<;>omega
def adP{l:List Rn}(h:∀r∈l,jZ r):∀n,n<=l.length->0<=(Cn l n).2/\(Cn l n).2<=511:=by
 intro n
 induction n with
 |zero=>intro _;simp[Cn]
 |succ n ih=>
  intro hn;rw[tD (zah (show n<l.length by omega))];have:=ih ab;have h1:=h _ (zdw (show n<l.length by omega));unfold jZ at h1;unfold acT;split
  ·exact this
  ·rename_i hc;rw[if_neg hc]at h1;show 0<=l[n].s/\l[n].s<=511;omega
def bZ{l:List Rn}(h:dU l=0):l.length<=64/\(∀k,k<l.length->Wx l k=0)/\bI l<=4096∧∀r∈l,jZ r:=by
 unfold dU kX at h;split at h
 ·cases h
 rename_i h1;split at h
 ·rename_i h2;exact absurd h h2
 rename_i h2;have h3:=apf iT;refine⟨ab,h3,?_,λr hr=>?_⟩
 ·simp only at h;split at h
  ·assumption
  ·cases h
 ·obtain⟨i,hi⟩:=jk.1 hr;exact Jr hi (h3 i (eT hi))
def aJs{d:Int}{K:Int->Prop}(h:0<=d/\d<=1000)(k:K (d*16)):0<=(4:Int)∧∀r:Int,r=IntKind.i64.wrap (d*2^min (4:Int).toNat IntKind.i64.bits)->K r:=by
 refine⟨ao,λr hr=>?_⟩;have e8:(2:Int)^min (4:Int).toNat IntKind.i64.bits=16:=ao;rw[e8,wrap64 ab]at hr;rw[hr];exact k
def ORH{d s:Int}{K:Int->Prop}(h:0<=d/\d<=1000)(hs:0<=s/\s<16)(k:K (s+16*d)):∀r:Int,r=iz .or .i64 (d*16) s->K r:=λr hr=>by
 obtain⟨m,rfl⟩:=zc6 h.1;obtain⟨n,rfl⟩:=zc6 hs.1;have e:((m:Int)*16)=((2^4*m:Nat):Int):=aH;rw[e,axa ab ab,Nat.or_comm,O7 (k:=4) ab]at hr;rw[hr];have:(((n+2^4*m:Nat)):Int)=(n:Int)+16*(m:Int):=aj;rw[this];exact k
def ayZ{v:Int}(h:0<=v/\v<256):PV.int .u8 v=aL (lV (v%256).toNat):=by rw[<-CL,Int.emod_eq_of_lt h.1 h.2]
def axR(s:Rs):ahB 1 [qF s]=true:=by cases s<;>rfl
def G7(ps:List PV)(r:RV):Prop:=∃s:Rs,ps=[qF s]/\r=.tup [.pv (.str (if dU s.l=0 then qL s.l else[])),.pv (pI (dU s.l))]
def Uu:MT (ay [(196,ah wB),(233,bF BJ),(249,ah aaw),(250,c8 true Z0)]) C5 (c8 true G7):=by
 rintro _ K ⟨_,⟨s,rfl,rfl⟩,hK⟩;have hf:bQ (([s]:List Rs).map λs=>dU s.l)=dU s.l:=by simp only[zat,List.map_nil,bQ];split<;>simp_all
 (repeat'((conv=>whnf);first|refine zcB (axR s) ?_|(refine fe ?_;refine⟨_,⟨[s],rfl,aj,rfl⟩,?_⟩)|refine KP ?_|refine de (λ_=>?_) (λ_=>?_)|refine dq λ_=>?_|fail))<;>try(conv=>whnf)
 ·rename_i cb;replace cb:dU s.l≠0:=hf▸cb;rw[if_neg cb,<-hf]at hK;exact kM
 rename_i hz _;have hz:dU s.l=0:=by refine Classical.byContradiction λh=>hz ?_;rw[hf];exact h
 rw[hz,if_pos rfl]at hK;obtain⟨hl,_,_,di⟩:=bZ hz;refine⟨λm env σ=>∃(n:Nat),(n+m=s.l.length)/\σ=[.row 5 1 true ((Cn s.l n).1.map aL)]/\env=[(5,.own 0),eN 6 (Cn s.l n).2,(17,.pv (qF s)),eN 18 s.l.length,eN 19 n],s.l.length,⟨0,ab,rfl,by simp[Cn]⟩,?_⟩;rintro m env σ ⟨n,hn,rfl,rfl⟩;have hlen:=JP s.l n ab;have Vu:=adP di n ab;by_cases aU:n<s.l.length
 ·obtain⟨x,hx⟩:∃x,s.l[n]?=some x:=⟨_,zah aU⟩
  have OB:=di x (zag hx);have Xu:(1<=x.n/\x.n<=4096)/\(x.s≠ -1->0<=x.s/\x.s<=511):=ajM;have h1:=uB x.n;have h2:=uB (x.s-(Cn s.l n).2);have h3:=gL (jv x.n) x.n;have h4:=gL (jv (x.s-(Cn s.l n).2)) (x.s-(Cn s.l n).2)
  (repeat'((conv=>whnf);first|refine Ek hx ?_|refine aJs ab ?_|refine ORH ab ab ?_|refine⟨_,⟨_,_,rfl,ab,rfl⟩,?_⟩|refine⟨_,⟨x,rfl,rfl⟩,?_⟩|refine zcB (by(simp only[zad,zav,zam,zaY,gL];omega)) ?_|(refine fe ?_;first|refine bj ab ?_|refine aN ?_|refine bP ?_|refine au ab ?_|refine aw ab ?_|refine de (λ_=>?_) (λ_=>?_)|refine U8 ab ?_|refine bT ?_|refine⟨_,⟨_,rfl,cZ,rfl⟩,?_⟩|fail)))<;>try(conv=>whnf)
  ·rename_i hc;refine⟨m-1,ab,n+1,ab,?_,?_⟩
   ·rw[tD hx];unfold acT;rw[if_pos hc];simp only[zbu];exact congrArg (λz=>[dC.row 5 1 true (_++[z]++_)]) (ayZ (v:=jv x.n) ab)
   ·rw[tD hx];unfold acT;rw[if_pos hc];rfl
  ·rename_i hc;refine⟨m-1,ab,n+1,ab,?_,?_⟩
   ·rw[tD hx];unfold acT;rw[if_neg hc];simp only[zbu];exact congrArg (λz=>[dC.row 5 1 true (_++[z]++_++_)]) (ayZ (v:=jv x.n+16*jv (x.s-(Cn s.l n).2)) ab)
   ·rw[tD hx];unfold acT;rw[if_neg hc];rfl
 ·(repeat'((conv=>whnf);first|refine zcB (by(simp only[zad,zav,zam,zaY];omega)) ?_|(refine fe ?_;refine⟨(Cn s.l n).1++[0],by simp[aL],?_⟩)|refine aw ab ?_|refine bT ?_|fail))<;>try(conv=>whnf)
  rw[qL,<-show n=s.l.length by omega]at hK;exact kM
end Go.Dv.Try
namespace Go.Dv.Try
open Go Go.Dv Go.RowKit
section
def aoL:List UInt8:=[34,42,47,58,60,62,63,92,124]
def Sb(c:UInt8):Prop:=(32<=c.toNat/\c.toNat<=126)/\c∉aoL
instance (c:UInt8):Decidable (Sb c):=by unfold Sb;infer_instance
def GW(s:List UInt8):Prop:=s≠[]/\(∀b∈s,Sb b)/\s.getLast?≠some 32/\s.getLast?≠some 46
instance (s:List UInt8):Decidable (GW s):=by unfold GW;infer_instance
def Zc(s:List UInt8):Int:=if 32<s.length then 8 else if GW s then 0 else 4
def fy(s:List UInt8):Prop:=s=[]\/Zc s=0
instance (s:List UInt8):Decidable (fy s):=by unfold fy;infer_instance
def s6(l:List UInt8)(c:UInt8):Lib.indexByte l c<0↔c∉l:=by
 constructor
 ·intro h hc;have h1:=Lib.indexByte_ge l c;obtain⟨k,hk⟩:=jk.1 hc;exact Lib.indexByte_none (show Lib.indexByte l c= -1 by omega) k hk
 ·intro h;refine Classical.byContradiction λhn=>?_
  have:=(Lib.indexByte_some (l:=l) (c:=c) (o:=(Lib.indexByte l c).toNat) ab).1;exact h (zag this)
def Wb:MT (ay [(297,ah qc)]) zR (ah qc):=by
 rintro _ K ⟨_,⟨l,c,rfl,rfl⟩,hK⟩
 (repeat'((conv=>whnf);first|refine⟨_,⟨l,c,rfl,rfl⟩,?_⟩|fail))<;>try(conv=>whnf)
 exact aG
def L8(ps:List PV)(p:Prop):Prop:=∃c:UInt8,ps=[aL c]/\p=Sb c
def RU:MT (ay [(280,ah qc)]) zt (bF L8):=by
 rintro _ K ⟨_,⟨c,rfl,rfl⟩,hK⟩;have hc:=s6 aoL c
 (repeat'((conv=>whnf);first|refine⟨_,⟨aoL,c,rfl,rfl⟩,?_⟩|refine de (λ_=>?_) (λ_=>?_)|fail))<;>try(conv=>whnf)
 all_goals exact⟨.pv (.bool _),rfl,trivial,hK _ (by unfold Sb;rw[<-hc];simp only[zcn,true_iff,false_iff];omega)⟩
def WD{α:Type}(p:α->Prop)[DecidablePred p]:List α->Int
 |[]=> -1
 |a::l=>if p a then 0 else if WD p l<0 then-1 else WD p l+1
section
variable {α:Type} {p:α->Prop} [DecidablePred p]
def aaK{l:List α}(h:∀x∈l,¬p x):WD p l= -1:=by
 induction l with
 |nil=>rfl
 |cons a l ih=>unfold WD;rw[if_neg (h a aj),ih (λx hx=>h x iP)];rfl
def alT{l:List α}{i:Nat}{x:α}(h0:∀j,j<i→∀y,l[j]?=some y→¬p y)(hx:l[i]?=some x)(hp:p x):WD p l=i:=by
 induction i generalizing l with
 |zero=>
  cases l with
  |nil=>simp at hx
  |cons a l=>simp at hx;subst hx;unfold WD;rw[if_pos hp];rfl
 |succ i ih=>
  cases l with
  |nil=>simp at hx
  |cons a l=>
   have:=ih (l:=l) (λj hj y hy=>h0 (j+1) ab y (by simpa using hy)) (by simpa using hx);unfold WD;rw[if_neg (h0 0 ab a rfl),this,if_neg ab];omega
def Az(l:List α):(WD p l= -1∧∀x∈l,¬p x)∨∃i x,WD p l=((i:Nat):Int)/\l[i]?=some x/\p x∧∀j,j<i→∀y,l[j]?=some y→¬p y:=by
 induction l with
 |nil=>exact .inl ⟨rfl,λx h=>bV⟩
 |cons a l ih=>
  by_cases ha:p a
  ·exact .inr ⟨0,a,by unfold WD;rw[if_pos ha];rfl,rfl,ha,λj h=>ab⟩
  ·rcases ih with⟨h1,h2⟩|⟨i,x,h1,h2,h3,h4⟩
   ·refine .inl ⟨by unfold WD;rw[if_neg ha,h1];rfl,λx hx=>?_⟩;rcases zaw.1 hx with rfl|hx
    ·exact ha
    ·exact h2 x hx
   ·refine .inr ⟨i+1,x,by unfold WD;rw[if_neg ha,h1,if_neg ab];omega,iT,h3,λj hj y hy=>?_⟩;cases j with
    |zero=>simp at hy;subst hy;exact ha
    |succ j=>exact h4 j ab y (by simpa using hy)
def axC(l:List α):WD p l<0↔∀x∈l,¬p x:=by
 rcases Az (p:=p) l with⟨h1,h2⟩|⟨i,x,h1,h2,h3,_⟩
 ·rw[h1];exact⟨λ_=>h2,λ_=>ao⟩
 ·rw[h1];exact⟨λh=>ab,λh=>absurd h3 (h x (zag h2))⟩
def ak7(l:List α):0<=WD p l↔∃x∈l,p x:=by
 have:=axC (p:=p) l;constructor
 ·intro h;refine Classical.byContradiction λhn=>?_
  have:=this.2 (λx hx hp=>hn ⟨x,hx,hp⟩);omega
 ·rintro⟨x,hx,hp⟩;refine Classical.byContradiction λhn=>?_
  exact this.1 ab x hx hp
end
def O9(ps:List PV)(p:Prop):Prop:=∃c:UInt8,ps=[aL c,.cptr (.clo 265 [])]/\p=¬Sb c
def RS:MT (ay [(265,bF L8)]) zJ (bF O9):=by
 rintro _ K ⟨_,⟨c,rfl,rfl⟩,hK⟩
 (repeat'((conv=>whnf);first|refine⟨_,⟨c,rfl,rfl⟩,?_⟩|refine aN ?_|refine bP ?_|refine de (λ_=>?_) (λ_=>?_)|fail))<;>try(conv=>whnf)
 all_goals exact yj
abbrev aa2:PV:=.clo 279 [.cptr (.clo 265 [])]
def HK(ps:List PV)(x:PV):Prop:=∃l:List UInt8,ps=[.sl 1 (l.map aL),aa2]/\l.length<=1000000/\x=pI (WD (λc=>¬Sb c) l)
def Un:MT (ay [(279,bF O9)]) oO (ah HK):=by
 rintro _ K ⟨_,⟨l,rfl,hl,rfl⟩,hK⟩
 (repeat'((conv=>whnf);first|refine dq λ_=>?_|fail))<;>try(conv=>whnf)
 refine⟨λm env σ=>∃n:Nat,(n+m=l.length∧∀j,j<n→∀y,l[j]?=some y→¬ ¬Sb y)/\σ=[]/\env=[(0,.pv (.sl 1 (l.map aL))),(1,.pv aa2),eN 7 l.length,eN 8 n],l.length,⟨0,⟨ab,λj hj=>ab⟩,rfl,rfl⟩,?_⟩;rintro m env σ ⟨n,⟨hn,h0⟩,rfl,rfl⟩
 (repeat'((conv=>whnf);first|refine⟨_,⟨_,rfl,rfl⟩,?_⟩|refine bj ab ?_|refine de (λ_=>?_) (λ_=>?_)|refine aGn ab (λ_ _ _=>?_)|fail))<;>try(conv=>whnf)
 ·rename_i x hx _ h;exact⟨.pv (pI _),bu (alT h0 hx h),trivial,hK⟩
 ·rename_i x hx _ h;refine⟨m-1,ab,n+1,⟨ab,λj hj y hy=>?_⟩,rfl,rfl⟩;rcases zc0 (zc1 hj)with h1|h1
  ·exact h0 j h1 y hy
  ·subst h1;rw[hx]at hy;cases hy;exact h
 ·refine⟨.pv (pI _),bu (aaK λx hx=>?_),trivial,hK⟩;obtain⟨k,hk⟩:=jk.1 hx;exact h0 k vg x hk
def yH(ps:List PV)(p:Prop):Prop:=∃l:List UInt8,ps=[.sl 1 (l.map aL),aa2]/\l.length<=1000000/\p=∃c∈l,¬Sb c
def Nq:MT (ay [(296,ah HK)]) mr (bF yH):=by
 rintro _ K ⟨_,⟨l,rfl,hl,rfl⟩,hK⟩;rw[<-ak7]at hK
 (repeat'((conv=>whnf);first|refine⟨_,⟨l,rfl,hl,rfl⟩,?_⟩|refine de (λ_=>?_) (λ_=>?_)|fail))<;>try(conv=>whnf)
 all_goals exact JH
def OW(ps:List PV)(p:Prop):Prop:=∃l:List UInt8,ps=[.str l,.clo 265 []]/\l.length<=1000000/\p=∀c∈l,Sb c
def ZY:MT (ay [(278,bF yH)]) FX (bF OW):=by
 rintro _ K ⟨_,⟨l,rfl,hl,rfl⟩,hK⟩;have e:(∀c∈l,Sb c)↔¬ ∃c∈l,¬Sb c:=aj;rw[e]at hK
 (repeat'((conv=>whnf);first|refine⟨_,⟨l,rfl,hl,rfl⟩,?_⟩|refine aN ?_|refine bP ?_|refine de (λ_=>?_) (λ_=>?_)|refine wz ?_|fail))<;>try(conv=>whnf)
 all_goals exact yj
def AM(ps:List PV)(p:Prop):Prop:=∃(s:List UInt8) (b:UInt8),ps=[.str s,.str [b]]/\s.length<=1000000/\p=(s.getLast?=some b)
def apM(s:List UInt8)(b:UInt8):(1<=s.length/\s.drop (s.length-1)=[b])↔s.getLast?=some b:=by
 constructor
 ·rintro⟨h1,h2⟩;rw[<-zaD (s.length-1) s,h2];simp
 ·intro h;have cb:s≠[]:=λe=>by subst e;simp at h
  have h1:0<s.length:=zcb.2 cb;refine⟨ab,?_⟩;rw[zc5]at h;rw[zcj (show s.length-1<s.length by omega),zcc ab];rw[zah (show s.length-1<s.length by omega)]at h;simpa using h
def Uk:MT (ay []) lG (bF AM):=by
 rintro _ K ⟨_,⟨s,b,rfl,hs,rfl⟩,hK⟩;rw[<-apM]at hK;have hl:([b]:List UInt8).length=1:=rfl;have e:cut ((s.length:Int)-(([b]:List UInt8).length:Int)).toNat s.length s=s.drop (s.length-1):=by
  rw[hl,show((s.length:Int)-((1:Nat):Int)).toNat=s.length-1 by omega];unfold cut;rw[zcZ]
 (repeat'((conv=>whnf);first|refine bj ab ?_|refine de (λ_=>?_) (λ_=>?_)|refine wz ?_|fail))<;>try(conv=>whnf)
 ·rename_i h1 h2;exact⟨.pv (.bool _),rfl,trivial,hK _ (by simp only[true_iff];exact⟨ab,e▸h2⟩)⟩
 ·rename_i h1 h2;exact⟨.pv (.bool _),rfl,trivial,hK _ (by simp only[zcn,false_iff];rw[<-e];exact λh=>h2 h.2)⟩
 ·rename_i h1;exact⟨.pv (.bool _),rfl,trivial,hK _ (by simp only[zcn,false_iff];omega)⟩
def Wt:MT (ay [(281,bF AM)]) zT (bF AM):=by
 rintro _ K ⟨_,⟨s,b,rfl,hs,rfl⟩,hK⟩
 (repeat'((conv=>whnf);first|refine⟨_,⟨s,b,rfl,hs,rfl⟩,?_⟩|refine de (λ_=>?_) (λ_=>?_)|fail))<;>try(conv=>whnf)
 all_goals exact yj
def Uw(ps:List PV)(p:Prop):Prop:=∃s:List UInt8,ps=[.str s]/\p=(GW s/\s.length<=32)
def adg:MT (ay [(264,bF OW),(266,bF AM)]) H3 (bF Uw):=by
 rintro _ K ⟨_,⟨s,rfl,rfl⟩,hK⟩;unfold GW at hK
 (repeat'((conv=>whnf);first|refine⟨_,⟨s,rfl,ab,rfl⟩,?_⟩|refine⟨_,⟨s,32,rfl,ab,rfl⟩,?_⟩|refine⟨_,⟨s,46,rfl,ab,rfl⟩,?_⟩|refine aN ?_|refine bP ?_|refine de (λ_=>?_) (λ_=>?_)|fail))<;>try(conv=>whnf)
 ·rename_i h;exact abq
 ·rename_i h;exact abq
 ·rename_i h1 h2 h3 h4 h5 h6;exact⟨.pv (.bool _),rfl,trivial,hK _ (by simp only[true_iff];exact⟨⟨h1,h3,h5,h6⟩,ab⟩)⟩
 ·rename_i h;have h:s=[46,46]:=zcY.1 h;exact⟨.pv (.bool _),rfl,trivial,hK _ (by subst h;simp)⟩
 ·rename_i h;exact⟨.pv (.bool _),rfl,trivial,hK _ (by simp only[zcn,false_iff];exact λg=>h g.1.2.1)⟩
 ·rename_i h;exact⟨.pv (.bool _),rfl,trivial,hK _ (by simp only[zcn,false_iff];exact λg=>h ab)⟩
 ·rename_i h;exact⟨.pv (.bool _),rfl,trivial,hK _ (by simp only[zcn,false_iff];exact λg=>h g.1.1)⟩
def LY(ps:List PV)(x:PV):Prop:=∃s:List UInt8,ps=[.str s]/\x=pI (Zc s)
def VR:MT (ay [(244,ah dG),(245,bF Uw),(243,ah gB)]) C7 (ah LY):=by
 rintro _ K ⟨_,⟨s,rfl,rfl⟩,hK⟩;unfold Zc at hK
 (repeat'((conv=>whnf);first|refine⟨_,⟨s,rfl,rfl⟩,?_⟩|refine⟨_,⟨_,_,rfl,rfl⟩,?_⟩|refine⟨_,⟨[_,_],rfl,rfl⟩,?_⟩|refine aw ab ?_|refine de (λ_=>?_) (λ_=>?_)|refine bT ?_|fail))<;>try(conv=>whnf)
 ·rename_i h1 h2;rw[if_neg ab,if_pos h2.1]at hK;exact aG
 ·rename_i h1 h2;rw[if_neg ab,if_neg (λh=>h2 ⟨h,ab⟩)]at hK;exact aG
 ·rename_i h1;rw[if_pos ab]at hK;exact aG
end
end Go.Dv.Try
namespace Go.Dv.Try
open Go Go.Dv
def S3:List Int:=[16,32,48,64,96,112,128,144,160,176,192]
def VG:List Int:=[16,48,96,112,144]
def Tf(a:At):Prop:=a.ft=0/\a.al=0/\a.sz=0/\a.vd=0
instance (a:At):Decidable (Tf a):=by unfold Tf;infer_instance
def Hy(a:At):Int:=if ¬(a.rn.l.length=0/\Tf a)then 3 else if 400<a.vl.length then 8 else 0
def pL(a:At):Prop:=(0<=a.al/\a.al<=1048576)/\(0<=a.sz/\a.sz<=1048576)/\(0<=a.vd/\a.vd<=1048576)
instance (a:At):Decidable (pL a):=by unfold pL;infer_instance
def GG(a:At):Int:=
 if a.ty∈VG then 20 else if a.vl≠[]then 3 else if ¬(0<=a.ft/\a.ft<=4096)then 2 else
 if dU a.rn.l≠0 then dU a.rn.l else if 0<a.ft/\a.rn.l.length=0 then 17 else
 if 4096<a.ft+bI a.rn.l then 8 else if 0<a.ft∧¬(a.al=0/\a.sz=0/\a.vd=0)then 3 else
 if ¬pL a then 2 else if a.sz<a.vd then 9 else 0
def yi(a:At):Prop:=(0<=a.id/\a.id<=65535)/\(0<=a.fl/\a.fl<=7)
instance (a:At):Decidable (yi a):=by unfold yi;infer_instance
def Iv(a:At):Int:=if a.rs=true then Hy a else GG a
def TI(a:At):Int:=if a.ty∉S3 then 15 else if ¬fy a.nm then 4 else if ¬yi a then 2 else Iv a
def B5(n:Nat):Nat:=(n+7)/8*8
def uH(a:At):Nat:=if a.rs=true then 24 else 40
def N8(a:At):List UInt8:=if a.rs=true then a.vl else qL a.rn.l
def l8(a:At):Nat:=B5 (uH a+a.nm.length)
def Tk(a:At):Nat:=B5 (l8 a+(N8 a).length)
def atW(a:At):List UInt8:=
 if a.rs=true then aJ a.vl.length 4++aJ (l8 a) 4
 else aJ a.ft 4++aJ (a.ft+bI a.rn.l-1) 4++aJ (l8 a) 2++ai 2++aJ a.al 4++aJ a.sz 4++aJ a.vd 4
def aso(a:At):List UInt8:=aJ a.ty 4++aJ (Tk a) 4++aJ (if a.rs=true then 0 else 1) 1++aJ a.nm.length 1++aJ (uH a) 2++aJ a.fl 2++aJ a.id 2++atW a
def T5(a:At):List UInt8:=aso a++a.nm++ai (l8 a-uH a-a.nm.length)++N8 a++ai (Tk a-l8 a-(N8 a).length)
def gu(a:At):Int:=if TI a≠0 then TI a else if 440<(T5 a).length then 16 else 0
def i_(n:Nat):n<=B5 n/\B5 n<n+8/\B5 n%8=0:=by unfold B5;omega
def bE(n:Nat):(ai n).length=n:=zap
def ahH{s:List UInt8}(h:fy s):s.length<=32:=by
 rcases h with rfl|h
 ·simp
 ·unfold Zc at h;split at h
  ·cases h
  ·omega
structure acN(a:At):Prop where
 ty:0<=a.ty/\a.ty<=192
 S3:a.ty∈S3
 nm:fy a.nm
 DL:a.nm.length<=32
 idf:yi a
 rs:a.rs=true->a.rn.l.length=0/\Tf a/\a.vl.length<=400
 ot:a.rs=false->a.ty∉VG/\a.vl=[]/\(0<=a.ft/\a.ft<=4096)/\dU a.rn.l=0/\a.ft+bI a.rn.l<=4096/\pL a/\a.vd<=a.sz
def aFY{n:Int}(h:n∈S3):0<=n/\n<=192:=by
 unfold S3 at h;simp only[zaw,zb9,or_false]at h;omega
def acN.of{a:At}(h:TI a=0):acN a:=by
 unfold TI at h;split at h
 ·cases h
 rename_i h1;have h1:=zcY.1 h1;split at h
 ·cases h
 rename_i h2;have h2:=zcY.1 h2;split at h
 ·cases h
 rename_i h3;have h3:=zcY.1 h3;refine⟨aFY h1,h1,h2,ahH h2,h3,λhr=>?_,λhr=>?_⟩
 ·unfold Iv at h;rw[if_pos hr]at h;unfold Hy at h;split at h
  ·cases h
  rename_i h4;have h4:=zcY.1 h4;split at h
  ·cases h
  ·exact⟨h4.1,h4.2,ab⟩
 ·unfold Iv at h;rw[hr,if_neg ao]at h;unfold GG at h;split at h
  ·cases h
  rename_i g1;split at h
  ·cases h
  rename_i g2;split at h
  ·cases h
  rename_i g3;split at h
  ·rename_i g4;exact absurd h g4
  rename_i g4;split at h
  ·cases h
  split at h
  ·cases h
  rename_i g6;split at h
  ·cases h
  split at h
  ·cases h
  rename_i g8;split at h
  ·cases h
  rename_i g9;exact⟨g1,zcY.1 g2,zcY.1 g3,zcY.1 g4,ab,zcY.1 g8,ab⟩
end Go.Dv.Try
namespace Go.Dv.Try
open Go Go.Dv Go.RowKit Go.MapKept
section
def aeE:List (Int×Bool):=[(16,true),(32,false),(48,true),(64,false),(96,true),(112,true),(128,false),(144,true),(160,false),(176,false),(192,false)]
structure MI(w0:World)(b:Nat)(l:List (Int×Bool))(w:World):Prop where
 b0:w0.heap.size<=b
 lt:b<w.heap.size
 is:∃es n,w.heap[b]?=some (.map es n)/\Zj es l
 bel:Below w0.heap.size w0 w
def an_:∀(l:List (Int×Bool)) (n:Int),n∉l.map Prod.fst->aP l n=none
 |[],_,_=>rfl
 |p::l,n,h=>by
  have h1:n≠p.1:=λe=>h (by simp[e])
  have hl:aP (p::l) n=(match decide (n=p.1)with|true=>some p.2|false=>aP l n):=rfl;rw[hl];simp only[h1,decide_false];exact an_ l n λhm=>h (by simp at hm ⊢;exact .inr hm)
def aBy(w:World):∃w',(Instr.makeMap 241 none).run Go.Proofs.Tryz.prog w=.ok (.map (some w.heap.size)) w'/\MI w w.heap.size [] w':=by
 refine⟨w.alloc (.map #[] 0),by simp[Instr.makeMap,Result.andThen],zai _,?_,⟨#[],0,(MapKept.heap_alloc w _).1,rfl⟩,?_⟩
 ·show w.heap.size<(w.heap.push _).size;rw[Array.size_push];omega
 ·exact(Below.refl _ _).alloc (zai _) _
def vr{w0 w:World}{b:Nat}{l:List (Int×Bool)}{k:Int}{v:Bool}(h:MI w0 b l w)(hk:k∉l.map Prod.fst):
 ∃w',(Instr.mapUpdate 241 (.map (some b)) (.int .i64 k) (.bool v)).run Go.Proofs.Tryz.prog w=.ok () w'/\MI w0 b (l++[(k,v)]) w':=by
 obtain⟨h1,h2,⟨es,n,h3,h4⟩,h5⟩:=h;obtain⟨j,hj⟩:=O2 l es.toList k 0 h4;rw[an_ l k hk]at hj;have hm:=Go.Proofs.Tryz.underlying241;have hd:=Go.Proofs.Tryz.underlying3;refine⟨_,by simp[Instr.mapUpdate,run_underlying hm,MapKept.run_getObj_map h3,run_checkKey (k:=.int .i64 k) hd (by simp[IsKey]),run_findKey hd hj,run_setObj_map _ h3,Result.andThen];rfl,h1,?_,⟨_,_,(heap_set h3).1,?_⟩,?_⟩
 ·simpa using h2
 ·unfold Zj at h4 ⊢;simp[h4]
 ·exact h5.trans ⟨rfl,rfl,rfl,aj,λr hr=>(heap_set h3).2 r ab⟩
open Go.Shelf Go.Proofs in
set_option maxHeartbeats 2000000 in
set_option maxRecDepth 100000 in
def aqd(w:World):Calls Go.Proofs.Tryz.prog 206 #[] w λe w'=>∃b es n,e=.returned (.map (some b))/\w.heap.size<=b/\b<w'.heap.size/\w'.heap[b]?=some (.map es n)/\Zj es aeE/\Below w.heap.size w w':=by
 have mixed:Go.Proofs.Tryz.prog.follows .mixedOrders=true:=mixed;have t3:=Go.Proofs.Tryz.underlying3;have a3:=Go.Proofs.Tryz.isAgg3;have z3:=Go.Proofs.Tryz.sizeOf3;have v3:=Go.Proofs.Tryz.zeroValue3;have t4:=Go.Proofs.Tryz.underlying4;have a4:=Go.Proofs.Tryz.isAgg4;have z4:=Go.Proofs.Tryz.sizeOf4;have v4:=Go.Proofs.Tryz.zeroValue4;have t241:=Go.Proofs.Tryz.underlying241;have aF1:=Go.Proofs.Tryz.isAgg241;have aF2:=Go.Proofs.Tryz.sizeOf241;have aF3:=Go.Proofs.Tryz.zeroValue241
 go_enter Go.Proofs.Tryz.func206,(show Go.Proofs.Tryz.f206.ntmps=3 from rfl)
 go_wp2
 obtain⟨w1,h1,h2⟩:=aBy w;rw[h1];simp only[Result.andThen];rw[Oper.upon_value]
 go_wp2
 obtain⟨w2,e0,m0⟩:=vr (k:=16) (v:=true) h2 ao;rw[e0];simp only[Result.andThen];rw[Oper.upon_skip]
 go_wp2
 clear e0 h2;obtain⟨w3,e1,m1⟩:=vr (k:=32) (v:=false) m0 ao;rw[e1];simp only[Result.andThen];rw[Oper.upon_skip]
 go_wp2
 clear e1 m0;obtain⟨w4,e2,m2⟩:=vr (k:=48) (v:=true) m1 ao;rw[e2];simp only[Result.andThen];rw[Oper.upon_skip]
 go_wp2
 clear e2 m1;obtain⟨w5,e3,m3⟩:=vr (k:=64) (v:=false) m2 ao;rw[e3];simp only[Result.andThen];rw[Oper.upon_skip]
 go_wp2
 clear e3 m2;obtain⟨w6,e4,m4⟩:=vr (k:=96) (v:=true) m3 ao;rw[e4];simp only[Result.andThen];rw[Oper.upon_skip]
 go_wp2
 clear e4 m3;obtain⟨w7,e5,m5⟩:=vr (k:=112) (v:=true) m4 ao;rw[e5];simp only[Result.andThen];rw[Oper.upon_skip]
 go_wp2
 clear e5 m4;obtain⟨w8,e6,m6⟩:=vr (k:=128) (v:=false) m5 ao;rw[e6];simp only[Result.andThen];rw[Oper.upon_skip]
 go_wp2
 clear e6 m5;obtain⟨w9,e7,m7⟩:=vr (k:=144) (v:=true) m6 ao;rw[e7];simp only[Result.andThen];rw[Oper.upon_skip]
 go_wp2
 clear e7 m6;obtain⟨w10,e8,m8⟩:=vr (k:=160) (v:=false) m7 ao;rw[e8];simp only[Result.andThen];rw[Oper.upon_skip]
 go_wp2
 clear e8 m7;obtain⟨w11,e9,m9⟩:=vr (k:=176) (v:=false) m8 ao;rw[e9];simp only[Result.andThen];rw[Oper.upon_skip]
 go_wp2
 clear e9 m8;obtain⟨w12,r5,m10⟩:=vr (k:=192) (v:=false) m9 ao;rw[r5];simp only[Result.andThen];rw[Oper.upon_skip]
 go_wp2
 clear r5 m9
 go_ret
 obtain⟨h1,h2,⟨es,n,h3,h4⟩,h5⟩:=m10;exact⟨_,es,n,rfl,h1,h2,h3,h4,h5⟩
def Xi(ps:List PV)(r:RV):Prop:=ps=[]/\r=.mp aeE
def aus:bU Go.Proofs.Tryz.prog 206 (c8 true Xi):=by
 refine⟨λe=>cz,λe=>cz,?_,λ_ _ _ _ _ _ _ _ h=>(show False from h).elim,λ_ _ _ _ _ _ _ _ e=>cz⟩;rintro w ok ps vs K _ di rT ⟨r,⟨rfl,rfl⟩,hK⟩;simp only[bS]at rT;have:vs= #[]:=by rw[<-Array.toList_inj];exact rT
 subst this;refine⟨Go.Proofs.enters_of Go.Proofs.Tryz.func206 ak rfl,(aqd w).mono ?_⟩;rintro e w' ⟨b,es,n,rfl,h1,h2,h3,h4,h5⟩;refine⟨_,_,[.map (some b)],rfl,hK,h5,?_,?_,?_⟩
 ·simp only[RR];refine⟨trivial,b,es,n,rfl,⟨.inr h1,h2,?_⟩,h3,h4⟩;intro u hu;simp at hu;subst hu;intro e;cases e
 ·intro u hu b hb;simp at hu;subst hu;cases hb
 ·intro i j u t b _ hu _ hb;have:u∈([.map (some _)]:List Value):=zag hu;simp at this;subst this;cases hb
end
end Go.Dv.Try
namespace Go.Dv.Try
open Go Go.Dv
def aFD(n:Int):(aP aeE n).isSome=true↔n∈S3:=by
 unfold aeE aP S3;simp only[]
 repeat'(split;·rename_i h;have:=of_decide_eq_true h;subst this;simp)
 rename_i h1 h2 h3 h4 h5 h6 h7 h8 h9 XK gT;simp at*;omega
def aBj(n:Int):(aP aeE n).getD false=true↔n∈VG:=by
 unfold aeE aP VG;simp only[]
 repeat'(split;·rename_i h;have:=of_decide_eq_true h;subst this;simp)
 rename_i h1 h2 h3 h4 h5 h6 h7 h8 h9 XK gT;simp at*;omega
def EV(ps:List PV)(p:Prop):Prop:=∃n:Int,ps=[pI n]/\p=(n∈S3)
def ae5:MT (ay [(206,c8 true Xi)]) BQ (bF EV):=by
 rintro _ K ⟨_,⟨n,rfl,rfl⟩,hK⟩
 (repeat'((conv=>whnf);first|refine⟨_,⟨rfl,rfl⟩,?_⟩|fail))<;>try(conv=>whnf)
 exact⟨.pv (.bool _),rfl,trivial,hK _ (aFD n)⟩
def xr(ps:List PV)(x:PV):Prop:=∃a:At,ps=[a.pv]/\yP a.rn.l/\x=pI (bI a.rn.l)
def Ro:MT (ay []) xQ (ah xr):=by
 rintro _ K ⟨_,⟨a,rfl,hs,rfl⟩,hK⟩
 (repeat'((conv=>whnf);first|refine KP ?_|refine dq λ_=>?_|fail))<;>try(conv=>whnf)
 refine⟨λm env σ=>∃(n:Nat),n+m=a.rn.l.length/\σ=[]/\env=[eN 3 (bI (a.rn.l.take n)),(7,.pv (qF a.rn)),eN 8 a.rn.l.length,eN 9 n],a.rn.l.length,⟨0,ab,rfl,rfl⟩,?_⟩;rintro m env σ ⟨n,hn,rfl,rfl⟩;have hb:=hs.sum n ab;have hl:=hs.1
 (repeat'((conv=>whnf);first|(refine n5 ab (λx hx=>?_);have:=hs.2 x (zag hx))|refine bj ab ?_|refine de (λ_=>?_) (λ_=>?_)|refine bT ?_|fail))<;>try(conv=>whnf)
 ·exact abg
 ·rw[za1 ab];exact aG
def E9(ps:List PV)(x:PV):Prop:=∃a:At,ps=[a.pv]/\x=pI (Hy a)
def afP:MT (ay [(149,ah dG),(148,ah gB)]) tl (ah E9):=by
 rintro _ K ⟨_,⟨a,rfl,rfl⟩,hK⟩;unfold Hy Tf at hK
 (repeat'((conv=>whnf);first|refine KP ?_|(refine fe ?_;first|refine de (λ_=>?_) (λ_=>?_)|refine dq λ_=>?_|refine bT ?_|refine⟨_,⟨_,_,rfl,rfl⟩,?_⟩|refine⟨_,⟨[_,_],rfl,rfl⟩,?_⟩|fail)))<;>try(conv=>whnf)
 all_goals(refine⟨.pv (pI _),bu ?_,trivial,hK⟩;simp only[bQ,if_true,zcn,if_false,reduceCtorEq];(repeat' split)<;>first|rfl|omega)
def Ps(ps:List PV)(x:PV):Prop:=∃s:List UInt8,ps=[.str s]/\x=pI (if fy s then 0 else 4)
def Z7:MT (ay [(207,ah LY),(149,ah dG)]) zB (ah Ps):=by
 rintro _ K ⟨_,⟨s,rfl,rfl⟩,hK⟩;unfold fy at hK
 (repeat'((conv=>whnf);first|refine⟨_,⟨s,rfl,rfl⟩,?_⟩|(refine fe ?_;first|refine de (λ_=>?_) (λ_=>?_)|refine⟨_,⟨_,_,rfl,rfl⟩,?_⟩|fail)))<;>try(conv=>whnf)
 ·rename_i h;have h:s=[]:=h;exact⟨.pv (pI _),bu uQ,trivial,hK⟩
 ·rename_i h _;have h:s≠[]:=h;exact⟨.pv (pI _),bu nq,trivial,hK⟩
 ·rename_i h _;have h:s≠[]:=h;exact⟨.pv (pI _),bu nq,trivial,hK⟩
def Fa(ps:List PV)(x:PV):Prop:=∃a:At,ps=[a.pv]/\x=pI (GG a)
def GB{l:List Rn}(h:dU l=0):yP l:=agj (by have:=(bZ h).1;omega) (bZ h).2.1
def TT{l:List Rn}(h:dU l=0):0<=bI l/\bI l<=4096:=by
 refine⟨?_,(bZ h).2.2.1⟩;have:=(bZ h).2.2.2;clear h
 induction l with
 |nil=>exact zdv 0
 |cons r l ih=>
  have h1:=this r aj;have h2:=ih (λx hx=>this x iP);have:bI (r::l)=r.n+bI l:=by simp[bI]
  unfold jZ at h1;split at h1<;>omega
def ash{A bs:List UInt8}{z g at_:Nat}(e:at_=A.length+g)(h:g+bs.length<=z):IU (A++ai z) at_ bs=A++ai g++bs++ai (z-g-bs.length):=by
 subst e;unfold IU ai;rw[List.take_append,za1 ab,List.drop_append,zcc ab,zaZ,show A.length+g-A.length=g by omega,show A.length+g+bs.length-A.length=g+bs.length by omega,List.take_replicate,List.drop_replicate,show min g z=g by omega,show z-(g+bs.length)=z-g-bs.length by omega]
def atG{A X C bs:List UInt8}{at_:Nat}(e:at_=A.length)(h:X.length=bs.length):IU (A++(X++C)) at_ bs=A++(bs++C):=by
 subst e;unfold IU;rw[zbj,<-h,show A.length+X.length=(A++X).length by simp,<-zaj A X C,zbk,zaj]
def fL:List UInt8->Nat->List UInt8->List UInt8
 |B,_,[]=>B
 |B,at_,b::bs=>fL (B.set at_ b) (at_+1) bs
def LF(bs:List UInt8):∀(B:List UInt8) (at_:Nat),(fL B at_ bs).length=B.length:=by
 induction bs with
 |nil=>intro B at_;rfl
 |cons b bs ih=>intro B at_;rw[fL,ih,za0]
def aoP{B bs:List UInt8}{at_:Nat}{b:UInt8}(h:at_+bs.length<B.length):IU B at_ (b::bs)=IU (B.set at_ b) (at_+1) bs:=by
 unfold IU;have h1:(B.set at_ b).take (at_+1)=B.take at_++[b]:=by
  rw[zcX,List.take_set_of_le (zai _),zbQ ab];rfl
 have h2:(B.set at_ b).drop (at_+1+bs.length)=B.drop (at_+(b::bs).length):=by
  rw[zdo ab];simp only[zam];congr 1;omega
 rw[h1,h2];simp
def Xw(bs:List UInt8):∀(B:List UInt8) (at_:Nat),at_+bs.length<=B.length->fL B at_ bs=IU B at_ bs:=by
 induction bs with
 |nil=>intro B at_ _;rw[ajN];rfl
 |cons b bs ih=>
  intro B at_ h;simp only[zam]at h;rw[fL,ih _ _ (by rw[za0];omega),aoP ab]
def agl(xs:List AV)(σ:aF)(K:AV->aF->Prop):Prop:=∃(B:List UInt8) (at_ k:Nat) (n:Int),xs=[.own 0,.pv (pI at_),.pv (pI k),.pv (pI n)]/\(at_+k<=B.length/\B.length<=1000000)/\σ=[.row 5 1 true (B.map aL)]/\K (.tup []) [.row 5 1 true ((fL B at_ (aJ n k)).map aL)]
def awI{xs:List AV}{σ:aF}{K:AV->aF->Prop}(h:agl xs σ K):ayY xs σ K:=by
 obtain⟨B,at_,k,n,h1,h2,h3,h4⟩:=h;rw[Xw _ _ _ (by rw[gL];exact h2.1)]at h4;exact⟨B,at_,k,n,h1,h2,h3,h4⟩
def als:gO (ay []) yG (sB agl):=λxs σ K h=>apz xs σ K (awI h)
def afm{B ys:List UInt8}{lo n:Nat}(h:n=B.length-lo)(h2:lo+ys.length<=B.length):
 (B.map aL).take lo++(ys.map aL).take n++(B.map aL).drop (lo+min (ys.map aL).length n)=(fL B lo ys).map aL:=by
 rw[Xw _ _ _ h2];unfold IU;have h3:(ys.map aL).take n=ys.map aL:=za1 oP;have h4:min (ys.map aL).length n=ys.length:=oP;rw[h3,h4,<-zdd,<-zdf,zbu,zbu]
def aih(W:Nat):List.replicate W (PV.int .u8 0)=(ai W).map aL:=by unfold ai;rw[zcm];rfl
def Tj(ps:List PV)(x:PV):Prop:=∃(b:Bool) (h:Int),ps=[pB b]/\h=(if b=true then 24 else 40)/\x=pI h
def acG:MT (ay []) Fl (ah Tj):=by
 rintro _ K ⟨_,⟨b,h,rfl,rfl,rfl⟩,hK⟩;cases b
 ·exact aG
 ·exact aG
def Uo(ps:List PV)(x:PV):Prop:=∃(n:Int) (m:Nat),ps=[pI n]/\(0<=n/\n<=1000000/\m=B5 n.toNat)/\x=pI m
def adm:MT (ay []) zo (ah Uo):=by
 rintro _ K ⟨_,⟨n,m,rfl,⟨h1,h2,rfl⟩,rfl⟩,hK⟩;unfold B5 at hK
 (repeat'((conv=>whnf);first|refine bj ab ?_|refine l7 ab ?_|fail))<;>try(conv=>whnf)
 refine⟨.pv (pI _),bu ?_,trivial,hK⟩;omega
def f_{P bs:List UInt8}{z g at_ n:Nat}(e:at_=P.length+g)(h:g+bs.length<=z)(e2:n=z-g-bs.length):fL (P++ai z) at_ bs=P++ai g++bs++ai n:=by
 rw[Xw _ _ _ (by rw[zad,bE];omega),ash e h,e2]
def asB{P X C bs:List UInt8}{at_:Nat}(e:at_=P.length)(h:X.length=bs.length):fL (P++(X++C)) at_ bs=P++(bs++C):=by
 rw[Xw _ _ _ (by simp only[zad];omega),atG e h]
def bC(g n:Nat){P bs:List UInt8}{z at_:Nat}(e:at_=P.length+g:=by simp only[List.length_append,gL,bE,List.length_nil]<;>omega)(h:g+bs.length<=z:=by(try simp only[gL])<;>omega)(e2:n=z-g-bs.length:=by(try simp only[gL])<;>omega):fL (P++ai z) at_ bs=P++ai g++bs++ai n:=f_ e h e2
def aw6{ty fl id:Int}{nm vl:List UInt8}{W A:Nat}(h1:24+nm.length<=A)(h2:A+vl.length<=W):
 fL (fL (fL (fL (fL (fL (fL (fL (fL (fL (ai W) 0 (aJ ty 4)) 4 (aJ (W:Nat) 4)) 9 (aJ (nm.length:Nat) 1)) 10 (aJ 24 2)) 12 (aJ fl 2)) 14 (aJ id 2)) 16 (aJ (vl.length:Nat) 4)) 20 (aJ (A:Nat) 4)) 24 nm) A vl=
 aJ ty 4++aJ (W:Nat) 4++aJ 0 1++aJ (nm.length:Nat) 1++aJ 24 2++aJ fl 2++aJ id 2++(aJ (vl.length:Nat) 4++aJ (A:Nat) 4)++nm++ai (A-24-nm.length)++vl++ai (W-A-vl.length):=by
 rw[<-zaZ (ai W),bC 0 (W-4),bC 0 (W-8),bC 1 (W-10),bC 0 (W-12),bC 0 (W-14),bC 0 (W-16),bC 0 (W-20),bC 0 (W-24),bC 0 (W-24-nm.length),bC (A-24-nm.length) (W-A-vl.length)];have z0:ai 0=[]:=rfl;have z1:ai 1=aJ 0 1:=rfl;rw[z0,z1];simp only[zaZ,zbf,zaj]
def aya{ty fl id ft la al sz vd:Int}{nm vl:List UInt8}{W A:Nat}(h1:40+nm.length<=A)(h2:A+vl.length<=W):
 fL (fL (fL (fL (fL (fL (fL (fL (fL (fL (fL (fL (fL (fL (fL (ai W) 0 (aJ ty 4)) 4 (aJ (W:Nat) 4)) 9 (aJ (nm.length:Nat) 1)) 10 (aJ 40 2)) 12 (aJ fl 2)) 14 (aJ id 2)) 8 (aJ 1 1)) 16 (aJ ft 4)) 20 (aJ la 4)) 24 (aJ (A:Nat) 2)) 28 (aJ al 4)) 32 (aJ sz 4)) 36 (aJ vd 4)) 40 nm) A vl=
 aJ ty 4++aJ (W:Nat) 4++aJ 1 1++aJ (nm.length:Nat) 1++aJ 40 2++aJ fl 2++aJ id 2++(aJ ft 4++aJ la 4++aJ (A:Nat) 2++ai 2++aJ al 4++aJ sz 4++aJ vd 4)++nm++ai (A-40-nm.length)++vl++ai (W-A-vl.length):=by
 rw[<-zaZ (ai W),bC 0 (W-4),bC 0 (W-8),bC 1 (W-10),bC 0 (W-12),bC 0 (W-14),bC 0 (W-16)];have m:=asB (P:=([]:List UInt8)++ai 0++aJ ty 4++ai 0++aJ (W:Nat) 4) (X:=ai 1) (C:=aJ (nm.length:Nat) 1++(ai 0++(aJ 40 2++(ai 0++(aJ fl 2++(ai 0++(aJ id 2++ai (W-16)))))))) (at_:=8) (bs:=aJ 1 1) (by simp only[zad,gL,bE,zaY]) (by rw[gL,bE]);simp only[<-zaj]at m ⊢;rw[m,bC 0 (W-20),bC 0 (W-24),bC 0 (W-26),bC 2 (W-32),bC 0 (W-36),bC 0 (W-40),bC 0 (W-40-nm.length),bC (A-40-nm.length) (W-A-vl.length)];have z0:ai 0=[]:=rfl;rw[z0];simp only[zaZ,zbf,zaj]
def Tp(ps:List PV)(x:PV):Prop:=∃a:At,ps=[a.pv]/\TI a=0/\x=.str (T5 a)
def ac6:MT (ay [(210,c8 true G7),(211,ah Tj),(212,ah Uo),(213,sB agl),(209,ah xr)]) zr (ah Tp):=by
 rintro _ K ⟨_,⟨a,rfl,ha,rfl⟩,hK⟩;have hA:=acN.of ha;obtain⟨ty,nm,id,fl,rs,vl,ft,rn,al,sz,vd⟩:=a;have kp:=hA.DL;simp only at kp;simp only[At.pv];cases rs with
 |true=>
  obtain⟨_,_,Ja⟩:=hA.rs rfl;simp only at Ja;have h1:=i_ (24+nm.length);have h2:=i_ (B5 (24+nm.length)+vl.length);obtain⟨W,hW⟩:∃W,W=B5 (B5 (24+nm.length)+vl.length):=⟨_,rfl⟩
  obtain⟨A,hA⟩:∃A,A=B5 (24+nm.length):=⟨_,rfl⟩
  rw[<-hA]at h1 h2 hW;rw[<-hW]at h2;have Oi:∀B:List UInt8,B.length=W->(B.map aL).take (Int.toNat 24)++(nm.map aL).take ((B.map aL).length-Int.toNat 24)++(B.map aL).drop (Int.toNat 24+min (nm.map aL).length ((B.map aL).length-Int.toNat 24))=(fL B 24 nm).map aL:=
   λB hB=>afm (lo:=24) Lh ab
  have Cw:∀B:List UInt8,B.length=W->(B.map aL).take (A:Int).toNat++(vl.map aL).take ((B.map aL).length-(A:Int).toNat)++(B.map aL).drop ((A:Int).toNat+min (vl.map aL).length ((B.map aL).length-(A:Int).toNat))=(fL B A vl).map aL:=
   λB hB=>afm (lo:=A) Lh ab
  (repeat'((conv=>whnf);first|refine⟨_,⟨true,24,rfl,rfl,rfl⟩,?_⟩|(rw[aih,zaC])|(simp only[Oi,Cw,LF,bE])|refine Or.inr ?_|refine zcB (by(simp only[if_true,zav,LF,bE];omega)) ?_|refine⟨_,0,4,_,rfl,⟨br,br⟩,rfl,?_⟩|refine⟨_,4,4,_,rfl,⟨br,br⟩,rfl,?_⟩|refine⟨_,9,1,_,rfl,⟨br,br⟩,rfl,?_⟩|refine⟨_,10,2,_,rfl,⟨br,br⟩,rfl,?_⟩|refine⟨_,12,2,_,rfl,⟨br,br⟩,rfl,?_⟩|refine⟨_,14,2,_,rfl,⟨br,br⟩,rfl,?_⟩|refine⟨_,16,4,_,rfl,⟨br,br⟩,rfl,?_⟩|refine⟨_,20,4,_,rfl,⟨br,br⟩,rfl,?_⟩|refine⟨_,⟨_,W,rfl,⟨ab,ab,by rw[hW];exact congrArg B5 ab⟩,rfl⟩,?_⟩|(refine fe ?_;first|refine bj ab ?_|refine aN ?_|refine dq λ_=>?_|refine yR ?_|refine bT ?_|refine⟨_,⟨_,_,rfl,cZ,rfl⟩,?_⟩|refine wz ?_|fail)))<;>try(conv=>whnf)
  rw[show T5 ⟨ty,nm,id,fl,true,vl,ft,rn,al,sz,vd⟩=aJ ty 4++aJ (W:Nat) 4++aJ 0 1++aJ (nm.length:Nat) 1++aJ 24 2++aJ fl 2++aJ id 2++(aJ (vl.length:Nat) 4++aJ (A:Nat) 4)++nm++ai (A-24-nm.length)++vl++ai (W-A-vl.length)from by rw[hW,hA];rfl,<-aw6 h1.1 h2.1]at hK;exact bM
 |false=>
  obtain⟨_,rfl,n7,hz,JL,mD,_⟩:=hA.ot rfl;simp only[pL]at n7 hz JL mD;have hs:=TT hz;have vu:=(bZ hz).1;have lj:(qL rn.l).length<=400:=by
   unfold qL;have:=JP rn.l rn.l.length (zai _);simp only[zad,zam,zaY];omega
  obtain⟨vl,Ja⟩:∃vl,vl=qL rn.l:=⟨_,rfl⟩
  rw[<-Ja]at lj;have h1:=i_ (40+nm.length);have h2:=i_ (B5 (40+nm.length)+vl.length);obtain⟨W,hW⟩:∃W,W=B5 (B5 (40+nm.length)+vl.length):=⟨_,rfl⟩
  obtain⟨A,hA⟩:∃A,A=B5 (40+nm.length):=⟨_,rfl⟩
  rw[<-hA]at h1 h2 hW;rw[<-hW]at h2;have Oi:∀B:List UInt8,B.length=W->(B.map aL).take (Int.toNat 40)++(nm.map aL).take ((B.map aL).length-Int.toNat 40)++(B.map aL).drop (Int.toNat 40+min (nm.map aL).length ((B.map aL).length-Int.toNat 40))=(fL B 40 nm).map aL:=
   λB hB=>afm (lo:=40) Lh ab
  have Cw:∀B:List UInt8,B.length=W->(B.map aL).take (A:Int).toNat++(vl.map aL).take ((B.map aL).length-(A:Int).toNat)++(B.map aL).drop ((A:Int).toNat+min (vl.map aL).length ((B.map aL).length-(A:Int).toNat))=(fL B A vl).map aL:=
   λB hB=>afm (lo:=A) Lh ab
  (repeat'((conv=>whnf);first|refine⟨_,⟨false,40,rfl,rfl,rfl⟩,?_⟩|refine⟨RV.tup [.pv (.str vl),.pv (pI 0)],⟨rn,rfl,by rw[hz,if_pos rfl,Ja]⟩,?_⟩|(simp only[Oi,Cw,LF,bE])|(rw[aih,zaC])|refine Or.inr ?_|refine zcB (by(simp only[if_true,zav,LF,bE];omega)) ?_|refine⟨_,0,4,_,rfl,⟨br,br⟩,rfl,?_⟩|refine⟨_,4,4,_,rfl,⟨br,br⟩,rfl,?_⟩|refine⟨_,9,1,_,rfl,⟨br,br⟩,rfl,?_⟩|refine⟨_,10,2,_,rfl,⟨br,br⟩,rfl,?_⟩|refine⟨_,12,2,_,rfl,⟨br,br⟩,rfl,?_⟩|refine⟨_,14,2,_,rfl,⟨br,br⟩,rfl,?_⟩|refine⟨_,8,1,_,rfl,⟨br,br⟩,rfl,?_⟩|refine⟨_,16,4,_,rfl,⟨br,br⟩,rfl,?_⟩|refine⟨_,20,4,_,rfl,⟨br,br⟩,rfl,?_⟩|refine⟨_,24,2,_,rfl,⟨br,br⟩,rfl,?_⟩|refine⟨_,28,4,_,rfl,⟨br,br⟩,rfl,?_⟩|refine⟨_,32,4,_,rfl,⟨br,br⟩,rfl,?_⟩|refine⟨_,36,4,_,rfl,⟨br,br⟩,rfl,?_⟩|refine⟨_,⟨⟨ty,nm,id,fl,false,[],ft,rn,al,sz,vd⟩,rfl,GB hz,rfl⟩,?_⟩|refine⟨_,⟨_,W,rfl,⟨ab,ab,by rw[hW];exact congrArg B5 ab⟩,rfl⟩,?_⟩|(refine fe ?_;first|refine bj ab ?_|refine au ao ?_|refine dq λ_=>?_|refine yR ?_|refine bT ?_|refine⟨_,⟨_,_,rfl,cZ,rfl⟩,?_⟩|refine wz ?_|fail)))<;>try(conv=>whnf)
  rw[show T5 ⟨ty,nm,id,fl,false,[],ft,rn,al,sz,vd⟩=aJ ty 4++aJ (W:Nat) 4++aJ 1 1++aJ (nm.length:Nat) 1++aJ 40 2++aJ fl 2++aJ id 2++(aJ ft 4++aJ (ft+bI rn.l-1) 4++aJ (A:Nat) 2++ai 2++aJ al 4++aJ sz 4++aJ vd 4)++nm++ai (A-40-nm.length)++vl++ai (W-A-vl.length)from by rw[hW,hA,Ja];rfl,<-aya h1.1 h2.1]at hK;exact bM
def aoR{a:At}{c5 c6 c3 c2 c9:Bool}(hs:0<=a.ft)(h5:c5=true↔¬(0<a.ft/\a.rn.l.length=0))(h6:c6=true↔a.ft+bI a.rn.l<=4096)
 (h3:c3=true↔¬(0<a.ft∧¬(a.al=0/\a.sz=0/\a.vd=0))) (h2:c2=true↔pL a) (h9:c9=true↔a.vd<=a.sz):
 (if 0<a.ft/\a.rn.l.length=0 then 17 else if 4096<a.ft+bI a.rn.l then 8 else if 0<a.ft∧¬(a.al=0/\a.sz=0/\a.vd=0)then 3 else if ¬pL a then 2 else if a.sz<a.vd then 9 else 0)=
 bQ [if c5=true then 0 else 17,if c6=true then 0 else 8,if c3=true then 0 else 3,if c2=true then 0 else 2,if c9=true then 0 else 9]:=by
 simp only[bQ,h5,h6,h3,h2,h9]
 (repeat' split)<;>first|rfl|omega|contradiction
set_option maxRecDepth 8000 in
set_option maxHeartbeats 4000000 in
def afi:MT (ay [(206,c8 true Xi),(149,ah dG),(148,ah gB),(152,bF bG),(208,c8 true aae),(209,ah xr)]) xW (ah Fa):=by
 rintro _ K ⟨_,⟨a,rfl,rfl⟩,hK⟩
 (repeat'((conv=>whnf);first|refine⟨_,⟨rfl,rfl⟩,?_⟩|refine λ(b:Bool) hb=>?_|(refine fe ?_;first|refine bT ?_|refine⟨_,⟨_,_,rfl,rfl⟩,?_⟩|refine⟨_,⟨_,_,_,rfl,rfl⟩,?_⟩|refine⟨_,⟨[_,_,_],rfl,rfl⟩,?_⟩|fail)))<;>try(conv=>whnf)
 rename_i b2 h2 b3 h3 b4 h4;have h2:b2=true↔a.ty∉VG:=by rw[h2,<-aBj];simp
 have h3:b3=true↔a.vl=[]:=h3;have e1:bQ [if b2=true then 0 else 20,if b3=true then 0 else 3,if b4=true then 0 else 2]=if a.ty∈VG then 20 else if a.vl≠[]then 3 else if ¬(0<=a.ft/\a.ft<=4096)then 2 else 0:=by
  simp only[bQ,h2,h3,h4];by_cases g1:a.ty∈VG<;>by_cases g2:a.vl=[]<;>by_cases g3:0<=a.ft/\a.ft<=4096<;>simp[g1,g2,g3]
 rw[e1]at hb;unfold GG at hK;cases b with
 |true=>
  have hb:=hb.1 rfl;refine⟨.pv (pI _),bu ?_,trivial,hK⟩;rw[e1];by_cases g1:a.ty∈VG
  ·simp[g1]
  by_cases g2:a.vl=[]
  ·by_cases g3:0<=a.ft/\a.ft<=4096
   ·exact absurd (by simp[g1,g2,g3]) hb
   ·simp[g1,g2,g3]
  ·simp[g1,g2]
 |false=>
 have hb:¬_:=λh=>absurd (hb.2 h) ao
 have g1:a.ty∉VG:=λh=>hb uQ
 have g2:a.vl=[]:=zcY.1 λh=>hb (by simp[h,g1])
 have g3:0<=a.ft/\a.ft<=4096:=zcY.1 λh=>hb (by simp[h,g1,g2])
 rw[if_neg g1,if_neg (λh=>h g2),if_neg (λh=>h g3)]at hK;clear hb e1 h2 h3 h4;by_cases hz:dU a.rn.l=0
 case neg=>
  rw[if_pos hz]at hK
  (repeat'((conv=>whnf);first|refine⟨_,⟨a.rn,rfl,rfl⟩,?_⟩|refine au hz ?_|fail))<;>try(conv=>whnf)
  exact aG
 rw[if_neg (λh=>h hz)]at hK;have hs:=TT hz;have gJ:(List.map Rn.pv a.rn.l).length=a.rn.l.length:=zav _
 (repeat'((conv=>whnf);first|refine KP ?_|refine⟨_,⟨a.rn,rfl,rfl⟩,?_⟩|refine aw (λh=>h hz) ?_|refine⟨_,⟨a,rfl,GB hz,rfl⟩,?_⟩|(refine λ(b5:Bool) (U9:b5=true↔(0:Int)<((List.map Rn.pv a.rn.l).length:Nat))=>?_)|(refine λ(b6:Bool) (hb6:b6=true↔a.ft+bI a.rn.l<=4096)=>?_)|(refine λ(b7:Bool) (hb7:b7=true↔a.vd<=a.sz)=>?_)|refine⟨_,⟨[_,_,_,_,_],rfl,rfl⟩,?_⟩|(refine fe ?_;first|refine bj ab ?_|refine aN ?_|refine bP ?_|refine au ab ?_|refine de (λ_=>?_) (λ_=>?_)|refine bT ?_|refine⟨_,⟨_,_,rfl,rfl⟩,?_⟩|refine⟨_,⟨_,_,_,rfl,rfl⟩,?_⟩|fail)))<;>try(conv=>whnf)
 all_goals
  refine⟨.pv (pI _),bu (aoR (a:=a) ab ?_ ?_ ?_ ?_ ?_),trivial,hK⟩;all_goals first
   |(rw[hb6];done)
   |(rw[hb7];done)
   |(simp only[true_iff];(try unfold pL);omega)
   |(simp only[zcn,false_iff];(try unfold pL);omega)
   |(rw[U9,gJ];omega)
def nC(ps:List PV)(x:PV):Prop:=∃a:At,ps=[a.pv]/\a.nm.length<=1000000/\x=pI (gu a)
def ad6{a:At}(h1:a.ty∈S3)(h2:fy a.nm)(h3:yi a):TI a=Iv a:=by
 unfold TI;rw[if_neg (λh=>h h1),if_neg (λh=>h h2),if_neg (λh=>h h3)]
def aom(a:At):gu a=if a.ty∉S3 then 15 else if ¬fy a.nm then 4 else if ¬yi a then 2 else if Iv a≠0 then Iv a else if 440<(T5 a).length then 16 else 0:=by
 unfold gu TI;by_cases h1:a.ty∈S3<;>by_cases h2:fy a.nm<;>by_cases h3:yi a<;>simp[h1,h2,h3]
def XE(p q r:Prop)[Decidable p][Decidable q][Decidable r](c1 c3:Bool)(h1:c1=true↔p)(h3:c3=true↔r):bQ [if c1=true then 0 else 15,if q then 0 else 4,if c3=true then 0 else 2]=if ¬p then 15 else if ¬q then 4 else if ¬r then 2 else 0:=by
 simp only[bQ,h1,h3];by_cases g1:p<;>by_cases g2:q<;>by_cases g3:r<;>simp[g1,g2,g3]
def JJ:MT (ay [(150,bF EV),(149,ah dG),(151,ah Ps),(152,bF bG),(148,ah gB),(153,ah E9),(154,ah Fa),(155,ah Tp)]) qn (ah nC):=by
 rintro _ K ⟨_,⟨a,rfl,hn,rfl⟩,hK⟩;rw[aom]at hK;obtain⟨ty,nm,id,fl,rs,vl,ft,rn,al,sz,vd⟩:=a;simp only at hn hK;simp only[At.pv];by_cases g:ty∈S3/\fy nm/\yi ⟨ty,nm,id,fl,rs,vl,ft,rn,al,sz,vd⟩
 ·obtain⟨g1,g2,g3⟩:=g;rw[if_neg (λh=>h g1),if_neg (λh=>h g2),if_neg (λh=>h g3)]at hK;have e0:bQ [if true=true then 0 else 15,if fy nm then 0 else 4,if true=true then 0 else 2]=0:=by simp[bQ,g2]
  have g4:=g3;simp only[yi]at g4;have h0:TI ⟨ty,nm,id,fl,rs,vl,ft,rn,al,sz,vd⟩=Iv ⟨ty,nm,id,fl,rs,vl,ft,rn,al,sz,vd⟩:=ad6 g1 g2 g3;by_cases hk:Iv ⟨ty,nm,id,fl,rs,vl,ft,rn,al,sz,vd⟩=0
  ·rw[if_neg (λh=>h hk)]at hK;rw[hk]at h0;cases rs with
   |true=>
    have AP:Hy ⟨ty,nm,id,fl,true,vl,ft,rn,al,sz,vd⟩=0:=hk
    (repeat'((conv=>whnf);first|refine au g1 ?_|refine au g4.1 ?_|refine au g4.2 ?_|refine aw (λh=>h e0) ?_|refine aw (λh=>h AP) ?_|refine⟨_,⟨nm,rfl,rfl⟩,?_⟩|refine⟨_,⟨[_,_,_],rfl,rfl⟩,?_⟩|refine⟨_,⟨⟨ty,nm,id,fl,true,vl,ft,rn,al,sz,vd⟩,rfl,rfl⟩,?_⟩|refine⟨_,⟨⟨ty,nm,id,fl,true,vl,ft,rn,al,sz,vd⟩,rfl,h0,rfl⟩,?_⟩|(refine fe ?_;first|refine de (λ_=>?_) (λ_=>?_)|refine bT ?_|refine⟨_,⟨_,rfl,rfl⟩,?_⟩|refine⟨_,⟨_,_,rfl,rfl⟩,?_⟩|refine⟨_,⟨_,_,_,rfl,rfl⟩,?_⟩|fail)))<;>try(conv=>whnf)
    ·rw[if_neg ab]at hK;exact aG
    ·rw[if_pos ab]at hK;exact aG
   |false=>
    have AP:GG ⟨ty,nm,id,fl,false,vl,ft,rn,al,sz,vd⟩=0:=hk
    (repeat'((conv=>whnf);first|refine au g1 ?_|refine au g4.1 ?_|refine au g4.2 ?_|refine aw (λh=>h e0) ?_|refine aw (λh=>h AP) ?_|refine⟨_,⟨nm,rfl,rfl⟩,?_⟩|refine⟨_,⟨[_,_,_],rfl,rfl⟩,?_⟩|refine⟨_,⟨⟨ty,nm,id,fl,false,vl,ft,rn,al,sz,vd⟩,rfl,rfl⟩,?_⟩|refine⟨_,⟨⟨ty,nm,id,fl,false,vl,ft,rn,al,sz,vd⟩,rfl,h0,rfl⟩,?_⟩|(refine fe ?_;first|refine de (λ_=>?_) (λ_=>?_)|refine bT ?_|refine⟨_,⟨_,rfl,rfl⟩,?_⟩|refine⟨_,⟨_,_,rfl,rfl⟩,?_⟩|refine⟨_,⟨_,_,_,rfl,rfl⟩,?_⟩|fail)))<;>try(conv=>whnf)
    ·rw[if_neg ab]at hK;exact aG
    ·rw[if_pos ab]at hK;exact aG
  ·rw[if_pos hk]at hK;clear h0;cases rs with
   |true=>
    have AP:Hy ⟨ty,nm,id,fl,true,vl,ft,rn,al,sz,vd⟩≠0:=hk
    (repeat'((conv=>whnf);first|refine au g1 ?_|refine au g4.1 ?_|refine au g4.2 ?_|refine aw (λh=>h e0) ?_|refine au AP ?_|refine⟨_,⟨nm,rfl,rfl⟩,?_⟩|refine⟨_,⟨[_,_,_],rfl,rfl⟩,?_⟩|refine⟨_,⟨⟨ty,nm,id,fl,true,vl,ft,rn,al,sz,vd⟩,rfl,rfl⟩,?_⟩|(refine fe ?_;first|refine bT ?_|refine⟨_,⟨_,rfl,rfl⟩,?_⟩|refine⟨_,⟨_,_,rfl,rfl⟩,?_⟩|refine⟨_,⟨_,_,_,rfl,rfl⟩,?_⟩|fail)))<;>try(conv=>whnf)
    exact aG
   |false=>
    have AP:GG ⟨ty,nm,id,fl,false,vl,ft,rn,al,sz,vd⟩≠0:=hk
    (repeat'((conv=>whnf);first|refine au g1 ?_|refine au g4.1 ?_|refine au g4.2 ?_|refine aw (λh=>h e0) ?_|refine au AP ?_|refine⟨_,⟨nm,rfl,rfl⟩,?_⟩|refine⟨_,⟨[_,_,_],rfl,rfl⟩,?_⟩|refine⟨_,⟨⟨ty,nm,id,fl,false,vl,ft,rn,al,sz,vd⟩,rfl,rfl⟩,?_⟩|(refine fe ?_;first|refine bT ?_|refine⟨_,⟨_,rfl,rfl⟩,?_⟩|refine⟨_,⟨_,_,rfl,rfl⟩,?_⟩|refine⟨_,⟨_,_,_,rfl,rfl⟩,?_⟩|fail)))<;>try(conv=>whnf)
    exact aG
 ·have cb:(if ¬ty∈S3 then 15 else if ¬fy nm then 4 else if ¬yi ⟨ty,nm,id,fl,rs,vl,ft,rn,al,sz,vd⟩then 2 else(0:Int))≠0:=by
   by_cases h1:ty∈S3<;>by_cases h2:fy nm<;>by_cases h3:yi ⟨ty,nm,id,fl,rs,vl,ft,rn,al,sz,vd⟩<;>simp_all
  have hK:K (.pv (pI (if ¬ty∈S3 then 15 else if ¬fy nm then 4 else if ¬yi ⟨ty,nm,id,fl,rs,vl,ft,rn,al,sz,vd⟩then 2 else 0))):=by
   have e:∀x:Int,(if ¬ty∈S3 then 15 else if ¬fy nm then 4 else if ¬yi ⟨ty,nm,id,fl,rs,vl,ft,rn,al,sz,vd⟩then 2 else x)=(if ¬ty∈S3 then 15 else if ¬fy nm then 4 else if ¬yi ⟨ty,nm,id,fl,rs,vl,ft,rn,al,sz,vd⟩then 2 else 0):=by
    intro x;by_cases h1:ty∈S3<;>by_cases h2:fy nm<;>by_cases h3:yi ⟨ty,nm,id,fl,rs,vl,ft,rn,al,sz,vd⟩<;>simp_all
   rw[e]at hK;exact hK
  (repeat'((conv=>whnf);first|(refine λ(b1:Bool) (eE:b1=true↔ty∈S3)=>?_)|refine⟨_,⟨nm,rfl,rfl⟩,?_⟩|refine⟨_,⟨[_,_,_],rfl,rfl⟩,?_⟩|(refine au (by rw[XE (ty∈S3) (fy nm) (yi ⟨ty,nm,id,fl,rs,vl,ft,rn,al,sz,vd⟩) b1 true eE (by simp only[yi,true_iff];omega)];exact cb) ?_)|(refine au (by rw[XE (ty∈S3) (fy nm) (yi ⟨ty,nm,id,fl,rs,vl,ft,rn,al,sz,vd⟩) b1 false eE (by simp only[yi,zcn,false_iff];omega)];exact cb) ?_)|(refine fe ?_;first|refine de (λ_=>?_) (λ_=>?_)|refine bT ?_|refine⟨_,⟨_,rfl,rfl⟩,?_⟩|refine⟨_,⟨_,_,rfl,rfl⟩,?_⟩|refine⟨_,⟨_,_,_,rfl,rfl⟩,?_⟩|fail)))<;>try(conv=>whnf)
  all_goals
   first
    |(rw[<-XE (ty∈S3) (fy nm) (yi ⟨ty,nm,id,fl,rs,vl,ft,rn,al,sz,vd⟩) b1 true eE (by simp only[yi,true_iff];omega)]at hK;exact aG)
    |(rw[<-XE (ty∈S3) (fy nm) (yi ⟨ty,nm,id,fl,rs,vl,ft,rn,al,sz,vd⟩) b1 false eE (by simp only[yi,zcn,false_iff];omega)]at hK;exact aG)
def Pc:MT (ay []) JS (ah gB):=kS
def MW:MT (ay []) Ij (ah dG):=jP
def MU:MT (ay []) Ic (bF bG):=by
 rintro _ K ⟨_,⟨n,lo,hi,rfl,rfl⟩,hK⟩
 (repeat'((conv=>whnf);first|refine de (λ_=>?_) (λ_=>?_)|fail))<;>try(conv=>whnf)
 all_goals exact kQ
structure Dk where
 a_:List UInt8
 mp:List UInt8
def Dk.pv(d:Dk):PV:=.agg [.str d.a_,.str d.mp]
def Dk.n(d:Dk):Nat:=d.a_.length/256
def eU(B:List UInt8)(n:Nat):List UInt8:=cut (n*256) ((n+1)*256) B
def gI{B:List UInt8}{n:Nat}(h:(n+1)*256<=B.length):(eU B n).length=256:=by
 unfold eU;rw[wL _ _ _ h];omega
structure St where
 a:At
 d:Dk
 pl:List Int
def St.pv(s:St):PV:=.agg [pI s.a.ty,.str s.a.nm,pI s.a.id,pI s.a.fl,pB s.a.rs,.str s.a.vl,pI s.a.ft,qF s.a.rn,pI s.a.al,pI s.a.sz,pI s.a.vd,.str s.d.a_,.str s.d.mp,rI s.pl]
abbrev sP(s:St):PV:=.cptr s.pv
def GM(ps:List PV)(p:Prop):Prop:=∃n:Int,ps=[pI n]/\p=(n= -1)
def ML:MT (ay []) HV (bF GM):=by
 rintro _ K ⟨_,⟨n,rfl,rfl⟩,hK⟩
 (repeat'((conv=>whnf);first|refine de (λ_=>?_) (λ_=>?_)|fail))<;>try(conv=>whnf)
 all_goals exact kQ
def bA(ps:List PV)(x:PV):Prop:=∃d:Dk,ps=[d.pv]/\d.a_.length<=1000000/\x=pI d.n
def Gg:MT (ay []) zy (ah bA):=by
 rintro _ K ⟨_,⟨d,rfl,h,rfl⟩,hK⟩
 (repeat'((conv=>whnf);first|refine l7 ab ?_|fail))<;>try(conv=>whnf)
 exact⟨.pv (pI _),bu so,trivial,hK⟩
def K4(ps:List PV)(x:PV):Prop:=∃n m:Int,ps=[pI n,pI m]/\(0<=n/\n<=1000000/\0<m/\m<=1000000)/\x=pI ((n+m-1)/m)
def Nf:MT (ay []) H8 (ah K4):=by
 rintro _ K ⟨_,⟨n,m,rfl,h,rfl⟩,hK⟩
 (repeat'((conv=>whnf);first|refine bj ab ?_|refine l7 ab ?_|fail))<;>try(conv=>whnf)
 exact aG
def EI(ps:List PV)(x:PV):Prop:=∃n:Int,ps=[pI n]/\n<=1000000/\x=.str (ai n.toNat)
def zQ:MT (ay [(131,ah Lo)]) KU (ah EI):=by
 rintro _ K ⟨_,⟨n,rfl,h,rfl⟩,hK⟩
 (repeat'((conv=>whnf);first|refine⟨_,⟨[0],_,rfl,⟨ab,ab,aj⟩,rfl⟩,?_⟩|refine fQ ?_|fail))<;>try(conv=>whnf)
 rw[Zh,show(max 0 n).toNat=n.toNat by omega];exact bM
def Bf(ps:List PV)(x:PV):Prop:=∃(s:List UInt8) (n:Int),ps=[.str s,pI n]/\(s.length<=1000000/\ -1000000<=n/\n<=1000000)/\x=.str (s++ai (n-s.length).toNat)
def Na:MT (ay [(165,ah EI)]) HS (ah Bf):=by
 rintro _ K ⟨_,⟨s,n,rfl,h,rfl⟩,hK⟩
 (repeat'((conv=>whnf);first|refine zcB (by(simp only[bE];omega)) ?_|(refine fe ?_;first|refine bj ab ?_|refine⟨_,⟨_,rfl,cZ,rfl⟩,?_⟩|fail)))<;>try(conv=>whnf)
 exact bM
def wR(ps:List PV)(p:Prop):Prop:=∃n:Int,ps=[pI n]/\p=(0<=n/\n<=32768)
def IW:MT (ay [(193,bF bG)]) Dj (bF wR):=by
 rintro _ K ⟨_,⟨n,rfl,rfl⟩,hK⟩
 (repeat'(refine iM ?_;first|refine de (λ_=>?_) (λ_=>?_)|refine⟨_,⟨_,_,_,rfl,rfl⟩,?_⟩|fail))<;>try(conv=>whnf)
 all_goals exact kQ
def aBF{a:Int}(h:0<=a/\a<=7):iz .and .i64 a 2=2*(a/2%2):=by
 obtain⟨n,rfl⟩:∃n:Nat,a=n:=⟨a.toNat,ab⟩
 obtain rfl|rfl|rfl|rfl|rfl|rfl|rfl|rfl:n=0\/n=1\/n=2\/n=3\/n=4\/n=5\/n=6\/n=7:=ab;all_goals rfl
def K7(ps:List PV)(p:Prop):Prop:=∃s:St,ps=[sP s]/\(0<=s.a.fl/\s.a.fl<=7)/\p=(s.a.fl/2%2=1)
def IV:MT (ay []) eS (bF K7):=by
 rintro _ K ⟨_,⟨s,rfl,h,rfl⟩,hK⟩
 (repeat'((conv=>whnf);first|(refine aFZ ?_;rw[aBF h])|refine de (λ_=>?_) (λ_=>?_)|fail))<;>try(conv=>whnf)
 all_goals exact kQ
def oA(ps:List PV)(p:Prop):Prop:=∃s:St,ps=[sP s]/\(0<=s.a.fl/\s.a.fl<=7)/\p=(s.a.fl%2=1)
def CC:MT (ay []) oS (bF oA):=by
 rintro _ K ⟨_,⟨s,rfl,h,rfl⟩,hK⟩
 (repeat'((conv=>whnf);first|refine de (λ_=>?_) (λ_=>?_)|refine aGr ab ?_|fail))<;>try(conv=>whnf)
 all_goals exact kQ
def AN(ps:List PV)(x:PV):Prop:=∃(s:St) (n:Nat),ps=[sP s,pI n]/\((n+1)*256<=s.d.a_.length/\s.d.a_.length<=1000000)/\x=.str (eU s.d.a_ n)
def JG:MT (ay []) tP (ah AN):=by
 rintro _ K ⟨_,⟨s,n,rfl,h,rfl⟩,hK⟩
 (repeat'((conv=>whnf);first|refine bj ab ?_|refine wz ?_|fail))<;>try(conv=>whnf)
 rw[show((n:Int)*256).toNat=n*256 by omega,show(((n:Int)+1)*256).toNat=(n+1)*256 by omega];exact bM
def MH(B:List UInt8)(l:List Int):Prop:=∀n∈l,n= -1\/(0<=n/\(n+1)*256<=B.length)
def tS(B:List UInt8)(n:Int):List UInt8:=if n= -1 then[]else eU B n.toNat
def dF(B:List UInt8)(l:List Int):List UInt8:=l.flatMap (tS B)
def AJ(B:List UInt8)(l:List Int):(dF B l).length<=256*l.length:=by
 unfold dF
 induction l with
 |nil=>simp
 |cons n l ih=>
  rw[zan,zad,zam];have:(tS B n).length<=256:=by
   unfold tS;split
   ·simp
   ·unfold eU cut;simp;omega
  omega
def QP(ps:List PV)(x:PV):Prop:=∃(s:St) (l:List Int),ps=[sP s,rI l]/\(s.d.a_.length<=1000000/\l.length<=100000/\MH s.d.a_ l)/\x=.str (dF s.d.a_ l)
def MB:MT (ay [(143,ah AN)]) va (ah QP):=by
 rintro _ K ⟨_,⟨s,l,rfl,⟨h1,h2,h3⟩,rfl⟩,hK⟩
 (repeat'((conv=>whnf);first|refine dq λ_=>?_|fail))<;>try(conv=>whnf)
 refine⟨λm env σ=>∃(n:Nat),n+m=l.length/\σ=[]/\env=[(0,.pv (sP s)),(5,.pv (.str (dF s.d.a_ (l.take n)))),(8,.pv (rI l)),eN 9 l.length,eN 10 n],l.length,⟨0,ab,rfl,rfl⟩,?_⟩;rintro m env σ ⟨n,hn,rfl,rfl⟩;have hb:=AJ s.d.a_ (l.take n);rw[zal]at hb;by_cases aU:n<l.length
 ·obtain⟨a,ha⟩:∃a,l[n]?=some a:=⟨_,zah aU⟩
  have hp:=h3 a (zag ha);have hT:dF s.d.a_ (l.take (n+1))=dF s.d.a_ (l.take n)++tS s.d.a_ a:=by
   rw[zcX,ha];simp[dF]
  by_cases h0:a= -1
  ·subst h0
   (repeat'((conv=>whnf);first|refine bj ab ?_|refine au ab ?_|refine aw ab ?_|refine iY aA ?_|fail))<;>try(conv=>whnf)
   exact⟨m-1,ab,n+1,ab,rfl,by rw[hT];simp[tS]⟩
  ·obtain⟨k,rfl⟩:∃k:Nat,a=k:=⟨a.toNat,ab⟩
   have mE:(eU s.d.a_ k).length=256:=gI ab
   (repeat'((conv=>whnf);first|refine⟨_,⟨s,k,rfl,ab,rfl⟩,?_⟩|refine zcB (by rw[mE];omega) ?_|refine bj ab ?_|refine au ab ?_|refine iY aA ?_|fail))<;>try(conv=>whnf)
   exact⟨m-1,ab,n+1,ab,rfl,by rw[hT,tS,if_neg h0];rfl⟩
 ·(repeat'((conv=>whnf);first|refine aw ab ?_|fail))<;>try(conv=>whnf)
  rw[za1 ab];exact bM
def bt(l:List Int):Nat:=(l.filter λn=>decide (n≠ -1)).length
def oG(l:List Int):bt l<=l.length:=zdj ..
def ao2{l:List Int}{n:Nat}{a:Int}(h:l[n]?=some a):bt (l.take (n+1))=bt (l.take n)+if a= -1 then 0 else 1:=by
 rw[zcX,h];unfold bt;rw[zb0,zad];congr 1;by_cases h0:a= -1<;>simp[h0]
def Uc(ps:List PV)(x:PV):Prop:=∃l:List Int,ps=[rI l]/\l.length<=1000000/\x=pI (bt l)
def Rp:MT (ay [(115,bF GM)]) NQ (ah Uc):=by
 rintro _ K ⟨_,⟨l,rfl,h2,rfl⟩,hK⟩
 (repeat'((conv=>whnf);first|refine dq λ_=>?_|fail))<;>try(conv=>whnf)
 refine⟨λm env σ=>∃(n:Nat),n+m=l.length/\σ=[]/\env=[eN 3 (bt (l.take n)),(6,.pv (rI l)),eN 7 l.length,eN 8 n],l.length,⟨0,ab,rfl,rfl⟩,?_⟩;rintro m env σ ⟨n,hn,rfl,rfl⟩;have hb:=oG (l.take n);rw[zal]at hb;by_cases aU:n<l.length
 ·obtain⟨a,ha⟩:∃a,l[n]?=some a:=⟨_,zah aU⟩
  have hT:=ao2 ha
  (repeat'(refine iM ?_;first|refine bj ab ?_|refine aN ?_|refine bP ?_|refine au ab ?_|refine de (λ_=>?_) (λ_=>?_)|refine iY aA ?_|refine⟨_,⟨_,rfl,rfl⟩,?_⟩|fail))<;>try(conv=>whnf)
  ·exact⟨m-1,ab,n+1,ab,rfl,by rw[hT,if_pos aA];rfl⟩
  ·exact⟨m-1,ab,n+1,ab,rfl,by rw[hT,if_neg aA];rfl⟩
 ·(repeat'((conv=>whnf);first|refine aw ab ?_|fail))<;>try(conv=>whnf)
  rw[za1 ab];exact aG
def adT(ps:List PV)(p:Prop):Prop:=∃(s:St) (i:Nat),ps=[sP s,pI i]/\s.pl.length<=1000000/\p=(∃a,s.pl[i]?=some a/\a≠ -1)
def Tu:MT (ay [(115,bF GM)]) zw (bF adT):=by
 rintro _ K ⟨_,⟨s,i,rfl,h,rfl⟩,hK⟩;by_cases aU:i<s.pl.length
 ·obtain⟨a,ha⟩:∃a,s.pl[i]?=some a:=⟨_,zah aU⟩
  have gR:∀r:Bool,(r=true↔a≠ -1)->K (.pv (.bool r)):=λr hr=>hK r (by rw[hr,ha];simp)
  clear hK
  (repeat'(refine iM ?_;first|refine aN ?_|refine bP ?_|refine au ab ?_|refine de (λ_=>?_) (λ_=>?_)|refine dq λ_=>?_|refine iY aA ?_|refine⟨_,⟨_,rfl,rfl⟩,?_⟩|fail))<;>try(conv=>whnf)
  all_goals exact⟨.pv (.bool _),rfl,trivial,gR _ nq⟩
 ·have gR:∀r:Bool,(r=true↔False)->K (.pv (.bool r)):=λr hr=>hK r (by rw[hr,zaK ab];simp)
  clear hK
  (repeat'((conv=>whnf);first|refine aw ab ?_|refine dq λ_=>?_|fail))<;>try(conv=>whnf)
  all_goals exact⟨.pv (.bool _),rfl,trivial,gR _ aj⟩
abbrev rV(f t:Int):PV:=.agg [pI f,pI t]
def awA(f t:Int):(rV f t).flat:=by
 intro c hc;simp at hc;rcases hc with rfl|rfl<;>trivial
def anj(ps:List PV)(x:PV):Prop:=∃s:St,ps=[sP s]/\x=rV 0 s.a.vl.length
def TX:MT (ay []) zz (ah anj):=by
 rintro _ K ⟨_,⟨s,rfl,rfl⟩,hK⟩
 (repeat'((conv=>whnf);first|refine bT ?_|fail))<;>try(conv=>whnf)
 exact⟨.pv _,rfl,awA _ _,hK⟩
def cG(a:At):Int:=if a.rs=true then a.vl.length else a.vd
def WX(ps:List PV)(x:PV):Prop:=∃s:St,ps=[sP s]/\x=pI (cG s.a)
def OF:MT (ay []) wc (ah WX):=by
 rintro _ K ⟨_,⟨s,rfl,rfl⟩,hK⟩;unfold cG at hK;cases h:s.a.rs
 ·(repeat'((conv=>whnf);first|rw[h]|fail))<;>try(conv=>whnf)
  rw[h]at hK;exact aG
 ·(repeat'((conv=>whnf);first|rw[h]|fail))<;>try(conv=>whnf)
  rw[h]at hK;exact aG
def kG(f t:Int)(c:Int):Prop:=f<min t ((c+1)*256)/\c*256<t
def Mb(ps:List PV)(p:Prop):Prop:=∃f t c:Int,ps=[rV f t,pI c]/\(-1000000000<=c/\c<=1000000000)/\p=kG f t c
def Kn:MT (ay []) wh (bF Mb):=by
 rintro _ K ⟨_,⟨f,t,c,rfl,h,rfl⟩,hK⟩;unfold kG at hK
 (repeat'((conv=>whnf);first|refine bj ab ?_|refine de (λ_=>?_) (λ_=>?_)|refine I8 ?_|fail))<;>try(conv=>whnf)
 all_goals exact kQ
def Cj(f t:Int)(c e:Int):Prop:=f<=c*256/\min e ((c+1)*256)<=t
def aaO(ps:List PV)(p:Prop):Prop:=∃f t c e:Int,ps=[rV f t,pI c,pI e]/\(-1000000000<=c/\c<=1000000000)/\p=Cj f t c e
def M0:MT (ay []) xB (bF aaO):=by
 rintro _ K ⟨_,⟨f,t,c,e,rfl,h,rfl⟩,hK⟩;unfold Cj at hK
 (repeat'((conv=>whnf);first|refine bj ab ?_|refine de (λ_=>?_) (λ_=>?_)|refine I8 ?_|fail))<;>try(conv=>whnf)
 all_goals exact kQ
def wx(r:Rn):Prop:=(0<=r.n/\r.n<=4096)/\(-1<=r.s/\r.s<=1000000)
def iV(r:Rn):List Int:=(List.range r.n.toNat).map λ(i:Nat)=>if r.s= -1 then(-1:Int)else r.s+(i:Int)
def az(l:List Rn):List Int:=l.flatMap iV
def EK(r:Rn):(iV r).length=r.n.toNat:=by simp[iV]
def La{l:List Rn}(h:∀r∈l,wx r):(az l).length<=4096*l.length:=by
 unfold az
 induction l with
 |nil=>simp
 |cons r l ih=>
  rw[zan,zad,zam,EK];have:=ih λq hq=>h q kF
  have:=(h r aj).1;omega
def dL(ps:List PV)(r:RV):Prop:=∃s:Rs,ps=[qF s]/\(s.l.length<=1000∧∀r∈s.l,wx r)/\r=.pv (rI (az s.l))
def IQ:MT (ay []) DC (c8 false dL):=by
 rintro _ K ⟨_,⟨s,rfl,⟨h1,h2⟩,rfl⟩,hK⟩
 (repeat'((conv=>whnf);first|refine KP ?_|refine dq λ_=>?_|fail))<;>try(conv=>whnf)
 refine⟨λm env σ=>∃(n:Nat),n+m=s.l.length/\σ=[.row 3 1 true ((az (s.l.take n)).map pI)]/\env=[(3,.own 0),(7,.pv (qF s)),eN 8 s.l.length,eN 9 n],s.l.length,⟨0,ab,rfl,rfl⟩,?_⟩;rintro m env σ ⟨n,hn,rfl,rfl⟩;have hb:(az (s.l.take n)).length<=4096*(s.l.take n).length:=La λr hr=>h2 r (zaL hr)
 rw[zal]at hb;have gJ:(s.l.map Rn.pv).length=s.l.length:=zav _;by_cases aU:n<s.l.length
 ·obtain⟨a,ha⟩:∃a,s.l[n]?=some a:=⟨_,zah aU⟩
  have hp:=h2 a (zag ha);have hT:az (s.l.take (n+1))=az (s.l.take n)++iV a:=by
   rw[zcX,ha];simp[az]
  have hl:=EK a
  (repeat'((conv=>whnf);first|refine Ek ha ?_|refine au ab ?_|refine bT ?_|fail))<;>try(conv=>whnf)
  refine⟨λm' env σ=>∃(i:Nat),(i:Int)+m'=a.n/\σ=[.row 3 1 true ((az (s.l.take n)++(iV a).take i).map pI),.box 37 [.pv (pI a.s),.pv (pI a.n)]]/\env=[(3,.own 0),(5,.ref 1 0 0),(7,.pv (qF s)),eN 8 s.l.length,eN 9 n,eN 14 a.n,eN 15 i],a.n.toNat,⟨0,by unfold wx at hp;omega,aj,rfl⟩,?_⟩;rintro m' env σ ⟨i,hi,rfl,rfl⟩;unfold wx at hp;have hlr:(az (s.l.take n)++(iV a).take i).length<=4096000+4096:=by
   rw[zad,zal];omega
  by_cases j9:(i:Int)<a.n
  ·have hg:(iV a)[i]?=some (if a.s= -1 then-1 else a.s+(i:Int)):=by
    unfold iV;rw[za9,zbD ab];rfl
   generalize hG:az (s.l.take n)++(iV a).take i=G at*
   (repeat'((conv=>whnf);first|refine bj ab ?_|refine au ab ?_|refine de (λ_=>?_) (λ_=>?_)|refine bT ?_|refine zcB cu ?_|fail))<;>try(conv=>whnf)
   ·refine⟨m'-1,ab,i+1,ab,?_,rfl⟩;rename_i hh;rw[zcX,hg,if_pos hh,<-zaj,hG];simp
   ·refine⟨m'-1,ab,i+1,ab,?_,rfl⟩;rename_i hh;rw[zcX,hg,if_neg hh,<-zaj,hG];simp
  ·(repeat'((conv=>whnf);first|refine bj ab ?_|refine aw ab ?_|fail))<;>try(conv=>whnf)
   refine⟨m-1,ab,n+1,ab,?_,rfl⟩;rw[hT,za1 (l:=iV a) (show(iV a).length<=i by omega)]
 ·(repeat'((conv=>whnf);first|refine aw ab ?_|fail))<;>try(conv=>whnf)
  rw[<-za1 (l:=s.l) (show s.l.length<=n by omega)]at hK;exact abL
def qV(acc:List Rn)(a:Int):List Rn:=
 match acc.getLast? with
 |some r=>if (a= -1/\r.s= -1)\/(a≠ -1/\r.s≠ -1/\r.s+r.n=a)then acc.dropLast++[⟨r.s,r.n+1⟩]else acc++[⟨a,1⟩]
 |none=>[⟨a,1⟩]
def IA(l:List Int):List Rn:=l.foldl qV []
def Fh{l:List Int}{n:Nat}{a:Int}(h:l[n]?=some a):IA (l.take (n+1))=qV (IA (l.take n)) a:=by
 rw[zcX,h];simp[IA]
def abJ(acc:List Rn)(a:Int):(qV acc a).length<=acc.length+1:=by
 unfold qV;split
 ·split
  ·simp
  ·simp
 ·simp
def yO(k:Nat)(r:Rn):Prop:=(1<=r.n/\r.n<=k)/\(-1<=r.s/\r.s<=1000000)
def atn{acc:List Rn}{a:Int}{k:Nat}(h:∀r∈acc,yO k r)(ha: -1<=a/\a<=1000000):∀r∈qV acc a,yO (k+1) r:=by
 have up:∀r,yO k r->yO (k+1) r:=λr hr=>⟨⟨hr.1.1,by have:=hr.1.2;omega⟩,hr.2⟩
 have new:yO (k+1) ⟨a,1⟩:=⟨⟨aj,aH⟩,ha⟩
 intro r hr;unfold qV at hr;split at hr
 ·rename_i q hq;have hm:=h q (zc3 hq);split at hr
  ·rcases zaA.1 hr with h1|h1
   ·exact up r (h r (zdm _ h1))
   ·simp at h1;subst h1;exact⟨⟨by have:=hm.1.1;show 1<=q.n+1;omega,by have:=hm.1.2;show q.n+1<=_;omega⟩,hm.2⟩
  ·rcases zaA.1 hr with h1|h1
   ·exact up r (h r h1)
   ·rw[zc2.1 h1];exact new
 ·rw[zc2.1 hr];exact new
def agT{l:List Int}(h:∀a∈l,-1<=a/\a<=1000000):∀n,(IA (l.take n)).length<=min n l.length∧∀r∈IA (l.take n),yO n r:=by
 intro n
 induction n with
 |zero=>simp[IA]
 |succ n ih=>
  by_cases aU:n<l.length
  ·have ha:l[n]?=some l[n]:=zah aU;rw[Fh ha];refine⟨?_,atn ih.2 (h _ (zag ha))⟩;have:=abJ (IA (l.take n)) l[n];have:=ih.1;omega
  ·rw[za1 ab]at ih ⊢;exact⟨by have:=ih.1;omega,λr hr=>by have:=ih.2 r hr;exact⟨⟨this.1.1,by have:=this.1.2;omega⟩,this.2⟩⟩
def aaA(ps:List PV)(r:RV):Prop:=∃l:List Int,ps=[rI l]/\(l.length<=100000∧∀a∈l,-1<=a/\a<=1000000)/\r=.fresh 37 2 ((IA l).map Rn.pv)
def Nl:MT (ay [(115,bF GM)]) Is (c8 true aaA):=by
 rintro _ K ⟨_,⟨l,rfl,⟨h1,h2⟩,rfl⟩,hK⟩
 (repeat'((conv=>whnf);first|refine dq λ_=>?_|fail))<;>try(conv=>whnf)
 refine⟨λm env σ=>∃(n:Nat),n+m=l.length/\σ=[.row 37 2 true ((IA (l.take n)).map Rn.pv)]/\env=[(3,.own 0),(7,.pv (rI l)),eN 8 l.length,eN 9 n],l.length,⟨0,ab,rfl,rfl⟩,?_⟩;rintro m env σ ⟨n,hn,rfl,rfl⟩;obtain⟨hb,hq⟩:=agT h2 n;by_cases aU:n<l.length
 ·obtain⟨a,ha⟩:∃a,l[n]?=some a:=⟨_,zah aU⟩
  have hT:=Fh ha;have gJ:((IA (l.take n)).map Rn.pv).length=(IA (l.take n)).length:=zav _;generalize IA (l.take n)=R at*;cases UB:R.getLast? with
  |none=>
   have:R=[]:=Ka;subst this
   (repeat'((conv=>whnf);first|refine zcB (by simp;first|done|fail) ?_|refine bj ab ?_|refine au ab ?_|refine aw ao ?_|refine dq λ_=>?_|refine iY aA ?_|refine bT ?_|fail))<;>try(conv=>whnf)
   exact⟨m-1,ab,n+1,ab,rY,rfl⟩
  |some q=>
   have cb:R≠[]:=aaF;have Gq:0<R.length:=zcb.2 cb;have hg:R[((R.length:Int)-1).toNat]?=some q:=by
    rw[<-UB,zc5];congr 1;omega
   have K5:=hq q (zc3 UB);unfold yO at K5;have BW:qV R a=if (a= -1/\q.s= -1)\/(a≠ -1/\q.s≠ -1/\q.s+q.n=a)then R.dropLast++[(⟨q.s,q.n+1⟩:Rn)]else R++[(⟨a,1⟩:Rn)]:=by
    unfold qV;rw[UB]
   have LO:(R.map Rn.pv).set ((R.length:Int)-1).toNat (PV.agg [pI q.s,pI (q.n+1)])=(R.dropLast++[(⟨q.s,q.n+1⟩:Rn)]).map Rn.pv:=by
    rw[show((R.length:Int)-1).toNat=R.length-1 by omega];have e:R.dropLast++[q]=R:=by
     have e1:=zdc cb;rw[zdb cb]at UB;rw[<-Option.some.inj UB];exact e1
    have e2:R.length-1=(R.dropLast.map Rn.pv).length:=aj;have e3:R.map Rn.pv=R.dropLast.map Rn.pv++[q.pv]:=by
     conv=>lhs;rw[<-e]
     rw[zbu];rfl
    rw[e2,e3,zcF _ _ (zai _),zck,zbu];rfl
   have jx:=h2 a (zag ha)
   (repeat'(refine iM ?_;first|refine bj ab ?_|refine aN ?_|refine bP ?_|refine au ab ?_|refine aw ab ?_|refine de (λ_=>?_) (λ_=>?_)|refine dq λ_=>?_|refine iY aA ?_|refine uM aA ?_|refine Q3 ab ?_|refine bT ?_|refine⟨_,⟨_,rfl,rfl⟩,?_⟩|refine zcB cu ?_|fail))<;>try(conv=>whnf)
   all_goals first
    |exact⟨m-1,ab,n+1,ab,by rw[hT,BW,if_pos ab];exact congrArg (λx=>[dC.row 37 2 true x]) LO,rfl⟩
    |exact⟨m-1,ab,n+1,ab,by rw[hT,BW,if_neg ab];simp[Rn.pv],rfl⟩
 ·(repeat'((conv=>whnf);first|refine aw ab ?_|fail))<;>try(conv=>whnf)
  rw[za1 ab];exact vj
def axP{l:List Int}{v:Int}{n:Nat}{x:Int}(h0:∀j,j<n→∀y,l[j]?=some y→¬y=v)(hx:l[n]?=some x)(cb:¬x=v):∀j,j<n+1→∀y,l[j]?=some y→¬y=v:=by
 intro j hj y hy;rcases zc0 (zc1 hj)with h1|h1
 ·exact h0 j h1 y hy
 ·subst h1;rw[hx]at hy;cases hy;exact cb
def Sx(ps:List PV)(x:PV):Prop:=∃(l:List Int) (v:Int),ps=[rI l,pI v]/\l.length<=1000000/\x=pI (WD (λy=>y=v) l)
def agq:MT (ay []) u7 (ah Sx):=by
 rintro _ K ⟨_,⟨l,v,rfl,hl,rfl⟩,hK⟩
 (repeat'((conv=>whnf);first|refine dq λ_=>?_|fail))<;>try(conv=>whnf)
 refine⟨λm env σ=>∃n:Nat,(n+m=l.length∧∀j,j<n→∀y,l[j]?=some y→¬y=v)/\σ=[]/\env=[(0,.pv (rI l)),eN 1 v,eN 7 l.length,eN 8 n],l.length,⟨0,⟨ab,λj hj=>ab⟩,rfl,rfl⟩,?_⟩;rintro m env σ ⟨n,⟨hn,h0⟩,rfl,rfl⟩
 (repeat'((conv=>whnf);first|refine bj ab ?_|refine de (λ_=>?_) (λ_=>?_)|refine aii ab (λ_ _=>?_)|fail))<;>try(conv=>whnf)
 ·rename_i x hx h;exact⟨.pv (pI _),bu (alT h0 hx h.symm),trivial,hK⟩
 ·rename_i x hx h;exact⟨m-1,ab,n+1,⟨ab,axP h0 hx (λe=>h e.symm)⟩,rfl,rfl⟩
 ·refine⟨.pv (pI _),bu (aaK λx hx=>?_),trivial,hK⟩;obtain⟨k,hk⟩:=jk.1 hx;exact h0 k vg x hk
def Ku(ps:List PV)(p:Prop):Prop:=∃(l:List Int) (v:Int),ps=[rI l,pI v]/\l.length<=1000000/\p=(v∈l)
def VQ:MT (ay [(219,ah Sx)]) rp (bF Ku):=by
 rintro _ K ⟨_,⟨l,v,rfl,hl,rfl⟩,hK⟩;have e:v∈l↔0<=WD (λy=>y=v) l:=by
  rw[ak7];exact⟨λh=>⟨v,h,rfl⟩,λ⟨x,h1,h2⟩=>h2▸h1⟩
 rw[e]at hK
 (repeat'(refine iM ?_;first|refine de (λ_=>?_) (λ_=>?_)|refine⟨_,⟨_,_,rfl,cZ,rfl⟩,?_⟩|fail))<;>try(conv=>whnf)
 all_goals exact JH
def uy(ps:List PV)(p:Prop):Prop:=∃(a n:Int),ps=[pI a,.cptr (pI n)]/\p=(n<=a)
def Pp:MT (ay []) oI (bF uy):=by
 rintro _ K ⟨_,⟨a,n,rfl,rfl⟩,hK⟩
 (repeat'((conv=>whnf);first|refine de (λ_=>?_) (λ_=>?_)|fail))<;>try(conv=>whnf)
 all_goals exact kQ
abbrev aCg(n:Int):PV:=.clo 217 [.cptr (pI n)]
def Tm(ps:List PV)(x:PV):Prop:=∃(l:List Int) (v:Int),ps=[rI l,aCg v]/\l.length<=1000000/\x=pI (WD (λy=>v<=y) l)
def adk:MT (ay [(217,bF uy)]) qE (ah Tm):=by
 rintro _ K ⟨_,⟨l,v,rfl,hl,rfl⟩,hK⟩
 (repeat'((conv=>whnf);first|refine dq λ_=>?_|fail))<;>try(conv=>whnf)
 refine⟨λm env σ=>∃n:Nat,(n+m=l.length∧∀j,j<n→∀y,l[j]?=some y→¬v<=y)/\σ=[]/\env=[(0,.pv (rI l)),(1,.pv (aCg v)),eN 7 l.length,eN 8 n],l.length,⟨0,⟨ab,λj hj=>ab⟩,rfl,rfl⟩,?_⟩;rintro m env σ ⟨n,⟨hn,h0⟩,rfl,rfl⟩
 (repeat'((conv=>whnf);first|refine⟨_,⟨_,_,rfl,rfl⟩,?_⟩|refine bj ab ?_|refine de (λ_=>?_) (λ_=>?_)|refine aii ab (λ_ _=>?_)|fail))<;>try(conv=>whnf)
 ·rename_i x hx h;exact⟨.pv (pI _),bu (alT h0 hx h),trivial,hK⟩
 ·rename_i x hx h;refine⟨m-1,ab,n+1,⟨ab,λj hj y hy=>?_⟩,rfl,rfl⟩;rcases zc0 (zc1 hj)with h1|h1
  ·exact h0 j h1 y hy
  ·subst h1;rw[hx]at hy;cases hy;exact h
 ·refine⟨.pv (pI _),bu (aaK λx hx=>?_),trivial,hK⟩;obtain⟨k,hk⟩:=jk.1 hx;exact h0 k vg x hk
def Hj(ps:List PV)(p:Prop):Prop:=∃(l:List Int) (v:Int),ps=[rI l,aCg v]/\l.length<=1000000/\p=(∃a∈l,v<=a)
def SU:MT (ay [(133,ah Tm)]) nT (bF Hj):=by
 rintro _ K ⟨_,⟨l,v,rfl,hl,rfl⟩,hK⟩;have e:(∃a∈l,v<=a)↔0<=WD (λy=>v<=y) l:=(ak7 l).symm;rw[e]at hK
 (repeat'((conv=>whnf);first|refine⟨_,⟨l,v,rfl,hl,rfl⟩,?_⟩|refine de (λ_=>?_) (λ_=>?_)|fail))<;>try(conv=>whnf)
 all_goals exact JH
def P8:Spec:=EM false false λps K=>∃s:St,ps=[sP s]/\s.pl.length<=1000000/\K (.pv (nP (chunks s.pl)))
def aiX:MT (ay [(235,aeV),(234,Ti)]) vW P8:=by
 rintro _ K ⟨s,rfl,hl,hK⟩;refine⟨s.pl,rfl,?_⟩;refine⟨s.pl,rfl,hl,?_⟩;cases h:chunks s.pl with
 |nil=>rw[h]at hK;exact Zg
 |cons d cs=>rw[h]at hK;exact FI
def auP{x:UInt8}{k:Nat}(hk:k<8)(h:x.toNat/2^k%2=0):Po x k 0=x:=by
 apply zdy.1;rw[ug x hk ab,h];simp
def aCi{b:List UInt8}{i:Nat}(hi:i<8*b.length)(h:bH b i=0):aau b i 0=b:=by
 unfold aau;obtain⟨x,hx⟩:∃x,b[i/8]?=some x:=⟨_,zah ab⟩
 unfold bH at h;rw[hx,zbA]at h ⊢;rw[auP ab h];apply zba;intro j;by_cases hj:j=i/8
 ·subst hj;rw[zbQ ab,hx]
 ·rw[zcG ab]
def mS(b:Bool):Nat:=if b=true then 1 else 0
def Jj(b:Bool):mS b<=1:=by cases b<;>decide
def mG(l:List Bool):List UInt8:=VA (λi=>mS (l[i]?.getD false)) l.length
def aAf:(List.range 8).all (λk=>(List.range 256).all λn=>Nat.beq (n/2^k%2) 1||Nat.beq (n|||2^k) (n+2^k))=true:=ak
def aBV{n k:Nat}(hn:n<256)(hk:k<8)(h:n/2^k%2=0):n|||2^k=n+2^k:=by
 have h1:=zbo.1 (zbo.1 aAf k (zbm.2 hk)) n (zbm.2 hn);rw[h]at h1;simpa using h1
def Mn(ps:List PV)(x:PV):Prop:=∃l:List Bool,ps=[.sl 1 (l.map pB)]/\l.length<=4096/\x=.str (mG l)
def qf(d:Dk):List Bool:=(List.range d.n).map λi=>decide (bH d.mp i=1)
def awO(d:Dk):(qf d).length=d.n:=by simp[qf]
def xj(ps:List PV)(r:RV):Prop:=∃d:Dk,ps=[d.pv]/\(d.a_.length<=1000000/\d.mp.length<=1000000/\nu d.mp d.n=0)/\r=.fresh 4 1 ((qf d).map pB)
def ajH:MT (ay [(124,ah bA),(126,XF)]) Lf (c8 true xj):=by
 rintro _ K ⟨_,⟨d,rfl,⟨h1,h2,h3⟩,rfl⟩,hK⟩;have hn:d.n<=1000000:=so
 (repeat'(refine iM ?_;first|refine⟨_,⟨_,rfl,cZ,rfl⟩,?_⟩|fail))<;>try(conv=>whnf)
 refine⟨λm env σ=>∃n:Nat,n+m=d.n/\σ=[.box 23 [.pv (.str d.a_),.pv (.str d.mp)],.row 4 1 true (((qf d).take n).map pB)]/\env=[(1,.ref 0 0 0),(3,.own 1),eN 4 d.n,eN 10 d.n,eN 11 n],d.n,⟨0,ab,rfl,rfl⟩,?_⟩;rintro m env σ ⟨n,hn,rfl,rfl⟩;have gJ:((qf d).take n).length<=1000000:=eI;by_cases aU:n<d.n
 ·have hb:aqn d.mp d.n n=bH d.mp n:=by
   unfold aqn ac0;rw[h3];simp;intro h;omega
  have hT:(qf d).take (n+1)=(qf d).take n++[decide (bH d.mp n=1)]:=by
   rw[zcX];congr 1;unfold qf;rw[za9,zbD aU];rfl
  generalize hG:(qf d).take n=G at*
  (repeat'(refine iM ?_;first|refine bj ab ?_|refine au ab ?_|refine de (λ_=>?_) (λ_=>?_)|refine bT ?_|refine⟨_,_,_,rfl,cZ,?_⟩|refine zcB cu ?_|fail))<;>try(conv=>whnf)
  ·rename_i x;exact⟨m-1,ab,n+1,ab,by rw[hT,decide_eq_true ab];simp,rfl⟩
  ·rename_i x;exact⟨m-1,ab,n+1,ab,by rw[hT,decide_eq_false ab];simp,rfl⟩
 ·(repeat'((conv=>whnf);first|refine aw ab ?_|fail))<;>try(conv=>whnf)
  rw[za1 (by rw[awO];omega)];exact⟨.fresh _ _ _,⟨rfl,rfl,rfl,rfl⟩,(by intro c hc;rw[zaX]at hc;obtain⟨x,_,rfl⟩:=hc;trivial),hK⟩
def atw{b:List UInt8}{i:Nat}{x:UInt8}(hx:b[i/8]?=some x)(h:bH b i=0):
 (b.map aL).set (i/8) (.int .u8 ((x.toNat+2^(i%8):Nat):Int))=(aau b i 1).map aL:=by
 have hb:x.toNat/2^(i%8)%2=0:=by unfold bH at h;rw[hx]at h;exact h
 unfold aau;rw[hx,zbA,zdh];congr 1;unfold aL;rw[ug x ab ab,hb];congr 2;omega
def or_val{x:UInt8}{k:Nat}(hk:k<8)(h:x.toNat/2^k%2=0):
 (((BitVec.ofInt IntKind.u8.bits (x.toNat:Int)|||BitVec.ofInt IntKind.u8.bits (1*2^min k IntKind.u8.bits%256)).toNat:Nat):Int)%256=((x.toNat+2^k:Nat):Int):=by
 have hx:=x.toNat_lt;have h2:2^k<=128:=by
  have:2^k<=2^7:=zb8 ab ab;omega
 have hm:min k IntKind.u8.bits=k:=by show min k 8=k;omega
 have hp:(1*2^k%256:Int)=((2^k:Nat):Int):=by
  rw[Int.one_mul,show(2:Int)^k=((2^k:Nat):Int) by simp];generalize 2^k=q at h2;omega
 rw[hm,hp];show(((BitVec.ofInt 8 (x.toNat:Int)|||BitVec.ofInt 8 ((2^k:Nat):Int)).toNat:Nat):Int)%256=_;rw[BitVec.toNat_or,BitVec.toNat_ofInt,BitVec.toNat_ofInt];have hq:(((2^k:Nat):Int)%((2^8:Nat):Int)).toNat=2^k:=by
  generalize 2^k=q at h2;omega
 rw[show((x.toNat:Int)%((2^8:Nat):Int)).toNat=x.toNat by omega,hq];rw[aBV hx hk h];have:x.toNat+2^k<256:=by
  have e:=ug x hk (v:=1) ab;have:=(Po x k 1).toNat_lt;rw[h]at e;omega
 generalize 2^k=q at*;omega
def ajC:MT (ay [(201,JN)]) J_ (ah Mn):=by
 rintro _ K ⟨_,⟨l,rfl,h1,rfl⟩,hK⟩;have hs:fx l.length=0:=by unfold fx;rw[if_pos ab]
 have PB:axV l.length=ai (qO l.length):=by unfold axV;rw[if_pos hs];congr 1
 have Jd:(ai (qO l.length)).length=qO l.length:=by simp[ai]
 (repeat'((conv=>whnf);first|rw[PB]|refine zcB (by(rw[Jd];unfold qO;omega)) ?_|(refine fe ?_;first|refine dq λ_=>?_|refine⟨_,rfl,?_⟩|fail)))<;>try(conv=>whnf)
 refine⟨λm env σ=>∃n:Nat,n+m=l.length/\σ=[.row 5 1 false ((Nj (λi=>mS (l[i]?.getD false)) (ai (qO l.length)) n).map aL)]/\env=[(5,.own 0),(16,.pv (.sl 1 (l.map pB))),eN 17 l.length,eN 18 n],l.length,⟨0,ab,rfl,rfl⟩,?_⟩;rintro m env σ ⟨n,hn,rfl,rfl⟩;have hf:∀i:Nat,mS (l[i]?.getD false)<=1:=λi=>Jj _
 have bB:=Rw (λi=>mS (l[i]?.getD false)) (ai (qO l.length)) n;by_cases aU:n<l.length
 ·obtain⟨a,ha⟩:∃a,l[n]?=some a:=⟨_,zah aU⟩
  have pD:=Z_ hf n (z:=ai (qO l.length)) (by rw[Jd];unfold qO;omega) n;rw[if_neg ab]at pD;have hT:Nj (λi=>mS (l[i]?.getD false)) (ai (qO l.length)) (n+1)=aau (Nj (λi=>mS (l[i]?.getD false)) (ai (qO l.length)) n) n (mS a):=by
   simp only[Nj];rw[ha];rfl
  rw[Ou]at pD;generalize hG:Nj (λi=>mS (l[i]?.getD false)) (ai (qO l.length)) n=G at*;have hG8:n<8*G.length:=by rw[bB,Jd];unfold qO;omega
  obtain⟨x,hx⟩:∃x,G[n/8]?=some x:=⟨_,zah ab⟩
  have LO:=atw hx pD;cases a with
  |false=>
   (repeat'((conv=>whnf);first|refine bj ab ?_|refine au ab ?_|refine iY aA ?_|fail))<;>try(conv=>whnf)
   exact⟨m-1,ab,n+1,ab,by rw[hT,show mS false=0 from rfl,aCi hG8 pD],rfl⟩
  |true=>
   (repeat'((conv=>whnf);first|refine bj ab ?_|refine au ab ?_|refine l7 ab ?_|refine lW ab ?_|refine Oo ?_|refine iY aA ?_|refine uM aA ?_|refine Q3 ab ?_|refine bT ?_|refine wz ?_|fail))<;>try(conv=>whnf)
   refine⟨m-1,ab,n+1,ab,?_,rfl⟩;have hv:=or_val (k:=n%8) ab (show x.toNat/2^(n%8)%2=0 by unfold bH at pD;rw[hx]at pD;exact pD);rw[show((n:Int)/8).toNat=n/8 by omega,show((n:Int)%8).toNat=n%8 by omega,hv,LO,hT];rfl
 ·(repeat'((conv=>whnf);first|refine aw ab ?_|refine yR ?_|fail))<;>try(conv=>whnf)
  rw[show n=l.length by omega];exact bM
def mF(l:List UInt8)(n:Nat):List UInt8:=l++ai (n-l.length)
def nA(a:At)(out:List UInt8):List UInt8:=(mF (out.take a.vd.toNat) a.sz.toNat).take a.sz.toNat
def OO(a:At)(out:List UInt8):(nA a out).length=a.sz.toNat:=by
 unfold nA mF;rw[zal,zad,aW];omega
def agE(ps:List PV)(x:PV):Prop:=∃(s:St) (b:List UInt8),ps=[sP s,.str b]/\(b.length<=1000000/\(0<=s.a.vd/\s.a.vd<=1000000)/\(0<=s.a.sz/\s.a.sz<=1000000))/\x=.str (nA s.a b)
def ahL:MT (ay [(157,ah Bf)]) v7 (ah agE):=by
 rintro _ K ⟨_,⟨s,b,rfl,⟨h1,h2,h3⟩,rfl⟩,hK⟩;have e:cut 0 (min (b.length:Int) s.a.vd).toNat b=b.take s.a.vd.toNat:=by
  unfold cut;rw[zdk];by_cases h:(b.length:Int)<=s.a.vd
  ·rw[za1 ab,za1 ab]
  ·congr 1;omega
 have hl:(b.take s.a.vd.toNat).length<=1000000:=eI;have e2:cut 0 s.a.sz.toNat (b.take s.a.vd.toNat++ai (s.a.sz-(b.take s.a.vd.toNat).length).toNat)=nA s.a b:=by
  unfold cut nA mF;rw[zdk];congr 3;omega
 (repeat'((conv=>whnf);first|(rw[e])|refine zcB (by(rw[zad,aW];omega)) ?_|(refine fe ?_;first|refine I8 ?_|refine bT ?_|refine⟨_,⟨_,_,rfl,cZ,rfl⟩,?_⟩|refine wz ?_|fail)))<;>try(conv=>whnf)
 rw[e2];exact bM
def rz(B:List UInt8)(l:List Int):List UInt8:=l.flatMap λn=>if n= -1 then ai 256 else eU B n.toNat
def ow(B:List UInt8)(cs:List (List Int)):List UInt8:=cs.flatMap λc=>(b9 (dF B c)).1
def aV(s:St):List UInt8:=
 if s.a.rs=true then s.a.vl else nA s.a (if s.a.fl%2=1 then ow s.d.a_ (chunks s.pl)else rz s.d.a_ s.pl)
def L2(s:List UInt8):(b9 s).1.length<=4096:=by
 unfold b9;split
 ·simp
 split
 ·simp[aW]
 split
 ·simp;omega
 split
 ·simp
 split
 ·simp
 split
 ·simp
 split
 ·simp
 split
 ·simp
 rename_i h;have h:=zcY.1 h;split
 ·simp
 ·simp only;omega
def YO{B:List UInt8}{l:List Int}(h:MH B l):(rz B l).length=256*l.length:=by
 unfold rz
 induction l with
 |nil=>simp
 |cons n l ih=>
  rw[zan,zad,zam,ih λx hx=>h x iP];have:(if n= -1 then ai 256 else eU B n.toNat).length=256:=by
   split
   ·exact aW _
   ·rename_i hn;rcases h n aj with h|h
    ·exact absurd h hn
    ·exact gI ab
  omega
def ajz(B:List UInt8)(cs:List (List Int)):(ow B cs).length<=4096*cs.length:=by
 unfold ow
 induction cs with
 |nil=>simp
 |cons c cs ih=>
  rw[zan,zad,zam];have:=L2 (dF B c);omega
def Ur{l:List Int}{c:List Int}(h:c∈chunks l):c.length<=16∧∀x∈c,x∈l:=by
 unfold chunks at h;rw[zaX]at h;obtain⟨k,_,rfl⟩:=h;refine⟨by rw[yb];omega,λx hx=>?_⟩;unfold bq at hx;exact List.mem_of_mem_drop (zaL hx)
def om{α:Type}(l:List α):(chunks l).length=(l.length+15)/16:=by simp[chunks,ew]
def au9(a:At):Prop:=(0<=a.fl/\a.fl<=7)/\(0<=a.vd/\a.vd<=1000000)/\(0<=a.sz/\a.sz<=1000000)
def tN(ps:List PV)(x:PV):Prop:=∃s:St,ps=[sP s]/\(s.d.a_.length<=1000000/\s.pl.length<=128/\MH s.d.a_ s.pl/\au9 s.a)/\x=.str (aV s)
def acW:MT (ay [(179,bF oA),(202,P8),(204,ah QP),(203,By),(205,ah agE),(165,ah EI),(143,ah AN)]) tB (ah tN):=by
 rintro _ K ⟨_,⟨s,rfl,⟨h1,h2,h3,h4⟩,rfl⟩,hK⟩;obtain⟨h5,h6,h7⟩:=h4;unfold aV at hK;cases c_:s.a.rs with
 |true=>
  rw[if_pos c_]at hK
  (repeat'((conv=>whnf);first|rw[c_]|fail))<;>try(conv=>whnf)
  exact bM
 |false=>
  rw[if_neg qD]at hK;by_cases hc:s.a.fl%2=1
  ·rw[if_pos hc]at hK
   (repeat'((conv=>whnf);first|rw[c_]|(refine⟨_,⟨s,rfl,h5,rfl⟩,?_⟩)|refine CS (σ:=[]) (λ_=>?_)|(refine fe ?_;first|refine au ab ?_|refine dq λ_=>?_|refine⟨_,rfl,cZ,?_⟩|fail)))<;>try(conv=>whnf)
   have mE:=om s.pl;have AQ:∀c∈chunks s.pl,c.length<=16∧∀x∈c,x∈s.pl:=λc hc=>Ur hc
   generalize chunks s.pl=cs at*;refine⟨λm env σ=>∃(n:Nat),n+m=cs.length/\σ=[]/\env=[(0,.pv (sP s)),(3,.pv (.str (ow s.d.a_ (cs.take n)))),(23,.pv (nP cs)),eN 24 cs.length,eN 25 n],cs.length,⟨0,ab,rfl,by simp[ow,GO]⟩,?_⟩;rintro m env σ ⟨n,hn,rfl,rfl⟩;have Vr:=ajz s.d.a_ (cs.take n);rw[zal]at Vr;by_cases aU:n<cs.length
   ·obtain⟨c,WS⟩:∃c,cs[n]?=some c:=⟨_,zah aU⟩
    have YZ:=AQ c (zag WS);have qH:=AJ s.d.a_ c;have hT:ow s.d.a_ (cs.take (n+1))=ow s.d.a_ (cs.take n)++(b9 (dF s.d.a_ c)).1:=by
     rw[zcX,WS];simp[ow]
    have xf:=L2 (dF s.d.a_ c);have cb:nP cs=.sl 1 (cs.map rI):=alP aaV
    (repeat'((conv=>whnf);first|rw[cb]|refine⟨_,⟨s,c,rfl,⟨ab,ab,λx hx=>h3 x (YZ.2 x hx)⟩,rfl⟩,?_⟩|(refine fe ?_;first|refine bj ab ?_|refine au ab ?_|refine iY aA ?_|refine⟨_,rfl,cZ,?_⟩|refine wz ?_|fail)))<;>try(conv=>whnf)
    exact Bq
   ·(repeat'(refine iM ?_;first|refine aw ab ?_|refine⟨_,⟨_,_,rfl,cZ,rfl⟩,?_⟩|fail))<;>try(conv=>whnf)
    rw[za1 ab];exact bM
  ·rw[if_neg hc]at hK
   (repeat'((conv=>whnf);first|rw[c_]|(refine⟨_,⟨s,rfl,h5,rfl⟩,?_⟩)|refine aw ab ?_|refine dq λ_=>?_|fail))<;>try(conv=>whnf)
   refine⟨λm env σ=>∃(n:Nat),n+m=s.pl.length/\σ=[]/\env=[(0,.pv (sP s)),(3,.pv (.str (rz s.d.a_ (s.pl.take n)))),(46,.pv (rI s.pl)),eN 47 s.pl.length,eN 48 n],s.pl.length,⟨0,ab,rfl,by simp[rz,GO]⟩,?_⟩;rintro m env σ ⟨n,hn,rfl,rfl⟩;have vu:=YO (B:=s.d.a_) (l:=s.pl.take n) (λx hx=>h3 x (zaL hx));rw[zal]at vu;by_cases aU:n<s.pl.length
   ·obtain⟨c,WS⟩:∃c,s.pl[n]?=some c:=⟨_,zah aU⟩
    have hT:rz s.d.a_ (s.pl.take (n+1))=rz s.d.a_ (s.pl.take n)++(if c= -1 then ai 256 else eU s.d.a_ c.toNat):=by
     rw[zcX,WS];simp[rz]
    have YZ:=h3 c (zag WS);by_cases h0:c= -1
    ·subst h0;rw[if_pos rfl]at hT
     (repeat'((conv=>whnf);first|refine zcB aiY ?_|(refine fe ?_;first|refine bj ab ?_|refine au ab ?_|refine iY aA ?_|refine⟨_,⟨_,rfl,cZ,rfl⟩,?_⟩|fail)))<;>try(conv=>whnf)
     exact Bq
    ·obtain⟨k,rfl⟩:∃k:Nat,c=k:=⟨c.toNat,ab⟩
     have mE:(eU s.d.a_ k).length=256:=gI ab;rw[if_neg h0]at hT
     (repeat'((conv=>whnf);first|refine⟨_,⟨s,k,rfl,ab,rfl⟩,?_⟩|refine zcB (by(rw[vu,mE];omega)) ?_|refine bj ab ?_|refine au ab ?_|refine aw ab ?_|refine iY aA ?_|fail))<;>try(conv=>whnf)
     exact Bq
   ·(repeat'(refine iM ?_;first|refine aw ab ?_|refine⟨_,⟨_,_,rfl,cZ,rfl⟩,?_⟩|fail))<;>try(conv=>whnf)
    rw[za1 ab];exact bM
def pG(d:Dk)(pl:List Int):Int:=if ∃a∈pl,(d.n:Int)<=a then 2 else if ∃a∈pl,a≠ -1/\bH d.mp a.toNat=0 then 14 else 0
def Lb(ps:List PV)(x:PV):Prop:=∃s:St,ps=[sP s]/\(s.d.a_.length<=1000000/\s.d.mp.length<=1000000/\nu s.d.mp s.d.n=0/\s.pl.length<=1000000∧∀a∈s.pl,-1<=a)/\x=pI (pG s.d s.pl)
def V_:MT (ay [(124,ah bA),(88,bF Hj),(217,bF uy),(115,bF GM),(126,XF)]) rq (ah Lb):=by
 rintro _ K ⟨_,⟨s,rfl,⟨h1,h2,h3,h4,h5⟩,rfl⟩,hK⟩;unfold pG at hK
 (repeat'((conv=>whnf);first|refine⟨_,⟨s.d,rfl,h1,rfl⟩,?_⟩|refine⟨_,⟨s.pl,(s.d.n:Int),rfl,h4,rfl⟩,?_⟩|refine de (λ_=>?_) (λ_=>?_)|refine dq λ_=>?_|refine bT ?_|fail))<;>try(conv=>whnf)
 ·rename_i x;rw[if_pos x]at hK;exact aG
 rename_i tT _;rw[if_neg tT]at hK;refine⟨λm env σ=>∃(n:Nat),n+m=s.pl.length/\(∀j,j<n→∀y,s.pl[j]?=some y→¬(y≠ -1/\bH s.d.mp y.toNat=0))/\σ=[.fz (.cptr (pI s.d.n))]/\env=[(0,.pv (sP s)),(3,.ref 0 0 0),(22,.pv (rI s.pl)),eN 23 s.pl.length,eN 24 n],s.pl.length,⟨0,ab,λj hj=>ab,rfl,rfl⟩,?_⟩;rintro m env σ ⟨n,hn,aHp,rfl,rfl⟩;by_cases aU:n<s.pl.length
 ·obtain⟨c,WS⟩:∃c,s.pl[n]?=some c:=⟨_,zah aU⟩
  have hm:=zag WS;have YZ:=h5 c hm;have aym:¬(s.d.n:Int)<=c:=λh=>tT ⟨c,hm,h⟩
  have Gs:¬(c≠ -1/\bH s.d.mp c.toNat=0)→∀j,j<n+1→∀y,s.pl[j]?=some y→¬(y≠ -1/\bH s.d.mp y.toNat=0):=by
   intro hh j hj y hy;rcases zc0 (zc1 hj)with h1|h1
   ·exact aHp j h1 y hy
   ·subst h1;rw[WS]at hy;cases hy;exact hh
  by_cases h0:c= -1
  ·subst h0
   (repeat'(refine iM ?_;first|refine bj ab ?_|refine aN ?_|refine au ab ?_|refine iY aA ?_|refine⟨_,⟨_,rfl,rfl⟩,?_⟩|fail))<;>try(conv=>whnf)
   exact⟨m-1,ab,n+1,ab,Gs (λh=>h.1 rfl),rfl,rfl⟩
  ·have hb:aqn s.d.mp s.d.n c=bH s.d.mp c.toNat:=by
    unfold aqn ac0;rw[h3];simp;intro h;omega
   (repeat'((conv=>whnf);first|refine⟨s.d.mp,(s.d.n:Int),c,rfl,h2,?_⟩|(refine fe ?_;first|refine bj ab ?_|refine bP ?_|refine au ab ?_|refine aw ab ?_|refine de (λ_=>?_) (λ_=>?_)|refine iY aA ?_|refine bT ?_|refine⟨_,⟨_,rfl,rfl⟩,?_⟩|fail)))<;>try(conv=>whnf)
   ·rename_i x;rw[if_pos ⟨c,hm,h0,ab⟩]at hK;exact aG
   ·rename_i x;exact⟨m-1,ab,n+1,ab,Gs (λh=>ab),rfl,rfl⟩
 ·rw[if_neg (by rintro⟨a,ha,hh⟩;obtain⟨k,hk⟩:=jk.1 ha;exact aHp k vg a hk hh)]at hK
  (repeat'((conv=>whnf);first|refine aw ab ?_|fail))<;>try(conv=>whnf)
  exact aG
def aa(c:List Int):Prop:=WD (λy=>y= -1) c<0\/bt (c.drop (WD (λy=>y= -1) c).toNat)=0
def lJ(a:At)(pl:List Int):Prop:=a.al=bt pl*256/\if a.fl%2=1 then(pl.length:Int)=(a.sz+4095)/4096*16∧∀c∈chunks pl,aa c else(pl.length:Int)=(a.sz+255)/256/\(a.fl/2%2=1\/bt pl=pl.length)
noncomputable def iW(a:At)(pl:List Int):Int:=open Classical in if lJ a pl then 0 else 3
def aFl(c:List Int)(k:Nat):[PV.sl 1 (cut k (c.map pI).length (c.map pI))]=[rI (c.drop k)]:=by
 unfold cut;rw[zcZ,<-zdf]
def OX(ps:List PV)(x:PV):Prop:=∃s:St,ps=[sP s]/\(s.pl.length<=10000/\au9 s.a)/\x=pI (iW s.a s.pl)
def abw:MT (ay [(194,ah Uc),(179,bF oA),(218,ah K4),(202,P8),(219,ah Sx),(220,bF K7),(113,ah dG)]) r7 (ah OX):=by
 rintro _ K ⟨_,⟨s,rfl,⟨h1,h2⟩,rfl⟩,hK⟩;obtain⟨h5,h6,h7⟩:=h2;have Vr:=oG s.pl;have mE:=om s.pl;have AQ:∀c∈chunks s.pl,c.length<=16∧∀x∈c,x∈s.pl:=λc hc=>Ur hc
 by_cases hc:s.a.fl%2=1
 ·have hS:lJ s.a s.pl↔(s.a.al=bt s.pl*256/\(s.pl.length:Int)=(s.a.sz+4095)/4096*16)∧∀c∈chunks s.pl,aa c:=by
   unfold lJ;rw[if_pos hc,and_assoc]
  have gR:∀r:Bool,(r=true↔(s.a.al=bt s.pl*256/\(s.pl.length:Int)=(s.a.sz+4095)/4096*16)∧∀c∈chunks s.pl,aa c)->K (.pv (pI (if r=true then 0 else 3))):=by
   intro r hr;unfold iW at hK;rw[<-hS]at hr;by_cases h:lJ s.a s.pl
   ·rw[if_pos h]at hK;rw[if_pos (hr.2 h)];exact hK
   ·rw[if_neg h]at hK;rw[if_neg (λe=>h (hr.1 e))];exact hK
  clear hS hK;generalize hP:(s.a.al=bt s.pl*256/\(s.pl.length:Int)=(s.a.sz+4095)/4096*16)=P at*;generalize sH:chunks s.pl=cs at*
  (repeat'((conv=>whnf);first|refine⟨_,⟨s.pl,rfl,ab,rfl⟩,?_⟩|(refine⟨_,⟨s,rfl,h5,rfl⟩,?_⟩)|refine⟨s,rfl,ab,?_⟩|rw[sH]|refine CS (σ:=[]) (λ_=>?_)|(refine fe ?_;first|refine bj ab ?_|refine au ab ?_|refine de (λ_=>?_) (λ_=>?_)|refine dq λ_=>?_|refine bT ?_|refine⟨_,⟨_,_,rfl,cZ,rfl⟩,?_⟩|fail)))<;>try(conv=>whnf)
  all_goals
   refine⟨λm env σ=>∃(n:Nat) (r:Bool),n+m=cs.length/\(r=true↔P∧∀c∈cs.take n,aa c)/\σ=[]/\env=[(3,.pv (.bool r)),(71,.pv (nP cs)),eN 72 cs.length,eN 73 n],cs.length,⟨0,_,ab,?_,rfl,rfl⟩,?_⟩
   ·have e0:(s.pl.map pI).length=s.pl.length:=zav _;rw[<-hP];simp<;>omega
   rintro m env σ ⟨n,r,hn,hr,rfl,rfl⟩;by_cases aU:n<cs.length
   ·obtain⟨c,WS⟩:∃c,cs[n]?=some c:=⟨_,zah aU⟩
    have YZ:=AQ c (zag WS);have cb:nP cs=.sl 1 (cs.map rI):=alP aaV;have hT:(∀x∈cs.take (n+1),aa x)↔(∀x∈cs.take n,aa x)/\aa c:=by
     rw[zcX,WS];simp only[zdq,zaA,zc2];exact⟨λh=>⟨λx hx=>h x (.inl hx),h c (.inr rfl)⟩,λh x hx=>hx.elim (h.1 x) λe=>e▸h.2⟩
    have ayC:∀r':Bool,(r'=true↔r=true/\aa c)->(r'=true↔P∧∀x∈cs.take (n+1),aa x):=λr' ic=>by
     rw[ic,hr,hT,and_assoc]
    clear hr hT gR;cases r with
    |false=>
     (repeat'((conv=>whnf);first|rw[cb]|refine⟨_,⟨c,-1,rfl,ab,rfl⟩,?_⟩|refine bj ab ?_|refine au ab ?_|refine iY aA ?_|fail))<;>try(conv=>whnf)
     exact⟨m-1,ab,n+1,false,ab,ayC false aj,rfl,rfl⟩
    |true=>
     have xf:=oG (c.drop (WD (λy=>y= -1) c).toNat);have XM: -1<=WD (λy=>y= -1) c/\WD (λy=>y= -1) c<=c.length:=by
      rcases Az (p:=λy=>y=(-1:Int)) c with⟨h,_⟩|⟨i,x,h,h2,_⟩
      ·omega
      ·have:=eT h2;omega
     (repeat'((conv=>whnf);first|rw[cb]|refine⟨_,⟨c,-1,rfl,ab,rfl⟩,?_⟩|refine⟨_,⟨c.drop (WD (λy=>y= -1) c).toNat,aFl _ _,aH,rfl⟩,?_⟩|refine bj ab ?_|refine au ab ?_|refine de (λ_=>?_) (λ_=>?_)|refine iY aA ?_|refine zcB cu ?_|fail))<;>try(conv=>whnf)
     ·rename_i x;exact⟨m-1,ab,n+1,true,ab,ayC true (by simp[aa,x]),rfl,rfl⟩
     ·rename_i x y;exact⟨m-1,ab,n+1,true,ab,ayC true (by simp[aa];right;omega),rfl,rfl⟩
     ·rename_i x y;exact⟨m-1,ab,n+1,false,ab,ayC false (by simp[aa];omega),rfl,rfl⟩
   ·have:=gR r (by rw[hr,za1 ab]);clear gR
    (repeat'(refine iM ?_;first|refine aw ab ?_|refine⟨_,⟨_,_,rfl,rfl⟩,?_⟩|fail))<;>try(conv=>whnf)
    exact⟨.pv (pI _),rfl,trivial,this⟩
 ·have hS:lJ s.a s.pl↔(s.a.al=bt s.pl*256/\(s.pl.length:Int)=(s.a.sz+255)/256/\(s.a.fl/2%2=1\/bt s.pl=s.pl.length)):=by
   unfold lJ;rw[if_neg hc]
  have gR:∀r:Bool,(r=true↔(s.a.al=bt s.pl*256/\(s.pl.length:Int)=(s.a.sz+255)/256/\(s.a.fl/2%2=1\/bt s.pl=s.pl.length)))->K (.pv (pI (if r=true then 0 else 3))):=by
   intro r hr;unfold iW at hK;rw[<-hS]at hr;by_cases h:lJ s.a s.pl
   ·rw[if_pos h]at hK;rw[if_pos (hr.2 h)];exact hK
   ·rw[if_neg h]at hK;rw[if_neg (λe=>h (hr.1 e))];exact hK
  clear hS hK;have e0:(s.pl.map pI).length=s.pl.length:=zav _;refine oQ ?_;refine⟨_,⟨s.pl,rfl,ab,rfl⟩,?_⟩;refine bj ab ?_;refine de (λh8=>?_) (λh8=>?_)
  ·refine⟨_,⟨s,rfl,h5,rfl⟩,?_⟩;refine aw hc ?_;refine oQ ?_;refine⟨_,⟨_,_,rfl,ab,rfl⟩,?_⟩;refine de (λh9=>?_) (λh9=>?_)
   ·refine⟨_,⟨s,rfl,h5,rfl⟩,?_⟩;refine de (λXK=>?_) (λXK=>?_)
    ·refine⟨_,⟨true,3,rfl,rfl⟩,?_⟩;exact⟨.pv (pI _),rfl,trivial,gR true aH⟩
    ·refine⟨_,⟨s.pl,rfl,ab,rfl⟩,?_⟩;refine de (λgT=>?_) (λgT=>?_)
     ·refine⟨_,⟨true,3,rfl,rfl⟩,?_⟩;exact⟨.pv (pI _),rfl,trivial,gR true aH⟩
     ·refine⟨_,⟨false,3,rfl,rfl⟩,?_⟩;exact Yl
   ·refine⟨_,⟨false,3,rfl,rfl⟩,?_⟩;exact Yl
  ·refine⟨_,⟨s,rfl,h5,rfl⟩,?_⟩;refine aw hc ?_;refine oQ ?_;refine⟨_,⟨false,3,rfl,rfl⟩,?_⟩;exact Yl
def gm(d:Dk):Int:=if d.a_.length%256≠0 then 10 else if 512<d.n then 2 else nu d.mp d.n
def dm(ps:List PV)(x:PV):Prop:=∃d:Dk,ps=[d.pv]/\(d.a_.length<=1000000/\d.mp.length<=1000000)/\x=pI (gm d)
def Wy:MT (ay [(113,ah dG),(124,ah bA),(125,ah HN),(111,ah gB)]) Bm (ah dm):=by
 rintro _ K ⟨_,⟨d,rfl,⟨h1,h2⟩,rfl⟩,hK⟩;have hn:d.n<=10000:=so
 (repeat'((conv=>whnf);first|refine oQ ?_|(refine⟨_,⟨d,rfl,ab,rfl⟩,?_⟩)|(refine⟨_,⟨d.mp,min (d.n:Int) 512,rfl,ab,rfl⟩,?_⟩)|(refine fe ?_;first|refine de (λ_=>?_) (λ_=>?_)|refine I8 ?_|refine lW ab ?_|refine⟨_,⟨_,_,rfl,rfl⟩,?_⟩|refine⟨_,⟨[_,_,_],rfl,rfl⟩,?_⟩|fail)))<;>try(conv=>whnf)
 all_goals
  refine⟨.pv (pI _),?_,trivial,hK⟩;refine bu ?_;simp only[bQ,if_true,zcn,if_false];unfold gm;split<;>(try split)<;>(try omega)
 all_goals(try rw[show(min (d.n:Int) 512)=d.n by omega])
 all_goals simp_all
def oT(a:At):Int:=if gu a≠0 then gu a else if a.ty≠128\/4<=a.fl\/a.fl=3 then 15 else if a.ft≠0 then 20 else if 32768<a.sz then 2 else 0
def Dy(ps:List PV)(x:PV):Prop:=∃a:At,ps=[a.pv]/\a.nm.length<=1000000/\x=pI (oT a)
def aAJ{a:Int}(h:0<=a/\a<=7):iz .and .i64 a 4=4*(a/4%2):=by
 obtain⟨n,rfl⟩:∃n:Nat,a=n:=⟨a.toNat,ab⟩
 obtain rfl|rfl|rfl|rfl|rfl|rfl|rfl|rfl:n=0\/n=1\/n=2\/n=3\/n=4\/n=5\/n=6\/n=7:=ab;all_goals rfl
def aB7{a:Int}(h:0<=a/\a<=7):iz .and .i64 a 3=a%4:=by
 obtain⟨n,rfl⟩:∃n:Nat,a=n:=⟨a.toNat,ab⟩
 obtain rfl|rfl|rfl|rfl|rfl|rfl|rfl|rfl:n=0\/n=1\/n=2\/n=3\/n=4\/n=5\/n=6\/n=7:=ab;all_goals rfl
def afv{a:At}(h:gu a=0):0<=a.fl/\a.fl<=7:=by
 unfold gu at h;split at h
 ·rename_i g;exact sF
 ·rename_i g;exact(acN.of (zcY.1 g)).idf.2
def VO:MT (ay [(112,ah nC),(113,ah dG),(111,ah gB)]) B3 (ah Dy):=by
 rintro _ K ⟨_,⟨a,rfl,h1,rfl⟩,hK⟩
 (repeat'((conv=>whnf);first|refine oQ ?_|(refine⟨_,⟨a,rfl,h1,rfl⟩,?_⟩)|(refine⟨_,⟨[_,_,_,_],rfl,rfl⟩,?_⟩)|(refine fe ?_;first|refine aN ?_|refine bP ?_|refine de (λ_=>?_) (λ_=>?_)|refine aFZ ?_|refine⟨_,⟨_,_,rfl,rfl⟩,?_⟩|fail)))<;>try(conv=>whnf)
 all_goals
  refine⟨.pv (pI _),?_,trivial,hK⟩;refine bu ?_;simp only[bQ,if_true,zcn,if_false];unfold oT;by_cases hz:gu a=0
  ·have hf:=afv hz;have h4:=aAJ hf;have h3:=aB7 hf;simp only[hz,ne_eq,not_true_eq_false,if_false];split<;>(try split)<;>(try split)<;>(try omega)
   all_goals(try(rename_i h;exact absurd trivial h))
   all_goals(try rw[h4]at*)
   all_goals(try rw[h3]at*)
   all_goals first
    |omega
    |(simp_all;done)
    |(simp_all<;>omega)
  ·simp[hz]
def TE(f:Nat->Int)(n:Nat):Int:=bQ ((List.range n).map f)
def amm(a b:List Int):bQ (a++b)=if bQ a=0 then bQ b else bQ a:=by
 induction a with
 |nil=>simp[bQ]
 |cons x a ih=>
  simp only[zbd,bQ];by_cases h:x=0
  ·simp only[h,if_true];exact ih
  ·simp[h]
def adU(f:Nat->Int)(n:Nat):TE f (n+1)=if TE f n=0 then f n else TE f n:=by
 unfold TE;rw[zdi,zbu,amm];by_cases h:f n=0<;>simp[bQ,h]
def AG{f:Nat->Int}:∀{n:Nat},TE f n=0↔∀j,j<n->f j=0
 |0=>by simp[TE,bQ]
 |n+1=>by
  rw[adU];constructor
  ·intro h j hj;split at h
   ·rename_i g;rcases zc0 (zc1 hj)with h1|h1
    ·exact AG.1 g j h1
    ·rw[h1];exact h
   ·rename_i g;exact sF
  ·intro h;rw[if_pos (AG.2 λj hj=>h j ab)];exact h n ab
def agf{f:Nat->Int}{i:Nat}:∀{n:Nat},(∀j,j<i->f j=0)->i<n->f i≠0->TE f n=f i
 |0,_,h,_=>by omega
 |n+1,h0,h,cb=>by
  rw[adU];by_cases hi:i<n
  ·rw[agf h0 hi cb,if_neg cb]
  ·have:i=n:=by omega
   subst this;rw[if_pos (AG.2 h0)]
def mZ(vd:Int)(i:Nat):Nat:=(min (max 0 (vd-i*4096)) 4096).toNat
def xC(B:List UInt8)(vd:Int)(i:Nat)(c:List Int):Int:=
 if (b9 (dF B c)).2≠0 then(b9 (dF B c)).2
 else if (0<bt c/\(b9 (dF B c)).1=ai 4096)\/(b9 (dF B c)).1.drop (mZ vd i)≠ai (4096-mZ vd i)then 19 else 0
def qw(B:List UInt8)(vd:Int)(cs:List (List Int)):Int:=TE (λi=>xC B vd i (cs[i]?.getD [])) cs.length
def HC{s:List UInt8}(h:(b9 s).2=0):(b9 s).1.length=4096:=by
 unfold b9 at h ⊢;split
 ·rename_i g;rw[if_pos g]at h;cases h
 rename_i g;rw[if_neg g]at h;split
 ·exact aW _
 rename_i g;rw[if_neg g]at h;split
 ·assumption
 rename_i g;rw[if_neg g]at h;split
 ·rename_i g;rw[if_pos g]at h;cases h
 rename_i g;rw[if_neg g]at h;split
 ·rename_i g;rw[if_pos g]at h;cases h
 rename_i g;rw[if_neg g]at h;split
 ·rename_i g;rw[if_pos g]at h;cases h
 rename_i g;rw[if_neg g]at h;split
 ·rename_i g;rw[if_pos g]at h;exact sF
 rename_i g;rw[if_neg g]at h;split
 ·rename_i g;rw[if_pos g]at h;cases h
 rename_i g;rw[if_neg g]at h;split
 ·rename_i g;rw[if_pos g]at h;cases h
 ·exact zcY.1 aA
def SZ{α:Type}(k:Nat)(l:List α):cut k l.length l=l.drop k:=by unfold cut;rw[zcZ]
def OG(ps:List PV)(x:PV):Prop:=∃s:St,ps=[sP s]/\(s.d.a_.length<=1000000/\s.pl.length<=10000/\MH s.d.a_ s.pl/\au9 s.a)/\x=pI (qw s.d.a_ s.a.vd (chunks s.pl))
def abH:MT (ay [(202,P8),(204,ah QP),(203,By),(194,ah Uc),(165,ah EI)]) sm (ah OG):=by
 rintro _ K ⟨_,⟨s,rfl,⟨h1,h2,h3,h4⟩,rfl⟩,hK⟩;obtain⟨h5,h6,h7⟩:=h4;unfold qw at hK;have mE:=om s.pl;have AQ:∀c∈chunks s.pl,c.length<=16∧∀x∈c,x∈s.pl:=λc hc=>Ur hc
 generalize sH:chunks s.pl=cs at*;generalize hF:(λi=>xC s.d.a_ s.a.vd i (cs[i]?.getD []))=F at*
 (repeat'((conv=>whnf);first|refine⟨s,rfl,ab,?_⟩|rw[sH]|refine CS (σ:=[]) (λ_=>?_)|refine dq λ_=>?_|fail))<;>try(conv=>whnf)
 refine⟨λm env σ=>∃n:Nat,n+m=cs.length/\(∀j,j<n->F j=0)/\σ=[]/\env=[(0,.pv (sP s)),(10,.pv (nP cs)),eN 11 cs.length,eN 12 n],cs.length,⟨0,ab,λj hj=>ab,rfl,rfl⟩,?_⟩;rintro m env σ ⟨n,hn,h0,rfl,rfl⟩;by_cases aU:n<cs.length
 ·obtain⟨c,WS⟩:∃c,cs[n]?=some c:=⟨_,zah aU⟩
  have YZ:=AQ c (zag WS);have qH:=AJ s.d.a_ c;have cb:nP cs=.sl 1 (cs.map rI):=alP aaV;have lY:F n=xC s.d.a_ s.a.vd n c:=by rw[<-hF];simp only;rw[WS];rfl
  have LU:xC s.d.a_ s.a.vd n c≠0->K (.pv (pI (xC s.d.a_ s.a.vd n c))):=λh=>by
   rw[agf h0 aU (by rw[lY];exact h),lY]at hK;exact hK
  have aoH:xC s.d.a_ s.a.vd n c=0→∀j,j<n+1->F j=0:=λh j hj=>by
   rcases zc0 (zc1 hj)with h1|h1
   ·exact h0 j h1
   ·rw[h1,lY];exact h
  have Vr:=oG c;clear hK hF;unfold xC at LU aoH;have hlen:(b9 (dF s.d.a_ c)).2=0->(b9 (dF s.d.a_ c)).1.length=4096:=HC;generalize hU:b9 (dF s.d.a_ c)=U at*;obtain⟨own,e⟩:=U;simp only at LU aoH hlen;have eE:e≠0->K (.pv (pI e)):=λh=>by
   have:=LU (by rw[if_pos h];exact h);rw[if_pos h]at this;exact this
  have t_:¬e≠0->((0<(bt c:Int)/\own=ai (4096:Int).toNat)\/cut (min (max 0 (s.a.vd-n*4096)) 4096).toNat own.length own≠ai (4096-min (max 0 (s.a.vd-n*4096)) 4096).toNat)->K (.pv (pI 19)):=λh h2=>by
   rw[SZ,show(4096-min (max 0 (s.a.vd-n*4096)) 4096).toNat=4096-mZ s.a.vd n by unfold mZ;omega]at h2;have h2:(0<bt c/\own=ai 4096)\/own.drop (mZ s.a.vd n)≠ai (4096-mZ s.a.vd n):=h2.imp (λh=>⟨ab,h.2⟩) id;have:=LU (by rw[if_neg h,if_pos h2];decide);rw[if_neg h,if_pos h2]at this;exact this
  have hg:¬e≠0→¬((0<(bt c:Int)/\own=ai (4096:Int).toNat)\/cut (min (max 0 (s.a.vd-n*4096)) 4096).toNat own.length own≠ai (4096-min (max 0 (s.a.vd-n*4096)) 4096).toNat)→∀j,j<n+1->F j=0:=λh h2=>by
   rw[SZ,show(4096-min (max 0 (s.a.vd-n*4096)) 4096).toNat=4096-mZ s.a.vd n by unfold mZ;omega]at h2;have h2:¬((0<bt c/\own=ai 4096)\/own.drop (mZ s.a.vd n)≠ai (4096-mZ s.a.vd n)):=λg=>h2 (g.imp (λh=>⟨ab,h.2⟩) id)
   exact aoH (by rw[if_neg h,if_neg h2])
  clear LU aoH
  (repeat'((conv=>whnf);first|rw[cb]|refine⟨_,⟨s,c,rfl,⟨ab,ab,λx hx=>h3 x (YZ.2 x hx)⟩,rfl⟩,?_⟩|rw[hU]|(refine fe ?_;first|refine bj ab ?_|refine au ab ?_|refine de (λ_=>?_) (λ_=>?_)|refine fQ ?_|refine I8 ?_|refine iY aA ?_|refine bT ?_|refine⟨_,⟨_,rfl,cZ,rfl⟩,?_⟩|refine⟨_,rfl,cZ,?_⟩|refine zcB cu ?_|fail)))<;>try(conv=>whnf)
  ·rename_i x;exact⟨.pv (pI _),rfl,trivial,eE x⟩
  ·rename_i x y z;exact⟨.pv (pI _),rfl,trivial,t_ x (.inl ⟨y,z⟩)⟩
  ·rename_i x y z w;exact⟨.pv (pI _),rfl,trivial,t_ x (.inr w)⟩
  ·rename_i x y z w;exact⟨m-1,ab,n+1,ab,hg x (λg=>g.elim (λg=>z g.2) (λg=>w g)),rfl,rfl⟩
  ·rename_i x y w;exact⟨.pv (pI _),rfl,trivial,t_ x (.inr w)⟩
  ·rename_i x y w;exact⟨m-1,ab,n+1,ab,hg x (λg=>g.elim (λg=>y g.1) (λg=>w g)),rfl,rfl⟩
 ·rw[AG.2 λj hj=>h0 j ab]at hK
  (repeat'((conv=>whnf);first|refine aw ab ?_|fail))<;>try(conv=>whnf)
  exact aG
def xA{l:List Rn}(h:∀r∈l,0<=r.n):((az l).length:Int)=bI l:=by
 unfold az
 induction l with
 |nil=>simp[bI]
 |cons r l ih=>
  rw[zan,zad,EK];have:=ih λq hq=>h q kF
  have:=h r aj;simp only[bI,zat,List.sum_cons]at*;omega
def aia{l:List Rn}{a:Int}(h:a∈az l):∃r∈l,∃i:Nat,(i:Int)<r.n/\a=if r.s= -1 then-1 else r.s+(i:Int):=by
 unfold az at h;rw[zbz]at h;obtain⟨r,hr,ha⟩:=h;unfold iV at ha;rw[zaX]at ha;obtain⟨i,hi,rfl⟩:=ha;exact⟨r,hr,i,by have:=zbm.1 hi;omega,rfl⟩
def rG{r:Rn}(h:jZ r):(1<=r.n/\r.n<=4096)/\(-1<=r.s/\r.s<=511)/\(r.s≠ -1->r.s+r.n<=512):=by
 unfold jZ at h;split at h<;>omega
def arU{l:List Rn}(h:∀r∈l,jZ r):∀a∈az l,-1<=a/\a<=511:=by
 intro a ha;obtain⟨r,hr,i,hi,rfl⟩:=aia ha;have:=rG (h r hr);split<;>omega
def ar(d:Dk)(a:At):St:=⟨a,d,az a.rn.l⟩
noncomputable def aK(d:Dk)(a:At):Int:=
 if gm d≠0 then gm d else if oT a≠0 then oT a else if a.rs=true then 0
 else if pG d (az a.rn.l)≠0 then pG d (az a.rn.l)else if iW a (az a.rn.l)≠0 then iW a (az a.rn.l)
 else if a.fl%2=1 then qw d.a_ a.vd (chunks (az a.rn.l))else 0
def fH(d:Dk):Prop:=d.a_.length<=1000000/\d.mp.length<=1000000
def xt:Spec:=EM false false λps K=>∃(d:Dk) (a:At),ps=[d.pv,a.pv]/\(fH d/\a.nm.length<=1000000)/\(aK d a=0->K (.tup [.pv (sP (ar d a)),.pv (pI 0)]))/\(aK d a≠0→∀v,v=.val (.pointer none)\/v=sP (ar d a)->K (.tup [.pv v,.pv (pI (aK d a))]))
def lE{a:At}(h:oT a=0):gu a=0/\a.ty=128/\(0<=a.fl/\a.fl<=2)/\a.ft=0/\a.sz<=32768:=by
 unfold oT at h;split at h
 ·rename_i g;exact sF
 rename_i g;have g:=zcY.1 g;have:=afv g;split at h
 ·cases h
 split at h
 ·cases h
 split at h
 ·cases h
 ·refine⟨g,ab,ab,ab,ab⟩
def Ms{a:At}(h:gu a=0):acN a:=by
 unfold gu at h;split at h
 ·rename_i g;exact sF
 ·rename_i g;exact acN.of (zcY.1 g)
def tH{a:At}(h:oT a=0):dU a.rn.l=0:=by
 have g:=Ms (lE h).1;cases hr:a.rs with
 |true=>
  have:=(g.rs hr).1;have e:a.rn.l=[]:=by simpa using this
  rw[e];rfl
 |false=>exact(g.ot hr).2.2.2.1
def ai5{a:At}(h:oT a=0):(az a.rn.l).length<=4096∧∀x∈az a.rn.l,-1<=x/\x<=511:=by
 have g:=bZ (tH h);have h1:=xA (l:=a.rn.l) λr hr=>by have:=rG (g.2.2.2 r hr);omega
 exact⟨ab,arU g.2.2.2⟩
def rX{d:Dk}(h:gm d=0):d.a_.length%256=0/\d.n<=512/\nu d.mp d.n=0:=by
 unfold gm at h;split at h
 ·cases h
 split at h
 ·cases h
 ·exact⟨ab,ab,h⟩
def abC{d:Dk}{pl:List Int}(hb:∀x∈pl,-1<=x)(h:pG d pl=0):MH d.a_ pl:=by
 unfold pG at h;split at h
 ·cases h
 rename_i g;intro n hn;have h1:=hb n hn;have h2:¬(d.n:Int)<=n:=λe=>g ⟨n,hn,e⟩
 by_cases h3:n= -1
 ·exact .inl h3
 ·refine .inr ⟨ab,?_⟩;unfold Dk.n at h2;omega
def tW{b:Bool}{P Q:Prop}:b=true->P->(match b with|true=>P|false=>Q):=by intro h k;subst h;exact k
def qT{b:Bool}{P Q:Prop}:b=false->Q->(match b with|true=>P|false=>Q):=by intro h k;subst h;exact k
def ajq:MT (ay [(67,ah dm),(176,ah Dy),(111,ah gB),(114,c8 false dL),(177,ah Lb),(178,ah OX),(179,bF oA),(180,ah OG)]) Of xt:=by
 rintro _ K ⟨d,a,rfl,⟨⟨h1,h2⟩,h3⟩,Gt,xy⟩;have hf:bQ [gm d,oT a]=if gm d=0 then oT a else gm d:=by
  show(if gm d=0 then(if oT a=0 then 0 else oT a)else gm d)=_;split
  ·split
   ·omega
   ·rfl
  ·rfl
 by_cases he:bQ [gm d,oT a]=0
 ·rw[hf]at he;have hd:gm d=0:=by
   by_cases h:gm d=0
   ·exact h
   ·rw[if_neg h]at he;exact he
  have hs:oT a=0:=by rw[if_pos hd]at he;exact he
  obtain⟨g1,g2,g3,g4,g5⟩:=lE hs;have ga:=Ms g1;obtain⟨q1,q2,q3⟩:=rX hd;have gr:=bZ (tH hs);obtain⟨gl,gb⟩:=ai5 hs;have hO:aK d a=if a.rs=true then 0 else if pG d (az a.rn.l)≠0 then pG d (az a.rn.l)else if iW a (az a.rn.l)≠0 then iW a (az a.rn.l)
   else if a.fl%2=1 then qw d.a_ a.vd (chunks (az a.rn.l))else 0:=by unfold aK;rw[if_neg ab,if_neg ab]
  have akC:dL [qF a.rn] (.pv (rI (az a.rn.l))):=⟨a.rn,rfl,⟨ab,λr hr=>abM⟩,rfl⟩
  have hsP:sP (ar d a)=.cptr (.agg [pI a.ty,.str a.nm,pI a.id,pI a.fl,pB a.rs,.str a.vl,pI a.ft,qF a.rn,pI a.al,pI a.sz,pI a.vd,.str d.a_,.str d.mp,rI (az a.rn.l)]):=rfl;cases c_:a.rs with
  |true=>
   rw[if_pos c_]at hO
   (repeat'((conv=>whnf);first|refine oQ ?_|(refine⟨_,⟨d,rfl,ab,rfl⟩,?_⟩)|(refine⟨_,⟨a,rfl,h3,rfl⟩,?_⟩)|refine aw (by rw[hf];omega) ?_|refine⟨_,akC,?_⟩|refine tW c_ ?_|(refine fe ?_;first|refine⟨_,⟨[_,_],rfl,rfl⟩,?_⟩|fail)))<;>try(conv=>whnf)
   exact⟨[.pv _,.pv (pI _)],⟨rfl,rfl,trivial⟩,trivial,Gt hO⟩
  |false=>
   rw[if_neg qD]at hO;have Mi:=ga.ot c_;have LV:=Mi.2.2.2.2.2.1;unfold pL at LV;have aHq:au9 a:=⟨⟨ab,ab⟩,⟨ab,ab⟩,ab,ab⟩
   (repeat'((conv=>whnf);first|refine oQ ?_|(refine⟨_,⟨d,rfl,ab,rfl⟩,?_⟩)|(refine⟨_,⟨a,rfl,h3,rfl⟩,?_⟩)|refine aw (by rw[hf];omega) ?_|refine⟨_,akC,?_⟩|refine qT c_ ?_|refine⟨_,⟨ar d a,rfl,⟨h1,h2,q3,by show(az a.rn.l).length<=_;omega,λx hx=>(gb x hx).1⟩,rfl⟩,?_⟩|(refine fe ?_;first|refine de (λ_=>?_) (λ_=>?_)|refine⟨_,⟨[_,_],rfl,rfl⟩,?_⟩|fail)))<;>try(conv=>whnf)
   ·rename_i x;have x:pG d (az a.rn.l)≠0:=x;rw[if_pos x]at hO;rw[hO]at xy;exact⟨[.pv _,.pv (pI _)],⟨rfl,rfl,trivial⟩,trivial,xy x _ (.inl rfl)⟩
   rename_i x;have x:¬pG d (az a.rn.l)≠0:=x;rw[if_neg x]at hO;have avT:=abC (λx hx=>(gb x hx).1) (zcY.1 x)
   (repeat'((conv=>whnf);first|refine⟨_,⟨ar d a,rfl,⟨by show(az a.rn.l).length<=_;omega,aHq⟩,rfl⟩,?_⟩|(refine⟨_,⟨ar d a,rfl,⟨by show(0:Int)<=a.fl;omega,by show a.fl<=7;omega⟩,rfl⟩,?_⟩)|refine⟨_,⟨ar d a,rfl,⟨h1,by show(az a.rn.l).length<=_;omega,avT,aHq⟩,rfl⟩,?_⟩|refine de (λ_=>?_) (λ_=>?_)|fail))<;>try(conv=>whnf)
   all_goals
    have nK:K (.tup [.pv (sP (ar d a)),.pv (pI (aK d a))]):=by
     by_cases h0:aK d a=0
     ·have:=Gt h0;rw[h0];exact this
     ·exact xy h0 _ (.inr rfl)
   ·rename_i y z;have y:iW a (az a.rn.l)=0:=y;have z:a.fl%2=1:=z;rw[hO,if_neg ab,if_pos z]at nK;exact XU
   ·rename_i y z;have y:iW a (az a.rn.l)=0:=y;have z:¬a.fl%2=1:=z;rw[hO,if_neg ab,if_neg z,<-y]at nK;exact XU
   ·rename_i y;have y:¬iW a (az a.rn.l)=0:=y;rw[hO,if_pos y]at nK;exact XU
 ·have cb:aK d a=bQ [gm d,oT a]:=by
   rw[hf]at he ⊢;unfold aK;by_cases h:gm d=0
   ·rw[if_pos h]at he ⊢;rw[if_neg ab,if_pos he]
   ·rw[if_neg h]at he ⊢;rw[if_pos h]
  rw[cb]at xy;have xy:=xy he;clear cb Gt
  (repeat'((conv=>whnf);first|refine oQ ?_|(refine⟨_,⟨d,rfl,ab,rfl⟩,?_⟩)|(refine⟨_,⟨a,rfl,h3,rfl⟩,?_⟩)|refine au he ?_|(refine fe ?_;first|refine⟨_,⟨[_,_],rfl,rfl⟩,?_⟩|fail)))<;>try(conv=>whnf)
  exact⟨[.pv _,.pv (pI _)],⟨rfl,rfl,trivial⟩,trivial,xy _ (.inl rfl)⟩
def tQ(ps:List PV)(x:PV):Prop:=∃(d:Dk) (a:At),ps=[d.pv,a.pv]/\(fH d/\a.nm.length<=1000000)/\x=pI (aK d a)
def Q4:MT (ay [(127,xt)]) xD (ah tQ):=by
 rintro _ K ⟨_,⟨d,a,rfl,⟨h1,h2⟩,rfl⟩,hK⟩;refine⟨d,a,rfl,⟨h1,h2⟩,λh=>?_,λh v _=>?_⟩
 ·rw[h]at hK;exact aG
 ·exact aG
structure atF(d:Dk)(a:At):Prop where
 dk:gm d=0
 str:oT a=0
 nb:d.n<=512
 bm:nu d.mp d.n=0
 rn:dU a.rn.l=0
 fl:0<=a.fl/\a.fl<=2
 num:au9 a
 pl:MH d.a_ (az a.rn.l)
 len:(az a.rn.l).length<=128
 res:a.rs=true->a.rn.l=[]/\a.vl.length<=400
def aeg{a:At}{pl:List Int}:iW a pl=0↔lJ a pl:=by
 unfold iW;by_cases h:lJ a pl
 ·rw[if_pos h];simp[h]
 ·rw[if_neg h];simp[h]
def bc{d:Dk}{a:At}(h:aK d a=0):atF d a/\(a.rs=false->pG d (az a.rn.l)=0/\lJ a (az a.rn.l)/\(a.fl%2=1->qw d.a_ a.vd (chunks (az a.rn.l))=0)):=by
 unfold aK at h;split at h
 ·rename_i g;exact sF
 rename_i hd;have hd:=zcY.1 hd;split at h
 ·rename_i g;exact sF
 rename_i hs;have hs:=zcY.1 hs;obtain⟨g1,g2,g3,g4,g5⟩:=lE hs;have ga:=Ms g1;obtain⟨q1,q2,q3⟩:=rX hd;obtain⟨gl,gb⟩:=ai5 hs;split at h
 ·rename_i hr;obtain⟨r1,⟨_,_,r2,r3⟩,r4⟩:=ga.rs hr;have r1:a.rn.l=[]:=by simpa using r1
  refine⟨⟨hd,hs,q2,q3,tH hs,g3,⟨⟨ab,ab⟩,ab,ab⟩,?_,?_,λ_=>⟨r1,r4⟩⟩,λCW=>by rw[hr]at CW;cases CW⟩
  ·rw[r1];intro n hn;simp[az]at hn
  ·rw[r1];simp[az]
 rename_i hr;have hr:a.rs=false:=by simpa using hr
 have LV:=(ga.ot hr).2.2.2.2.2.1;unfold pL at LV;have hvd:=(ga.ot hr).2.2.2.2.2.2;split at h
 ·rename_i g;exact sF
 rename_i hp;have hp:=zcY.1 hp;split at h
 ·rename_i g;exact sF
 rename_i yB;have yB:=aeg.1 (zcY.1 yB);have hl:(az a.rn.l).length<=128:=by
  have:=yB.2;split at this<;>omega
 refine⟨⟨hd,hs,q2,q3,tH hs,g3,⟨⟨ab,ab⟩,ab,ab⟩,abC (λx hx=>(gb x hx).1) hp,hl,λCW=>by rw[hr]at CW;cases CW⟩,λ_=>⟨hp,yB,λhc=>?_⟩⟩;rw[if_pos hc]at h;exact h
def q9{e:Int}{l:List Int}(h:e≠0):bQ (e::l)=e:=by simp[bQ,h]
def Jh{d:Dk}{a:At}(h:atF d a):(aV (ar d a)).length<=32768:=by
 unfold aV;have h1:=(lE h.str).2.2.2.2;split
 ·rename_i hr;have:=(h.res hr).2;show a.vl.length<=_;omega
 ·rw[OO];show a.sz.toNat<=_;omega
def J5{d:Dk}{a:At}(h:atF d a)(hb:fH d):tN [sP (ar d a)] (.str (aV (ar d a))):=
 ⟨ar d a,rfl,⟨hb.1,h.len,h.pl,h.num⟩,rfl⟩
noncomputable def auS(d:Dk)(a:At):List UInt8:=open Classical in if aK d a=0 then aV (ar d a)else[]
def fi(ps:List PV)(r:RV):Prop:=∃(d:Dk) (a:At),ps=[d.pv,a.pv]/\(fH d/\a.nm.length<=1000000)/\r=.tup [.pv (.str (auS d a)),.pv (pI (aK d a))]
def VN:MT (ay [(127,xt),(145,ah tN)]) BN (c8 true fi):=by
 rintro _ K ⟨_,⟨d,a,rfl,⟨h1,h2⟩,rfl⟩,hK⟩;unfold auS at hK;refine⟨d,a,rfl,⟨h1,h2⟩,λh=>?_,λh v _=>?_⟩
 ·have sM:=(bc h).1;rw[if_pos h,h]at hK
  (repeat'((conv=>whnf);first|refine⟨_,J5 sM h1,?_⟩|refine aw ab ?_|fail))<;>try(conv=>whnf)
  exact dA
 ·rw[if_neg h]at hK
  (repeat'((conv=>whnf);first|refine au h ?_|fail))<;>try(conv=>whnf)
  exact dA
def iU(n:Int):Prop:=0<=n/\n<=32768
instance (n:Int):Decidable (iU n):=by unfold iU;infer_instance
noncomputable def xN(d:Dk)(a:At)(at_ n:Int):Int:=open Classical in if aK d a≠0 then aK d a else if iU at_/\iU n then 0 else 2
noncomputable def H2(d:Dk)(a:At)(at_ n:Int):List UInt8:=open Classical in if xN d a at_ n=0 then((aV (ar d a)).drop at_.toNat).take n.toNat else[]
def oN(ps:List PV)(r:RV):Prop:=∃(d:Dk) (a:At) (at_ n:Int),ps=[d.pv,a.pv,pI at_,pI n]/\(fH d/\a.nm.length<=1000000)/\r=.tup [.pv (.str (H2 d a at_ n)),.pv (pI (xN d a at_ n))]
def afM:MT (ay [(127,xt),(156,bF wR),(113,ah dG),(111,ah gB),(145,ah tN)]) Iw (c8 true oN):=by
 rintro _ K ⟨_,⟨d,a,p,n,rfl,⟨h1,h2⟩,rfl⟩,hK⟩;refine⟨d,a,rfl,⟨h1,h2⟩,λh=>?_,λh v _=>?_⟩
 ·have sM:=(bc h).1;have mE:=Jh sM;have Gt:∀(o:Bool),(o=true↔iU p/\iU n)->K (.tup [.pv (.str (if o=true then((aV (ar d a)).drop p.toNat).take n.toNat else[])),.pv (pI (if o=true then 0 else 2))]):=λo ho=>by
   have he:xN d a p n=if o=true then 0 else 2:=by
    unfold xN;rw[if_neg (λe=>e h)];cases o with
    |true=>rw[if_pos (ho.1 rfl)];rfl
    |false=>rw[if_neg (by rw[<-ho];decide)];rfl
   have hn:H2 d a p n=if o=true then((aV (ar d a)).drop p.toNat).take n.toNat else[]:=by
    unfold H2;rw[he];cases o with
    |true=>rw[if_pos (by rfl)];rfl
    |false=>rw[if_neg ao];rfl
   rw[he,hn]at hK;exact hK
  unfold iU at Gt;clear hK;have cP:=J5 sM h1;generalize aV (ar d a)=C at*;have HR:iU p->iU n->cut (min p (C.length:Int)).toNat (min (C.length:Int) (min p (C.length:Int)+n)).toNat C=(C.drop p.toNat).take n.toNat:=λhp hn=>by
   unfold iU at hp hn;unfold cut;rw[zdl];by_cases hc:p.toNat<=C.length
   ·rw[show(min p (C.length:Int)).toNat=p.toNat by omega];by_cases h2:p.toNat+n.toNat<=C.length
    ·congr 1;omega
    ·rw[za1 ef,za1 ef]
   ·rw[zcc ab,zcc ab];simp
  (repeat'((conv=>whnf);first|refine⟨_,cP,?_⟩|(refine fe ?_;first|refine bj ab ?_|refine au ao ?_|refine aw ao ?_|refine de (λ_=>?_) (λ_=>?_)|refine I8 ?_|refine bT ?_|refine⟨_,⟨_,rfl,rfl⟩,?_⟩|refine⟨_,⟨_,_,rfl,rfl⟩,?_⟩|refine wz ?_|refine⟨_,⟨[_,_],rfl,rfl⟩,?_⟩|fail)))<;>try(conv=>whnf)
  ·rename_i x y;rw[HR x y];exact⟨[.pv (.str _),.pv _],⟨rfl,rfl,trivial⟩,⟨trivial,trivial,trivial⟩,Gt true aH⟩
  ·rename_i x y;exact⟨[.pv (.str _),.pv _],⟨rfl,rfl,trivial⟩,⟨trivial,trivial,trivial⟩,Gt false aH⟩
  ·rename_i x;exact⟨[.pv (.str _),.pv _],⟨rfl,rfl,trivial⟩,⟨trivial,trivial,trivial⟩,Gt false aH⟩
 ·have he:xN d a p n=aK d a:=by unfold xN;rw[if_pos h]
  have hn:H2 d a p n=[]:=by unfold H2;rw[if_neg (by rw[he];exact h)]
  rw[he,hn]at hK
  (repeat'((conv=>whnf);first|refine au K1 ?_|(refine fe ?_;first|refine de (λ_=>?_) (λ_=>?_)|refine bT ?_|refine⟨_,⟨_,rfl,rfl⟩,?_⟩|refine⟨_,⟨_,_,rfl,rfl⟩,?_⟩|refine⟨_,⟨[_,_],rfl,rfl⟩,?_⟩|fail)))<;>try(conv=>whnf)
  all_goals
   rw[q9 h];exact dA
def zA:At:=⟨0,[],0,0,false,[],0,.nil,0,0,0⟩
def Hx(a:At)(c:List UInt8):At:=⟨a.ty,a.nm,a.id,a.fl,true,c,0,.nil,0,0,0⟩
def as8(a:At)(c:List UInt8):(Hx a c).pv.flat:=by
 intro x hx;simp only[zaw,zb9,or_false,Hx,Sl.pv]at hx;rcases hx with rfl|rfl|rfl|rfl|rfl|rfl|rfl|rfl|rfl|rfl|rfl<;>trivial
def Fj(ps:List PV)(x:PV):Prop:=∃(s:St) (c:List UInt8),ps=[sP s,.str c]/\x=(Hx s.a c).pv
def ae8:MT (ay []) vq (ah Fj):=by
 rintro _ K ⟨_,⟨s,c,rfl,rfl⟩,hK⟩
 (repeat'((conv=>whnf);first|refine oQ ?_|fail))<;>try(conv=>whnf)
 exact⟨.pv _,rfl,as8 _ _,hK⟩
def auR:∀(l:List cI) (k:Nat),fa (k+1) l=2*fa k l:=by
 intro l
 induction l with
 |nil=>intro k;rfl
 |cons t l ih=>
  intro k;simp only[fa,ih];rw[Nat.pow_succ];split<;>omega
def U0(n:Nat)(h:n<65536)(r:List UInt8):sb (JR n++r)=n:=by
 unfold JR sb;simp only[zbd,zc8,zbA,List.getElem?_cons_succ];rw[qd ab,qd ab];omega
def ap6{t:cI}{a:Nat}(h:vm t a)(hd:t.d≠0)(r:List UInt8):B_ (cV a) (sb (B7 t a++r))=t/\(B7 t a).length=2:=by
 have hc:=aoq h hd;have h':=h;unfold vm at h';rw[if_pos hd]at h';have hg:cV a=16-dh a:=by unfold cV;rw[if_pos ab]
 have hl:t.l.toNat=t.l.toNat-3+3:=ab;unfold B7;rw[if_pos hd];refine⟨?_,rfl⟩;rw[U0 _ hc.1,hg];have hp:=Nat.two_pow_pos (16-dh a);have e:(t.d.toNat-1)*2^(16-dh a)+t.l.toNat-3=(t.l.toNat-3)+2^(16-dh a)*(t.d.toNat-1):=by
  rw[Nat.mul_comm];omega
 rw[e];unfold B_;rw[Nat.add_mul_div_left _ _ hp,Nat.div_eq_of_lt hc.2.2,Nat.add_mul_mod_self_left,Nat.mod_eq_of_lt hc.2.2];obtain⟨d,l,b⟩:=t;simp only at*;congr 1
 ·omega
 ·omega
 ·omega
def at7{t:cI}{a:Nat}(h:vm t a)(hd:¬t.d≠0)(r:List UInt8):Wm (B7 t a++r)=t/\(B7 t a).length=1:=by
 unfold vm at h;rw[if_neg hd]at h;unfold B7;rw[if_neg hd];refine⟨?_,rfl⟩;unfold Wm;simp only[zbd,zc8,zbA];rw[qd ab];obtain⟨d,l,b⟩:=t;simp only at*;congr 1
 ·omega
 ·omega
 ·omega
def alE:∀(g:List cI) (k:Nat) (r:List UInt8) (a:Nat),g.length<=k->jL g a->
 qI cV k (fa 0 g) (fK g a++r) a=((qI cV (k-g.length) 0 r (jH g a)).1,g++(qI cV (k-g.length) 0 r (jH g a)).2):=by
 intro g
 induction g with
 |nil=>intro k r a _ _;simp[fa,fK,jH]
 |cons t g ih=>
  intro k r a hk di;obtain⟨h1,h2⟩:=di;simp only[zam]at hk;obtain⟨k,rfl⟩:∃j,k=j+1:=⟨k-1,ab⟩
  have hm:=ur h1;have hs:fa 0 (t::g)=(if t.d≠0 then 1 else 0)+2*fa 0 g:=by
   simp only[fa];rw[auR]
  simp only[fK,jH,zaj,zam];rw[hs];by_cases hd:t.d≠0
  ·rw[if_pos hd];obtain⟨e1,e2⟩:=ap6 h1 hd (fK g (a+t.made.toNat)++r);rw[Mg cV k (1+2*fa 0 g) a (by rw[zad,e2];omega) ab,e1];have ed:(B7 t a++(fK g (a+t.made.toNat)++r)).drop 2=fK g (a+t.made.toNat)++r:=by rw[<-e2,zbk]
   rw[ed,show(1+2*fa 0 g)/2=fa 0 g by omega,ih k r _ ab h2,show k+1-(g.length+1)=k-g.length by omega];rfl
  ·rw[if_neg hd];obtain⟨e1,e2⟩:=at7 h1 hd (fK g (a+t.made.toNat)++r);have PA:t.made=1:=KM;rw[PT cV k (0+2*fa 0 g) a (by rw[zad,e2];omega) ab,e1];have ed:(B7 t a++(fK g (a+t.made.toNat)++r)).drop 1=fK g (a+t.made.toNat)++r:=by rw[<-e2,zbk]
   rw[ed,show(0+2*fa 0 g)/2=fa 0 g by omega];have h3:=ih k r (a+t.made.toNat) ab h2;rw[PA,show Int.toNat 1=1 from rfl]at h3 ⊢;rw[h3,show k+1-(g.length+1)=k-g.length by omega];rfl
def ami{l:List cI}{a:Nat}(h:l≠[]):1<=(fK l a).length:=by
 cases l with
 |nil=>exact kN
 |cons t l=>
  have:1<=(B7 t a).length:=by unfold B7 JR;split<;>simp
  simp only[fK,zad];omega
def aoN:∀(n:Nat) (l:List cI) (f a:Nat),l.length<=n->jL l a->qI cV 0 f (gK n l a) a=(0,l):=by
 intro n
 induction n with
 |zero=>
  intro l f a h _;have:l=[]:=List.eq_nil_of_length_eq_zero ab;subst this;exact Ft _ _ _
 |succ n ih=>
  intro l f a h di;by_cases hl:l=[]
  ·subst hl;rw[gK,if_pos rfl];exact Ft _ _ _
  rw[gK,if_neg hl];have Gq:0<l.length:=zcb.2 hl;have cb:l.take 8≠[]:=by
   intro e;have:=congrArg List.length e;rw[zal]at this;rw[zaY]at this;omega
  have PH:=Ky (l.take 8) 0;have Ke:2^(l.take 8).length<=2^8:=zb8 ab eI;rw[Nat.zero_add]at PH;have WU:=di;rw[<-zaD 8 l,oY]at WU;have hb:=ami (a:=a) cb;rw[OJ cV f a (by rw[zam,zad];omega)];have e0:((lV (fa 0 (l.take 8))::(fK (l.take 8) a++gK n (l.drop 8) (jH (l.take 8) a)))[0]?.getD 0).toNat=fa 0 (l.take 8):=by
   simp only[zc8,zbA];exact qd ab
  rw[e0,List.drop_succ_cons,zdk,alE _ 8 _ a eI WU.1];have hlen:(l.take 8).length=min 8 l.length:=zal;by_cases h8:8<=l.length
  ·rw[show 8-(l.take 8).length=0 by omega,ih (l.drop 8) 0 _ ef WU.2];simp
  ·have hd:l.drop 8=[]:=zcc ab;have cq:gK n (l.drop 8) (jH (l.take 8) a)=[]:=by
    rw[hd];cases n with
    |zero=>rfl
    |succ n=>rw[gK,if_pos rfl]
   obtain⟨j,hj⟩:∃j,8-(l.take 8).length=j+1:=⟨7-(l.take 8).length,ab⟩
   rw[cq,hj,Bh,if_neg ab];simp[za1 (show l.length<=8 by omega)]
def ao4{l:List cI}(hl:l≠[])(di:jL l 0):IY cV (uK l)=(l,0):=by
 have h1:=aoN l.length l 0 0 (zai _) di;have h2:(nf l).2=0:=by
  unfold nf;rw[if_neg hl];exact(UT _ _ _).2 di
 rw[rW];unfold uK;rw[h1];simp[h2]
def apK(n:Nat)(pk:Bool)(h:1<=n/\n<=4096)(r:List UInt8):sb (B8 n pk++r)=n-1+12288+(if pk then 32768 else 0):=by
 unfold B8;rw[U0 _ Bt]
def as0(s:List UInt8):(al2 s).length=(s.length+255)/256*256:=by
 unfold al2;rw[zad,aW];omega
def axU(d:List UInt8)(a k:Nat):∀(m n b:Nat),n<=b->b<qS d a k n m->d[a+b]?=d[a+b-k]?:=by
 intro m
 induction m with
 |zero=>intro n b h1 h2;simp only[qS]at h2;omega
 |succ m ih=>
  intro n b h1 h2;unfold qS at h2;split at h2
  ·rename_i he;by_cases hb:b=n
   ·subst hb;exact he
   ·exact ih _ _ ab h2
  ·omega
def apV(D:List UInt8)(a k:Nat)(hk:1<=k)(hka:k<=a):∀n,n<=dY D a k->a+n<=D.length->ig n k (D.take a)=D.take (a+n):=by
 intro n
 induction n with
 |zero=>intro _ _;rfl
 |succ n ih=>
  intro h1 h2;have h3:=ih ab ab;have h4:=axU D a k (e_ D a) 0 n (Nat.zero_le _) (by unfold dY at h1;omega);rw[HI,h3];have hl:(D.take (a+n)).length=a+n:=eI;rw[hl,List.getElem?_take,if_pos ab,<-h4,<-zaJ,zcX,zah (show a+n<D.length by omega)];rfl
def A6(D:List UInt8):List cI->Nat->Prop
 |[],a=>a=D.length
 |t::l,a=>a<D.length/\((t.d≠0/\1<=t.d/\t.d.toNat<=a/\0<=t.l/\t.l.toNat<=dY D a t.d.toNat)\/(t.d=0/\t=Ws D a))/\A6 D l (a+t.made.toNat)
def aui(D:List UInt8):∀(l:List cI) (a:Nat),A6 D l a->Em l (D.take a)=D:=by
 intro l
 induction l with
 |nil=>intro a h;simp only[A6]at h;subst h;simp[Em]
 |cons t l ih=>
  intro a h;obtain⟨h1,h2,h3⟩:=h;simp only[Em];have:GP t (D.take a)=D.take (a+t.made.toNat):=by
   rcases h2 with⟨hd,h4,h5,h6,h7⟩|⟨PM,h2⟩
   ·have hd:=hd;have hm:t.made=t.l:=Sy;have hr:=S1 D a t.d.toNat;have CW:e_ D a<=D.length-a:=Nat.min_le_right _ _;unfold GP;rw[if_pos hd,hm];exact apV D a t.d.toNat ab h5 _ h7 ab
   ·have hd:¬t.d≠0:=λh=>h PM
    have hm:t.made=1:=KM;unfold GP;rw[if_neg hd,hm,h2];show D.take a++[lV ((Ws D a).b).toNat]=D.take (a+1);rw[zcX,zah h1];simp[Ws,lV,zah h1]
  rw[this];exact ih _ h3
def auI(d:List UInt8):∀(m a:Nat),a+m=d.length->A6 d (qB d (aY d) m a) a:=by
 intro m
 induction m using Nat.strongRecOn with
 |_ m ih=>
  intro a hm;cases m with
  |zero=>show a=d.length;omega
  |succ m=>
   have azI:=Ck d a ab;rw[C9 d m a hm];refine⟨ab,?_,ih _ ab _ ab⟩;unfold mz;split
   ·rename_i cb;have h1:=Q0 d a ab cb;have h2:=Y5 d a _ ab h1.2.1;left;simp only[abj];refine⟨ab,ab,ab,ab,?_⟩;rw[zaC,zaC];exact h2.2.2
   ·exact .inr ⟨rfl,rfl⟩
def axn(d:List UInt8):Ze (Eb d)=d:=by
 have:=aui d (Eb d) 0 (auI d _ 0 ab);simpa[Ze]using this
def aAv(n:Nat)(pk:Bool)(h:1<=n/\n<=4096)(r:List UInt8):dD (B8 n pk++r)=n-1+12288+(if pk then 32768 else 0):=apK n pk h r
def head_drop(n:Nat)(pk:Bool)(r:List UInt8):(B8 n pk++r).drop 2=r:=by
 rw[<-SX n pk,zbk]
def Dx{u:List UInt8}(hu:u.length=4096):b9 (j_ u)=(u,0)/\(j_ u).length<=4096/\(j_ u).length%256=0/\((j_ u).length=4096->j_ u=u):=by
 have hl:=af4 u ab;have di:=aas u ab;have cq:=anS _ hl;have hr:=ao4 hl di;have he:=axn u;unfold j_;split
 ·rename_i hz;refine⟨?_,aj,aj,aj⟩;unfold b9;have hzz:ai 4096=u:=by rw[<-hu];exact hz.symm
  rw[if_neg aj,if_pos (show([]:List UInt8).length=0 from rfl),hzz]
 ·split
  ·rename_i hz hb;generalize o_:uK (Eb u)=bd at*;have qG:=as0 (B8 bd.length true++bd);have hlen:(B8 bd.length true++bd).length=bd.length+2:=by rw[zad,SX];omega
   rw[hlen]at qG;have um:al2 (B8 bd.length true++bd)=B8 bd.length true++(bd++ai ((-((bd.length+2:Nat):Int))%256).toNat):=by
    unfold al2;rw[hlen,zaj]
   have hv:=aAv bd.length true ⟨cq,hb.1⟩ (bd++ai ((-((bd.length+2:Nat):Int))%256).toNat);rw[if_pos rfl,<-um]at hv;have hd:=head_drop bd.length true (bd++ai ((-((bd.length+2:Nat):Int))%256).toNat);rw[<-um]at hd;generalize al2 (B8 bd.length true++bd)=s at*;have hc:dD s%4096+1=bd.length:=ab;have ht:(s.drop 2).take bd.length=bd:=by rw[hd,zbj]
   have WE:s.drop (2+bd.length)=ai (s.length-(2+bd.length)):=by
    rw[<-zaQ,hd,zbk,show((-((bd.length+2:Nat):Int))%256).toNat=s.length-(2+bd.length) by omega]
   refine⟨?_,ab,ab,λh=>ab⟩;unfold b9;rw[if_neg ab,if_neg ab,if_neg ab,if_neg ab,if_neg ab,hc,if_neg ab,ht,hr];dsimp only;rw[if_neg (λh=>h rfl),he,if_neg ab,if_neg (by rintro(h|h);exact h WE;omega)]
  ·refine⟨?_,ab,ab,λ_=>rfl⟩;unfold b9;rw[if_neg ab,if_neg ab,if_pos hu]
def OS(s:St)(i:Nat):Prop:=∃a,s.pl[i]?=some a/\a≠ -1
def b8(s:St)(f t:Int)(i:Nat):Prop:=OS s i\/kG f t i\/kG 0 s.a.vl.length i
def Yk(s:St)(i:Nat):Prop:=OS s i\/kG 0 s.a.vl.length i
def yN(s:St)(f t:Int)(n:Nat)(i:Nat):Prop:=OS s i∧¬Cj f t i n
inductive aly(s:St):PV->(Nat->Prop)->Prop where
 |write (f t:Int):aly s (.clo 160 [.cptr (sP s),.cptr (rV f t)]) (b8 s f t)
 |size:aly s (.clo 164 [.cptr (sP s)]) (Yk s)
 |zero (f t:Int) (c:List UInt8):aly s (.clo 168 [.cptr (sP s),.cptr (rV f t),.cptr (.str c)]) (yN s f t c.length)
def ayd(ps:List PV)(p:Prop):Prop:=∃(s:St) (f t:Int) (i:Nat),ps=[pI i,.cptr (sP s),.cptr (rV f t)]/\(s.pl.length<=1000000/\i<=1000000)/\p=b8 s f t i
def arI:MT (ay [(161,bF adT),(162,bF Mb),(163,ah anj)]) zF (bF ayd):=by
 rintro _ K ⟨_,⟨s,f,t,i,rfl,⟨h1,h2⟩,rfl⟩,hK⟩;unfold b8 OS at hK
 (repeat'((conv=>whnf);first|refine⟨_,⟨s,i,rfl,h1,rfl⟩,?_⟩|refine⟨_,⟨_,_,(i:Int),rfl,ab,rfl⟩,?_⟩|(refine fe ?_;first|refine de (λ_=>?_) (λ_=>?_)|refine⟨_,⟨_,rfl,rfl⟩,?_⟩|fail)))<;>try(conv=>whnf)
 all_goals exact aaj
def aw5(ps:List PV)(p:Prop):Prop:=∃(s:St) (i:Nat),ps=[pI i,.cptr (sP s)]/\(s.pl.length<=1000000/\i<=1000000)/\p=Yk s i
def asD:MT (ay [(161,bF adT),(162,bF Mb),(163,ah anj)]) zW (bF aw5):=by
 rintro _ K ⟨_,⟨s,i,rfl,⟨h1,h2⟩,rfl⟩,hK⟩;unfold Yk OS at hK
 (repeat'((conv=>whnf);first|refine⟨_,⟨s,i,rfl,h1,rfl⟩,?_⟩|refine⟨_,⟨_,_,(i:Int),rfl,ab,rfl⟩,?_⟩|(refine fe ?_;first|refine de (λ_=>?_) (λ_=>?_)|refine⟨_,⟨_,rfl,rfl⟩,?_⟩|fail)))<;>try(conv=>whnf)
 all_goals exact aaj
def axY(ps:List PV)(p:Prop):Prop:=∃(s:St) (f t:Int) (c:List UInt8) (i:Nat),ps=[pI i,.cptr (sP s),.cptr (rV f t),.cptr (.str c)]/\(s.pl.length<=1000000/\i<=1000000)/\p=yN s f t c.length i
def arR:MT (ay [(161,bF adT),(169,bF aaO)]) BI (bF axY):=by
 rintro _ K ⟨_,⟨s,f,t,c,i,rfl,⟨h1,h2⟩,rfl⟩,hK⟩;unfold yN OS at hK
 (repeat'((conv=>whnf);first|refine⟨_,⟨s,i,rfl,h1,rfl⟩,?_⟩|refine⟨_,⟨_,_,(i:Int),_,rfl,ab,rfl⟩,?_⟩|refine aN ?_|refine bP ?_|refine de (λ_=>?_) (λ_=>?_)|fail))<;>try(conv=>whnf)
 all_goals exact aaj
def HU(u:List UInt8):List (List UInt8):=(List.range 16).map λi=>((j_ u).drop (i*256)).take 256
def wa(C:List UInt8)(k:Nat):List UInt8:=mF ((C.drop (4096*k)).take 4096) 4096
def qy(C:List UInt8)(n:Nat):List (List UInt8):=(List.range n).flatMap λk=>HU (wa C k)
noncomputable def dv(sp:Prop)(dt:Nat->Prop)(C:List UInt8)(i:Nat):List UInt8:=open Classical in if sp∧¬dt i then[]else mF ((C.drop (256*i)).take 256) 256
noncomputable def aQ(s:St)(C:List UInt8)(dt:Nat->Prop):List (List UInt8):=
 if s.a.fl%2=1 then qy C ((C.length+4095)/4096)else(List.range ((C.length+255)/256)).map (dv (s.a.fl/2%2=1) dt C)
abbrev yJ(C:List UInt8)(v:Int)(c:PV):PV:=.agg [.str C,pI v,c]
def strs(l:List (List UInt8)):List PV:=l.map PV.str
def afT{α:Type}(l:List α)(a b:Nat):cut a (min l.length (a+b)) l=(l.drop a).take b:=by
 unfold cut;rw[zdl];by_cases h:a+b<=l.length
 ·congr 1;omega
 ·rw[za1 ef,za1 ef]
def BB{l:List UInt8}{n:Nat}(h:l.length<=n):(mF l n).length=n:=by
 unfold mF;rw[zad,aW];omega
def AF(C:List UInt8)(k:Nat):(wa C k).length=4096:=BB eI
def ad_(u:List UInt8):(HU u).length=16:=by simp[HU]
def aaN(C:List UInt8)(n:Nat):qy C (n+1)=qy C n++HU (wa C n):=by
 unfold qy;rw[zdi,List.flatMap_append];simp
def afF(C:List UInt8)(n:Nat):(qy C n).length=16*n:=by
 induction n with
 |zero=>simp[qy]
 |succ n ih=>rw[aaN,zad,ih,ad_];omega
def ai9{u:List UInt8}(h:u.length=4096):(j_ u).length<=4096:=(Dx h).2.1
def adQ(l:List (List UInt8)):∀c∈strs l,c.flat:=by
 intro c hc;unfold strs at hc;rw[zaX]at hc;obtain⟨x,_,rfl⟩:=hc;trivial
def RC(ps:List PV)(r:RV):Prop:=∃(s:St) (C:List UInt8) (v:Int) (c:PV) (dt:Nat->Prop),ps=[sP s,yJ C v c]/\(C.length<=40000/\aly s c dt/\(0<=s.a.fl/\s.a.fl<=7)/\s.pl.length<=1000)/\r=.fresh 9 1 (strs (aQ s C dt))
def asT{s:St}{c:PV}{dt:Nat->Prop}(h:aly s c dt){k:Nat}(hk:s.pl.length<=1000/\k<=1000){σ:aF}{K:AV->aF->Prop}(hK:∀r:Bool,(r=true↔dt k)->K (.pv (.bool r)) σ):
 abB (ay [(179,bF oA),(157,ah Bf),(251,Hp),(218,ah K4),(220,bF K7),(160,bF ayd),(164,bF aw5),(168,bF axY)]) (.pv c) [.pv (pI k)] σ K:=by
 cases h with
 |write f t=>exact⟨_,⟨s,f,t,k,rfl,ab,rfl⟩,hK⟩
 |size=>exact⟨_,⟨s,k,rfl,ab,rfl⟩,hK⟩
 |zero f t c=>exact⟨_,⟨s,f,t,c,k,rfl,ab,rfl⟩,hK⟩
set_option maxHeartbeats 1000000 in
def agp:MT (ay [(179,bF oA),(157,ah Bf),(251,Hp),(218,ah K4),(220,bF K7),(160,bF ayd),(164,bF aw5),(168,bF axY)]) uw (c8 true RC):=by
 rintro _ K ⟨_,⟨s,C,v,c,dt,rfl,⟨h1,h2,h3,h4⟩,rfl⟩,hK⟩;unfold aQ at hK;by_cases hc:s.a.fl%2=1
 ·rw[if_pos hc]at hK
  (repeat'((conv=>whnf);first|(refine⟨_,⟨s,rfl,h3,rfl⟩,?_⟩)|refine au ab ?_|fail))<;>try(conv=>whnf)
  refine⟨λm env σ=>∃k:Nat,(k+m=(C.length+4095)/4096)/\σ=[.box 203 [.pv (.str C),.pv (pI v),.pv c],.row 9 1 true (strs (qy C k))]/\env=[(3,.ref 0 0 0),(5,.own 1),eN 6 ((4096*k:Nat):Int)],(C.length+4095)/4096,⟨0,ab,rfl,rfl⟩,?_⟩;rintro m env σ ⟨k,hk,rfl,rfl⟩;have qG:=afF C k;by_cases aU:k<(C.length+4095)/4096
  ·have Vr:=AF C k;have hpk:=ai9 Vr;have hT:=aaN C k;have HR:cut (((4096*k:Nat):Int)).toNat (min (C.length:Int) (((4096*k:Nat):Int)+4096)).toNat C=(C.drop (4096*k)).take 4096:=by
    rw[<-afT];congr 1;omega
   have avU:(C.drop (4096*k)).take 4096++ai ((4096:Int)-(((C.drop (4096*k)).take 4096).length:Nat)).toNat=wa C k:=by
    unfold wa mF;congr 2;omega
   have mE:((C.drop (4096*k)).take 4096).length<=4096:=eI;generalize hA:qy C k=A at*;have qH:(strs A).length=A.length:=zav _
   (repeat'((conv=>whnf);first|rw[HR]|(refine⟨_,⟨_,_,rfl,ab,rfl⟩,?_⟩)|rw[avU]|refine⟨wa C k,rfl,ab,λh=>absurd Vr h,λ_=>?_⟩|refine bj ab ?_|refine au ab ?_|refine I8 ?_|refine wz ?_|fail))<;>try(conv=>whnf)
   generalize hU:wa C k=U at*;refine⟨λm' env σ=>∃i:Nat,(i+m'=16)/\σ=[.box 203 [.pv (.str C),.pv (pI v),.pv c],.row 9 1 true (strs (A++(HU U).take i))]/\env=[(3,.ref 0 0 0),(5,.own 1),eN 6 ((4096*k:Nat):Int),(8,.pv (.str (j_ U))),eN 39 i],16,⟨0,ab,aj,rfl⟩,?_⟩;rintro m' env σ ⟨i,hi,rfl,rfl⟩;have aHr:=ad_ U;by_cases aym:i<16
   ·have zH:(HU U).take (i+1)=(HU U).take i++[((j_ U).drop (i*256)).take 256]:=by
     rw[zcX];congr 1;unfold HU;rw[za9,zbD aym];rfl
    have aoI:cut (min ((j_ U).length:Int) ((i:Int)*256)).toNat (min ((j_ U).length:Int) (min ((j_ U).length:Int) ((i:Int)*256)+256)).toNat (j_ U)=((j_ U).drop (i*256)).take 256:=by
     by_cases hq:i*256<=(j_ U).length
     ·rw[<-afT];congr 1<;>omega
     ·have Nv:(j_ U).drop (i*256)=[]:=zcc ab;rw[Nv];unfold cut;rw[zcc eI];simp
    have bJ:(strs (A++(HU U).take i)).length=A.length+i:=by
     simp[strs,zal,aHr];omega
    generalize hB:A++(HU U).take i=B at*;generalize j_ U=Pk at*
    (repeat'((conv=>whnf);first|rw[aoI]|refine bj ab ?_|refine au ab ?_|refine I8 ?_|refine bT ?_|refine wz ?_|refine zcB cu ?_|fail))<;>try(conv=>whnf)
    exact⟨m'-1,ab,i+1,ab,by rw[zH,<-zaj,hB];simp[strs],rfl⟩
   ·(repeat'((conv=>whnf);first|refine bj ab ?_|refine aw ab ?_|fail))<;>try(conv=>whnf)
    refine⟨m-1,ab,k+1,ab,?_,?_⟩
    ·rw[hT,za1 ab]
    ·have:((4096*k:Nat):Int)+4096=((4096*(k+1):Nat):Int):=by omega
     show[(3,AV.ref 0 0 0),(5,AV.own 1),(6,AV.pv (pI (((4096*k:Nat):Int)+4096)))]=_;rw[this]
  ·(repeat'((conv=>whnf);first|refine aw ab ?_|fail))<;>try(conv=>whnf)
   rw[show k=(C.length+4095)/4096 by omega];exact⟨.fresh _ _ _,⟨rfl,rfl,rfl,rfl⟩,adQ _,hK⟩
 ·rw[if_neg hc]at hK
  (repeat'((conv=>whnf);first|(refine⟨_,⟨s,rfl,h3,rfl⟩,?_⟩)|(refine fe ?_;first|refine aw ab ?_|refine⟨_,⟨_,_,rfl,cZ,rfl⟩,?_⟩|fail)))<;>try(conv=>whnf)
  rw[show(C.length:Int)+256-1=((C.length+255:Nat):Int) by omega];refine⟨λm env σ=>∃k:Nat,(k+m=(C.length+255)/256)/\σ=[.box 203 [.pv (.str C),.pv (pI v),.pv c],.row 9 1 true (strs ((List.range k).map (dv (s.a.fl/2%2=1) dt C)))]/\env=[(0,.pv (sP s)),(3,.ref 0 0 0),(5,.own 1),eN 63 (((C.length+255:Nat):Int)/256),eN 64 k],(C.length+255)/256,⟨0,ab,rfl,rfl⟩,?_⟩;rintro m env σ ⟨k,hk,rfl,rfl⟩;by_cases aU:k<(C.length+255)/256
  ·have hT:(List.range (k+1)).map (dv (s.a.fl/2%2=1) dt C)=(List.range k).map (dv (s.a.fl/2%2=1) dt C)++[dv (s.a.fl/2%2=1) dt C k]:=by
    rw[zdi,zbu];rfl
   have HR:cut ((k:Int)*256).toNat (min (C.length:Int) (((k:Int)+1)*256)).toNat C=(C.drop (256*k)).take 256:=by
    rw[<-afT];congr 1<;>omega
   have mE:((C.drop (256*k)).take 256).length<=256:=eI;have avU:(C.drop (256*k)).take 256++ai ((256:Int)-(((C.drop (256*k)).take 256).length:Nat)).toNat=mF ((C.drop (256*k)).take 256) 256:=by
    unfold mF;congr 2;omega
   have bB:((List.range k).map (dv (s.a.fl/2%2=1) dt C)).length=k:=aj;have hn:(s.a.fl/2%2=1∧¬dt k)->dv (s.a.fl/2%2=1) dt C k=[]:=λh=>by unfold dv;rw[if_pos h]
   have hp:¬(s.a.fl/2%2=1∧¬dt k)->dv (s.a.fl/2%2=1) dt C k=mF ((C.drop (256*k)).take 256) 256:=λh=>by unfold dv;rw[if_neg h]
   generalize hG:(List.range k).map (dv (s.a.fl/2%2=1) dt C)=G at*;have qH:(strs G).length=G.length:=zav _;refine au ab ?_;refine⟨_,⟨s,rfl,h3,rfl⟩,?_⟩;refine de (λhs=>?_) (λhs=>?_)
   ·refine asT (σ:=[.box 203 [.pv (.str C),.pv (pI v),.pv c],.row 9 1 true (strs G)]) h2 ab (λr hr=>?_);cases r with
    |true=>
     have rF:=hp (λh=>h.2 (hr.1 rfl));rw[rF]at hT;clear hn hp rF hK h2;generalize (C.drop (256*k)).take 256=P at*;refine aN ?_
     (repeat'((conv=>whnf);first|rw[HR]|(refine⟨_,⟨_,_,rfl,ab,rfl⟩,?_⟩)|rw[avU]|refine bj ab ?_|refine I8 ?_|refine bT ?_|refine wz ?_|refine zcB cu ?_|fail))<;>try(conv=>whnf)
     exact aaS
    |false=>
     have hnv:=hn ⟨hs,λh=>by simpa using hr.2 h⟩;rw[hnv]at hT;clear hn hp hnv hK h2 HR avU mE;refine bP ?_
     (repeat'((conv=>whnf);first|refine bj ab ?_|refine bT ?_|refine zcB cu ?_|fail))<;>try(conv=>whnf)
     exact aaS
   ·have rF:=hp (λh=>hs h.1);rw[rF]at hT;clear hn hp rF hK h2;generalize (C.drop (256*k)).take 256=P at*
    (repeat'((conv=>whnf);first|rw[HR]|(refine⟨_,⟨_,_,rfl,ab,rfl⟩,?_⟩)|rw[avU]|refine bj ab ?_|refine I8 ?_|refine bT ?_|refine wz ?_|refine zcB cu ?_|fail))<;>try(conv=>whnf)
    exact aaS
  ·(repeat'((conv=>whnf);first|refine aw ab ?_|fail))<;>try(conv=>whnf)
   rw[show k=(C.length+255)/256 by omega];exact⟨.fresh _ _ _,⟨rfl,rfl,rfl,rfl⟩,adQ _,hK⟩
def aeF:∀n:Nat,n<256->n=n/2^0%2*1+n/2^1%2*2+n/2^2%2*4+n/2^3%2*8+n/2^4%2*16+n/2^5%2*32+n/2^6%2*64+n/2^7%2*128:=by
 intro n hn;simp only[Nat.reducePow];omega
def aqe{a b:List UInt8}(hl:a.length=b.length)(h:∀i,i<8*a.length->bH a i=bH b i):a=b:=by
 apply zba;intro i;by_cases hi:i<a.length
 case neg=>rw[zaK ab,zaK ab]
 rw[zah hi,zah ab];congr 1;apply zdy.1;have hk:∀k,k<8->a[i].toNat/2^k%2=b[i].toNat/2^k%2:=by
  intro k hk;have:=h (8*i+k) ab;unfold bH at this;rw[show(8*i+k)/8=i by omega,show(8*i+k)%8=k by omega,zah hi,zah ab]at this;simpa using this
 rw[aeF _ a[i].toNat_lt,aeF _ b[i].toNat_lt,hk 0 ab,hk 1 ab,hk 2 ab,hk 3 ab,hk 4 ab,hk 5 ab,hk 6 ab,hk 7 ab]
def Zf(f:Nat->Nat)(n:Nat):(VA f n).length=qO n:=by simp[VA,Rw,ai]
def KI{f:Nat->Nat}(hf:∀i,f i<=1)(n j:Nat):bH (VA f n) j=if j<n then f j else 0:=by
 unfold VA;rw[Z_ hf n (by simp[ai,qO];omega),Ou]
def aFT{B:List UInt8}{f:Nat->Nat}{n:Nat}(hf:∀i,f i<=1)(hl:B.length=qO n)(h:∀j,j<n->bH B j=f j)(h0:∀j,n<=j->j<8*B.length->bH B j=0):B=VA f n:=by
 apply aqe (by rw[hl,Zf]);intro j hj;rw[KI hf];split
 ·exact h j aA
 ·exact h0 j ab hj
def ak_{f g:Nat->Nat}{n:Nat}(hf:∀i,f i<=1)(hg:∀i,g i<=1)(h:∀i,i<n->f i=g i):VA f n=VA g n:=by
 apply aFT hg (Zf f n)
 ·intro j hj;rw[KI hf,if_pos hj];exact h j hj
 ·intro j hj _;rw[KI hf,if_neg ab]
def fR(r:Rn)(i:Nat):Bool:=decide (r.s<=i/\(i:Int)<r.s+r.n)
def aJI(t:Nat->Bool)(s:Nat):Nat->Bool
 |0=>false
 |k+1=>aJI t s k||t (s+k)
def Ru{t:Nat->Bool}{s:Nat}:∀{k:Nat},aJI t s k=true↔∃j,s<=j/\j<s+k/\t j=true:=by
 intro k
 induction k with
 |zero=>simp[aJI];omega
 |succ k ih=>
  simp only[aJI,zbE,ih];constructor
  ·rintro(⟨j,h1,h2,h3⟩|h)
   ·exact⟨j,h1,ab,h3⟩
   ·exact⟨s+k,ab,ab,h⟩
  ·rintro⟨j,h1,h2,h3⟩;by_cases h:j=s+k
   ·subst h;exact .inr h3
   ·exact .inl ⟨j,h1,ab,h3⟩
def orR(t:Nat->Bool)(r:Rn):Nat->Bool:=λi=>t i||fR r i
def Kd(n:Int):(Nat->Bool)->List Rn->Int
 |_,[]=>0
 |t,r::l=>if azh n r then(if aJI t r.s.toNat r.n.toNat then 23 else Kd n (orR t r) l)else 2
def NX(l:List Rn)(n:Int):Int:=if 64<l.length then 8 else Kd n (λ_=>false) l
def aiC(l:List Rn)(i:Nat):Bool:=l.any λr=>fR r i
def Ob(f:Nat->Nat)(n:Int)(l:List Rn)(v:Nat):Int:=
 if NX l n≠0 then NX l n else if l.any (λr=>aJI (λi=>decide (f i=v)) r.s.toNat r.n.toNat)then 18 else 0
def aq0{n:Int}:∀{l:List Rn} {t:Nat->Bool},Kd n t l=0->(∀r∈l,azh n r)/\(∀r∈l,∀i,fR r i=true->t i=false)/\l.Pairwise (λa b=>∀i,¬(fR a i=true/\fR b i=true)):=by
 intro l
 induction l with
 |nil=>intro t _;exact⟨λ_ h=>bV,λ_ h=>bV,.nil⟩
 |cons r l ih=>
  intro t h;simp only[Kd]at h;by_cases hr:azh n r
  case neg=>rw[if_neg hr]at h;cases h
  rw[if_pos hr]at h;by_cases hh:aJI t r.s.toNat r.n.toNat=true
  case pos=>rw[if_pos hh]at h;cases h
  rw[if_neg hh]at h;obtain⟨h1,h2,h3⟩:=ih h;refine⟨λx hx=>?_,λx hx i hi=>?_,.cons (λb hb i hi=>?_) h3⟩
  ·rcases zaw.1 hx with rfl|hx
   ·exact hr
   ·exact h1 x hx
  ·rcases zaw.1 hx with rfl|hx
   ·cases ht:t i with
    |false=>rfl
    |true=>
     refine absurd (Ru.2 ⟨i,?_,?_,ht⟩) hh<;>(simp[fR,azh]at hi hr;omega)
   ·have:=h2 x hx i hi;simp[orR]at this;exact this.1
  ·have:=h2 b hb i hi.2;simp[orR,hi.1]at this
def agU{n:Int}{l:List Rn}(h:NX l n=0):l.length<=64/\(∀r∈l,azh n r)/\l.Pairwise (λa b=>∀i,¬(fR a i=true/\fR b i=true)):=by
 unfold NX at h;split at h
 ·cases h
 ·obtain⟨h1,_,h3⟩:=aq0 h;exact⟨ab,h1,h3⟩
def gS(r:Rn)(l:List Rn):bI (r::l)=r.n+bI l:=by simp[bI]
def apl(p:Nat->Bool):Nat->Nat
 |0=>0
 |n+1=>apl p n+(p n).toNat
def ap9(p:Nat->Bool):∀n,bI (bh p n)=apl p n:=by
 intro n
 induction n with
 |zero=>rfl
 |succ n ih=>
  unfold bh apl;cases hp:p n with
  |false=>simp[ih]
  |true=>
   simp only[if_true];rcases So (bh p n)with e|⟨a,r,e⟩
   ·rw[e]at ih ⊢;rw[G9,gS];simp at ih ⊢;omega
   ·rw[e]at ih ⊢;rw[xz];rw[J8,gS]at ih;split
    ·rw[J8,gS];simp at ih ⊢;omega
    ·rw[J8,J8,gS,gS];simp at ih ⊢;omega
def apr(s:List UInt8):∀n,(apl (λi=>decide ((bH s i:Int)=0)) n:Int)=n-oF s n:=by
 intro n
 induction n with
 |zero=>rfl
 |succ n ih=>
  have hle:=mK s n;by_cases h:bH s n=0
  ·have hf:decide ((bH s n:Int)=0)=true:=by rw[h];rfl
   simp only[apl,oF,hf,zdz,zdx];omega
  ·have h1:bH s n=1:=by omega
   have hf:decide ((bH s n:Int)=0)=false:=by rw[h1];rfl
   simp only[apl,oF,hf,zdz,zdx];omega
def ajV(p:Nat->Bool):∀n,(bh p n).Pairwise (λa b=>a.s+a.n<b.s)/\((∃a r,bh p n=a++[r]/\r.s+r.n=(n:Int))∨∀r∈bh p n,r.s+r.n<n):=by
 intro n
 induction n with
 |zero=>exact⟨.nil,.inr λ_ h=>bV⟩
 |succ n ih=>
  obtain⟨h1,h2⟩:=ih;have h0:=(kI p n).1;unfold bh;cases hp:p n with
  |false=>
   simp only[zcn,if_false];exact⟨h1,.inr λr hr=>by have:=h0 r hr;omega⟩
  |true=>
   simp only[if_true];rcases So (bh p n)with e|⟨a,r,e⟩
   ·rw[e,G9];exact⟨zc9 _ _,.inl ⟨[],_,rfl,aj⟩⟩
   ·rw[e]at h1 h2 h0;rw[e,xz];rw[zc4]at h1;obtain⟨h3,h4,h5⟩:=h1;split
    ·rename_i he;refine⟨?_,.inl ⟨a,_,rfl,aH⟩⟩;rw[zc4];exact⟨h3,zc9 _ _,λx hx y hy=>by simp at hy;subst hy;exact h5 x hx r aj⟩
    ·rename_i he;have nK:∀x∈a++[r],x.s+x.n<n:=by
      rcases h2 with⟨a',r',e',h'⟩|h2
      ·have:=List.append_inj_right' e' rfl;simp at this;subst this;exact absurd h' he
      ·exact h2
     refine⟨?_,.inl ⟨a++[r],_,rfl,aj⟩⟩;rw[zc4];refine⟨?_,zc9 _ _,λx hx y hy=>by simp at hy;subst hy;exact nK x hx⟩;rw[zc4];exact⟨h3,h4,h5⟩
def aew(s:List UInt8)(n:Int)(l:List Rn)(v:Nat):Int:=if nu s n≠0 then nu s n else Ob (bH s) n l v
def asJ{near c:Int}{r:Rn}(hc:c<=r.n):r.s<=wv near c r/\wv near c r+c<=r.s+r.n:=by
 unfold wv;omega
def ah5:∀{l:List Rn},(∀r∈l,0<=r.n)->0<=bI l:=by
 intro l
 induction l with
 |nil=>intro _;exact zdv _
 |cons y l ih=>intro hl;rw[gS];have:=hl y aj;have:=ih (λx hx=>hl x iP);omega
def ale:∀{l:List Rn} {c:Int},0<=c->c<=bI l->(∀r∈l,0<=r.n)->qa c l=0:=by
 intro l
 induction l with
 |nil=>intro c h0 h _;simp[bI]at h;unfold qa;omega
 |cons r l ih=>
  intro c h0 h hr;have h2:=ah5 (l:=l) λx hx=>hr x iP
  rw[gS]at h;unfold qa;split
  ·rfl
  ·exact ih ab ab λx hx=>hr x iP
def ax3{s:List UInt8}{n:Int}(h:0<=n):bI (nG s n)=n-oF s n.toNat:=by
 unfold nG;have:=(ap9 (jf s 0) n.toNat).trans (apr s n.toNat);rw[this];omega
def apD(p:Nat->Bool):∀(n i:Nat),aiC (bh p n) i=(decide (i<n)&&p i):=by
 intro n
 induction n with
 |zero=>intro i;simp[bh,aiC]
 |succ n ih=>
  intro i;have h0:=(kI p n).1;unfold bh;cases hp:p n with
  |false=>
   simp only[zcn,if_false,ih];by_cases h:i=n
   ·subst h;simp[hp]
   ·have:decide (i<n)=decide (i<n+1):=decide_eq_decide.2 ab;rw[this]
  |true=>
   simp only[if_true];have main:(aiC (bh p n) i||decide (i=n))=(decide (i<n+1)&&p i):=by
    rw[ih];by_cases h:i=n
    ·subst h;simp[hp]
    ·have:decide (i<n)=decide (i<n+1):=decide_eq_decide.2 ab;rw[this];simp[h]
   rw[<-main];rcases So (bh p n)with e|⟨a,r,e⟩
   ·rw[e,G9];simp only[aiC,fR,zdn,zdr,zde,Bool.false_or];exact decide_eq_decide.2 ab
   ·have hr:=h0 r (by rw[e];simp);rw[e,xz];split
    ·rename_i he;simp only[aiC,zdA,zdn,zdr,zde,Bool.or_assoc];congr 1;simp only[fR];rw[<-Bool.decide_or];exact decide_eq_decide.2 (by constructor<;>intro h<;>omega)
    ·simp only[aiC,zdA,zdn,zdr,zde];congr 1;simp only[fR];exact decide_eq_decide.2 ab
def asp{f:Nat->Nat}(hf:∀i,f i<=1){k:Nat}(h:k<=4096):nu (VA f k) k=0:=by
 have hz:fx (k:Int)=0:=by unfold fx;rw[if_pos ab]
 unfold nu;rw[if_neg (λh=>h hz),if_neg,if_pos]
 ·intro i hi hki;rw[KI hf,if_neg ab]
 ·rw[Zf,abD ab,zaC];exact λh=>h rfl
def aAF(L:List Rn)(r:Rn):Prop:=∃e∈L,e.s<=r.s/\r.s+r.n<=e.s+e.n/\1<=r.n
def ahA:∀{S:List Rn} {c:Int} {r:Rn},0<=c->(∀e∈S,1<=e.n)->r∈kA c S→∃e∈S,r.s=e.s/\1<=r.n/\r.n<=e.n:=by
 intro S
 induction S with
 |nil=>intro c r _ _ h;simp[kA]at h
 |cons e S ih=>
  intro c r hc hS h;unfold kA at h;by_cases h0:c=0
  ·rw[if_pos h0]at h;cases h
  ·rw[if_neg h0]at h;have he:=hS e aj;rcases zaw.1 h with rfl|h
   ·exact⟨e,aj,rfl,by show 1<=min e.n c;omega,by show min e.n c<=e.n;omega⟩
   ·obtain⟨x,hx,h1⟩:=ih ab (λy hy=>hS y pT) h;exact⟨x,iP,h1⟩
def amp:∀{S:List Rn} {c:Int},0<=c->(∀e∈S,1<=e.n)->S.Pairwise (λa b=>∀i,¬(fR a i=true/\fR b i=true))->(kA c S).Pairwise (λa b=>∀i,¬(fR a i=true/\fR b i=true)):=by
 intro S
 induction S with
 |nil=>intro c _ _ _;simp[kA]
 |cons e S ih=>
  intro c hc hS hp;unfold kA;by_cases h0:c=0
  ·rw[if_pos h0];exact .nil
  ·rw[if_neg h0];obtain⟨XN,eQ⟩:=zds.1 hp;refine zds.2 ⟨λr hr i hi=>?_,ih ab (λy hy=>hS y pT) eQ⟩;obtain⟨x,hx,h1,h2,h3⟩:=ahA ab (λy hy=>hS y pT) hr;simp only[fR,decide_eq_true_eq]at hi;refine XN x hx i ?_;simp only[fR,decide_eq_true_eq];omega
def atJ:∀{S:List Rn} {c:Int},bI (kA c S)=c-qa c S:=by
 intro S
 induction S with
 |nil=>intro c;simp[kA,qa,bI]
 |cons e S ih=>
  intro c;unfold kA qa;by_cases h0:c=0
  ·rw[if_pos h0,if_pos h0,h0];rfl
  ·rw[if_neg h0,if_neg h0,gS,ih];show min e.n c+_=_;omega
def axy{near c:Int}:∀(l:List Rn) (o:Option Int) (x:Int),l.foldl (x9 near c) o=some x->o=some x∨∃r∈l,x=wv near c r:=by
 intro l
 induction l with
 |nil=>intro o x h;exact .inl h
 |cons r l ih=>
  intro o x h;rcases ih _ x h with h|⟨y,hy,e⟩
  ·unfold x9 at h;split at h
   ·injection h with h;exact .inr ⟨r,aj,h.symm⟩
   ·split at h
    ·injection h with h;exact .inr ⟨r,aj,h.symm⟩
    ·exact .inl h
  ·exact .inr ⟨y,pT,e⟩
def aix:∀{S:List Rn} {c:Int},(kA c S).length<=S.length:=by
 intro S
 induction S with
 |nil=>intro c;simp[kA]
 |cons e S ih=>
  intro c;unfold kA;split
  ·simp
  ·have:=ih (c:=c-min e.n c);simp only[zam];omega
def aiz(l:List Rn):Prop:=l.Pairwise (λa b=>∀i,¬(fR a i=true/\fR b i=true))
def ajm{s:List UInt8}{n:Int}{r:Rn}(hn:0<=n)(h:aAF (nG s n) r):(0<=r.s/\1<=r.n/\r.s+r.n<=n)∧∀i,fR r i=true->bH s i=0:=by
 obtain⟨e,he,h1,h2,h3⟩:=h;have g:=(kI (jf s 0) n.toNat).1 e he;refine⟨ab,λi hi=>?_⟩;have g2:=apD (jf s 0) n.toNat i;have:aiC (nG s n) i=true:=by
  unfold aiC;refine List.any_eq_true.2 ⟨e,he,?_⟩;unfold fR at hi ⊢;simp only[decide_eq_true_eq]at hi ⊢;omega
 unfold nG at this;rw[this]at g2;simp only[Bool.true_eq,zaU,decide_eq_true_eq,jf]at g2;omega
def aqj(s:List UInt8)(n:Int):aiz (nG s n):=by
 refine(ajV (jf s 0) n.toNat).1.imp λh i hi=>?_
 simp only[fR,decide_eq_true_eq]at hi;omega
def alQ{l m:List Rn}(h:l.Perm m)(hl:aiz l):aiz m:=by
 refine(h.pairwise_iff λ{a b} rE i hi=>rE i ⟨hi.2,hi.1⟩).1 hl
structure BY(s:List UInt8)(n c:Int)(l:List Rn):Prop where
 rn:∀r∈l,(0<=r.s/\1<=r.n/\r.s+r.n<=n)∧∀i,fR r i=true->bH s i=0
 ap:aiz l
 sum:bI l=c
 len:l.length<=(nG s n).length
def auT{s:List UInt8}{n c near:Int}(hb:nu s n=0)(hc:1<=c/\c<=4096)(hn:0<=near/\near<=4095):IZ s n c near=0:=by
 unfold IZ ac0;rw[if_neg ab,if_pos ⟨hc,hn⟩]
def asy{s:List UInt8}{n c:Int}{r:Rn}(h:r∈rh c (nG s n)):r∈nG s n/\c<=r.n:=by
 obtain⟨h1,h2⟩:=zbn.1 h;refine⟨h1,?_⟩;simp only[small,Bool.not_eq_true',decide_eq_false_iff_not]at h2;omega
def asI{s:List UInt8}{n c near:Int}(hb:nu s n=0)(hc:1<=c/\c<=4096)(hn:0<=near/\near<=4095)(h0:Fy s n c near=0):BY s n c (Ju s n c near):=by
 have ha:=auT hb hc hn;have x3:=(iR hb).1;unfold Fy at h0;unfold Ju;rw[if_neg ab]at h0 ⊢;cases ho:Sw s n c near with
 |some x=>
  simp only;have hx:∃r∈rh c (nG s n),x=wv near c r:=by
   rcases axy (rh c (nG s n)) none x ho with h|h
   ·cases h
   ·exact h
  obtain⟨r,hr,rfl⟩:=hx;obtain⟨h1,h2⟩:=asy hr;have mE:=asJ (near:=near) h2;have cb:1<=(nG s n).length:=zcb.2 (List.ne_nil_of_mem h1);refine⟨λq hq=>?_,?_,?_,?_⟩
  ·rw[zc2]at hq;subst hq;exact ajm x3 ⟨r,h1,aH,aH,aH⟩
  ·unfold aiz;simp
  ·simp[bI]
  ·simpa using cb
 |none=>
  rw[ho]at h0;simp only at h0 ⊢;rw[if_pos h0];have hS:=YV near (nG s n);generalize UO near (nG s n)=S at*;have Gq:∀e∈S,1<=e.n:=λe he=>by
   have:=(kI (jf s 0) n.toNat).1 e (hS.1.mem_iff.1 he);omega
  have hz:qa c S=0:=by
   unfold I2 at h0;split at h0
   ·cases h0
   ·rename_i g;exact K6
  refine⟨λq hq=>?_,?_,?_,?_⟩
  ·obtain⟨e,he,h1,h2,h3⟩:=ahA ab Gq hq;exact ajm x3 ⟨e,hS.1.mem_iff.1 he,ab,ab,ab⟩
  ·exact amp ab Gq (alQ hS.1.symm (aqj s n))
  ·rw[atJ,hz];omega
  ·have:=aix (S:=S) (c:=c);have:=hS.1.length_eq;omega
def apj{l m:List Rn}(h:l.Perm m):bI l=bI m:=by
 induction h with
 |nil=>rfl
 |cons x _ ih=>rw[gS,gS,ih]
 |swap x y l=>simp only[gS];omega
 |trans _ _ h1 h2=>rw[h1,h2]
def axo{s:List UInt8}{n c near:Int}(hb:nu s n=0)(hc:1<=c/\c<=4096)(hn:0<=near/\near<=4095)(h0:Fy s n c near≠0):
 (Fy s n c near=16/\bI (nG s n)<c)\/(Fy s n c near=8/\64<(nG s n).length):=by
 have ha:=auT hb hc hn;unfold Fy at h0 ⊢;rw[if_neg ab]at h0 ⊢;cases ho:Sw s n c near with
 |some x=>rw[ho]at h0;exact absurd rfl h0
 |none=>
  rw[ho]at h0;simp only at h0 ⊢;have hS:=YV near (nG s n);generalize UO near (nG s n)=S at*;have Gq:∀e∈S,0<=e.n:=λe he=>by
   have:=(kI (jf s 0) n.toNat).1 e (hS.1.mem_iff.1 he);omega
  have aHt:bI (nG s n)=bI S:=by
   exact(apj hS.1).symm
  by_cases hz:qa c S=0
  ·rw[hz]at h0 ⊢;have hl:=aix (S:=S) (c:=c);have:=hS.1.length_eq;by_cases iG:(kA c S).length<=64
   ·rw[afW iG]at h0;exact absurd rfl h0
   ·rw[O3 iG];exact .inr ⟨rfl,ab⟩
  ·rw[ad9 hz];refine .inl ⟨rfl,?_⟩;by_cases aU:bI S<c
   ·omega
   ·exact absurd (ale ab ab Gq) hz
def ag0{s:List UInt8}{n c:Int}{l:List Rn}(h:BY s n c l):((az l).length:Int)=c/\(∀x∈az l,(0<=x/\x<n)/\bH s x.toNat=0)/\(az l).Nodup:=by
 have SF:∀x,x∈az l→∃r∈l,r.s<=x/\x<r.s+r.n:=λx hx=>by
  obtain⟨r,hr,i,hi,rfl⟩:=aia hx;have:=(h.rn r hr).1;rw[if_neg ab];exact⟨r,hr,ab,ab⟩
 refine⟨by rw[xA λr hr=>by have:=(h.rn r hr).1;omega];exact h.sum,λx hx=>?_,?_⟩
 ·obtain⟨r,hr,h1,h2⟩:=SF x hx;have g:=h.rn r hr;exact⟨ab,g.2 _ (by simp only[fR,decide_eq_true_eq];omega)⟩
 ·unfold az List.Nodup;refine List.pairwise_flatMap.2 ⟨λr hr=>?_,?_⟩
  ·have g:=(h.rn r hr).1;unfold iV;rw[List.pairwise_map];refine List.Pairwise.imp ?_ List.nodup_range;intro i j zk cb;rw[if_neg ab,if_neg ab]at cb;omega
  ·refine List.Pairwise.imp_of_mem ?_ h.ap;intro p q hp hq WZ x hx y hy he;subst he;have gp:=(h.rn p hp).1;have gq:=(h.rn q hq).1;unfold iV at hx hy;rw[zaX]at hx hy;obtain⟨i,hi,rfl⟩:=hx;obtain⟨j,hj,he⟩:=hy;rw[if_neg (show ¬p.s= -1 by omega),if_neg (show ¬q.s= -1 by omega)]at he;have hi:=zbm.1 hi;have hj:=zbm.1 hj;refine WZ (p.s+i).toNat ⟨?_,?_⟩<;>simp only[fR,decide_eq_true_eq]<;>omega
def jz(ps:List (List UInt8))(i:Nat):Bool:=decide (ps[i]?.getD []≠[])
def nD(ps:List (List UInt8))(pl:List Int)(i:Nat):Int:=if jz ps i=true then pl[i]?.getD (-1)else-1
def G8(ps:List (List UInt8))(pl:List Int)(i:Nat):Bool:=jz ps i&&decide (nD ps pl i= -1)
def vF(ps:List (List UInt8))(pl:List Int):Nat->Nat
 |0=>0
 |n+1=>vF ps pl n+if G8 ps pl n=true then 1 else 0
def UZ(ps:List (List UInt8))(pl:List Int):Nat->Int
 |0=>0
 |n+1=>if nD ps pl n= -1 then UZ ps pl n else nD ps pl n
def Qg(ps:List (List UInt8))(pl:List Int):List Int:=cQ (nD ps pl) ps.length
def u6(pl k1:List Int)(b:Nat->Bool)(c:Nat):Bool:=if (c:Int)∈pl then decide ((c:Int)∈k1)else b c
def CQ(ps:List (List UInt8))(pl fr:List Int)(i:Nat):Int:=if G8 ps pl i=true then fr[vF ps pl i]?.getD 0 else nD ps pl i
def ZJ(fr:List Int)(b:Nat->Bool)(c:Nat):Bool:=b c||decide ((c:Int)∈fr)
def agH(ps:List (List UInt8))(pl:List Int):∀n,vF ps pl n<=n
 |0=>zai 0
 |n+1=>by
  have:=agH ps pl n;unfold vF;split<;>omega
def xP(ps:List (List UInt8))(pl:List Int)(n:Nat):vF ps pl (n+1)=vF ps pl n+if G8 ps pl n=true then 1 else 0:=rfl
def asw(ps:List (List UInt8))(pl:List Int)(n:Nat):UZ ps pl (n+1)=if nD ps pl n= -1 then UZ ps pl n else nD ps pl n:=rfl
def RP(ps:List (List UInt8))(pl:List Int){n m:Nat}(h:n<=m):vF ps pl n<=vF ps pl m:=by
 induction h with
 |refl=>exact zai _
 |step _ ih=>rw[xP];omega
def Dr{ps:List (List UInt8)}{pl:List Int}{i:Nat}(h:nD ps pl i≠ -1):nD ps pl i∈pl:=by
 unfold nD at h ⊢;split at h
 ·rename_i g;rw[if_pos g];cases hp:pl[i]? with
  |none=>rw[hp]at h;exact kN
  |some a=>rw[zbA];exact zag hp
 ·exact kN
def aok{ps:List (List UInt8)}{pl:List Int}{m:Int}(h:∀a∈pl,-1<=a/\a<m)(hm:0<=m):∀n,0<=UZ ps pl n/\UZ ps pl n<=m
 |0=>⟨zdv _,hm⟩
 |n+1=>by
  show 0<=(if nD ps pl n= -1 then UZ ps pl n else nD ps pl n)/\(if nD ps pl n= -1 then UZ ps pl n else nD ps pl n)<=m;split
  ·exact aok h hm n
  ·rename_i g;have:=h _ (Dr g);omega
abbrev Yq(ps:List (List UInt8)):dC:=.row 9 1 true (strs ps)
abbrev rk(b:Nat->Bool)(n:Nat):dC:=.row 4 1 true ((cQ b n).map pB)
abbrev Lv(l:List Int):dC:=.row 3 1 true (l.map pI)
def lT(ps:List (List UInt8))(pl:List Int):Nat:=vF ps pl ps.length
def sq(ps:List (List UInt8))(pl:List Int)(b:Nat->Bool):Nat->Bool:=u6 pl (Qg ps pl) b
def Sk(ps:List (List UInt8))(pl:List Int)(b:Nat->Bool)(n:Nat):Int:=Fy (mG (cQ (sq ps pl b) n)) n (lT ps pl) (UZ ps pl ps.length)
def qv(ps:List (List UInt8))(pl:List Int)(b:Nat->Bool)(n:Nat):List Int:=az (Ju (mG (cQ (sq ps pl b) n)) n (lT ps pl) (UZ ps pl ps.length))
def w_(ps:List (List UInt8))(pl:List Int)(b:Nat->Bool)(n:Nat):Int:=if lT ps pl=0 then 0 else Sk ps pl b n
def pN(ps:List (List UInt8))(pl:List Int)(b:Nat->Bool)(n:Nat):List Int:=if lT ps pl=0 then[]else qv ps pl b n
def DF{l:List Bool}(h:l.length<=4096):nu (mG l) l.length=0∧∀i,bH (mG l) i=if i<l.length then mS (l[i]?.getD false)else 0:=
 ⟨asp (λ_=>Jj _) h,λi=>KI (λ_=>Jj _) _ i⟩
def Zp(xs:List AV)(σ:aF)(K:AV->aF->Prop):Prop:=∃(s:St) (ps:List (List UInt8)) (b:Nat->Bool) (n:Nat),
 xs=[.pv (sP s),.own 0,.own 1]/\σ=[Yq ps,rk b n]/\(ps.length<=1000/\s.pl.length<=1000/\n<=1000∧∀a∈s.pl,-1<=a/\a<n)/\
 (w_ ps s.pl b n=0->K (.tup [.own 2,.pv (pI 0)]) [Yq ps,rk (ZJ (pN ps s.pl b n) (sq ps s.pl b)) n,Lv (cQ (CQ ps s.pl (pN ps s.pl b n)) ps.length)])/\
 (w_ ps s.pl b n≠0->K (.tup [.own 2,.pv (pI (w_ ps s.pl b n))]) [Yq ps,rk (sq ps s.pl b) n,Lv []])
set_option maxHeartbeats 2000000 in
def agC:gO (ay [(161,bF adT),(115,bF GM),(252,bF Ku),(144,ah Mn),(253,K3),(114,c8 false dL)]) uf (sB Zp):=by
 rintro _ _ K ⟨s,ps,b,n,rfl,rfl,⟨h1,h2,h3,h4⟩,Gt,xy⟩;have fp:(strs ps).length=ps.length:=zav _
 (repeat'((conv=>whnf);first|refine dq λ_=>?_|fail))<;>try(conv=>whnf)
 refine⟨λm env σ=>∃i:Nat,i+m=ps.length/\σ=[Yq ps,rk b n,Lv (cQ (nD ps s.pl) i)]/\env=[(0,.pv (sP s)),(1,.own 0),(2,.own 1),(8,.own 2),eN 9 (vF ps s.pl i),eN 10 (UZ ps s.pl i),(21,.own 0),eN 22 ps.length,eN 23 i],ps.length,⟨0,ab,rfl,by rw[fp];rfl⟩,?_⟩;rintro m env σ ⟨i,hi,rfl,rfl⟩;have AQ:=agH ps s.pl i;by_cases aU:i<ps.length
 ·obtain⟨p,hp⟩:∃p,ps[i]?=some p:=⟨_,zah aU⟩
  have cb:jz ps i=decide (p≠[]):=agK;have hc:=xP ps s.pl i;have hr:=asw ps s.pl i;have ht:cQ (nD ps s.pl) (i+1)=cQ (nD ps s.pl) i++[nD ps s.pl i]:=Lt;by_cases IH:p=[]
  ·subst IH;have sQ:nD ps s.pl i= -1:=by unfold nD;rw[cb];rfl
   have fq:G8 ps s.pl i=false:=by unfold G8;rw[cb];rfl
   rw[fq,if_neg ao]at hc;rw[sQ]at hr ht;rw[if_pos rfl]at hr;clear Gt xy;generalize hT:cQ (nD ps s.pl) i=T at*;have hTl:T.length=i:=by rw[<-hT];exact ck
   have aCL:(T.map pI).length=T.length:=zav _
   (repeat'((conv=>whnf);first|refine zcB (by(rw[fp];omega)) ?_|refine zcB aa4 ?_|refine aw (p:=([]:List UInt8)≠[]) (by simp;first|done|fail) ?_|refine bj ab ?_|refine au ab ?_|refine uM aA ?_|refine bT ?_|fail))<;>try(conv=>whnf)
   refine⟨m-1,ab,i+1,ab,by rw[ht];simp,?_⟩;rw[hc,hr];rfl
  by_cases YK:∃a,s.pl[i]?=some a/\a≠ -1
  ·obtain⟨a,ha,aDL⟩:=YK;have sQ:nD ps s.pl i=a:=by unfold nD;rw[cb,if_pos (by simpa using IH),ha];rfl
   have fq:G8 ps s.pl i=false:=by unfold G8;rw[sQ];simp[aDL]
   rw[fq,if_neg ao]at hc;rw[sQ]at hr ht;rw[if_neg aDL]at hr;clear Gt xy;generalize hT:cQ (nD ps s.pl) i=T at*;have hTl:T.length=i:=by rw[<-hT];exact ck
   have aCL:(T.map pI).length=T.length:=zav _
   (repeat'((conv=>whnf);first|refine zcB (by(rw[fp];omega)) ?_|refine⟨_,⟨s,i,rfl,ab,rfl⟩,?_⟩|refine au ⟨a,ha,aDL⟩ ?_|refine zcB aa4 ?_|refine au (p:=p≠[]) IH ?_|(refine fe ?_;first|refine bj ab ?_|refine au ab ?_|refine aw ab ?_|refine iY aA ?_|refine uM aA ?_|refine bT ?_|refine⟨_,⟨_,rfl,rfl⟩,?_⟩|fail)))<;>try(conv=>whnf)
   refine⟨m-1,ab,i+1,ab,by rw[ht];simp,?_⟩;rw[hc,hr];rfl
  ·have sQ:nD ps s.pl i= -1:=by
    unfold nD;split
    ·cases hq:s.pl[i]? with
     |none=>rfl
     |some a=>
      by_cases ha:a= -1
      ·subst ha;rfl
      ·exact absurd ⟨a,hq,ha⟩ YK
    ·rfl
   have fq:G8 ps s.pl i=true:=by unfold G8;rw[cb,sQ];simp[IH]
   rw[fq,if_pos rfl]at hc;rw[sQ]at hr ht;rw[if_pos rfl]at hr;clear Gt xy;generalize hT:cQ (nD ps s.pl) i=T at*;have hTl:T.length=i:=by rw[<-hT];exact ck
   have aCL:(T.map pI).length=T.length:=zav _
   (repeat'((conv=>whnf);first|refine zcB (by(rw[fp];omega)) ?_|refine⟨_,⟨s,i,rfl,ab,rfl⟩,?_⟩|refine aw YK ?_|refine zcB aa4 ?_|refine au (p:=p≠[]) IH ?_|(refine fe ?_;first|refine bj ab ?_|refine au ab ?_|refine uM aA ?_|refine bT ?_|refine⟨_,⟨_,rfl,rfl⟩,?_⟩|fail)))<;>try(conv=>whnf)
   refine⟨m-1,ab,i+1,ab,by rw[ht];simp,?_⟩;rw[hc,hr];rfl
 ·have hi:i=ps.length:=by omega
  subst hi;have SH:cQ (nD ps s.pl) ps.length=Qg ps s.pl:=rfl;have aPQ:(Qg ps s.pl).length=ps.length:=ck;rw[SH];have aPR:∀x∈Qg ps s.pl,-1<=x/\x<n:=λx hx=>by
   obtain⟨k,hk⟩:=jk.1 hx;obtain⟨_,rfl⟩:=ajb hk;by_cases h:nD ps s.pl k= -1
   ·rw[h];omega
   ·exact h4 _ (Dr h)
  have aHu:vF ps s.pl ps.length=lT ps s.pl:=rfl;have xk:=aok (ps:=ps) h4 ab ps.length;have t_:sq ps s.pl b=u6 s.pl (Qg ps s.pl) b:=rfl;rw[aHu];rw[aHu]at AQ
  (repeat'((conv=>whnf);first|refine aw ab ?_|refine dq λ_=>?_|fail))<;>try(conv=>whnf)
  refine⟨λm env σ=>∃j:Nat,j+m=s.pl.length/\σ=[Yq ps,rk (u6 (s.pl.take j) (Qg ps s.pl) b) n,Lv (Qg ps s.pl)]/\env=[(1,.own 0),(2,.own 1),(8,.own 2),eN 9 (lT ps s.pl),eN 10 (UZ ps s.pl ps.length),(59,.pv (rI s.pl)),eN 60 s.pl.length,eN 61 j],s.pl.length,⟨0,ab,rfl,rfl⟩,?_⟩;rintro m env σ ⟨j,hj,rfl,rfl⟩;by_cases aU:j<s.pl.length
  ·obtain⟨a,ha⟩:∃a,s.pl[j]?=some a:=⟨_,zah aU⟩
   have Y3:=h4 a (zag ha);have kv:∀x,x∈s.pl.take (j+1)↔x∈s.pl.take j\/x=a:=λx=>by rw[zcX,ha];simp
   clear Gt xy;by_cases h0:a= -1
   ·subst h0;have hb:cQ (u6 (s.pl.take (j+1)) (Qg ps s.pl) b) n=cQ (u6 (s.pl.take j) (Qg ps s.pl) b) n:=kT λc hc=>by
     unfold u6;have:((c:Int)∈s.pl.take (j+1))↔((c:Int)∈s.pl.take j):=⟨λh=>((kv _).1 h).elim id (λh=>ab),λh=>(kv _).2 (.inl h)⟩
     simp only[this]
    (repeat'(refine iM ?_;first|refine bj ab ?_|refine aN ?_|refine au ab ?_|refine iY aA ?_|refine⟨_,⟨_,rfl,rfl⟩,?_⟩|fail))<;>try(conv=>whnf)
    exact⟨m-1,ab,j+1,ab,by simp only[rk];rw[hb],rfl⟩
   ·have fM:∀r:Bool,(r=true↔a∈Qg ps s.pl)->((cQ (u6 (s.pl.take j) (Qg ps s.pl) b) n).map pB).set a.toNat (pB r)=(cQ (u6 (s.pl.take (j+1)) (Qg ps s.pl) b) n).map pB:=λr hr=>by
     rw[<-zdh,tg];congr 1;refine kT λc hc=>?_
     unfold u6;by_cases Mq:c=a.toNat
     ·have:(c:Int)=a:=by omega
      rw[if_pos Mq,if_pos (by rw[kv];exact .inr this),this];cases r<;>simp_all
     ·rw[if_neg Mq];have:((c:Int)∈s.pl.take (j+1))↔((c:Int)∈s.pl.take j):=⟨λh=>((kv _).1 h).elim id (λh=>ab),λh=>(kv _).2 (.inl h)⟩
      simp only[this]
    (repeat'((conv=>whnf);first|refine⟨_,⟨Qg ps s.pl,a,rfl,ab,rfl⟩,?_⟩|(refine fe ?_;first|refine bj ab ?_|refine bP ?_|refine au ab ?_|refine aw ab ?_|refine de (λ_=>?_) (λ_=>?_)|refine iY aA ?_|refine Vx ab ?_|refine Ug ab ?_|refine bT ?_|refine⟨_,⟨_,rfl,rfl⟩,?_⟩|fail)))<;>try(conv=>whnf)
    ·rename_i x;exact⟨m-1,ab,j+1,ab,by simp only[rk];rw[<-fM true (by simp[x])],rfl⟩
    ·rename_i x;exact⟨m-1,ab,j+1,ab,by simp only[rk];rw[<-fM false (by simp[x])],rfl⟩
  have hj:j=s.pl.length:=ab;subst hj;rw[zcZ,<-t_];by_cases oB:lT ps s.pl=0
  ·have hK:=Gt (by unfold w_;rw[if_pos oB]);clear Gt xy;have hN:pN ps s.pl b n=[]:=by unfold pN;rw[if_pos oB]
   have h3:cQ (ZJ [] (sq ps s.pl b)) n=cQ (sq ps s.pl b) n:=kT λc _=>by simp[ZJ]
   have h5:cQ (CQ ps s.pl []) ps.length=Qg ps s.pl:=kT λi hi=>by
    unfold CQ;rw[if_neg];intro h;have h6:=RP ps s.pl (show i+1<=ps.length by omega);rw[xP,if_pos h]at h6;have:vF ps s.pl ps.length=0:=oB;omega
   simp only[rk]at hK;rw[hN,h3,h5]at hK
   (repeat'((conv=>whnf);first|refine au ab ?_|refine aw ab ?_|fail))<;>try(conv=>whnf)
   exact hK
  have hlT:(cQ (sq ps s.pl b) n).length=n:=ck;have Vv:=DF (l:=cQ (sq ps s.pl b) n) ab;rw[hlT]at Vv;have XJ:(mG (cQ (sq ps s.pl b) n)).length<=100000:=by
   have:=iR Vv.1;unfold sx at this;omega
  have hE:w_ ps s.pl b n=Sk ps s.pl b n:=by unfold w_;rw[if_neg oB]
  have hL:pN ps s.pl b n=qv ps s.pl b n:=by unfold pN;rw[if_neg oB]
  rw[hE,hL]at Gt;rw[hE]at xy;have MK:qv ps s.pl b n=az (Ju (mG (cQ (sq ps s.pl b) n)) n (lT ps s.pl) (UZ ps s.pl ps.length)):=rfl;have Ao:Sk ps s.pl b n=Fy (mG (cQ (sq ps s.pl b) n)) n (lT ps s.pl) (UZ ps s.pl ps.length):=rfl;have hng:UZ ps s.pl ps.length<=4095:=ab;have aDM:Sk ps s.pl b n=0->BY (mG (cQ (sq ps s.pl b) n)) n (lT ps s.pl) (Ju (mG (cQ (sq ps s.pl b) n)) n (lT ps s.pl) (UZ ps s.pl ps.length)):=λh=>asI Vv.1 ab ab h
  by_cases he:Sk ps s.pl b n=0
  ·have hg:=aDM he;have hK:=Gt he;clear Gt xy aDM;have s7:=ag0 hg;rw[<-MK]at s7;have akC:dL [PV.sl 2 ((Ju (mG (cQ (sq ps s.pl b) n)) n (lT ps s.pl) (UZ ps s.pl ps.length)).map Rn.pv)] (.pv (rI (qv ps s.pl b n))):=by
    refine⟨.sl (Ju (mG (cQ (sq ps s.pl b) n)) n (lT ps s.pl) (UZ ps s.pl ps.length)),rfl,⟨?_,λr hr=>?_⟩,rfl⟩
    ·have h1:=La (l:=Ju (mG (cQ (sq ps s.pl b) n)) n (lT ps s.pl) (UZ ps s.pl ps.length)) λr hr=>by have:=(hg.rn r hr).1;exact⟨ab,ab⟩
     have h2:(Ju (mG (cQ (sq ps s.pl b) n)) n (lT ps s.pl) (UZ ps s.pl ps.length)).length<=bI (Ju (mG (cQ (sq ps s.pl b) n)) n (lT ps s.pl) (UZ ps s.pl ps.length)):=by
      have:∀l:List Rn,(∀r∈l,1<=r.n)->(l.length:Int)<=bI l:=by
       intro l
       induction l with
       |nil=>intro _;simp[bI]
       |cons r l ih=>
        intro h;rw[gS,zam];have:=ih λq hq=>h q kF
        have:=h r aj;omega
      exact this _ λr hr=>(hg.rn r hr).1.2.1
     rw[hg.sum]at h2;show(Ju _ _ _ _).length<=1000;omega
    ·have:=(hg.rn r hr).1;exact⟨ab,ab⟩
   have Ao:Fy (mG (cQ (sq ps s.pl b) n)) n (lT ps s.pl) (UZ ps s.pl ps.length)=0:=he
   (repeat'((conv=>whnf);first|refine aw ab ?_|refine⟨_,⟨cQ (sq ps s.pl b) n,rfl,ab,rfl⟩,?_⟩|refine⟨_,n,_,_,rfl,XJ,?_⟩|refine⟨_,akC,?_⟩|refine dq λ_=>?_|refine bT ?_|fail))<;>try(conv=>whnf)
   generalize hF:qv ps s.pl b n=F at*;have aHv:cQ (ZJ (F.take 0) (sq ps s.pl b)) n=cQ (sq ps s.pl b) n:=kT λc _=>by simp[ZJ]
   have aDN:cQ (λj=>if j<0 then CQ ps s.pl F j else nD ps s.pl j) ps.length=Qg ps s.pl:=kT λc _=>aj
   refine⟨λm env σ=>∃i:Nat,i+m=ps.length/\σ=[Yq ps,rk (ZJ (F.take (vF ps s.pl i)) (sq ps s.pl b)) n,Lv (cQ (λj=>if j<i then CQ ps s.pl F j else nD ps s.pl j) ps.length)]/\env=[(2,.own 1),(8,.own 2),(18,.pv (rI (F.drop (vF ps s.pl i)))),(94,.own 0),eN 95 ps.length,eN 96 i],ps.length,⟨0,ab,?_,by rw[fp];rfl⟩,?_⟩
   ·simp only[rk,Lv];rw[show vF ps s.pl 0=0 from rfl,aHv,aDN]
   rintro m env σ ⟨i,hi,rfl,rfl⟩;by_cases aU:i<ps.length
   ·obtain⟨p,hp⟩:∃p,ps[i]?=some p:=⟨_,zah aU⟩
    have cb:jz ps i=decide (p≠[]):=agK;have hc:=xP ps s.pl i;have aNc:vF ps s.pl (i+1)<=lT ps s.pl:=RP ps s.pl (show i+1<=ps.length by omega);clear hK;cases fq:G8 ps s.pl i with
    |true=>
     rw[fq,if_pos rfl]at hc;have mE:vF ps s.pl i<F.length:=ab;obtain⟨x,hx⟩:∃x,F[vF ps s.pl i]?=some x:=⟨_,zah mE⟩
     have Xu:=(s7.2.1 x (zag hx)).1;have SL:CQ ps s.pl F i=x:=by unfold CQ;rw[if_pos fq,hx];rfl
     have ayF:=fq;unfold G8 at ayF;simp only[zaU,decide_eq_true_eq]at ayF;have IH:p≠[]:=by have:=ayF.1;rw[cb]at this;simpa using this
     have hd:F.drop (vF ps s.pl i)=x::F.drop (vF ps s.pl i+1):=by
      rw[zcj mE];congr 1;rw[zah mE]at hx;exact Option.some.inj hx
     have kv:∀y,y∈F.take (vF ps s.pl (i+1))↔y∈F.take (vF ps s.pl i)\/y=x:=λy=>by rw[hc,zcX,hx];simp
     have aHw:((cQ (λj=>if j<i then CQ ps s.pl F j else nD ps s.pl j) ps.length).map pI).set i (pI x)=(cQ (λj=>if j<i+1 then CQ ps s.pl F j else nD ps s.pl j) ps.length).map pI:=by
      rw[<-zdh,tg];congr 1;refine kT λj hj=>?_
      by_cases h:j=i
      ·subst h;rw[if_pos rfl,if_pos ab,SL]
      ·rw[if_neg h];by_cases h2:j<i
       ·rw[if_pos h2,if_pos ab]
       ·rw[if_neg h2,if_neg ab]
     have aHx:((cQ (ZJ (F.take (vF ps s.pl i)) (sq ps s.pl b)) n).map pB).set x.toNat (pB true)=(cQ (ZJ (F.take (vF ps s.pl (i+1))) (sq ps s.pl b)) n).map pB:=by
      rw[<-zdh,tg];congr 1;refine kT λc hc=>?_
      unfold ZJ;by_cases h:c=x.toNat
      ·have:(c:Int)=x:=by omega
       rw[if_pos h,this];simp[kv]
      ·rw[if_neg h];have:((c:Int)∈F.take (vF ps s.pl (i+1)))↔((c:Int)∈F.take (vF ps s.pl i)):=⟨λh=>((kv _).1 h).elim id (λh=>ab),λh=>(kv _).2 (.inl h)⟩
       simp only[this]
     have aDO:(λj=>if j<i then CQ ps s.pl F j else nD ps s.pl j) i= -1:=by simp only[Nat.lt_irrefl,if_false];exact ayF.2
     have aHy:((cQ (λj=>if j<i then CQ ps s.pl F j else nD ps s.pl j) ps.length).map pI).length=ps.length:=by rw[zav,ck]
     have hgT:((cQ (λj=>if j<i then CQ ps s.pl F j else nD ps s.pl j) ps.length).map pI)[i]?=some (pI (-1)):=by rw[za9,bO aU];exact congrArg (λz=>some (pI z)) aDO
     (repeat'((conv=>whnf);first|rw[hd]|refine⟨pI x,⟨ab,rfl⟩,?_⟩|refine⟨pI x,zbQ P3,?_⟩|(refine fe ?_;first|refine bj ab ?_|refine au ab ?_|refine au aA ?_|refine uM aA ?_|refine Vx ab ?_|refine Ug ab ?_|refine Q3 ab ?_|refine bT ?_|refine⟨_,⟨_,rfl,rfl⟩,?_⟩|refine zcB cu ?_|fail)))<;>try(conv=>whnf)
     refine⟨m-1,ab,i+1,ab,?_,?_⟩
     ·simp only[rk,Lv];rw[<-aHw,<-aHx];simp
     ·have e2:AV.pv (PV.sl 1 (cut (1:Int).toNat ((x::F.drop (vF ps s.pl i+1)).map pI).length ((x::F.drop (vF ps s.pl i+1)).map pI)))=.pv (rI (F.drop (vF ps s.pl (i+1)))):=by
       have:=aFl (x::F.drop (vF ps s.pl i+1)) 1;rw[hc];simpa using this
      simp only[<-e2];rfl
    |false=>
     rw[fq,if_neg ao]at hc;have hc:vF ps s.pl (i+1)=vF ps s.pl i:=hc;have SL:CQ ps s.pl F i=nD ps s.pl i:=by unfold CQ;rw[fq];rfl
     have hT:cQ (λj=>if j<i+1 then CQ ps s.pl F j else nD ps s.pl j) ps.length=cQ (λj=>if j<i then CQ ps s.pl F j else nD ps s.pl j) ps.length:=kT λj hj=>by
      by_cases h:j=i
      ·subst h;rw[if_pos ab,if_neg ab,SL]
      ·by_cases h2:j<i
       ·rw[if_pos h2,if_pos ab]
       ·rw[if_neg h2,if_neg ab]
     have aDO:(λj=>if j<i then CQ ps s.pl F j else nD ps s.pl j) i=nD ps s.pl i:=by simp only[Nat.lt_irrefl,if_false]
     have aHy:((cQ (λj=>if j<i then CQ ps s.pl F j else nD ps s.pl j) ps.length).map pI).length=ps.length:=by rw[zav,ck]
     have hgT:((cQ (λj=>if j<i then CQ ps s.pl F j else nD ps s.pl j) ps.length).map pI)[((i:Nat):Int).toNat]?=some (pI (nD ps s.pl i)):=by rw[zaC,za9,bO aU];exact congrArg (λz=>some (pI z)) aDO
     unfold G8 at fq;have Ue:¬(p≠[]/\nD ps s.pl i= -1):=λh=>by rw[cb,h.2]at fq;simp[h.1]at fq
     by_cases IH:p=[]
     ·subst IH
      (repeat'((conv=>whnf);first|refine aw (p:=([]:List UInt8)≠[]) (by simp;first|done|fail) ?_|refine bj ab ?_|refine au ab ?_|refine uM aA ?_|refine Q3 ab ?_|fail))<;>try(conv=>whnf)
      refine⟨m-1,ab,i+1,ab,?_,?_⟩
      ·simp only[rk,Lv];rw[hT,hc]
      ·rw[hc];rfl
     ·have SH:¬nD ps s.pl i= -1:=λh=>Ue ⟨IH,h⟩
      (repeat'((conv=>whnf);first|refine au (p:=p≠[]) IH ?_|refine⟨_,hgT,?_⟩|refine aw SH ?_|(refine fe ?_;first|refine bj ab ?_|refine au ab ?_|refine uM aA ?_|refine Ug ab ?_|refine Q3 ab ?_|refine⟨_,⟨_,rfl,rfl⟩,?_⟩|fail)))<;>try(conv=>whnf)
      refine⟨m-1,ab,i+1,ab,?_,?_⟩
      ·simp only[rk,Lv];rw[hT,hc]
      ·rw[hc];rfl
   ·have hi:i=ps.length:=by omega
    subst hi;have hcF:vF ps s.pl ps.length=F.length:=by have:=s7.1;show lT ps s.pl=_;omega
    have hT:cQ (λj=>if j<ps.length then CQ ps s.pl F j else nD ps s.pl j) ps.length=cQ (CQ ps s.pl F) ps.length:=kT λj hj=>if_pos hj
    rw[hcF,za1 (zai _),List.drop_of_length_le (zai _)];simp only[rk,Lv]at hK ⊢;rw[hT]
    (repeat'((conv=>whnf);first|refine aw ab ?_|fail))<;>try(conv=>whnf)
    exact hK
  ·have hK:=xy he;clear Gt xy aDM;have Ao:Fy (mG (cQ (sq ps s.pl b) n)) n (lT ps s.pl) (UZ ps s.pl ps.length)≠0:=he
   (repeat'((conv=>whnf);first|refine aw ab ?_|refine⟨_,⟨cQ (sq ps s.pl b) n,rfl,ab,rfl⟩,?_⟩|refine⟨_,n,_,_,rfl,XJ,?_⟩|refine au ab ?_|refine dq λ_=>?_|refine bT ?_|fail))<;>try(conv=>whnf)
   exact hK
def MF(B:List UInt8)(k:Nat)(p:List UInt8):List UInt8:=B.take (256*k)++p++B.drop (256*k+256)
def Yb{B p:List UInt8}{k:Nat}(h:(k+1)*256<=B.length)(hp:p.length=256):(MF B k p).length=B.length:=by
 unfold MF;simp[hp];omega
def WA(B:List UInt8)(ps:List (List UInt8))(P:Nat->Int):Nat->List UInt8
 |0=>B
 |i+1=>if jz ps i=true then MF (WA B ps P i) (P i).toNat (ps[i]?.getD [])else WA B ps P i
def TJ(B:List UInt8)(ps:List (List UInt8))(P:Nat->Int)(i:Nat):WA B ps P (i+1)=if jz ps i=true then MF (WA B ps P i) (P i).toNat (ps[i]?.getD [])else WA B ps P i:=rfl
def aBE(ps:List (List UInt8)):Prop:=∀p∈ps,p=[]\/p.length=256
def RJ{ps:List (List UInt8)}{i:Nat}:jz ps i=true↔∃p,ps[i]?=some p/\p≠[]:=by
 unfold jz;cases h:ps[i]? with
 |none=>simp
 |some p=>simp
def RW{B:List UInt8}{ps:List (List UInt8)}{P:Nat->Int}(hp:aBE ps)(hP:∀i,jz ps i=true->0<=P i/\(P i+1)*256<=B.length):∀i,(WA B ps P i).length=B.length
 |0=>rfl
 |i+1=>by
  rw[TJ];have ih:=RW (B:=B) hp hP i;split
  ·rename_i h;have h1:=hP i h;obtain⟨p,h2,h3⟩:=RJ.1 h;rw[Yb ab (by rw[h2];exact(hp p (zag h2)).resolve_left h3),ih]
  ·exact ih
def auv(s:St)(C:List UInt8)(dt:Nat->Prop):aBE (aQ s C dt):=by
 intro p hp;unfold aQ at hp;split at hp
 ·unfold qy at hp;rw[zbz]at hp;obtain⟨k,_,hp⟩:=hp;unfold HU at hp;rw[zaX]at hp;obtain⟨i,_,rfl⟩:=hp;have:=(Dx (AF C k)).2.2.1;generalize j_ (wa C k)=q at*;by_cases h:i*256<q.length
  ·right;rw[zal,zax];omega
  ·left;rw[zcc ab];rfl
 ·rw[zaX]at hp;obtain⟨i,_,rfl⟩:=hp;unfold dv;split
  ·exact .inl rfl
  ·right;exact BB eI
def sK(s:St)(C:List UInt8)(dt:Nat->Prop):(aQ s C dt).length=if s.a.fl%2=1 then 16*((C.length+4095)/4096)else(C.length+255)/256:=by
 unfold aQ;split
 ·exact afF _ _
 ·simp
def df(d:Dk)(c:Nat):Bool:=decide (bH d.mp c=1)
def W_(d:Dk):qf d=cQ (df d) d.n:=rfl
noncomputable def Be(s:St)(C:List UInt8)(dt:Nat->Prop):Nat->Int:=CQ (aQ s C dt) s.pl (pN (aQ s C dt) s.pl (df s.d) s.d.n)
noncomputable def Cz(s:St)(C:List UInt8)(dt:Nat->Prop):List Int:=cQ (Be s C dt) (aQ s C dt).length
noncomputable def Gv(s:St)(C:List UInt8)(v:Int)(dt:Nat->Prop):At:=
 ⟨s.a.ty,s.a.nm,s.a.id,s.a.fl,false,[],0,.sl (IA (Cz s C dt)),bt (Cz s C dt)*256,C.length,v⟩
noncomputable def Md(s:St)(C:List UInt8)(v:Int)(dt:Nat->Prop):Int:=
 if w_ (aQ s C dt) s.pl (df s.d) s.d.n≠0 then w_ (aQ s C dt) s.pl (df s.d) s.d.n
 else if 64<(IA (Cz s C dt)).length\/gu (Gv s C v dt)≠0 then 8 else 0
noncomputable def XY(s:St)(C:List UInt8)(dt:Nat->Prop):Dk:=
 ⟨WA s.d.a_ (aQ s C dt) (Be s C dt) (aQ s C dt).length,mG (cQ (ZJ (pN (aQ s C dt) s.pl (df s.d) s.d.n) (sq (aQ s C dt) s.pl (df s.d))) s.d.n)⟩
def zD:Dk:=⟨[],[]⟩
structure adA(s:St):Prop where
 a_:s.d.a_.length<=200000
 mp:s.d.mp.length<=1000000
 n:s.d.n<=512
 bm:nu s.d.mp s.d.n=0
 fl:0<=s.a.fl/\s.a.fl<=7
 len:s.pl.length<=128
 pl:MH s.d.a_ s.pl
 nm:s.a.nm.length<=1000000
def X6{s:St}(h:adA s):∀a∈s.pl,-1<=a/\a<s.d.n:=λa ha=>by
 rcases h.pl a ha with h|h
 ·omega
 ·unfold Dk.n;omega
def auh{s:St}(h:adA s){ps:List (List UInt8)}(hl:ps.length<=1000)(hm:lT ps s.pl≠0)(he:Sk ps s.pl (df s.d) s.d.n=0):
 BY (mG (cQ (sq ps s.pl (df s.d)) s.d.n)) s.d.n (lT ps s.pl) (Ju (mG (cQ (sq ps s.pl (df s.d)) s.d.n)) s.d.n (lT ps s.pl) (UZ ps s.pl ps.length)):=by
 have hn:=h.n;have Vv:=DF (l:=cQ (sq ps s.pl (df s.d)) s.d.n) kD;rw[ck]at Vv;have xk:=aok (ps:=ps) (X6 h) ab ps.length;have:=agH ps s.pl ps.length;have aLa:lT ps s.pl=vF ps s.pl ps.length:=rfl;exact asI Vv.1 ab ab he
def auU{s:St}(h:adA s){ps:List (List UInt8)}(hl:ps.length<=1000)(he:w_ ps s.pl (df s.d) s.d.n=0){i:Nat}(hi:i<ps.length)(hn:jz ps i=true):
 0<=CQ ps s.pl (pN ps s.pl (df s.d) s.d.n) i/\CQ ps s.pl (pN ps s.pl (df s.d) s.d.n) i<s.d.n:=by
 unfold CQ;split
 ·rename_i hm;have h1:vF ps s.pl (i+1)<=lT ps s.pl:=RP ps s.pl ab;rw[xP,if_pos hm]at h1;unfold w_ at he;unfold pN;rw[if_neg ab]at he ⊢;have hg:=ag0 (auh h hl ab he);have hlen:vF ps s.pl i<(qv ps s.pl (df s.d) s.d.n).length:=by unfold qv;omega
  have hx:(qv ps s.pl (df s.d) s.d.n)[vF ps s.pl i]?=some ((qv ps s.pl (df s.d) s.d.n)[vF ps s.pl i]):=zah hlen;rw[hx,zbA];exact(hg.2.1 _ (zag hx)).1
 ·rename_i hm;have cb:nD ps s.pl i≠ -1:=by
   intro e;unfold G8 at hm;rw[hn,e]at hm;exact hm ao
  have h1:=X6 h _ (Dr cb);omega
def anB{Q p:List UInt8}{k:Int}(hk:0<=k/\(k+1)*256<=Q.length)(hp:p.length=256):
 (Q.map aL).take (k*256).toNat++(p.map aL).take ((Q.map aL).length-(k*256).toNat)++(Q.map aL).drop ((k*256).toNat+min (p.map aL).length ((Q.map aL).length-(k*256).toNat))=(MF Q k.toNat p).map aL:=by
 unfold MF;rw[zav,zav,hp,show(k*256).toNat=256*k.toNat by omega,show min 256 (Q.length-256*k.toNat)=256 by omega,
  za1 (l:=p.map aL) oP,zbu,zbu,zdd,zdf]
def T_(ps:List PV)(r:RV):Prop:=∃(s:St) (C:List UInt8) (v:Int) (c:PV) (dt:Nat->Prop),ps=[sP s,yJ C v c]/\(adA s/\C.length<=32768/\aly s c dt)/\
 r=.tup [.pv (if Md s C v dt=0 then XY s C dt else zD).pv,.pv (if Md s C v dt=0 then Gv s C v dt else zA).pv,.pv (pI (Md s C v dt))]
set_option maxHeartbeats 1000000 in
def ak9:MT (ay [(214,c8 true RC),(142,c8 true xj),(215,sB Zp),(216,c8 true aaA),(194,ah Uc),(112,ah nC),(144,ah Mn)]) x4 (c8 false T_):=by
 rintro _ K ⟨_,⟨s,C,v,c,dt,rfl,⟨h,h2,h3⟩,rfl⟩,hK⟩;have qG:=sK s C dt;have IH:(aQ s C dt).length<=200:=Su;have LQ:=auv s C dt;have hb:=X6 h;have avW:=λ(he:w_ (aQ s C dt) s.pl (df s.d) s.d.n=0) i hi hn=>auU h (ps:=aQ s C dt) ab he (i:=i) hi hn
 have cP:RC [sP s,yJ C v c] (.fresh 9 1 (strs (aQ s C dt))):=⟨s,C,v,c,dt,rfl,⟨ab,h3,h.fl,by have:=h.len;omega⟩,rfl⟩
 have ab6:xj [s.d.pv] (.fresh 4 1 ((qf s.d).map pB)):=⟨s.d,rfl,⟨by have:=h.a_;omega,h.mp,h.bm⟩,rfl⟩
 rw[W_]at ab6;have xm:Md s C v dt=if w_ (aQ s C dt) s.pl (df s.d) s.d.n≠0 then w_ (aQ s C dt) s.pl (df s.d) s.d.n else if 64<(IA (Cz s C dt)).length\/gu (Gv s C v dt)≠0 then 8 else 0:=rfl
 have MM:Cz s C dt=cQ (Be s C dt) (aQ s C dt).length:=rfl;have Zd:Be s C dt=CQ (aQ s C dt) s.pl (pN (aQ s C dt) s.pl (df s.d) s.d.n):=rfl;have hAd:Gv s C v dt=⟨s.a.ty,s.a.nm,s.a.id,s.a.fl,false,[],0,.sl (IA (Cz s C dt)),bt (Cz s C dt)*256,C.length,v⟩:=rfl;have hDd:XY s C dt=⟨WA s.d.a_ (aQ s C dt) (Be s C dt) (aQ s C dt).length,mG (cQ (ZJ (pN (aQ s C dt) s.pl (df s.d) s.d.n) (sq (aQ s C dt) s.pl (df s.d))) s.d.n)⟩:=rfl;generalize Md s C v dt=E at*;generalize Gv s C v dt=A at*;generalize XY s C dt=D at*;generalize Cz s C dt=L at*;rw[<-Zd]at avW;have aLc:∀i,Be s C dt i≠ -1\/Be s C dt i= -1:=λi=>ab
 generalize Be s C dt=P at*
 (repeat'((conv=>whnf);first|refine⟨_,cP,?_⟩|refine⟨_,ab6,?_⟩|fail))<;>try(conv=>whnf)
 clear cP ab6;generalize fp:aQ s C dt=ps at*;refine⟨s,ps,df s.d,s.d.n,rfl,rfl,⟨ab,by have:=h.len;omega,by have:=h.n;omega,hb⟩,λhe=>?_,λhe=>?_⟩
 ·rw[he,if_neg ao]at xm;have avW:=avW he;rw[<-Zd,<-MM];have hLl:L.length=ps.length:=by rw[MM];exact ck
  have hLb:∀a∈L,-1<=a/\a<=1000000:=λa ha=>by
   obtain⟨k,hk⟩:=jk.1 ha;rw[MM]at hk;obtain⟨SH,rfl⟩:=ajb hk;have hn:=h.n;cases cb:jz ps k with
   |true=>have:=avW k SH cb;omega
   |false=>
    rw[Zd];unfold CQ G8 nD;rw[cb];simp
  have Vr:=oG L;generalize ZJ (pN ps s.pl (df s.d) s.d.n) (sq ps s.pl (df s.d))=b at*;have avX:nC [A.pv] (pI (gu A)):=⟨A,rfl,by rw[hAd];exact h.nm,rfl⟩
  have hA1:A.pv=.agg [pI s.a.ty,.str s.a.nm,pI s.a.id,pI s.a.fl,pB false,.str [],pI 0,.sl 2 ((IA L).map Rn.pv),pI (bt L*256),pI C.length,pI v]:=by rw[hAd];rfl
  rw[hA1]at avX;have mW:=h.a_
  (repeat'((conv=>whnf);first|refine⟨_,⟨L,rfl,⟨ab,hLb⟩,rfl⟩,?_⟩|refine⟨_,⟨L,rfl,ab,rfl⟩,?_⟩|refine⟨_,avX,?_⟩|refine bj ab ?_|refine aw ab ?_|refine de (λ_=>?_) (λ_=>?_)|refine dq λ_=>?_|refine bT ?_|refine wz ?_|fail))<;>try(conv=>whnf)
  ·rename_i x;have x:64<(IA L).length:=ab;rw[if_pos (.inl x)]at xm;rw[xm,if_neg ao,if_neg ao]at hK;exact iN
  ·rename_i x;rw[if_pos (.inr x)]at xm;rw[xm,if_neg ao,if_neg ao]at hK;exact iN
  rename_i x0 x1 _;have x0:¬64<(IA L).length:=ab;rw[if_neg (λh=>h.elim x0 x1)]at xm;rw[xm,if_pos rfl,if_pos rfl]at hK;clear avX Vr hLb;have azP:∀i,jz ps i=true->0<=P i/\(P i+1)*256<=s.d.a_.length:=λi hi=>by
   obtain⟨p,hp,_⟩:=RJ.1 hi;have:=avW i (eT hp) hi;unfold Dk.n at this;omega
  have aHz:=RW (B:=s.d.a_) (P:=P) LQ azP;have qH:(strs ps).length=ps.length:=zav _;refine⟨λm env σ=>∃i:Nat,i+m=ps.length/\
   σ=[.box 23 [.pv (.str []),.pv (.str [])],.box 41 [.pv (pI 0),.pv (.str []),.pv (pI 0),.pv (pI 0),.pv (pB false),.pv (.str []),.pv (pI 0),.pv (.nil 2),.pv (pI 0),.pv (pI 0),.pv (pI 0)],rk b s.d.n,Lv L,
    .box 41 [.pv (pI s.a.ty),.pv (.str s.a.nm),.pv (pI s.a.id),.pv (pI s.a.fl),.pv (pB false),.pv (.str []),.pv (pI 0),.own 7,.pv (pI (bt L*256)),.pv (pI C.length),.pv (pI v)],
    .row 5 1 false ((WA s.d.a_ ps P i).map aL),Yq ps,.row 37 2 true ((IA L).map Rn.pv)]/\
   env=[(4,.ref 0 0 0),(5,.ref 1 0 0),(8,.own 2),(9,.own 3),(11,.ref 4 0 0),(12,.own 5),(83,.own 6),eN 84 (strs ps).length,eN 85 i],ps.length,⟨0,ab,rfl,rfl⟩,?_⟩
  rintro m env σ ⟨i,hi,rfl,rfl⟩;have aNh:=aHz i;by_cases aU:i<ps.length
  ·obtain⟨p,hp⟩:∃p,ps[i]?=some p:=⟨_,zah aU⟩
   have cb:jz ps i=decide (p≠[]):=agK;have hT:=TJ s.d.a_ ps P i;rw[hp,zbA]at hT;clear hK aHz;by_cases IH:p=[]
   ·subst IH;rw[cb,if_neg ao]at hT
    (repeat'((conv=>whnf);first|refine aw (p:=([]:List UInt8)≠[]) (by simp;first|done|fail) ?_|refine bj ab ?_|refine au ab ?_|refine uM aA ?_|refine Q3 ab ?_|fail))<;>try(conv=>whnf)
    exact⟨m-1,ab,i+1,ab,by rw[hT],rfl⟩
   ·have l6:jz ps i=true:=by rw[cb];simpa using IH
    rw[l6,if_pos rfl]at hT;have hPi:=azP i l6;have aHA:=(LQ p (zag hp)).resolve_left IH;have hgL:(L.map pI)[((i:Nat):Int).toNat]?=some (pI (P i)):=by
     rw[zaC,za9,MM,bO aU];rfl
    generalize hQ:WA s.d.a_ ps P i=Q at*;have hql:(Q.map aL).length=Q.length:=zav _
    (repeat'((conv=>whnf);first|refine au (p:=p≠[]) IH ?_|refine⟨_,hgL,?_⟩|refine Or.inr ?_|refine zcB (by rw[hql];omega) ?_|refine bj ab ?_|refine au ab ?_|refine uM aA ?_|refine Q3 ab ?_|fail))<;>try(conv=>whnf)
    have ly:=anB (Q:=Q) (p:=p) (k:=P i) ab aHA;exact⟨m-1,ab,i+1,ab,by rw[hT,<-ly],rfl⟩
  ·have hi:i=ps.length:=by omega
   subst hi;rw[hDd]at hK;rw[hA1]at hK
   (repeat'((conv=>whnf);first|refine⟨_,⟨cQ b s.d.n,rfl,by rw[ck];have:=h.n;omega,rfl⟩,?_⟩|refine aw ab ?_|refine yR ?_|refine bT ?_|fail))<;>try(conv=>whnf)
   exact⟨[.pv (Dk.mk _ _).pv,.pv (.agg [_,_,_,_,_,_,_,_,_,_,_]),.pv (pI _)],⟨rfl,rfl,rfl,trivial⟩,trivial,hK⟩
 ·rw[if_pos he]at xm;rw[xm,if_neg he,if_neg he]at hK
  (repeat'((conv=>whnf);first|refine au he ?_|refine bT ?_|fail))<;>try(conv=>whnf)
  exact iN
def YI(ps:List PV)(r:RV):Prop:=∃s:Rs,ps=[qF s]/\s.l.length<=1000000/\r=.fresh 37 2 (s.l.map Rn.pv)
def aga:MT (ay []) eu (c8 true YI):=by
 rintro _ K ⟨_,⟨s,rfl,h,rfl⟩,hK⟩;cases s with
 |nil=>
  (conv=>whnf)
  exact⟨.fresh _ _ _,⟨rfl,rfl,rfl,rfl⟩,(λ_ h=>bV),hK⟩
 |sl l=>
  refine λr hr=>?_
  cases r with
  |true=>
   have hl:l=[]:=by
    cases l with
    |nil=>rfl
    |cons x l=>exact absurd (hr aj) ao
   subst hl
   (conv=>whnf)
   exact⟨.fresh _ _ _,⟨rfl,rfl,rfl,rfl⟩,(λ_ h=>bV),hK⟩
  |false=>
   have h:l.length<=1000000:=h;have gJ:(l.map Rn.pv).length=l.length:=zav _
   (repeat'((conv=>whnf);first|refine zcB aH ?_|refine bT ?_|fail))<;>try(conv=>whnf)
   exact vj
noncomputable def DJ(s:St)(C:List UInt8)(v:Int)(dt:Nat->Prop):Int:=if s.a.rs=true/\C.length<=200 then 0 else Md s C v dt
noncomputable def lQ(s:St)(C:List UInt8)(v:Int)(dt:Nat->Prop):Dk:=if s.a.rs=true/\C.length<=200 then s.d else if Md s C v dt=0 then XY s C dt else zD
noncomputable def jK(s:St)(C:List UInt8)(v:Int)(dt:Nat->Prop):At:=if s.a.rs=true/\C.length<=200 then Hx s.a C else if Md s C v dt=0 then Gv s C v dt else zA
def Ay(ps:List PV)(r:RV):Prop:=∃(s:St) (C:List UInt8) (v:Int) (c:PV) (dt:Nat->Prop),ps=[sP s,yJ C v c]/\(adA s/\C.length<=32768/\aly s c dt)/\
 r=.tup [.pv (lQ s C v dt).pv,.pv (jK s C v dt).pv,.pv (pI (DJ s C v dt))]
def ack:MT (ay [(166,ah Fj),(167,c8 false T_)]) tz (c8 false Ay):=by
 rintro _ K ⟨_,⟨s,C,v,c,dt,rfl,⟨h,h2,h3⟩,rfl⟩,hK⟩;have cP:T_ [sP s,yJ C v c] _:=⟨s,C,v,c,dt,rfl,⟨h,h2,h3⟩,rfl⟩
 unfold DJ lQ jK at hK;cases c_:s.a.rs with
 |true=>
  by_cases hl:C.length<=200
  ·rw[if_pos ⟨c_,hl⟩,if_pos ⟨c_,hl⟩,if_pos ⟨c_,hl⟩]at hK
   (repeat'((conv=>whnf);first|refine oQ ?_|refine tW c_ ?_|(refine fe ?_;first|refine au ab ?_|refine⟨_,⟨_,_,rfl,rfl⟩,?_⟩|fail)))<;>try(conv=>whnf)
   exact⟨[.pv s.d.pv,.pv (Hx s.a C).pv,.pv (pI _)],⟨rfl,rfl,rfl,trivial⟩,trivial,hK⟩
  ·have hn:¬(s.a.rs=true/\C.length<=200):=λh=>hl h.2
   rw[if_neg hn,if_neg hn,if_neg hn]at hK
   (repeat'((conv=>whnf);first|refine tW c_ ?_|refine⟨_,cP,?_⟩|refine aw ab ?_|refine bT ?_|fail))<;>try(conv=>whnf)
   exact KW
 |false=>
  have hn:¬(s.a.rs=true/\C.length<=200):=λh=>by rw[c_]at h;exact absurd h.1 ao
  rw[if_neg hn,if_neg hn,if_neg hn]at hK
  (repeat'((conv=>whnf);first|refine qT c_ ?_|refine⟨_,cP,?_⟩|refine bT ?_|fail))<;>try(conv=>whnf)
  exact KW
def wU(d:Dk):Prop:=d.a_.length<=200000/\d.mp.length<=1000000
def pR{d:Dk}(h:wU d):fH d:=⟨by have:=h.1;omega,h.2⟩
def atF.st{d:Dk}{a:At}(h:atF d a)(hd:wU d)(hn:a.nm.length<=1000000):adA (ar d a):=
 ⟨hd.1,hd.2,h.nb,h.bm,⟨h.fl.1,by show a.fl<=7;have:=h.fl.2;omega⟩,h.len,h.pl,hn⟩
def bW(C:List UInt8)(p:Nat)(dat:List UInt8):List UInt8:=(mF C (p+dat.length)).take p++dat++(mF C (p+dat.length)).drop (p+dat.length)
noncomputable def yE(d:Dk)(a:At)(p:Int)(dat:List UInt8):Int:=if aK d a≠0 then aK d a else if ¬iU p then 2 else if 32768-p<dat.length then 8 else 0
noncomputable def AO(d:Dk)(a:At)(p:Int)(dat:List UInt8):Int:=
 if yE d a p dat≠0 then yE d a p dat else if dat=[]then 0
 else DJ (ar d a) (bW (aV (ar d a)) p.toNat dat) (max (cG a) (p+dat.length)) (b8 (ar d a) p (p+dat.length))
noncomputable def zM(d:Dk)(a:At)(p:Int)(dat:List UInt8):Dk:=
 if yE d a p dat≠0 then zD else if dat=[]then d
 else lQ (ar d a) (bW (aV (ar d a)) p.toNat dat) (max (cG a) (p+dat.length)) (b8 (ar d a) p (p+dat.length))
noncomputable def yV(d:Dk)(a:At)(p:Int)(dat:List UInt8):At:=
 if yE d a p dat≠0 then zA else if dat=[]then{ a with rn:=.sl a.rn.l }
 else jK (ar d a) (bW (aV (ar d a)) p.toNat dat) (max (cG a) (p+dat.length)) (b8 (ar d a) p (p+dat.length))
def ZM{e:Int}{l:List Int}(h:e≠0):bQ (0::e::l)≠0:=by simp[bQ,h]
def z0:¬(0:Int)≠0:=ao
def z2:(2:Int)≠0:=ao
def z8:(8:Int)≠0:=ao
def n0:([]:List UInt8)=[]:=rfl
def xx(C:List UInt8)(p:Nat)(dat:List UInt8):(bW C p dat).length=max C.length (p+dat.length):=by
 have:(mF C (p+dat.length)).length=max C.length (p+dat.length):=by unfold mF;rw[zad,aW];omega
 unfold bW;simp only[zad,zal,zax,this];omega
def fm(ps:List PV)(r:RV):Prop:=∃(d:Dk) (a:At) (p:Int) (dat:List UInt8),ps=[d.pv,a.pv,pI p,.str dat]/\(wU d/\a.nm.length<=1000000/\a.rn.l.length<=1000000/\dat.length<=1000000)/\
 r=.tup [.pv (zM d a p dat).pv,.pv (yV d a p dat).pv,.pv (pI (AO d a p dat))]
set_option maxHeartbeats 1000000 in
def adi:MT (ay [(127,xt),(156,bF wR),(113,ah dG),(111,ah gB),(135,c8 true YI),(145,ah tN),(157,ah Bf),(159,ah WX),(158,c8 false Ay)]) Fi (c8 false fm):=by
 rintro _ K ⟨_,⟨d,a,p,dat,rfl,⟨h1,h2,h3,h4⟩,rfl⟩,hK⟩;refine⟨d,a,rfl,⟨pR h1,h2⟩,λh=>?_,λh v hv=>?_⟩
 ·have sM:=(bc h).1;have mE:=Jh sM;have cP:=J5 sM (pR h1);have fM:=sM.st h1 h2;by_cases Ax:0<=p/\p<=32768
  ·by_cases xp:(dat.length:Int)<=32768-p
   ·have he:yE d a p dat=0:=by unfold yE iU;rw[if_neg (λe=>e h),if_neg (λe=>e Ax),if_neg ab]
    unfold AO zM yV at hK;rw[he,if_neg z0,if_neg z0,if_neg z0]at hK;by_cases PM:dat=[]
    ·subst PM;rw[if_pos n0,if_pos n0,if_pos n0]at hK
     (repeat'((conv=>whnf);first|refine au Ax ?_|refine oQ ?_|refine au (p:=([]:List UInt8)=[]) rfl ?_|refine⟨_,⟨a.rn,rfl,h3,rfl⟩,?_⟩|(refine fe ?_;first|refine bj ab ?_|refine au ab ?_|refine aw ao ?_|refine⟨_,⟨_,rfl,rfl⟩,?_⟩|refine⟨_,⟨_,_,rfl,rfl⟩,?_⟩|refine⟨_,⟨[_,_,_],rfl,rfl⟩,?_⟩|fail)))<;>try(conv=>whnf)
     exact⟨[.pv d.pv,.pv (At.pv { a with rn:=.sl a.rn.l }),.pv (pI _)],⟨rfl,rfl,rfl,trivial⟩,trivial,hK⟩
    ·rw[if_neg PM,if_neg PM,if_neg PM]at hK;have UH:Ay [sP (ar d a),yJ (bW (aV (ar d a)) p.toNat dat) (max (cG a) (p+dat.length)) (.clo 160 [.cptr (sP (ar d a)),.cptr (rV p (p+dat.length))])] _:=
      ⟨ar d a,_,_,_,_,rfl,⟨fM,by rw[xx];omega,.write p (p+dat.length)⟩,rfl⟩
     have avY:aV (ar d a)++ai (p+dat.length-(aV (ar d a)).length).toNat=mF (aV (ar d a)) (p.toNat+dat.length):=by
      unfold mF;congr 2;omega
     unfold bW at hK UH;have Jd:(mF (aV (ar d a)) (p.toNat+dat.length)).length<=32768/\p.toNat+dat.length<=(mF (aV (ar d a)) (p.toNat+dat.length)).length:=by
      unfold mF;rw[zad,aW];omega
     generalize aV (ar d a)=C0 at*;generalize mF C0 (p.toNat+dat.length)=Z at*;have Oi:cut 0 p.toNat Z=Z.take p.toNat:=Gm;have Cw:cut (p+dat.length).toNat Z.length Z=Z.drop (p.toNat+dat.length):=by unfold cut;rw[zcZ];congr 1;omega
     have pj:(Z.take p.toNat).length<=32768:=eI;have cH:(Z.drop (p.toNat+dat.length)).length<=32768:=ef
     (repeat'((conv=>whnf);first|refine au Ax ?_|refine oQ ?_|refine aw PM ?_|refine⟨_,cP,?_⟩|rw[avY]|rw[Oi]|rw[Cw]|refine zcB (by(simp only[zad];omega)) ?_|refine⟨_,UH,?_⟩|(refine fe ?_;first|refine bj ab ?_|refine au ab ?_|refine aw ao ?_|refine fQ ?_|refine⟨_,⟨_,rfl,rfl⟩,?_⟩|refine⟨_,⟨_,_,rfl,rfl⟩,?_⟩|refine⟨_,⟨_,_,rfl,cZ,rfl⟩,?_⟩|refine wz ?_|refine⟨_,⟨[_,_,_],rfl,rfl⟩,?_⟩|fail)))<;>try(conv=>whnf)
     exact KW
   ·have he:yE d a p dat=8:=by unfold yE iU;rw[if_neg (λe=>e h),if_neg (λe=>e Ax),if_pos ab]
    unfold AO zM yV at hK;rw[he,if_pos z8,if_pos z8,if_pos z8]at hK
    (repeat'((conv=>whnf);first|refine au Ax ?_|(refine fe ?_;first|refine bj ab ?_|refine aw ab ?_|refine au ao ?_|refine bT ?_|refine⟨_,⟨_,rfl,rfl⟩,?_⟩|refine⟨_,⟨_,_,rfl,rfl⟩,?_⟩|refine⟨_,⟨[_,_,_],rfl,rfl⟩,?_⟩|fail)))<;>try(conv=>whnf)
    exact iN
  ·have he:yE d a p dat=2:=by unfold yE iU;rw[if_neg (λe=>e h),if_pos Ax]
   unfold AO zM yV at hK;rw[he,if_pos z2,if_pos z2,if_pos z2]at hK
   (repeat'((conv=>whnf);first|refine aw Ax ?_|refine au (ZM ao) ?_|refine λx _=>?_|(refine fe ?_;first|refine bT ?_|refine⟨_,⟨_,rfl,rfl⟩,?_⟩|refine⟨_,⟨_,_,rfl,rfl⟩,?_⟩|refine⟨_,⟨[_,_,_],rfl,rfl⟩,?_⟩|fail)))<;>try(conv=>whnf)
   exact iN
 ·have he:yE d a p dat=aK d a:=by unfold yE;rw[if_pos h]
  unfold AO zM yV at hK;rw[he,if_pos h,if_pos h,if_pos h]at hK;clear he;rcases hv with rfl|rfl
  ·(repeat'((conv=>whnf);first|refine au K1 ?_|refine λx _=>?_|(refine fe ?_;first|refine bT ?_|refine⟨_,⟨_,rfl,rfl⟩,?_⟩|refine⟨_,⟨_,_,rfl,rfl⟩,?_⟩|refine⟨_,⟨[_,_,_],rfl,rfl⟩,?_⟩|fail)))<;>try(conv=>whnf)
   rw[q9 h];exact iN
  ·(repeat'((conv=>whnf);first|refine au K1 ?_|refine λx _=>?_|(refine fe ?_;first|refine bT ?_|refine⟨_,⟨_,rfl,rfl⟩,?_⟩|refine⟨_,⟨_,_,rfl,rfl⟩,?_⟩|refine⟨_,⟨[_,_,_],rfl,rfl⟩,?_⟩|fail)))<;>try(conv=>whnf)
   rw[q9 h];exact iN
def M9(C:List UInt8)(n:Nat):List UInt8:=(mF C n).take n
def Ag(C:List UInt8)(n:Nat):(M9 C n).length=n:=by
 unfold M9 mF;rw[zal,zad,aW];omega
noncomputable def D8(d:Dk)(a:At)(n:Int):Int:=if aK d a≠0 then aK d a else if ¬iU n then 2 else 0
noncomputable def Jb(d:Dk)(a:At)(n:Int):Int:=if D8 d a n≠0 then D8 d a n else DJ (ar d a) (M9 (aV (ar d a)) n.toNat) (min (cG a) n) (Yk (ar d a))
noncomputable def Jf(d:Dk)(a:At)(n:Int):Dk:=if D8 d a n≠0 then zD else lQ (ar d a) (M9 (aV (ar d a)) n.toNat) (min (cG a) n) (Yk (ar d a))
noncomputable def LA(d:Dk)(a:At)(n:Int):At:=if D8 d a n≠0 then zA else jK (ar d a) (M9 (aV (ar d a)) n.toNat) (min (cG a) n) (Yk (ar d a))
def ko(ps:List PV)(r:RV):Prop:=∃(d:Dk) (a:At) (n:Int),ps=[d.pv,a.pv,pI n]/\(wU d/\a.nm.length<=1000000)/\
 r=.tup [.pv (Jf d a n).pv,.pv (LA d a n).pv,.pv (pI (Jb d a n))]
set_option maxHeartbeats 1000000 in
def V6:MT (ay [(127,xt),(156,bF wR),(113,ah dG),(111,ah gB),(145,ah tN),(157,ah Bf),(159,ah WX),(158,c8 false Ay)]) Gb (c8 false ko):=by
 rintro _ K ⟨_,⟨d,a,n,rfl,⟨h1,h2⟩,rfl⟩,hK⟩;refine⟨d,a,rfl,⟨pR h1,h2⟩,λh=>?_,λh v hv=>?_⟩
 ·have sM:=(bc h).1;have mE:=Jh sM;have cP:=J5 sM (pR h1);have fM:=sM.st h1 h2;by_cases Ax:0<=n/\n<=32768
  ·have he:D8 d a n=0:=by unfold D8 iU;rw[if_neg (λe=>e h),if_neg (λe=>e Ax)]
   unfold Jb Jf LA at hK;rw[he,if_neg z0,if_neg z0,if_neg z0]at hK;have UH:Ay [sP (ar d a),yJ (M9 (aV (ar d a)) n.toNat) (min (cG a) n) (.clo 164 [.cptr (sP (ar d a))])] _:=
    ⟨ar d a,_,_,_,_,rfl,⟨fM,by rw[Ag];omega,.size⟩,rfl⟩
   have avY:aV (ar d a)++ai (n-(aV (ar d a)).length).toNat=mF (aV (ar d a)) n.toNat:=by
    unfold mF;congr 2;omega
   unfold M9 at hK UH;have Jd:(mF (aV (ar d a)) n.toNat).length<=32768/\n.toNat<=(mF (aV (ar d a)) n.toNat).length:=by
    unfold mF;rw[zad,aW];omega
   generalize aV (ar d a)=C0 at*;generalize mF C0 n.toNat=Z at*;have Oi:cut 0 n.toNat Z=Z.take n.toNat:=Gm
   (repeat'((conv=>whnf);first|refine au Ax ?_|refine oQ ?_|refine⟨_,cP,?_⟩|rw[avY]|rw[Oi]|refine⟨_,UH,?_⟩|(refine fe ?_;first|refine aw ao ?_|refine I8 ?_|refine⟨_,⟨_,rfl,rfl⟩,?_⟩|refine⟨_,⟨_,_,rfl,rfl⟩,?_⟩|refine⟨_,⟨_,_,rfl,cZ,rfl⟩,?_⟩|refine wz ?_|refine⟨_,⟨[_,_],rfl,rfl⟩,?_⟩|fail)))<;>try(conv=>whnf)
   exact KW
  ·have he:D8 d a n=2:=by unfold D8 iU;rw[if_neg (λe=>e h),if_pos Ax]
   unfold Jb Jf LA at hK;rw[he,if_pos z2,if_pos z2,if_pos z2]at hK
   (repeat'((conv=>whnf);first|refine aw Ax ?_|(refine fe ?_;first|refine au ao ?_|refine bT ?_|refine⟨_,⟨_,rfl,rfl⟩,?_⟩|refine⟨_,⟨_,_,rfl,rfl⟩,?_⟩|refine⟨_,⟨[_,_],rfl,rfl⟩,?_⟩|fail)))<;>try(conv=>whnf)
   exact iN
 ·have he:D8 d a n=aK d a:=by unfold D8;rw[if_pos h]
  unfold Jb Jf LA at hK;rw[he,if_pos h,if_pos h,if_pos h]at hK;clear he;rcases hv with rfl|rfl
  all_goals
   (repeat'((conv=>whnf);first|refine au K1 ?_|refine λx _=>?_|(refine fe ?_;first|refine bT ?_|refine⟨_,⟨_,rfl,rfl⟩,?_⟩|refine⟨_,⟨_,_,rfl,rfl⟩,?_⟩|refine⟨_,⟨[_,_],rfl,rfl⟩,?_⟩|fail)))<;>try(conv=>whnf)
   rw[q9 h];exact iN
def sD(C:List UInt8)(f t:Nat):List UInt8:=C.take f++ai (t-f)++C.drop t
def dz(C:List UInt8)(p:Int):Int:=min p C.length
def dX(C:List UInt8)(p n:Int):Int:=min C.length (dz C p+n)
noncomputable def KF(d:Dk)(a:At)(p n:Int):Int:=if aK d a≠0 then aK d a else if ¬(iU p/\iU n)then 2 else 0
noncomputable def QC(d:Dk)(a:At)(p n:Int):List UInt8:=sD (aV (ar d a)) (dz (aV (ar d a)) p).toNat (dX (aV (ar d a)) p n).toNat
noncomputable def ju(d:Dk)(a:At)(p n:Int):Nat->Prop:=yN (ar d a) (dz (aV (ar d a)) p) (dX (aV (ar d a)) p n) (QC d a p n).length
noncomputable def jm(d:Dk)(a:At)(p n:Int):Int:=if KF d a p n≠0 then KF d a p n else if a.rs=true then 0 else Md (ar d a) (QC d a p n) a.vd (ju d a p n)
noncomputable def jU(d:Dk)(a:At)(p n:Int):Dk:=if KF d a p n≠0 then zD else if a.rs=true then d else if Md (ar d a) (QC d a p n) a.vd (ju d a p n)=0 then XY (ar d a) (QC d a p n) (ju d a p n)else zD
noncomputable def js(d:Dk)(a:At)(p n:Int):At:=if KF d a p n≠0 then zA else if a.rs=true then Hx a (QC d a p n)else if Md (ar d a) (QC d a p n) a.vd (ju d a p n)=0 then Gv (ar d a) (QC d a p n) a.vd (ju d a p n)else zA
def Xa{C:List UInt8}{f t:Nat}(h:f<=t/\t<=C.length):(sD C f t).length=C.length:=by
 unfold sD;simp only[zad,zal,zax,aW];omega
def Ss(ps:List PV)(r:RV):Prop:=∃(d:Dk) (a:At) (p n:Int),ps=[d.pv,a.pv,pI p,pI n]/\(wU d/\a.nm.length<=1000000)/\
 r=.tup [.pv (jU d a p n).pv,.pv (js d a p n).pv,.pv (pI (jm d a p n))]
set_option maxHeartbeats 1000000 in
def Zw:MT (ay [(127,xt),(156,bF wR),(113,ah dG),(111,ah gB),(145,ah tN),(165,ah EI),(166,ah Fj),(167,c8 false T_)]) Ir (c8 false Ss):=by
 rintro _ K ⟨_,⟨d,a,p,n,rfl,⟨h1,h2⟩,rfl⟩,hK⟩;refine⟨d,a,rfl,⟨pR h1,h2⟩,λh=>?_,λh v hv=>?_⟩
 ·have sM:=(bc h).1;have mE:=Jh sM;have cP:=J5 sM (pR h1);have fM:=sM.st h1 h2;by_cases Ax:(0<=p/\p<=32768)/\(0<=n/\n<=32768)
  ·have he:KF d a p n=0:=by unfold KF iU;rw[if_neg (λe=>e h),if_neg (λe=>e Ax)]
   obtain⟨hp,hn⟩:=Ax;unfold jm jU js at hK;rw[he,if_neg z0,if_neg z0,if_neg z0]at hK;have hN:QC d a p n=sD (aV (ar d a)) (dz (aV (ar d a)) p).toNat (dX (aV (ar d a)) p n).toNat:=rfl;have hQ:ju d a p n=yN (ar d a) (dz (aV (ar d a)) p) (dX (aV (ar d a)) p n) (QC d a p n).length:=rfl;have eK:(QC d a p n).length=(aV (ar d a)).length:=by rw[hN];exact Xa (by unfold dX dz;omega)
   have PA:T_ [sP (ar d a),yJ (QC d a p n) a.vd (.clo 168 [.cptr (sP (ar d a)),.cptr (rV (dz (aV (ar d a)) p) (dX (aV (ar d a)) p n)),.cptr (.str (QC d a p n))])] _:=
    ⟨ar d a,_,_,_,_,rfl,⟨fM,ab,.zero (dz (aV (ar d a)) p) (dX (aV (ar d a)) p n) (QC d a p n)⟩,rfl⟩
   rw[<-hQ]at PA;generalize ju d a p n=Qd at*;unfold dz dX dz sD at*;generalize QC d a p n=N at*;generalize aV (ar d a)=C0 at*;have Oi:cut 0 (min p (C0.length:Int)).toNat C0=C0.take (min p (C0.length:Int)).toNat:=Gm;have Cw:cut (min (C0.length:Int) (min p (C0.length:Int)+n)).toNat C0.length C0=C0.drop (min (C0.length:Int) (min p (C0.length:Int)+n)).toNat:=by unfold cut;rw[zcZ]
   have hNc:C0.take (min p (C0.length:Int)).toNat++ai (min (C0.length:Int) (min p (C0.length:Int)+n)-min p (C0.length:Int)).toNat++C0.drop (min (C0.length:Int) (min p (C0.length:Int)+n)).toNat=N:=by
    rw[hN];congr 3;omega
   cases c_:a.rs with
   |true=>
    rw[if_pos c_,if_pos c_,if_pos c_]at hK
    (repeat'((conv=>whnf);first|refine au hp ?_|refine au hn ?_|refine oQ ?_|refine⟨_,cP,?_⟩|rw[Oi]|rw[Cw]|refine zcB ah6 ?_|rw[hNc]|refine tW c_ ?_|refine⟨_,⟨ar d a,N,rfl,rfl⟩,?_⟩|(refine fe ?_;first|refine bj ab ?_|refine aw ao ?_|refine I8 ?_|refine⟨_,⟨_,rfl,rfl⟩,?_⟩|refine⟨_,⟨_,_,rfl,rfl⟩,?_⟩|refine⟨_,⟨_,rfl,cZ,rfl⟩,?_⟩|refine wz ?_|refine⟨_,⟨[_,_],rfl,rfl⟩,?_⟩|fail)))<;>try(conv=>whnf)
    exact⟨[.pv d.pv,.pv (Hx a N).pv,.pv (pI _)],⟨rfl,rfl,rfl,trivial⟩,trivial,hK⟩
   |false=>
    have xk:¬a.rs=true:=qD;rw[if_neg xk,if_neg xk,if_neg xk]at hK
    (repeat'((conv=>whnf);first|refine au hp ?_|refine au hn ?_|refine oQ ?_|refine⟨_,cP,?_⟩|rw[Oi]|rw[Cw]|refine zcB ah6 ?_|rw[hNc]|refine qT c_ ?_|refine⟨_,PA,?_⟩|(refine fe ?_;first|refine bj ab ?_|refine aw ao ?_|refine I8 ?_|refine⟨_,⟨_,rfl,rfl⟩,?_⟩|refine⟨_,⟨_,_,rfl,rfl⟩,?_⟩|refine⟨_,⟨_,rfl,cZ,rfl⟩,?_⟩|refine wz ?_|refine⟨_,⟨[_,_],rfl,rfl⟩,?_⟩|fail)))<;>try(conv=>whnf)
    exact KW
  ·have he:KF d a p n=2:=by unfold KF iU;rw[if_neg (λe=>e h),if_pos Ax]
   unfold jm jU js at hK;rw[he,if_pos z2,if_pos z2,if_pos z2]at hK;by_cases hp:0<=p/\p<=32768
   ·have hn:¬(0<=n/\n<=32768):=λhn=>Ax ⟨hp,hn⟩
    (repeat'((conv=>whnf);first|refine au hp ?_|refine aw hn ?_|(refine fe ?_;first|refine au ao ?_|refine bT ?_|refine⟨_,⟨_,rfl,rfl⟩,?_⟩|refine⟨_,⟨_,_,rfl,rfl⟩,?_⟩|refine⟨_,⟨[_,_],rfl,rfl⟩,?_⟩|fail)))<;>try(conv=>whnf)
    exact iN
   ·(repeat'((conv=>whnf);first|refine aw hp ?_|(refine fe ?_;first|refine au ao ?_|refine bT ?_|refine⟨_,⟨_,rfl,rfl⟩,?_⟩|refine⟨_,⟨_,_,rfl,rfl⟩,?_⟩|refine⟨_,⟨[_,_],rfl,rfl⟩,?_⟩|fail)))<;>try(conv=>whnf)
    exact iN
 ·have he:KF d a p n=aK d a:=by unfold KF;rw[if_pos h]
  unfold jm jU js at hK;rw[he,if_pos h,if_pos h,if_pos h]at hK;clear he;rcases hv with rfl|rfl
  all_goals
   (repeat'((conv=>whnf);first|refine au K1 ?_|(refine fe ?_;first|refine de (λ_=>?_) (λ_=>?_)|refine bT ?_|refine⟨_,⟨_,rfl,rfl⟩,?_⟩|refine⟨_,⟨_,_,rfl,rfl⟩,?_⟩|refine⟨_,⟨[_,_],rfl,rfl⟩,?_⟩|fail)))<;>try(conv=>whnf)
   all_goals
    rw[q9 h];exact iN
def Jc(pl:List Int)(i:Nat):Bool:=decide (pl[i]?.getD (-1)≠ -1)
def Ji(ps:List PV)(p:Prop):Prop:=∃(l:List Bool) (v:Bool),ps=[.sl 1 (l.map pB),pB v]/\l.length<=1000000/\p=(v∈l)
def T6:MT (ay [(227,Sn)]) jO (bF Ji):=by
 rintro args K ⟨_,⟨l,v,h1,h2,rfl⟩,hK⟩;exact VP args K ⟨l,v,h1,h2,hK⟩
def Pv(s:St)(p:Int)(tr:Rn):Prop:=0<=p/\(0<=tr.s/\tr.s<=s.d.n-1)/\(1<=tr.n/\tr.n<=s.d.n-tr.s)
instance (s:St) (p:Int) (tr:Rn):Decidable (Pv s p tr):=by unfold Pv;infer_instance
def SJ(s:St)(p:Int)(tr:Rn):Int:=
 if s.a.rs=true then 20 else if ¬Pv s p tr then 2 else if (s.pl.length:Int)-tr.n<p then 37
 else if (bt ((s.pl.drop p.toNat).take tr.n.toNat):Int)≠tr.n then 3 else if true∈((cQ (df s.d) s.d.n).drop tr.s.toNat).take tr.n.toNat then 18 else 0
def Mk(ps:List PV)(x:PV):Prop:=∃(s:St) (p:Int) (tr:Rn),ps=[sP s,pI p,tr.pv]/\adA s/\x=pI (SJ s p tr)
def LX{α β:Type}(f:α->β)(l:List α){a n:Nat}:cut a (a+n) (l.map f)=((l.drop a).take n).map f:=by
 unfold cut;rw[zdl,show a+n-a=n by omega,zdd,zdf]
set_option maxHeartbeats 1000000 in
def acp:MT (ay [(124,ah bA),(193,bF bG),(113,ah dG),(111,ah gB),(142,c8 true xj),(194,ah Uc),(195,bF Ji)]) tx (ah Mk):=by
 rintro _ K ⟨_,⟨s,p,tr,rfl,h,rfl⟩,hK⟩;have mW:=h.a_;have kr:=h.n;have Ee:=h.len;have ab6:xj [s.d.pv] (.fresh 4 1 ((cQ (df s.d) s.d.n).map pB)):=⟨s.d,rfl,⟨ab,h.mp,h.bm⟩,by rw[<-W_]⟩
 have XJ:(s.pl.map pI).length=s.pl.length:=zav _;by_cases c_:s.a.rs=true
 ·have he:SJ s p tr=20:=by unfold SJ;rw[if_pos c_]
  rw[he]at hK
  (repeat'((conv=>whnf);first|refine⟨_,⟨s.d,rfl,ab,rfl⟩,?_⟩|refine aw (p:=s.a.rs=false) qD ?_|refine au (by rw[q9 ao];decide) ?_|(refine fe ?_;first|refine bj ab ?_|refine de (λ_=>?_) (λ_=>?_)|refine bT ?_|refine⟨_,⟨_,_,rfl,rfl⟩,?_⟩|refine⟨_,⟨_,_,_,rfl,rfl⟩,?_⟩|refine⟨_,⟨[_,_],rfl,rfl⟩,?_⟩|fail)))<;>try(conv=>whnf)
  all_goals exact aG
 have aDY:s.a.rs=false:=by simpa using c_
 by_cases di:Pv s p tr
 ·have UF:=di;unfold Pv at di;by_cases adL:(s.pl.length:Int)-tr.n<p
  ·have he:SJ s p tr=37:=by unfold SJ;rw[if_neg c_,if_neg (λe=>e UF),if_pos adL]
   rw[he]at hK
   (repeat'((conv=>whnf);first|refine⟨_,⟨s.d,rfl,ab,rfl⟩,?_⟩|refine au (p:=s.a.rs=false) aDY ?_|refine oQ ?_|refine au xI ?_|(refine fe ?_;first|refine bj ab ?_|refine au ab ?_|refine aw ao ?_|refine⟨_,⟨_,_,rfl,rfl⟩,?_⟩|refine⟨_,⟨_,_,_,rfl,rfl⟩,?_⟩|refine⟨_,⟨[_,_],rfl,rfl⟩,?_⟩|fail)))<;>try(conv=>whnf)
   all_goals exact aG
  ·have HR:cut p.toNat (p+tr.n).toNat (s.pl.map pI)=((s.pl.drop p.toNat).take tr.n.toNat).map pI:=by
    rw[show(p+tr.n).toNat=p.toNat+tr.n.toNat by omega,LX]
   have aoI:cut tr.s.toNat (tr.s+tr.n).toNat ((cQ (df s.d) s.d.n).map pB)=(((cQ (df s.d) s.d.n).drop tr.s.toNat).take tr.n.toNat).map pB:=by
    rw[show(tr.s+tr.n).toNat=tr.s.toNat+tr.n.toNat by omega,LX]
   have he:SJ s p tr=if (bt ((s.pl.drop p.toNat).take tr.n.toNat):Int)≠tr.n then 3 else if true∈((cQ (df s.d) s.d.n).drop tr.s.toNat).take tr.n.toNat then 18 else 0:=by
    unfold SJ;rw[if_neg c_,if_neg (λe=>e UF),if_neg adL]
   rw[he]at hK;have Gn:((cQ (df s.d) s.d.n).map pB).length=s.d.n:=by rw[zav,ck]
   have hu:=oG ((s.pl.drop p.toNat).take tr.n.toNat);rw[zal]at hu;have aQy:(((cQ (df s.d) s.d.n).drop tr.s.toNat).take tr.n.toNat).length<=1000:=eI;have hUl:((s.pl.drop p.toNat).take tr.n.toNat).length<=1000:=Rb;generalize ((cQ (df s.d) s.d.n).drop tr.s.toNat).take tr.n.toNat=B2 at*;generalize (s.pl.drop p.toNat).take tr.n.toNat=U at*;generalize (cQ (df s.d) s.d.n).map pB=BR at*;clear he
   (repeat'((conv=>whnf);first|refine⟨_,⟨s.d,rfl,ab,rfl⟩,?_⟩|refine au (p:=s.a.rs=false) aDY ?_|refine aw xI ?_|refine⟨_,ab6,?_⟩|refine oQ ?_|rw[HR]|refine⟨_,⟨U,rfl,ab,rfl⟩,?_⟩|(refine fe ?_;first|refine bj ab ?_|refine au ab ?_|refine aw ao ?_|refine de (λ_=>?_) (λ_=>?_)|refine⟨_,⟨_,_,rfl,rfl⟩,?_⟩|refine⟨_,⟨_,_,_,rfl,rfl⟩,?_⟩|refine wz ?_|refine⟨_,⟨[_,_],rfl,rfl⟩,?_⟩|fail)))<;>try(conv=>whnf)
   ·rename_i hx;refine Or.inl ?_
    (conv=>whnf)
    refine wz ?_
    (conv=>whnf)
    refine wz ?_
    (conv=>whnf)
    rw[aoI];refine⟨_,⟨B2,true,rfl,ab,rfl⟩,?_⟩
    (conv=>whnf)
    refine de (λhb=>?_) (λhb=>?_)
    ·(conv=>whnf)
     refine aN ?_
     (conv=>whnf)
     refine⟨_,⟨false,18,rfl,rfl⟩,?_⟩
     (conv=>whnf)
     refine bT ?_
     (conv=>whnf)
     refine⟨_,⟨[_,_],rfl,rfl⟩,?_⟩
     (conv=>whnf)
     refine oQ ?_
     (conv=>whnf)
     exact⟨.pv (pI _),bu (by rw[if_neg (λe=>e hx),if_pos hb];rfl),trivial,hK⟩
    ·(conv=>whnf)
     refine bP ?_
     (conv=>whnf)
     refine⟨_,⟨true,18,rfl,rfl⟩,?_⟩
     (conv=>whnf)
     refine bT ?_
     (conv=>whnf)
     refine⟨_,⟨[_,_],rfl,rfl⟩,?_⟩
     (conv=>whnf)
     refine oQ ?_
     (conv=>whnf)
     exact⟨.pv (pI _),bu (by rw[if_neg (λe=>e hx),if_neg hb];rfl),trivial,hK⟩
   ·rename_i hx;refine Or.inl ?_
    (conv=>whnf)
    refine wz ?_
    (conv=>whnf)
    refine wz ?_
    (conv=>whnf)
    rw[aoI];refine⟨_,⟨B2,true,rfl,ab,rfl⟩,?_⟩
    (conv=>whnf)
    refine de (λhb=>?_) (λhb=>?_)
    ·(conv=>whnf)
     refine aN ?_
     (conv=>whnf)
     refine⟨_,⟨false,18,rfl,rfl⟩,?_⟩
     (conv=>whnf)
     refine bT ?_
     (conv=>whnf)
     refine⟨_,⟨[_,_],rfl,rfl⟩,?_⟩
     (conv=>whnf)
     refine oQ ?_
     (conv=>whnf)
     exact⟨.pv (pI _),bu (by rw[if_pos hx];rfl),trivial,hK⟩
    ·(conv=>whnf)
     refine bP ?_
     (conv=>whnf)
     refine⟨_,⟨true,18,rfl,rfl⟩,?_⟩
     (conv=>whnf)
     refine bT ?_
     (conv=>whnf)
     refine⟨_,⟨[_,_],rfl,rfl⟩,?_⟩
     (conv=>whnf)
     refine oQ ?_
     (conv=>whnf)
     exact⟨.pv (pI _),bu (by rw[if_pos hx];rfl),trivial,hK⟩
 ·have he:SJ s p tr=2:=by unfold SJ;rw[if_neg c_,if_pos di]
  rw[he]at hK;unfold Pv at di
  (repeat'((conv=>whnf);first|refine⟨_,⟨s.d,rfl,ab,rfl⟩,?_⟩|refine au (p:=s.a.rs=false) aDY ?_|(refine fe ?_;first|refine bj ab ?_|refine aw ab ?_|refine au ao ?_|refine de (λ_=>?_) (λ_=>?_)|refine bT ?_|refine⟨_,⟨_,_,rfl,rfl⟩,?_⟩|refine⟨_,⟨_,_,_,rfl,rfl⟩,?_⟩|refine⟨_,⟨[_,_],rfl,rfl⟩,?_⟩|fail)))<;>try(conv=>whnf)
  all_goals exact aG
instance (a b:Rn):Decidable (iy a b):=by unfold iy;infer_instance
def y4(acc:List Rn)(r:Rn):List Rn:=
 match acc.getLast? with
 |some q=>if iy q r then acc.dropLast++[⟨q.s,q.n+r.n⟩]else acc++[r]
 |none=>[r]
def du(acc:List Rn):aF:=match acc with
 |[]=>[.box 262 [.pv (.nil 2)]]
 |acc=>[.box 262 [.own 1],.row 37 2 true (acc.map Rn.pv)]
def lZ(acc:List Rn):aF:=[.box 262 [.own 2],.dead,.row 37 2 true (acc.map Rn.pv)]
def jd{acc:List Rn}(h:acc≠[]):du acc=[.box 262 [.own 1],.row 37 2 true (acc.map Rn.pv)]:=by
 cases acc with
 |nil=>exact kN
 |cons _ _=>rfl
def xl(acc:List Rn)(r:Rn):y4 acc r≠[]:=by
 unfold y4;split
 ·split<;>simp
 ·simp
def yX(r:Rn):Prop:= -1000000000<=r.s/\r.s<=1000000000/\ -1000000000<=r.n/\r.n<=1000000000
def arH(xs:List AV)(σ:aF)(K:AV->aF->Prop):Prop:=∃(acc:List Rn) (r:Rn),xs=[.ref 0 0 0,.pv r.pv]/\(acc.length<=100000/\yX r∧∀q∈acc,yX q)/\σ=du acc/\K (.tup []) (du (y4 acc r))/\(acc≠[]->K (.tup []) (lZ (y4 acc r)))
def aqm:gO (ay [(247,bF Ab)]) Ie (sB arH):=by
 rintro _ _ K ⟨acc,r,rfl,⟨h1,h2,h3⟩,rfl,hK,xy⟩;unfold yX at h2;cases UB:acc.getLast? with
 |none=>
  have:acc=[]:=Ka;subst this
  (repeat'((conv=>whnf);first|refine oQ ?_|refine zcB (by simp;first|done|fail) ?_|refine aw ao ?_|refine dq λ_=>?_|fail))<;>try(conv=>whnf)
  exact hK
 |some q=>
  have cb:acc≠[]:=aaF;have Gq:0<acc.length:=zcb.2 cb;have hg:acc[((acc.length:Int)-1).toNat]?=some q:=by
   rw[<-UB,zc5];congr 1;omega
  have hq:=h3 q (zc3 UB);unfold yX at hq;have BW:y4 acc r=if iy q r then acc.dropLast++[(⟨q.s,q.n+r.n⟩:Rn)]else acc++[r]:=by
   unfold y4;rw[UB]
  have LO:(acc.map Rn.pv).set ((acc.length:Int)-1).toNat (PV.agg [pI q.s,pI (q.n+r.n)])=(acc.dropLast++[(⟨q.s,q.n+r.n⟩:Rn)]).map Rn.pv:=by
   rw[show((acc.length:Int)-1).toNat=acc.length-1 by omega];have e:acc.dropLast++[q]=acc:=by
    have e1:=zdc cb;rw[zdb cb]at UB;rw[<-Option.some.inj UB];exact e1
   have e2:acc.length-1=(acc.dropLast.map Rn.pv).length:=aj;have e3:acc.map Rn.pv=acc.dropLast.map Rn.pv++[q.pv]:=by
    conv=>lhs;rw[<-e]
    rw[zbu];rfl
   rw[e2,e3,zcF _ _ (zai _),zck,zbu];rfl
  have gJ:(acc.map Rn.pv).length=acc.length:=zav _;rw[jd (xl acc r),BW]at hK;have xy:=xy cb;unfold lZ at xy;rw[BW]at xy;rw[jd cb]
  (repeat'((conv=>whnf);first|refine oQ ?_|refine⟨_,⟨q,r,rfl,⟨by unfold I3;omega,by unfold I3;omega⟩,rfl⟩,?_⟩|refine bj ab ?_|refine au ab ?_|refine de (λ_=>?_) (λ_=>?_)|refine dq λ_=>?_|refine uM aA ?_|refine Q3 ab ?_|refine zcB cu ?_|fail))<;>try(conv=>whnf)
  ·rename_i hj;rw[if_pos hj,<-LO]at hK;exact hK
  ·rename_i hj;rw[if_neg hj,zbu]at xy;exact xy
def h_(acc l:List Rn):List Rn:=l.foldl y4 acc
def FJ{acc l:List Rn}{n:Nat}{r:Rn}(h:l[n]?=some r):h_ acc (l.take (n+1))=y4 (h_ acc (l.take n)) r:=by
 unfold h_;rw[zcX,h];simp
def au1(acc:List Rn)(r:Rn):(y4 acc r).length<=acc.length+1:=by
 unfold y4;split
 ·split
  ·simp
  ·simp
 ·simp
def X3(acc:List Rn):∀l:List Rn,(h_ acc l).length<=acc.length+l.length:=by
 intro l
 induction l generalizing acc with
 |nil=>simp[h_]
 |cons r l ih=>
  have:=ih (y4 acc r);have:=au1 acc r;simp only[h_,List.foldl_cons,zam]at*;omega
def FE(l m:List Rn):bI (l++m)=bI l+bI m:=by simp[bI]
def asZ{P:Rn->Prop}{acc:List Rn}{r:Rn}(h:∀q∈acc,P q)(hr:P r)(hj:∀q∈acc,iy q r->P ⟨q.s,q.n+r.n⟩):∀q∈y4 acc r,P q:=by
 intro q hq;unfold y4 at hq;split at hq
 ·rename_i x hx;have hm:=zc3 hx;split at hq
  ·rename_i Gx;rcases zaA.1 hq with h1|h1
   ·exact h q (zdm _ h1)
   ·rw[zc2.1 h1];exact hj x hm Gx
  ·rcases zaA.1 hq with h1|h1
   ·exact h q h1
   ·rw[zc2.1 h1];exact hr
 ·rw[zc2.1 hq];exact hr
def rO(r:Rn):Prop:=1<=r.n/\r.n<=4096/\(r.s= -1\/(0<=r.s/\r.s+r.n<=512))
def nV(k:Int)(r:Rn):Prop:=1<=r.n/\r.n<=k/\(r.s= -1\/(0<=r.s/\r.s+r.n<=512))
def aCF{acc:List Rn}{r:Rn}{k:Int}(h:∀q∈acc,nV k q)(hr:rO r)(hk:0<=k):∀q∈y4 acc r,nV (k+r.n) q:=by
 unfold rO at hr;refine asZ (λq hq=>?_) ?_ λq hq hj=>?_
 ·have:=h q hq;unfold nV at*;omega
 ·unfold nV;omega
 ·have:=h q hq;unfold iy at hj;unfold nV at*;simp only;omega
def au4{l:List Rn}:∀{acc:List Rn} {k:Int},(∀q∈acc,nV k q)->0<=k->(∀r∈l,rO r)→∀q∈h_ acc l,nV (k+bI l) q:=by
 induction l with
 |nil=>intro acc k h _ _;simpa[h_,bI]using h
 |cons r l ih=>
  intro acc k h hk hl;have hr:=hl r aj;have:=ih (acc:=y4 acc r) (k:=k+r.n) (aCF h hr hk) (by unfold rO at hr;omega) λq hq=>hl q kF
  rw[gS];have e:k+(r.n+bI l)=k+r.n+bI l:=ab;rw[e];exact this
def abp(xs:List AV)(σ:aF)(K:AV->aF->Prop):Prop:=∃(acc l:List Rn) (k:Int),xs=[.ref 0 0 0,.pv (.sl 2 (l.map Rn.pv))]/\(acc.length<=1000/\l.length<=1000/\(0<=k/\k<=100000)/\(∀q∈acc,nV k q)∧∀q∈l,rO q)/\σ=du acc/\K (.tup []) (du (h_ acc l))/\(acc≠[]->K (.tup []) (lZ (h_ acc l)))
set_option maxHeartbeats 1000000 in
def agx:gO (ay [(256,sB arH)]) BA (sB abp):=by
 rintro _ _ K ⟨acc,l,k,rfl,⟨h1,h2,h3,h4,h5⟩,rfl,hK,xy⟩;have gJ:(l.map Rn.pv).length=l.length:=zav _;have aHt:∀n:Nat,0<=bI (l.take n)/\bI (l.take n)<=4096*n:=λn=>by
  induction n with
  |zero=>simp[bI]
  |succ n ih=>
   by_cases aU:n<l.length
   ·have hx:l[n]?=some l[n]:=zah aU;have:=h5 _ (zag hx);unfold rO at this;rw[zcX,hx,FE];simp only[zdq,bI,zat,List.map_nil,List.sum_cons,List.sum_nil]at*;omega
   ·rw[za1 ab]at ih ⊢;omega
 have hC:∀n:Nat,n<=l.length→∀q∈h_ acc (l.take n),yX q:=λn hn q hq=>by
  have:=au4 h4 h3.1 (λr hr=>h5 r (zaL hr)) q hq;have:=aHt n;unfold nV at*;unfold yX;omega
 have hL:∀n:Nat,(h_ acc (l.take n)).length<=2000:=λn=>by
  have:=X3 acc (l.take n);rw[zal]at this;omega
 have hR:∀r∈l,yX r:=λr hr=>by
  have:=h5 r hr;unfold rO at this;unfold yX;omega
 by_cases cb:acc=[]
 ·subst cb
  (repeat'((conv=>whnf);first|refine dq λ_=>?_|fail))<;>try(conv=>whnf)
  refine⟨λm env σ=>∃n:Nat,n+m=l.length/\σ=du (h_ [] (l.take n))/\env=[(0,.ref 0 0 0),(6,.pv (.sl 2 (l.map Rn.pv))),eN 7 l.length,eN 8 n],l.length,⟨0,ab,rfl,rfl⟩,?_⟩;rintro m env σ ⟨n,hn,rfl,rfl⟩;by_cases aU:n<l.length
  ·obtain⟨r,hr⟩:∃r,l[n]?=some r:=⟨_,zah aU⟩
   have hT:=FJ (acc:=[]) hr;have MQ:=hC n ab;have hLn:=hL n;have zL:=hR r (zag hr);clear hK xy hC hL;generalize hA:h_ [] (l.take n)=A at*;by_cases PG:A=[]
   ·rw[PG,show du []=[.box 262 [.pv (.nil 2)]]from rfl];rw[PG]at hT;have zH:du (y4 [] r)=[.box 262 [.own 1],.row 37 2 true ([r].map Rn.pv)]:=rfl;have S0:du (h_ [] (l.take (n+1)))=[.box 262 [.own 1],.row 37 2 true ([r].map Rn.pv)]:=rY
    (repeat'((conv=>whnf);first|refine au ab ?_|refine iY aA ?_|refine bT ?_|fail))<;>try(conv=>whnf)
    refine⟨[],r,rfl,⟨aj,zL,λq hq=>by cases hq⟩,rfl,?_,λh=>absurd rfl h⟩;rw[zH]
    (repeat'((conv=>whnf);first|refine bj ab ?_|fail))<;>try(conv=>whnf)
    exact Z1
   ·rw[jd PG];have S0:du (h_ [] (l.take (n+1)))=du (y4 A r):=by rw[hT]
    rw[jd (xl A r)]at S0
    (repeat'((conv=>whnf);first|refine au ab ?_|refine iY aA ?_|refine bT ?_|fail))<;>try(conv=>whnf)
    refine⟨A,r,rfl,⟨ab,zL,MQ⟩,(jd PG).symm,?_,λ_=>?_⟩
    ·rw[jd (xl A r)]
     (repeat'((conv=>whnf);first|refine bj ab ?_|fail))<;>try(conv=>whnf)
     exact Z1
    ·unfold lZ
     (repeat'((conv=>whnf);first|refine bj ab ?_|fail))<;>try(conv=>whnf)
     exact Z1
  ·have hn:n=l.length:=by omega
   subst hn;rw[zcZ];by_cases PG:h_ [] l=[]
   ·rw[PG]at hK ⊢
    (repeat'((conv=>whnf);first|refine aw ab ?_|fail))<;>try(conv=>whnf)
    exact hK
   ·rw[jd PG]at hK ⊢
    (repeat'((conv=>whnf);first|refine aw ab ?_|fail))<;>try(conv=>whnf)
    exact hK
 ·rw[jd cb];have cM:∀n:Nat,h_ acc (l.take n)≠[]:=λn=>by
   cases n with
   |zero=>simpa[h_]using cb
   |succ n=>
    by_cases aU:n<l.length
    ·rw[FJ (zah aU)];exact xl _ _
    ·cases cH:l.getLast? with
     |none=>
      have:l=[]:=by simpa using cH
      subst this;simpa[h_]using cb
     |some q=>
      have eK:l≠[]:=by intro e;subst e;cases cH
      rw[za1 ab,<-zcZ (l:=l),show l.length=l.length-1+1 by have:=zcb.2 eK;omega,
       FJ (zah (by have:=zcb.2 eK;omega))]
      exact xl _ _
  have xy:=xy cb
  (repeat'((conv=>whnf);first|refine dq λ_=>?_|fail))<;>try(conv=>whnf)
  refine⟨λm env σ=>∃n:Nat,n+m=l.length/\(σ=du (h_ acc (l.take n))\/σ=lZ (h_ acc (l.take n)))/\env=[(0,.ref 0 0 0),(6,.pv (.sl 2 (l.map Rn.pv))),eN 7 l.length,eN 8 n],l.length,⟨0,ab,.inl (jd cb).symm,rfl⟩,?_⟩;rintro m env σ ⟨n,hn,hσ,rfl⟩;by_cases aU:n<l.length
  ·obtain⟨r,hr⟩:∃r,l[n]?=some r:=⟨_,zah aU⟩
   have hT:=FJ (acc:=acc) hr;have MQ:=hC n ab;have hLn:=hL n;have PG:=cM n;have zL:=hR r (zag hr);clear hK xy hC hL;generalize hA:h_ acc (l.take n)=A at*;have S0:du (h_ acc (l.take (n+1)))=du (y4 A r):=by rw[hT]
   have JF:lZ (h_ acc (l.take (n+1)))=lZ (y4 A r):=by rw[hT]
   rw[jd (xl A r)]at S0;unfold lZ at JF;rw[jd PG]at hσ;rcases hσ with rfl|rfl
   ·(repeat'((conv=>whnf);first|refine au ab ?_|refine iY aA ?_|refine bT ?_|fail))<;>try(conv=>whnf)
    refine⟨A,r,rfl,⟨ab,zL,MQ⟩,(jd PG).symm,?_,λ_=>?_⟩
    ·rw[jd (xl A r)]
     (repeat'((conv=>whnf);first|refine bj ab ?_|fail))<;>try(conv=>whnf)
     exact⟨m-1,ab,n+1,ab,.inl S0.symm,rfl⟩
    ·unfold lZ
     (repeat'((conv=>whnf);first|refine bj ab ?_|fail))<;>try(conv=>whnf)
     exact ZU
   ·unfold lZ
    (repeat'((conv=>whnf);first|refine au ab ?_|refine iY aA ?_|refine bT ?_|fail))<;>try(conv=>whnf)
    refine⟨A,r,rfl,⟨ab,zL,MQ⟩,(jd PG).symm,?_,λ_=>?_⟩
    ·rw[jd (xl A r)]
     (repeat'((conv=>whnf);first|refine bj ab ?_|fail))<;>try(conv=>whnf)
     exact ZU
    ·unfold lZ
     (repeat'((conv=>whnf);first|refine bj ab ?_|fail))<;>try(conv=>whnf)
     exact ZU
  ·have hn:n=l.length:=by omega
   subst hn;rw[zcZ]at hσ;have PG:=cM l.length;rw[zcZ]at PG;rw[jd PG]at hσ hK;rcases hσ with rfl|rfl
   ·(repeat'((conv=>whnf);first|refine aw ab ?_|fail))<;>try(conv=>whnf)
    exact hK
   ·unfold lZ at*
    (repeat'((conv=>whnf);first|refine aw ab ?_|fail))<;>try(conv=>whnf)
    exact xy
def BF(l:List Rn)(n:Nat):Prop:=∀k,k<n→∀r,l[k]?=some r→∀c,c<512->r.has c=true->Bc l k c=false
def asv{l:List Rn}{n:Nat}{x:Rn}(hx:l[n]?=some x):BF l (n+1)↔BF l n∧∀c,c<512->x.has c=true->Bc l n c=false:=by
 unfold BF;constructor
 ·intro h;exact⟨λk hk=>h k ab,λc hc hh=>h n ab x hx c hc hh⟩
 ·rintro⟨h1,h2⟩ k hk r hr;rcases zc0 (zc1 hk)with h|h
  ·exact h1 k h r hr
  ·subst h;rw[hx]at hr;cases hr;exact h2
noncomputable def ny(l:List Rn):Int:=open Classical in if ¬BF l l.length then 23 else if bI l<=4096/\l.length<=64 then 0 else 8
def ak4(xs:List AV)(σ:aF)(K:AV->aF->Prop):Prop:=∃acc:List Rn,xs=[.ref 0 0 0]/\(acc≠[]/\acc.length<=1000∧∀q∈acc,jZ q)/\σ=du acc/\(ny acc=0->K (.tup [.own 1,.pv (pI 0)]) (du acc))/\(ny acc≠0->K (.tup [.own 2,.pv (pI (ny acc))]) (du acc++[.row 37 2 true []]))
set_option maxHeartbeats 1000000 in
def al3:gO (ay [(248,sB ag6),(229,ah dG),(197,ah iu),(228,ah gB)]) EG (sB ak4):=by
 rintro _ _ K ⟨acc,rfl,⟨h0,h1,h2⟩,rfl,Gt,xy⟩;have gJ:(acc.map Rn.pv).length=acc.length:=zav _;rw[jd h0]at Gt xy ⊢;have hS:yP acc:=⟨h1,λr hr=>by have:=rG (h2 r hr);omega⟩
 (repeat'((conv=>whnf);first|refine dq λ_=>?_|fail))<;>try(conv=>whnf)
 refine⟨λm env σ=>∃(n:Nat) (fr:Bool) (L:List Bool),(n+m=acc.length/\mc L (Bc acc n)/\(fr=true↔BF acc n))/\σ=[.box 262 [.own 1],.row 37 2 true (acc.map Rn.pv),Yi L]/\env=[(0,.ref 0 0 0),(4,.ref 2 0 0),(5,.pv (pB fr)),(12,.own 1),eN 13 acc.length,eN 14 n],acc.length,⟨0,true,List.replicate 512 false,⟨ab,aF7 _,by simp[BF]⟩,by unfold Yi;rw[zcm],rfl⟩,?_⟩;rintro m env σ ⟨n,fr,L,⟨hn,hL,pe⟩,rfl,rfl⟩;by_cases aU:n<acc.length
 ·obtain⟨x,hx⟩:∃x,acc[n]?=some x:=⟨_,zah aU⟩
  have SI:=h2 x (zag hx);have D_:=asv hx;clear Gt xy
  (repeat'((conv=>whnf);first|refine⟨x,_,L,rfl,⟨SI,hL⟩,rfl,λok L' di y3=>?_⟩|refine au ab ?_|refine uM aA ?_|refine Q3 ab ?_|refine bT ?_|fail))<;>try(conv=>whnf)
  have MK:=y3.congr λc _=>(KY hx).symm
  cases ok with
  |true=>
   (repeat'((conv=>whnf);first|refine bj ab ?_|fail))<;>try(conv=>whnf)
   exact⟨m-1,ab,n+1,fr,L',⟨ab,MK,by rw[pe,D_];exact⟨λh=>⟨h,di.1 rfl⟩,λh=>h.1⟩⟩,rfl,rfl⟩
  |false=>
   (repeat'((conv=>whnf);first|refine bj ab ?_|fail))<;>try(conv=>whnf)
   exact⟨m-1,ab,n+1,false,L',⟨ab,MK,by rw[D_];exact Iff.intro (λh=>bV) (λh=>di.2 h.2)⟩,rfl,rfl⟩
 ·have hn:n=acc.length:=by omega
  subst hn;have hE:ny acc=if fr=true then(if bI acc<=4096/\acc.length<=64 then 0 else 8)else 23:=by
   unfold ny;cases fr with
   |true=>rw[if_neg (λe=>e (pe.1 rfl)),if_pos rfl]
   |false=>rw[if_pos (λe=>by have:=pe.2 e;cases this),if_neg ao]
  have qH:iu [.sl 2 (acc.map Rn.pv)] (pI (bI acc)):=⟨.sl acc,rfl,hS,rfl⟩
  cases fr with
  |true=>
   rw[if_pos rfl]at hE
   (repeat'((conv=>whnf);first|refine oQ ?_|refine⟨_,qH,?_⟩|(refine fe ?_;first|refine aw ab ?_|refine au ao ?_|refine aw ao ?_|refine de (λ_=>?_) (λ_=>?_)|refine⟨_,⟨_,_,rfl,rfl⟩,?_⟩|refine⟨_,⟨[_,_],rfl,rfl⟩,?_⟩|fail)))<;>try(conv=>whnf)
   ·exact Gt (by rw[hE,if_pos ab])
   all_goals
    have Ao:ny acc=8:=by rw[hE,if_neg ab]
    have:=xy (by rw[Ao];decide);rw[Ao]at this;exact this
  |false=>
   rw[if_neg ao]at hE;have:=xy (by rw[hE];decide);rw[hE]at this
   (repeat'((conv=>whnf);first|refine oQ ?_|refine⟨_,qH,?_⟩|(refine fe ?_;first|refine aw ab ?_|refine au ao ?_|refine de (λ_=>?_) (λ_=>?_)|refine⟨_,⟨_,_,rfl,rfl⟩,?_⟩|refine⟨_,⟨[_,_],rfl,rfl⟩,?_⟩|fail)))<;>try(conv=>whnf)
   all_goals exact this
def ee(st:List Rn×Int×Int)(r:Rn):List Rn×Int×Int:=
 (st.1++(if min st.2.2 (r.n-min st.2.1 r.n)=0 then[]else[⟨if r.s= -1 then-1 else r.s+min st.2.1 r.n,min st.2.2 (r.n-min st.2.1 r.n)⟩]),
   st.2.1-min st.2.1 r.n,st.2.2-min st.2.2 (r.n-min st.2.1 r.n))
def NB(l:List Rn)(f n:Int):List Rn×Int×Int:=l.foldl ee ([],f,n)
def ajG{l:List Rn}{f n:Int}{k:Nat}{r:Rn}(h:l[k]?=some r):NB (l.take (k+1)) f n=ee (NB (l.take k) f n) r:=by
 unfold NB;rw[zcX,h];simp
def aze{l:List Rn}{f n:Int}(hf:0<=f/\0<=n)(hl:∀r∈l,jZ r):∀k,((NB (l.take k) f n).1.length<=k/\(0<=(NB (l.take k) f n).2.1/\(NB (l.take k) f n).2.1<=f)/\0<=(NB (l.take k) f n).2.2/\(NB (l.take k) f n).2.2<=n)∧∀q∈(NB (l.take k) f n).1,rO q:=by
 intro k
 induction k with
 |zero=>simp[NB];omega
 |succ k ih=>
  by_cases aU:k<l.length
  ·have hx:l[k]?=some l[k]:=zah aU;have hr:=rG (hl _ (zag hx));rw[ajG hx];generalize l[k]=r at*;generalize NB (l.take k) f n=st at*;obtain⟨out,f',n'⟩:=st;simp only at ih;obtain⟨⟨i1,i2,i3⟩,i4⟩:=ih;unfold ee;simp only;refine⟨⟨?_,ab,ab⟩,λq hq=>?_⟩
   ·rw[zad];split<;>simp<;>omega
   ·rcases zaA.1 hq with h|h
    ·exact i4 q h
    ·split at h
     ·cases h
     ·rw[zc2]at h;subst h;unfold rO;simp only;split<;>omega
  ·rw[za1 ab]at ih ⊢;refine⟨⟨ab,ih.1.2⟩,ih.2⟩
def YT(ps:List PV)(r:RV):Prop:=∃(s:Rs) (f n:Int),ps=[qF s,pI f,pI n]/\((0<=f/\f<=100000)/\(0<=n/\n<=100000)/\s.l.length<=1000∧∀r∈s.l,jZ r)/\r=.fresh 37 2 ((NB s.l f n).1.map Rn.pv)
set_option maxHeartbeats 1000000 in
def alA:MT (ay [(233,bF BJ)]) Va (c8 true YT):=by
 rintro _ K ⟨_,⟨s,f,n,rfl,⟨h1,h2,h3,h4⟩,rfl⟩,hK⟩
 (repeat'((conv=>whnf);first|refine KP ?_|refine dq λ_=>?_|fail))<;>try(conv=>whnf)
 refine⟨λm env σ=>∃k:Nat,k+m=s.l.length/\σ=[.row 37 2 true ((NB (s.l.take k) f n).1.map Rn.pv)]/\env=[eN 1 (NB (s.l.take k) f n).2.1,eN 2 (NB (s.l.take k) f n).2.2,(7,.own 0),(13,.pv (qF s)),eN 14 s.l.length,eN 15 k],s.l.length,⟨0,ab,rfl,rfl⟩,?_⟩;rintro m env σ ⟨k,hk,rfl,rfl⟩;obtain⟨⟨b1,b2,b3⟩,_⟩:=aze (f:=f) (n:=n) ⟨ab,ab⟩ h4 k;by_cases aU:k<s.l.length
 ·obtain⟨x,hx⟩:∃x,s.l[k]?=some x:=⟨_,zah aU⟩
  have hT:=ajG (f:=f) (n:=n) hx;have hr:=rG (h4 _ (zag hx));clear hK;generalize NB (s.l.take k) f n=st at*;unfold ee at hT;generalize st.1=out at*;generalize st.2.1=f' at*;generalize st.2.2=n' at*;have sS:(out.map Rn.pv).length=out.length:=zav _
  (repeat'((conv=>whnf);first|refine Ek hx ?_|(refine fe ?_;first|refine bj ab ?_|refine aN ?_|refine bP ?_|refine au ab ?_|refine de (λ_=>?_) (λ_=>?_)|refine I8 ?_|refine bT ?_|refine⟨_,⟨_,rfl,rfl⟩,?_⟩|refine zcB cu ?_|fail)))<;>try(conv=>whnf)
  ·rename_i h0;exact⟨m-1,ab,k+1,ab,by rw[hT];simp only[if_pos h0];rw[zbf],rY⟩
  ·rename_i h0 hh;rw[if_neg h0,if_pos hh]at hT;exact⟨m-1,ab,k+1,ab,by rw[hT];simp[Rn.pv],rY⟩
  ·rename_i h0 hh;rw[if_neg h0,if_neg hh]at hT;exact⟨m-1,ab,k+1,ab,by rw[hT];simp[Rn.pv],rY⟩
 ·(repeat'((conv=>whnf);first|refine aw ab ?_|fail))<;>try(conv=>whnf)
  rw[za1 ab];exact vj
end Go.Dv.Try
