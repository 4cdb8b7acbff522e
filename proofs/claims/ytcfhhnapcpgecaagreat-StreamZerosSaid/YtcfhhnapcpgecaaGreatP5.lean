/- Own work: parts of the proof, shortened and laid together by a tool of our own. -/
import Derived.Test.YtcfhhnapcpgecaaGreatP4
import Derived.KernelRfl
set_option linter.defProp false
set_option linter.unusedSimpArgs false
set_option linter.unusedVariables false
open List renaming getElem?_eq_getElem→zah, length_append→zad, take_of_length_le→za1, mem_of_getElem?→zag, take_add_one→zcF, length_map→zav, length_take→zal, getElem?_eq_some_iff→zaa, getElem?_map→za9, mem_range→zbm, map_append→zbu, mem_map→zaX, length_cons→zam, getElem?_drop→zaB, length_drop→zax, drop_eq_nil_of_le→zb8, append_assoc→zaj, getElem?_range→zbA, drop_drop→zaQ, range_succ→zdk, take_length→zcN, getElem?_eq_none→zaK, pairwise_iff_getElem→zdl, getElem?_append_left→zaq, mem_of_mem_take→zaL, flatMap_cons→zan, eq_nil_of_length_eq_zero→zae, getElem?_append_right→zak, ext_getElem?→zba, getElem?_take_of_lt→zcY, flatMap_append→zaz, dropLast_concat_getLast→zdm, pairwise_append→zdn, append_nil→zbf, mem_singleton→zdo, getElem?_cons_zero→zdp, pairwise_singleton→zdq, getElem?_set_self→zbL, pairwise_flatMap→zdr, length_singleton→zbN, mem_iff_getElem?→zaE, mem_of_getLast?→zds, map_set→zdt, getLast?_eq_some_getLast→zdu, length_pos_iff→zcH, drop_zero→zdv, drop_take→zdw, drop_left→zbk, filter_append→zbT, pairwise_cons→zdx, cons_append→zbd, mem_flatMap→zbB, flatMap_map→zdy, getElem_mem→zdh, getElem?_replicate→zcZ, mem_append→zaA, filter_eq_nil_iff→zdz, getElem?_dropLast→zdA, length_filter_le→zdB, set_append_right→zc5, length_replicate→zap, length_dropLast→zdD, map_drop→zdE, map_cons→zat, mem_cons→zaw, any_cons→zdF, filter_eq_self→zbR, any_nil→zdJ, pairwise_map→zdK, length_range→zcP, foldl_append→zdL, all_eq_true→zbo, nodup_range→zbY, any_append→zdP, mem_filter→zbn
open And renaming intro→zcC
open Int renaming toNat_natCast→zaC, tmod_eq_emod_of_nonneg→zcM, tdiv_eq_ediv_of_nonneg→zcL, le_refl→zdM
open Option renaming getD_some→zbC
open Decidable renaming not_not→zcD, of_not_not→zco
open Nat renaming lt_or_eq_of_le→zcG, le_of_lt_succ→zcI, le_refl→zai, pow_le_pow_right→zb6, two_pow_pos→zcj, div_le_self→zc2, lt_trichotomy→zbH, add_zero→zaM, mod_le→zdC, lt_irrefl→zdH, pow_succ→zdI, sub_self→zb9, le_trans→zay
open Bool renaming false_eq_true→zct, and_eq_true→zaU, not_eq_true'→zbs, or_false→zdG, toNat_false→zdN, eq_iff_iff→zaN, toNat_true→zdO, or_eq_true→zbD
open UInt8 renaming toNat_inj→zc3
namespace Go.Dv.Try
open Go Go.Dv
def Ua:MT (ay []) Ru (ah cm):=by
 rintro _ K ⟨_,⟨t,rfl,rfl⟩,hK⟩;refine λb hb=>?_
 refine⟨.pv (pB _),oH ?_,trivial,hK⟩;rw[hb];simp[cI.copy]
def QO:MT (ay [(178,ah cm)]) N7 (ah dW):=by
 rintro _ K ⟨_,⟨t,rfl,rfl⟩,hK⟩;refine⟨_,⟨t,rfl,rfl⟩,?_⟩;generalize hc:t.copy=c;unfold cI.copy at hc;cases c with
 |true=>
  refine⟨.pv (pI _),bu ?_,trivial,hK⟩;simp at hc;simp[cI.made,hc]
 |false=>
  refine⟨.pv (pI _),bu ?_,trivial,hK⟩;simp at hc;simp[cI.made,hc]
def aeU(b:Bool):Int:=match b with|true=>1|false=>0
def Ci(ps:List PV)(x:PV):Prop:=∃b:Bool,ps=[pB b]/\x=pI (aeU b)
def aay:MT (ay []) Pq (ah Ci):=by
 rintro _ K ⟨_,⟨b,rfl,rfl⟩,hK⟩;cases b with
 |true=>exact aG
 |false=>exact aG
def P0:MT (ay [(34,ah jQ)]) Oe (ah eS):=by
 rintro _ K ⟨_,⟨a,rfl,⟨h1,h2⟩,rfl⟩,hK⟩;have hb:=Hk h2;refine⟨λm env σ=>∃n:Nat,(4<=n/\(n:Int)+m=pY a)/\σ=[]/\env=[eN 0 a,eN 3 n],(pY a-4).toNat,⟨4,⟨ab,ab⟩,rfl,rfl⟩,?_⟩;rintro m env σ ⟨n,⟨hn4,hn⟩,rfl,rfl⟩;refine⟨_,⟨_,rfl,ab,rfl⟩,?_⟩;have xf:dh a.toNat<=n↔a.toNat<=2^n:=aiG hn4;unfold pY at hn;refine λb hb=>?_
 rw[zaC]at hb;rcases cmp hb with⟨rfl,h⟩|⟨rfl,h⟩
 ·refine λx hx=>?_
  replace hx:=dB hx (by unfold pY at*;omega);subst hx;exact⟨m-1,ab,n+1,⟨ab,by unfold pY;omega⟩,rfl,rfl⟩
 ·refine⟨.pv (pI _),bu ?_,trivial,hK⟩;unfold pY;omega
def MG:MT (ay [(175,ah eS),(34,ah jQ)]) HW (ah fF):=by
 rintro _ K ⟨_,⟨a,rfl,⟨h1,h2⟩,rfl⟩,hK⟩;have hb:=Hk h2;have hl:=UQ h2;refine⟨_,⟨a,rfl,⟨h1,h2⟩,rfl⟩,?_⟩;refine λx hx=>?_
 replace hx:=dB hx ab;refine⟨_,⟨x,rfl,ab,rfl⟩,?_⟩;have cj:((2^x.toNat:Nat):Int)=zE a-2:=by
  rw[hx];unfold zE KK pY;simp
 refine λz hz=>?_
 replace hz:=dB hz ab;refine⟨.pv (pI _),bu ?_,trivial,hK⟩;omega
def P4:MT (ay [(178,ah cm),(15,ah jl),(270,ah fF)]) Fp (ah wY):=by
 rintro _ K ⟨_,⟨t,a,rfl,ha,rfl⟩,hK⟩;have fin:∀e:Int,e=ia t a->(∃r:RV,r=RV.pv (pI e)/\r=RV.pv (pI (ia t a))):=λe h=>⟨_,rfl,by rw[h]⟩
 refine λb hb=>?_
 rcases cmp hb with⟨rfl,h⟩|⟨rfl,h⟩
 ·refine⟨.pv (pI _),bu ?_,trivial,hK⟩;unfold ia;rw[if_pos ab]
 have Aa:¬4096<=a:=ab;cases hc:t.copy with
 |true=>
  have hd:t.d≠0:=oW;refine⟨pB true,⟨t,rfl,ep⟩,?_⟩;refine aN ?_;refine⟨pB true,⟨t,rfl,ep⟩,?_⟩;refine λb hb=>?_
  rcases cmp hb with⟨rfl,h1⟩|⟨rfl,h1⟩
  ·refine⟨.pv (pI _),bu ?_,trivial,hK⟩;unfold ia;rw[if_neg Aa,if_pos hd,if_pos h1]
  refine⟨pB true,⟨t,rfl,ep⟩,?_⟩;refine aN ?_;refine⟨ak,?_⟩;refine⟨pB true,⟨t,rfl,ep⟩,?_⟩;by_cases h2:1<=t.d/\t.d<=a
  ·refine⟨pB true,⟨_,_,_,rfl,oH iT⟩,?_⟩;refine aN ?_;refine⟨_,⟨a,rfl,ab,rfl⟩,?_⟩;by_cases h3:3<=t.l/\t.l<=zE a
   ·refine⟨pB true,⟨_,_,_,rfl,oH Fe⟩,?_⟩;refine aN ?_;unfold zE at h3;rw[zaC]at h3;refine⟨pB true,⟨t,rfl,ep⟩,?_⟩;refine λx hx=>?_
    obtain rfl:=dB hx ab;refine λb hb=>?_
    rcases cmp hb with⟨rfl,h4⟩|⟨rfl,h4⟩
    ·refine⟨.pv (pI _),bu ?_,trivial,hK⟩;unfold ia;rw[if_neg Aa,if_pos hd,if_neg h1,if_neg ab,if_pos ab]
    ·refine⟨.pv (pI _),bu ?_,trivial,hK⟩;unfold ia;rw[if_neg Aa,if_pos hd,if_neg h1,if_neg ab,if_neg ab]
   ·refine⟨pB false,⟨_,_,_,rfl,oH Fe⟩,?_⟩;refine bP ?_;unfold zE at h3;rw[zaC]at h3;refine⟨.pv (pI _),bu ?_,trivial,hK⟩;unfold ia;rw[if_neg Aa,if_pos hd,if_neg h1,if_pos ab]
  ·refine⟨pB false,⟨_,_,_,rfl,oH iT⟩,?_⟩;refine bP ?_;refine⟨.pv (pI _),bu ?_,trivial,hK⟩;unfold ia;rw[if_neg Aa,if_pos hd,if_neg h1,if_pos ab]
 |false=>
  have hd:¬t.d≠0:=oW;refine⟨pB false,⟨t,rfl,ep⟩,?_⟩;refine bP ?_;refine λb hb=>?_
  rcases cmp hb with⟨rfl,h1⟩|⟨rfl,h1⟩
  ·trace_state
   refine⟨.pv (pI _),bu ?_,trivial,hK⟩;unfold ia;rw[if_neg Aa,if_neg hd,if_pos h1]
  refine⟨pB false,⟨t,rfl,ep⟩,?_⟩;refine⟨pB false,⟨t,rfl,ep⟩,?_⟩;refine bP ?_;by_cases h2:0<=t.b/\t.b<=255
  ·refine⟨pB true,⟨_,_,_,rfl,oH iT⟩,?_⟩;refine aN ?_;refine⟨ak,?_⟩;refine⟨pB false,⟨t,rfl,ep⟩,?_⟩;refine⟨pB false,⟨t,rfl,ep⟩,?_⟩;refine⟨.pv (pI _),bu ?_,trivial,hK⟩;unfold ia;rw[if_neg Aa,if_neg hd,if_neg h1,if_neg ab]
  ·refine⟨pB false,⟨_,_,_,rfl,oH iT⟩,?_⟩;refine bP ?_;refine⟨.pv (pI _),bu ?_,trivial,hK⟩;unfold ia;rw[if_neg Aa,if_neg hd,if_neg h1,if_pos h2]
def Lk:MT (ay [(248,ah wY),(176,ah dW)]) zN oZ:=by
 rintro _ K ⟨l,rfl,hl,hK⟩;refine λ_=>?_
 refine λb hb=>?_
 rw[zav]at hb;rcases cmp hb with⟨rfl,h⟩|⟨rfl,h⟩
 ·have:l=[]:=zae ab;subst this;exact K0
 have cb:l≠[]:=by intro e;subst e;exact h rfl
 have hc:nf l=dp l 0 0:=by unfold nf;rw[if_neg cb]
 rw[hc]at hK;refine⟨λm env σ=>∃(g1 g2:List cI) (a:Nat),(g1++g2=l/\g2.length=m/\a<=4096/\dp l 0 0=dp g2 g1.length a)/\σ=[]/\env=[(0,.pv (.sl 3 (l.map cI.pv))),eN 4 a,eN 5 g1.length],l.length,⟨[],l,0,⟨rfl,rfl,ab,rfl⟩,rfl,rfl⟩,?_⟩;rintro m env σ ⟨g1,g2,a,⟨hg,hm,ha,cL⟩,rfl,rfl⟩;have bB:g1.length+g2.length=l.length:=EZ;refine λ_=>?_
 refine λb hb=>?_
 rw[zav]at hb;rcases cmp hb with⟨rfl,h2⟩|⟨rfl,h2⟩
 ·cases g2 with
  |nil=>simp at bB;omega
  |cons t g2=>
  simp only[zam]at bB hm;refine⟨_,⟨ab,KJ hg rfl⟩,?_⟩;refine⟨_,⟨t,a,rfl,ha,rfl⟩,?_⟩;refine λb hb=>?_
  rcases cmp hb with⟨rfl,h3⟩|⟨rfl,h3⟩
  ·refine⟨[.pv (pI _),.pv (pI _)],⟨rfl,rfl,trivial⟩,⟨trivial,trivial,trivial⟩,?_⟩;rw[cL,dp,if_pos h3]at hK;exact hK
  ·have di:=L4.1 (zco h3);have hmt:=ur di;refine⟨_,⟨ab,KJ hg rfl⟩,?_⟩;refine⟨_,⟨t,rfl,rfl⟩,?_⟩;refine λx hx=>?_
   obtain rfl:=dB hx ab;refine λx hx=>?_
   obtain rfl:=dB hx ab;refine⟨g2.length,ab,g1++[t],g2,a+t.made.toNat,⟨sv,rfl,ab,?_⟩,rfl,?_⟩
   ·rw[cL,dp,if_neg h3];simp
   ·rw[show((a+t.made.toNat:Nat):Int)=(a:Int)+t.made by omega,zad];rfl
 ·have:g2=[]:=zae ab;subst this;rw[cL]at hK;exact K0
def Lq:Spec:=EM true false λps K=>∃l:List cI,ps=[.sl 3 (l.map cI.pv)]/\l.length<=5000/\K (.pv (pI (nf l).2))
def Vw:MT (ay [(219,oZ)]) Dm Lq:=by
 rintro _ K ⟨l,rfl,hl,hK⟩;refine⟨l,rfl,hl,?_⟩;exact aG
def PU:MT (ay [(178,ah cm)]) Ey tf:=by
 rintro _ K ⟨l,rfl,di,hK⟩;have hlen:l.length<=4096:=by
  by_cases h:l=[]
  ·subst h;simp
  ·have:=HD l 0 di h;omega
 refine⟨λm env σ=>∃(g1 g2:List cI) (out:List UInt8),(g1++g2=l/\g2.length=m/\hZ g2 out.length/\out.length<=4096/\Ze l=Em g2 out)/\σ=[.row 5 1 true (out.map aL)]/\env=[(0,.pv (.sl 3 (l.map cI.pv))),(3,.own 0),eN 4 g1.length],l.length,⟨[],l,[],⟨rfl,rfl,di,aj,rfl⟩,rfl,rfl⟩,?_⟩;rintro m env σ ⟨g1,g2,out,⟨hg,hm,UF,avo,cL⟩,rfl,rfl⟩;have bB:g1.length+g2.length=l.length:=EZ;refine λ_=>?_
 refine λb hb=>?_
 rw[zav]at hb;rcases cmp hb with⟨rfl,h2⟩|⟨rfl,h2⟩
 ·cases g2 with
  |nil=>simp at bB;omega
  |cons t g2=>
  simp only[zam]at bB hm;obtain⟨Eu,avP⟩:=UF;have hmt:=ur Eu;have nj:=Eu;unfold vm at nj;refine⟨_,⟨ab,KJ hg rfl⟩,?_⟩;cases hc:t.copy with
  |false=>
   have hd:¬t.d≠0:=oW;have mY:t.made=1:=KM;rw[if_neg hd]at nj;refine⟨pB false,⟨t,rfl,ep⟩,?_⟩;refine bP ?_;refine⟨_,⟨ab,KJ hg rfl⟩,?_⟩;refine λx hx=>?_
   rw[Pn]at hx;refine⟨rfl,?_⟩;refine⟨⟨aH,aH⟩,?_⟩;refine λy hy=>?_
   obtain rfl:=dB hy ab;have e:GP t out=out++[lV t.b.toNat]:=by unfold GP;rw[if_neg hd]
   refine⟨g2.length,ab,g1++[t],g2,GP t out,⟨sv,rfl,?_,?_,?_⟩,?_,?_⟩
   ·rw[uh Eu];exact avP
   ·rw[uh Eu];omega
   ·rw[cL];rfl
   ·rw[e,ue (n:=x) ab,zbu,show x.toNat=t.b.toNat by omega];rfl
   ·rw[zad];rfl
  |true=>
   have hd:t.d≠0:=oW;have mY:t.made=t.l:=Sy;rw[if_pos hd]at nj;refine⟨pB true,⟨t,rfl,ep⟩,?_⟩;refine aN ?_;refine⟨λm2 env σ=>∃k:Nat,(k+m2=t.l)/\σ=[.row 5 1 true ((ig k t.d.toNat out).map aL)]/\env=[(0,.pv (.sl 3 (l.map cI.pv))),(3,.own 0),eN 4 g1.length,eN 5 k],t.l.toNat,⟨0,ab,rfl,rfl⟩,?_⟩;rintro m2 env σ ⟨k,hk,rfl,rfl⟩;have mE:=Jo k t.d.toNat out;refine⟨_,⟨ab,KJ hg rfl⟩,?_⟩;refine λb hb=>?_
   rcases cmp hb with⟨rfl,h3⟩|⟨rfl,h3⟩
   ·refine λ_=>?_
    rw[zav];refine⟨_,⟨ab,KJ hg rfl⟩,?_⟩;refine λx hx=>?_
    obtain rfl:=dB hx ab;obtain⟨v,hv⟩:∃v,(ig k t.d.toNat out)[(ig k t.d.toNat out).length-t.d.toNat]?=some v:=qp;refine⟨⟨ab,oP⟩,aL v,?_,?_⟩
    ·rw[za9,show(((ig k t.d.toNat out).length:Int)-t.d).toNat=(ig k t.d.toNat out).length-t.d.toNat by omega,hv];rfl
    refine⟨rfl,?_⟩;refine⟨⟨aH,aH⟩,?_⟩;refine λy hy=>?_
    obtain rfl:=dB hy ab;refine⟨m2-1,ab,k+1,ab,?_,rfl⟩;rw[HI,hv,zbu];rfl
   ·have ek:k=t.l.toNat:=by omega
    subst ek;have e:GP t out=ig t.l.toNat t.d.toNat out:=by unfold GP;rw[if_pos hd]
    refine λy hy=>?_
    obtain rfl:=dB hy ab;refine⟨g2.length,ab,g1++[t],g2,GP t out,⟨sv,rfl,?_,?_,?_⟩,?_,?_⟩
    ·rw[uh Eu];exact avP
    ·rw[uh Eu];omega
    ·rw[cL];rfl
    ·rw[e]
    ·rw[zad];rfl
 ·have:g2=[]:=zae ab;subst this;rw[cL]at hK;refine⟨out,rfl,?_⟩;exact bM
def xM:Nat->List UInt8->Nat
 |0,_=>0
 |n+1,s=>(s[0]?.getD 0).toNat+256*xM n (s.drop 1)
def XC(s:List UInt8):xM 2 s=dD s:=by
 simp only[xM,dD,zaB];simp
def aAe:∀(n:Nat) (s:List UInt8),xM n s<256^n:=by
 intro n
 induction n with
 |zero=>intro s;simp[xM]
 |succ n ih=>
  intro s;have h1:=ih (s.drop 1);have h2:=(s[0]?.getD 0).toNat_lt;simp only[xM];rw[zdI];omega
def qK(ps:List PV)(x:PV):Prop:=∃(s:List UInt8) (i n:Int),ps=[.str s,pI i,pI n]/\(0<=i/\0<=n/\n<=7/\i+n<=s.length/\s.length<=1000000)/\x=pI (xM n.toNat (s.drop i.toNat))
def S0:MT (ay []) Iu (ah qK):=by
 rintro _ K ⟨_,⟨s,i,n,rfl,⟨h1,h2,h3,h4,h5⟩,rfl⟩,hK⟩;refine λx hx=>?_
 obtain rfl:=dB hx ab;refine⟨λm env σ=>(m:Int)<=n/\σ=[]/\env=[(0,.pv (.str s)),eN 1 i,eN 7 (xM (n.toNat-m) (s.drop (i.toNat+m))),eN 8 ((m:Int)-1)],n.toNat,⟨ab,rfl,?_⟩,?_⟩
 ·rw[zb9,show((n.toNat:Nat):Int)-1=n-1 by omega];rfl
 rintro m env σ ⟨hm,rfl,rfl⟩;refine λb hb=>?_
 rcases cmp hb with⟨rfl,h⟩|⟨rfl,h⟩
 ·cases m with
  |zero=>omega
  |succ m=>
  have en:((m+1:Nat):Int)-1=(m:Int):=ab;rw[en];have CV:=aAe (n.toNat-(m+1)) (s.drop (i.toNat+(m+1)));have t_:256^(n.toNat-(m+1))<=256^6:=zb6 ab ab;have e6:(256:Nat)^6=281474976710656:=ao;refine λx hx=>?_
  have hx:=dB hx ab;rw[hx];refine λy hy=>?_
  have hy:=dB hy ab;rw[hy];obtain⟨v,hv⟩:∃v,s[i.toNat+m]?=some v:=qp;have Ja:=v.toNat_lt;refine⟨_,⟨ab,by rw[show(i+(m:Int)).toNat=i.toNat+m by omega];exact hv⟩,?_⟩;refine λz hz=>?_
  have hz:=dB hz ab;rw[hz];refine λq hq=>?_
  have hq:=dB hq ab;rw[hq];refine λr hr=>?_
  have hr:=dB hr ab;rw[hr];refine⟨m,ab,ab,rfl,?_⟩;have e:xM (n.toNat-m) (s.drop (i.toNat+m))=v.toNat+256*xM (n.toNat-(m+1)) (s.drop (i.toNat+(m+1))):=by
   rw[show n.toNat-m=n.toNat-(m+1)+1 by omega];simp only[xM,zaB,zaQ,zaM,hv,zbC];rw[Nat.add_assoc]
  rw[e];show[(0,AV.pv (.str s)),(1,AV.pv (pI i)),(7,AV.pv (pI _)),(8,AV.pv (pI ((m:Int)-1)))]=_;rw[show((xM (n.toNat-(m+1)) (s.drop (i.toNat+(m+1))):Nat):Int)*256+(v.toNat:Int)=((v.toNat+256*xM (n.toNat-(m+1)) (s.drop (i.toNat+(m+1))):Nat):Int) by omega]
 ·have:m=0:=by omega
  subst this;exact aG
def L3:Spec:=EM true false λps K=>∃s:List UInt8,ps=[.str s]/\s.length<=5000/\
 (s.length<2->K (.tup [.pv (pB false),.pv (.str []),.pv (pI 14)]))/\
 (2<=s.length->(dD s/4096%8≠3->K (.tup [.pv (pB false),.pv (.str []),.pv (pI 3)]))/\(dD s/4096%8=3->K (.tup [.pv (pB (decide (32768<=dD s))),.pv (.str (s.drop 2)),.pv (pI 0)])))
def adr:MT (ay [(125,ah qK)]) NH L3:=by
 rintro _ K ⟨s,rfl,hs,Gt,xy⟩;refine λb hb=>?_
 rcases cmp hb with⟨rfl,h⟩|⟨rfl,h⟩
 ·exact⟨[.pv (pB _),.pv (.str _),.pv _],⟨rfl,rfl,rfl,trivial⟩,⟨trivial,trivial,trivial,trivial⟩,Gt ab⟩
 have h2:2<=s.length:=ab;have hK:=xy h2;have hw:=yd s;refine⟨_,⟨s,0,2,rfl,ab,rfl⟩,?_⟩;rw[show xM (Int.toNat 2) (s.drop (Int.toNat 0))=dD s from XC s];refine⟨ao,?_⟩;refine λx hx=>?_
 rw[zcL ab]at hx;have hx:=dB hx ab;rw[hx];refine⟨ao,?_⟩;refine λy hy=>?_
 rw[zcM ab]at hy;rw[hy];refine λb hb=>?_
 rcases cmp hb with⟨rfl,h3⟩|⟨rfl,h3⟩
 ·exact⟨[.pv (pB _),.pv (.str _),.pv _],⟨rfl,rfl,rfl,trivial⟩,⟨trivial,trivial,trivial,trivial⟩,hK.1 ab⟩
 have hK:=hK.2 ab;refine⟨ak,?_⟩;refine λc hc=>?_
 have WQ:c=decide (32768<=dD s):=by
  rw[zaN,hc,decide_eq_true_iff];omega
 subst WQ;refine⟨ab,?_⟩;rw[<-xY 2 s]at hK;exact⟨[.pv (pB _),.pv (.str _),.pv _],⟨rfl,rfl,rfl,trivial⟩,⟨trivial,trivial,trivial,trivial⟩,hK⟩
def Qb:Spec:=EM true false λps K=>∃s:List UInt8,ps=[.str s]/\s.length<=5000/\K (.tup [.fresh 170 3 ((IY cV s).1.map cI.pv),.pv (pI (IY cV s).2)])
set_option maxHeartbeats 1000000 in
def VX:MT (ay [(125,ah qK),(34,ah jQ),(175,ah eS),(105,ah Ci),(176,ah dW),(177,Lq)]) Kh Qb:=by
 rintro _ K ⟨s0,rfl,lK,hK⟩;refine⟨λm env σ=>∃(acc:List cI) (left f a idx:Nat),(idx<=s0.length/\idx+m=s0.length/\acc.length<=idx/\a<=70000*acc.length+0*f/\(left+acc.length)%8=0/\(left<8/\f<2^left)/\kg cV s0 acc left f (s0.drop idx) a)/\σ=[.row 170 3 true (acc.map cI.pv)]/\env=[(0,.pv (.str s0)),(4,.own 0),eN 5 a,eN 6 idx,eN 7 f,eN 8 acc.length],s0.length,⟨[],0,0,0,0,⟨ab,ab,aj,aj,rfl,ab,by unfold kg;simp⟩,rfl,rfl⟩,?_⟩;rintro m env σ ⟨acc,left,f,a,idx,⟨ud,j9,kf,rE,akv,hlf,pO⟩,rfl,rfl⟩;rw[Nat.zero_mul,zaM]at rE;have hf8:f<256:=by
  have:2^left<=2^7:=zb6 ab ab;omega
 refine λb hb=>?_
 rcases cmp hb with⟨rfl,aU⟩|⟨rfl,aU⟩
 ·refine⟨ao,?_⟩;refine λx hx=>?_
  rw[zcM ab]at hx;rw[hx];refine λb hb=>?_
  have aPO:(s0.drop idx).length=s0.length-idx:=zax;rcases cmp hb with⟨rfl,h8⟩|⟨rfl,h8⟩
  ·have:left=0:=by omega
   subst this;obtain⟨fb,eH⟩:∃v,s0[idx]?=some v:=qp;have SL:=fb.toNat_lt;refine⟨_,⟨ab,by rw[zaC];exact eH⟩,?_⟩;refine λy hy=>?_
   have hy:=dB hy ab;rw[hy];refine λy hy=>?_
   have hy:=dB hy ab;rw[hy];refine λb hb=>?_
   rcases cmp hb with⟨rfl,he⟩|⟨rfl,he⟩
   ·have h1:=an9 cV f a (s:=s0.drop idx) ab;unfold kg at pO;rw[h1]at pO;rw[rW,pO]at hK;dsimp only at hK;rw[if_pos ao]at hK;exact uG
   have aK8:fb.toNat<2*2^7:=ab;have pO:kg cV s0 acc 8 fb.toNat (s0.drop (idx+1)) a:=by
    unfold kg at pO ⊢;rw[OJ cV f a (s:=s0.drop idx) ab,zaB,zaM,eH,zaQ]at pO;exact pO
   obtain⟨v,hv⟩:∃v,s0[(idx+1)]?=some v:=qp;have Ja:=v.toNat_lt;have avS:Wm (s0.drop (idx+1))=⟨0,0,(v.toNat:Int)⟩:=ake;have Aj:(s0.drop (idx+1)).length=s0.length-(idx+1):=zax;refine⟨ao,?_⟩;refine λx hx=>?_
   rw[zcM ab]at hx;rw[hx];refine λb hb=>?_
   refine⟨ao,?_⟩;refine λy hy=>?_
   rw[zcL ab]at hy;have hy:=dB hy ab;rw[hy];refine⟨_,⟨ab,hv⟩,?_⟩;refine λy hy=>?_
   have hy:=dB hy ab;rw[hy];refine⟨rfl,?_⟩;refine⟨rfl,?_⟩;rcases cmp hb with⟨rfl,pD⟩|⟨rfl,pD⟩
   ·have akB:fb.toNat%2=1:=by omega
    refine λy hy=>?_
    have hy:=dB hy ab;rw[hy];refine λb t_=>?_
    rcases cmp t_ with⟨rfl,dV⟩|⟨rfl,dV⟩
    ·have h1:=Kc cV 7 fb.toNat a (s:=s0.drop (idx+1)) ab akB;unfold kg at pO;rw[h1]at pO;rw[rW,pO]at hK;dsimp only at hK;rw[if_pos ao]at hK;exact uG
    have fM:=Mg cV 7 fb.toNat a (s:=s0.drop (idx+1)) ab akB;unfold kg at pO;rw[fM]at pO;have hwv:xM (Int.toNat 2) (s0.drop (((idx:Int)+1)).toNat)=sb (s0.drop (idx+1)):=by
     rw[show(((idx:Int)+1)).toNat=(idx+1) by omega];exact XC _
    have hwl:sb (s0.drop (idx+1))<65536:=yd _;refine⟨_,⟨s0,((idx:Int)+1),2,rfl,ab,rfl⟩,?_⟩;rw[hwv];generalize sb (s0.drop (idx+1))=w at*;refine⟨_,⟨16,rfl,ab,rfl⟩,?_⟩;refine λb rv=>?_
    rcases cmp rv with⟨rfl,Gq⟩|⟨rfl,Gq⟩
    ·have hs:=tw (a:=a) ab;have ZI:=wJ a;refine⟨_,⟨a,rfl,⟨ab,ab⟩,rfl⟩,?_⟩;unfold pY;rw[zaC];refine λy hy=>?_
     have hy:=dB hy ab;rw[hy];refine⟨_,⟨_,rfl,⟨ab,ab⟩,rfl⟩,?_⟩;have oa:(16-(dh a:Int)).toNat=cV a:=by unfold cV;rw[if_pos ab];omega
     rw[oa];have hpg:=zcj (cV a);have qG:w/2^cV a<=w:=zc2 _ _;have hpm:w%2^cV a<=w:=zdC _ _;have WQ:((w:Nat):Int).tdiv ((2^cV a:Nat):Int)=((w/2^cV a:Nat):Int):=Ls;have AQ:((w:Nat):Int).tmod ((2^cV a:Nat):Int)=((w%2^cV a:Nat):Int):=R0;have PE:B_ (cV a) w=⟨((w/2^cV a:Nat):Int)+1,((w%2^cV a:Nat):Int)+3,0⟩:=rfl;generalize w/2^cV a=q at*;generalize w%2^cV a=r at*;have lL:(⟨(q:Int)+1,(r:Int)+3,0⟩:cI).made=(r:Int)+3:=by
      unfold cI.made;rw[if_pos (show(q:Int)+1≠0 by omega)]
     rw[PE,lL,show((r:Int)+3).toNat=r+3 by omega]at pO;refine⟨ak,?_⟩;refine⟨ab,?_⟩;refine λy hy=>?_
     rw[WQ]at hy;have hy:=dB hy ab;rw[hy];refine λy hy=>?_
     have hy:=dB hy ab;rw[hy];refine⟨ab,?_⟩;refine λy hy=>?_
     rw[AQ]at hy;rw[hy];refine λy hy=>?_
     have hy:=dB hy ab;rw[hy];refine⟨rfl,?_⟩;refine⟨rfl,?_⟩;refine⟨rfl,?_⟩;refine λy hy=>?_
     have hy:=dB hy ab;rw[hy];refine⟨_,⟨true,rfl,rfl⟩,?_⟩;refine λy hy=>?_
     have hy:=dB hy FD;rw[hy];refine⟨_,⟨(⟨(q:Int)+1,(r:Int)+3,0⟩:cI),rfl,rfl⟩,?_⟩;have PA:((⟨(q:Int)+1,(r:Int)+3,0⟩:cI)).made=(r:Int)+3:=lL;rw[PA];refine λy hy=>?_
     have hy:=dB hy ab;rw[hy];refine⟨rfl,?_⟩;refine⟨⟨aH,aH⟩,?_⟩;refine λy hy=>?_
     have hy:=dB hy ab;rw[hy];refine⟨s0.length-((idx+1)+2),ab,acc++[(⟨(q:Int)+1,(r:Int)+3,0⟩:cI)],7,fb.toNat/2,a+(r+3),(idx+1)+2,⟨ab,ab,fP,fP,fP,⟨ab,ab⟩,?_⟩,?_,?_⟩
     ·unfold kg;rw[pO];simp[zaQ]
     ·rw[zbu];rfl
     ·rw[zad];show _=[(0,AV.pv (.str s0)),(4,.own 0),eN 5 ((a+(r+3):Nat):Int),eN 6 (((idx+1)+2:Nat):Int),eN 7 ((fb.toNat/2:Nat):Int),eN 8 ((acc.length+1:Nat):Int)]
      rw[show((a+(r+3):Nat):Int)=(a:Int)+((r:Int)+3) by omega,show(((idx+1)+2:Nat):Int)=((idx:Int)+1)+1+1 by omega,show((fb.toNat/2:Nat):Int)=(fb.toNat:Int)/2 by omega];rfl
    ·have oa:Int.toNat 16=cV a:=by unfold cV;rw[if_neg ab];rfl
     rw[oa];have hpg:=zcj (cV a);have qG:w/2^cV a<=w:=zc2 _ _;have hpm:w%2^cV a<=w:=zdC _ _;have WQ:((w:Nat):Int).tdiv ((2^cV a:Nat):Int)=((w/2^cV a:Nat):Int):=Ls;have AQ:((w:Nat):Int).tmod ((2^cV a:Nat):Int)=((w%2^cV a:Nat):Int):=R0;have PE:B_ (cV a) w=⟨((w/2^cV a:Nat):Int)+1,((w%2^cV a:Nat):Int)+3,0⟩:=rfl;generalize w/2^cV a=q at*;generalize w%2^cV a=r at*;have lL:(⟨(q:Int)+1,(r:Int)+3,0⟩:cI).made=(r:Int)+3:=by
      unfold cI.made;rw[if_pos (show(q:Int)+1≠0 by omega)]
     rw[PE,lL,show((r:Int)+3).toNat=r+3 by omega]at pO;refine⟨ak,?_⟩;refine⟨ab,?_⟩;refine λy hy=>?_
     rw[WQ]at hy;have hy:=dB hy ab;rw[hy];refine λy hy=>?_
     have hy:=dB hy ab;rw[hy];refine⟨ab,?_⟩;refine λy hy=>?_
     rw[AQ]at hy;rw[hy];refine λy hy=>?_
     have hy:=dB hy ab;rw[hy];refine⟨rfl,?_⟩;refine⟨rfl,?_⟩;refine⟨rfl,?_⟩;refine λy hy=>?_
     have hy:=dB hy ab;rw[hy];refine⟨_,⟨true,rfl,rfl⟩,?_⟩;refine λy hy=>?_
     have hy:=dB hy FD;rw[hy];refine⟨_,⟨(⟨(q:Int)+1,(r:Int)+3,0⟩:cI),rfl,rfl⟩,?_⟩;have PA:((⟨(q:Int)+1,(r:Int)+3,0⟩:cI)).made=(r:Int)+3:=lL;rw[PA];refine λy hy=>?_
     have hy:=dB hy ab;rw[hy];refine⟨rfl,?_⟩;refine⟨⟨aH,aH⟩,?_⟩;refine λy hy=>?_
     have hy:=dB hy ab;rw[hy];refine⟨s0.length-((idx+1)+2),ab,acc++[(⟨(q:Int)+1,(r:Int)+3,0⟩:cI)],7,fb.toNat/2,a+(r+3),(idx+1)+2,⟨ab,ab,fP,fP,fP,⟨ab,ab⟩,?_⟩,?_,?_⟩
     ·unfold kg;rw[pO];simp[zaQ]
     ·rw[zbu];rfl
     ·rw[zad];show _=[(0,AV.pv (.str s0)),(4,.own 0),eN 5 ((a+(r+3):Nat):Int),eN 6 (((idx+1)+2:Nat):Int),eN 7 ((fb.toNat/2:Nat):Int),eN 8 ((acc.length+1:Nat):Int)]
      rw[show((a+(r+3):Nat):Int)=(a:Int)+((r:Int)+3) by omega,show(((idx+1)+2:Nat):Int)=((idx:Int)+1)+1+1 by omega,show((fb.toNat/2:Nat):Int)=(fb.toNat:Int)/2 by omega];rfl
   ·have sO:¬fb.toNat%2=1:=by omega
    have fM:=PT cV 7 fb.toNat a (s:=s0.drop (idx+1)) ab sO;unfold kg at pO;rw[fM]at pO;rw[avS]at pO;refine λy hy=>?_
    have hy:=dB hy ab;rw[hy];refine⟨_,⟨false,rfl,rfl⟩,?_⟩;refine λy hy=>?_
    have hy:=dB hy FD;rw[hy];refine⟨_,⟨(⟨0,0,(v.toNat:Int)⟩:cI),rfl,rfl⟩,?_⟩;have PA:((⟨0,0,(v.toNat:Int)⟩:cI)).made=1:=rfl;rw[PA];refine λy hy=>?_
    have hy:=dB hy ab;rw[hy];refine⟨rfl,?_⟩;refine⟨⟨aH,aH⟩,?_⟩;refine λy hy=>?_
    have hy:=dB hy ab;rw[hy];refine⟨s0.length-((idx+1)+1),ab,acc++[(⟨0,0,(v.toNat:Int)⟩:cI)],7,fb.toNat/2,a+1,(idx+1)+1,⟨ab,ab,fP,fP,fP,⟨ab,ab⟩,?_⟩,?_,?_⟩
    ·unfold kg;rw[pO];simp[zaQ]
    ·rw[zbu];rfl
    ·rw[zad];show _=[(0,AV.pv (.str s0)),(4,.own 0),eN 5 ((a+1:Nat):Int),eN 6 (((idx+1)+1:Nat):Int),eN 7 ((fb.toNat/2:Nat):Int),eN 8 ((acc.length+1:Nat):Int)]
     rw[show(((idx+1)+1:Nat):Int)=((idx:Int)+1)+1+0 by omega,show((fb.toNat/2:Nat):Int)=(fb.toNat:Int)/2 by omega];rfl
  ·obtain⟨y0,rfl⟩:∃l,left=l+1:=⟨left-1,ab⟩
   have aK8:f<2*2^y0:=by
    have:=hlf.2;rw[zdI]at this;omega
   obtain⟨v,hv⟩:∃v,s0[idx]?=some v:=qp;have Ja:=v.toNat_lt;have avS:Wm (s0.drop idx)=⟨0,0,(v.toNat:Int)⟩:=ake;have Aj:(s0.drop idx).length=s0.length-idx:=zax;refine⟨ao,?_⟩;refine λx hx=>?_
   rw[zcM ab]at hx;rw[hx];refine λb hb=>?_
   refine⟨ao,?_⟩;refine λy hy=>?_
   rw[zcL ab]at hy;have hy:=dB hy ab;rw[hy];refine⟨_,⟨ab,hv⟩,?_⟩;refine λy hy=>?_
   have hy:=dB hy ab;rw[hy];refine⟨rfl,?_⟩;refine⟨rfl,?_⟩;rcases cmp hb with⟨rfl,pD⟩|⟨rfl,pD⟩
   ·have akB:f%2=1:=by omega
    refine λy hy=>?_
    have hy:=dB hy ab;rw[hy];refine λb t_=>?_
    rcases cmp t_ with⟨rfl,dV⟩|⟨rfl,dV⟩
    ·have h1:=Kc cV y0 f a (s:=s0.drop idx) ab akB;unfold kg at pO;rw[h1]at pO;rw[rW,pO]at hK;dsimp only at hK;rw[if_pos ao]at hK;exact uG
    have fM:=Mg cV y0 f a (s:=s0.drop idx) ab akB;unfold kg at pO;rw[fM]at pO;have hwv:xM (Int.toNat 2) (s0.drop ((idx:Int)).toNat)=sb (s0.drop idx):=by
     rw[show((idx:Int)).toNat=idx by omega];exact XC _
    have hwl:sb (s0.drop idx)<65536:=yd _;refine⟨_,⟨s0,(idx:Int),2,rfl,ab,rfl⟩,?_⟩;rw[hwv];generalize sb (s0.drop idx)=w at*;refine⟨_,⟨16,rfl,ab,rfl⟩,?_⟩;refine λb rv=>?_
    rcases cmp rv with⟨rfl,Gq⟩|⟨rfl,Gq⟩
    ·have hs:=tw (a:=a) ab;have ZI:=wJ a;refine⟨_,⟨a,rfl,⟨ab,ab⟩,rfl⟩,?_⟩;unfold pY;rw[zaC];refine λy hy=>?_
     have hy:=dB hy ab;rw[hy];refine⟨_,⟨_,rfl,⟨ab,ab⟩,rfl⟩,?_⟩;have oa:(16-(dh a:Int)).toNat=cV a:=by unfold cV;rw[if_pos ab];omega
     rw[oa];have hpg:=zcj (cV a);have qG:w/2^cV a<=w:=zc2 _ _;have hpm:w%2^cV a<=w:=zdC _ _;have WQ:((w:Nat):Int).tdiv ((2^cV a:Nat):Int)=((w/2^cV a:Nat):Int):=Ls;have AQ:((w:Nat):Int).tmod ((2^cV a:Nat):Int)=((w%2^cV a:Nat):Int):=R0;have PE:B_ (cV a) w=⟨((w/2^cV a:Nat):Int)+1,((w%2^cV a:Nat):Int)+3,0⟩:=rfl;generalize w/2^cV a=q at*;generalize w%2^cV a=r at*;have lL:(⟨(q:Int)+1,(r:Int)+3,0⟩:cI).made=(r:Int)+3:=by
      unfold cI.made;rw[if_pos (show(q:Int)+1≠0 by omega)]
     rw[PE,lL,show((r:Int)+3).toNat=r+3 by omega]at pO;refine⟨ak,?_⟩;refine⟨ab,?_⟩;refine λy hy=>?_
     rw[WQ]at hy;have hy:=dB hy ab;rw[hy];refine λy hy=>?_
     have hy:=dB hy ab;rw[hy];refine⟨ab,?_⟩;refine λy hy=>?_
     rw[AQ]at hy;rw[hy];refine λy hy=>?_
     have hy:=dB hy ab;rw[hy];refine⟨rfl,?_⟩;refine⟨rfl,?_⟩;refine⟨rfl,?_⟩;refine λy hy=>?_
     have hy:=dB hy ab;rw[hy];refine⟨_,⟨true,rfl,rfl⟩,?_⟩;refine λy hy=>?_
     have hy:=dB hy FD;rw[hy];refine⟨_,⟨(⟨(q:Int)+1,(r:Int)+3,0⟩:cI),rfl,rfl⟩,?_⟩;have PA:((⟨(q:Int)+1,(r:Int)+3,0⟩:cI)).made=(r:Int)+3:=lL;rw[PA];refine λy hy=>?_
     have hy:=dB hy ab;rw[hy];refine⟨rfl,?_⟩;refine⟨⟨aH,aH⟩,?_⟩;refine λy hy=>?_
     have hy:=dB hy ab;rw[hy];refine⟨s0.length-(idx+2),ab,acc++[(⟨(q:Int)+1,(r:Int)+3,0⟩:cI)],y0,f/2,a+(r+3),idx+2,⟨ab,ab,fP,fP,fP,⟨ab,ab⟩,?_⟩,?_,?_⟩
     ·unfold kg;rw[pO];simp[zaQ]
     ·rw[zbu];rfl
     ·rw[zad];show _=[(0,AV.pv (.str s0)),(4,.own 0),eN 5 ((a+(r+3):Nat):Int),eN 6 ((idx+2:Nat):Int),eN 7 ((f/2:Nat):Int),eN 8 ((acc.length+1:Nat):Int)]
      rw[show((a+(r+3):Nat):Int)=(a:Int)+((r:Int)+3) by omega,show((idx+2:Nat):Int)=(idx:Int)+1+1 by omega,show((f/2:Nat):Int)=(f:Int)/2 by omega];rfl
    ·have oa:Int.toNat 16=cV a:=by unfold cV;rw[if_neg ab];rfl
     rw[oa];have hpg:=zcj (cV a);have qG:w/2^cV a<=w:=zc2 _ _;have hpm:w%2^cV a<=w:=zdC _ _;have WQ:((w:Nat):Int).tdiv ((2^cV a:Nat):Int)=((w/2^cV a:Nat):Int):=Ls;have AQ:((w:Nat):Int).tmod ((2^cV a:Nat):Int)=((w%2^cV a:Nat):Int):=R0;have PE:B_ (cV a) w=⟨((w/2^cV a:Nat):Int)+1,((w%2^cV a:Nat):Int)+3,0⟩:=rfl;generalize w/2^cV a=q at*;generalize w%2^cV a=r at*;have lL:(⟨(q:Int)+1,(r:Int)+3,0⟩:cI).made=(r:Int)+3:=by
      unfold cI.made;rw[if_pos (show(q:Int)+1≠0 by omega)]
     rw[PE,lL,show((r:Int)+3).toNat=r+3 by omega]at pO;refine⟨ak,?_⟩;refine⟨ab,?_⟩;refine λy hy=>?_
     rw[WQ]at hy;have hy:=dB hy ab;rw[hy];refine λy hy=>?_
     have hy:=dB hy ab;rw[hy];refine⟨ab,?_⟩;refine λy hy=>?_
     rw[AQ]at hy;rw[hy];refine λy hy=>?_
     have hy:=dB hy ab;rw[hy];refine⟨rfl,?_⟩;refine⟨rfl,?_⟩;refine⟨rfl,?_⟩;refine λy hy=>?_
     have hy:=dB hy ab;rw[hy];refine⟨_,⟨true,rfl,rfl⟩,?_⟩;refine λy hy=>?_
     have hy:=dB hy FD;rw[hy];refine⟨_,⟨(⟨(q:Int)+1,(r:Int)+3,0⟩:cI),rfl,rfl⟩,?_⟩;have PA:((⟨(q:Int)+1,(r:Int)+3,0⟩:cI)).made=(r:Int)+3:=lL;rw[PA];refine λy hy=>?_
     have hy:=dB hy ab;rw[hy];refine⟨rfl,?_⟩;refine⟨⟨aH,aH⟩,?_⟩;refine λy hy=>?_
     have hy:=dB hy ab;rw[hy];refine⟨s0.length-(idx+2),ab,acc++[(⟨(q:Int)+1,(r:Int)+3,0⟩:cI)],y0,f/2,a+(r+3),idx+2,⟨ab,ab,fP,fP,fP,⟨ab,ab⟩,?_⟩,?_,?_⟩
     ·unfold kg;rw[pO];simp[zaQ]
     ·rw[zbu];rfl
     ·rw[zad];show _=[(0,AV.pv (.str s0)),(4,.own 0),eN 5 ((a+(r+3):Nat):Int),eN 6 ((idx+2:Nat):Int),eN 7 ((f/2:Nat):Int),eN 8 ((acc.length+1:Nat):Int)]
      rw[show((a+(r+3):Nat):Int)=(a:Int)+((r:Int)+3) by omega,show((idx+2:Nat):Int)=(idx:Int)+1+1 by omega,show((f/2:Nat):Int)=(f:Int)/2 by omega];rfl
   ·have sO:¬f%2=1:=by omega
    have fM:=PT cV y0 f a (s:=s0.drop idx) ab sO;unfold kg at pO;rw[fM]at pO;rw[avS]at pO;refine λy hy=>?_
    have hy:=dB hy ab;rw[hy];refine⟨_,⟨false,rfl,rfl⟩,?_⟩;refine λy hy=>?_
    have hy:=dB hy FD;rw[hy];refine⟨_,⟨(⟨0,0,(v.toNat:Int)⟩:cI),rfl,rfl⟩,?_⟩;have PA:((⟨0,0,(v.toNat:Int)⟩:cI)).made=1:=rfl;rw[PA];refine λy hy=>?_
    have hy:=dB hy ab;rw[hy];refine⟨rfl,?_⟩;refine⟨⟨aH,aH⟩,?_⟩;refine λy hy=>?_
    have hy:=dB hy ab;rw[hy];refine⟨s0.length-(idx+1),ab,acc++[(⟨0,0,(v.toNat:Int)⟩:cI)],y0,f/2,a+1,idx+1,⟨ab,ab,fP,fP,fP,⟨ab,ab⟩,?_⟩,?_,?_⟩
    ·unfold kg;rw[pO];simp[zaQ]
    ·rw[zbu];rfl
    ·rw[zad];show _=[(0,AV.pv (.str s0)),(4,.own 0),eN 5 ((a+1:Nat):Int),eN 6 ((idx+1:Nat):Int),eN 7 ((f/2:Nat):Int),eN 8 ((acc.length+1:Nat):Int)]
     rw[show((idx+1:Nat):Int)=(idx:Int)+1+0 by omega,show((f/2:Nat):Int)=(f:Int)/2 by omega];rfl
 ·have avq:idx=s0.length:=by omega
  have Nv:s0.drop idx=[]:=zb8 ab;unfold kg at pO;rw[Nv]at pO;refine λb hb=>?_
  rcases cmp hb with⟨rfl,h⟩|⟨rfl,h⟩
  ·cases left with
   |zero=>simp at hlf;omega
   |succ left=>
   rw[Bh,if_pos ab]at pO;rw[rW,pO]at hK;dsimp only at hK;rw[if_pos ao]at hK;exact uG
  have pO:qI cV 0 0 s0 0=(0,acc):=by
   cases left with
   |zero=>rw[pO,Ft,zbf]
   |succ left=>rw[pO,Bh,if_neg ab,zbf]
  rw[rW,pO]at hK;dsimp only at hK;rw[if_neg ao]at hK;refine⟨acc,rfl,ab,?_⟩;refine λb hb=>?_
  rcases cmp hb with⟨rfl,h⟩|⟨rfl,h⟩
  ·rw[if_pos h]at hK;exact uG
  ·rw[if_neg h]at hK;exact⟨[.fresh _ _ _,.pv _],⟨⟨rfl,rfl,rfl,rfl⟩,rfl,trivial⟩,⟨Ui _,trivial,trivial⟩,hK⟩
def Mc(ps:List PV)(x:PV):Prop:=∃s:List UInt8,ps=[.str s]/\s.length<=1000000/\x=pB (decide (s=ai s.length))
def N0:MT (ay []) AZ (ah Mc):=by
 rintro _ K ⟨_,⟨s,rfl,hs,rfl⟩,hK⟩;refine⟨λm env σ=>∃n:Nat,(n+m=s.length∧∀j,j<n->s[j]?=some 0)/\σ=[]/\env=[(0,.pv (.str s)),eN 3 n],s.length,⟨0,⟨ab,λj hj=>ab⟩,rfl,rfl⟩,?_⟩;rintro m env σ ⟨n,⟨hn,h0⟩,rfl,rfl⟩;refine λb hb=>?_
 rcases cmp hb with⟨rfl,h⟩|⟨rfl,h⟩
 ·obtain⟨v,hv⟩:∃v,s[n]?=some v:=by rw[zah ab];exact⟨_,rfl⟩
  refine⟨_,⟨ab,by rw[zaC];exact hv⟩,?_⟩;refine λb hb=>?_
  rcases cmp hb with⟨rfl,h2⟩|⟨rfl,h2⟩
  ·refine⟨.pv (pB _),oH ?_,trivial,hK⟩;have cb:¬s=ai s.length:=λe=>?_
   ·simp[cb]
   rw[e]at hv;unfold ai at hv;rw[zcZ]at hv;split at hv
   ·injection hv with hv;subst hv;exact h2 rfl
   ·cases hv
  ·have Ej:v=0:=by
    have:(v.toNat:Int)=0:=zco h2;apply zc3.1;have e:(0:UInt8).toNat=0:=rfl;omega
   refine λx hx=>?_
   have hx:=dB hx ab;rw[hx];refine⟨m-1,ab,n+1,⟨ab,λj hj=>?_⟩,rfl,rfl⟩;by_cases nd:j<n
   ·exact h0 j nd
   ·have:j=n:=by omega
    subst this;rw[hv,Ej]
 ·refine⟨.pv (pB _),oH ?_,trivial,hK⟩;have heq:s=ai s.length:=?_
  ·simp[<-heq]
  apply zba;intro i;unfold ai;rw[zcZ];split
  ·exact h0 i ab
  ·exact zaK ab
set_option maxHeartbeats 1000000 in
def H7:MT (ay [(82,ah Xs),(124,L3),(125,ah qK),(126,Qb),(127,tf),(31,ah Mc)]) Cc By:=by
 rintro _ K ⟨s,rfl,hs,hK⟩;have hw:=yd s;unfold b9 at hK;refine λb hb=>?_
 rcases cmp hb with⟨rfl,h1⟩|⟨rfl,h1⟩
 ·rw[if_pos (.inl ab)]at hK;exact dA
 refine⟨ao,?_⟩;refine λx hx=>?_
 rw[zcM ab]at hx;rw[hx];refine λb hb=>?_
 rcases cmp hb with⟨rfl,h2⟩|⟨rfl,h2⟩
 ·rw[if_pos (.inr ab)]at hK;exact dA
 rw[if_neg (by rintro(h|h);omega;omega)]at hK;refine λb hb=>?_
 rcases cmp hb with⟨rfl,h3⟩|⟨rfl,h3⟩
 ·rw[if_pos ab]at hK;refine⟨_,⟨4096,rfl,ab,rfl⟩,?_⟩;exact dA
 rw[if_neg ab]at hK;refine λb hb=>?_
 rcases cmp hb with⟨rfl,h4⟩|⟨rfl,h4⟩
 ·rw[if_pos ab]at hK;exact dA
 rw[if_neg ab]at hK;refine⟨s,rfl,hs,λh=>ab,λcH=>⟨λh5=>?_,λh5=>?_⟩⟩
 ·rw[if_pos h5]at hK;refine λb hb=>?_
  rcases cmp hb with⟨rfl,h⟩|⟨rfl,h⟩
  ·exact dA
  ·exact BZ
 rw[if_neg ab]at hK;refine λb hb=>?_
 rcases cmp hb with⟨rfl,h⟩|⟨rfl,h⟩
 ·exact kN
 by_cases hp:32768<=dD s
 case neg=>
  rw[decide_eq_false hp];rw[if_pos ab]at hK;refine bP ?_;exact dA
 rw[decide_eq_true hp];rw[if_neg ab]at hK;refine aN ?_;refine⟨_,⟨s,0,2,rfl,ab,rfl⟩,?_⟩;rw[show xM (Int.toNat 2) (s.drop (Int.toNat 0))=dD s from XC s];refine⟨ao,?_⟩;refine λy hy=>?_
 rw[zcM ab]at hy;rw[hy];refine λy hy=>?_
 have hy:=dB hy ab;have hy:y=((dD s%4096+1:Nat):Int):=ab;subst hy;generalize cM:dD s%4096+1=c at*;refine λb hb=>?_
 rw[zax]at hb;rcases cmp hb with⟨rfl,h6⟩|⟨rfl,h6⟩
 ·rw[if_pos ab]at hK;exact dA
 rw[if_neg ab]at hK;have Aj:(s.drop 2).length=s.length-2:=zax;have avQ:cut 0 ((c:Nat):Int).toNat (s.drop 2)=(s.drop 2).take c:=by rw[zaC,XV]
 refine⟨⟨ab,by rw[Aj];omega⟩,?_⟩;refine⟨_,rfl,by rw[avQ,zal];omega,?_⟩;rw[avQ];refine λb hb=>?_
 rcases cmp hb with⟨rfl,h7⟩|⟨rfl,h7⟩
 ·rw[if_pos h7]at hK;exact dA
 rw[if_neg h7]at hK;have di:=aoj (zco h7);have lj:=anM di;refine⟨_,rfl,di,?_⟩;generalize Ze (IY cV ((s.drop 2).take c)).1=ex at*;refine λb hb=>?_
 rcases cmp hb with⟨rfl,h8⟩|⟨rfl,h8⟩
 ·rw[if_pos ab]at hK;exact dA
 rw[if_neg ab]at hK;have aeS:cut ((c:Nat):Int).toNat (s.drop 2).length (s.drop 2)=s.drop (2+c):=by rw[zaC,xY,zaQ]
 have ayB:(s.drop (2+c)).length=s.length-(2+c):=zax;refine⟨ab,?_⟩;by_cases hz:s.drop (2+c)=ai (s.length-(2+c))
 ·refine⟨pB true,⟨_,rfl,by rw[aeS,ayB];omega,?_⟩,?_⟩
  ·rw[aeS,ayB,decide_eq_true hz]
  refine aN ?_;refine λy hy=>?_
  rw[Aj]at hy;have hy:=dB hy ab;rw[hy];refine λb hb=>?_
  rcases cmp hb with⟨rfl,h9⟩|⟨rfl,h9⟩
  ·rw[if_pos (.inr ab)]at hK;exact dA
  ·rw[if_neg (by rintro(h|h);exact h hz;omega)]at hK;exact dA
 ·refine⟨pB false,⟨_,rfl,by rw[aeS,ayB];omega,?_⟩,?_⟩
  ·rw[aeS,ayB,decide_eq_false hz]
  refine bP ?_;rw[if_pos (.inl hz)]at hK;exact dA
def Pc:MT (ay []) JS (ah gB):=kS
def MW:MT (ay []) Ij (ah dG):=jP
def MU:MT (ay []) Ic (bF bG):=by
 rintro _ K ⟨_,⟨n,lo,hi,rfl,rfl⟩,hK⟩
 (repeat'((conv=>whnf);first|refine de (λ_=>?_) (λ_=>?_)|fail))<;>try(conv=>whnf)
 all_goals exact kQ
structure Dk where
 a_:List UInt8
 mp:List UInt8
def Dk.pv(d:Dk):PV:=.agg [.str d.a_,.str d.mp]
def Dk.n(d:Dk):Nat:=d.a_.length/256
def eU(B:List UInt8)(n:Nat):List UInt8:=cut (n*256) ((n+1)*256) B
def gI{B:List UInt8}{n:Nat}(h:(n+1)*256<=B.length):(eU B n).length=256:=by
 unfold eU;rw[wL _ _ _ h];omega
structure St where
 a:At
 d:Dk
 pl:List Int
def St.pv(s:St):PV:=.agg [pI s.a.ty,.str s.a.nm,pI s.a.id,pI s.a.fl,pB s.a.rs,.str s.a.vl,pI s.a.ft,qF s.a.rn,pI s.a.al,pI s.a.sz,pI s.a.vd,.str s.d.a_,.str s.d.mp,rI s.pl]
abbrev sP(s:St):PV:=.cptr s.pv
def GM(ps:List PV)(p:Prop):Prop:=∃n:Int,ps=[pI n]/\p=(n= -1)
def ML:MT (ay []) HV (bF GM):=by
 rintro _ K ⟨_,⟨n,rfl,rfl⟩,hK⟩
 (repeat'((conv=>whnf);first|refine de (λ_=>?_) (λ_=>?_)|fail))<;>try(conv=>whnf)
 all_goals exact kQ
def bA(ps:List PV)(x:PV):Prop:=∃d:Dk,ps=[d.pv]/\d.a_.length<=1000000/\x=pI d.n
def Gg:MT (ay []) zy (ah bA):=by
 rintro _ K ⟨_,⟨d,rfl,h,rfl⟩,hK⟩
 (repeat'((conv=>whnf);first|refine l7 ab ?_|fail))<;>try(conv=>whnf)
 exact⟨.pv (pI _),bu so,trivial,hK⟩
def K4(ps:List PV)(x:PV):Prop:=∃n m:Int,ps=[pI n,pI m]/\(0<=n/\n<=1000000/\0<m/\m<=1000000)/\x=pI ((n+m-1)/m)
def Nf:MT (ay []) H8 (ah K4):=by
 rintro _ K ⟨_,⟨n,m,rfl,h,rfl⟩,hK⟩
 (repeat'((conv=>whnf);first|refine bj ab ?_|refine l7 ab ?_|fail))<;>try(conv=>whnf)
 exact aG
def EI(ps:List PV)(x:PV):Prop:=∃n:Int,ps=[pI n]/\n<=1000000/\x=.str (ai n.toNat)
def OA:MT (ay [(131,ah Lo)]) KU (ah EI):=by
 rintro _ K ⟨_,⟨n,rfl,h,rfl⟩,hK⟩
 (repeat'((conv=>whnf);first|refine⟨_,⟨[0],_,rfl,⟨ab,ab,aj⟩,rfl⟩,?_⟩|refine fQ ?_|fail))<;>try(conv=>whnf)
 rw[Zh,show(max 0 n).toNat=n.toNat by omega];exact bM
def Bf(ps:List PV)(x:PV):Prop:=∃(s:List UInt8) (n:Int),ps=[.str s,pI n]/\(s.length<=1000000/\ -1000000<=n/\n<=1000000)/\x=.str (s++ai (n-s.length).toNat)
def Na:MT (ay [(90,ah EI)]) HS (ah Bf):=by
 rintro _ K ⟨_,⟨s,n,rfl,h,rfl⟩,hK⟩
 (repeat'((conv=>whnf);first|refine zcC (by(simp only[bE];omega)) ?_|(refine fe ?_;first|refine bj ab ?_|refine⟨_,⟨_,rfl,cZ,rfl⟩,?_⟩|fail)))<;>try(conv=>whnf)
 exact bM
def wR(ps:List PV)(p:Prop):Prop:=∃n:Int,ps=[pI n]/\p=(0<=n/\n<=32768)
def IW:MT (ay [(117,bF bG)]) Dj (bF wR):=by
 rintro _ K ⟨_,⟨n,rfl,rfl⟩,hK⟩
 (repeat'(refine iM ?_;first|refine de (λ_=>?_) (λ_=>?_)|refine⟨_,⟨_,_,_,rfl,rfl⟩,?_⟩|fail))<;>try(conv=>whnf)
 all_goals exact kQ
def aBF{a:Int}(h:0<=a/\a<=7):iz .and .i64 a 2=2*(a/2%2):=by
 obtain⟨n,rfl⟩:∃n:Nat,a=n:=⟨a.toNat,ab⟩
 obtain rfl|rfl|rfl|rfl|rfl|rfl|rfl|rfl:n=0\/n=1\/n=2\/n=3\/n=4\/n=5\/n=6\/n=7:=ab;all_goals rfl
def K7(ps:List PV)(p:Prop):Prop:=∃s:St,ps=[sP s]/\(0<=s.a.fl/\s.a.fl<=7)/\p=(s.a.fl/2%2=1)
def IV:MT (ay []) sw (bF K7):=by
 rintro _ K ⟨_,⟨s,rfl,h,rfl⟩,hK⟩
 (repeat'((conv=>whnf);first|(refine aFZ ?_;rw[aBF h])|refine de (λ_=>?_) (λ_=>?_)|fail))<;>try(conv=>whnf)
 all_goals exact kQ
def oA(ps:List PV)(p:Prop):Prop:=∃s:St,ps=[sP s]/\(0<=s.a.fl/\s.a.fl<=7)/\p=(s.a.fl%2=1)
def CC:MT (ay []) oS (bF oA):=by
 rintro _ K ⟨_,⟨s,rfl,h,rfl⟩,hK⟩
 (repeat'((conv=>whnf);first|refine de (λ_=>?_) (λ_=>?_)|refine aGr ab ?_|fail))<;>try(conv=>whnf)
 all_goals exact kQ
def AN(ps:List PV)(x:PV):Prop:=∃(s:St) (n:Nat),ps=[sP s,pI n]/\((n+1)*256<=s.d.a_.length/\s.d.a_.length<=1000000)/\x=.str (eU s.d.a_ n)
def JG:MT (ay []) tP (ah AN):=by
 rintro _ K ⟨_,⟨s,n,rfl,h,rfl⟩,hK⟩
 (repeat'((conv=>whnf);first|refine bj ab ?_|refine wz ?_|fail))<;>try(conv=>whnf)
 rw[show((n:Int)*256).toNat=n*256 by omega,show(((n:Int)+1)*256).toNat=(n+1)*256 by omega];exact bM
def MH(B:List UInt8)(l:List Int):Prop:=∀n∈l,n= -1\/(0<=n/\(n+1)*256<=B.length)
def tS(B:List UInt8)(n:Int):List UInt8:=if n= -1 then[]else eU B n.toNat
def dF(B:List UInt8)(l:List Int):List UInt8:=l.flatMap (tS B)
def AJ(B:List UInt8)(l:List Int):(dF B l).length<=256*l.length:=by
 unfold dF
 induction l with
 |nil=>simp
 |cons n l ih=>
  rw[zan,zad,zam];have:(tS B n).length<=256:=by
   unfold tS;split
   ·simp
   ·unfold eU cut;simp;omega
  omega
def QP(ps:List PV)(x:PV):Prop:=∃(s:St) (l:List Int),ps=[sP s,rI l]/\(s.d.a_.length<=1000000/\l.length<=100000/\MH s.d.a_ l)/\x=.str (dF s.d.a_ l)
def MB:MT (ay [(109,ah AN)]) va (ah QP):=by
 rintro _ K ⟨_,⟨s,l,rfl,⟨h1,h2,h3⟩,rfl⟩,hK⟩
 (repeat'((conv=>whnf);first|refine ez λ_=>?_|fail))<;>try(conv=>whnf)
 refine⟨λm env σ=>∃(n:Nat),n+m=l.length/\σ=[]/\env=[(0,.pv (sP s)),(5,.pv (.str (dF s.d.a_ (l.take n)))),(8,.pv (rI l)),eN 9 l.length,eN 10 n],l.length,⟨0,ab,rfl,rfl⟩,?_⟩;rintro m env σ ⟨n,hn,rfl,rfl⟩;have hb:=AJ s.d.a_ (l.take n);rw[zal]at hb;by_cases aU:n<l.length
 ·obtain⟨a,ha⟩:∃a,l[n]?=some a:=⟨_,zah aU⟩
  have hp:=h3 a (zag ha);have hT:dF s.d.a_ (l.take (n+1))=dF s.d.a_ (l.take n)++tS s.d.a_ a:=by
   rw[zcF,ha];simp[dF]
  by_cases h0:a= -1
  ·subst h0
   (repeat'((conv=>whnf);first|refine bj ab ?_|refine au ab ?_|refine aw ab ?_|refine iY aA ?_|fail))<;>try(conv=>whnf)
   exact⟨m-1,ab,n+1,ab,rfl,by rw[hT];simp[tS]⟩
  ·obtain⟨k,rfl⟩:∃k:Nat,a=k:=⟨a.toNat,ab⟩
   have mE:(eU s.d.a_ k).length=256:=gI ab
   (repeat'((conv=>whnf);first|refine⟨_,⟨s,k,rfl,ab,rfl⟩,?_⟩|refine zcC (by rw[mE];omega) ?_|refine bj ab ?_|refine au ab ?_|refine iY aA ?_|fail))<;>try(conv=>whnf)
   exact⟨m-1,ab,n+1,ab,rfl,by rw[hT,tS,if_neg h0];rfl⟩
 ·(repeat'((conv=>whnf);first|refine aw ab ?_|fail))<;>try(conv=>whnf)
  rw[za1 ab];exact bM
def bt(l:List Int):Nat:=(l.filter λn=>decide (n≠ -1)).length
def oG(l:List Int):bt l<=l.length:=zdB ..
def ao2{l:List Int}{n:Nat}{a:Int}(h:l[n]?=some a):bt (l.take (n+1))=bt (l.take n)+if a= -1 then 0 else 1:=by
 rw[zcF,h];unfold bt;rw[zbT,zad];congr 1;by_cases h0:a= -1<;>simp[h0]
def Uc(ps:List PV)(x:PV):Prop:=∃l:List Int,ps=[rI l]/\l.length<=1000000/\x=pI (bt l)
def Rp:MT (ay [(86,bF GM)]) NQ (ah Uc):=by
 rintro _ K ⟨_,⟨l,rfl,h2,rfl⟩,hK⟩
 (repeat'((conv=>whnf);first|refine ez λ_=>?_|fail))<;>try(conv=>whnf)
 refine⟨λm env σ=>∃(n:Nat),n+m=l.length/\σ=[]/\env=[eN 3 (bt (l.take n)),(6,.pv (rI l)),eN 7 l.length,eN 8 n],l.length,⟨0,ab,rfl,rfl⟩,?_⟩;rintro m env σ ⟨n,hn,rfl,rfl⟩;have hb:=oG (l.take n);rw[zal]at hb;by_cases aU:n<l.length
 ·obtain⟨a,ha⟩:∃a,l[n]?=some a:=⟨_,zah aU⟩
  have hT:=ao2 ha
  (repeat'(refine iM ?_;first|refine bj ab ?_|refine aN ?_|refine bP ?_|refine au ab ?_|refine de (λ_=>?_) (λ_=>?_)|refine iY aA ?_|refine⟨_,⟨_,rfl,rfl⟩,?_⟩|fail))<;>try(conv=>whnf)
  ·exact⟨m-1,ab,n+1,ab,rfl,by rw[hT,if_pos aA];rfl⟩
  ·exact⟨m-1,ab,n+1,ab,rfl,by rw[hT,if_neg aA];rfl⟩
 ·(repeat'((conv=>whnf);first|refine aw ab ?_|fail))<;>try(conv=>whnf)
  rw[za1 ab];exact aG
def adT(ps:List PV)(p:Prop):Prop:=∃(s:St) (i:Nat),ps=[sP s,pI i]/\s.pl.length<=1000000/\p=(∃a,s.pl[i]?=some a/\a≠ -1)
def Tu:MT (ay [(86,bF GM)]) zw (bF adT):=by
 rintro _ K ⟨_,⟨s,i,rfl,h,rfl⟩,hK⟩;by_cases aU:i<s.pl.length
 ·obtain⟨a,ha⟩:∃a,s.pl[i]?=some a:=⟨_,zah aU⟩
  have gR:∀r:Bool,(r=true↔a≠ -1)->K (.pv (.bool r)):=λr hr=>hK r (by rw[hr,ha];simp)
  clear hK
  (repeat'(refine iM ?_;first|refine aN ?_|refine bP ?_|refine au ab ?_|refine de (λ_=>?_) (λ_=>?_)|refine ez λ_=>?_|refine iY aA ?_|refine⟨_,⟨_,rfl,rfl⟩,?_⟩|fail))<;>try(conv=>whnf)
  all_goals exact⟨.pv (.bool _),rfl,trivial,gR _ nq⟩
 ·have gR:∀r:Bool,(r=true↔False)->K (.pv (.bool r)):=λr hr=>hK r (by rw[hr,zaK ab];simp)
  clear hK
  (repeat'((conv=>whnf);first|refine aw ab ?_|refine ez λ_=>?_|fail))<;>try(conv=>whnf)
  all_goals exact⟨.pv (.bool _),rfl,trivial,gR _ aj⟩
abbrev rV(f t:Int):PV:=.agg [pI f,pI t]
def awA(f t:Int):(rV f t).flat:=by
 intro c hc;simp at hc;rcases hc with rfl|rfl<;>trivial
def anj(ps:List PV)(x:PV):Prop:=∃s:St,ps=[sP s]/\x=rV 0 s.a.vl.length
def TX:MT (ay []) zz (ah anj):=by
 rintro _ K ⟨_,⟨s,rfl,rfl⟩,hK⟩
 (repeat'((conv=>whnf);first|refine bT ?_|fail))<;>try(conv=>whnf)
 exact⟨.pv _,rfl,awA _ _,hK⟩
def cG(a:At):Int:=if a.rs=true then a.vl.length else a.vd
def WX(ps:List PV)(x:PV):Prop:=∃s:St,ps=[sP s]/\x=pI (cG s.a)
def OF:MT (ay []) wc (ah WX):=by
 rintro _ K ⟨_,⟨s,rfl,rfl⟩,hK⟩;unfold cG at hK;cases h:s.a.rs
 ·(repeat'((conv=>whnf);first|rw[h]|fail))<;>try(conv=>whnf)
  rw[h]at hK;exact aG
 ·(repeat'((conv=>whnf);first|rw[h]|fail))<;>try(conv=>whnf)
  rw[h]at hK;exact aG
def kG(f t:Int)(c:Int):Prop:=f<min t ((c+1)*256)/\c*256<t
def Mb(ps:List PV)(p:Prop):Prop:=∃f t c:Int,ps=[rV f t,pI c]/\(-1000000000<=c/\c<=1000000000)/\p=kG f t c
def Kn:MT (ay []) wh (bF Mb):=by
 rintro _ K ⟨_,⟨f,t,c,rfl,h,rfl⟩,hK⟩;unfold kG at hK
 (repeat'((conv=>whnf);first|refine bj ab ?_|refine de (λ_=>?_) (λ_=>?_)|refine I8 ?_|fail))<;>try(conv=>whnf)
 all_goals exact kQ
def Cj(f t:Int)(c e:Int):Prop:=f<=c*256/\min e ((c+1)*256)<=t
def aaO(ps:List PV)(p:Prop):Prop:=∃f t c e:Int,ps=[rV f t,pI c,pI e]/\(-1000000000<=c/\c<=1000000000)/\p=Cj f t c e
def M0:MT (ay []) xB (bF aaO):=by
 rintro _ K ⟨_,⟨f,t,c,e,rfl,h,rfl⟩,hK⟩;unfold Cj at hK
 (repeat'((conv=>whnf);first|refine bj ab ?_|refine de (λ_=>?_) (λ_=>?_)|refine I8 ?_|fail))<;>try(conv=>whnf)
 all_goals exact kQ
def wx(r:Rn):Prop:=(0<=r.n/\r.n<=4096)/\(-1<=r.s/\r.s<=1000000)
def iV(r:Rn):List Int:=(List.range r.n.toNat).map λ(i:Nat)=>if r.s= -1 then(-1:Int)else r.s+(i:Int)
def az(l:List Rn):List Int:=l.flatMap iV
def EK(r:Rn):(iV r).length=r.n.toNat:=by simp[iV]
def La{l:List Rn}(h:∀r∈l,wx r):(az l).length<=4096*l.length:=by
 unfold az
 induction l with
 |nil=>simp
 |cons r l ih=>
  rw[zan,zad,zam,EK];have:=ih λq hq=>h q kF
  have:=(h r aj).1;omega
def dL(ps:List PV)(r:RV):Prop:=∃s:Rs,ps=[qF s]/\(s.l.length<=1000∧∀r∈s.l,wx r)/\r=.pv (rI (az s.l))
def IQ:MT (ay []) DC (c8 false dL):=by
 rintro _ K ⟨_,⟨s,rfl,⟨h1,h2⟩,rfl⟩,hK⟩
 (repeat'((conv=>whnf);first|refine KP ?_|refine ez λ_=>?_|fail))<;>try(conv=>whnf)
 refine⟨λm env σ=>∃(n:Nat),n+m=s.l.length/\σ=[.row 3 1 true ((az (s.l.take n)).map pI)]/\env=[(3,.own 0),(7,.pv (qF s)),eN 8 s.l.length,eN 9 n],s.l.length,⟨0,ab,rfl,rfl⟩,?_⟩;rintro m env σ ⟨n,hn,rfl,rfl⟩;have hb:(az (s.l.take n)).length<=4096*(s.l.take n).length:=La λr hr=>h2 r (zaL hr)
 rw[zal]at hb;have gJ:(s.l.map Rn.pv).length=s.l.length:=zav _;by_cases aU:n<s.l.length
 ·obtain⟨a,ha⟩:∃a,s.l[n]?=some a:=⟨_,zah aU⟩
  have hp:=h2 a (zag ha);have hT:az (s.l.take (n+1))=az (s.l.take n)++iV a:=by
   rw[zcF,ha];simp[az]
  have hl:=EK a
  (repeat'((conv=>whnf);first|refine Ek ha ?_|refine au ab ?_|refine bT ?_|fail))<;>try(conv=>whnf)
  refine⟨λm' env σ=>∃(i:Nat),(i:Int)+m'=a.n/\σ=[.row 3 1 true ((az (s.l.take n)++(iV a).take i).map pI),.box 28 [.pv (pI a.s),.pv (pI a.n)]]/\env=[(3,.own 0),(5,.ref 1 0 0),(7,.pv (qF s)),eN 8 s.l.length,eN 9 n,eN 14 a.n,eN 15 i],a.n.toNat,⟨0,by unfold wx at hp;omega,aj,rfl⟩,?_⟩;rintro m' env σ ⟨i,hi,rfl,rfl⟩;unfold wx at hp;have hlr:(az (s.l.take n)++(iV a).take i).length<=4096000+4096:=by
   rw[zad,zal];omega
  by_cases j9:(i:Int)<a.n
  ·have hg:(iV a)[i]?=some (if a.s= -1 then-1 else a.s+(i:Int)):=by
    unfold iV;rw[za9,zbA ab];rfl
   generalize hG:az (s.l.take n)++(iV a).take i=G at*
   (repeat'((conv=>whnf);first|refine bj ab ?_|refine au ab ?_|refine de (λ_=>?_) (λ_=>?_)|refine bT ?_|refine zcC cu ?_|fail))<;>try(conv=>whnf)
   ·refine⟨m'-1,ab,i+1,ab,?_,rfl⟩;rename_i hh;rw[zcF,hg,if_pos hh,<-zaj,hG];simp
   ·refine⟨m'-1,ab,i+1,ab,?_,rfl⟩;rename_i hh;rw[zcF,hg,if_neg hh,<-zaj,hG];simp
  ·(repeat'((conv=>whnf);first|refine bj ab ?_|refine aw ab ?_|fail))<;>try(conv=>whnf)
   refine⟨m-1,ab,n+1,ab,?_,rfl⟩;rw[hT,za1 (l:=iV a) (show(iV a).length<=i by omega)]
 ·(repeat'((conv=>whnf);first|refine aw ab ?_|fail))<;>try(conv=>whnf)
  rw[<-za1 (l:=s.l) (show s.l.length<=n by omega)]at hK;exact abL
def qV(acc:List Rn)(a:Int):List Rn:=
 match acc.getLast? with
 |some r=>if (a= -1/\r.s= -1)\/(a≠ -1/\r.s≠ -1/\r.s+r.n=a)then acc.dropLast++[⟨r.s,r.n+1⟩]else acc++[⟨a,1⟩]
 |none=>[⟨a,1⟩]
def nS(l:List Int):List Rn:=l.foldl qV []
def Fh{l:List Int}{n:Nat}{a:Int}(h:l[n]?=some a):nS (l.take (n+1))=qV (nS (l.take n)) a:=by
 rw[zcF,h];simp[nS]
def abJ(acc:List Rn)(a:Int):(qV acc a).length<=acc.length+1:=by
 unfold qV;split
 ·split
  ·simp
  ·simp
 ·simp
def yO(k:Nat)(r:Rn):Prop:=(1<=r.n/\r.n<=k)/\(-1<=r.s/\r.s<=1000000)
def atn{acc:List Rn}{a:Int}{k:Nat}(h:∀r∈acc,yO k r)(ha: -1<=a/\a<=1000000):∀r∈qV acc a,yO (k+1) r:=by
 have up:∀r,yO k r->yO (k+1) r:=λr hr=>⟨⟨hr.1.1,by have:=hr.1.2;omega⟩,hr.2⟩
 have new:yO (k+1) ⟨a,1⟩:=⟨⟨aj,aH⟩,ha⟩
 intro r hr;unfold qV at hr;split at hr
 ·rename_i q hq;have hm:=h q (zds hq);split at hr
  ·rcases zaA.1 hr with h1|h1
   ·exact up r (h r (List.dropLast_subset _ h1))
   ·simp at h1;subst h1;exact⟨⟨by have:=hm.1.1;show 1<=q.n+1;omega,by have:=hm.1.2;show q.n+1<=_;omega⟩,hm.2⟩
  ·rcases zaA.1 hr with h1|h1
   ·exact up r (h r h1)
   ·rw[zdo.1 h1];exact new
 ·rw[zdo.1 hr];exact new
def agT{l:List Int}(h:∀a∈l,-1<=a/\a<=1000000):∀n,(nS (l.take n)).length<=min n l.length∧∀r∈nS (l.take n),yO n r:=by
 intro n
 induction n with
 |zero=>simp[nS]
 |succ n ih=>
  by_cases aU:n<l.length
  ·have ha:l[n]?=some l[n]:=zah aU;rw[Fh ha];refine⟨?_,atn ih.2 (h _ (zag ha))⟩;have:=abJ (nS (l.take n)) l[n];have:=ih.1;omega
  ·rw[za1 ab]at ih ⊢;exact⟨by have:=ih.1;omega,λr hr=>by have:=ih.2 r hr;exact⟨⟨this.1.1,by have:=this.1.2;omega⟩,this.2⟩⟩
def aaA(ps:List PV)(r:RV):Prop:=∃l:List Int,ps=[rI l]/\(l.length<=100000∧∀a∈l,-1<=a/\a<=1000000)/\r=.fresh 28 2 ((nS l).map Rn.pv)
def Nl:MT (ay [(86,bF GM)]) Is (c8 true aaA):=by
 rintro _ K ⟨_,⟨l,rfl,⟨h1,h2⟩,rfl⟩,hK⟩
 (repeat'((conv=>whnf);first|refine ez λ_=>?_|fail))<;>try(conv=>whnf)
 refine⟨λm env σ=>∃(n:Nat),n+m=l.length/\σ=[.row 28 2 true ((nS (l.take n)).map Rn.pv)]/\env=[(3,.own 0),(7,.pv (rI l)),eN 8 l.length,eN 9 n],l.length,⟨0,ab,rfl,rfl⟩,?_⟩;rintro m env σ ⟨n,hn,rfl,rfl⟩;obtain⟨hb,hq⟩:=agT h2 n;by_cases aU:n<l.length
 ·obtain⟨a,ha⟩:∃a,l[n]?=some a:=⟨_,zah aU⟩
  have hT:=Fh ha;have gJ:((nS (l.take n)).map Rn.pv).length=(nS (l.take n)).length:=zav _;generalize nS (l.take n)=R at*;cases UB:R.getLast? with
  |none=>
   have:R=[]:=Ka;subst this
   (repeat'((conv=>whnf);first|refine zcC (by simp;first|done|fail) ?_|refine bj ab ?_|refine au ab ?_|refine aw ao ?_|refine ez λ_=>?_|refine iY aA ?_|refine bT ?_|fail))<;>try(conv=>whnf)
   exact⟨m-1,ab,n+1,ab,rY,rfl⟩
  |some q=>
   have cb:R≠[]:=aaF;have Gq:0<R.length:=zcH.2 cb;have hg:R[((R.length:Int)-1).toNat]?=some q:=by
    rw[<-UB,List.getLast?_eq_getElem?];congr 1;omega
   have hq0:=hq q (zds UB);unfold yO at hq0;have BW:qV R a=if (a= -1/\q.s= -1)\/(a≠ -1/\q.s≠ -1/\q.s+q.n=a)then R.dropLast++[(⟨q.s,q.n+1⟩:Rn)]else R++[(⟨a,1⟩:Rn)]:=by
    unfold qV;rw[UB]
   have LO:(R.map Rn.pv).set ((R.length:Int)-1).toNat (PV.agg [pI q.s,pI (q.n+1)])=(R.dropLast++[(⟨q.s,q.n+1⟩:Rn)]).map Rn.pv:=by
    rw[show((R.length:Int)-1).toNat=R.length-1 by omega];have e:R.dropLast++[q]=R:=by
     have e1:=zdm cb;rw[zdu cb]at UB;rw[<-Option.some.inj UB];exact e1
    have e2:R.length-1=(R.dropLast.map Rn.pv).length:=aj;have e3:R.map Rn.pv=R.dropLast.map Rn.pv++[q.pv]:=by
     conv=>lhs;rw[<-e]
     rw[zbu];rfl
    rw[e2,e3,zc5 _ _ (zai _),zb9,zbu];rfl
   have jx:=h2 a (zag ha)
   (repeat'(refine iM ?_;first|refine bj ab ?_|refine aN ?_|refine bP ?_|refine au ab ?_|refine aw ab ?_|refine de (λ_=>?_) (λ_=>?_)|refine ez λ_=>?_|refine iY aA ?_|refine uM aA ?_|refine Q3 ab ?_|refine bT ?_|refine⟨_,⟨_,rfl,rfl⟩,?_⟩|refine zcC cu ?_|fail))<;>try(conv=>whnf)
   all_goals first
    |exact⟨m-1,ab,n+1,ab,ahU,rfl⟩
    |exact⟨m-1,ab,n+1,ab,by rw[hT,BW,if_neg ab];simp[Rn.pv],rfl⟩
 ·(repeat'((conv=>whnf);first|refine aw ab ?_|fail))<;>try(conv=>whnf)
  rw[za1 ab];exact vj
def axP{l:List Int}{v:Int}{n:Nat}{x:Int}(h0:∀j,j<n→∀y,l[j]?=some y→¬y=v)(hx:l[n]?=some x)(cb:¬x=v):∀j,j<n+1→∀y,l[j]?=some y→¬y=v:=by
 intro j hj y hy;rcases zcG (zcI hj)with h1|h1
 ·exact h0 j h1 y hy
 ·subst h1;rw[hx]at hy;cases hy;exact cb
def Sx(ps:List PV)(x:PV):Prop:=∃(l:List Int) (v:Int),ps=[rI l,pI v]/\l.length<=1000000/\x=pI (WD (λy=>y=v) l)
def agq:MT (ay []) u7 (ah Sx):=by
 rintro _ K ⟨_,⟨l,v,rfl,hl,rfl⟩,hK⟩
 (repeat'((conv=>whnf);first|refine ez λ_=>?_|fail))<;>try(conv=>whnf)
 refine⟨λm env σ=>∃n:Nat,(n+m=l.length∧∀j,j<n→∀y,l[j]?=some y→¬y=v)/\σ=[]/\env=[(0,.pv (rI l)),eN 1 v,eN 7 l.length,eN 8 n],l.length,⟨0,⟨ab,λj hj=>ab⟩,rfl,rfl⟩,?_⟩;rintro m env σ ⟨n,⟨hn,h0⟩,rfl,rfl⟩
 (repeat'((conv=>whnf);first|refine bj ab ?_|refine de (λ_=>?_) (λ_=>?_)|refine aii ab (λ_ _=>?_)|fail))<;>try(conv=>whnf)
 ·rename_i x hx h;exact⟨.pv (pI _),bu (alT h0 hx h.symm),trivial,hK⟩
 ·rename_i x hx h;exact⟨m-1,ab,n+1,⟨ab,axP h0 hx (λe=>h e.symm)⟩,rfl,rfl⟩
 ·refine⟨.pv (pI _),bu (aaK λx hx=>?_),trivial,hK⟩;obtain⟨k,hk⟩:=jk.1 hx;exact h0 k vg x hk
def Ku(ps:List PV)(p:Prop):Prop:=∃(l:List Int) (v:Int),ps=[rI l,pI v]/\l.length<=1000000/\p=(v∈l)
def VQ:MT (ay [(164,ah Sx)]) rp (bF Ku):=by
 rintro _ K ⟨_,⟨l,v,rfl,hl,rfl⟩,hK⟩;have e:v∈l↔0<=WD (λy=>y=v) l:=by
  rw[ak7];exact⟨λh=>⟨v,h,rfl⟩,λ⟨x,h1,h2⟩=>h2▸h1⟩
 rw[e]at hK
 (repeat'(refine iM ?_;first|refine de (λ_=>?_) (λ_=>?_)|refine⟨_,⟨_,_,rfl,cZ,rfl⟩,?_⟩|fail))<;>try(conv=>whnf)
 all_goals exact JH
def uy(ps:List PV)(p:Prop):Prop:=∃(a n:Int),ps=[pI a,.cptr (pI n)]/\p=(n<=a)
def Pp:MT (ay []) oI (bF uy):=by
 rintro _ K ⟨_,⟨a,n,rfl,rfl⟩,hK⟩
 (repeat'((conv=>whnf);first|refine de (λ_=>?_) (λ_=>?_)|fail))<;>try(conv=>whnf)
 all_goals exact kQ
abbrev aCg(n:Int):PV:=.clo 162 [.cptr (pI n)]
def Tm(ps:List PV)(x:PV):Prop:=∃(l:List Int) (v:Int),ps=[rI l,aCg v]/\l.length<=1000000/\x=pI (WD (λy=>v<=y) l)
def adk:MT (ay [(162,bF uy)]) qE (ah Tm):=by
 rintro _ K ⟨_,⟨l,v,rfl,hl,rfl⟩,hK⟩
 (repeat'((conv=>whnf);first|refine ez λ_=>?_|fail))<;>try(conv=>whnf)
 refine⟨λm env σ=>∃n:Nat,(n+m=l.length∧∀j,j<n→∀y,l[j]?=some y→¬v<=y)/\σ=[]/\env=[(0,.pv (rI l)),(1,.pv (aCg v)),eN 7 l.length,eN 8 n],l.length,⟨0,⟨ab,λj hj=>ab⟩,rfl,rfl⟩,?_⟩;rintro m env σ ⟨n,⟨hn,h0⟩,rfl,rfl⟩
 (repeat'((conv=>whnf);first|refine⟨_,⟨_,_,rfl,rfl⟩,?_⟩|refine bj ab ?_|refine de (λ_=>?_) (λ_=>?_)|refine aii ab (λ_ _=>?_)|fail))<;>try(conv=>whnf)
 ·rename_i x hx h;exact⟨.pv (pI _),bu (alT h0 hx h),trivial,hK⟩
 ·rename_i x hx h;refine⟨m-1,ab,n+1,⟨ab,λj hj y hy=>?_⟩,rfl,rfl⟩;rcases zcG (zcI hj)with h1|h1
  ·exact h0 j h1 y hy
  ·subst h1;rw[hx]at hy;cases hy;exact h
 ·refine⟨.pv (pI _),bu (aaK λx hx=>?_),trivial,hK⟩;obtain⟨k,hk⟩:=jk.1 hx;exact h0 k vg x hk
def Hj(ps:List PV)(p:Prop):Prop:=∃(l:List Int) (v:Int),ps=[rI l,aCg v]/\l.length<=1000000/\p=(∃a∈l,v<=a)
def SU:MT (ay [(211,ah Tm)]) nT (bF Hj):=by
 rintro _ K ⟨_,⟨l,v,rfl,hl,rfl⟩,hK⟩;have e:(∃a∈l,v<=a)↔0<=WD (λy=>v<=y) l:=(ak7 l).symm;rw[e]at hK
 (repeat'((conv=>whnf);first|refine⟨_,⟨l,v,rfl,hl,rfl⟩,?_⟩|refine de (λ_=>?_) (λ_=>?_)|fail))<;>try(conv=>whnf)
 all_goals exact JH
def P8:Spec:=EM false false λps K=>∃s:St,ps=[sP s]/\s.pl.length<=1000000/\K (.pv (nP (chunks s.pl)))
def aiX:MT (ay [(167,aeV),(166,Ti)]) vW P8:=by
 rintro _ K ⟨s,rfl,hl,hK⟩;refine⟨s.pl,rfl,?_⟩;refine⟨s.pl,rfl,hl,?_⟩;cases h:chunks s.pl with
 |nil=>rw[h]at hK;exact Zg
 |cons d cs=>rw[h]at hK;exact FI
def auP{x:UInt8}{k:Nat}(hk:k<8)(h:x.toNat/2^k%2=0):Po x k 0=x:=by
 apply zc3.1;rw[ug x hk ab,h];simp
def aCi{b:List UInt8}{i:Nat}(hi:i<8*b.length)(h:bH b i=0):aau b i 0=b:=by
 unfold aau;obtain⟨x,hx⟩:∃x,b[i/8]?=some x:=⟨_,zah ab⟩
 unfold bH at h;rw[hx,zbC]at h ⊢;rw[auP ab h];apply zba;intro j;by_cases hj:j=i/8
 ·subst hj;rw[zbL ab,hx]
 ·rw[List.getElem?_set_ne ab]
def mS(b:Bool):Nat:=if b=true then 1 else 0
def Jj(b:Bool):mS b<=1:=by cases b<;>decide
def mG(l:List Bool):List UInt8:=VA (λi=>mS (l[i]?.getD false)) l.length
def aAf:(List.range 8).all (λk=>(List.range 256).all λn=>Nat.beq (n/2^k%2) 1||Nat.beq (n|||2^k) (n+2^k))=true:=ak
def aBV{n k:Nat}(hn:n<256)(hk:k<8)(h:n/2^k%2=0):n|||2^k=n+2^k:=by
 have h1:=zbo.1 (zbo.1 aAf k (zbm.2 hk)) n (zbm.2 hn);rw[h]at h1;simpa using h1
def Mn(ps:List PV)(x:PV):Prop:=∃l:List Bool,ps=[.sl 1 (l.map pB)]/\l.length<=4096/\x=.str (mG l)
def qf(d:Dk):List Bool:=(List.range d.n).map λi=>decide (bH d.mp i=1)
def awO(d:Dk):(qf d).length=d.n:=by simp[qf]
def xj(ps:List PV)(r:RV):Prop:=∃d:Dk,ps=[d.pv]/\(d.a_.length<=1000000/\d.mp.length<=1000000/\nu d.mp d.n=0)/\r=.fresh 4 1 ((qf d).map pB)
def ajH:MT (ay [(94,ah bA),(129,XF)]) Lf (c8 true xj):=by
 rintro _ K ⟨_,⟨d,rfl,⟨h1,h2,h3⟩,rfl⟩,hK⟩;have hn:d.n<=1000000:=so
 (repeat'(refine iM ?_;first|refine⟨_,⟨_,rfl,cZ,rfl⟩,?_⟩|fail))<;>try(conv=>whnf)
 refine⟨λm env σ=>∃n:Nat,n+m=d.n/\σ=[.box 23 [.pv (.str d.a_),.pv (.str d.mp)],.row 4 1 true (((qf d).take n).map pB)]/\env=[(1,.ref 0 0 0),(3,.own 1),eN 4 d.n,eN 10 d.n,eN 11 n],d.n,⟨0,ab,rfl,rfl⟩,?_⟩;rintro m env σ ⟨n,hn,rfl,rfl⟩;have gJ:((qf d).take n).length<=1000000:=eI;by_cases aU:n<d.n
 ·have hb:aqn d.mp d.n n=bH d.mp n:=by
   unfold aqn ac0;rw[h3];simp;intro h;omega
  have hT:(qf d).take (n+1)=(qf d).take n++[decide (bH d.mp n=1)]:=by
   rw[zcF];congr 1;unfold qf;rw[za9,zbA aU];rfl
  generalize hG:(qf d).take n=G at*
  (repeat'(refine iM ?_;first|refine bj ab ?_|refine au ab ?_|refine de (λ_=>?_) (λ_=>?_)|refine bT ?_|refine⟨_,_,_,rfl,cZ,?_⟩|refine zcC cu ?_|fail))<;>try(conv=>whnf)
  ·rename_i x;exact⟨m-1,ab,n+1,ab,by rw[hT,decide_eq_true ab];simp,rfl⟩
  ·rename_i x;exact⟨m-1,ab,n+1,ab,by rw[hT,decide_eq_false ab];simp,rfl⟩
 ·(repeat'((conv=>whnf);first|refine aw ab ?_|fail))<;>try(conv=>whnf)
  rw[za1 (by rw[awO];omega)];exact⟨.fresh _ _ _,⟨rfl,rfl,rfl,rfl⟩,(by intro c hc;rw[zaX]at hc;obtain⟨x,_,rfl⟩:=hc;trivial),hK⟩
def atw{b:List UInt8}{i:Nat}{x:UInt8}(hx:b[i/8]?=some x)(h:bH b i=0):
 (b.map aL).set (i/8) (.int .u8 ((x.toNat+2^(i%8):Nat):Int))=(aau b i 1).map aL:=by
 have hb:x.toNat/2^(i%8)%2=0:=by unfold bH at h;rw[hx]at h;exact h
 unfold aau;rw[hx,zbC,zdt];congr 1;unfold aL;rw[ug x ab ab,hb];congr 2;omega
def or_val{x:UInt8}{k:Nat}(hk:k<8)(h:x.toNat/2^k%2=0):
 (((BitVec.ofInt IntKind.u8.bits (x.toNat:Int)|||BitVec.ofInt IntKind.u8.bits (1*2^min k IntKind.u8.bits%256)).toNat:Nat):Int)%256=((x.toNat+2^k:Nat):Int):=by
 have hx:=x.toNat_lt;have h2:2^k<=128:=by
  have:2^k<=2^7:=zb6 ab ab;omega
 have hm:min k IntKind.u8.bits=k:=by show min k 8=k;omega
 have hp:(1*2^k%256:Int)=((2^k:Nat):Int):=by
  rw[Int.one_mul,show(2:Int)^k=((2^k:Nat):Int) by simp];generalize 2^k=q at h2;omega
 rw[hm,hp];show(((BitVec.ofInt 8 (x.toNat:Int)|||BitVec.ofInt 8 ((2^k:Nat):Int)).toNat:Nat):Int)%256=_;rw[BitVec.toNat_or,BitVec.toNat_ofInt,BitVec.toNat_ofInt];have hq:(((2^k:Nat):Int)%((2^8:Nat):Int)).toNat=2^k:=by
  generalize 2^k=q at h2;omega
 rw[show((x.toNat:Int)%((2^8:Nat):Int)).toNat=x.toNat by omega,hq];rw[aBV hx hk h];have:x.toNat+2^k<256:=by
  have e:=ug x hk (v:=1) ab;have:=(Po x k 1).toNat_lt;rw[h]at e;omega
 generalize 2^k=q at*;omega
def ajC:MT (ay [(130,JN)]) J_ (ah Mn):=by
 rintro _ K ⟨_,⟨l,rfl,h1,rfl⟩,hK⟩;have hs:fx l.length=0:=by unfold fx;rw[if_pos ab]
 have PB:axV l.length=ai (qO l.length):=by unfold axV;rw[if_pos hs];congr 1
 have ml:(ai (qO l.length)).length=qO l.length:=by simp[ai]
 (repeat'((conv=>whnf);first|rw[PB]|refine zcC (by(rw[ml];unfold qO;omega)) ?_|(refine fe ?_;first|refine ez λ_=>?_|refine⟨_,rfl,?_⟩|fail)))<;>try(conv=>whnf)
 refine⟨λm env σ=>∃n:Nat,n+m=l.length/\σ=[.row 5 1 false ((Nj (λi=>mS (l[i]?.getD false)) (ai (qO l.length)) n).map aL)]/\env=[(5,.own 0),(16,.pv (.sl 1 (l.map pB))),eN 17 l.length,eN 18 n],l.length,⟨0,ab,rfl,rfl⟩,?_⟩;rintro m env σ ⟨n,hn,rfl,rfl⟩;have hf:∀i:Nat,mS (l[i]?.getD false)<=1:=λi=>Jj _
 have bB:=Rw (λi=>mS (l[i]?.getD false)) (ai (qO l.length)) n;by_cases aU:n<l.length
 ·obtain⟨a,ha⟩:∃a,l[n]?=some a:=⟨_,zah aU⟩
  have pD:=Z_ hf n (z:=ai (qO l.length)) (by rw[ml];unfold qO;omega) n;rw[if_neg ab]at pD;have hT:Nj (λi=>mS (l[i]?.getD false)) (ai (qO l.length)) (n+1)=aau (Nj (λi=>mS (l[i]?.getD false)) (ai (qO l.length)) n) n (mS a):=by
   simp only[Nj];rw[ha];rfl
  rw[Ou]at pD;generalize hG:Nj (λi=>mS (l[i]?.getD false)) (ai (qO l.length)) n=G at*;have hG8:n<8*G.length:=by rw[bB,ml];unfold qO;omega
  obtain⟨x,hx⟩:∃x,G[n/8]?=some x:=⟨_,zah ab⟩
  have LO:=atw hx pD;cases a with
  |false=>
   (repeat'((conv=>whnf);first|refine bj ab ?_|refine au ab ?_|refine iY aA ?_|fail))<;>try(conv=>whnf)
   exact⟨m-1,ab,n+1,ab,by rw[hT,show mS false=0 from rfl,aCi hG8 pD],rfl⟩
  |true=>
   (repeat'((conv=>whnf);first|refine bj ab ?_|refine au ab ?_|refine l7 ab ?_|refine lW ab ?_|refine U8m ?_|refine iY aA ?_|refine uM aA ?_|refine Q3 ab ?_|refine bT ?_|refine wz ?_|fail))<;>try(conv=>whnf)
   refine⟨m-1,ab,n+1,ab,?_,rfl⟩;have hv:=or_val (k:=n%8) ab (show x.toNat/2^(n%8)%2=0 by unfold bH at pD;rw[hx]at pD;exact pD);rw[show((n:Int)/8).toNat=n/8 by omega,show((n:Int)%8).toNat=n%8 by omega,hv,LO,hT];rfl
 ·(repeat'((conv=>whnf);first|refine aw ab ?_|refine yR ?_|fail))<;>try(conv=>whnf)
  rw[show n=l.length by omega];exact bM
def mF(l:List UInt8)(n:Nat):List UInt8:=l++ai (n-l.length)
def nA(a:At)(out:List UInt8):List UInt8:=(mF (out.take a.vd.toNat) a.sz.toNat).take a.sz.toNat
def OO(a:At)(out:List UInt8):(nA a out).length=a.sz.toNat:=by
 unfold nA mF;rw[zal,zad,bn];omega
def agE(ps:List PV)(x:PV):Prop:=∃(s:St) (b:List UInt8),ps=[sP s,.str b]/\(b.length<=1000000/\(0<=s.a.vd/\s.a.vd<=1000000)/\(0<=s.a.sz/\s.a.sz<=1000000))/\x=.str (nA s.a b)
def ahL:MT (ay [(62,ah Bf)]) v7 (ah agE):=by
 rintro _ K ⟨_,⟨s,b,rfl,⟨h1,h2,h3⟩,rfl⟩,hK⟩;have e:cut 0 (min (b.length:Int) s.a.vd).toNat b=b.take s.a.vd.toNat:=by
  unfold cut;rw[zdv];by_cases h:(b.length:Int)<=s.a.vd
  ·rw[za1 ab,za1 ab]
  ·congr 1;omega
 have hl:(b.take s.a.vd.toNat).length<=1000000:=eI;have e2:cut 0 s.a.sz.toNat (b.take s.a.vd.toNat++ai (s.a.sz-(b.take s.a.vd.toNat).length).toNat)=nA s.a b:=by
  unfold cut nA mF;rw[zdv];congr 3;omega
 (repeat'((conv=>whnf);first|(rw[e])|refine zcC (by(rw[zad,bn];omega)) ?_|(refine fe ?_;first|refine I8 ?_|refine bT ?_|refine⟨_,⟨_,_,rfl,cZ,rfl⟩,?_⟩|refine wz ?_|fail)))<;>try(conv=>whnf)
 rw[e2];exact bM
def rz(B:List UInt8)(l:List Int):List UInt8:=l.flatMap λn=>if n= -1 then ai 256 else eU B n.toNat
def ow(B:List UInt8)(cs:List (List Int)):List UInt8:=cs.flatMap λc=>(b9 (dF B c)).1
def aV(s:St):List UInt8:=
 if s.a.rs=true then s.a.vl else nA s.a (if s.a.fl%2=1 then ow s.d.a_ (chunks s.pl)else rz s.d.a_ s.pl)
def L2(s:List UInt8):(b9 s).1.length<=4096:=by
 unfold b9;split
 ·simp
 split
 ·simp[bn]
 split
 ·simp;omega
 split
 ·simp
 split
 ·simp
 split
 ·simp
 split
 ·simp
 split
 ·simp
 rename_i h;have h:=zcD.1 h;split
 ·simp
 ·simp only;omega
def YO{B:List UInt8}{l:List Int}(h:MH B l):(rz B l).length=256*l.length:=by
 unfold rz
 induction l with
 |nil=>simp
 |cons n l ih=>
  rw[zan,zad,zam,ih λx hx=>h x iP];have:(if n= -1 then ai 256 else eU B n.toNat).length=256:=by
   split
   ·exact bn _
   ·rename_i hn;rcases h n aj with h|h
    ·exact absurd h hn
    ·exact gI ab
  omega
def ajz(B:List UInt8)(cs:List (List Int)):(ow B cs).length<=4096*cs.length:=by
 unfold ow
 induction cs with
 |nil=>simp
 |cons c cs ih=>
  rw[zan,zad,zam];have:=L2 (dF B c);omega
def Ur{l:List Int}{c:List Int}(h:c∈chunks l):c.length<=16∧∀x∈c,x∈l:=by
 unfold chunks at h;rw[zaX]at h;obtain⟨k,_,rfl⟩:=h;refine⟨by rw[yb];omega,λx hx=>?_⟩;unfold bq at hx;exact List.mem_of_mem_drop (zaL hx)
def om{α:Type}(l:List α):(chunks l).length=(l.length+15)/16:=by simp[chunks,eE]
def au9(a:At):Prop:=(0<=a.fl/\a.fl<=7)/\(0<=a.vd/\a.vd<=1000000)/\(0<=a.sz/\a.sz<=1000000)
def tN(ps:List PV)(x:PV):Prop:=∃s:St,ps=[sP s]/\(s.d.a_.length<=1000000/\s.pl.length<=128/\MH s.d.a_ s.pl/\au9 s.a)/\x=.str (aV s)
def acW:MT (ay [(115,bF oA),(118,P8),(120,ah QP),(119,By),(121,ah agE),(90,ah EI),(109,ah AN)]) tB (ah tN):=by
 rintro _ K ⟨_,⟨s,rfl,⟨h1,h2,h3,h4⟩,rfl⟩,hK⟩;obtain⟨h5,h6,h7⟩:=h4;unfold aV at hK;cases c_:s.a.rs with
 |true=>
  rw[if_pos c_]at hK
  (repeat'((conv=>whnf);first|rw[c_]|fail))<;>try(conv=>whnf)
  exact bM
 |false=>
  rw[if_neg qD]at hK;by_cases hc:s.a.fl%2=1
  ·rw[if_pos hc]at hK
   (repeat'((conv=>whnf);first|rw[c_]|(refine⟨_,⟨s,rfl,h5,rfl⟩,?_⟩)|refine CS (σ:=[]) (λ_=>?_)|(refine fe ?_;first|refine au ab ?_|refine ez λ_=>?_|refine⟨_,rfl,cZ,?_⟩|fail)))<;>try(conv=>whnf)
   have mE:=om s.pl;have AQ:∀c∈chunks s.pl,c.length<=16∧∀x∈c,x∈s.pl:=λc hc=>Ur hc
   generalize chunks s.pl=cs at*;refine⟨λm env σ=>∃(n:Nat),n+m=cs.length/\σ=[]/\env=[(0,.pv (sP s)),(3,.pv (.str (ow s.d.a_ (cs.take n)))),(23,.pv (nP cs)),eN 24 cs.length,eN 25 n],cs.length,⟨0,ab,rfl,by simp[ow,GO]⟩,?_⟩;rintro m env σ ⟨n,hn,rfl,rfl⟩;have Vr:=ajz s.d.a_ (cs.take n);rw[zal]at Vr;by_cases aU:n<cs.length
   ·obtain⟨c,WS⟩:∃c,cs[n]?=some c:=⟨_,zah aU⟩
    have An:=AQ c (zag WS);have qH:=AJ s.d.a_ c;have hT:ow s.d.a_ (cs.take (n+1))=ow s.d.a_ (cs.take n)++(b9 (dF s.d.a_ c)).1:=by
     rw[zcF,WS];simp[ow]
    have xf:=L2 (dF s.d.a_ c);have cb:nP cs=.sl 1 (cs.map rI):=alP aaV
    (repeat'((conv=>whnf);first|rw[cb]|refine⟨_,⟨s,c,rfl,⟨ab,ab,λx hx=>h3 x (An.2 x hx)⟩,rfl⟩,?_⟩|(refine fe ?_;first|refine bj ab ?_|refine au ab ?_|refine iY aA ?_|refine⟨_,rfl,cZ,?_⟩|refine wz ?_|fail)))<;>try(conv=>whnf)
    exact Bq
   ·(repeat'(refine iM ?_;first|refine aw ab ?_|refine⟨_,⟨_,_,rfl,cZ,rfl⟩,?_⟩|fail))<;>try(conv=>whnf)
    rw[za1 ab];exact bM
  ·rw[if_neg hc]at hK
   (repeat'((conv=>whnf);first|rw[c_]|(refine⟨_,⟨s,rfl,h5,rfl⟩,?_⟩)|refine aw ab ?_|refine ez λ_=>?_|fail))<;>try(conv=>whnf)
   refine⟨λm env σ=>∃(n:Nat),n+m=s.pl.length/\σ=[]/\env=[(0,.pv (sP s)),(3,.pv (.str (rz s.d.a_ (s.pl.take n)))),(46,.pv (rI s.pl)),eN 47 s.pl.length,eN 48 n],s.pl.length,⟨0,ab,rfl,by simp[rz,GO]⟩,?_⟩;rintro m env σ ⟨n,hn,rfl,rfl⟩;have vu:=YO (B:=s.d.a_) (l:=s.pl.take n) (λx hx=>h3 x (zaL hx));rw[zal]at vu;by_cases aU:n<s.pl.length
   ·obtain⟨c,WS⟩:∃c,s.pl[n]?=some c:=⟨_,zah aU⟩
    have hT:rz s.d.a_ (s.pl.take (n+1))=rz s.d.a_ (s.pl.take n)++(if c= -1 then ai 256 else eU s.d.a_ c.toNat):=by
     rw[zcF,WS];simp[rz]
    have An:=h3 c (zag WS);by_cases h0:c= -1
    ·subst h0;rw[if_pos rfl]at hT
     (repeat'((conv=>whnf);first|refine zcC aiY ?_|(refine fe ?_;first|refine bj ab ?_|refine au ab ?_|refine iY aA ?_|refine⟨_,⟨_,rfl,cZ,rfl⟩,?_⟩|fail)))<;>try(conv=>whnf)
     exact Bq
    ·obtain⟨k,rfl⟩:∃k:Nat,c=k:=⟨c.toNat,ab⟩
     have mE:(eU s.d.a_ k).length=256:=gI ab;rw[if_neg h0]at hT
     (repeat'((conv=>whnf);first|refine⟨_,⟨s,k,rfl,ab,rfl⟩,?_⟩|refine zcC (by(rw[vu,mE];omega)) ?_|refine bj ab ?_|refine au ab ?_|refine aw ab ?_|refine iY aA ?_|fail))<;>try(conv=>whnf)
     exact Bq
   ·(repeat'(refine iM ?_;first|refine aw ab ?_|refine⟨_,⟨_,_,rfl,cZ,rfl⟩,?_⟩|fail))<;>try(conv=>whnf)
    rw[za1 ab];exact bM
def pG(d:Dk)(pl:List Int):Int:=if ∃a∈pl,(d.n:Int)<=a then 2 else if ∃a∈pl,a≠ -1/\bH d.mp a.toNat=0 then 14 else 0
def Lb(ps:List PV)(x:PV):Prop:=∃s:St,ps=[sP s]/\(s.d.a_.length<=1000000/\s.d.mp.length<=1000000/\nu s.d.mp s.d.n=0/\s.pl.length<=1000000∧∀a∈s.pl,-1<=a)/\x=pI (pG s.d s.pl)
def V_:MT (ay [(94,ah bA),(161,bF Hj),(162,bF uy),(86,bF GM),(129,XF)]) rq (ah Lb):=by
 rintro _ K ⟨_,⟨s,rfl,⟨h1,h2,h3,h4,h5⟩,rfl⟩,hK⟩;unfold pG at hK
 (repeat'((conv=>whnf);first|refine⟨_,⟨s.d,rfl,h1,rfl⟩,?_⟩|refine⟨_,⟨s.pl,(s.d.n:Int),rfl,h4,rfl⟩,?_⟩|refine de (λ_=>?_) (λ_=>?_)|refine ez λ_=>?_|refine bT ?_|fail))<;>try(conv=>whnf)
 ·rename_i x;rw[if_pos x]at hK;exact aG
 rename_i tT _;rw[if_neg tT]at hK;refine⟨λm env σ=>∃(n:Nat),n+m=s.pl.length/\(∀j,j<n→∀y,s.pl[j]?=some y→¬(y≠ -1/\bH s.d.mp y.toNat=0))/\σ=[.fz (.cptr (pI s.d.n))]/\env=[(0,.pv (sP s)),(3,.ref 0 0 0),(22,.pv (rI s.pl)),eN 23 s.pl.length,eN 24 n],s.pl.length,⟨0,ab,λj hj=>ab,rfl,rfl⟩,?_⟩;rintro m env σ ⟨n,hn,aHp,rfl,rfl⟩;by_cases aU:n<s.pl.length
 ·obtain⟨c,WS⟩:∃c,s.pl[n]?=some c:=⟨_,zah aU⟩
  have hm:=zag WS;have An:=h5 c hm;have aym:¬(s.d.n:Int)<=c:=λh=>tT ⟨c,hm,h⟩
  have Gs:¬(c≠ -1/\bH s.d.mp c.toNat=0)→∀j,j<n+1→∀y,s.pl[j]?=some y→¬(y≠ -1/\bH s.d.mp y.toNat=0):=by
   intro hh j hj y hy;rcases zcG (zcI hj)with h1|h1
   ·exact aHp j h1 y hy
   ·subst h1;rw[WS]at hy;cases hy;exact hh
  by_cases h0:c= -1
  ·subst h0
   (repeat'(refine iM ?_;first|refine bj ab ?_|refine aN ?_|refine au ab ?_|refine iY aA ?_|refine⟨_,⟨_,rfl,rfl⟩,?_⟩|fail))<;>try(conv=>whnf)
   exact⟨m-1,ab,n+1,ab,Gs (λh=>h.1 rfl),rfl,rfl⟩
  ·have hb:aqn s.d.mp s.d.n c=bH s.d.mp c.toNat:=by
    unfold aqn ac0;rw[h3];simp;intro h;omega
   (repeat'((conv=>whnf);first|refine⟨s.d.mp,(s.d.n:Int),c,rfl,h2,?_⟩|(refine fe ?_;first|refine bj ab ?_|refine bP ?_|refine au ab ?_|refine aw ab ?_|refine de (λ_=>?_) (λ_=>?_)|refine iY aA ?_|refine bT ?_|refine⟨_,⟨_,rfl,rfl⟩,?_⟩|fail)))<;>try(conv=>whnf)
   ·rename_i x;rw[if_pos ⟨c,hm,h0,ab⟩]at hK;exact aG
   ·rename_i x;exact⟨m-1,ab,n+1,ab,Gs (λh=>ab),rfl,rfl⟩
 ·rw[if_neg (by rintro⟨a,ha,hh⟩;obtain⟨k,hk⟩:=jk.1 ha;exact aHp k vg a hk hh)]at hK
  (repeat'((conv=>whnf);first|refine aw ab ?_|fail))<;>try(conv=>whnf)
  exact aG
def mh(c:List Int):Prop:=WD (λy=>y= -1) c<0\/bt (c.drop (WD (λy=>y= -1) c).toNat)=0
def lJ(a:At)(pl:List Int):Prop:=a.al=bt pl*256/\if a.fl%2=1 then(pl.length:Int)=(a.sz+4095)/4096*16∧∀c∈chunks pl,mh c else(pl.length:Int)=(a.sz+255)/256/\(a.fl/2%2=1\/bt pl=pl.length)
noncomputable def iW(a:At)(pl:List Int):Int:=open Classical in if lJ a pl then 0 else 3
def aFl(c:List Int)(k:Nat):[PV.sl 1 (cut k (c.map pI).length (c.map pI))]=[rI (c.drop k)]:=by
 unfold cut;rw[zcN,<-zdE]
def OX(ps:List PV)(x:PV):Prop:=∃s:St,ps=[sP s]/\(s.pl.length<=10000/\au9 s.a)/\x=pI (iW s.a s.pl)
def abw:MT (ay [(135,ah Uc),(115,bF oA),(163,ah K4),(118,P8),(164,ah Sx),(165,bF K7),(59,ah dG)]) r7 (ah OX):=by
 rintro _ K ⟨_,⟨s,rfl,⟨h1,h2⟩,rfl⟩,hK⟩;obtain⟨h5,h6,h7⟩:=h2;have Vr:=oG s.pl;have mE:=om s.pl;have AQ:∀c∈chunks s.pl,c.length<=16∧∀x∈c,x∈s.pl:=λc hc=>Ur hc
 by_cases hc:s.a.fl%2=1
 ·have hS:lJ s.a s.pl↔(s.a.al=bt s.pl*256/\(s.pl.length:Int)=(s.a.sz+4095)/4096*16)∧∀c∈chunks s.pl,mh c:=by
   unfold lJ;rw[if_pos hc,and_assoc]
  have gR:∀r:Bool,(r=true↔(s.a.al=bt s.pl*256/\(s.pl.length:Int)=(s.a.sz+4095)/4096*16)∧∀c∈chunks s.pl,mh c)->K (.pv (pI (if r=true then 0 else 3))):=by
   intro r hr;unfold iW at hK;rw[<-hS]at hr;by_cases h:lJ s.a s.pl
   ·rw[if_pos h]at hK;rw[if_pos (hr.2 h)];exact hK
   ·rw[if_neg h]at hK;rw[if_neg (λe=>h (hr.1 e))];exact hK
  clear hS hK;generalize hP:(s.a.al=bt s.pl*256/\(s.pl.length:Int)=(s.a.sz+4095)/4096*16)=P at*;generalize sH:chunks s.pl=cs at*
  (repeat'((conv=>whnf);first|refine⟨_,⟨s.pl,rfl,ab,rfl⟩,?_⟩|(refine⟨_,⟨s,rfl,h5,rfl⟩,?_⟩)|refine⟨s,rfl,ab,?_⟩|rw[sH]|refine CS (σ:=[]) (λ_=>?_)|(refine fe ?_;first|refine bj ab ?_|refine au ab ?_|refine de (λ_=>?_) (λ_=>?_)|refine ez λ_=>?_|refine bT ?_|refine⟨_,⟨_,_,rfl,cZ,rfl⟩,?_⟩|fail)))<;>try(conv=>whnf)
  all_goals
   refine⟨λm env σ=>∃(n:Nat) (r:Bool),n+m=cs.length/\(r=true↔P∧∀c∈cs.take n,mh c)/\σ=[]/\env=[(3,.pv (.bool r)),(71,.pv (nP cs)),eN 72 cs.length,eN 73 n],cs.length,⟨0,_,ab,?_,rfl,rfl⟩,?_⟩
   ·have e0:(s.pl.map pI).length=s.pl.length:=zav _;rw[<-hP];simp<;>omega
   rintro m env σ ⟨n,r,hn,hr,rfl,rfl⟩;by_cases aU:n<cs.length
   ·obtain⟨c,WS⟩:∃c,cs[n]?=some c:=⟨_,zah aU⟩
    have An:=AQ c (zag WS);have cb:nP cs=.sl 1 (cs.map rI):=alP aaV;have hT:(∀x∈cs.take (n+1),mh x)↔(∀x∈cs.take n,mh x)/\mh c:=by
     rw[zcF,WS];simp only[Option.toList_some,zaA,zdo];exact⟨λh=>⟨λx hx=>h x (.inl hx),h c (.inr rfl)⟩,λh x hx=>hx.elim (h.1 x) λe=>e▸h.2⟩
    have ayC:∀r':Bool,(r'=true↔r=true/\mh c)->(r'=true↔P∧∀x∈cs.take (n+1),mh x):=λr' ic=>by
     rw[ic,hr,hT,and_assoc]
    clear hr hT gR;cases r with
    |false=>
     (repeat'((conv=>whnf);first|rw[cb]|refine⟨_,⟨c,-1,rfl,ab,rfl⟩,?_⟩|refine bj ab ?_|refine au ab ?_|refine iY aA ?_|fail))<;>try(conv=>whnf)
     exact⟨m-1,ab,n+1,false,ab,ayC false aj,rfl,rfl⟩
    |true=>
     have xf:=oG (c.drop (WD (λy=>y= -1) c).toNat);have XM: -1<=WD (λy=>y= -1) c/\WD (λy=>y= -1) c<=c.length:=by
      rcases Az (p:=λy=>y=(-1:Int)) c with⟨h,_⟩|⟨i,x,h,h2,_⟩
      ·omega
      ·have:=eT h2;omega
     (repeat'((conv=>whnf);first|rw[cb]|refine⟨_,⟨c,-1,rfl,ab,rfl⟩,?_⟩|refine⟨_,⟨c.drop (WD (λy=>y= -1) c).toNat,aFl _ _,aH,rfl⟩,?_⟩|refine bj ab ?_|refine au ab ?_|refine de (λ_=>?_) (λ_=>?_)|refine iY aA ?_|refine zcC cu ?_|fail))<;>try(conv=>whnf)
     ·rename_i x;exact⟨m-1,ab,n+1,true,ab,ayC true (by simp[mh,x]),rfl,rfl⟩
     ·rename_i x y;exact⟨m-1,ab,n+1,true,ab,ayC true (by simp[mh];right;omega),rfl,rfl⟩
     ·rename_i x y;exact⟨m-1,ab,n+1,false,ab,ayC false (by simp[mh];omega),rfl,rfl⟩
   ·have:=gR r (by rw[hr,za1 ab]);clear gR
    (repeat'(refine iM ?_;first|refine aw ab ?_|refine⟨_,⟨_,_,rfl,rfl⟩,?_⟩|fail))<;>try(conv=>whnf)
    exact⟨.pv (pI _),rfl,trivial,this⟩
 ·have hS:lJ s.a s.pl↔(s.a.al=bt s.pl*256/\(s.pl.length:Int)=(s.a.sz+255)/256/\(s.a.fl/2%2=1\/bt s.pl=s.pl.length)):=by
   unfold lJ;rw[if_neg hc]
  have gR:∀r:Bool,(r=true↔(s.a.al=bt s.pl*256/\(s.pl.length:Int)=(s.a.sz+255)/256/\(s.a.fl/2%2=1\/bt s.pl=s.pl.length)))->K (.pv (pI (if r=true then 0 else 3))):=by
   intro r hr;unfold iW at hK;rw[<-hS]at hr;by_cases h:lJ s.a s.pl
   ·rw[if_pos h]at hK;rw[if_pos (hr.2 h)];exact hK
   ·rw[if_neg h]at hK;rw[if_neg (λe=>h (hr.1 e))];exact hK
  clear hS hK;have e0:(s.pl.map pI).length=s.pl.length:=zav _;refine oQ ?_;refine⟨_,⟨s.pl,rfl,ab,rfl⟩,?_⟩;refine bj ab ?_;refine de (λh8=>?_) (λh8=>?_)
  ·refine⟨_,⟨s,rfl,h5,rfl⟩,?_⟩;refine aw hc ?_;refine oQ ?_;refine⟨_,⟨_,_,rfl,ab,rfl⟩,?_⟩;refine de (λh9=>?_) (λh9=>?_)
   ·refine⟨_,⟨s,rfl,h5,rfl⟩,?_⟩;refine de (λXK=>?_) (λXK=>?_)
    ·refine⟨_,⟨true,3,rfl,rfl⟩,?_⟩;exact⟨.pv (pI _),rfl,trivial,gR true aH⟩
    ·refine⟨_,⟨s.pl,rfl,ab,rfl⟩,?_⟩;refine de (λgT=>?_) (λgT=>?_)
     ·refine⟨_,⟨true,3,rfl,rfl⟩,?_⟩;exact⟨.pv (pI _),rfl,trivial,gR true aH⟩
     ·refine⟨_,⟨false,3,rfl,rfl⟩,?_⟩;exact Yl
   ·refine⟨_,⟨false,3,rfl,rfl⟩,?_⟩;exact Yl
  ·refine⟨_,⟨s,rfl,h5,rfl⟩,?_⟩;refine aw hc ?_;refine oQ ?_;refine⟨_,⟨false,3,rfl,rfl⟩,?_⟩;exact Yl
def gm(d:Dk):Int:=if d.a_.length%256≠0 then 10 else if 512<d.n then 2 else nu d.mp d.n
def dm(ps:List PV)(x:PV):Prop:=∃d:Dk,ps=[d.pv]/\(d.a_.length<=1000000/\d.mp.length<=1000000)/\x=pI (gm d)
def Wy:MT (ay [(59,ah dG),(94,ah bA),(95,ah HN),(58,ah gB)]) Bm (ah dm):=by
 rintro _ K ⟨_,⟨d,rfl,⟨h1,h2⟩,rfl⟩,hK⟩;have hn:d.n<=10000:=so
 (repeat'((conv=>whnf);first|refine oQ ?_|(refine⟨_,⟨d,rfl,ab,rfl⟩,?_⟩)|(refine⟨_,⟨d.mp,min (d.n:Int) 512,rfl,ab,rfl⟩,?_⟩)|(refine fe ?_;first|refine de (λ_=>?_) (λ_=>?_)|refine I8 ?_|refine lW ab ?_|refine⟨_,⟨_,_,rfl,rfl⟩,?_⟩|refine⟨_,⟨[_,_,_],rfl,rfl⟩,?_⟩|fail)))<;>try(conv=>whnf)
 all_goals
  refine⟨.pv (pI _),?_,trivial,hK⟩;refine bu ?_;simp only[bQ,if_true,zct,if_false];unfold gm;split<;>(try split)<;>(try omega)
 all_goals(try rw[show(min (d.n:Int) 512)=d.n by omega])
 all_goals simp_all
def oT(a:At):Int:=if gu a≠0 then gu a else if a.ty≠128\/4<=a.fl\/a.fl=3 then 15 else if a.ft≠0 then 20 else if 32768<a.sz then 2 else 0
def Dy(ps:List PV)(x:PV):Prop:=∃a:At,ps=[a.pv]/\a.nm.length<=1000000/\x=pI (oT a)
def aAJ{a:Int}(h:0<=a/\a<=7):iz .and .i64 a 4=4*(a/4%2):=by
 obtain⟨n,rfl⟩:∃n:Nat,a=n:=⟨a.toNat,ab⟩
 obtain rfl|rfl|rfl|rfl|rfl|rfl|rfl|rfl:n=0\/n=1\/n=2\/n=3\/n=4\/n=5\/n=6\/n=7:=ab;all_goals rfl
def aB7{a:Int}(h:0<=a/\a<=7):iz .and .i64 a 3=a%4:=by
 obtain⟨n,rfl⟩:∃n:Nat,a=n:=⟨a.toNat,ab⟩
 obtain rfl|rfl|rfl|rfl|rfl|rfl|rfl|rfl:n=0\/n=1\/n=2\/n=3\/n=4\/n=5\/n=6\/n=7:=ab;all_goals rfl
def afv{a:At}(h:gu a=0):0<=a.fl/\a.fl<=7:=by
 unfold gu at h;split at h
 ·rename_i g;exact sF
 ·rename_i g;exact(acN.of (zcD.1 g)).idf.2
def VO:MT (ay [(96,ah nC),(59,ah dG),(58,ah gB)]) B3 (ah Dy):=by
 rintro _ K ⟨_,⟨a,rfl,h1,rfl⟩,hK⟩
 (repeat'((conv=>whnf);first|refine oQ ?_|(refine⟨_,⟨a,rfl,h1,rfl⟩,?_⟩)|(refine⟨_,⟨[_,_,_,_],rfl,rfl⟩,?_⟩)|(refine fe ?_;first|refine aN ?_|refine bP ?_|refine de (λ_=>?_) (λ_=>?_)|refine aFZ ?_|refine⟨_,⟨_,_,rfl,rfl⟩,?_⟩|fail)))<;>try(conv=>whnf)
 all_goals
  refine⟨.pv (pI _),?_,trivial,hK⟩;refine bu ?_;simp only[bQ,if_true,zct,if_false];unfold oT;by_cases hz:gu a=0
  ·have hf:=afv hz;have h4:=aAJ hf;have h3:=aB7 hf;simp only[hz,ne_eq,not_true_eq_false,if_false];split<;>(try split)<;>(try split)<;>(try omega)
   all_goals(try(rename_i h;exact absurd trivial h))
   all_goals(try rw[h4]at*)
   all_goals(try rw[h3]at*)
   all_goals first
    |omega
    |(simp_all;done)
    |(simp_all<;>omega)
  ·simp[hz]
def TE(f:Nat->Int)(n:Nat):Int:=bQ ((List.range n).map f)
def amm(a b:List Int):bQ (a++b)=if bQ a=0 then bQ b else bQ a:=by
 induction a with
 |nil=>simp[bQ]
 |cons x a ih=>
  simp only[zbd,bQ];by_cases h:x=0
  ·simp only[h,if_true];exact ih
  ·simp[h]
def adU(f:Nat->Int)(n:Nat):TE f (n+1)=if TE f n=0 then f n else TE f n:=by
 unfold TE;rw[zdk,zbu,amm];by_cases h:f n=0<;>simp[bQ,h]
def AG{f:Nat->Int}:∀{n:Nat},TE f n=0↔∀j,j<n->f j=0
 |0=>by simp[TE,bQ]
 |n+1=>by
  rw[adU];constructor
  ·intro h j hj;split at h
   ·rename_i g;rcases zcG (zcI hj)with h1|h1
    ·exact AG.1 g j h1
    ·rw[h1];exact h
   ·rename_i g;exact sF
  ·intro h;rw[if_pos (AG.2 λj hj=>h j ab)];exact h n ab
def agf{f:Nat->Int}{i:Nat}:∀{n:Nat},(∀j,j<i->f j=0)->i<n->f i≠0->TE f n=f i
 |0,_,h,_=>by omega
 |n+1,h0,h,cb=>by
  rw[adU];by_cases hi:i<n
  ·rw[agf h0 hi cb,if_neg cb]
  ·have:i=n:=by omega
   subst this;rw[if_pos (AG.2 h0)]
def mZ(vd:Int)(i:Nat):Nat:=(min (max 0 (vd-i*4096)) 4096).toNat
def xC(B:List UInt8)(vd:Int)(i:Nat)(c:List Int):Int:=
 if (b9 (dF B c)).2≠0 then(b9 (dF B c)).2
 else if (0<bt c/\(b9 (dF B c)).1=ai 4096)\/(b9 (dF B c)).1.drop (mZ vd i)≠ai (4096-mZ vd i)then 19 else 0
def qw(B:List UInt8)(vd:Int)(cs:List (List Int)):Int:=TE (λi=>xC B vd i (cs[i]?.getD [])) cs.length
def HC{s:List UInt8}(h:(b9 s).2=0):(b9 s).1.length=4096:=by
 unfold b9 at h ⊢;split
 ·rename_i g;rw[if_pos g]at h;cases h
 rename_i g;rw[if_neg g]at h;split
 ·exact bn _
 rename_i g;rw[if_neg g]at h;split
 ·assumption
 rename_i g;rw[if_neg g]at h;split
 ·rename_i g;rw[if_pos g]at h;cases h
 rename_i g;rw[if_neg g]at h;split
 ·rename_i g;rw[if_pos g]at h;cases h
 rename_i g;rw[if_neg g]at h;split
 ·rename_i g;rw[if_pos g]at h;cases h
 rename_i g;rw[if_neg g]at h;split
 ·rename_i g;rw[if_pos g]at h;exact sF
 rename_i g;rw[if_neg g]at h;split
 ·rename_i g;rw[if_pos g]at h;cases h
 rename_i g;rw[if_neg g]at h;split
 ·rename_i g;rw[if_pos g]at h;cases h
 ·exact zcD.1 aA
def SZ{α:Type}(k:Nat)(l:List α):cut k l.length l=l.drop k:=by unfold cut;rw[zcN]
def OG(ps:List PV)(x:PV):Prop:=∃s:St,ps=[sP s]/\(s.d.a_.length<=1000000/\s.pl.length<=10000/\MH s.d.a_ s.pl/\au9 s.a)/\x=pI (qw s.d.a_ s.a.vd (chunks s.pl))
def abH:MT (ay [(118,P8),(120,ah QP),(119,By),(135,ah Uc),(90,ah EI)]) sm (ah OG):=by
 rintro _ K ⟨_,⟨s,rfl,⟨h1,h2,h3,h4⟩,rfl⟩,hK⟩;obtain⟨h5,h6,h7⟩:=h4;unfold qw at hK;have mE:=om s.pl;have AQ:∀c∈chunks s.pl,c.length<=16∧∀x∈c,x∈s.pl:=λc hc=>Ur hc
 generalize sH:chunks s.pl=cs at*;generalize hF:(λi=>xC s.d.a_ s.a.vd i (cs[i]?.getD []))=F at*
 (repeat'((conv=>whnf);first|refine⟨s,rfl,ab,?_⟩|rw[sH]|refine CS (σ:=[]) (λ_=>?_)|refine ez λ_=>?_|fail))<;>try(conv=>whnf)
 refine⟨λm env σ=>∃n:Nat,n+m=cs.length/\(∀j,j<n->F j=0)/\σ=[]/\env=[(0,.pv (sP s)),(10,.pv (nP cs)),eN 11 cs.length,eN 12 n],cs.length,⟨0,ab,λj hj=>ab,rfl,rfl⟩,?_⟩;rintro m env σ ⟨n,hn,h0,rfl,rfl⟩;by_cases aU:n<cs.length
 ·obtain⟨c,WS⟩:∃c,cs[n]?=some c:=⟨_,zah aU⟩
  have An:=AQ c (zag WS);have qH:=AJ s.d.a_ c;have cb:nP cs=.sl 1 (cs.map rI):=alP aaV;have hFn:F n=xC s.d.a_ s.a.vd n c:=by rw[<-hF];simp only;rw[WS];rfl
  have LU:xC s.d.a_ s.a.vd n c≠0->K (.pv (pI (xC s.d.a_ s.a.vd n c))):=λh=>by
   rw[agf h0 aU (by rw[hFn];exact h),hFn]at hK;exact hK
  have aoH:xC s.d.a_ s.a.vd n c=0→∀j,j<n+1->F j=0:=λh j hj=>by
   rcases zcG (zcI hj)with h1|h1
   ·exact h0 j h1
   ·rw[h1,hFn];exact h
  have Vr:=oG c;clear hK hF;unfold xC at LU aoH;have hlen:(b9 (dF s.d.a_ c)).2=0->(b9 (dF s.d.a_ c)).1.length=4096:=HC;generalize hU:b9 (dF s.d.a_ c)=U at*;obtain⟨own,e⟩:=U;simp only at LU aoH hlen;have CV:e≠0->K (.pv (pI e)):=λh=>by
   have:=LU (by rw[if_pos h];exact h);rw[if_pos h]at this;exact this
  have t_:¬e≠0->((0<(bt c:Int)/\own=ai (4096:Int).toNat)\/cut (min (max 0 (s.a.vd-n*4096)) 4096).toNat own.length own≠ai (4096-min (max 0 (s.a.vd-n*4096)) 4096).toNat)->K (.pv (pI 19)):=λh h2=>by
   rw[SZ,show(4096-min (max 0 (s.a.vd-n*4096)) 4096).toNat=4096-mZ s.a.vd n by unfold mZ;omega]at h2;have h2:(0<bt c/\own=ai 4096)\/own.drop (mZ s.a.vd n)≠ai (4096-mZ s.a.vd n):=h2.imp (λh=>⟨ab,h.2⟩) id;have:=LU (by rw[if_neg h,if_pos h2];decide);rw[if_neg h,if_pos h2]at this;exact this
  have hg:¬e≠0→¬((0<(bt c:Int)/\own=ai (4096:Int).toNat)\/cut (min (max 0 (s.a.vd-n*4096)) 4096).toNat own.length own≠ai (4096-min (max 0 (s.a.vd-n*4096)) 4096).toNat)→∀j,j<n+1->F j=0:=λh h2=>by
   rw[SZ,show(4096-min (max 0 (s.a.vd-n*4096)) 4096).toNat=4096-mZ s.a.vd n by unfold mZ;omega]at h2;have h2:¬((0<bt c/\own=ai 4096)\/own.drop (mZ s.a.vd n)≠ai (4096-mZ s.a.vd n)):=λg=>h2 (g.imp (λh=>⟨ab,h.2⟩) id)
   exact aoH (by rw[if_neg h,if_neg h2])
  clear LU aoH
  (repeat'((conv=>whnf);first|rw[cb]|refine⟨_,⟨s,c,rfl,⟨ab,ab,λx hx=>h3 x (An.2 x hx)⟩,rfl⟩,?_⟩|rw[hU]|(refine fe ?_;first|refine bj ab ?_|refine au ab ?_|refine de (λ_=>?_) (λ_=>?_)|refine fQ ?_|refine I8 ?_|refine iY aA ?_|refine bT ?_|refine⟨_,⟨_,rfl,cZ,rfl⟩,?_⟩|refine⟨_,rfl,cZ,?_⟩|refine zcC cu ?_|fail)))<;>try(conv=>whnf)
  ·rename_i x;exact⟨.pv (pI _),rfl,trivial,CV x⟩
  ·rename_i x y z;exact⟨.pv (pI _),rfl,trivial,t_ x (.inl ⟨y,z⟩)⟩
  ·rename_i x y z w;exact⟨.pv (pI _),rfl,trivial,t_ x (.inr w)⟩
  ·rename_i x y z w;exact⟨m-1,ab,n+1,ab,hg x (λg=>g.elim (λg=>z g.2) (λg=>w g)),rfl,rfl⟩
  ·rename_i x y w;exact⟨.pv (pI _),rfl,trivial,t_ x (.inr w)⟩
  ·rename_i x y w;exact⟨m-1,ab,n+1,ab,hg x (λg=>g.elim (λg=>y g.1) (λg=>w g)),rfl,rfl⟩
 ·rw[AG.2 λj hj=>h0 j ab]at hK
  (repeat'((conv=>whnf);first|refine aw ab ?_|fail))<;>try(conv=>whnf)
  exact aG
def xA{l:List Rn}(h:∀r∈l,0<=r.n):((az l).length:Int)=bI l:=by
 unfold az
 induction l with
 |nil=>simp[bI]
 |cons r l ih=>
  rw[zan,zad,EK];have:=ih λq hq=>h q kF
  have:=h r aj;simp only[bI,zat,List.sum_cons]at*;omega
def aia{l:List Rn}{a:Int}(h:a∈az l):∃r∈l,∃i:Nat,(i:Int)<r.n/\a=if r.s= -1 then-1 else r.s+(i:Int):=by
 unfold az at h;rw[zbB]at h;obtain⟨r,hr,ha⟩:=h;unfold iV at ha;rw[zaX]at ha;obtain⟨i,hi,rfl⟩:=ha;exact⟨r,hr,i,by have:=zbm.1 hi;omega,rfl⟩
def rG{r:Rn}(h:jZ r):(1<=r.n/\r.n<=4096)/\(-1<=r.s/\r.s<=511)/\(r.s≠ -1->r.s+r.n<=512):=by
 unfold jZ at h;split at h<;>omega
def arU{l:List Rn}(h:∀r∈l,jZ r):∀a∈az l,-1<=a/\a<=511:=by
 intro a ha;obtain⟨r,hr,i,hi,rfl⟩:=aia ha;have:=rG (h r hr);split<;>omega
def ar(d:Dk)(a:At):St:=⟨a,d,az a.rn.l⟩
noncomputable def aK(d:Dk)(a:At):Int:=
 if gm d≠0 then gm d else if oT a≠0 then oT a else if a.rs=true then 0
 else if pG d (az a.rn.l)≠0 then pG d (az a.rn.l)else if iW a (az a.rn.l)≠0 then iW a (az a.rn.l)
 else if a.fl%2=1 then qw d.a_ a.vd (chunks (az a.rn.l))else 0
def fH(d:Dk):Prop:=d.a_.length<=1000000/\d.mp.length<=1000000
def xt:Spec:=EM false false λps K=>∃(d:Dk) (a:At),ps=[d.pv,a.pv]/\(fH d/\a.nm.length<=1000000)/\(aK d a=0->K (.tup [.pv (sP (ar d a)),.pv (pI 0)]))/\(aK d a≠0→∀v,v=.val (.pointer none)\/v=sP (ar d a)->K (.tup [.pv v,.pv (pI (aK d a))]))
def lE{a:At}(h:oT a=0):gu a=0/\a.ty=128/\(0<=a.fl/\a.fl<=2)/\a.ft=0/\a.sz<=32768:=by
 unfold oT at h;split at h
 ·rename_i g;exact sF
 rename_i g;have g:=zcD.1 g;have:=afv g;split at h
 ·cases h
 split at h
 ·cases h
 split at h
 ·cases h
 ·refine⟨g,ab,ab,ab,ab⟩
def Ms{a:At}(h:gu a=0):acN a:=by
 unfold gu at h;split at h
 ·rename_i g;exact sF
 ·rename_i g;exact acN.of (zcD.1 g)
def tH{a:At}(h:oT a=0):dU a.rn.l=0:=by
 have g:=Ms (lE h).1;cases hr:a.rs with
 |true=>
  have:=(g.rs hr).1;have e:a.rn.l=[]:=by simpa using this
  rw[e];rfl
 |false=>exact(g.ot hr).2.2.2.1
def ai5{a:At}(h:oT a=0):(az a.rn.l).length<=4096∧∀x∈az a.rn.l,-1<=x/\x<=511:=by
 have g:=bZ (tH h);have h1:=xA (l:=a.rn.l) λr hr=>by have:=rG (g.2.2.2 r hr);omega
 exact⟨ab,arU g.2.2.2⟩
def rX{d:Dk}(h:gm d=0):d.a_.length%256=0/\d.n<=512/\nu d.mp d.n=0:=by
 unfold gm at h;split at h
 ·cases h
 split at h
 ·cases h
 ·exact⟨ab,ab,h⟩
def abC{d:Dk}{pl:List Int}(hb:∀x∈pl,-1<=x)(h:pG d pl=0):MH d.a_ pl:=by
 unfold pG at h;split at h
 ·cases h
 rename_i g;intro n hn;have h1:=hb n hn;have h2:¬(d.n:Int)<=n:=λe=>g ⟨n,hn,e⟩
 by_cases h3:n= -1
 ·exact .inl h3
 ·refine .inr ⟨ab,?_⟩;unfold Dk.n at h2;omega
def tW{b:Bool}{P Q:Prop}:b=true->P->(match b with|true=>P|false=>Q):=by intro h k;subst h;exact k
def qT{b:Bool}{P Q:Prop}:b=false->Q->(match b with|true=>P|false=>Q):=by intro h k;subst h;exact k
def ajq:MT (ay [(42,ah dm),(98,ah Dy),(58,ah gB),(97,c8 false dL),(113,ah Lb),(114,ah OX),(115,bF oA),(116,ah OG)]) Of xt:=by
 rintro _ K ⟨d,a,rfl,⟨⟨h1,h2⟩,h3⟩,Gt,xy⟩;have hf:bQ [gm d,oT a]=if gm d=0 then oT a else gm d:=by
  show(if gm d=0 then(if oT a=0 then 0 else oT a)else gm d)=_;split
  ·split
   ·omega
   ·rfl
  ·rfl
 by_cases he:bQ [gm d,oT a]=0
 ·rw[hf]at he;have hd:gm d=0:=by
   by_cases h:gm d=0
   ·exact h
   ·rw[if_neg h]at he;exact he
  have hs:oT a=0:=by rw[if_pos hd]at he;exact he
  obtain⟨g1,g2,g3,g4,g5⟩:=lE hs;have ga:=Ms g1;obtain⟨q1,q2,q3⟩:=rX hd;have gr:=bZ (tH hs);obtain⟨gl,gb⟩:=ai5 hs;have hO:aK d a=if a.rs=true then 0 else if pG d (az a.rn.l)≠0 then pG d (az a.rn.l)else if iW a (az a.rn.l)≠0 then iW a (az a.rn.l)
   else if a.fl%2=1 then qw d.a_ a.vd (chunks (az a.rn.l))else 0:=by unfold aK;rw[if_neg ab,if_neg ab]
  have akC:dL [qF a.rn] (.pv (rI (az a.rn.l))):=⟨a.rn,rfl,⟨ab,λr hr=>abM⟩,rfl⟩
  have hsP:sP (ar d a)=.cptr (.agg [pI a.ty,.str a.nm,pI a.id,pI a.fl,pB a.rs,.str a.vl,pI a.ft,qF a.rn,pI a.al,pI a.sz,pI a.vd,.str d.a_,.str d.mp,rI (az a.rn.l)]):=rfl;cases c_:a.rs with
  |true=>
   rw[if_pos c_]at hO
   (repeat'((conv=>whnf);first|refine oQ ?_|(refine⟨_,⟨d,rfl,ab,rfl⟩,?_⟩)|(refine⟨_,⟨a,rfl,h3,rfl⟩,?_⟩)|refine aw (by rw[hf];omega) ?_|refine⟨_,akC,?_⟩|refine tW c_ ?_|(refine fe ?_;first|refine⟨_,⟨[_,_],rfl,rfl⟩,?_⟩|fail)))<;>try(conv=>whnf)
   exact⟨[.pv _,.pv (pI _)],⟨rfl,rfl,trivial⟩,trivial,Gt hO⟩
  |false=>
   rw[if_neg qD]at hO;have hot:=ga.ot c_;have LV:=hot.2.2.2.2.2.1;unfold pL at LV;have aHq:au9 a:=⟨⟨ab,ab⟩,⟨ab,ab⟩,ab,ab⟩
   (repeat'((conv=>whnf);first|refine oQ ?_|(refine⟨_,⟨d,rfl,ab,rfl⟩,?_⟩)|(refine⟨_,⟨a,rfl,h3,rfl⟩,?_⟩)|refine aw (by rw[hf];omega) ?_|refine⟨_,akC,?_⟩|refine qT c_ ?_|refine⟨_,⟨ar d a,rfl,⟨h1,h2,q3,by show(az a.rn.l).length<=_;omega,λx hx=>(gb x hx).1⟩,rfl⟩,?_⟩|(refine fe ?_;first|refine de (λ_=>?_) (λ_=>?_)|refine⟨_,⟨[_,_],rfl,rfl⟩,?_⟩|fail)))<;>try(conv=>whnf)
   ·rename_i x;have x:pG d (az a.rn.l)≠0:=x;rw[if_pos x]at hO;rw[hO]at xy;exact⟨[.pv _,.pv (pI _)],⟨rfl,rfl,trivial⟩,trivial,xy x _ (.inl rfl)⟩
   rename_i x;have x:¬pG d (az a.rn.l)≠0:=x;rw[if_neg x]at hO;have avT:=abC (λx hx=>(gb x hx).1) (zcD.1 x)
   (repeat'((conv=>whnf);first|refine⟨_,⟨ar d a,rfl,⟨by show(az a.rn.l).length<=_;omega,aHq⟩,rfl⟩,?_⟩|(refine⟨_,⟨ar d a,rfl,⟨by show(0:Int)<=a.fl;omega,by show a.fl<=7;omega⟩,rfl⟩,?_⟩)|refine⟨_,⟨ar d a,rfl,⟨h1,by show(az a.rn.l).length<=_;omega,avT,aHq⟩,rfl⟩,?_⟩|refine de (λ_=>?_) (λ_=>?_)|fail))<;>try(conv=>whnf)
   all_goals
    have nK:K (.tup [.pv (sP (ar d a)),.pv (pI (aK d a))]):=by
     by_cases h0:aK d a=0
     ·have:=Gt h0;rw[h0];exact this
     ·exact xy h0 _ (.inr rfl)
   ·rename_i y z;have y:iW a (az a.rn.l)=0:=y;have z:a.fl%2=1:=z;rw[hO,if_neg ab,if_pos z]at nK;exact XU
   ·rename_i y z;have y:iW a (az a.rn.l)=0:=y;have z:¬a.fl%2=1:=z;rw[hO,if_neg ab,if_neg z,<-y]at nK;exact XU
   ·rename_i y;have y:¬iW a (az a.rn.l)=0:=y;rw[hO,if_pos y]at nK;exact XU
 ·have cb:aK d a=bQ [gm d,oT a]:=by
   rw[hf]at he ⊢;unfold aK;by_cases h:gm d=0
   ·rw[if_pos h]at he ⊢;rw[if_neg ab,if_pos he]
   ·rw[if_neg h]at he ⊢;rw[if_pos h]
  rw[cb]at xy;have xy:=xy he;clear cb Gt
  (repeat'((conv=>whnf);first|refine oQ ?_|(refine⟨_,⟨d,rfl,ab,rfl⟩,?_⟩)|(refine⟨_,⟨a,rfl,h3,rfl⟩,?_⟩)|refine au he ?_|(refine fe ?_;first|refine⟨_,⟨[_,_],rfl,rfl⟩,?_⟩|fail)))<;>try(conv=>whnf)
  exact⟨[.pv _,.pv (pI _)],⟨rfl,rfl,trivial⟩,trivial,xy _ (.inl rfl)⟩
def aW(ps:List PV)(x:PV):Prop:=∃(d:Dk) (a:At),ps=[d.pv,a.pv]/\(fH d/\a.nm.length<=1000000)/\x=pI (aK d a)
structure atF(d:Dk)(a:At):Prop where
 dk:gm d=0
 str:oT a=0
 nb:d.n<=512
 bm:nu d.mp d.n=0
 rn:dU a.rn.l=0
 fl:0<=a.fl/\a.fl<=2
 num:au9 a
 pl:MH d.a_ (az a.rn.l)
 len:(az a.rn.l).length<=128
 res:a.rs=true->a.rn.l=[]/\a.vl.length<=400
def aeg{a:At}{pl:List Int}:iW a pl=0↔lJ a pl:=by
 unfold iW;by_cases h:lJ a pl
 ·rw[if_pos h];simp[h]
 ·rw[if_neg h];simp[h]
def bc{d:Dk}{a:At}(h:aK d a=0):atF d a/\(a.rs=false->pG d (az a.rn.l)=0/\lJ a (az a.rn.l)/\(a.fl%2=1->qw d.a_ a.vd (chunks (az a.rn.l))=0)):=by
 unfold aK at h;split at h
 ·rename_i g;exact sF
 rename_i hd;have hd:=zcD.1 hd;split at h
 ·rename_i g;exact sF
 rename_i hs;have hs:=zcD.1 hs;obtain⟨g1,g2,g3,g4,g5⟩:=lE hs;have ga:=Ms g1;obtain⟨q1,q2,q3⟩:=rX hd;obtain⟨gl,gb⟩:=ai5 hs;split at h
 ·rename_i hr;obtain⟨r1,⟨_,_,r2,r3⟩,r4⟩:=ga.rs hr;have r1:a.rn.l=[]:=by simpa using r1
  refine⟨⟨hd,hs,q2,q3,tH hs,g3,⟨⟨ab,ab⟩,ab,ab⟩,?_,?_,λ_=>⟨r1,r4⟩⟩,λCW=>by rw[hr]at CW;cases CW⟩
  ·rw[r1];intro n hn;simp[az]at hn
  ·rw[r1];simp[az]
 rename_i hr;have hr:a.rs=false:=by simpa using hr
 have LV:=(ga.ot hr).2.2.2.2.2.1;unfold pL at LV;have hvd:=(ga.ot hr).2.2.2.2.2.2;split at h
 ·rename_i g;exact sF
 rename_i hp;have hp:=zcD.1 hp;split at h
 ·rename_i g;exact sF
 rename_i yB;have yB:=aeg.1 (zcD.1 yB);have hl:(az a.rn.l).length<=128:=by
  have:=yB.2;split at this<;>omega
 refine⟨⟨hd,hs,q2,q3,tH hs,g3,⟨⟨ab,ab⟩,ab,ab⟩,abC (λx hx=>(gb x hx).1) hp,hl,λCW=>by rw[hr]at CW;cases CW⟩,λ_=>⟨hp,yB,λhc=>?_⟩⟩;rw[if_pos hc]at h;exact h
def q9{e:Int}{l:List Int}(h:e≠0):bQ (e::l)=e:=by simp[bQ,h]
def Jh{d:Dk}{a:At}(h:atF d a):(aV (ar d a)).length<=32768:=by
 unfold aV;have h1:=(lE h.str).2.2.2.2;split
 ·rename_i hr;have:=(h.res hr).2;show a.vl.length<=_;omega
 ·rw[OO];show a.sz.toNat<=_;omega
def J5{d:Dk}{a:At}(h:atF d a)(hb:fH d):tN [sP (ar d a)] (.str (aV (ar d a))):=
 ⟨ar d a,rfl,⟨hb.1,h.len,h.pl,h.num⟩,rfl⟩
noncomputable def abo(d:Dk)(a:At):List UInt8:=open Classical in if aK d a=0 then aV (ar d a)else[]
def fi(ps:List PV)(r:RV):Prop:=∃(d:Dk) (a:At),ps=[d.pv,a.pv]/\(fH d/\a.nm.length<=1000000)/\r=.tup [.pv (.str (abo d a)),.pv (pI (aK d a))]
def VN:MT (ay [(57,xt),(63,ah tN)]) BN (c8 true fi):=by
 rintro _ K ⟨_,⟨d,a,rfl,⟨h1,h2⟩,rfl⟩,hK⟩;unfold abo at hK;refine⟨d,a,rfl,⟨h1,h2⟩,λh=>?_,λh v _=>?_⟩
 ·have sM:=(bc h).1;rw[if_pos h,h]at hK
  (repeat'((conv=>whnf);first|refine⟨_,J5 sM h1,?_⟩|refine aw ab ?_|fail))<;>try(conv=>whnf)
  exact dA
 ·rw[if_neg h]at hK
  (repeat'((conv=>whnf);first|refine au h ?_|fail))<;>try(conv=>whnf)
  exact dA
def iU(n:Int):Prop:=0<=n/\n<=32768
instance (n:Int):Decidable (iU n):=by unfold iU;infer_instance
noncomputable def xN(d:Dk)(a:At)(at_ n:Int):Int:=open Classical in if aK d a≠0 then aK d a else if iU at_/\iU n then 0 else 2
noncomputable def H2(d:Dk)(a:At)(at_ n:Int):List UInt8:=open Classical in if xN d a at_ n=0 then((aV (ar d a)).drop at_.toNat).take n.toNat else[]
def oN(ps:List PV)(r:RV):Prop:=∃(d:Dk) (a:At) (at_ n:Int),ps=[d.pv,a.pv,pI at_,pI n]/\(fH d/\a.nm.length<=1000000)/\r=.tup [.pv (.str (H2 d a at_ n)),.pv (pI (xN d a at_ n))]
def afM:MT (ay [(57,xt),(60,bF wR),(59,ah dG),(58,ah gB),(63,ah tN)]) Iw (c8 true oN):=by
 rintro _ K ⟨_,⟨d,a,p,n,rfl,⟨h1,h2⟩,rfl⟩,hK⟩;refine⟨d,a,rfl,⟨h1,h2⟩,λh=>?_,λh v _=>?_⟩
 ·have sM:=(bc h).1;have mE:=Jh sM;have Gt:∀(o:Bool),(o=true↔iU p/\iU n)->K (.tup [.pv (.str (if o=true then((aV (ar d a)).drop p.toNat).take n.toNat else[])),.pv (pI (if o=true then 0 else 2))]):=λo ho=>by
   have he:xN d a p n=if o=true then 0 else 2:=by
    unfold xN;rw[if_neg (λe=>e h)];cases o with
    |true=>rw[if_pos (ho.1 rfl)];rfl
    |false=>rw[if_neg (by rw[<-ho];decide)];rfl
   have hn:H2 d a p n=if o=true then((aV (ar d a)).drop p.toNat).take n.toNat else[]:=by
    unfold H2;rw[he];cases o with
    |true=>rw[if_pos (by rfl)];rfl
    |false=>rw[if_neg ao];rfl
   rw[he,hn]at hK;exact hK
  unfold iU at Gt;clear hK;have cP:=J5 sM h1;generalize aV (ar d a)=C at*;have HR:iU p->iU n->cut (min p (C.length:Int)).toNat (min (C.length:Int) (min p (C.length:Int)+n)).toNat C=(C.drop p.toNat).take n.toNat:=λhp hn=>by
   unfold iU at hp hn;unfold cut;rw[zdw];by_cases hc:p.toNat<=C.length
   ·rw[show(min p (C.length:Int)).toNat=p.toNat by omega];by_cases h2:p.toNat+n.toNat<=C.length
    ·congr 1;omega
    ·rw[za1 ef,za1 ef]
   ·rw[zb8 ab,zb8 ab];simp
  (repeat'((conv=>whnf);first|refine⟨_,cP,?_⟩|(refine fe ?_;first|refine bj ab ?_|refine au ao ?_|refine aw ao ?_|refine de (λ_=>?_) (λ_=>?_)|refine I8 ?_|refine bT ?_|refine⟨_,⟨_,rfl,rfl⟩,?_⟩|refine⟨_,⟨_,_,rfl,rfl⟩,?_⟩|refine wz ?_|refine⟨_,⟨[_,_],rfl,rfl⟩,?_⟩|fail)))<;>try(conv=>whnf)
  ·rename_i x y;rw[HR x y];exact⟨[.pv (.str _),.pv _],⟨rfl,rfl,trivial⟩,⟨trivial,trivial,trivial⟩,Gt true aH⟩
  ·rename_i x y;exact⟨[.pv (.str _),.pv _],⟨rfl,rfl,trivial⟩,⟨trivial,trivial,trivial⟩,Gt false aH⟩
  ·rename_i x;exact⟨[.pv (.str _),.pv _],⟨rfl,rfl,trivial⟩,⟨trivial,trivial,trivial⟩,Gt false aH⟩
 ·have he:xN d a p n=aK d a:=by unfold xN;rw[if_pos h]
  have hn:H2 d a p n=[]:=by unfold H2;rw[if_neg (by rw[he];exact h)]
  rw[he,hn]at hK
  (repeat'((conv=>whnf);first|refine au K1 ?_|(refine fe ?_;first|refine de (λ_=>?_) (λ_=>?_)|refine bT ?_|refine⟨_,⟨_,rfl,rfl⟩,?_⟩|refine⟨_,⟨_,_,rfl,rfl⟩,?_⟩|refine⟨_,⟨[_,_],rfl,rfl⟩,?_⟩|fail)))<;>try(conv=>whnf)
  all_goals
   rw[q9 h];exact dA
def fU(nm:List UInt8)(fl id:Int):At:=⟨128,nm,id,fl,true,[],0,.nil,0,0,0⟩
def zA:At:=⟨0,[],0,0,false,[],0,.nil,0,0,0⟩
def gV(ps:List PV)(r:RV):Prop:=∃(nm:List UInt8) (fl id:Int),ps=[.str nm,pI fl,pI id]/\nm.length<=1000000/\r=.tup [.pv (if oT (fU nm fl id)=0 then fU nm fl id else zA).pv,.pv (pI (oT (fU nm fl id)))]
def Wv:MT (ay [(98,ah Dy)]) Bz (c8 false gV):=by
 rintro _ K ⟨_,⟨nm,fl,id,rfl,h,rfl⟩,hK⟩
 (repeat'((conv=>whnf);first|refine⟨_,⟨fU nm fl id,rfl,h,rfl⟩,?_⟩|refine de (λ_=>?_) (λ_=>?_)|refine bT ?_|fail))<;>try(conv=>whnf)
 ·rename_i x;rw[if_neg x]at hK;exact⟨[.pv _,.pv _],⟨rfl,rfl,trivial⟩,trivial,hK⟩
 ·rename_i x;have x:=zcD.1 x;rw[if_pos x,x]at hK;exact⟨[.pv _,.pv _],⟨rfl,rfl,trivial⟩,trivial,hK⟩
def Hx(a:At)(c:List UInt8):At:=⟨a.ty,a.nm,a.id,a.fl,true,c,0,.nil,0,0,0⟩
def as8(a:At)(c:List UInt8):(Hx a c).pv.flat:=by
 intro x hx;simp only[zaw,List.not_mem_nil,or_false,Hx,Sl.pv]at hx;rcases hx with rfl|rfl|rfl|rfl|rfl|rfl|rfl|rfl|rfl|rfl|rfl<;>trivial
def Fj(ps:List PV)(x:PV):Prop:=∃(s:St) (c:List UInt8),ps=[sP s,.str c]/\x=(Hx s.a c).pv
def ae8:MT (ay []) vq (ah Fj):=by
 rintro _ K ⟨_,⟨s,c,rfl,rfl⟩,hK⟩
 (repeat'((conv=>whnf);first|refine oQ ?_|fail))<;>try(conv=>whnf)
 exact⟨.pv _,rfl,as8 _ _,hK⟩
def Ty:MT (ay []) E8 (ah bA):=by
 rintro _ K ⟨_,⟨d,rfl,h,rfl⟩,hK⟩
 (repeat'((conv=>whnf);first|refine l7 ab ?_|fail))<;>try(conv=>whnf)
 exact⟨.pv (pI _),bu so,trivial,hK⟩
def iQ(ps:List PV)(x:PV):Prop:=∃(d:Dk) (n:Nat),ps=[d.pv,pI n]/\((n+1)*256<=d.a_.length/\d.a_.length<=1000000)/\x=.str (eU d.a_ n)
def Wa:MT (ay []) H6 (ah iQ):=by
 rintro _ K ⟨_,⟨d,n,rfl,h,rfl⟩,hK⟩
 (repeat'((conv=>whnf);first|refine bj ab ?_|refine wz ?_|fail))<;>try(conv=>whnf)
 rw[show((n:Int)*256).toNat=n*256 by omega,show(((n:Int)+1)*256).toNat=(n+1)*256 by omega];exact bM
def V7:MT (ay [(32,ah bA),(104,ah HN)]) H_ (ah dm):=by
 rintro _ K ⟨_,⟨d,rfl,⟨h1,h2⟩,rfl⟩,hK⟩;unfold gm at hK
 (repeat'((conv=>whnf);first|refine oQ ?_|(refine⟨_,⟨d,rfl,ab,rfl⟩,?_⟩)|(refine⟨_,⟨d.mp,(d.n:Int),rfl,ab,rfl⟩,?_⟩)|refine de (λ_=>?_) (λ_=>?_)|refine lW ab ?_|fail))<;>try(conv=>whnf)
 ·rename_i x;rw[if_pos ab]at hK;exact aG
 ·rename_i x y;rw[if_neg ab,if_pos ab]at hK;exact aG
 ·rename_i x y;rw[if_neg ab,if_neg ab]at hK;exact aG
def flg(f:Int):Prop:=f=1\/f=2\/f=4
def uJ(ps:List PV)(p:Prop):Prop:=∃(a:At) (f:Int),ps=[a.pv,pI f]/\((0<=a.fl/\a.fl<=7)/\flg f)/\p=(a.fl/f%2=1)
def ajc:MT (ay []) U1 (bF uJ):=by
 rintro _ K ⟨_,⟨a,f,rfl,⟨h1,h2⟩,rfl⟩,hK⟩;rcases h2 with rfl|rfl|rfl
 all_goals
  (repeat'((conv=>whnf);first|refine de (λ_=>?_) (λ_=>?_)|refine l7 ab ?_|refine lW ab ?_|fail))<;>try(conv=>whnf)
  all_goals exact kQ
def aqF(a:At)(n:Int):Int:=if a.fl%2=1 then 16*((n+4095)/4096)else(n+255)/256
def GJ(ps:List PV)(x:PV):Prop:=∃(a:At) (n:Int),ps=[a.pv,pI n]/\((0<=a.fl/\a.fl<=7)/\0<=n/\n<=2000000)/\x=pI (aqF a n)
def XZ:MT (ay [(26,bF uJ),(76,ah Jv)]) Jy (ah GJ):=by
 rintro _ K ⟨_,⟨a,n,rfl,⟨h1,h2⟩,rfl⟩,hK⟩;unfold aqF at hK
 (repeat'((conv=>whnf);first|(refine⟨_,⟨a,1,rfl,⟨h1,.inl rfl⟩,rfl⟩,?_⟩)|(refine⟨_,⟨n,_,rfl,ab,rfl⟩,?_⟩)|refine bj Cl ?_|refine de (λ_=>?_) (λ_=>?_)|fail))<;>try(conv=>whnf)
 ·rename_i x;rw[if_pos ab]at hK;exact⟨.pv (pI _),bu Cl,trivial,hK⟩
 ·rename_i x;rw[if_neg ab]at hK;exact⟨.pv (pI _),bu Cl,trivial,hK⟩
def wX(ps:List PV)(x:PV):Prop:=∃(d:Dk) (l:List Int),ps=[d.pv,rI l]/\(d.a_.length<=1000000/\l.length<=100000/\MH d.a_ l)/\x=.str (dF d.a_ l)
def YM:MT (ay [(33,ah iQ)]) LI (ah wX):=by
 rintro _ K ⟨_,⟨d,l,rfl,⟨h1,h2,h3⟩,rfl⟩,hK⟩
 (conv=>whnf)
 refine⟨λm env σ=>∃(n:Nat),n+m=l.length/\σ=[.box 23 [.pv (.str d.a_),.pv (.str d.mp)]]/\env=[(1,.pv (rI l)),(2,.ref 0 0 0),(5,.pv (.str (dF d.a_ (l.take n)))),eN 6 n],l.length,⟨0,ab,rfl,rfl⟩,?_⟩;rintro m env σ ⟨n,hn,rfl,rfl⟩;have hb:=AJ d.a_ (l.take n);rw[zal]at hb;by_cases aU:n<l.length
 ·obtain⟨a,ha⟩:∃a,l[n]?=some a:=⟨_,zah aU⟩
  have hp:=h3 a (zag ha);have hT:dF d.a_ (l.take (n+1))=dF d.a_ (l.take n)++tS d.a_ a:=by
   rw[zcF,ha];simp[dF]
  by_cases h0:a= -1
  ·subst h0
   (repeat'((conv=>whnf);first|refine bj ab ?_|refine au ab ?_|refine aw ab ?_|refine ez λ_=>?_|refine iY aA ?_|fail))<;>try(conv=>whnf)
   exact⟨m-1,ab,n+1,ab,rfl,by rw[hT];simp[tS]⟩
  ·obtain⟨k,rfl⟩:∃k:Nat,a=k:=⟨a.toNat,ab⟩
   have mE:(eU d.a_ k).length=256:=gI ab
   (repeat'((conv=>whnf);first|refine oQ ?_|refine⟨_,⟨d,k,rfl,ab,rfl⟩,?_⟩|refine zcC (by rw[mE];omega) ?_|refine bj ab ?_|refine au ab ?_|refine ez λ_=>?_|refine iY aA ?_|fail))<;>try(conv=>whnf)
   exact⟨m-1,ab,n+1,ab,rfl,by rw[hT,tS,if_neg h0];rfl⟩
 ·(repeat'((conv=>whnf);first|refine aw ab ?_|refine ez λ_=>?_|fail))<;>try(conv=>whnf)
  rw[za1 ab];exact bM
def aqa:MT (ay []) wC (c8 false dL):=by
 rintro _ K ⟨_,⟨s,rfl,⟨h1,h2⟩,rfl⟩,hK⟩
 (conv=>whnf)
 refine⟨λm env σ=>∃(n:Nat),n+m=s.l.length/\σ=[.row 3 1 true ((az (s.l.take n)).map pI)]/\env=[(0,.pv (qF s)),(3,.own 0),eN 4 n],s.l.length,⟨0,ab,rfl,rfl⟩,?_⟩;rintro m env σ ⟨n,hn,rfl,rfl⟩;have hb:(az (s.l.take n)).length<=4096*(s.l.take n).length:=La λr hr=>h2 r (zaL hr)
 rw[zal]at hb;have gJ:(s.l.map Rn.pv).length=s.l.length:=zav _;by_cases aU:n<s.l.length
 ·obtain⟨a,ha⟩:∃a,s.l[n]?=some a:=⟨_,zah aU⟩
  have hp:=h2 a (zag ha);have hT:az (s.l.take (n+1))=az (s.l.take n)++iV a:=by
   rw[zcF,ha];simp[az]
  have hl:=EK a
  (repeat'((conv=>whnf);first|refine KP ?_|refine au ab ?_|refine ez λ_=>?_|fail))<;>try(conv=>whnf)
  refine⟨λm' env σ=>∃(i:Nat),(i:Int)+m'=a.n/\σ=[.row 3 1 true ((az (s.l.take n)++(iV a).take i).map pI)]/\env=[(0,.pv (qF s)),(3,.own 0),eN 4 n,eN 5 i],a.n.toNat,⟨0,by unfold wx at hp;omega,aj,rfl⟩,?_⟩;rintro m' env σ ⟨i,hi,rfl,rfl⟩;unfold wx at hp;have hlr:(az (s.l.take n)++(iV a).take i).length<=4096000+4096:=by
   rw[zad,zal];omega
  by_cases j9:(i:Int)<a.n
  ·have hg:(iV a)[i]?=some (if a.s= -1 then-1 else a.s+(i:Int)):=by
    unfold iV;rw[za9,zbA ab];rfl
   generalize hG:az (s.l.take n)++(iV a).take i=G at*
   (repeat'((conv=>whnf);first|refine Ek ha ?_|refine bj ab ?_|refine au ab ?_|refine de (λ_=>?_) (λ_=>?_)|refine bT ?_|refine zcC cu ?_|fail))<;>try(conv=>whnf)
   ·refine⟨m'-1,ab,i+1,ab,?_,rfl⟩;rename_i hh;rw[zcF,hg,if_pos hh,<-zaj,hG];simp
   ·refine⟨m'-1,ab,i+1,ab,?_,rfl⟩;rename_i hh;rw[zcF,hg,if_neg hh,<-zaj,hG];simp
  ·(repeat'((conv=>whnf);first|refine Ek ha ?_|refine bj ab ?_|refine aw ab ?_|fail))<;>try(conv=>whnf)
   refine⟨m-1,ab,n+1,ab,?_,rfl⟩;rw[hT,za1 (l:=iV a) (show(iV a).length<=i by omega)]
 ·(repeat'((conv=>whnf);first|refine KP ?_|refine aw ab ?_|refine ez λ_=>?_|fail))<;>try(conv=>whnf)
  rw[<-za1 (l:=s.l) (show s.l.length<=n by omega)]at hK;exact abL
def auR:∀(l:List cI) (k:Nat),fa (k+1) l=2*fa k l:=by
 intro l
 induction l with
 |nil=>intro k;rfl
 |cons t l ih=>
  intro k;simp only[fa,ih];rw[zdI];split<;>omega
def U0(n:Nat)(h:n<65536)(r:List UInt8):sb (JR n++r)=n:=by
 unfold JR sb;simp only[zbd,zdp,zbC,List.getElem?_cons_succ];rw[qd ab,qd ab];omega
def ap6{t:cI}{a:Nat}(h:vm t a)(hd:t.d≠0)(r:List UInt8):B_ (cV a) (sb (B7 t a++r))=t/\(B7 t a).length=2:=by
 have hc:=aoq h hd;have h':=h;unfold vm at h';rw[if_pos hd]at h';have hg:cV a=16-dh a:=by unfold cV;rw[if_pos ab]
 have hl:t.l.toNat=t.l.toNat-3+3:=ab;unfold B7;rw[if_pos hd];refine⟨?_,rfl⟩;rw[U0 _ hc.1,hg];have hp:=zcj (16-dh a);have e:(t.d.toNat-1)*2^(16-dh a)+t.l.toNat-3=(t.l.toNat-3)+2^(16-dh a)*(t.d.toNat-1):=by
  rw[Nat.mul_comm];omega
 rw[e];unfold B_;rw[Nat.add_mul_div_left _ _ hp,Nat.div_eq_of_lt hc.2.2,Nat.add_mul_mod_self_left,Nat.mod_eq_of_lt hc.2.2];obtain⟨d,l,b⟩:=t;simp only at*;congr 1
 ·omega
 ·omega
 ·omega
def at7{t:cI}{a:Nat}(h:vm t a)(hd:¬t.d≠0)(r:List UInt8):Wm (B7 t a++r)=t/\(B7 t a).length=1:=by
 unfold vm at h;rw[if_neg hd]at h;unfold B7;rw[if_neg hd];refine⟨?_,rfl⟩;unfold Wm;simp only[zbd,zdp,zbC];rw[qd ab];obtain⟨d,l,b⟩:=t;simp only at*;congr 1
 ·omega
 ·omega
 ·omega
def alE:∀(g:List cI) (k:Nat) (r:List UInt8) (a:Nat),g.length<=k->hZ g a->
 qI cV k (fa 0 g) (eA g a++r) a=((qI cV (k-g.length) 0 r (jH g a)).1,g++(qI cV (k-g.length) 0 r (jH g a)).2):=by
 intro g
 induction g with
 |nil=>intro k r a _ _;simp[fa,eA,jH]
 |cons t g ih=>
  intro k r a hk di;obtain⟨h1,h2⟩:=di;simp only[zam]at hk;obtain⟨k,rfl⟩:∃j,k=j+1:=⟨k-1,ab⟩
  have hm:=ur h1;have hs:fa 0 (t::g)=(if t.d≠0 then 1 else 0)+2*fa 0 g:=by
   simp only[fa];rw[auR]
  simp only[eA,jH,zaj,zam];rw[hs];by_cases hd:t.d≠0
  ·rw[if_pos hd];obtain⟨e1,e2⟩:=ap6 h1 hd (eA g (a+t.made.toNat)++r);rw[Mg cV k (1+2*fa 0 g) a (by rw[zad,e2];omega) ab,e1];have ed:(B7 t a++(eA g (a+t.made.toNat)++r)).drop 2=eA g (a+t.made.toNat)++r:=by rw[<-e2,zbk]
   rw[ed,show(1+2*fa 0 g)/2=fa 0 g by omega,ih k r _ ab h2,show k+1-(g.length+1)=k-g.length by omega];rfl
  ·rw[if_neg hd];obtain⟨e1,e2⟩:=at7 h1 hd (eA g (a+t.made.toNat)++r);have PA:t.made=1:=KM;rw[PT cV k (0+2*fa 0 g) a (by rw[zad,e2];omega) ab,e1];have ed:(B7 t a++(eA g (a+t.made.toNat)++r)).drop 1=eA g (a+t.made.toNat)++r:=by rw[<-e2,zbk]
   rw[ed,show(0+2*fa 0 g)/2=fa 0 g by omega];have h3:=ih k r (a+t.made.toNat) ab h2;rw[PA,show Int.toNat 1=1 from rfl]at h3 ⊢;rw[h3,show k+1-(g.length+1)=k-g.length by omega];rfl
def ami{l:List cI}{a:Nat}(h:l≠[]):1<=(eA l a).length:=by
 cases l with
 |nil=>exact kN
 |cons t l=>
  have:1<=(B7 t a).length:=by unfold B7 JR;split<;>simp
  simp only[eA,zad];omega
def aoN:∀(n:Nat) (l:List cI) (f a:Nat),l.length<=n->hZ l a->qI cV 0 f (gK n l a) a=(0,l):=by
 intro n
 induction n with
 |zero=>
  intro l f a h _;have:l=[]:=zae ab;subst this;exact Ft _ _ _
 |succ n ih=>
  intro l f a h di;by_cases hl:l=[]
  ·subst hl;rw[gK,if_pos rfl];exact Ft _ _ _
  rw[gK,if_neg hl];have Gq:0<l.length:=zcH.2 hl;have cb:l.take 8≠[]:=by
   intro e;have:=congrArg List.length e;rw[zal]at this;rw[List.length_nil]at this;omega
  have PH:=Ky (l.take 8) 0;have hp8:2^(l.take 8).length<=2^8:=zb6 ab eI;rw[Nat.zero_add]at PH;have WU:=di;rw[<-List.take_append_drop 8 l,oY]at WU;have hb:=ami (a:=a) cb;rw[OJ cV f a (by rw[zam,zad];omega)];have e0:((lV (fa 0 (l.take 8))::(eA (l.take 8) a++gK n (l.drop 8) (jH (l.take 8) a)))[0]?.getD 0).toNat=fa 0 (l.take 8):=by
   simp only[zdp,zbC];exact qd ab
  rw[e0,List.drop_succ_cons,zdv,alE _ 8 _ a eI WU.1];have hlen:(l.take 8).length=min 8 l.length:=zal;by_cases h8:8<=l.length
  ·rw[show 8-(l.take 8).length=0 by omega,ih (l.drop 8) 0 _ ef WU.2];simp
  ·have hd:l.drop 8=[]:=zb8 ab;have cq:gK n (l.drop 8) (jH (l.take 8) a)=[]:=by
    rw[hd];cases n with
    |zero=>rfl
    |succ n=>rw[gK,if_pos rfl]
   obtain⟨j,hj⟩:∃j,8-(l.take 8).length=j+1:=⟨7-(l.take 8).length,ab⟩
   rw[cq,hj,Bh,if_neg ab];simp[za1 (show l.length<=8 by omega)]
def ao4{l:List cI}(hl:l≠[])(di:hZ l 0):IY cV (uK l)=(l,0):=by
 have h1:=aoN l.length l 0 0 (zai _) di;have h2:(nf l).2=0:=by
  unfold nf;rw[if_neg hl];exact(UT _ _ _).2 di
 rw[rW];unfold uK;rw[h1];simp[h2]
def apK(n:Nat)(pk:Bool)(h:1<=n/\n<=4096)(r:List UInt8):sb (B8 n pk++r)=n-1+12288+(if pk then 32768 else 0):=by
 unfold B8;rw[U0 _ Bt]
def as0(s:List UInt8):(al2 s).length=(s.length+255)/256*256:=by
 unfold al2;rw[zad,bn];omega
def axU(d:List UInt8)(a k:Nat):∀(m n b:Nat),n<=b->b<qS d a k n m->d[a+b]?=d[a+b-k]?:=by
 intro m
 induction m with
 |zero=>intro n b h1 h2;simp only[qS]at h2;omega
 |succ m ih=>
  intro n b h1 h2;unfold qS at h2;split at h2
  ·rename_i he;by_cases hb:b=n
   ·subst hb;exact he
   ·exact ih _ _ ab h2
  ·omega
def apV(D:List UInt8)(a k:Nat)(hk:1<=k)(hka:k<=a):∀n,n<=dY D a k->a+n<=D.length->ig n k (D.take a)=D.take (a+n):=by
 intro n
 induction n with
 |zero=>intro _ _;rfl
 |succ n ih=>
  intro h1 h2;have h3:=ih ab ab;have h4:=axU D a k (e_ D a) 0 n (Nat.zero_le _) (by unfold dY at h1;omega);rw[HI,h3];have hl:(D.take (a+n)).length=a+n:=eI;rw[hl,List.getElem?_take,if_pos ab,<-h4,<-Nat.add_assoc,zcF,zah (show a+n<D.length by omega)];rfl
def Mk2(D:List UInt8):List cI->Nat->Prop
 |[],a=>a=D.length
 |t::l,a=>a<D.length/\((t.d≠0/\1<=t.d/\t.d.toNat<=a/\0<=t.l/\t.l.toNat<=dY D a t.d.toNat)\/(t.d=0/\t=Ws D a))/\Mk2 D l (a+t.made.toNat)
def aui(D:List UInt8):∀(l:List cI) (a:Nat),Mk2 D l a->Em l (D.take a)=D:=by
 intro l
 induction l with
 |nil=>intro a h;simp only[Mk2]at h;subst h;simp[Em]
 |cons t l ih=>
  intro a h;obtain⟨h1,h2,h3⟩:=h;simp only[Em];have:GP t (D.take a)=D.take (a+t.made.toNat):=by
   rcases h2 with⟨hd,h4,h5,h6,h7⟩|⟨cO,h2⟩
   ·have hd:=hd;have hm:t.made=t.l:=Sy;have hr:=S1 D a t.d.toNat;have CW:e_ D a<=D.length-a:=Nat.min_le_right _ _;unfold GP;rw[if_pos hd,hm];exact apV D a t.d.toNat ab h5 _ h7 ab
   ·have hd:¬t.d≠0:=λh=>h cO
    have hm:t.made=1:=KM;unfold GP;rw[if_neg hd,hm,h2];show D.take a++[lV ((Ws D a).b).toNat]=D.take (a+1);rw[zcF,zah h1];simp[Ws,lV,zah h1]
  rw[this];exact ih _ h3
def auI(d:List UInt8):∀(m a:Nat),a+m=d.length->Mk2 d (qB d (aY d) m a) a:=by
 intro m
 induction m using Nat.strongRecOn with
 |_ m ih=>
  intro a hm;cases m with
  |zero=>show a=d.length;omega
  |succ m=>
   have azI:=Ck d a ab;rw[C9 d m a hm];refine⟨ab,?_,ih _ ab _ ab⟩;unfold mz;split
   ·rename_i cb;have h1:=Q0 d a ab cb;have h2:=Y5 d a _ ab h1.2.1;left;simp only[abj];refine⟨ab,ab,ab,ab,?_⟩;rw[zaC,zaC];exact h2.2.2
   ·exact .inr ⟨rfl,rfl⟩
def axn(d:List UInt8):Ze (Eb d)=d:=by
 have:=aui d (Eb d) 0 (auI d _ 0 ab);simpa[Ze]using this
def aAv(n:Nat)(pk:Bool)(h:1<=n/\n<=4096)(r:List UInt8):dD (B8 n pk++r)=n-1+12288+(if pk then 32768 else 0):=apK n pk h r
def head_drop(n:Nat)(pk:Bool)(r:List UInt8):(B8 n pk++r).drop 2=r:=by
 rw[<-SX n pk,zbk]
def Dx{u:List UInt8}(hu:u.length=4096):b9 (j_ u)=(u,0)/\(j_ u).length<=4096/\(j_ u).length%256=0/\((j_ u).length=4096->j_ u=u):=by
 have hl:=af4 u ab;have di:=aas u ab;have cq:=anS _ hl;have hr:=ao4 hl di;have he:=axn u;unfold j_;split
 ·rename_i hz;refine⟨?_,aj,aj,aj⟩;unfold b9;have xi:ai 4096=u:=by rw[<-hu];exact hz.symm
  rw[if_neg aj,if_pos (show([]:List UInt8).length=0 from rfl),xi]
 ·split
  ·rename_i hz hb;generalize o_:uK (Eb u)=bd at*;have qG:=as0 (B8 bd.length true++bd);have hlen:(B8 bd.length true++bd).length=bd.length+2:=by rw[zad,SX];omega
   rw[hlen]at qG;have um:al2 (B8 bd.length true++bd)=B8 bd.length true++(bd++ai ((-((bd.length+2:Nat):Int))%256).toNat):=by
    unfold al2;rw[hlen,zaj]
   have hv:=aAv bd.length true ⟨cq,hb.1⟩ (bd++ai ((-((bd.length+2:Nat):Int))%256).toNat);rw[if_pos rfl,<-um]at hv;have hd:=head_drop bd.length true (bd++ai ((-((bd.length+2:Nat):Int))%256).toNat);rw[<-um]at hd;generalize al2 (B8 bd.length true++bd)=s at*;have hc:dD s%4096+1=bd.length:=ab;have ht:(s.drop 2).take bd.length=bd:=by rw[hd,List.take_left]
   have hd2:s.drop (2+bd.length)=ai (s.length-(2+bd.length)):=by
    rw[<-zaQ,hd,zbk,show((-((bd.length+2:Nat):Int))%256).toNat=s.length-(2+bd.length) by omega]
   refine⟨?_,ab,ab,λh=>ab⟩;unfold b9;rw[if_neg ab,if_neg ab,if_neg ab,if_neg ab,if_neg ab,hc,if_neg ab,ht,hr];dsimp only;rw[if_neg (λh=>h rfl),he,if_neg ab,if_neg (by rintro(h|h);exact h hd2;omega)]
  ·refine⟨?_,ab,ab,λ_=>rfl⟩;unfold b9;rw[if_neg ab,if_neg ab,if_pos hu]
def OS(s:St)(i:Nat):Prop:=∃a,s.pl[i]?=some a/\a≠ -1
def b8(s:St)(f t:Int)(i:Nat):Prop:=OS s i\/kG f t i\/kG 0 s.a.vl.length i
def Yk(s:St)(i:Nat):Prop:=OS s i\/kG 0 s.a.vl.length i
def yN(s:St)(f t:Int)(n:Nat)(i:Nat):Prop:=OS s i∧¬Cj f t i n
inductive aly(s:St):PV->(Nat->Prop)->Prop where
 |write (f t:Int):aly s (.clo 66 [.cptr (sP s),.cptr (rV f t)]) (b8 s f t)
 |size:aly s (.clo 84 [.cptr (sP s)]) (Yk s)
 |zero (f t:Int) (c:List UInt8):aly s (.clo 92 [.cptr (sP s),.cptr (rV f t),.cptr (.str c)]) (yN s f t c.length)
def ayd(ps:List PV)(p:Prop):Prop:=∃(s:St) (f t:Int) (i:Nat),ps=[pI i,.cptr (sP s),.cptr (rV f t)]/\(s.pl.length<=1000000/\i<=1000000)/\p=b8 s f t i
def arI:MT (ay [(67,bF adT),(68,bF Mb),(69,ah anj)]) zF (bF ayd):=by
 rintro _ K ⟨_,⟨s,f,t,i,rfl,⟨h1,h2⟩,rfl⟩,hK⟩;unfold b8 OS at hK
 (repeat'((conv=>whnf);first|refine⟨_,⟨s,i,rfl,h1,rfl⟩,?_⟩|refine⟨_,⟨_,_,(i:Int),rfl,ab,rfl⟩,?_⟩|(refine fe ?_;first|refine de (λ_=>?_) (λ_=>?_)|refine⟨_,⟨_,rfl,rfl⟩,?_⟩|fail)))<;>try(conv=>whnf)
 all_goals exact aaj
def aw5(ps:List PV)(p:Prop):Prop:=∃(s:St) (i:Nat),ps=[pI i,.cptr (sP s)]/\(s.pl.length<=1000000/\i<=1000000)/\p=Yk s i
def asD:MT (ay [(67,bF adT),(68,bF Mb),(69,ah anj)]) zW (bF aw5):=by
 rintro _ K ⟨_,⟨s,i,rfl,⟨h1,h2⟩,rfl⟩,hK⟩;unfold Yk OS at hK
 (repeat'((conv=>whnf);first|refine⟨_,⟨s,i,rfl,h1,rfl⟩,?_⟩|refine⟨_,⟨_,_,(i:Int),rfl,ab,rfl⟩,?_⟩|(refine fe ?_;first|refine de (λ_=>?_) (λ_=>?_)|refine⟨_,⟨_,rfl,rfl⟩,?_⟩|fail)))<;>try(conv=>whnf)
 all_goals exact aaj
def axY(ps:List PV)(p:Prop):Prop:=∃(s:St) (f t:Int) (c:List UInt8) (i:Nat),ps=[pI i,.cptr (sP s),.cptr (rV f t),.cptr (.str c)]/\(s.pl.length<=1000000/\i<=1000000)/\p=yN s f t c.length i
def arR:MT (ay [(67,bF adT),(93,bF aaO)]) BI (bF axY):=by
 rintro _ K ⟨_,⟨s,f,t,c,i,rfl,⟨h1,h2⟩,rfl⟩,hK⟩;unfold yN OS at hK
 (repeat'((conv=>whnf);first|refine⟨_,⟨s,i,rfl,h1,rfl⟩,?_⟩|refine⟨_,⟨_,_,(i:Int),_,rfl,ab,rfl⟩,?_⟩|refine aN ?_|refine bP ?_|refine de (λ_=>?_) (λ_=>?_)|fail))<;>try(conv=>whnf)
 all_goals exact aaj
def HU(u:List UInt8):List (List UInt8):=(List.range 16).map λi=>((j_ u).drop (i*256)).take 256
def wa(C:List UInt8)(k:Nat):List UInt8:=mF ((C.drop (4096*k)).take 4096) 4096
def qy(C:List UInt8)(n:Nat):List (List UInt8):=(List.range n).flatMap λk=>HU (wa C k)
noncomputable def dv(sp:Prop)(dt:Nat->Prop)(C:List UInt8)(i:Nat):List UInt8:=open Classical in if sp∧¬dt i then[]else mF ((C.drop (256*i)).take 256) 256
noncomputable def aQ(s:St)(C:List UInt8)(dt:Nat->Prop):List (List UInt8):=
 if s.a.fl%2=1 then qy C ((C.length+4095)/4096)else(List.range ((C.length+255)/256)).map (dv (s.a.fl/2%2=1) dt C)
abbrev yJ(C:List UInt8)(v:Int)(c:PV):PV:=.agg [.str C,pI v,c]
def strs(l:List (List UInt8)):List PV:=l.map PV.str
def afT{α:Type}(l:List α)(a b:Nat):cut a (min l.length (a+b)) l=(l.drop a).take b:=by
 unfold cut;rw[zdw];by_cases h:a+b<=l.length
 ·congr 1;omega
 ·rw[za1 ef,za1 ef]
def BB{l:List UInt8}{n:Nat}(h:l.length<=n):(mF l n).length=n:=by
 unfold mF;rw[zad,bn];omega
def AF(C:List UInt8)(k:Nat):(wa C k).length=4096:=BB eI
def ad_(u:List UInt8):(HU u).length=16:=by simp[HU]
def aaN(C:List UInt8)(n:Nat):qy C (n+1)=qy C n++HU (wa C n):=by
 unfold qy;rw[zdk,zaz];simp
def afF(C:List UInt8)(n:Nat):(qy C n).length=16*n:=by
 induction n with
 |zero=>simp[qy]
 |succ n ih=>rw[aaN,zad,ih,ad_];omega
def ai9{u:List UInt8}(h:u.length=4096):(j_ u).length<=4096:=(Dx h).2.1
def adQ(l:List (List UInt8)):∀c∈strs l,c.flat:=by
 intro c hc;unfold strs at hc;rw[zaX]at hc;obtain⟨x,_,rfl⟩:=hc;trivial
def RC(ps:List PV)(r:RV):Prop:=∃(s:St) (C:List UInt8) (v:Int) (c:PV) (dt:Nat->Prop),ps=[sP s,yJ C v c]/\(C.length<=40000/\aly s c dt/\(0<=s.a.fl/\s.a.fl<=7)/\s.pl.length<=1000)/\r=.fresh 9 1 (strs (aQ s C dt))
def asT{s:St}{c:PV}{dt:Nat->Prop}(h:aly s c dt){k:Nat}(hk:s.pl.length<=1000/\k<=1000){σ:aF}{K:AV->aF->Prop}(hK:∀r:Bool,(r=true↔dt k)->K (.pv (.bool r)) σ):
 abB (ay [(115,bF oA),(62,ah Bf),(189,Hp),(163,ah K4),(165,bF K7),(66,bF ayd),(84,bF aw5),(92,bF axY)]) (.pv c) [.pv (pI k)] σ K:=by
 cases h with
 |write f t=>exact⟨_,⟨s,f,t,k,rfl,ab,rfl⟩,hK⟩
 |size=>exact⟨_,⟨s,k,rfl,ab,rfl⟩,hK⟩
 |zero f t c=>exact⟨_,⟨s,f,t,c,k,rfl,ab,rfl⟩,hK⟩
set_option maxHeartbeats 1000000 in
def agp:MT (ay [(115,bF oA),(62,ah Bf),(189,Hp),(163,ah K4),(165,bF K7),(66,bF ayd),(84,bF aw5),(92,bF axY)]) uw (c8 true RC):=by
 rintro _ K ⟨_,⟨s,C,v,c,dt,rfl,⟨h1,h2,h3,h4⟩,rfl⟩,hK⟩;unfold aQ at hK;by_cases hc:s.a.fl%2=1
 ·rw[if_pos hc]at hK
  (repeat'((conv=>whnf);first|(refine⟨_,⟨s,rfl,h3,rfl⟩,?_⟩)|refine au ab ?_|fail))<;>try(conv=>whnf)
  refine⟨λm env σ=>∃k:Nat,(k+m=(C.length+4095)/4096)/\σ=[.box 97 [.pv (.str C),.pv (pI v),.pv c],.row 9 1 true (strs (qy C k))]/\env=[(3,.ref 0 0 0),(5,.own 1),eN 6 ((4096*k:Nat):Int)],(C.length+4095)/4096,⟨0,ab,rfl,rfl⟩,?_⟩;rintro m env σ ⟨k,hk,rfl,rfl⟩;have qG:=afF C k;by_cases aU:k<(C.length+4095)/4096
  ·have Vr:=AF C k;have hpk:=ai9 Vr;have hT:=aaN C k;have HR:cut (((4096*k:Nat):Int)).toNat (min (C.length:Int) (((4096*k:Nat):Int)+4096)).toNat C=(C.drop (4096*k)).take 4096:=by
    rw[<-afT];congr 1;omega
   have avU:(C.drop (4096*k)).take 4096++ai ((4096:Int)-(((C.drop (4096*k)).take 4096).length:Nat)).toNat=wa C k:=by
    unfold wa mF;congr 2;omega
   have mE:((C.drop (4096*k)).take 4096).length<=4096:=eI;generalize hA:qy C k=A at*;have qH:(strs A).length=A.length:=zav _
   (repeat'((conv=>whnf);first|rw[HR]|(refine⟨_,⟨_,_,rfl,ab,rfl⟩,?_⟩)|rw[avU]|refine⟨wa C k,rfl,ab,λh=>absurd Vr h,λ_=>?_⟩|refine bj ab ?_|refine au ab ?_|refine I8 ?_|refine wz ?_|fail))<;>try(conv=>whnf)
   generalize hU:wa C k=U at*;refine⟨λm' env σ=>∃i:Nat,(i+m'=16)/\σ=[.box 97 [.pv (.str C),.pv (pI v),.pv c],.row 9 1 true (strs (A++(HU U).take i))]/\env=[(3,.ref 0 0 0),(5,.own 1),eN 6 ((4096*k:Nat):Int),(8,.pv (.str (j_ U))),eN 39 i],16,⟨0,ab,aj,rfl⟩,?_⟩;rintro m' env σ ⟨i,hi,rfl,rfl⟩;have aHr:=ad_ U;by_cases aym:i<16
   ·have hT2:(HU U).take (i+1)=(HU U).take i++[((j_ U).drop (i*256)).take 256]:=by
     rw[zcF];congr 1;unfold HU;rw[za9,zbA aym];rfl
    have aoI:cut (min ((j_ U).length:Int) ((i:Int)*256)).toNat (min ((j_ U).length:Int) (min ((j_ U).length:Int) ((i:Int)*256)+256)).toNat (j_ U)=((j_ U).drop (i*256)).take 256:=by
     by_cases hq:i*256<=(j_ U).length
     ·rw[<-afT];congr 1<;>omega
     ·have Nv:(j_ U).drop (i*256)=[]:=zb8 ab;rw[Nv];unfold cut;rw[zb8 eI];simp
    have bJ:(strs (A++(HU U).take i)).length=A.length+i:=by
     simp[strs,zal,aHr];omega
    generalize hB:A++(HU U).take i=B at*;generalize j_ U=Pk at*
    (repeat'((conv=>whnf);first|rw[aoI]|refine bj ab ?_|refine au ab ?_|refine I8 ?_|refine bT ?_|refine wz ?_|refine zcC cu ?_|fail))<;>try(conv=>whnf)
    exact⟨m'-1,ab,i+1,ab,by rw[hT2,<-zaj,hB];simp[strs],rfl⟩
   ·(repeat'((conv=>whnf);first|refine bj ab ?_|refine aw ab ?_|fail))<;>try(conv=>whnf)
    refine⟨m-1,ab,k+1,ab,?_,?_⟩
    ·rw[hT,za1 ab]
    ·have:((4096*k:Nat):Int)+4096=((4096*(k+1):Nat):Int):=by omega
     show[(3,AV.ref 0 0 0),(5,AV.own 1),(6,AV.pv (pI (((4096*k:Nat):Int)+4096)))]=_;rw[this]
  ·(repeat'((conv=>whnf);first|refine aw ab ?_|fail))<;>try(conv=>whnf)
   rw[show k=(C.length+4095)/4096 by omega];exact⟨.fresh _ _ _,⟨rfl,rfl,rfl,rfl⟩,adQ _,hK⟩
 ·rw[if_neg hc]at hK
  (repeat'((conv=>whnf);first|(refine⟨_,⟨s,rfl,h3,rfl⟩,?_⟩)|(refine fe ?_;first|refine aw ab ?_|refine⟨_,⟨_,_,rfl,cZ,rfl⟩,?_⟩|fail)))<;>try(conv=>whnf)
  rw[show(C.length:Int)+256-1=((C.length+255:Nat):Int) by omega];refine⟨λm env σ=>∃k:Nat,(k+m=(C.length+255)/256)/\σ=[.box 97 [.pv (.str C),.pv (pI v),.pv c],.row 9 1 true (strs ((List.range k).map (dv (s.a.fl/2%2=1) dt C)))]/\env=[(0,.pv (sP s)),(3,.ref 0 0 0),(5,.own 1),eN 63 (((C.length+255:Nat):Int)/256),eN 64 k],(C.length+255)/256,⟨0,ab,rfl,rfl⟩,?_⟩;rintro m env σ ⟨k,hk,rfl,rfl⟩;by_cases aU:k<(C.length+255)/256
  ·have hT:(List.range (k+1)).map (dv (s.a.fl/2%2=1) dt C)=(List.range k).map (dv (s.a.fl/2%2=1) dt C)++[dv (s.a.fl/2%2=1) dt C k]:=by
    rw[zdk,zbu];rfl
   have HR:cut ((k:Int)*256).toNat (min (C.length:Int) (((k:Int)+1)*256)).toNat C=(C.drop (256*k)).take 256:=by
    rw[<-afT];congr 1<;>omega
   have mE:((C.drop (256*k)).take 256).length<=256:=eI;have avU:(C.drop (256*k)).take 256++ai ((256:Int)-(((C.drop (256*k)).take 256).length:Nat)).toNat=mF ((C.drop (256*k)).take 256) 256:=by
    unfold mF;congr 2;omega
   have bB:((List.range k).map (dv (s.a.fl/2%2=1) dt C)).length=k:=aj;have hn:(s.a.fl/2%2=1∧¬dt k)->dv (s.a.fl/2%2=1) dt C k=[]:=λh=>by unfold dv;rw[if_pos h]
   have hp:¬(s.a.fl/2%2=1∧¬dt k)->dv (s.a.fl/2%2=1) dt C k=mF ((C.drop (256*k)).take 256) 256:=λh=>by unfold dv;rw[if_neg h]
   generalize hG:(List.range k).map (dv (s.a.fl/2%2=1) dt C)=G at*;have qH:(strs G).length=G.length:=zav _;refine au ab ?_;refine⟨_,⟨s,rfl,h3,rfl⟩,?_⟩;refine de (λhs=>?_) (λhs=>?_)
   ·refine asT (σ:=[.box 97 [.pv (.str C),.pv (pI v),.pv c],.row 9 1 true (strs G)]) h2 ab (λr hr=>?_);cases r with
    |true=>
     have rF:=hp (λh=>h.2 (hr.1 rfl));rw[rF]at hT;clear hn hp rF hK h2;generalize (C.drop (256*k)).take 256=P at*;refine aN ?_
     (repeat'((conv=>whnf);first|rw[HR]|(refine⟨_,⟨_,_,rfl,ab,rfl⟩,?_⟩)|rw[avU]|refine bj ab ?_|refine I8 ?_|refine bT ?_|refine wz ?_|refine zcC cu ?_|fail))<;>try(conv=>whnf)
     exact aaS
    |false=>
     have hnv:=hn ⟨hs,λh=>by simpa using hr.2 h⟩;rw[hnv]at hT;clear hn hp hnv hK h2 HR avU mE;refine bP ?_
     (repeat'((conv=>whnf);first|refine bj ab ?_|refine bT ?_|refine zcC cu ?_|fail))<;>try(conv=>whnf)
     exact aaS
   ·have rF:=hp (λh=>hs h.1);rw[rF]at hT;clear hn hp rF hK h2;generalize (C.drop (256*k)).take 256=P at*
    (repeat'((conv=>whnf);first|rw[HR]|(refine⟨_,⟨_,_,rfl,ab,rfl⟩,?_⟩)|rw[avU]|refine bj ab ?_|refine I8 ?_|refine bT ?_|refine wz ?_|refine zcC cu ?_|fail))<;>try(conv=>whnf)
    exact aaS
  ·(repeat'((conv=>whnf);first|refine aw ab ?_|fail))<;>try(conv=>whnf)
   rw[show k=(C.length+255)/256 by omega];exact⟨.fresh _ _ _,⟨rfl,rfl,rfl,rfl⟩,adQ _,hK⟩
def Zf(f:Nat->Nat)(n:Nat):(VA f n).length=qO n:=by simp[VA,Rw,ai]
def KI{f:Nat->Nat}(hf:∀i,f i<=1)(n j:Nat):bH (VA f n) j=if j<n then f j else 0:=by
 unfold VA;rw[Z_ hf n (by simp[ai,qO];omega),Ou]
def fR(r:Rn)(i:Nat):Bool:=decide (r.s<=i/\(i:Int)<r.s+r.n)
def aJI(t:Nat->Bool)(s:Nat):Nat->Bool
 |0=>false
 |k+1=>aJI t s k||t (s+k)
def aiC(l:List Rn)(i:Nat):Bool:=l.any λr=>fR r i
def gS(r:Rn)(l:List Rn):bI (r::l)=r.n+bI l:=by simp[bI]
def apl(p:Nat->Bool):Nat->Nat
 |0=>0
 |n+1=>apl p n+(p n).toNat
def ap9(p:Nat->Bool):∀n,bI (bh p n)=apl p n:=by
 intro n
 induction n with
 |zero=>rfl
 |succ n ih=>
  unfold bh apl;cases hp:p n with
  |false=>simp[ih]
  |true=>
   simp only[if_true];rcases So (bh p n)with e|⟨a,r,e⟩
   ·rw[e]at ih ⊢;rw[G9,gS];simp at ih ⊢;omega
   ·rw[e]at ih ⊢;rw[xz];rw[J8,gS]at ih;split
    ·rw[J8,gS];simp at ih ⊢;omega
    ·rw[J8,J8,gS,gS];simp at ih ⊢;omega
def apr(s:List UInt8):∀n,(apl (λi=>decide ((bH s i:Int)=0)) n:Int)=n-oF s n:=by
 intro n
 induction n with
 |zero=>rfl
 |succ n ih=>
  have hle:=mK s n;by_cases h:bH s n=0
  ·have hf:decide ((bH s n:Int)=0)=true:=by rw[h];rfl
   simp only[apl,oF,hf,zdO,zdN];omega
  ·have h1:bH s n=1:=by omega
   have hf:decide ((bH s n:Int)=0)=false:=by rw[h1];rfl
   simp only[apl,oF,hf,zdO,zdN];omega
def ajV(p:Nat->Bool):∀n,(bh p n).Pairwise (λa b=>a.s+a.n<b.s)/\((∃a r,bh p n=a++[r]/\r.s+r.n=(n:Int))∨∀r∈bh p n,r.s+r.n<n):=by
 intro n
 induction n with
 |zero=>exact⟨.nil,.inr λ_ h=>bV⟩
 |succ n ih=>
  obtain⟨h1,h2⟩:=ih;have h0:=(kI p n).1;unfold bh;cases hp:p n with
  |false=>
   simp only[zct,if_false];exact⟨h1,.inr λr hr=>by have:=h0 r hr;omega⟩
  |true=>
   simp only[if_true];rcases So (bh p n)with e|⟨a,r,e⟩
   ·rw[e,G9];exact⟨zdq _ _,.inl ⟨[],_,rfl,aj⟩⟩
   ·rw[e]at h1 h2 h0;rw[e,xz];rw[zdn]at h1;obtain⟨h3,h4,h5⟩:=h1;split
    ·rename_i he;refine⟨?_,.inl ⟨a,_,rfl,aH⟩⟩;rw[zdn];exact⟨h3,zdq _ _,λx hx y hy=>by simp at hy;subst hy;exact h5 x hx r aj⟩
    ·rename_i he;have nK:∀x∈a++[r],x.s+x.n<n:=by
      rcases h2 with⟨a',r',e',h'⟩|h2
      ·have:=List.append_inj_right' e' rfl;simp at this;subst this;exact absurd h' he
      ·exact h2
     refine⟨?_,.inl ⟨a++[r],_,rfl,aj⟩⟩;rw[zdn];refine⟨?_,zdq _ _,λx hx y hy=>by simp at hy;subst hy;exact nK x hx⟩;rw[zdn];exact⟨h3,h4,h5⟩
def asJ{near c:Int}{r:Rn}(hc:c<=r.n):r.s<=wv near c r/\wv near c r+c<=r.s+r.n:=by
 unfold wv;omega
def ah5:∀{l:List Rn},(∀r∈l,0<=r.n)->0<=bI l:=by
 intro l
 induction l with
 |nil=>intro _;exact zdM _
 |cons y l ih=>intro hl;rw[gS];have:=hl y aj;have:=ih (λx hx=>hl x iP);omega
def ale:∀{l:List Rn} {c:Int},0<=c->c<=bI l->(∀r∈l,0<=r.n)->qa c l=0:=by
 intro l
 induction l with
 |nil=>intro c h0 h _;simp[bI]at h;unfold qa;omega
 |cons r l ih=>
  intro c h0 h hr;have h2:=ah5 (l:=l) λx hx=>hr x iP
  rw[gS]at h;unfold qa;split
  ·rfl
  ·exact ih ab ab λx hx=>hr x iP
def ax3{s:List UInt8}{n:Int}(h:0<=n):bI (nG s n)=n-oF s n.toNat:=by
 unfold nG;have:=(ap9 (jf s 0) n.toNat).trans (apr s n.toNat);rw[this];omega
def apD(p:Nat->Bool):∀(n i:Nat),aiC (bh p n) i=(decide (i<n)&&p i):=by
 intro n
 induction n with
 |zero=>intro i;simp[bh,aiC]
 |succ n ih=>
  intro i;have h0:=(kI p n).1;unfold bh;cases hp:p n with
  |false=>
   simp only[zct,if_false,ih];by_cases h:i=n
   ·subst h;simp[hp]
   ·have:decide (i<n)=decide (i<n+1):=decide_eq_decide.2 ab;rw[this]
  |true=>
   simp only[if_true];have main:(aiC (bh p n) i||decide (i=n))=(decide (i<n+1)&&p i):=by
    rw[ih];by_cases h:i=n
    ·subst h;simp[hp]
    ·have:decide (i<n)=decide (i<n+1):=decide_eq_decide.2 ab;rw[this];simp[h]
   rw[<-main];rcases So (bh p n)with e|⟨a,r,e⟩
   ·rw[e,G9];simp only[aiC,fR,zdF,zdJ,zdG,Bool.false_or];exact decide_eq_decide.2 ab
   ·have hr:=h0 r (by rw[e];simp);rw[e,xz];split
    ·rename_i he;simp only[aiC,zdP,zdF,zdJ,zdG,Bool.or_assoc];congr 1;simp only[fR];rw[<-Bool.decide_or];exact decide_eq_decide.2 (by constructor<;>intro h<;>omega)
    ·simp only[aiC,zdP,zdF,zdJ,zdG];congr 1;simp only[fR];exact decide_eq_decide.2 ab
def asp{f:Nat->Nat}(hf:∀i,f i<=1){k:Nat}(h:k<=4096):nu (VA f k) k=0:=by
 have hz:fx (k:Int)=0:=by unfold fx;rw[if_pos ab]
 unfold nu;rw[if_neg (λh=>h hz),if_neg,if_pos]
 ·intro i hi hki;rw[KI hf,if_neg ab]
 ·rw[Zf,abD ab,zaC];exact λh=>h rfl
def aAF(L:List Rn)(r:Rn):Prop:=∃e∈L,e.s<=r.s/\r.s+r.n<=e.s+e.n/\1<=r.n
def ahA:∀{S:List Rn} {c:Int} {r:Rn},0<=c->(∀e∈S,1<=e.n)->r∈kA c S→∃e∈S,r.s=e.s/\1<=r.n/\r.n<=e.n:=by
 intro S
 induction S with
 |nil=>intro c r _ _ h;simp[kA]at h
 |cons e S ih=>
  intro c r hc hS h;unfold kA at h;by_cases h0:c=0
  ·rw[if_pos h0]at h;cases h
  ·rw[if_neg h0]at h;have he:=hS e aj;rcases zaw.1 h with rfl|h
   ·exact⟨e,aj,rfl,by show 1<=min e.n c;omega,by show min e.n c<=e.n;omega⟩
   ·obtain⟨x,hx,h1⟩:=ih ab (λy hy=>hS y pT) h;exact⟨x,iP,h1⟩
def amp:∀{S:List Rn} {c:Int},0<=c->(∀e∈S,1<=e.n)->S.Pairwise (λa b=>∀i,¬(fR a i=true/\fR b i=true))->(kA c S).Pairwise (λa b=>∀i,¬(fR a i=true/\fR b i=true)):=by
 intro S
 induction S with
 |nil=>intro c _ _ _;simp[kA]
 |cons e S ih=>
  intro c hc hS hp;unfold kA;by_cases h0:c=0
  ·rw[if_pos h0];exact .nil
  ·rw[if_neg h0];obtain⟨XN,eQ⟩:=zdx.1 hp;refine zdx.2 ⟨λr hr i hi=>?_,ih ab (λy hy=>hS y pT) eQ⟩;obtain⟨x,hx,h1,h2,h3⟩:=ahA ab (λy hy=>hS y pT) hr;simp only[fR,decide_eq_true_eq]at hi;refine XN x hx i ?_;simp only[fR,decide_eq_true_eq];omega
def atJ:∀{S:List Rn} {c:Int},bI (kA c S)=c-qa c S:=by
 intro S
 induction S with
 |nil=>intro c;simp[kA,qa,bI]
 |cons e S ih=>
  intro c;unfold kA qa;by_cases h0:c=0
  ·rw[if_pos h0,if_pos h0,h0];rfl
  ·rw[if_neg h0,if_neg h0,gS,ih];show min e.n c+_=_;omega
def axy{near c:Int}:∀(l:List Rn) (o:Option Int) (x:Int),l.foldl (x9 near c) o=some x->o=some x∨∃r∈l,x=wv near c r:=by
 intro l
 induction l with
 |nil=>intro o x h;exact .inl h
 |cons r l ih=>
  intro o x h;rcases ih _ x h with h|⟨y,hy,e⟩
  ·unfold x9 at h;split at h
   ·injection h with h;exact .inr ⟨r,aj,h.symm⟩
   ·split at h
    ·injection h with h;exact .inr ⟨r,aj,h.symm⟩
    ·exact .inl h
  ·exact .inr ⟨y,pT,e⟩
def aix:∀{S:List Rn} {c:Int},(kA c S).length<=S.length:=by
 intro S
 induction S with
 |nil=>intro c;simp[kA]
 |cons e S ih=>
  intro c;unfold kA;split
  ·simp
  ·have:=ih (c:=c-min e.n c);simp only[zam];omega
def aiz(l:List Rn):Prop:=l.Pairwise (λa b=>∀i,¬(fR a i=true/\fR b i=true))
def ajm{s:List UInt8}{n:Int}{r:Rn}(hn:0<=n)(h:aAF (nG s n) r):(0<=r.s/\1<=r.n/\r.s+r.n<=n)∧∀i,fR r i=true->bH s i=0:=by
 obtain⟨e,he,h1,h2,h3⟩:=h;have g:=(kI (jf s 0) n.toNat).1 e he;refine⟨ab,λi hi=>?_⟩;have g2:=apD (jf s 0) n.toNat i;have:aiC (nG s n) i=true:=by
  unfold aiC;refine List.any_eq_true.2 ⟨e,he,?_⟩;unfold fR at hi ⊢;simp only[decide_eq_true_eq]at hi ⊢;omega
 unfold nG at this;rw[this]at g2;simp only[Bool.true_eq,zaU,decide_eq_true_eq,jf]at g2;omega
def aqj(s:List UInt8)(n:Int):aiz (nG s n):=by
 refine(ajV (jf s 0) n.toNat).1.imp λh i hi=>?_
 simp only[fR,decide_eq_true_eq]at hi;omega
def alQ{l m:List Rn}(h:l.Perm m)(hl:aiz l):aiz m:=by
 refine(h.pairwise_iff λ{a b} rE i hi=>rE i ⟨hi.2,hi.1⟩).1 hl
structure Gat(s:List UInt8)(n c:Int)(l:List Rn):Prop where
 rn:∀r∈l,(0<=r.s/\1<=r.n/\r.s+r.n<=n)∧∀i,fR r i=true->bH s i=0
 ap:aiz l
 sum:bI l=c
 len:l.length<=(nG s n).length
def auT{s:List UInt8}{n c near:Int}(hb:nu s n=0)(hc:1<=c/\c<=4096)(hn:0<=near/\near<=4095):IZ s n c near=0:=by
 unfold IZ ac0;rw[if_neg ab,if_pos ⟨hc,hn⟩]
def asy{s:List UInt8}{n c:Int}{r:Rn}(h:r∈rh c (nG s n)):r∈nG s n/\c<=r.n:=by
 obtain⟨h1,h2⟩:=zbn.1 h;refine⟨h1,?_⟩;simp only[small,zbs,decide_eq_false_iff_not]at h2;omega
def asI{s:List UInt8}{n c near:Int}(hb:nu s n=0)(hc:1<=c/\c<=4096)(hn:0<=near/\near<=4095)(h0:Fy s n c near=0):Gat s n c (Ju s n c near):=by
 have ha:=auT hb hc hn;have x3:=(iR hb).1;unfold Fy at h0;unfold Ju;rw[if_neg ab]at h0 ⊢;cases ho:Sw s n c near with
 |some x=>
  simp only;have hx:∃r∈rh c (nG s n),x=wv near c r:=by
   rcases axy (rh c (nG s n)) none x ho with h|h
   ·cases h
   ·exact h
  obtain⟨r,hr,rfl⟩:=hx;obtain⟨h1,h2⟩:=asy hr;have mE:=asJ (near:=near) h2;have cb:1<=(nG s n).length:=zcH.2 (List.ne_nil_of_mem h1);refine⟨λq hq=>?_,?_,?_,?_⟩
  ·rw[zdo]at hq;subst hq;exact ajm x3 ⟨r,h1,aH,aH,aH⟩
  ·unfold aiz;simp
  ·simp[bI]
  ·simpa using cb
 |none=>
  rw[ho]at h0;simp only at h0 ⊢;rw[if_pos h0];have hS:=YV near (nG s n);generalize UO near (nG s n)=S at*;have Gq:∀e∈S,1<=e.n:=λe he=>by
   have:=(kI (jf s 0) n.toNat).1 e (hS.1.mem_iff.1 he);omega
  have hz:qa c S=0:=by
   unfold I2 at h0;split at h0
   ·cases h0
   ·rename_i g;exact K6
  refine⟨λq hq=>?_,?_,?_,?_⟩
  ·obtain⟨e,he,h1,h2,h3⟩:=ahA ab Gq hq;exact ajm x3 ⟨e,hS.1.mem_iff.1 he,ab,ab,ab⟩
  ·exact amp ab Gq (alQ hS.1.symm (aqj s n))
  ·rw[atJ,hz];omega
  ·have:=aix (S:=S) (c:=c);have:=hS.1.length_eq;omega
def apj{l m:List Rn}(h:l.Perm m):bI l=bI m:=by
 induction h with
 |nil=>rfl
 |cons x _ ih=>rw[gS,gS,ih]
 |swap x y l=>simp only[gS];omega
 |trans _ _ h1 h2=>rw[h1,h2]
def axo{s:List UInt8}{n c near:Int}(hb:nu s n=0)(hc:1<=c/\c<=4096)(hn:0<=near/\near<=4095)(h0:Fy s n c near≠0):
 (Fy s n c near=16/\bI (nG s n)<c)\/(Fy s n c near=8/\64<(nG s n).length):=by
 have ha:=auT hb hc hn;unfold Fy at h0 ⊢;rw[if_neg ab]at h0 ⊢;cases ho:Sw s n c near with
 |some x=>rw[ho]at h0;exact absurd rfl h0
 |none=>
  rw[ho]at h0;simp only at h0 ⊢;have hS:=YV near (nG s n);generalize UO near (nG s n)=S at*;have Gq:∀e∈S,0<=e.n:=λe he=>by
   have:=(kI (jf s 0) n.toNat).1 e (hS.1.mem_iff.1 he);omega
  have aHt:bI (nG s n)=bI S:=by
   exact(apj hS.1).symm
  by_cases hz:qa c S=0
  ·rw[hz]at h0 ⊢;have hl:=aix (S:=S) (c:=c);have:=hS.1.length_eq;by_cases iG:(kA c S).length<=64
   ·rw[afW iG]at h0;exact absurd rfl h0
   ·rw[O3 iG];exact .inr ⟨rfl,ab⟩
  ·rw[ad9 hz];refine .inl ⟨rfl,?_⟩;by_cases aU:bI S<c
   ·omega
   ·exact absurd (ale ab ab Gq) hz
def ag0{s:List UInt8}{n c:Int}{l:List Rn}(h:Gat s n c l):((az l).length:Int)=c/\(∀x∈az l,(0<=x/\x<n)/\bH s x.toNat=0)/\(az l).Nodup:=by
 have SF:∀x,x∈az l→∃r∈l,r.s<=x/\x<r.s+r.n:=λx hx=>by
  obtain⟨r,hr,i,hi,rfl⟩:=aia hx;have:=(h.rn r hr).1;rw[if_neg ab];exact⟨r,hr,ab,ab⟩
 refine⟨by rw[xA λr hr=>by have:=(h.rn r hr).1;omega];exact h.sum,λx hx=>?_,?_⟩
 ·obtain⟨r,hr,h1,h2⟩:=SF x hx;have g:=h.rn r hr;exact⟨ab,g.2 _ (by simp only[fR,decide_eq_true_eq];omega)⟩
 ·unfold az List.Nodup;refine zdr.2 ⟨λr hr=>?_,?_⟩
  ·have g:=(h.rn r hr).1;unfold iV;rw[zdK];refine List.Pairwise.imp ?_ zbY;intro i j zk cb;rw[if_neg ab,if_neg ab]at cb;omega
  ·refine List.Pairwise.imp_of_mem ?_ h.ap;intro p q hp hq hpq x hx y hy he;subst he;have gp:=(h.rn p hp).1;have gq:=(h.rn q hq).1;unfold iV at hx hy;rw[zaX]at hx hy;obtain⟨i,hi,rfl⟩:=hx;obtain⟨j,hj,he⟩:=hy;rw[if_neg (show ¬p.s= -1 by omega),if_neg (show ¬q.s= -1 by omega)]at he;have hi:=zbm.1 hi;have hj:=zbm.1 hj;refine hpq (p.s+i).toNat ⟨?_,?_⟩<;>simp only[fR,decide_eq_true_eq]<;>omega
def jz(ps:List (List UInt8))(i:Nat):Bool:=decide (ps[i]?.getD []≠[])
def nD(ps:List (List UInt8))(pl:List Int)(i:Nat):Int:=if jz ps i=true then pl[i]?.getD (-1)else-1
def G8(ps:List (List UInt8))(pl:List Int)(i:Nat):Bool:=jz ps i&&decide (nD ps pl i= -1)
def vF(ps:List (List UInt8))(pl:List Int):Nat->Nat
 |0=>0
 |n+1=>vF ps pl n+if G8 ps pl n=true then 1 else 0
def UZ(ps:List (List UInt8))(pl:List Int):Nat->Int
 |0=>0
 |n+1=>if nD ps pl n= -1 then UZ ps pl n else nD ps pl n
def Qg(ps:List (List UInt8))(pl:List Int):List Int:=cQ (nD ps pl) ps.length
def u6(pl k1:List Int)(b:Nat->Bool)(c:Nat):Bool:=if (c:Int)∈pl then decide ((c:Int)∈k1)else b c
def CQ(ps:List (List UInt8))(pl fr:List Int)(i:Nat):Int:=if G8 ps pl i=true then fr[vF ps pl i]?.getD 0 else nD ps pl i
def ZJ(fr:List Int)(b:Nat->Bool)(c:Nat):Bool:=b c||decide ((c:Int)∈fr)
def agH(ps:List (List UInt8))(pl:List Int):∀n,vF ps pl n<=n
 |0=>zai 0
 |n+1=>by
  have:=agH ps pl n;unfold vF;split<;>omega
def xP(ps:List (List UInt8))(pl:List Int)(n:Nat):vF ps pl (n+1)=vF ps pl n+if G8 ps pl n=true then 1 else 0:=rfl
def asw(ps:List (List UInt8))(pl:List Int)(n:Nat):UZ ps pl (n+1)=if nD ps pl n= -1 then UZ ps pl n else nD ps pl n:=rfl
def RP(ps:List (List UInt8))(pl:List Int){n m:Nat}(h:n<=m):vF ps pl n<=vF ps pl m:=by
 induction h with
 |refl=>exact zai _
 |step _ ih=>rw[xP];omega
def Dr{ps:List (List UInt8)}{pl:List Int}{i:Nat}(h:nD ps pl i≠ -1):nD ps pl i∈pl:=by
 unfold nD at h ⊢;split at h
 ·rename_i g;rw[if_pos g];cases hp:pl[i]? with
  |none=>rw[hp]at h;exact kN
  |some a=>rw[zbC];exact zag hp
 ·exact kN
def aok{ps:List (List UInt8)}{pl:List Int}{m:Int}(h:∀a∈pl,-1<=a/\a<m)(hm:0<=m):∀n,0<=UZ ps pl n/\UZ ps pl n<=m
 |0=>⟨zdM _,hm⟩
 |n+1=>by
  show 0<=(if nD ps pl n= -1 then UZ ps pl n else nD ps pl n)/\(if nD ps pl n= -1 then UZ ps pl n else nD ps pl n)<=m;split
  ·exact aok h hm n
  ·rename_i g;have:=h _ (Dr g);omega
abbrev Yq(ps:List (List UInt8)):dC:=.row 9 1 true (strs ps)
abbrev rk(b:Nat->Bool)(n:Nat):dC:=.row 4 1 true ((cQ b n).map pB)
abbrev Lv(l:List Int):dC:=.row 3 1 true (l.map pI)
def lT(ps:List (List UInt8))(pl:List Int):Nat:=vF ps pl ps.length
def sq(ps:List (List UInt8))(pl:List Int)(b:Nat->Bool):Nat->Bool:=u6 pl (Qg ps pl) b
def gtE(ps:List (List UInt8))(pl:List Int)(b:Nat->Bool)(n:Nat):Int:=Fy (mG (cQ (sq ps pl b) n)) n (lT ps pl) (UZ ps pl ps.length)
def qv(ps:List (List UInt8))(pl:List Int)(b:Nat->Bool)(n:Nat):List Int:=az (Ju (mG (cQ (sq ps pl b) n)) n (lT ps pl) (UZ ps pl ps.length))
def w_(ps:List (List UInt8))(pl:List Int)(b:Nat->Bool)(n:Nat):Int:=if lT ps pl=0 then 0 else gtE ps pl b n
def pN(ps:List (List UInt8))(pl:List Int)(b:Nat->Bool)(n:Nat):List Int:=if lT ps pl=0 then[]else qv ps pl b n
def DF{l:List Bool}(h:l.length<=4096):nu (mG l) l.length=0∧∀i,bH (mG l) i=if i<l.length then mS (l[i]?.getD false)else 0:=
 ⟨asp (λ_=>Jj _) h,λi=>KI (λ_=>Jj _) _ i⟩
def Zp(xs:List AV)(σ:aF)(K:AV->aF->Prop):Prop:=∃(s:St) (ps:List (List UInt8)) (b:Nat->Bool) (n:Nat),
 xs=[.pv (sP s),.own 0,.own 1]/\σ=[Yq ps,rk b n]/\(ps.length<=1000/\s.pl.length<=1000/\n<=1000∧∀a∈s.pl,-1<=a/\a<n)/\
 (w_ ps s.pl b n=0->K (.tup [.own 2,.pv (pI 0)]) [Yq ps,rk (ZJ (pN ps s.pl b n) (sq ps s.pl b)) n,Lv (cQ (CQ ps s.pl (pN ps s.pl b n)) ps.length)])/\
 (w_ ps s.pl b n≠0->K (.tup [.own 2,.pv (pI (w_ ps s.pl b n))]) [Yq ps,rk (sq ps s.pl b) n,Lv []])
set_option maxHeartbeats 2000000 in
def agC:gO (ay [(67,bF adT),(86,bF GM),(190,bF Ku),(87,ah Mn),(191,K3),(97,c8 false dL)]) uf (sB Zp):=by
 rintro _ _ K ⟨s,ps,b,n,rfl,rfl,⟨h1,h2,h3,h4⟩,Gt,xy⟩;have fp:(strs ps).length=ps.length:=zav _
 (repeat'((conv=>whnf);first|refine ez λ_=>?_|fail))<;>try(conv=>whnf)
 refine⟨λm env σ=>∃i:Nat,i+m=ps.length/\σ=[Yq ps,rk b n,Lv (cQ (nD ps s.pl) i)]/\env=[(0,.pv (sP s)),(1,.own 0),(2,.own 1),(8,.own 2),eN 9 (vF ps s.pl i),eN 10 (UZ ps s.pl i),(21,.own 0),eN 22 ps.length,eN 23 i],ps.length,⟨0,ab,rfl,by rw[fp];rfl⟩,?_⟩;rintro m env σ ⟨i,hi,rfl,rfl⟩;have AQ:=agH ps s.pl i;by_cases aU:i<ps.length
 ·obtain⟨p,hp⟩:∃p,ps[i]?=some p:=⟨_,zah aU⟩
  have cb:jz ps i=decide (p≠[]):=X8;have hc:=xP ps s.pl i;have hr:=asw ps s.pl i;have ht:cQ (nD ps s.pl) (i+1)=cQ (nD ps s.pl) i++[nD ps s.pl i]:=Lt;by_cases IH:p=[]
  ·subst IH;have sQ:nD ps s.pl i= -1:=by unfold nD;rw[cb];rfl
   have fq:G8 ps s.pl i=false:=by unfold G8;rw[cb];rfl
   rw[fq,if_neg ao]at hc;rw[sQ]at hr ht;rw[if_pos rfl]at hr;clear Gt xy;generalize hT:cQ (nD ps s.pl) i=T at*;have hTl:T.length=i:=by rw[<-hT];exact ck
   have aCL:(T.map pI).length=T.length:=zav _
   (repeat'((conv=>whnf);first|refine zcC (by(rw[fp];omega)) ?_|refine zcC aa4 ?_|refine aw (p:=([]:List UInt8)≠[]) (by simp;first|done|fail) ?_|refine bj ab ?_|refine au ab ?_|refine uM aA ?_|refine bT ?_|fail))<;>try(conv=>whnf)
   refine⟨m-1,ab,i+1,ab,by rw[ht];simp,?_⟩;rw[hc,hr];rfl
  by_cases had:∃a,s.pl[i]?=some a/\a≠ -1
  ·obtain⟨a,ha,aDL⟩:=had;have sQ:nD ps s.pl i=a:=by unfold nD;rw[cb,if_pos (by simpa using IH),ha];rfl
   have fq:G8 ps s.pl i=false:=by unfold G8;rw[sQ];simp[aDL]
   rw[fq,if_neg ao]at hc;rw[sQ]at hr ht;rw[if_neg aDL]at hr;clear Gt xy;generalize hT:cQ (nD ps s.pl) i=T at*;have hTl:T.length=i:=by rw[<-hT];exact ck
   have aCL:(T.map pI).length=T.length:=zav _
   (repeat'((conv=>whnf);first|refine zcC (by(rw[fp];omega)) ?_|refine⟨_,⟨s,i,rfl,ab,rfl⟩,?_⟩|refine au ⟨a,ha,aDL⟩ ?_|refine zcC aa4 ?_|refine au (p:=p≠[]) IH ?_|(refine fe ?_;first|refine bj ab ?_|refine au ab ?_|refine aw ab ?_|refine iY aA ?_|refine uM aA ?_|refine bT ?_|refine⟨_,⟨_,rfl,rfl⟩,?_⟩|fail)))<;>try(conv=>whnf)
   refine⟨m-1,ab,i+1,ab,by rw[ht];simp,?_⟩;rw[hc,hr];rfl
  ·have sQ:nD ps s.pl i= -1:=by
    unfold nD;split
    ·cases hq:s.pl[i]? with
     |none=>rfl
     |some a=>
      by_cases ha:a= -1
      ·subst ha;rfl
      ·exact absurd ⟨a,hq,ha⟩ had
    ·rfl
   have fq:G8 ps s.pl i=true:=by unfold G8;rw[cb,sQ];simp[IH]
   rw[fq,if_pos rfl]at hc;rw[sQ]at hr ht;rw[if_pos rfl]at hr;clear Gt xy;generalize hT:cQ (nD ps s.pl) i=T at*;have hTl:T.length=i:=by rw[<-hT];exact ck
   have aCL:(T.map pI).length=T.length:=zav _
   (repeat'((conv=>whnf);first|refine zcC (by(rw[fp];omega)) ?_|refine⟨_,⟨s,i,rfl,ab,rfl⟩,?_⟩|refine aw had ?_|refine zcC aa4 ?_|refine au (p:=p≠[]) IH ?_|(refine fe ?_;first|refine bj ab ?_|refine au ab ?_|refine uM aA ?_|refine bT ?_|refine⟨_,⟨_,rfl,rfl⟩,?_⟩|fail)))<;>try(conv=>whnf)
   refine⟨m-1,ab,i+1,ab,by rw[ht];simp,?_⟩;rw[hc,hr];rfl
 ·have hi:i=ps.length:=by omega
  subst hi;have SH:cQ (nD ps s.pl) ps.length=Qg ps s.pl:=rfl;have aPQ:(Qg ps s.pl).length=ps.length:=ck;rw[SH];have aPR:∀x∈Qg ps s.pl,-1<=x/\x<n:=λx hx=>by
   obtain⟨k,hk⟩:=jk.1 hx;obtain⟨_,rfl⟩:=ajb hk;by_cases h:nD ps s.pl k= -1
   ·rw[h];omega
   ·exact h4 _ (Dr h)
  have aHu:vF ps s.pl ps.length=lT ps s.pl:=rfl;have xk:=aok (ps:=ps) h4 ab ps.length;have t_:sq ps s.pl b=u6 s.pl (Qg ps s.pl) b:=rfl;rw[aHu];rw[aHu]at AQ
  (repeat'((conv=>whnf);first|refine aw ab ?_|refine ez λ_=>?_|fail))<;>try(conv=>whnf)
  refine⟨λm env σ=>∃j:Nat,j+m=s.pl.length/\σ=[Yq ps,rk (u6 (s.pl.take j) (Qg ps s.pl) b) n,Lv (Qg ps s.pl)]/\env=[(1,.own 0),(2,.own 1),(8,.own 2),eN 9 (lT ps s.pl),eN 10 (UZ ps s.pl ps.length),(59,.pv (rI s.pl)),eN 60 s.pl.length,eN 61 j],s.pl.length,⟨0,ab,rfl,rfl⟩,?_⟩;rintro m env σ ⟨j,hj,rfl,rfl⟩;by_cases aU:j<s.pl.length
  ·obtain⟨a,ha⟩:∃a,s.pl[j]?=some a:=⟨_,zah aU⟩
   have ha4:=h4 a (zag ha);have kv:∀x,x∈s.pl.take (j+1)↔x∈s.pl.take j\/x=a:=λx=>by rw[zcF,ha];simp
   clear Gt xy;by_cases h0:a= -1
   ·subst h0;have hb:cQ (u6 (s.pl.take (j+1)) (Qg ps s.pl) b) n=cQ (u6 (s.pl.take j) (Qg ps s.pl) b) n:=kT λc hc=>by
     unfold u6;have:((c:Int)∈s.pl.take (j+1))↔((c:Int)∈s.pl.take j):=⟨λh=>((kv _).1 h).elim id (λh=>ab),λh=>(kv _).2 (.inl h)⟩
     simp only[this]
    (repeat'(refine iM ?_;first|refine bj ab ?_|refine aN ?_|refine au ab ?_|refine iY aA ?_|refine⟨_,⟨_,rfl,rfl⟩,?_⟩|fail))<;>try(conv=>whnf)
    exact⟨m-1,ab,j+1,ab,by simp only[rk];rw[hb],rfl⟩
   ·have fM:∀r:Bool,(r=true↔a∈Qg ps s.pl)->((cQ (u6 (s.pl.take j) (Qg ps s.pl) b) n).map pB).set a.toNat (pB r)=(cQ (u6 (s.pl.take (j+1)) (Qg ps s.pl) b) n).map pB:=λr hr=>by
     rw[<-zdt,oq];congr 1;refine kT λc hc=>?_
     unfold u6;by_cases hca:c=a.toNat
     ·have:(c:Int)=a:=by omega
      rw[if_pos hca,if_pos (by rw[kv];exact .inr this),this];cases r<;>simp_all
     ·rw[if_neg hca];have:((c:Int)∈s.pl.take (j+1))↔((c:Int)∈s.pl.take j):=⟨λh=>((kv _).1 h).elim id (λh=>ab),λh=>(kv _).2 (.inl h)⟩
      simp only[this]
    (repeat'((conv=>whnf);first|refine⟨_,⟨Qg ps s.pl,a,rfl,ab,rfl⟩,?_⟩|(refine fe ?_;first|refine bj ab ?_|refine bP ?_|refine au ab ?_|refine aw ab ?_|refine de (λ_=>?_) (λ_=>?_)|refine iY aA ?_|refine Vx ab ?_|refine Ug ab ?_|refine bT ?_|refine⟨_,⟨_,rfl,rfl⟩,?_⟩|fail)))<;>try(conv=>whnf)
    ·rename_i x;exact⟨m-1,ab,j+1,ab,by simp only[rk];rw[<-fM true (by simp[x])],rfl⟩
    ·rename_i x;exact⟨m-1,ab,j+1,ab,by simp only[rk];rw[<-fM false (by simp[x])],rfl⟩
  have hj:j=s.pl.length:=ab;subst hj;rw[zcN,<-t_];by_cases oB:lT ps s.pl=0
  ·have hK:=Gt (by unfold w_;rw[if_pos oB]);clear Gt xy;have hN:pN ps s.pl b n=[]:=by unfold pN;rw[if_pos oB]
   have h3:cQ (ZJ [] (sq ps s.pl b)) n=cQ (sq ps s.pl b) n:=kT λc _=>by simp[ZJ]
   have h5:cQ (CQ ps s.pl []) ps.length=Qg ps s.pl:=kT λi hi=>by
    unfold CQ;rw[if_neg];intro h;have h6:=RP ps s.pl (show i+1<=ps.length by omega);rw[xP,if_pos h]at h6;have:vF ps s.pl ps.length=0:=oB;omega
   simp only[rk]at hK;rw[hN,h3,h5]at hK
   (repeat'((conv=>whnf);first|refine au ab ?_|refine aw ab ?_|fail))<;>try(conv=>whnf)
   exact hK
  have hlT:(cQ (sq ps s.pl b) n).length=n:=ck;have Vv:=DF (l:=cQ (sq ps s.pl b) n) ab;rw[hlT]at Vv;have XJ:(mG (cQ (sq ps s.pl b) n)).length<=100000:=by
   have:=iR Vv.1;unfold sx at this;omega
  have hE:w_ ps s.pl b n=gtE ps s.pl b n:=by unfold w_;rw[if_neg oB]
  have hL:pN ps s.pl b n=qv ps s.pl b n:=by unfold pN;rw[if_neg oB]
  rw[hE,hL]at Gt;rw[hE]at xy;have hL2:qv ps s.pl b n=az (Ju (mG (cQ (sq ps s.pl b) n)) n (lT ps s.pl) (UZ ps s.pl ps.length)):=rfl;have Ao:gtE ps s.pl b n=Fy (mG (cQ (sq ps s.pl b) n)) n (lT ps s.pl) (UZ ps s.pl ps.length):=rfl;have hng:UZ ps s.pl ps.length<=4095:=ab;have aDM:gtE ps s.pl b n=0->Gat (mG (cQ (sq ps s.pl b) n)) n (lT ps s.pl) (Ju (mG (cQ (sq ps s.pl b) n)) n (lT ps s.pl) (UZ ps s.pl ps.length)):=λh=>asI Vv.1 ab ab h
  by_cases he:gtE ps s.pl b n=0
  ·have hg:=aDM he;have hK:=Gt he;clear Gt xy aDM;have s7:=ag0 hg;rw[<-hL2]at s7;have akC:dL [PV.sl 2 ((Ju (mG (cQ (sq ps s.pl b) n)) n (lT ps s.pl) (UZ ps s.pl ps.length)).map Rn.pv)] (.pv (rI (qv ps s.pl b n))):=by
    refine⟨.sl (Ju (mG (cQ (sq ps s.pl b) n)) n (lT ps s.pl) (UZ ps s.pl ps.length)),rfl,⟨?_,λr hr=>?_⟩,rfl⟩
    ·have h1:=La (l:=Ju (mG (cQ (sq ps s.pl b) n)) n (lT ps s.pl) (UZ ps s.pl ps.length)) λr hr=>by have:=(hg.rn r hr).1;exact⟨ab,ab⟩
     have h2:(Ju (mG (cQ (sq ps s.pl b) n)) n (lT ps s.pl) (UZ ps s.pl ps.length)).length<=bI (Ju (mG (cQ (sq ps s.pl b) n)) n (lT ps s.pl) (UZ ps s.pl ps.length)):=by
      have:∀l:List Rn,(∀r∈l,1<=r.n)->(l.length:Int)<=bI l:=by
       intro l
       induction l with
       |nil=>intro _;simp[bI]
       |cons r l ih=>
        intro h;rw[gS,zam];have:=ih λq hq=>h q kF
        have:=h r aj;omega
      exact this _ λr hr=>(hg.rn r hr).1.2.1
     rw[hg.sum]at h2;show(Ju _ _ _ _).length<=1000;omega
    ·have:=(hg.rn r hr).1;exact⟨ab,ab⟩
   have Ao:Fy (mG (cQ (sq ps s.pl b) n)) n (lT ps s.pl) (UZ ps s.pl ps.length)=0:=he
   (repeat'((conv=>whnf);first|refine aw ab ?_|refine⟨_,⟨cQ (sq ps s.pl b) n,rfl,ab,rfl⟩,?_⟩|refine⟨_,n,_,_,rfl,XJ,?_⟩|refine⟨_,akC,?_⟩|refine ez λ_=>?_|refine bT ?_|fail))<;>try(conv=>whnf)
   generalize hF:qv ps s.pl b n=F at*;have aHv:cQ (ZJ (F.take 0) (sq ps s.pl b)) n=cQ (sq ps s.pl b) n:=kT λc _=>by simp[ZJ]
   have aDN:cQ (λj=>if j<0 then CQ ps s.pl F j else nD ps s.pl j) ps.length=Qg ps s.pl:=kT λc _=>aj
   refine⟨λm env σ=>∃i:Nat,i+m=ps.length/\σ=[Yq ps,rk (ZJ (F.take (vF ps s.pl i)) (sq ps s.pl b)) n,Lv (cQ (λj=>if j<i then CQ ps s.pl F j else nD ps s.pl j) ps.length)]/\env=[(2,.own 1),(8,.own 2),(18,.pv (rI (F.drop (vF ps s.pl i)))),(94,.own 0),eN 95 ps.length,eN 96 i],ps.length,⟨0,ab,?_,by rw[fp];rfl⟩,?_⟩
   ·simp only[rk,Lv];rw[show vF ps s.pl 0=0 from rfl,aHv,aDN]
   rintro m env σ ⟨i,hi,rfl,rfl⟩;by_cases aU:i<ps.length
   ·obtain⟨p,hp⟩:∃p,ps[i]?=some p:=⟨_,zah aU⟩
    have cb:jz ps i=decide (p≠[]):=X8;have hc:=xP ps s.pl i;have aNc:vF ps s.pl (i+1)<=lT ps s.pl:=RP ps s.pl (show i+1<=ps.length by omega);clear hK;cases fq:G8 ps s.pl i with
    |true=>
     rw[fq,if_pos rfl]at hc;have mE:vF ps s.pl i<F.length:=ab;obtain⟨x,hx⟩:∃x,F[vF ps s.pl i]?=some x:=⟨_,zah mE⟩
     have hxb:=(s7.2.1 x (zag hx)).1;have SL:CQ ps s.pl F i=x:=by unfold CQ;rw[if_pos fq,hx];rfl
     have ayF:=fq;unfold G8 at ayF;simp only[zaU,decide_eq_true_eq]at ayF;have IH:p≠[]:=by have:=ayF.1;rw[cb]at this;simpa using this
     have hd:F.drop (vF ps s.pl i)=x::F.drop (vF ps s.pl i+1):=by
      rw[List.drop_eq_getElem_cons mE];congr 1;rw[zah mE]at hx;exact Option.some.inj hx
     have kv:∀y,y∈F.take (vF ps s.pl (i+1))↔y∈F.take (vF ps s.pl i)\/y=x:=λy=>by rw[hc,zcF,hx];simp
     have aHw:((cQ (λj=>if j<i then CQ ps s.pl F j else nD ps s.pl j) ps.length).map pI).set i (pI x)=(cQ (λj=>if j<i+1 then CQ ps s.pl F j else nD ps s.pl j) ps.length).map pI:=by
      rw[<-zdt,oq];congr 1;refine kT λj hj=>?_
      by_cases h:j=i
      ·subst h;rw[if_pos rfl,if_pos ab,SL]
      ·rw[if_neg h];by_cases h2:j<i
       ·rw[if_pos h2,if_pos ab]
       ·rw[if_neg h2,if_neg ab]
     have aHx:((cQ (ZJ (F.take (vF ps s.pl i)) (sq ps s.pl b)) n).map pB).set x.toNat (pB true)=(cQ (ZJ (F.take (vF ps s.pl (i+1))) (sq ps s.pl b)) n).map pB:=by
      rw[<-zdt,oq];congr 1;refine kT λc hc=>?_
      unfold ZJ;by_cases h:c=x.toNat
      ·have:(c:Int)=x:=by omega
       rw[if_pos h,this];simp[kv]
      ·rw[if_neg h];have:((c:Int)∈F.take (vF ps s.pl (i+1)))↔((c:Int)∈F.take (vF ps s.pl i)):=⟨λh=>((kv _).1 h).elim id (λh=>ab),λh=>(kv _).2 (.inl h)⟩
       simp only[this]
     have aDO:(λj=>if j<i then CQ ps s.pl F j else nD ps s.pl j) i= -1:=by simp only[zdH,if_false];exact ayF.2
     have aHy:((cQ (λj=>if j<i then CQ ps s.pl F j else nD ps s.pl j) ps.length).map pI).length=ps.length:=by rw[zav,ck]
     have hgT:((cQ (λj=>if j<i then CQ ps s.pl F j else nD ps s.pl j) ps.length).map pI)[i]?=some (pI (-1)):=by rw[za9,bO aU];exact congrArg (λz=>some (pI z)) aDO
     (repeat'((conv=>whnf);first|rw[hd]|refine⟨pI x,⟨ab,rfl⟩,?_⟩|refine⟨pI x,zbL P3,?_⟩|(refine fe ?_;first|refine bj ab ?_|refine au ab ?_|refine au aA ?_|refine uM aA ?_|refine Vx ab ?_|refine Ug ab ?_|refine Q3 ab ?_|refine bT ?_|refine⟨_,⟨_,rfl,rfl⟩,?_⟩|refine zcC cu ?_|fail)))<;>try(conv=>whnf)
     refine⟨m-1,ab,i+1,ab,?_,?_⟩
     ·simp only[rk,Lv];rw[<-aHw,<-aHx];simp
     ·have e2:AV.pv (PV.sl 1 (cut (1:Int).toNat ((x::F.drop (vF ps s.pl i+1)).map pI).length ((x::F.drop (vF ps s.pl i+1)).map pI)))=.pv (rI (F.drop (vF ps s.pl (i+1)))):=by
       have:=aFl (x::F.drop (vF ps s.pl i+1)) 1;rw[hc];simpa using this
      simp only[<-e2];rfl
    |false=>
     rw[fq,if_neg ao]at hc;have hc:vF ps s.pl (i+1)=vF ps s.pl i:=hc;have SL:CQ ps s.pl F i=nD ps s.pl i:=by unfold CQ;rw[fq];rfl
     have hT:cQ (λj=>if j<i+1 then CQ ps s.pl F j else nD ps s.pl j) ps.length=cQ (λj=>if j<i then CQ ps s.pl F j else nD ps s.pl j) ps.length:=kT λj hj=>by
      by_cases h:j=i
      ·subst h;rw[if_pos ab,if_neg ab,SL]
      ·by_cases h2:j<i
       ·rw[if_pos h2,if_pos ab]
       ·rw[if_neg h2,if_neg ab]
     have aDO:(λj=>if j<i then CQ ps s.pl F j else nD ps s.pl j) i=nD ps s.pl i:=by simp only[zdH,if_false]
     have aHy:((cQ (λj=>if j<i then CQ ps s.pl F j else nD ps s.pl j) ps.length).map pI).length=ps.length:=by rw[zav,ck]
     have hgT:((cQ (λj=>if j<i then CQ ps s.pl F j else nD ps s.pl j) ps.length).map pI)[((i:Nat):Int).toNat]?=some (pI (nD ps s.pl i)):=by rw[zaC,za9,bO aU];exact congrArg (λz=>some (pI z)) aDO
     unfold G8 at fq;have hbk:¬(p≠[]/\nD ps s.pl i= -1):=λh=>by rw[cb,h.2]at fq;simp[h.1]at fq
     by_cases IH:p=[]
     ·subst IH
      (repeat'((conv=>whnf);first|refine aw (p:=([]:List UInt8)≠[]) (by simp;first|done|fail) ?_|refine bj ab ?_|refine au ab ?_|refine uM aA ?_|refine Q3 ab ?_|fail))<;>try(conv=>whnf)
      refine⟨m-1,ab,i+1,ab,?_,?_⟩
      ·simp only[rk,Lv];rw[hT,hc]
      ·rw[hc];rfl
     ·have SH:¬nD ps s.pl i= -1:=λh=>hbk ⟨IH,h⟩
      (repeat'((conv=>whnf);first|refine au (p:=p≠[]) IH ?_|refine⟨_,hgT,?_⟩|refine aw SH ?_|(refine fe ?_;first|refine bj ab ?_|refine au ab ?_|refine uM aA ?_|refine Ug ab ?_|refine Q3 ab ?_|refine⟨_,⟨_,rfl,rfl⟩,?_⟩|fail)))<;>try(conv=>whnf)
      refine⟨m-1,ab,i+1,ab,?_,?_⟩
      ·simp only[rk,Lv];rw[hT,hc]
      ·rw[hc];rfl
   ·have hi:i=ps.length:=by omega
    subst hi;have hcF:vF ps s.pl ps.length=F.length:=by have:=s7.1;show lT ps s.pl=_;omega
    have hT:cQ (λj=>if j<ps.length then CQ ps s.pl F j else nD ps s.pl j) ps.length=cQ (CQ ps s.pl F) ps.length:=kT λj hj=>if_pos hj
    rw[hcF,za1 (zai _),List.drop_of_length_le (zai _)];simp only[rk,Lv]at hK ⊢;rw[hT]
    (repeat'((conv=>whnf);first|refine aw ab ?_|fail))<;>try(conv=>whnf)
    exact hK
  ·have hK:=xy he;clear Gt xy aDM;have Ao:Fy (mG (cQ (sq ps s.pl b) n)) n (lT ps s.pl) (UZ ps s.pl ps.length)≠0:=he
   (repeat'((conv=>whnf);first|refine aw ab ?_|refine⟨_,⟨cQ (sq ps s.pl b) n,rfl,ab,rfl⟩,?_⟩|refine⟨_,n,_,_,rfl,XJ,?_⟩|refine au ab ?_|refine ez λ_=>?_|refine bT ?_|fail))<;>try(conv=>whnf)
   exact hK
def MF(B:List UInt8)(k:Nat)(p:List UInt8):List UInt8:=B.take (256*k)++p++B.drop (256*k+256)
def Yb{B p:List UInt8}{k:Nat}(h:(k+1)*256<=B.length)(hp:p.length=256):(MF B k p).length=B.length:=by
 unfold MF;simp[hp];omega
def WA(B:List UInt8)(ps:List (List UInt8))(P:Nat->Int):Nat->List UInt8
 |0=>B
 |i+1=>if jz ps i=true then MF (WA B ps P i) (P i).toNat (ps[i]?.getD [])else WA B ps P i
def TJ(B:List UInt8)(ps:List (List UInt8))(P:Nat->Int)(i:Nat):WA B ps P (i+1)=if jz ps i=true then MF (WA B ps P i) (P i).toNat (ps[i]?.getD [])else WA B ps P i:=rfl
def aBE(ps:List (List UInt8)):Prop:=∀p∈ps,p=[]\/p.length=256
def RJ{ps:List (List UInt8)}{i:Nat}:jz ps i=true↔∃p,ps[i]?=some p/\p≠[]:=by
 unfold jz;cases h:ps[i]? with
 |none=>simp
 |some p=>simp
def RW{B:List UInt8}{ps:List (List UInt8)}{P:Nat->Int}(hp:aBE ps)(hP:∀i,jz ps i=true->0<=P i/\(P i+1)*256<=B.length):∀i,(WA B ps P i).length=B.length
 |0=>rfl
 |i+1=>by
  rw[TJ];have ih:=RW (B:=B) hp hP i;split
  ·rename_i h;have h1:=hP i h;obtain⟨p,h2,h3⟩:=RJ.1 h;rw[Yb ab (by rw[h2];exact(hp p (zag h2)).resolve_left h3),ih]
  ·exact ih
def auv(s:St)(C:List UInt8)(dt:Nat->Prop):aBE (aQ s C dt):=by
 intro p hp;unfold aQ at hp;split at hp
 ·unfold qy at hp;rw[zbB]at hp;obtain⟨k,_,hp⟩:=hp;unfold HU at hp;rw[zaX]at hp;obtain⟨i,_,rfl⟩:=hp;have:=(Dx (AF C k)).2.2.1;generalize j_ (wa C k)=q at*;by_cases h:i*256<q.length
  ·right;rw[zal,zax];omega
  ·left;rw[zb8 ab];rfl
 ·rw[zaX]at hp;obtain⟨i,_,rfl⟩:=hp;unfold dv;split
  ·exact .inl rfl
  ·right;exact BB eI
def sK(s:St)(C:List UInt8)(dt:Nat->Prop):(aQ s C dt).length=if s.a.fl%2=1 then 16*((C.length+4095)/4096)else(C.length+255)/256:=by
 unfold aQ;split
 ·exact afF _ _
 ·simp
def df(d:Dk)(c:Nat):Bool:=decide (bH d.mp c=1)
def W_(d:Dk):qf d=cQ (df d) d.n:=rfl
noncomputable def Be(s:St)(C:List UInt8)(dt:Nat->Prop):Nat->Int:=CQ (aQ s C dt) s.pl (pN (aQ s C dt) s.pl (df s.d) s.d.n)
noncomputable def Cz(s:St)(C:List UInt8)(dt:Nat->Prop):List Int:=cQ (Be s C dt) (aQ s C dt).length
noncomputable def Gv(s:St)(C:List UInt8)(v:Int)(dt:Nat->Prop):At:=
 ⟨s.a.ty,s.a.nm,s.a.id,s.a.fl,false,[],0,.sl (nS (Cz s C dt)),bt (Cz s C dt)*256,C.length,v⟩
noncomputable def Md(s:St)(C:List UInt8)(v:Int)(dt:Nat->Prop):Int:=
 if w_ (aQ s C dt) s.pl (df s.d) s.d.n≠0 then w_ (aQ s C dt) s.pl (df s.d) s.d.n
 else if 64<(nS (Cz s C dt)).length\/gu (Gv s C v dt)≠0 then 8 else 0
noncomputable def XY(s:St)(C:List UInt8)(dt:Nat->Prop):Dk:=
 ⟨WA s.d.a_ (aQ s C dt) (Be s C dt) (aQ s C dt).length,mG (cQ (ZJ (pN (aQ s C dt) s.pl (df s.d) s.d.n) (sq (aQ s C dt) s.pl (df s.d))) s.d.n)⟩
def zD:Dk:=⟨[],[]⟩
structure adA(s:St):Prop where
 a_:s.d.a_.length<=200000
 mp:s.d.mp.length<=1000000
 n:s.d.n<=512
 bm:nu s.d.mp s.d.n=0
 fl:0<=s.a.fl/\s.a.fl<=7
 len:s.pl.length<=128
 pl:MH s.d.a_ s.pl
 nm:s.a.nm.length<=1000000
def X6{s:St}(h:adA s):∀a∈s.pl,-1<=a/\a<s.d.n:=λa ha=>by
 rcases h.pl a ha with h|h
 ·omega
 ·unfold Dk.n;omega
def auh{s:St}(h:adA s){ps:List (List UInt8)}(hl:ps.length<=1000)(hm:lT ps s.pl≠0)(he:gtE ps s.pl (df s.d) s.d.n=0):
 Gat (mG (cQ (sq ps s.pl (df s.d)) s.d.n)) s.d.n (lT ps s.pl) (Ju (mG (cQ (sq ps s.pl (df s.d)) s.d.n)) s.d.n (lT ps s.pl) (UZ ps s.pl ps.length)):=by
 have hn:=h.n;have Vv:=DF (l:=cQ (sq ps s.pl (df s.d)) s.d.n) kD;rw[ck]at Vv;have xk:=aok (ps:=ps) (X6 h) ab ps.length;have:=agH ps s.pl ps.length;have aLa:lT ps s.pl=vF ps s.pl ps.length:=rfl;exact asI Vv.1 ab ab he
def auU{s:St}(h:adA s){ps:List (List UInt8)}(hl:ps.length<=1000)(he:w_ ps s.pl (df s.d) s.d.n=0){i:Nat}(hi:i<ps.length)(hn:jz ps i=true):
 0<=CQ ps s.pl (pN ps s.pl (df s.d) s.d.n) i/\CQ ps s.pl (pN ps s.pl (df s.d) s.d.n) i<s.d.n:=by
 unfold CQ;split
 ·rename_i hm;have h1:vF ps s.pl (i+1)<=lT ps s.pl:=RP ps s.pl ab;rw[xP,if_pos hm]at h1;unfold w_ at he;unfold pN;rw[if_neg ab]at he ⊢;have hg:=ag0 (auh h hl ab he);have hlen:vF ps s.pl i<(qv ps s.pl (df s.d) s.d.n).length:=by unfold qv;omega
  have hx:(qv ps s.pl (df s.d) s.d.n)[vF ps s.pl i]?=some ((qv ps s.pl (df s.d) s.d.n)[vF ps s.pl i]):=zah hlen;rw[hx,zbC];exact(hg.2.1 _ (zag hx)).1
 ·rename_i hm;have cb:nD ps s.pl i≠ -1:=by
   intro e;unfold G8 at hm;rw[hn,e]at hm;exact hm ao
  have h1:=X6 h _ (Dr cb);omega
def anB{Q p:List UInt8}{k:Int}(hk:0<=k/\(k+1)*256<=Q.length)(hp:p.length=256):
 (Q.map aL).take (k*256).toNat++(p.map aL).take ((Q.map aL).length-(k*256).toNat)++(Q.map aL).drop ((k*256).toNat+min (p.map aL).length ((Q.map aL).length-(k*256).toNat))=(MF Q k.toNat p).map aL:=by
 unfold MF;rw[zav,zav,hp,show(k*256).toNat=256*k.toNat by omega,show min 256 (Q.length-256*k.toNat)=256 by omega,
  za1 (l:=p.map aL) oP,zbu,zbu,List.map_take,zdE]
def T_(ps:List PV)(r:RV):Prop:=∃(s:St) (C:List UInt8) (v:Int) (c:PV) (dt:Nat->Prop),ps=[sP s,yJ C v c]/\(adA s/\C.length<=32768/\aly s c dt)/\
 r=.tup [.pv (if Md s C v dt=0 then XY s C dt else zD).pv,.pv (if Md s C v dt=0 then Gv s C v dt else zA).pv,.pv (pI (Md s C v dt))]
set_option maxHeartbeats 1000000 in
def ak9:MT (ay [(132,c8 true RC),(85,c8 true xj),(133,sB Zp),(134,c8 true aaA),(135,ah Uc),(96,ah nC),(87,ah Mn)]) x4 (c8 false T_):=by
 rintro _ K ⟨_,⟨s,C,v,c,dt,rfl,⟨h,h2,h3⟩,rfl⟩,hK⟩;have qG:=sK s C dt;have IH:(aQ s C dt).length<=200:=Su;have LQ:=auv s C dt;have hb:=X6 h;have avW:=λ(he:w_ (aQ s C dt) s.pl (df s.d) s.d.n=0) i hi hn=>auU h (ps:=aQ s C dt) ab he (i:=i) hi hn
 have cP:RC [sP s,yJ C v c] (.fresh 9 1 (strs (aQ s C dt))):=⟨s,C,v,c,dt,rfl,⟨ab,h3,h.fl,by have:=h.len;omega⟩,rfl⟩
 have ab6:xj [s.d.pv] (.fresh 4 1 ((qf s.d).map pB)):=⟨s.d,rfl,⟨by have:=h.a_;omega,h.mp,h.bm⟩,rfl⟩
 rw[W_]at ab6;have xm:Md s C v dt=if w_ (aQ s C dt) s.pl (df s.d) s.d.n≠0 then w_ (aQ s C dt) s.pl (df s.d) s.d.n else if 64<(nS (Cz s C dt)).length\/gu (Gv s C v dt)≠0 then 8 else 0:=rfl
 have hLd:Cz s C dt=cQ (Be s C dt) (aQ s C dt).length:=rfl;have hPd:Be s C dt=CQ (aQ s C dt) s.pl (pN (aQ s C dt) s.pl (df s.d) s.d.n):=rfl;have hAd:Gv s C v dt=⟨s.a.ty,s.a.nm,s.a.id,s.a.fl,false,[],0,.sl (nS (Cz s C dt)),bt (Cz s C dt)*256,C.length,v⟩:=rfl;have hDd:XY s C dt=⟨WA s.d.a_ (aQ s C dt) (Be s C dt) (aQ s C dt).length,mG (cQ (ZJ (pN (aQ s C dt) s.pl (df s.d) s.d.n) (sq (aQ s C dt) s.pl (df s.d))) s.d.n)⟩:=rfl;generalize Md s C v dt=E at*;generalize Gv s C v dt=A at*;generalize XY s C dt=D at*;generalize Cz s C dt=L at*;rw[<-hPd]at avW;have aLc:∀i,Be s C dt i≠ -1\/Be s C dt i= -1:=λi=>ab
 generalize Be s C dt=P at*
 (repeat'((conv=>whnf);first|refine⟨_,cP,?_⟩|refine⟨_,ab6,?_⟩|fail))<;>try(conv=>whnf)
 clear cP ab6;generalize fp:aQ s C dt=ps at*;refine⟨s,ps,df s.d,s.d.n,rfl,rfl,⟨ab,by have:=h.len;omega,by have:=h.n;omega,hb⟩,λhe=>?_,λhe=>?_⟩
 ·rw[he,if_neg ao]at xm;have avW:=avW he;rw[<-hPd,<-hLd];have hLl:L.length=ps.length:=by rw[hLd];exact ck
  have hLb:∀a∈L,-1<=a/\a<=1000000:=λa ha=>by
   obtain⟨k,hk⟩:=jk.1 ha;rw[hLd]at hk;obtain⟨SH,rfl⟩:=ajb hk;have hn:=h.n;cases cb:jz ps k with
   |true=>have:=avW k SH cb;omega
   |false=>
    rw[hPd];unfold CQ G8 nD;rw[cb];simp
  have Vr:=oG L;generalize ZJ (pN ps s.pl (df s.d) s.d.n) (sq ps s.pl (df s.d))=b at*;have avX:nC [A.pv] (pI (gu A)):=⟨A,rfl,by rw[hAd];exact h.nm,rfl⟩
  have hA1:A.pv=.agg [pI s.a.ty,.str s.a.nm,pI s.a.id,pI s.a.fl,pB false,.str [],pI 0,.sl 2 ((nS L).map Rn.pv),pI (bt L*256),pI C.length,pI v]:=by rw[hAd];rfl
  rw[hA1]at avX;have mW:=h.a_
  (repeat'((conv=>whnf);first|refine⟨_,⟨L,rfl,⟨ab,hLb⟩,rfl⟩,?_⟩|refine⟨_,⟨L,rfl,ab,rfl⟩,?_⟩|refine⟨_,avX,?_⟩|refine bj ab ?_|refine aw ab ?_|refine de (λ_=>?_) (λ_=>?_)|refine ez λ_=>?_|refine bT ?_|refine wz ?_|fail))<;>try(conv=>whnf)
  ·rename_i x;have x:64<(nS L).length:=ab;rw[if_pos (.inl x)]at xm;rw[xm,if_neg ao,if_neg ao]at hK;exact iN
  ·rename_i x;rw[if_pos (.inr x)]at xm;rw[xm,if_neg ao,if_neg ao]at hK;exact iN
  rename_i x0 x1 _;have x0:¬64<(nS L).length:=ab;rw[if_neg (λh=>h.elim x0 x1)]at xm;rw[xm,if_pos rfl,if_pos rfl]at hK;clear avX Vr hLb;have azP:∀i,jz ps i=true->0<=P i/\(P i+1)*256<=s.d.a_.length:=λi hi=>by
   obtain⟨p,hp,_⟩:=RJ.1 hi;have:=avW i (eT hp) hi;unfold Dk.n at this;omega
  have aHz:=RW (B:=s.d.a_) (P:=P) LQ azP;have qH:(strs ps).length=ps.length:=zav _;refine⟨λm env σ=>∃i:Nat,i+m=ps.length/\
   σ=[.box 23 [.pv (.str []),.pv (.str [])],.box 26 [.pv (pI 0),.pv (.str []),.pv (pI 0),.pv (pI 0),.pv (pB false),.pv (.str []),.pv (pI 0),.pv (.nil 2),.pv (pI 0),.pv (pI 0),.pv (pI 0)],rk b s.d.n,Lv L,
    .box 26 [.pv (pI s.a.ty),.pv (.str s.a.nm),.pv (pI s.a.id),.pv (pI s.a.fl),.pv (pB false),.pv (.str []),.pv (pI 0),.own 7,.pv (pI (bt L*256)),.pv (pI C.length),.pv (pI v)],
    .row 5 1 false ((WA s.d.a_ ps P i).map aL),Yq ps,.row 28 2 true ((nS L).map Rn.pv)]/\
   env=[(4,.ref 0 0 0),(5,.ref 1 0 0),(8,.own 2),(9,.own 3),(11,.ref 4 0 0),(12,.own 5),(83,.own 6),eN 84 (strs ps).length,eN 85 i],ps.length,⟨0,ab,rfl,rfl⟩,?_⟩
  rintro m env σ ⟨i,hi,rfl,rfl⟩;have aNh:=aHz i;by_cases aU:i<ps.length
  ·obtain⟨p,hp⟩:∃p,ps[i]?=some p:=⟨_,zah aU⟩
   have cb:jz ps i=decide (p≠[]):=X8;have hT:=TJ s.d.a_ ps P i;rw[hp,zbC]at hT;clear hK aHz;by_cases IH:p=[]
   ·subst IH;rw[cb,if_neg ao]at hT
    (repeat'((conv=>whnf);first|refine aw (p:=([]:List UInt8)≠[]) (by simp;first|done|fail) ?_|refine bj ab ?_|refine au ab ?_|refine uM aA ?_|refine Q3 ab ?_|fail))<;>try(conv=>whnf)
    exact⟨m-1,ab,i+1,ab,by rw[hT],rfl⟩
   ·have hnt:jz ps i=true:=by rw[cb];simpa using IH
    rw[hnt,if_pos rfl]at hT;have hPi:=azP i hnt;have aHA:=(LQ p (zag hp)).resolve_left IH;have hgL:(L.map pI)[((i:Nat):Int).toNat]?=some (pI (P i)):=by
     rw[zaC,za9,hLd,bO aU];rfl
    generalize hQ:WA s.d.a_ ps P i=Q at*;have hql:(Q.map aL).length=Q.length:=zav _
    (repeat'((conv=>whnf);first|refine au (p:=p≠[]) IH ?_|refine⟨_,hgL,?_⟩|refine Or.inr ?_|refine zcC (by rw[hql];omega) ?_|refine bj ab ?_|refine au ab ?_|refine uM aA ?_|refine Q3 ab ?_|fail))<;>try(conv=>whnf)
    have ly:=anB (Q:=Q) (p:=p) (k:=P i) ab aHA;exact⟨m-1,ab,i+1,ab,by rw[hT,<-ly],rfl⟩
  ·have hi:i=ps.length:=by omega
   subst hi;rw[hDd]at hK;rw[hA1]at hK
   (repeat'((conv=>whnf);first|refine⟨_,⟨cQ b s.d.n,rfl,by rw[ck];have:=h.n;omega,rfl⟩,?_⟩|refine aw ab ?_|refine yR ?_|refine bT ?_|fail))<;>try(conv=>whnf)
   exact⟨[.pv (Dk.mk _ _).pv,.pv (.agg [_,_,_,_,_,_,_,_,_,_,_]),.pv (pI _)],⟨rfl,rfl,rfl,trivial⟩,trivial,hK⟩
 ·rw[if_pos he]at xm;rw[xm,if_neg he,if_neg he]at hK
  (repeat'((conv=>whnf);first|refine au he ?_|refine bT ?_|fail))<;>try(conv=>whnf)
  exact iN
def YI(ps:List PV)(r:RV):Prop:=∃s:Rs,ps=[qF s]/\s.l.length<=1000000/\r=.fresh 28 2 (s.l.map Rn.pv)
def aga:MT (ay []) eu (c8 true YI):=by
 rintro _ K ⟨_,⟨s,rfl,h,rfl⟩,hK⟩;cases s with
 |nil=>
  (conv=>whnf)
  exact⟨.fresh _ _ _,⟨rfl,rfl,rfl,rfl⟩,(λ_ h=>bV),hK⟩
 |sl l=>
  refine λr hr=>?_
  cases r with
  |true=>
   have hl:l=[]:=by
    cases l with
    |nil=>rfl
    |cons x l=>exact absurd (hr aj) ao
   subst hl
   (conv=>whnf)
   exact⟨.fresh _ _ _,⟨rfl,rfl,rfl,rfl⟩,(λ_ h=>bV),hK⟩
  |false=>
   have h:l.length<=1000000:=h;have gJ:(l.map Rn.pv).length=l.length:=zav _
   (repeat'((conv=>whnf);first|refine zcC aH ?_|refine bT ?_|fail))<;>try(conv=>whnf)
   exact vj
noncomputable def cg(s:St)(C:List UInt8)(v:Int)(dt:Nat->Prop):Int:=if s.a.rs=true/\C.length<=200 then 0 else Md s C v dt
noncomputable def lQ(s:St)(C:List UInt8)(v:Int)(dt:Nat->Prop):Dk:=if s.a.rs=true/\C.length<=200 then s.d else if Md s C v dt=0 then XY s C dt else zD
noncomputable def jK(s:St)(C:List UInt8)(v:Int)(dt:Nat->Prop):At:=if s.a.rs=true/\C.length<=200 then Hx s.a C else if Md s C v dt=0 then Gv s C v dt else zA
def Ay(ps:List PV)(r:RV):Prop:=∃(s:St) (C:List UInt8) (v:Int) (c:PV) (dt:Nat->Prop),ps=[sP s,yJ C v c]/\(adA s/\C.length<=32768/\aly s c dt)/\
 r=.tup [.pv (lQ s C v dt).pv,.pv (jK s C v dt).pv,.pv (pI (cg s C v dt))]
def ack:MT (ay [(88,ah Fj),(91,c8 false T_)]) tz (c8 false Ay):=by
 rintro _ K ⟨_,⟨s,C,v,c,dt,rfl,⟨h,h2,h3⟩,rfl⟩,hK⟩;have cP:T_ [sP s,yJ C v c] _:=⟨s,C,v,c,dt,rfl,⟨h,h2,h3⟩,rfl⟩
 unfold cg lQ jK at hK;cases c_:s.a.rs with
 |true=>
  by_cases hl:C.length<=200
  ·rw[if_pos ⟨c_,hl⟩,if_pos ⟨c_,hl⟩,if_pos ⟨c_,hl⟩]at hK
   (repeat'((conv=>whnf);first|refine oQ ?_|refine tW c_ ?_|(refine fe ?_;first|refine au ab ?_|refine⟨_,⟨_,_,rfl,rfl⟩,?_⟩|fail)))<;>try(conv=>whnf)
   exact⟨[.pv s.d.pv,.pv (Hx s.a C).pv,.pv (pI _)],⟨rfl,rfl,rfl,trivial⟩,trivial,hK⟩
  ·have hn:¬(s.a.rs=true/\C.length<=200):=λh=>hl h.2
   rw[if_neg hn,if_neg hn,if_neg hn]at hK
   (repeat'((conv=>whnf);first|refine tW c_ ?_|refine⟨_,cP,?_⟩|refine aw ab ?_|refine bT ?_|fail))<;>try(conv=>whnf)
   exact KW
 |false=>
  have hn:¬(s.a.rs=true/\C.length<=200):=λh=>by rw[c_]at h;exact absurd h.1 ao
  rw[if_neg hn,if_neg hn,if_neg hn]at hK
  (repeat'((conv=>whnf);first|refine qT c_ ?_|refine⟨_,cP,?_⟩|refine bT ?_|fail))<;>try(conv=>whnf)
  exact KW
def wU(d:Dk):Prop:=d.a_.length<=200000/\d.mp.length<=1000000
def pR{d:Dk}(h:wU d):fH d:=⟨by have:=h.1;omega,h.2⟩
def atF.st{d:Dk}{a:At}(h:atF d a)(hd:wU d)(hn:a.nm.length<=1000000):adA (ar d a):=
 ⟨hd.1,hd.2,h.nb,h.bm,⟨h.fl.1,by show a.fl<=7;have:=h.fl.2;omega⟩,h.len,h.pl,hn⟩
def bW(C:List UInt8)(p:Nat)(dat:List UInt8):List UInt8:=(mF C (p+dat.length)).take p++dat++(mF C (p+dat.length)).drop (p+dat.length)
noncomputable def yE(d:Dk)(a:At)(p:Int)(dat:List UInt8):Int:=if aK d a≠0 then aK d a else if ¬iU p then 2 else if 32768-p<dat.length then 8 else 0
noncomputable def AO(d:Dk)(a:At)(p:Int)(dat:List UInt8):Int:=
 if yE d a p dat≠0 then yE d a p dat else if dat=[]then 0
 else cg (ar d a) (bW (aV (ar d a)) p.toNat dat) (max (cG a) (p+dat.length)) (b8 (ar d a) p (p+dat.length))
noncomputable def zM(d:Dk)(a:At)(p:Int)(dat:List UInt8):Dk:=
 if yE d a p dat≠0 then zD else if dat=[]then d
 else lQ (ar d a) (bW (aV (ar d a)) p.toNat dat) (max (cG a) (p+dat.length)) (b8 (ar d a) p (p+dat.length))
noncomputable def yV(d:Dk)(a:At)(p:Int)(dat:List UInt8):At:=
 if yE d a p dat≠0 then zA else if dat=[]then{ a with rn:=.sl a.rn.l }
 else jK (ar d a) (bW (aV (ar d a)) p.toNat dat) (max (cG a) (p+dat.length)) (b8 (ar d a) p (p+dat.length))
def ZM{e:Int}{l:List Int}(h:e≠0):bQ (0::e::l)≠0:=by simp[bQ,h]
def z0:¬(0:Int)≠0:=ao
def z2:(2:Int)≠0:=ao
def z8:(8:Int)≠0:=ao
def n0:([]:List UInt8)=[]:=rfl
def xx(C:List UInt8)(p:Nat)(dat:List UInt8):(bW C p dat).length=max C.length (p+dat.length):=by
 have:(mF C (p+dat.length)).length=max C.length (p+dat.length):=by unfold mF;rw[zad,bn];omega
 unfold bW;simp only[zad,zal,zax,this];omega
def fm(ps:List PV)(r:RV):Prop:=∃(d:Dk) (a:At) (p:Int) (dat:List UInt8),ps=[d.pv,a.pv,pI p,.str dat]/\(wU d/\a.nm.length<=1000000/\a.rn.l.length<=1000000/\dat.length<=1000000)/\
 r=.tup [.pv (zM d a p dat).pv,.pv (yV d a p dat).pv,.pv (pI (AO d a p dat))]
set_option maxHeartbeats 1000000 in
def adi:MT (ay [(57,xt),(60,bF wR),(59,ah dG),(58,ah gB),(61,c8 true YI),(63,ah tN),(62,ah Bf),(65,ah WX),(64,c8 false Ay)]) Fi (c8 false fm):=by
 rintro _ K ⟨_,⟨d,a,p,dat,rfl,⟨h1,h2,h3,h4⟩,rfl⟩,hK⟩;refine⟨d,a,rfl,⟨pR h1,h2⟩,λh=>?_,λh v hv=>?_⟩
 ·have sM:=(bc h).1;have mE:=Jh sM;have cP:=J5 sM (pR h1);have fM:=sM.st h1 h2;by_cases Ax:0<=p/\p<=32768
  ·by_cases xp:(dat.length:Int)<=32768-p
   ·have he:yE d a p dat=0:=by unfold yE iU;rw[if_neg (λe=>e h),if_neg (λe=>e Ax),if_neg ab]
    unfold AO zM yV at hK;rw[he,if_neg z0,if_neg z0,if_neg z0]at hK;by_cases cO:dat=[]
    ·subst cO;rw[if_pos n0,if_pos n0,if_pos n0]at hK
     (repeat'((conv=>whnf);first|refine au Ax ?_|refine oQ ?_|refine au (p:=([]:List UInt8)=[]) rfl ?_|refine⟨_,⟨a.rn,rfl,h3,rfl⟩,?_⟩|(refine fe ?_;first|refine bj ab ?_|refine au ab ?_|refine aw ao ?_|refine⟨_,⟨_,rfl,rfl⟩,?_⟩|refine⟨_,⟨_,_,rfl,rfl⟩,?_⟩|refine⟨_,⟨[_,_,_],rfl,rfl⟩,?_⟩|fail)))<;>try(conv=>whnf)
     exact⟨[.pv d.pv,.pv (At.pv { a with rn:=.sl a.rn.l }),.pv (pI _)],⟨rfl,rfl,rfl,trivial⟩,trivial,hK⟩
    ·rw[if_neg cO,if_neg cO,if_neg cO]at hK;have UH:Ay [sP (ar d a),yJ (bW (aV (ar d a)) p.toNat dat) (max (cG a) (p+dat.length)) (.clo 66 [.cptr (sP (ar d a)),.cptr (rV p (p+dat.length))])] _:=
      ⟨ar d a,_,_,_,_,rfl,⟨fM,by rw[xx];omega,.write p (p+dat.length)⟩,rfl⟩
     have avY:aV (ar d a)++ai (p+dat.length-(aV (ar d a)).length).toNat=mF (aV (ar d a)) (p.toNat+dat.length):=by
      unfold mF;congr 2;omega
     unfold bW at hK UH;have ml:(mF (aV (ar d a)) (p.toNat+dat.length)).length<=32768/\p.toNat+dat.length<=(mF (aV (ar d a)) (p.toNat+dat.length)).length:=by
      unfold mF;rw[zad,bn];omega
     generalize aV (ar d a)=C0 at*;generalize mF C0 (p.toNat+dat.length)=Z at*;have Oi:cut 0 p.toNat Z=Z.take p.toNat:=Gm;have Cw:cut (p+dat.length).toNat Z.length Z=Z.drop (p.toNat+dat.length):=by unfold cut;rw[zcN];congr 1;omega
     have pj:(Z.take p.toNat).length<=32768:=eI;have cH:(Z.drop (p.toNat+dat.length)).length<=32768:=ef
     (repeat'((conv=>whnf);first|refine au Ax ?_|refine oQ ?_|refine aw cO ?_|refine⟨_,cP,?_⟩|rw[avY]|rw[Oi]|rw[Cw]|refine zcC (by(simp only[zad];omega)) ?_|refine⟨_,UH,?_⟩|(refine fe ?_;first|refine bj ab ?_|refine au ab ?_|refine aw ao ?_|refine fQ ?_|refine⟨_,⟨_,rfl,rfl⟩,?_⟩|refine⟨_,⟨_,_,rfl,rfl⟩,?_⟩|refine⟨_,⟨_,_,rfl,cZ,rfl⟩,?_⟩|refine wz ?_|refine⟨_,⟨[_,_,_],rfl,rfl⟩,?_⟩|fail)))<;>try(conv=>whnf)
     exact KW
   ·have he:yE d a p dat=8:=by unfold yE iU;rw[if_neg (λe=>e h),if_neg (λe=>e Ax),if_pos ab]
    unfold AO zM yV at hK;rw[he,if_pos z8,if_pos z8,if_pos z8]at hK
    (repeat'((conv=>whnf);first|refine au Ax ?_|(refine fe ?_;first|refine bj ab ?_|refine aw ab ?_|refine au ao ?_|refine bT ?_|refine⟨_,⟨_,rfl,rfl⟩,?_⟩|refine⟨_,⟨_,_,rfl,rfl⟩,?_⟩|refine⟨_,⟨[_,_,_],rfl,rfl⟩,?_⟩|fail)))<;>try(conv=>whnf)
    exact iN
  ·have he:yE d a p dat=2:=by unfold yE iU;rw[if_neg (λe=>e h),if_pos Ax]
   unfold AO zM yV at hK;rw[he,if_pos z2,if_pos z2,if_pos z2]at hK
   (repeat'((conv=>whnf);first|refine aw Ax ?_|refine au (ZM ao) ?_|refine λx _=>?_|(refine fe ?_;first|refine bT ?_|refine⟨_,⟨_,rfl,rfl⟩,?_⟩|refine⟨_,⟨_,_,rfl,rfl⟩,?_⟩|refine⟨_,⟨[_,_,_],rfl,rfl⟩,?_⟩|fail)))<;>try(conv=>whnf)
   exact iN
 ·have he:yE d a p dat=aK d a:=by unfold yE;rw[if_pos h]
  unfold AO zM yV at hK;rw[he,if_pos h,if_pos h,if_pos h]at hK;clear he;rcases hv with rfl|rfl
  ·(repeat'((conv=>whnf);first|refine au K1 ?_|refine λx _=>?_|(refine fe ?_;first|refine bT ?_|refine⟨_,⟨_,rfl,rfl⟩,?_⟩|refine⟨_,⟨_,_,rfl,rfl⟩,?_⟩|refine⟨_,⟨[_,_,_],rfl,rfl⟩,?_⟩|fail)))<;>try(conv=>whnf)
   rw[q9 h];exact iN
  ·(repeat'((conv=>whnf);first|refine au K1 ?_|refine λx _=>?_|(refine fe ?_;first|refine bT ?_|refine⟨_,⟨_,rfl,rfl⟩,?_⟩|refine⟨_,⟨_,_,rfl,rfl⟩,?_⟩|refine⟨_,⟨[_,_,_],rfl,rfl⟩,?_⟩|fail)))<;>try(conv=>whnf)
   rw[q9 h];exact iN
def M9(C:List UInt8)(n:Nat):List UInt8:=(mF C n).take n
def Ag(C:List UInt8)(n:Nat):(M9 C n).length=n:=by
 unfold M9 mF;rw[zal,zad,bn];omega
noncomputable def D8(d:Dk)(a:At)(n:Int):Int:=if aK d a≠0 then aK d a else if ¬iU n then 2 else 0
noncomputable def Jb(d:Dk)(a:At)(n:Int):Int:=if D8 d a n≠0 then D8 d a n else cg (ar d a) (M9 (aV (ar d a)) n.toNat) (min (cG a) n) (Yk (ar d a))
noncomputable def Jf(d:Dk)(a:At)(n:Int):Dk:=if D8 d a n≠0 then zD else lQ (ar d a) (M9 (aV (ar d a)) n.toNat) (min (cG a) n) (Yk (ar d a))
noncomputable def LA(d:Dk)(a:At)(n:Int):At:=if D8 d a n≠0 then zA else jK (ar d a) (M9 (aV (ar d a)) n.toNat) (min (cG a) n) (Yk (ar d a))
def ko(ps:List PV)(r:RV):Prop:=∃(d:Dk) (a:At) (n:Int),ps=[d.pv,a.pv,pI n]/\(wU d/\a.nm.length<=1000000)/\
 r=.tup [.pv (Jf d a n).pv,.pv (LA d a n).pv,.pv (pI (Jb d a n))]
set_option maxHeartbeats 1000000 in
def V6:MT (ay [(57,xt),(60,bF wR),(59,ah dG),(58,ah gB),(63,ah tN),(62,ah Bf),(65,ah WX),(64,c8 false Ay)]) Gb (c8 false ko):=by
 rintro _ K ⟨_,⟨d,a,n,rfl,⟨h1,h2⟩,rfl⟩,hK⟩;refine⟨d,a,rfl,⟨pR h1,h2⟩,λh=>?_,λh v hv=>?_⟩
 ·have sM:=(bc h).1;have mE:=Jh sM;have cP:=J5 sM (pR h1);have fM:=sM.st h1 h2;by_cases Ax:0<=n/\n<=32768
  ·have he:D8 d a n=0:=by unfold D8 iU;rw[if_neg (λe=>e h),if_neg (λe=>e Ax)]
   unfold Jb Jf LA at hK;rw[he,if_neg z0,if_neg z0,if_neg z0]at hK;have UH:Ay [sP (ar d a),yJ (M9 (aV (ar d a)) n.toNat) (min (cG a) n) (.clo 84 [.cptr (sP (ar d a))])] _:=
    ⟨ar d a,_,_,_,_,rfl,⟨fM,by rw[Ag];omega,.size⟩,rfl⟩
   have avY:aV (ar d a)++ai (n-(aV (ar d a)).length).toNat=mF (aV (ar d a)) n.toNat:=by
    unfold mF;congr 2;omega
   unfold M9 at hK UH;have ml:(mF (aV (ar d a)) n.toNat).length<=32768/\n.toNat<=(mF (aV (ar d a)) n.toNat).length:=by
    unfold mF;rw[zad,bn];omega
   generalize aV (ar d a)=C0 at*;generalize mF C0 n.toNat=Z at*;have Oi:cut 0 n.toNat Z=Z.take n.toNat:=Gm
   (repeat'((conv=>whnf);first|refine au Ax ?_|refine oQ ?_|refine⟨_,cP,?_⟩|rw[avY]|rw[Oi]|refine⟨_,UH,?_⟩|(refine fe ?_;first|refine aw ao ?_|refine I8 ?_|refine⟨_,⟨_,rfl,rfl⟩,?_⟩|refine⟨_,⟨_,_,rfl,rfl⟩,?_⟩|refine⟨_,⟨_,_,rfl,cZ,rfl⟩,?_⟩|refine wz ?_|refine⟨_,⟨[_,_],rfl,rfl⟩,?_⟩|fail)))<;>try(conv=>whnf)
   exact KW
  ·have he:D8 d a n=2:=by unfold D8 iU;rw[if_neg (λe=>e h),if_pos Ax]
   unfold Jb Jf LA at hK;rw[he,if_pos z2,if_pos z2,if_pos z2]at hK
   (repeat'((conv=>whnf);first|refine aw Ax ?_|(refine fe ?_;first|refine au ao ?_|refine bT ?_|refine⟨_,⟨_,rfl,rfl⟩,?_⟩|refine⟨_,⟨_,_,rfl,rfl⟩,?_⟩|refine⟨_,⟨[_,_],rfl,rfl⟩,?_⟩|fail)))<;>try(conv=>whnf)
   exact iN
 ·have he:D8 d a n=aK d a:=by unfold D8;rw[if_pos h]
  unfold Jb Jf LA at hK;rw[he,if_pos h,if_pos h,if_pos h]at hK;clear he;rcases hv with rfl|rfl
  all_goals
   (repeat'((conv=>whnf);first|refine au K1 ?_|refine λx _=>?_|(refine fe ?_;first|refine bT ?_|refine⟨_,⟨_,rfl,rfl⟩,?_⟩|refine⟨_,⟨_,_,rfl,rfl⟩,?_⟩|refine⟨_,⟨[_,_],rfl,rfl⟩,?_⟩|fail)))<;>try(conv=>whnf)
   rw[q9 h];exact iN
def Jc(pl:List Int)(i:Nat):Bool:=decide (pl[i]?.getD (-1)≠ -1)
def r8{s:Rs}(h:dU s.l=0):dL [qF s] (.pv (rI (az s.l))):=by
 have gr:=bZ h;exact⟨s,rfl,⟨ab,λr hr=>abM⟩,rfl⟩
def ED{l:List Rn}(h:dU l=0):(az l).length<=4096∧∀x∈az l,-1<=x/\x<=511:=by
 have g:=bZ h;have h1:=xA (l:=l) λr hr=>by have:=rG (g.2.2.2 r hr);omega
 exact⟨ab,arU g.2.2.2⟩
def LX{α β:Type}(f:α->β)(l:List α){a n:Nat}:cut a (a+n) (l.map f)=((l.drop a).take n).map f:=by
 unfold cut;rw[zdw,show a+n-a=n by omega,List.map_take,zdE]
def AH{ls:List (List Rn)}{k:Nat}{l:List Rn}(h:ls[k]?=some l):(ls.take (k+1)).flatten=(ls.take k).flatten++l:=by
 rw[zcF,h];simp
def aak:∀{l:List Int},bt l=l.length→∀x∈l,x≠ -1
 |[],_=>λ_ h=>by cases h
 |a::l,h=>by
  have hl:=oG l;unfold bt at h hl;rw[List.filter_cons]at h;split at h
  ·rename_i ha;intro x hx;rcases zaw.1 hx with rfl|hx
   ·simpa using ha
   ·exact aak (by unfold bt;simpa using h) x hx
  ·rw[zam]at h;omega
def aen(a b:List Int):bt (a++b)=bt a+bt b:=by unfold bt;rw[zbT,zad]
def ax1{r:Rn}(h:jZ r):(bt (iV r):Int)=if r.s= -1 then 0 else r.n:=by
 have hb:=rG h;unfold iV bt;rw[List.filter_map,zav];by_cases hs:r.s= -1
 ·rw[if_pos hs,zdz.2]
  ·simp
  ·intro i _;simp[hs]
 ·rw[if_neg hs,zbR.2]
  ·rw[zcP];omega
  ·intro i _;have:¬(r.s+(i:Int)= -1):=ab;simp[hs,this]
def Xz(ps:List PV)(x:PV):Prop:=∃s:Rs,ps=[qF s]/\(s.l.length<=1000∧∀r∈s.l,jZ r)/\x=pI (bt (az s.l))
def aj9:MT (ay []) Dn (ah Xz):=by
 rintro _ K ⟨_,⟨s,rfl,⟨h1,h2⟩,rfl⟩,hK⟩;refine⟨λm env σ=>∃n:Nat,n+m=s.l.length/\σ=[]/\env=[(0,.pv (qF s)),eN 3 (bt (az (s.l.take n))),eN 4 n],s.l.length,⟨0,ab,rfl,rfl⟩,?_⟩;rintro m env σ ⟨n,hn,rfl,rfl⟩;have hb:(az (s.l.take n)).length<=4096*(s.l.take n).length:=La λr hr=>by have:=rG (h2 r (zaL hr));exact⟨ab,ab⟩
 have hu:=oG (az (s.l.take n));rw[zal]at hb;by_cases aU:n<s.l.length
 ·obtain⟨a,ha⟩:∃a,s.l[n]?=some a:=⟨_,zah aU⟩
  have hp:=h2 a (zag ha);have hpb:=rG hp;have hT:(bt (az (s.l.take (n+1))):Int)=bt (az (s.l.take n))+if a.s= -1 then 0 else a.n:=by
   rw[zcF,ha,<-ax1 hp];simp[az,aen]
  clear hK;generalize bt (az (s.l.take n))=U at*
  (repeat'((conv=>whnf);first|refine KP ?_|refine Ek ha ?_|refine bj ab ?_|refine au ab ?_|refine de (λ_=>?_) (λ_=>?_)|refine ez λ_=>?_|fail))<;>try(conv=>whnf)
  ·rename_i hh;rw[if_neg hh]at hT;exact Bq
  ·rename_i hh;have hh:=zcD.1 hh;rw[if_pos hh]at hT;exact⟨m-1,ab,n+1,ab,rfl,by rw[hT,Int.add_zero];rfl⟩
 ·(repeat'((conv=>whnf);first|refine KP ?_|refine aw ab ?_|refine ez λ_=>?_|fail))<;>try(conv=>whnf)
  rw[za1 ab];exact aG
def Mp(ps:List PV)(p:Prop):Prop:=∃s:List UInt8,ps=[.str s]/\s.length<=1000000/\p=(s=ai s.length)
def Zt:MT (ay []) AZ (bF Mp):=by
 rintro args K ⟨_,⟨s,h1,h2,rfl⟩,hK⟩;exact N0 args K ⟨_,⟨s,h1,h2,rfl⟩,hK _ aj⟩
def Oq{l:List Int}:bt l=0↔∀x∈l,x= -1:=by
 unfold bt;rw[List.length_eq_zero_iff,zdz];exact⟨λh x hx=>by simpa using h x hx,λh x hx=>by simpa using h x hx⟩
def TQ{B:List UInt8}{l:List Int}(h:MH B l):dF B l=[]↔bt l=0:=by
 rw[Oq];unfold dF;rw[List.flatMap_eq_nil_iff];refine⟨λhh x hx=>?_,λhh x hx=>?_⟩
 ·have:=hh x hx;unfold tS at this;rcases h x hx with h1|h1
  ·exact h1
  ·rw[if_neg ab]at this;have h2:=gI (B:=B) (n:=x.toNat) ab;rw[this]at h2;cases h2
 ·unfold tS;rw[if_pos (hh x hx)]
def amg:b9 []=(ai 4096,0):=by
 unfold b9;rw[if_neg aj,if_pos aj]
def apI{B:List UInt8}{vd:Int}{i:Nat}{c:List Int}(h:MH B c):
 xC B vd i c=if dF B c=[]then 0 else if (b9 (dF B c)).2≠0 then(b9 (dF B c)).2
  else if (b9 (dF B c)).1=ai (b9 (dF B c)).1.length∨¬(b9 (dF B c)).1.drop (mZ vd i)=ai ((b9 (dF B c)).1.drop (mZ vd i)).length then 19 else 0:=by
 have IF:mZ vd i<=4096:=by unfold mZ;omega
 unfold xC;by_cases hs:dF B c=[]
 ·have hu:=(TQ h).1 hs;rw[if_pos hs,hs,amg];simp only[ne_eq,not_true_eq_false,if_false,hu,zdH,false_and,false_or];rw[if_neg];intro e;apply e;unfold ai;rw[List.drop_replicate]
 ·have hu:0<bt c:=by
   rcases Nat.eq_zero_or_pos (bt c)with h1|h1
   ·exact absurd ((TQ h).2 h1) hs
   ·exact h1
  rw[if_neg hs];by_cases he:(b9 (dF B c)).2≠0
  ·rw[if_pos he,if_pos he]
  ·rw[if_neg he,if_neg he];have hl:=HC (zcD.1 he);rw[zax,hl];simp[hu]
def Dc(ps:List PV)(x:PV):Prop:=∃(d:Dk) (a:At) (i:Nat),ps=[d.pv,a.pv,pI i]/\(fH d/\dU a.rn.l=0/\MH d.a_ (az a.rn.l)/\16*i+16<=(az a.rn.l).length/\(0<=a.vd/\a.vd<=2000000))/\x=pI (xC d.a_ a.vd i (bq (az a.rn.l) i))
def Wf:MT (ay [(71,c8 false dL),(81,ah wX),(80,By),(31,bF Mp)]) Ib (ah Dc):=by
 rintro _ K ⟨_,⟨d,a,i,rfl,⟨h1,h2,h3,h4,h5⟩,rfl⟩,hK⟩;have PF:=r8 h2;have IH:=(ED h2).1;have AQ:MH d.a_ (bq (az a.rn.l) i):=λx hx=>h3 x ahM
 have mE:(bq (az a.rn.l) i).length=16:=by rw[yb];omega
 have HR:cut ((i:Int)*16).toNat (((i:Int)+1)*16).toNat ((az a.rn.l).map pI)=(bq (az a.rn.l) i).map pI:=by
  rw[show((i:Int)*16).toNat=16*i by omega,show(((i:Int)+1)*16).toNat=16*i+16 by omega,LX];rfl
 have XJ:((az a.rn.l).map pI).length=(az a.rn.l).length:=zav _;rw[apI AQ]at hK;have qH:=AJ d.a_ (bq (az a.rn.l) i);have IF:(max 0 (min 4096 (a.vd-(i:Int)*4096))).toNat=mZ a.vd i:=by unfold mZ;omega
 have aPX:mZ a.vd i<=4096:=by unfold mZ;omega
 generalize An:bq (az a.rn.l) i=c at*;generalize hss:dF d.a_ c=S at*;have xf:=L2 S;have aDP:=HC (s:=S);generalize hUU:b9 S=U at*;have fM:wX [d.pv,rI c] (.str S):=⟨d,c,rfl,⟨h1.1,ab,AQ⟩,by rw[hss]⟩
 obtain⟨own,e⟩:=U;simp only at hK xf aDP;by_cases hS:S=[]
 ·rw[if_pos hS]at hK
  (repeat'((conv=>whnf);first|refine⟨_,PF,?_⟩|refine zcC xI ?_|rw[HR]|refine⟨_,fM,?_⟩|refine au (p:=S=[]) hS ?_|refine bj ab ?_|refine wz ?_|fail))<;>try(conv=>whnf)
  exact aG
 rw[if_neg hS]at hK;by_cases he:e≠0
 ·rw[if_pos he]at hK
  (repeat'((conv=>whnf);first|refine⟨_,PF,?_⟩|refine zcC xI ?_|rw[HR]|refine⟨_,fM,?_⟩|refine aw (p:=S=[]) hS ?_|rw[hUU]|refine au he ?_|(refine fe ?_;first|refine bj ab ?_|refine⟨_,rfl,cZ,?_⟩|refine wz ?_|fail)))<;>try(conv=>whnf)
  exact aG
 rw[if_neg he]at hK;have aDP:=aDP (zcD.1 he);rw[<-IF]at hK;have WQ:cut (max 0 (min 4096 (a.vd-(i:Int)*4096))).toNat own.length own=own.drop (max 0 (min 4096 (a.vd-(i:Int)*4096))).toNat:=SZ _ _;have Aj:(own.drop (max 0 (min 4096 (a.vd-(i:Int)*4096))).toNat).length<=4096:=ef;by_cases hz:own=ai own.length
 ·rw[if_pos (.inl hz)]at hK
  (repeat'((conv=>whnf);first|refine⟨_,PF,?_⟩|refine zcC xI ?_|rw[HR]|refine⟨_,fM,?_⟩|refine aw (p:=S=[]) hS ?_|rw[hUU]|refine aw he ?_|refine⟨_,⟨own,rfl,ab,rfl⟩,?_⟩|refine au hz ?_|(refine fe ?_;first|refine bj ab ?_|refine fQ ?_|refine I8 ?_|refine⟨_,rfl,cZ,?_⟩|refine wz ?_|fail)))<;>try(conv=>whnf)
  exact aG
 by_cases eJ:own.drop (max 0 (min 4096 (a.vd-(i:Int)*4096))).toNat=ai (own.drop (max 0 (min 4096 (a.vd-(i:Int)*4096))).toNat).length
 ·rw[if_neg (λh=>h.elim hz (λh=>h eJ))]at hK
  (repeat'((conv=>whnf);first|refine⟨_,PF,?_⟩|refine zcC xI ?_|rw[HR]|refine⟨_,fM,?_⟩|refine aw (p:=S=[]) hS ?_|rw[hUU]|refine aw he ?_|refine⟨_,⟨own,rfl,ab,rfl⟩,?_⟩|refine aw hz ?_|rw[WQ]|refine⟨_,⟨own.drop (max 0 (min 4096 (a.vd-(i:Int)*4096))).toNat,rfl,ab,rfl⟩,?_⟩|refine au eJ ?_|(refine fe ?_;first|refine bj ab ?_|refine aN ?_|refine fQ ?_|refine I8 ?_|refine⟨_,rfl,cZ,?_⟩|refine wz ?_|refine zcC cu ?_|fail)))<;>try(conv=>whnf)
  exact aG
 ·rw[if_pos (.inr eJ)]at hK
  (repeat'((conv=>whnf);first|refine⟨_,PF,?_⟩|refine zcC xI ?_|rw[HR]|refine⟨_,fM,?_⟩|refine aw (p:=S=[]) hS ?_|rw[hUU]|refine aw he ?_|refine⟨_,⟨own,rfl,ab,rfl⟩,?_⟩|refine aw hz ?_|rw[WQ]|refine⟨_,⟨own.drop (max 0 (min 4096 (a.vd-(i:Int)*4096))).toNat,rfl,ab,rfl⟩,?_⟩|refine aw eJ ?_|(refine fe ?_;first|refine bj ab ?_|refine bP ?_|refine fQ ?_|refine I8 ?_|refine⟨_,rfl,cZ,?_⟩|refine wz ?_|refine zcC cu ?_|fail)))<;>try(conv=>whnf)
  exact aG
def Y4(c:List Int):mh c↔∀i,i+1<c.length->c[i]?=some (-1)->c[i+1]?=some (-1):=by
 unfold mh;rcases Az (p:=λy=>y=(-1:Int)) c with⟨h1,h2⟩|⟨k,x,h1,h2,h3,h4⟩
 ·rw[h1];refine⟨λ_ i _ hi=>absurd rfl (h2 _ (zag hi)),λ_=>.inl ao⟩
 ·rw[h1,Oq];simp only[zaC];have hk:=eT h2;constructor
  ·rintro(h|h)
   ·omega
   ·intro i hi ud;have hik:k<=i:=by
     by_cases aU:i<k
     ·exact absurd rfl (h4 i aU _ ud)
     ·omega
    have hx:c[i+1]?=some c[i+1]:=zah hi;rw[hx];congr 1;refine h _ (zag (i:=i+1-k) ?_);rw[zaB,show k+(i+1-k)=i+1 by omega];exact hx
  ·intro h;have all:∀n,k+n<c.length->c[k+n]?=some (-1):=by
    intro n
    induction n with
    |zero=>intro _;rw[zaM,h2,h3]
    |succ n ih=>intro hn;exact h (k+n) ab (ih ab)
   refine .inr λy hy=>?_
   obtain⟨n,hn⟩:=jk.1 hy;rw[zaB]at hn;have:=all n (eT hn);rw[hn]at this;exact Option.some.inj this
def JE{α:Type}(l:List α){k i:Nat}(hi:i<16):(bq l k)[i]?=l[16*k+i]?:=by
 unfold bq;rw[zcY hi,zaB]
def p_{α:Type}(l:List α){k:Nat}(hk:k<eE l.length):(chunks l)[k]?=some (bq l k):=by
 unfold chunks;rw[za9,zbA hk];rfl
def ah7{pl:List Int}(h16:pl.length%16=0):(∀c∈chunks pl,mh c)↔∀i,1<=i->i<pl.length->i%16≠0->pl[i-1]?=some (-1)->pl[i]?=some (-1):=by
 constructor
 ·intro h i hi iX hm hp;have hk:i/16<eE pl.length:=FO;have hc:=(Y4 _).1 (h _ (zag (p_ pl hk))) (i%16-1) (by rw[yb];omega)
   (by rw[JE _ ab,show 16*(i/16)+(i%16-1)=i-1 by omega];exact hp)
  rw[JE _ ab,show 16*(i/16)+(i%16-1+1)=i by omega]at hc;exact hc
 ·intro h c hc;obtain⟨k,hk⟩:=jk.1 hc;have Eo:k<eE pl.length:=by have:=eT hk;simpa[chunks]using this
  rw[p_ pl Eo]at hk;have hk:=Option.some.inj hk;subst hk;rw[Y4];intro i hi hp;rw[yb]at hi;rw[JE _ ab]at hp ⊢;exact h (16*k+(i+1)) ab ab ab (by rw[show 16*k+(i+1)-1=16*k+i by omega];exact hp)
def ZQ(a:At)(pl:List Int):Prop:=a.al=256*(bt pl:Int)/\(pl.length:Int)=aqF a a.sz∧¬(a.fl=0/\bt pl≠pl.length)
def apP{a:At}{pl:List Int}(hf:0<=a.fl/\a.fl<=2):lJ a pl↔ZQ a pl/\(a.fl%2=1→∀i,1<=i->i<pl.length->i%16≠0->pl[i-1]?=some (-1)->pl[i]?=some (-1)):=by
 unfold lJ ZQ aqF;by_cases hc:a.fl%2=1
 ·rw[if_pos hc,if_pos hc];constructor
  ·rintro⟨h1,h2,h3⟩;exact⟨⟨ab,ab,ab⟩,λ_=>(ah7 ab).1 h3⟩
  ·rintro⟨⟨h1,h2,h3⟩,h4⟩;exact⟨ab,ab,(ah7 ab).2 (h4 hc)⟩
 ·rw[if_neg hc,if_neg hc];constructor
  ·rintro⟨h1,h2,h3⟩;exact⟨⟨ab,h2,ab⟩,λh=>absurd h hc⟩
  ·rintro⟨⟨h1,h2,h3⟩,_⟩;exact⟨ab,h2,ab⟩
def aa7{l:List Int}{P:Int->Prop}{n:Nat}{x:Int}(h0:∀j,j<n→∀y,l[j]?=some y→¬P y)(hx:l[n]?=some x)(cb:¬P x):∀j,j<n+1→∀y,l[j]?=some y→¬P y:=by
 intro j hj y hy;rcases zcG (zcI hj)with h1|h1
 ·exact h0 j h1 y hy
 ·subst h1;rw[hx]at hy;cases hy;exact cb
set_option maxHeartbeats 4000000 in
def aj2:MT (ay [(48,ah dm),(47,ah nC),(26,bF uJ),(71,c8 false dL),(32,ah bA),(72,ah qM),(73,ah Xz),(74,ah GJ),(75,ah Dc)]) Vg (ah aW):=by
 rintro _ K ⟨_,⟨d,a,rfl,⟨h1,h2⟩,rfl⟩,hK⟩;have hd:dm [d.pv] (pI (gm d)):=⟨d,rfl,⟨h1.1,h1.2⟩,rfl⟩
 have ha:nC [a.pv] (pI (gu a)):=⟨a,rfl,h2,rfl⟩
 by_cases cO:gm d=0
 case neg=>
  have he:aK d a=gm d:=by unfold aK;rw[if_pos cO]
  rw[he]at hK
  (repeat'((conv=>whnf);first|refine⟨_,hd,?_⟩|refine au cO ?_|fail))<;>try(conv=>whnf)
  exact aG
 by_cases pA:gu a=0
 case neg=>
  have he:aK d a=gu a:=by
   have:oT a=gu a:=by unfold oT;rw[if_pos pA]
   unfold aK;rw[if_neg (λe=>e cO),if_pos (by rw[this];exact pA),this]
  rw[he]at hK
  (repeat'((conv=>whnf);first|refine⟨_,hd,?_⟩|refine aw (λe=>e cO) ?_|refine⟨_,ha,?_⟩|refine au pA ?_|fail))<;>try(conv=>whnf)
  exact aG
 have SL:=afv pA;have di:=Ms pA;by_cases hs:oT a=0
 case neg=>
  have he:aK d a=oT a:=by unfold aK;rw[if_neg (λe=>e cO),if_pos hs]
  rw[he]at hK;unfold oT at hK hs;rw[if_neg (λe=>e pA)]at hK hs;generalize gu a=AE at*;generalize gm d=DE at*
  (repeat'((conv=>whnf);first|refine⟨_,hd,?_⟩|refine aw (λe=>e cO) ?_|refine⟨_,ha,?_⟩|refine aw (λe=>e pA) ?_|refine⟨_,⟨a,4,rfl,⟨ab,.inr (.inr rfl)⟩,rfl⟩,?_⟩|refine au ab ?_|refine de (λ_=>?_) (λ_=>?_)|fail))<;>try(conv=>whnf)
  all_goals
   refine⟨.pv (pI _),bu ?_,trivial,hK⟩;clear ha hd he hK pA cO;first
    |omega
    |(split<;>first|omega|(split<;>first|omega|(split<;>omega)))
 obtain⟨_,g2,g3,g4,g5⟩:=lE hs;have hO:aK d a=if a.rs=true then 0 else if pG d (az a.rn.l)≠0 then pG d (az a.rn.l)else if iW a (az a.rn.l)≠0 then iW a (az a.rn.l)
  else if a.fl%2=1 then qw d.a_ a.vd (chunks (az a.rn.l))else 0:=by unfold aK;rw[if_neg (λe=>e cO),if_neg (λe=>e hs)]
 obtain⟨q1,q2,q3⟩:=rX cO;have gr:=bZ (tH hs);have lF:=tH hs;have PF:=r8 (tH hs);obtain⟨gl,gb⟩:=ED (tH hs);have Nt:bA [d.pv] (pI d.n):=⟨d,rfl,h1.1,rfl⟩
 rw[cO]at hd;rw[pA]at ha;clear cO pA hs;cases c_:a.rs with
 |true=>
  rw[if_pos c_]at hO;rw[hO]at hK
  (repeat'((conv=>whnf);first|refine⟨_,hd,?_⟩|refine aw (λe=>e rfl) ?_|refine⟨_,ha,?_⟩|refine⟨_,⟨a,4,rfl,⟨ab,.inr (.inr rfl)⟩,rfl⟩,?_⟩|refine tW c_ ?_|refine aw ab ?_|fail))<;>try(conv=>whnf)
  exact aG
 |false=>
  rw[if_neg qD]at hO;have hot:=di.ot c_;have LV:=hot.2.2.2.2.2.1;have hvd:=hot.2.2.2.2.2.2;unfold pL at LV;rw[hO]at hK;clear hO
  (repeat'((conv=>whnf);first|refine⟨_,hd,?_⟩|refine aw (λe=>e rfl) ?_|refine⟨_,ha,?_⟩|refine⟨_,⟨a,4,rfl,⟨ab,.inr (.inr rfl)⟩,rfl⟩,?_⟩|refine qT c_ ?_|refine⟨_,PF,?_⟩|refine aw ab ?_|fail))<;>try(conv=>whnf)
  have hSt:∀S T:aF,S=T->S=T:=λ_ _ h=>h
  obtain⟨N,hN⟩:∃N,N=d.n:=⟨_,rfl⟩
  rw[<-hN]at Nt q2 q3;have rH:pG d (az a.rn.l)=if ∃x∈az a.rn.l,(N:Int)<=x then 2 else if ∃x∈az a.rn.l,x≠ -1/\bH d.mp x.toNat=0 then 14 else 0:=by rw[hN];rfl
  obtain⟨_,_,q6,_,_⟩:=iR q3;have hAl:Xz [qF a.rn] (pI (bt (az a.rn.l))):=⟨a.rn,rfl,⟨ab,gr.2.2.2⟩,rfl⟩
  have XJ:((az a.rn.l).map pI).length=(az a.rn.l).length:=zav _;refine⟨λm env σ=>∃n:Nat,n+m=(az a.rn.l).length/\(∀j,j<n→∀y,(az a.rn.l)[j]?=some y→¬(N:Int)<=y)/\
   σ=[.box 23 [.pv (.str d.a_),.pv (.str d.mp)],.box 26 [.pv (pI a.ty),.pv (.str a.nm),.pv (pI a.id),.pv (pI a.fl),.pv (pB a.rs),.pv (.str a.vl),.pv (pI a.ft),.pv (qF a.rn),.pv (pI a.al),.pv (pI a.sz),.pv (pI a.vd)]]/\
   env=[(2,.ref 0 0 0),(3,.ref 1 0 0),(7,.pv (rI (az a.rn.l))),eN 8 n],(az a.rn.l).length,⟨0,ab,λj hj=>ab,rfl,rfl⟩,?_⟩
  rintro m env σ ⟨n,hn,tT,rfl,rfl⟩;by_cases aU:n<(az a.rn.l).length
  ·obtain⟨x,hx⟩:∃x,(az a.rn.l)[n]?=some x:=⟨_,zah aU⟩
   have hxm:=zag hx;by_cases LU:(N:Int)<=x
   ·have rF:pG d (az a.rn.l)=2:=by rw[rH,if_pos ⟨x,hxm,LU⟩]
    rw[rF,if_pos z2]at hK
    (repeat'((conv=>whnf);first|refine oQ ?_|refine⟨_,Nt,?_⟩|refine au ab ?_|refine ez λ_=>?_|refine iY aA ?_|fail))<;>try(conv=>whnf)
    exact aG
   ·clear hK
    (repeat'((conv=>whnf);first|refine oQ ?_|refine⟨_,Nt,?_⟩|refine bj ab ?_|refine au ab ?_|refine aw ab ?_|refine ez λ_=>?_|refine iY aA ?_|fail))<;>try(conv=>whnf)
    exact⟨m-1,ab,n+1,ab,aa7 tT hx LU,rfl,rfl⟩
  have kr:¬ ∃x∈az a.rn.l,(N:Int)<=x:=by
   rintro⟨x,hx,hle⟩;obtain⟨k,hk⟩:=jk.1 hx;exact tT k vg x hk hle
  rw[if_neg kr]at rH
  (repeat'((conv=>whnf);first|refine aw ab ?_|refine ez λ_=>?_|fail))<;>try(conv=>whnf)
  refine⟨λm env σ=>∃n:Nat,n+m=(az a.rn.l).length/\(∀j,j<n→∀y,(az a.rn.l)[j]?=some y→¬(y≠ -1/\bH d.mp y.toNat=0))/\
   σ=[.box 23 [.pv (.str d.a_),.pv (.str d.mp)],.box 26 [.pv (pI a.ty),.pv (.str a.nm),.pv (pI a.id),.pv (pI a.fl),.pv (pB a.rs),.pv (.str a.vl),.pv (pI a.ft),.pv (qF a.rn),.pv (pI a.al),.pv (pI a.sz),.pv (pI a.vd)]]/\
   env=[(2,.ref 0 0 0),(3,.ref 1 0 0),(7,.pv (rI (az a.rn.l))),eN 9 n],(az a.rn.l).length,⟨0,ab,λj hj=>ab,rfl,rfl⟩,?_⟩
  rintro m env σ ⟨n,hn,tT,rfl,rfl⟩;by_cases aU:n<(az a.rn.l).length
  ·obtain⟨x,hx⟩:∃x,(az a.rn.l)[n]?=some x:=⟨_,zah aU⟩
   have hxm:=zag hx;have hxb:=gb x hxm;have hxN:¬(N:Int)<=x:=λh=>kr ⟨x,hxm,h⟩
   by_cases h0:x= -1
   ·clear hK
    (repeat'((conv=>whnf);first|refine oQ ?_|refine aw (λe=>e h0) ?_|refine bj ab ?_|refine au ab ?_|refine ez λ_=>?_|refine iY aA ?_|fail))<;>try(conv=>whnf)
    exact⟨m-1,ab,n+1,ab,aa7 tT hx (λe=>e.1 h0),rfl,rfl⟩
   ·obtain⟨k,rfl⟩:∃k:Nat,x=k:=⟨x.toNat,ab⟩
    have pD:qM [.str d.mp,pI (k:Nat)] (pI (bH d.mp k)):=⟨d.mp,k,rfl,⟨ab,h1.2⟩,rfl⟩
    by_cases hb:bH d.mp k=0
    ·have rF:pG d (az a.rn.l)=14:=by rw[rH,if_pos ⟨_,hxm,h0,by simpa using hb⟩]
     rw[rF,if_pos ao]at hK
     (repeat'((conv=>whnf);first|refine oQ ?_|refine au h0 ?_|refine⟨_,pD,?_⟩|refine au ab ?_|refine ez λ_=>?_|refine iY aA ?_|fail))<;>try(conv=>whnf)
     exact aG
    ·clear hK
     (repeat'((conv=>whnf);first|refine oQ ?_|refine au h0 ?_|refine⟨_,pD,?_⟩|refine bj ab ?_|refine au ab ?_|refine aw ab ?_|refine ez λ_=>?_|refine iY aA ?_|fail))<;>try(conv=>whnf)
     exact⟨m-1,ab,n+1,ab,aa7 tT hx (λe=>hb (by simpa using e.2)),rfl,rfl⟩
  have hnz:¬ ∃x∈az a.rn.l,x≠ -1/\bH d.mp x.toNat=0:=by
   rintro⟨x,hx,hle⟩;obtain⟨k,hk⟩:=jk.1 hx;exact tT k vg x hk hle
  rw[if_neg hnz]at rH;rw[rH,if_neg z0]at hK;have ayI:GJ [a.pv,pI a.sz] (pI (aqF a a.sz)):=⟨a,a.sz,rfl,⟨ab,ab⟩,rfl⟩
  have QL:=apP (a:=a) (pl:=az a.rn.l) g3;have Vr:=oG (az a.rn.l);have am1:uJ [a.pv,pI 1] (a.fl/1%2=1):=⟨a,1,rfl,⟨SL,.inl rfl⟩,rfl⟩
  by_cases yB:ZQ a (az a.rn.l)
  ·have arb:=yB;unfold ZQ at yB;by_cases hc:a.fl%2=1
   ·have aNj:(az a.rn.l).length%16=0:=by unfold aqF at yB;rw[if_pos hc]at yB;omega
    (repeat'((conv=>whnf);first|refine oQ ?_|refine⟨_,hAl,?_⟩|refine⟨_,ayI,?_⟩|refine⟨_,am1,?_⟩|refine bj ab ?_|refine aN ?_|refine au ab ?_|refine aw ab ?_|refine ez λ_=>?_|fail))<;>try(conv=>whnf)
    have avT:=abC (λx hx=>(gb x hx).1) rH;have am2:iW a (az a.rn.l)=0\/iW a (az a.rn.l)=3:=by unfold iW;split;exact .inl rfl;exact .inr rfl
    have hU:qw d.a_ a.vd (chunks (az a.rn.l))=TE (λi=>xC d.a_ a.vd i (bq (az a.rn.l) i)) ((az a.rn.l).length/16):=by
     unfold qw;rw[om,show((az a.rn.l).length+15)/16=(az a.rn.l).length/16 by omega];unfold TE;congr 1;refine List.map_congr_left λi hi=>?_
     have hi:=zbm.1 hi;rw[p_ (az a.rn.l) FO];rfl
    have aPZ:=gl;rw[hU]at hK;clear hU rH hnz kr yB Vr ayI hAl;generalize AU:az a.rn.l=PL at*;refine⟨λm env σ=>∃n:Nat,(m=PL.length-n/\1<=n∧∀i,1<=i->i<n->i<PL.length->i%16≠0->PL[i-1]?=some (-1)->PL[i]?=some (-1))/\
     σ=[.box 23 [.pv (.str d.a_),.pv (.str d.mp)],.box 26 [.pv (pI a.ty),.pv (.str a.nm),.pv (pI a.id),.pv (pI a.fl),.pv (pB a.rs),.pv (.str a.vl),.pv (pI a.ft),.pv (qF a.rn),.pv (pI a.al),.pv (pI a.sz),.pv (pI a.vd)]]/\
     env=[(2,.ref 0 0 0),(3,.ref 1 0 0),(7,.pv (rI PL)),eN 10 n],PL.length-1,⟨1,⟨rfl,ab,λi h1 h2=>ab⟩,rfl,rfl⟩,?_⟩
    rintro m env σ ⟨n,⟨rfl,Kt,tT⟩,rfl,rfl⟩;by_cases aU:n<PL.length
    ·obtain⟨x,hx⟩:∃x,PL[n-1]?=some x:=⟨_,zah ab⟩
     obtain⟨y,hy⟩:∃y,PL[n]?=some y:=⟨_,zah aU⟩
     have dR:PL[((n:Int)-1).toNat]?=some x:=abb;by_cases LU:n%16≠0/\x= -1/\y≠ -1
     ·have Jq:iW a PL=3:=by
       refine am2.resolve_left λe=>?_
       have:=(QL.1 (aeg.1 e)).2 hc n Kt aU LU.1 (by rw[hx,LU.2.1]);rw[hy]at this;exact LU.2.2 (Option.some.inj this)
      rw[Jq,if_pos ao]at hK;obtain⟨b1,b2,b3⟩:=LU
      (repeat'((conv=>whnf);first|refine au (p:=(n:Int)%16≠0) ab ?_|refine anF ab dR ?_|refine au (p:=x= -1) b2 ?_|refine au (p:=y≠ -1) b3 ?_|refine bj ab ?_|refine au ab ?_|refine lW ab ?_|refine ez λ_=>?_|refine iY aA ?_|fail))<;>try(conv=>whnf)
      all_goals exact aG
     ·have fM:∀i,1<=i->i<n+1->i<PL.length->i%16≠0->PL[i-1]?=some (-1)->PL[i]?=some (-1):=λi h1 h2 h3 h4 h5=>by
       rcases zcG (zcI h2)with h6|h6
       ·exact tT i h1 h6 h3 h4 h5
       ·subst h6;rw[hx]at h5;rw[hy];congr 1;exact Classical.byContradiction λh7=>LU ⟨h4,Option.some.inj h5,h7⟩
      clear hK QL tT
      (repeat'((conv=>whnf);first|refine anF ab dR ?_|refine bj ab ?_|refine au ab ?_|refine aw ab ?_|refine de (λ_=>?_) (λ_=>?_)|refine lW ab ?_|refine ez λ_=>?_|refine iY aA ?_|fail))<;>try(conv=>whnf)
      all_goals first
       |exact⟨PL.length-(n+1),ab,n+1,⟨rfl,ab,fM⟩,rfl,rfl⟩
       |(exfalso;exact LU ⟨ab,ab,ab⟩)
    have Jq:iW a PL=0:=by
     unfold iW;rw[if_pos (QL.2 ⟨arb,λ_ i h1 h2 h3 h4=>tT i h1 ab h2 h3 h4⟩)]
    rw[Jq,if_neg z0,if_pos hc]at hK;generalize hF:(λi=>xC d.a_ a.vd i (bq PL i))=F at*
    (repeat'((conv=>whnf);first|refine aw ab ?_|refine ez λ_=>?_|fail))<;>try(conv=>whnf)
    refine⟨λm env σ=>∃n:Nat,(n+m=PL.length/16∧∀j,j<n->F j=0)/\
     σ=[.box 23 [.pv (.str d.a_),.pv (.str d.mp)],.box 26 [.pv (pI a.ty),.pv (.str a.nm),.pv (pI a.id),.pv (pI a.fl),.pv (pB a.rs),.pv (.str a.vl),.pv (pI a.ft),.pv (qF a.rn),.pv (pI a.al),.pv (pI a.sz),.pv (pI a.vd)]]/\
     env=[(2,.ref 0 0 0),(3,.ref 1 0 0),(7,.pv (rI PL)),eN 11 n],PL.length/16,⟨0,⟨ab,λj hj=>ab⟩,rfl,rfl⟩,?_⟩
    rintro m env σ ⟨n,⟨hn,h0⟩,rfl,rfl⟩;by_cases aU:n<PL.length/16
    ·have hFn:F n=xC d.a_ a.vd n (bq PL n):=by rw[<-hF]
     have hue:Dc [d.pv,a.pv,pI n] (pI (F n)):=⟨d,a,n,rfl,⟨h1,lF,by rw[AU];exact avT,by rw[AU];omega,ab⟩,by rw[AU,hFn]⟩
     have LU:F n≠0->K (.pv (pI (F n))):=λh=>by
      rw[agf h0 aU h]at hK;exact hK
     have fM:F n=0→∀j,j<n+1->F j=0:=λh j hj=>by
      rcases zcG (zcI hj)with h1|h1
      ·exact h0 j h1
      ·rw[h1];exact h
     clear hK hF QL tT hFn
     (repeat'((conv=>whnf);first|refine⟨_,hue,?_⟩|refine bj ab ?_|refine au ab ?_|refine de (λ_=>?_) (λ_=>?_)|refine l7 ab ?_|refine ez λ_=>?_|fail))<;>try(conv=>whnf)
     ·rename_i cb;exact⟨.pv (pI _),rfl,trivial,LU cb⟩
     ·rename_i cb;exact⟨m-1,ab,n+1,⟨ab,fM (zcD.1 cb)⟩,rfl,rfl⟩
    ·rw[AG.2 λj hj=>h0 j ab]at hK
     (repeat'((conv=>whnf);first|refine aw ab ?_|refine l7 ab ?_|refine ez λ_=>?_|fail))<;>try(conv=>whnf)
     exact aG
   ·have Jq:iW a (az a.rn.l)=0:=by unfold iW;rw[if_pos (QL.2 ⟨arb,λh=>absurd h hc⟩)]
    rw[Jq,if_neg z0,if_neg hc]at hK
    (repeat'((conv=>whnf);first|refine oQ ?_|refine⟨_,hAl,?_⟩|refine⟨_,ayI,?_⟩|refine⟨_,am1,?_⟩|refine bj ab ?_|refine bP ?_|refine aw ab ?_|refine de (λ_=>?_) (λ_=>?_)|refine ez λ_=>?_|fail))<;>try(conv=>whnf)
    all_goals exact aG
  ·have Jq:iW a (az a.rn.l)=3:=by unfold iW;rw[if_neg (λe=>yB (QL.1 e).1)]
   rw[Jq,if_pos ao]at hK;unfold ZQ at yB
   (repeat'((conv=>whnf);first|refine oQ ?_|refine⟨_,hAl,?_⟩|refine⟨_,ayI,?_⟩|refine bj ab ?_|refine au ab ?_|refine aw ab ?_|refine de (λ_=>?_) (λ_=>?_)|refine ez λ_=>?_|fail))<;>try(conv=>whnf)
   all_goals exact aG
def EA(ps:List PV)(x:PV):Prop:=∃a:At,ps=[a.pv]/\x=pI (if a.rs=true then a.vl.length else a.sz)
def agt:MT (ay []) R9 (ah EA):=by
 rintro _ K ⟨_,⟨a,rfl,rfl⟩,hK⟩;cases c_:a.rs with
 |true=>
  rw[if_pos c_]at hK
  (repeat'((conv=>whnf);first|refine tW c_ ?_|fail))<;>try(conv=>whnf)
  exact aG
 |false=>
  rw[if_neg qD]at hK
  (repeat'((conv=>whnf);first|refine qT c_ ?_|fail))<;>try(conv=>whnf)
  exact aG
def tG(ps:List PV)(x:PV):Prop:=∃a:At,ps=[a.pv]/\x=pI (cG a)
def adt:MT (ay []) N5 (ah tG):=by
 rintro _ K ⟨_,⟨a,rfl,rfl⟩,hK⟩;unfold cG at hK;cases c_:a.rs with
 |true=>
  rw[if_pos c_]at hK
  (repeat'((conv=>whnf);first|refine tW c_ ?_|fail))<;>try(conv=>whnf)
  exact aG
 |false=>
  rw[if_neg qD]at hK
  (repeat'((conv=>whnf);first|refine qT c_ ?_|fail))<;>try(conv=>whnf)
  exact aG
def ad7{a:At}{out:List UInt8}(h:0<=a.vd/\a.vd<=a.sz)(hl:a.vd<=out.length):nA a out=out.take a.vd.toNat++ai (a.sz-a.vd).toNat:=by
 unfold nA mF;rw[zal,za1]
 ·congr 2;omega
 ·rw[zad,zal,bn];omega
def aqL{B:List UInt8}{pl:List Int}{k:Nat}(hk:k<eE pl.length):ow B ((chunks pl).take (k+1))=ow B ((chunks pl).take k)++(b9 (dF B (bq pl k))).1:=by
 rw[zcF,p_ pl hk];simp[ow]
def adV{B:List UInt8}:∀{cs:List (List Int)},(∀c∈cs,(b9 (dF B c)).2=0)->(ow B cs).length=4096*cs.length
 |[],_=>by simp[ow]
 |c::cs,h=>by
  have ih:=adV (B:=B) λx hx=>h x (List.mem_cons_of_mem c hx)
  have:=HC (h c aj);simp only[ow,zan,zad,zam]at*;omega
def ata{B:List UInt8}{vd:Int}{cs:List (List Int)}(h:qw B vd cs=0):∀c∈cs,(b9 (dF B c)).2=0:=by
 intro c hc;obtain⟨k,hk⟩:=jk.1 hc;have:=AG.1 h k (eT hk);rw[hk,zbC]at this;unfold xC at this;split at this
 ·rename_i g;exact absurd this g
 ·rename_i g;exact K6
def anU(ps:List PV)(r:RV):Prop:=∃s:List UInt8,ps=[.str s]/\s.length<=5000/\r=.tup [.pv (.str (b9 s).1),.pv (pI (b9 s).2)]
def Tg:MT (ay [(82,ah Xs),(124,L3),(125,ah qK),(126,Qb),(127,tf),(31,ah Mc)]) Cc (c8 true anU):=by
 rintro args K ⟨_,⟨s,h1,h2,rfl⟩,hK⟩;exact H7 args K ⟨s,h1,h2,hK⟩
def dj(ps:List PV)(x:PV):Prop:=∃(d:Dk) (a:At),ps=[d.pv,a.pv]/\(fH d/\aK d a=0)/\x=.str (aV (ar d a))
set_option maxHeartbeats 2000000 in
def Wk:MT (ay [(71,c8 false dL),(26,bF uJ),(81,ah wX),(80,c8 true anU),(82,ah fK),(33,ah iQ)]) ID (ah dj):=by
 rintro _ K ⟨_,⟨d,a,rfl,⟨h1,h2⟩,rfl⟩,hK⟩;obtain⟨sM,xk⟩:=bc h2;unfold aV at hK;have e1:(ar d a).a=a:=rfl;have e2:(ar d a).d=d:=rfl;have e3:(ar d a).pl=az a.rn.l:=rfl;rw[e1,e2,e3]at hK;cases c_:a.rs with
 |true=>
  rw[if_pos c_]at hK
  (repeat'((conv=>whnf);first|refine tW c_ ?_|fail))<;>try(conv=>whnf)
  exact bM
 |false=>
  rw[if_neg qD]at hK;obtain⟨g1,g2,g3⟩:=xk c_;have PF:=r8 sM.rn;have qG:=sM.pl;have Ee:=sM.len;have SL:=sM.fl;obtain⟨_,n2,n3⟩:=sM.num;have hvd:=((Ms (lE sM.str).1).ot c_).2.2.2.2.2.2;have mW:=h1.1;have am1:uJ [a.pv,pI 1] (a.fl/1%2=1):=⟨a,1,rfl,⟨ab,.inl rfl⟩,rfl⟩
  clear h2 xk sM;by_cases hc:a.fl%2=1
  ·rw[if_pos hc]at hK;have yB:=g2.2;rw[if_pos hc]at yB;have g3:=g3 hc;have aLd:(ow d.a_ (chunks (az a.rn.l))).length=4096*(chunks (az a.rn.l)).length:=adV (ata g3);have mE:=om (az a.rn.l);rw[ad7 ab (by rw[aLd];omega)]at hK;clear g1 g2 g3;generalize AU:az a.rn.l=PL at*
   (repeat'((conv=>whnf);first|refine qT c_ ?_|refine⟨_,PF,?_⟩|fail))<;>try(conv=>whnf)
   refine⟨λm env σ=>∃n:Nat,n+m=PL.length/\
    σ=[.box 23 [.pv (.str d.a_),.pv (.str d.mp)],.box 26 [.pv (pI a.ty),.pv (.str a.nm),.pv (pI a.id),.pv (pI a.fl),.pv (pB a.rs),.pv (.str a.vl),.pv (pI a.ft),.pv (qF a.rn),.pv (pI a.al),.pv (pI a.sz),.pv (pI a.vd)]]/\
    env=[(2,.ref 0 0 0),(3,.ref 1 0 0),(5,.pv (rI PL)),(6,.pv (.str (ow d.a_ ((chunks PL).take ((n+15)/16))))),eN 7 n],PL.length,⟨0,ab,rfl,rfl⟩,?_⟩
   rintro m env σ ⟨n,hn,rfl,rfl⟩;have Vr:=ajz d.a_ ((chunks PL).take ((n+15)/16));rw[zal]at Vr;by_cases aU:n<PL.length
   ·by_cases hm:n%16=0
    ·have hk:n/16<eE PL.length:=by unfold eE;omega
     have hT:=aqL (B:=d.a_) hk;rw[show(n+15)/16=n/16 by omega]at Vr ⊢;have AQ:MH d.a_ (bq PL (n/16)):=λx hx=>qG x ahM
     have aP1:(bq PL (n/16)).length=16:=by rw[yb];omega
     have HR:cut (n:Int).toNat ((n:Int)+16).toNat (PL.map pI)=(bq PL (n/16)).map pI:=by
      rw[show((n:Int)+16).toNat=(n:Int).toNat+16 by omega,LX];unfold bq;rw[show(n:Int).toNat=16*(n/16) by omega]
     have XJ:(PL.map pI).length=PL.length:=zav _;have qH:=AJ d.a_ (bq PL (n/16));have fM:wX [d.pv,rI (bq PL (n/16))] (.str (dF d.a_ (bq PL (n/16)))):=⟨d,_,rfl,⟨mW,ab,AQ⟩,rfl⟩
     have pd:anU [.str (dF d.a_ (bq PL (n/16)))] (.tup [.pv (.str (b9 (dF d.a_ (bq PL (n/16)))).1),.pv (pI (b9 (dF d.a_ (bq PL (n/16)))).2)]):=⟨_,rfl,ab,rfl⟩
     have xf:=L2 (dF d.a_ (bq PL (n/16)));clear hK;generalize bq PL (n/16)=c at*;generalize dF d.a_ c=S at*;generalize b9 S=U at*;obtain⟨own,e⟩:=U;have xf:own.length<=4096:=xf;have hTT:ow d.a_ ((chunks PL).take ((n+1+15)/16))=ow d.a_ ((chunks PL).take (n/16))++own:=by
      rw[show(n+1+15)/16=n/16+1 by omega];exact hT
     generalize ow d.a_ ((chunks PL).take (n/16))=A at*
     (repeat'((conv=>whnf);first|refine oQ ?_|refine⟨_,am1,?_⟩|refine zcC xI ?_|rw[HR]|refine⟨_,fM,?_⟩|refine⟨_,pd,?_⟩|refine bj ab ?_|refine au ab ?_|refine lW ab ?_|refine ez λ_=>?_|refine wz ?_|fail))<;>try(conv=>whnf)
     exact⟨m-1,ab,n+1,ab,rfl,by rw[hTT];rfl⟩
    ·clear hK
     (repeat'((conv=>whnf);first|refine⟨_,am1,?_⟩|refine bj ab ?_|refine au ab ?_|refine aw ab ?_|refine lW ab ?_|refine ez λ_=>?_|fail))<;>try(conv=>whnf)
     exact⟨m-1,ab,n+1,ab,rfl,by rw[show(n+1+15)/16=(n+15)/16 by omega];rfl⟩
   ·have hn:n=PL.length:=by omega
    subst hn;rw[za1 ab]at Vr ⊢;have Ja:a.vd<=(ow d.a_ (chunks PL)).length:=ab;generalize ow d.a_ (chunks PL)=R at*;have PE:cut 0 a.vd.toNat R=R.take a.vd.toNat:=Gm;have xi:fK [pI (a.sz-a.vd)] (.str (ai (a.sz-a.vd).toNat)):=⟨a.sz-a.vd,rfl,ab,rfl⟩
    (repeat'((conv=>whnf);first|refine oQ ?_|rw[PE]|refine⟨_,xi,?_⟩|refine zcC (by(rw[zal,bn];omega)) ?_|refine bj ab ?_|refine aw ab ?_|refine ez λ_=>?_|refine wz ?_|fail))<;>try(conv=>whnf)
    exact bM
  ·rw[if_neg hc]at hK;have yB:=g2.2;rw[if_neg hc]at yB;rw[ad7 ab (by rw[YO qG];omega)]at hK;clear g1 g2 g3;generalize AU:az a.rn.l=PL at*
   (repeat'((conv=>whnf);first|refine qT c_ ?_|refine⟨_,PF,?_⟩|fail))<;>try(conv=>whnf)
   refine⟨λm env σ=>∃n:Nat,n+m=PL.length/\
    σ=[.box 23 [.pv (.str d.a_),.pv (.str d.mp)],.box 26 [.pv (pI a.ty),.pv (.str a.nm),.pv (pI a.id),.pv (pI a.fl),.pv (pB a.rs),.pv (.str a.vl),.pv (pI a.ft),.pv (qF a.rn),.pv (pI a.al),.pv (pI a.sz),.pv (pI a.vd)]]/\
    env=[(2,.ref 0 0 0),(3,.ref 1 0 0),(5,.pv (rI PL)),(6,.pv (.str (rz d.a_ (PL.take n)))),eN 7 n],PL.length,⟨0,ab,rfl,rfl⟩,?_⟩
   rintro m env σ ⟨n,hn,rfl,rfl⟩;have vu:=YO (B:=d.a_) (l:=PL.take n) (λx hx=>qG x (zaL hx));rw[zal]at vu;by_cases aU:n<PL.length
   ·obtain⟨c,WS⟩:∃c,PL[n]?=some c:=⟨_,zah aU⟩
    have hT:rz d.a_ (PL.take (n+1))=rz d.a_ (PL.take n)++(if c= -1 then ai 256 else eU d.a_ c.toNat):=by
     rw[zcF,WS];simp[rz]
    have An:=qG c (zag WS);clear hK;by_cases h0:c= -1
    ·subst h0;rw[if_pos rfl]at hT
     (repeat'((conv=>whnf);first|refine⟨_,am1,?_⟩|refine zcC aiY ?_|(refine fe ?_;first|refine bj ab ?_|refine au ab ?_|refine aw ab ?_|refine ez λ_=>?_|refine iY aA ?_|refine⟨_,⟨_,rfl,cZ,rfl⟩,?_⟩|fail)))<;>try(conv=>whnf)
     exact Bq
    ·obtain⟨k,rfl⟩:∃k:Nat,c=k:=⟨c.toNat,ab⟩
     have mE:(eU d.a_ k).length=256:=gI ab;rw[if_neg h0]at hT
     (repeat'((conv=>whnf);first|refine oQ ?_|refine⟨_,am1,?_⟩|refine⟨_,⟨d,k,rfl,ab,rfl⟩,?_⟩|refine zcC (by rw[vu,mE];omega) ?_|refine bj ab ?_|refine au ab ?_|refine aw ab ?_|refine ez λ_=>?_|refine iY aA ?_|fail))<;>try(conv=>whnf)
     exact Bq
   ·have hn:n=PL.length:=by omega
    subst hn;rw[zcN]at vu ⊢;generalize rz d.a_ PL=R at*;have PE:cut 0 a.vd.toNat R=R.take a.vd.toNat:=Gm;have xi:fK [pI (a.sz-a.vd)] (.str (ai (a.sz-a.vd).toNat)):=⟨a.sz-a.vd,rfl,ab,rfl⟩
    (repeat'((conv=>whnf);first|refine oQ ?_|rw[PE]|refine⟨_,xi,?_⟩|refine zcC (by(rw[zal,bn];omega)) ?_|refine bj ab ?_|refine aw ab ?_|refine ez λ_=>?_|refine wz ?_|fail))<;>try(conv=>whnf)
    exact bM
def Hv(ps:List PV)(r:RV):Prop:=∃s:Rs,ps=[qF s]/\s.l.length<=1000000/\r=.fresh 28 2 (s.l.map Rn.pv)
def Tv:MT (ay []) Ih (c8 true Hv):=by
 rintro _ K ⟨_,⟨s,rfl,hs,rfl⟩,hK⟩;have gJ:(s.l.map Rn.pv).length=s.l.length:=zav _
 (repeat'((conv=>whnf);first|refine KP ?_|refine bT ?_|refine zcC cu ?_|fail))<;>try(conv=>whnf)
 exact vj
def aB(a:At):At:={ a with rn:=.sl a.rn.l }
def dK(ps:List PV)(r:RV):Prop:=∃a:At,ps=[a.pv]/\a.rn.l.length<=1000000/\r=.pv (aB a).pv
def acO:MT (ay [(70,c8 true Hv)]) yk (c8 false dK):=by
 rintro _ K ⟨_,⟨a,rfl,hs,rfl⟩,hK⟩
 (repeat'((conv=>whnf);first|refine⟨_,⟨a.rn,rfl,hs,rfl⟩,?_⟩|refine bT ?_|fail))<;>try(conv=>whnf)
 exact⟨.pv (aB a).pv,rfl,trivial,hK⟩
def We(s:List UInt8)(p:Nat)(b:List UInt8):List UInt8:=s.take p++b++s.drop (p+b.length)
def Yn{s:List UInt8}{p:Nat}{b:List UInt8}(h:p+b.length<=s.length):(We s p b).length=s.length:=by
 unfold We;simp only[zad,zal,zax];omega
def Dp(ps:List PV)(x:PV):Prop:=∃(s:List UInt8) (p:Int) (b:List UInt8),ps=[.str s,pI p,.str b]/\(0<=p/\p+b.length<=s.length/\s.length<=1000000)/\x=.str (We s p.toNat b)
def aie:MT (ay []) R_ (ah Dp):=by
 rintro _ K ⟨_,⟨s,p,b,rfl,⟨h1,h2,h3⟩,rfl⟩,hK⟩;have Oi:cut 0 p.toNat s=s.take p.toNat:=Gm;have Cw:cut (p+b.length).toNat s.length s=s.drop (p.toNat+b.length):=by unfold cut;rw[zcN];congr 1;omega
 (repeat'((conv=>whnf);first|refine oQ ?_|rw[Oi]|rw[Cw]|refine zcC (by(simp only[zad,zal,zax];omega)) ?_|refine bj ab ?_|refine wz ?_|fail))<;>try(conv=>whnf)
 exact bM
def az3(s:List UInt8)(n:Nat):List UInt8:=s.take n++ai (n-min s.length n)
def ax0(s:List UInt8)(n:Nat):az3 s n=M9 s n:=by
 unfold az3 M9 mF;by_cases h:n<=s.length
 ·rw[show n-min s.length n=0 by omega,show n-s.length=0 by omega];simp[ai]
 ·rw[show min s.length n=s.length by omega,za1 ab,za1];rw[zad,bn];omega
def AI(ps:List PV)(x:PV):Prop:=∃(s:List UInt8) (n:Int),ps=[.str s,pI n]/\(s.length<=100000/\0<=n/\n<=100000)/\x=.str (M9 s n.toNat)
def adE:MT (ay [(82,ah fK)]) NW (ah AI):=by
 rintro _ K ⟨_,⟨s,n,rfl,⟨h1,h2,h3⟩,rfl⟩,hK⟩;have Oi:cut 0 (min (s.length:Int) n).toNat s=s.take n.toNat:=by
  unfold cut;rw[zdv];by_cases h:n.toNat<=s.length
  ·congr 1;omega
  ·rw[za1 ab,za1 ab]
 have xi:fK [pI (n-min (s.length:Int) n)] (.str (ai (n.toNat-min s.length n.toNat))):=⟨n-min (s.length:Int) n,rfl,ab,by congr 2;omega⟩
 rw[<-ax0]at hK;unfold az3 at hK
 (repeat'((conv=>whnf);first|refine oQ ?_|rw[Oi]|refine⟨_,xi,?_⟩|refine zcC (by(simp only[zal,bn];omega)) ?_|refine bj ab ?_|refine I8 ?_|refine wz ?_|fail))<;>try(conv=>whnf)
 exact bM
def yr(C:List UInt8)(p:Nat)(dat:List UInt8):List UInt8:=if dat=[]then C else We (M9 C (max C.length (p+dat.length))) p dat
def jW(ps:List PV)(p:Prop):Prop:=∃a b:Rs,ps=[qF a,qF b]/\(a.l.length<=1000000/\b.l.length<=1000000)/\p=(a.l=b.l)
def T0:MT (ay []) HY (bF jW):=by
 rintro _ K ⟨_,⟨a,b,rfl,⟨h1,h2⟩,rfl⟩,hK⟩;by_cases hl:a.l.length=b.l.length
 case neg=>
  have cb:¬a.l=b.l:=λe=>hl (by rw[e])
  (repeat'((conv=>whnf);first|refine KP ?_|refine au ab ?_|refine ez λ_=>?_|fail))<;>try(conv=>whnf)
  exact⟨.pv (.bool _),rfl,trivial,hK false (by simp[cb])⟩
 (repeat'((conv=>whnf);first|refine KP ?_|refine aw ab ?_|refine ez λ_=>?_|fail))<;>try(conv=>whnf)
 refine⟨λm env σ=>∃n:Nat,(n+m=a.l.length∧∀j,j<n->a.l[j]?=b.l[j]?)/\σ=[]/\env=[(0,.pv (qF a)),(1,.pv (qF b)),eN 5 n],a.l.length,⟨0,⟨ab,λj hj=>ab⟩,rfl,rfl⟩,?_⟩;rintro m env σ ⟨n,⟨hn,h0⟩,rfl,rfl⟩;by_cases aU:n<a.l.length
 ·obtain⟨x,hx⟩:∃x,a.l[n]?=some x:=⟨_,zah aU⟩
  obtain⟨y,hy⟩:∃y,b.l[n]?=some y:=⟨_,zah ab⟩
  by_cases zn:x=y
  ·subst zn
   (repeat'((conv=>whnf);first|refine oQ ?_|refine KP ?_|refine Ek hx ?_|refine Ek hy ?_|refine aw (λh=>h rfl) ?_|refine bj ab ?_|refine au ab ?_|refine ez λ_=>?_|fail))<;>try(conv=>whnf)
   refine⟨m-1,ab,n+1,⟨ab,λj hj=>?_⟩,rfl,rfl⟩;rcases zcG (zcI hj)with h1|h1
   ·exact h0 j h1
   ·rw[h1,hx,hy]
  ·have cb:¬a.l=b.l:=λe=>zn (by rw[e,hy]at hx;exact(Option.some.inj hx).symm)
   have rF:¬[pI x.s,pI x.n]=[pI y.s,pI y.n]:=λh=>zn (by
    obtain⟨xs,xn⟩:=x;obtain⟨ys,yn⟩:=y;simp[pI]at h;rw[h.1,h.2])
   (repeat'((conv=>whnf);first|refine oQ ?_|refine KP ?_|refine Ek hx ?_|refine Ek hy ?_|refine au rF ?_|refine au ab ?_|refine ez λ_=>?_|fail))<;>try(conv=>whnf)
   exact⟨.pv (.bool _),rfl,trivial,hK false (by simp[cb])⟩
 ·have he:a.l=b.l:=by
   apply zba;intro j;by_cases hj:j<n
   ·exact h0 j hj
   ·rw[zaK ab,zaK ab]
  (repeat'((conv=>whnf);first|refine KP ?_|refine aw ab ?_|refine ez λ_=>?_|fail))<;>try(conv=>whnf)
  exact⟨.pv (.bool _),rfl,trivial,hK true (by simp[he])⟩
def Td(a b:At):Prop:=a.ty=b.ty/\a.nm=b.nm/\a.id=b.id/\a.fl=b.fl/\a.rs=b.rs/\a.vl=b.vl/\a.ft=b.ft/\a.rn.l=b.rn.l/\a.al=b.al/\a.sz=b.sz/\a.vd=b.vd
def Av(ps:List PV)(p:Prop):Prop:=∃a b:At,ps=[a.pv,b.pv]/\(a.rn.l.length<=1000000/\b.rn.l.length<=1000000)/\p=Td a b
set_option maxHeartbeats 2000000 in
def aiS:MT (ay [(49,bF jW)]) x5 (bF Av):=by
 rintro _ K ⟨_,⟨a,b,rfl,h,rfl⟩,hK⟩;have QL:jW [qF a.rn,qF b.rn] (a.rn.l=b.rn.l):=⟨a.rn,b.rn,rfl,h,rfl⟩
 have yes:Td a b->K (.pv (.bool true)):=λh=>hK true uQ
 have no:¬Td a b->K (.pv (.bool false)):=λh=>hK false uQ
 unfold Td at yes no;clear hK;clear QL;have QL:jW [qF a.rn,qF b.rn] (a.rn.l=b.rn.l):=⟨a.rn,b.rn,rfl,h,rfl⟩
 (repeat'((conv=>whnf);first|refine⟨_,QL,?_⟩|refine de (λ_=>?_) (λ_=>?_)|fail))<;>try(conv=>whnf)
 all_goals clear QL h
 all_goals first
  |exact⟨.pv (.bool _),rfl,trivial,no (by intro hh;obtain⟨i1,i2,i3,i4,i5,i6,i7,i8,i9,i10,i11⟩:=hh;contradiction)⟩
  |exact⟨.pv (.bool _),rfl,trivial,yes (by refine⟨?_,?_,?_,?_,?_,?_,?_,?_,?_,?_,?_⟩<;>assumption)⟩
def tV(pl:List Int):List Int:=pl.filter λx=>decide (x≠ -1)
def atd{pl:List Int}{x:Int}:x∈tV pl↔x∈pl/\x≠ -1:=by unfold tV;rw[zbn];simp
def Lc(pl:List Int):(tV pl).length=bt pl:=rfl
def QH(ps:List PV)(r:RV):Prop:=∃a:At,ps=[a.pv]/\dU a.rn.l=0/\r=.pv (rI (tV (az a.rn.l)))
def ao1:MT (ay [(71,c8 false dL)]) U9 (c8 false QH):=by
 rintro _ K ⟨_,⟨a,rfl,h,rfl⟩,hK⟩;have PF:=r8 h;have IH:=(ED h).1;generalize az a.rn.l=PL at*
 (repeat'((conv=>whnf);first|refine⟨_,PF,?_⟩|fail))<;>try(conv=>whnf)
 refine⟨λm env σ=>∃n:Nat,n+m=PL.length/\σ=[.row 3 1 true ((tV (PL.take n)).map pI)]/\env=[(3,.own 0),(4,.pv (rI PL)),eN 5 n],PL.length,⟨0,ab,rfl,rfl⟩,?_⟩;rintro m env σ ⟨n,hn,rfl,rfl⟩;have Vr:=oG (PL.take n);rw[<-Lc,zal]at Vr;by_cases aU:n<PL.length
 ·obtain⟨x,hx⟩:∃x,PL[n]?=some x:=⟨_,zah aU⟩
  have hT:tV (PL.take (n+1))=tV (PL.take n)++if x= -1 then[]else[x]:=by
   unfold tV;rw[zcF,hx,zbT];by_cases h0:x= -1<;>simp[h0]
  clear hK;generalize tV (PL.take n)=O at*;have sS:(O.map pI).length=O.length:=zav _;by_cases h0:x= -1
  ·rw[if_pos h0,zbf]at hT
   (repeat'((conv=>whnf);first|refine aw (p:=x≠ -1) (λe=>e h0) ?_|refine bj ab ?_|refine au ab ?_|refine ez λ_=>?_|refine iY aA ?_|fail))<;>try(conv=>whnf)
   exact⟨m-1,ab,n+1,ab,by rw[hT],rfl⟩
  ·rw[if_neg h0]at hT
   (repeat'((conv=>whnf);first|refine au (p:=x≠ -1) h0 ?_|refine bj ab ?_|refine au ab ?_|refine ez λ_=>?_|refine iY aA ?_|refine bT ?_|refine zcC cu ?_|fail))<;>try(conv=>whnf)
   exact⟨m-1,ab,n+1,ab,by rw[hT];simp,rfl⟩
 ·(repeat'((conv=>whnf);first|refine aw ab ?_|refine ez λ_=>?_|fail))<;>try(conv=>whnf)
  rw[za1 ab];exact abL
def DO(ps:List PV)(x:PV):Prop:=∃d:Dk,ps=[d.pv]/\(fH d/\d.n<=8*d.mp.length)/\x=pI ((d.n:Int)-oF d.mp d.n)
def Bj(s:List UInt8):∀n,oF s n<=n
 |0=>zai 0
 |n+1=>by
  have:=Bj s n;have h2:=mK s n;unfold oF;omega
def akU:MT (ay [(32,ah bA),(89,ah Hu)]) Q5 (ah DO):=by
 rintro _ K ⟨_,⟨d,rfl,⟨h1,h2⟩,rfl⟩,hK⟩;have Nt:bA [d.pv] (pI d.n):=⟨d,rfl,h1.1,rfl⟩
 have cM:Hu [.str d.mp,pI d.n] (pI (oF d.mp d.n)):=⟨d.mp,d.n,rfl,⟨h2,h1.2⟩,rfl⟩
 have hc:=Bj d.mp d.n;have hn:d.n<=1000000:=by unfold Dk.n;have:=h1.1;omega
 generalize d.n=N at*
 (repeat'((conv=>whnf);first|refine oQ ?_|refine⟨_,Nt,?_⟩|refine⟨_,cM,?_⟩|refine bj ab ?_|fail))<;>try(conv=>whnf)
 exact aG
def E0(d e:Dk)(A B:List Int)(c:Nat):Prop:=
 ((c:Int)∉A/\(c:Int)∉B->bH e.mp c=bH d.mp c/\eU d.a_ c=eU e.a_ c)/\((c:Int)∈A/\(c:Int)∉B->bH e.mp c=0)/\((c:Int)∈B->bH e.mp c=1)/\((c:Int)∈B/\(c:Int)∉A->bH d.mp c=0)
def adv(d e:Dk)(a b:At):Prop:=(d.a_.length=e.a_.length/\gm e=0)∧∀c,c<d.n->E0 d e (tV (az a.rn.l)) (tV (az b.rn.l)) c
def aa8(ps:List PV)(p:Prop):Prop:=∃(d e:Dk) (a b:At),ps=[d.pv,e.pv,a.pv,b.pv]/\(fH d/\fH e/\gm d=0/\dU a.rn.l=0/\dU b.rn.l=0)/\p=adv d e a b
set_option maxHeartbeats 4000000 in
def agr:MT (ay [(48,ah dm),(38,c8 false QH),(32,ah bA),(128,bF YX),(72,ah qM),(33,ah iQ)]) Kk (bF aa8):=by
 rintro _ K ⟨_,⟨d,e,a,b,rfl,⟨h1,h2,h3,h4,h5⟩,rfl⟩,hK⟩;have hde:dm [e.pv] (pI (gm e)):=⟨e,rfl,⟨h2.1,h2.2⟩,rfl⟩
 have yes:adv d e a b->K (.pv (.bool true)):=λh=>hK true uQ
 have no:¬adv d e a b->K (.pv (.bool false)):=λh=>hK false uQ
 clear hK;by_cases hl:d.a_.length=e.a_.length
 case neg=>
  (repeat'((conv=>whnf);first|refine au (p:=(d.a_.length:Int)≠e.a_.length) ab ?_|fail))<;>try(conv=>whnf)
  exact⟨.pv (.bool _),rfl,trivial,no λh=>hl h.1.1⟩
 by_cases he:gm e=0
 case neg=>
  (repeat'((conv=>whnf);first|refine aw (p:=(d.a_.length:Int)≠e.a_.length) ab ?_|refine⟨_,hde,?_⟩|refine au he ?_|fail))<;>try(conv=>whnf)
  exact⟨.pv (.bool _),rfl,trivial,no λh=>he h.1.2⟩
 have hoa:QH [a.pv] (.pv (rI (tV (az a.rn.l)))):=⟨a,rfl,h4,rfl⟩
 have hob:QH [b.pv] (.pv (rI (tV (az b.rn.l)))):=⟨b,rfl,h5,rfl⟩
 have la:=(ED h4).1;have lb:=(ED h5).1;have la2:=oG (az a.rn.l);have lb2:=oG (az b.rn.l);rw[<-Lc]at la2 lb2;have hP:adv d e a b↔∀c,c<d.n->E0 d e (tV (az a.rn.l)) (tV (az b.rn.l)) c:=⟨λh=>h.2,λh=>⟨⟨hl,he⟩,h⟩⟩
 rw[hP]at yes no;rw[he]at hde;clear hP;obtain⟨_,_,q6,_,_⟩:=iR (rX h3).2.2;obtain⟨_,_,q7,_,_⟩:=iR (rX he).2.2;have hen:e.n=d.n:=by unfold Dk.n;rw[hl]
 have Nt:bA [d.pv] (pI d.n):=⟨d,rfl,h1.1,rfl⟩
 have o_:∀c:Nat,c<d.n->qM [.str d.mp,pI c] (pI (bH d.mp c)):=λc hc=>⟨d.mp,c,rfl,⟨ab,h1.2⟩,rfl⟩
 have Ke:∀c:Nat,c<d.n->qM [.str e.mp,pI c] (pI (bH e.mp c)):=λc hc=>⟨e.mp,c,rfl,⟨by rw[hen]at q7;omega,h2.2⟩,rfl⟩
 have WQ:∀c:Nat,c<d.n->iQ [d.pv,pI c] (.str (eU d.a_ c)):=λc hc=>⟨d,c,rfl,⟨Se,h1.1⟩,rfl⟩
 have nk:∀c:Nat,c<d.n->iQ [e.pv,pI c] (.str (eU e.a_ c)):=λc hc=>⟨e,c,rfl,⟨by rw[<-hen]at hc;unfold Dk.n at hc;omega,h2.1⟩,rfl⟩
 have hnB:d.n<=512:=(rX h3).2.1;clear q6 q7 h1 h2 h3 h4 h5
 (repeat'((conv=>whnf);first|refine aw (p:=(d.a_.length:Int)≠e.a_.length) ab ?_|refine⟨_,hde,?_⟩|refine aw (p:=(0:Int)≠0) z0 ?_|refine oQ ?_|refine⟨_,hoa,?_⟩|refine⟨_,hob,?_⟩|fail))<;>try(conv=>whnf)
 generalize tV (az a.rn.l)=A at*;generalize tV (az b.rn.l)=B at*;obtain⟨N,hN⟩:∃N,N=d.n:=⟨_,rfl⟩
 rw[<-hN]at yes no Nt o_ Ke WQ nk hnB;refine⟨λm env σ=>∃n:Nat,(n+m=N∧∀c,c<n->E0 d e A B c)/\σ=[.box 23 [.pv (.str d.a_),.pv (.str d.mp)],.box 23 [.pv (.str e.a_),.pv (.str e.mp)]]/\
  env=[(4,.ref 0 0 0),(5,.ref 1 0 0),(9,.pv (rI A)),(10,.pv (rI B)),eN 11 n],N,⟨0,⟨ab,λc hc=>ab⟩,rfl,rfl⟩,?_⟩
 rintro m env σ ⟨n,⟨hn,h0⟩,rfl,rfl⟩;by_cases aU:n<N
 ·have o_:=o_ n aU;have Ke:=Ke n aU;have WQ:=WQ n aU;have nk:=nk n aU;have hqa:YX [rI A,pI n] ((n:Int)∈A):=⟨A,n,rfl,ab,rfl⟩
  have hqb:YX [rI B,pI n] ((n:Int)∈B):=⟨B,n,rfl,ab,rfl⟩
  have fM:E0 d e A B n→∀c,c<n+1->E0 d e A B c:=λh c hc=>by
   rcases zcG (zcI hc)with h1|h1
   ·exact h0 c h1
   ·rw[h1];exact h
  have no:¬E0 d e A B n->K (.pv (.bool false)):=λh=>no λhh=>h (hh n aU)
  have b1:=mK d.mp n;have b2:=mK e.mp n;clear yes h0 la la2 lb lb2 hde hoa hob hl hN hen;by_cases ha:(n:Int)∈A
  ·by_cases hb:(n:Int)∈B
   ·have aki:E0 d e A B n↔bH e.mp n=1:=by unfold E0;simp[ha,hb]
    (repeat'((conv=>whnf);first|refine⟨_,Nt,?_⟩|refine⟨_,hqa,?_⟩|refine⟨_,hqb,?_⟩|refine au ha ?_|refine au hb ?_|refine oQ ?_|refine⟨_,o_,?_⟩|refine⟨_,Ke,?_⟩|refine bj ab ?_|refine aN ?_|refine au ab ?_|refine de (λ_=>?_) (λ_=>?_)|fail))<;>try(conv=>whnf)
    all_goals first
     |exact Qu
     |exact QG
     |exact RT
     |exact ZO
   ·have aki:E0 d e A B n↔bH e.mp n=0:=by unfold E0;simp[ha,hb]
    (repeat'((conv=>whnf);first|refine⟨_,Nt,?_⟩|refine⟨_,hqa,?_⟩|refine⟨_,hqb,?_⟩|refine au ha ?_|refine aw hb ?_|refine oQ ?_|refine⟨_,o_,?_⟩|refine⟨_,Ke,?_⟩|refine bj ab ?_|refine aN ?_|refine bP ?_|refine au ab ?_|refine de (λ_=>?_) (λ_=>?_)|fail))<;>try(conv=>whnf)
    all_goals first
     |exact Qu
     |exact QG
     |exact RT
     |exact ZO
  ·by_cases hb:(n:Int)∈B
   ·have aki:E0 d e A B n↔bH e.mp n=1/\bH d.mp n=0:=by unfold E0;simp[ha,hb]
    (repeat'((conv=>whnf);first|refine⟨_,Nt,?_⟩|refine⟨_,hqa,?_⟩|refine⟨_,hqb,?_⟩|refine aw ha ?_|refine au hb ?_|refine oQ ?_|refine⟨_,o_,?_⟩|refine⟨_,Ke,?_⟩|refine bj ab ?_|refine aN ?_|refine bP ?_|refine au ab ?_|refine de (λ_=>?_) (λ_=>?_)|fail))<;>try(conv=>whnf)
    all_goals first
     |exact Qu
     |exact QG
     |exact RT
     |exact ZO
   ·have aki:E0 d e A B n↔bH e.mp n=bH d.mp n/\eU d.a_ n=eU e.a_ n:=by unfold E0;simp[ha,hb]
    (repeat'((conv=>whnf);first|refine⟨_,Nt,?_⟩|refine⟨_,hqa,?_⟩|refine⟨_,hqb,?_⟩|refine aw ha ?_|refine aw hb ?_|refine oQ ?_|refine⟨_,o_,?_⟩|refine⟨_,Ke,?_⟩|refine⟨_,WQ,?_⟩|refine⟨_,nk,?_⟩|refine bj ab ?_|refine bP ?_|refine au ab ?_|refine de (λ_=>?_) (λ_=>?_)|fail))<;>try(conv=>whnf)
    all_goals first
     |exact Qu
     |exact QG
     |exact RT
     |exact⟨m-1,ab,n+1,⟨ab,fM (aki.mpr ⟨ab,Classical.not_not.mp aA⟩)⟩,rfl,rfl⟩
 ·have hn:n=N:=by omega
  subst hn
  (repeat'((conv=>whnf);first|refine⟨_,Nt,?_⟩|refine aw ab ?_|fail))<;>try(conv=>whnf)
  exact⟨.pv (.bool _),rfl,trivial,yes h0⟩
def ai_{α}{L:List α}{i:Nat}{x z:α}(h:L[i]?=some x):(L.take i++List.replicate (L.length-i) z).set i x=L.take (i+1)++List.replicate (L.length-(i+1)) z:=by
 have hi:i<L.length:=(zaa.1 h).1;have hl:(L.take i).length=i:=eI;rw[zc5 _ _ ab,hl,zb9,show L.length-i=(L.length-(i+1))+1 by omega,List.replicate_succ,List.set_cons_zero,zcF,h,zaj];rfl
def aj3{α}{L:List α}{i:Nat}{z:α}(h:i<=L.length):(L.take i++List.replicate (L.length-i) z).length=L.length:=by
 rw[zad,zal,zap];omega
def RF(l:List Bool):Nat:=l.countP id
def wq(l:List Bool):PV:=.sl 1 (l.map pB)
def axd(l:List Bool):RF l<=l.length:=List.countP_le_length
def Mq(ps:List PV)(x:PV):Prop:=∃l:List Bool,ps=[wq l]/\l.length<=1000000/\x=pI (RF l)
def adz:MT (ay [(105,ah Ci)]) NP (ah Mq):=by
 rintro _ K ⟨_,⟨l,rfl,hl,rfl⟩,hK⟩;refine⟨λm env σ=>∃n:Nat,n+m=l.length/\σ=[]/\env=[(0,.pv (wq l)),eN 3 (RF (l.take n)),eN 4 n],l.length,⟨0,ab,rfl,rfl⟩,?_⟩;rintro m env σ ⟨n,hn,rfl,rfl⟩;have hc:=axd (l.take n);rw[zal]at hc;by_cases aU:n<l.length
 ·obtain⟨x,hx⟩:∃x,l[n]?=some x:=⟨_,zah aU⟩
  have hT:(RF (l.take (n+1)):Int)=RF (l.take n)+aeU x:=by
   unfold RF;rw[zcF,hx,List.countP_append];cases x<;>simp[aeU]
  have hxg:(l.map pB)[n]?=some (pB x):=by rw[za9,hx];rfl
  have hb:0<=aeU x/\aeU x<=1:=by cases x<;>decide
  clear hK;generalize RF (l.take n)=U at*
  (repeat'(refine iM ?_;first|refine bj ab ?_|refine au ab ?_|refine ez λ_=>?_|refine iY aA ?_|refine⟨_,⟨_,rfl,rfl⟩,?_⟩|fail))<;>try(conv=>whnf)
  exact Bq
 ·(repeat'((conv=>whnf);first|refine aw ab ?_|refine ez λ_=>?_|fail))<;>try(conv=>whnf)
  rw[za1 ab];exact aG
def AA(ps:List PV)(p:Prop):Prop:=∃(a:At) (w:List Bool),ps=[a.pv,wq w]/\dU a.rn.l=0/\p=((az a.rn.l).map (λx=>decide (x≠ -1))=w)
set_option maxHeartbeats 1000000 in
def ac4:MT (ay [(71,c8 false dL)]) zm (bF AA):=by
 rintro _ K ⟨_,⟨a,w,rfl,h,rfl⟩,hK⟩;have PF:=r8 h;have IH:=(ED h).1;generalize az a.rn.l=PL at*;by_cases hl:PL.length=w.length
 case neg=>
  (repeat'((conv=>whnf);first|refine⟨_,PF,?_⟩|refine au (p:=(PL.length:Int)≠w.length) ab ?_|refine ez λ_=>?_|fail))<;>try(conv=>whnf)
  exact⟨.pv (.bool _),rfl,trivial,hK false (by simp;intro e;rw[<-e]at hl;simp at hl)⟩
 (repeat'((conv=>whnf);first|refine⟨_,PF,?_⟩|refine aw (p:=(PL.length:Int)≠w.length) ab ?_|refine ez λ_=>?_|fail))<;>try(conv=>whnf)
 refine⟨λm env σ=>∃n:Nat,(n+m=PL.length/\(PL.take n).map (λx=>decide (x≠ -1))=w.take n)/\σ=[]/\env=[(1,.pv (wq w)),(5,.pv (rI PL)),eN 6 n],PL.length,⟨0,⟨ab,rfl⟩,rfl,rfl⟩,?_⟩;rintro m env σ ⟨n,⟨hn,h0⟩,rfl,rfl⟩;by_cases aU:n<PL.length
 ·obtain⟨x,hx⟩:∃x,PL[n]?=some x:=⟨_,zah aU⟩
  obtain⟨y,hy⟩:∃y,w[n]?=some y:=⟨_,zah ab⟩
  have hyg:(w.map pB)[n]?=some (pB y):=by rw[za9,hy];rfl
  have fM:decide (x≠ -1)=y->(PL.take (n+1)).map (λx=>decide (x≠ -1))=w.take (n+1):=λe=>by
   rw[zcF,zcF,hx,hy,zbu,h0,<-e];rfl
  have no:decide (x≠ -1)≠y->K (.pv (.bool false)):=λhh=>hK false (by
   simp only[zct,false_iff];intro e;have:=congrArg (·[n]?) e;rw[za9,hx,hy]at this;exact hh (Option.some.inj this))
  (repeat'((conv=>whnf);first|refine bj ab ?_|refine au ab ?_|refine de (λ_=>?_) (λ_=>?_)|refine ez λ_=>?_|refine iY aA ?_|refine bT ?_|fail))<;>try(conv=>whnf)
  all_goals
   first
   |exact⟨.pv (.bool _),rfl,trivial,no nq⟩
   |exact⟨m-1,ab,n+1,⟨ab,fM nq⟩,rfl,rfl⟩
 ·(repeat'((conv=>whnf);first|refine aw ab ?_|refine ez λ_=>?_|fail))<;>try(conv=>whnf)
  rw[za1 ab,za1 ab]at h0;exact⟨.pv (.bool _),rfl,trivial,hK true ⟨λ_=>h0,λ_=>rfl⟩⟩
def awY(l:List Bool):∀x∈l.map pB,x.flat:=by
 intro x hx;obtain⟨b,_,rfl⟩:=zaX.1 hx;trivial
def QT(a:At)(f t:Int)(i:Nat):Bool:=(if a.rs=true then decide ((i:Int)*256<a.vl.length)else Jc (az a.rn.l) i)||(decide (f<t)&&decide ((i:Int)*256<t)&&decide (f<((i:Int)+1)*256))
def nJ(a:At)(f t sz:Int):List Bool:=(List.range (Iy sz 256).toNat).map (QT a f t)
def Jl(a:At)(f t sz:Int):(nJ a f t sz).length=(Iy sz 256).toNat:=by unfold nJ;rw[zav,zcP]
def aup{a:At}{f t sz:Int}{i:Nat}(h:i<(nJ a f t sz).length):(nJ a f t sz)[i]?=some (QT a f t i):=by
 rw[Jl]at h;unfold nJ;rw[za9,zbA h];rfl
def Jw(ps:List PV)(r:RV):Prop:=∃(a:At) (sz f t:Int),ps=[a.pv,pI sz,pI f,pI t]/\(dU a.rn.l=0/\0<=sz/\sz<=1000000/\a.vl.length<=1000000)/\r=.fresh 4 1 ((nJ a f t sz).map pB)
set_option maxRecDepth 4000 in
set_option maxHeartbeats 4000000 in
def alu:MT (ay [(71,c8 false dL),(76,ah Jv)]) zH (c8 true Jw):=by
 rintro _ K ⟨_,⟨a,sz,f,t,rfl,⟨h,h1,h2,h3⟩,rfl⟩,hK⟩;have PF:=r8 h;have IH:=(ED h).1;have bJ:=Jl a f t sz;have nk:Jv [pI sz,pI 256] (pI (Iy sz 256)):=⟨sz,256,rfl,ab,rfl⟩
 have hcb:0<=Iy sz 256/\Iy sz 256<=4000:=Cl;have hbb:∀i:Nat,i<(nJ a f t sz).length->(nJ a f t sz)[i]?=some (QT a f t i):=λi hi=>aup hi
 generalize nJ a f t sz=L at*;generalize Iy sz 256=C at*;unfold QT at hbb;generalize az a.rn.l=PL at*
 (repeat'((conv=>whnf);first|refine⟨_,PF,?_⟩|refine⟨_,nk,?_⟩|refine wz ?_|fail))<;>try(conv=>whnf)
 obtain⟨aty,anm,aid,afl,ars,avl,nL,arn,aal,asz,avd⟩:=a;simp only[At.rs,At.vl]at hbb h3;refine⟨λm env σ=>∃n:Nat,n+m=L.length/\σ=[.box 26 [.pv (pI aty),.pv (.str anm),.pv (pI aid),.pv (pI afl),.pv (pB ars),.pv (.str avl),.pv (pI nL),.pv (qF arn),.pv (pI aal),.pv (pI asz),.pv (pI avd)],.row 4 1 true ((L.take n++List.replicate (L.length-n) false).map pB)]/\
  env=[eN 2 f,eN 3 t,(4,.ref 0 0 0),(9,.pv (rI PL)),(10,.own 1),eN 11 n],L.length,⟨0,ab,by rw[List.take_zero,List.nil_append,Nat.sub_zero,List.map_replicate,bJ],rfl⟩,?_⟩
 rintro m env σ ⟨n,hn,rfl,rfl⟩;have SL:=aj3 (L:=L) (i:=n) (z:=false) ab;by_cases aU:n<L.length
 ·have hbb:=hbb n aU;have hs:=ai_ (z:=false) hbb;have LD:(n:Int)<4000:=ab;clear nk hK bJ;generalize hR:List.take n L++List.replicate (L.length-n) false=R at*;have vu:(R.map pB).length=L.length:=by rw[zav,SL]
  have qH:∀b1,((R.map pB).set (n:Int).toNat (pB b1)).length=L.length:=λb1=>by rw[List.length_set,vu]
  obtain⟨x,hx⟩:∃x,(R.map pB)[(n:Int).toNat]?=some (pB x):=by
   obtain⟨x,hx⟩:∃x,R[n]?=some x:=⟨_,zah ab⟩
   exact⟨x,by rw[zaC,za9,hx];rfl⟩
  have PH:∀b1,((R.map pB).set (n:Int).toNat (pB b1))[(n:Int).toNat]?=some (pB b1):=λb1=>by rw[zbL KG]
  have fin:∀b1 b2:Bool,(b2=true↔(if ars=true then(n:Int)*256<avl.length else PL[n]?.getD (-1)≠ -1)\/(f<t/\(n:Int)*256<t/\f<((n:Int)+1)*256))->
   (((R.map pB).set (n:Int).toNat (pB b1)).set (n:Int).toNat (pB b2))=(List.take (n+1) L++List.replicate (L.length-(n+1)) false).map pB:=λb1 b2 hb=>by
   have hb:b2=((if ars=true then decide ((n:Int)*256<avl.length)else Jc PL n)||decide (f<t)&&decide ((n:Int)*256<t)&&decide (f<((n:Int)+1)*256)):=by
    rw[zaN,hb];unfold Jc;cases ars<;>simp[and_assoc]
   rw[<-hs,<-hb,zaC,zdt,List.set_set]
  clear hs hbb hcb h1 h2;cases ars with
  |true=>
   simp only[if_true]at fin
   (conv=>whnf)
   refine λ_=>?_
   (conv=>whnf)
   refine au (p:=(n:Int)<(R.map pB).length) ab ?_
   (conv=>whnf)
   refine bj ab ?_
   (conv=>whnf)
   refine bj ab ?_
   (conv=>whnf)
   refine bj ab ?_
   (conv=>whnf)
   refine λb1 CV=>?_
   (conv=>whnf)
   refine⟨⟨ab,KG⟩,_,hx,rfl,?_⟩;clear h3;cases b1
   ·have XM:0<=(n:Int)/\(n:Int).toNat<((R.map pB).set (n:Int).toNat (pB false)).length:=⟨ab,K9⟩
    have PH:=PH false
    (conv=>whnf)
    refine zcC XM ?_
    (conv=>whnf)
    refine⟨_,PH,?_⟩
    (repeat'((conv=>whnf);first|refine⟨XM,_,PH,rfl,?_⟩|refine de (λ_=>?_) (λ_=>?_)|refine bj ab ?_|fail))<;>try(conv=>whnf)
    all_goals first
     |exact aai
     |exact aax
   ·have XM:0<=(n:Int)/\(n:Int).toNat<((R.map pB).set (n:Int).toNat (pB true)).length:=⟨ab,K9⟩
    have PH:=PH true
    (conv=>whnf)
    refine zcC XM ?_
    (conv=>whnf)
    refine⟨_,PH,?_⟩
    (repeat'((conv=>whnf);first|refine⟨XM,_,PH,rfl,?_⟩|refine bj ab ?_|fail))<;>try(conv=>whnf)
    all_goals first
     |exact⟨m-1,ab,n+1,ab,congrArg (λr=>[_,dC.row 4 1 true r]) (fin true true Ge),rfl⟩
     |exact⟨m-1,ab,n+1,ab,congrArg (λr=>[_,dC.row 4 1 true r]) (fin true false Ge),rfl⟩
  |false=>
   simp only[zct,if_false]at fin
   (conv=>whnf)
   refine λ_=>?_
   (conv=>whnf)
   refine au (p:=(n:Int)<(R.map pB).length) ab ?_
   (conv=>whnf)
   refine bj ab ?_
   (conv=>whnf)
   refine bj ab ?_
   (conv=>whnf)
   refine bj ab ?_;clear h3;by_cases hp:n<PL.length
   ·obtain⟨y,hy⟩:∃y,PL[n]?=some y:=⟨_,zah hp⟩
    rw[hy]at fin;simp only[zbC]at fin
    (conv=>whnf)
    refine λ_=>?_
    (conv=>whnf)
    refine au (p:=(n:Int)<(PL.map pI).length) oP ?_
    (conv=>whnf)
    refine⟨_,⟨ab,by rw[zaC,za9,hy];rfl⟩,?_⟩
    (conv=>whnf)
    refine λb1 CV=>?_
    (conv=>whnf)
    refine⟨⟨ab,KG⟩,_,hx,rfl,?_⟩;cases b1
    ·have XM:0<=(n:Int)/\(n:Int).toNat<((R.map pB).set (n:Int).toNat (pB false)).length:=⟨ab,K9⟩
     have PH:=PH false
     (conv=>whnf)
     refine zcC XM ?_
     (conv=>whnf)
     refine⟨_,PH,?_⟩
     (repeat'((conv=>whnf);first|refine⟨XM,_,PH,rfl,?_⟩|refine de (λ_=>?_) (λ_=>?_)|refine bj ab ?_|fail))<;>try(conv=>whnf)
     all_goals first
      |exact aai
      |exact aax
    ·have XM:0<=(n:Int)/\(n:Int).toNat<((R.map pB).set (n:Int).toNat (pB true)).length:=⟨ab,K9⟩
     have PH:=PH true
     (conv=>whnf)
     refine zcC XM ?_
     (conv=>whnf)
     refine⟨_,PH,?_⟩
     (repeat'((conv=>whnf);first|refine⟨XM,_,PH,rfl,?_⟩|refine bj ab ?_|fail))<;>try(conv=>whnf)
     all_goals first
      |exact⟨m-1,ab,n+1,ab,congrArg (λr=>[_,dC.row 4 1 true r]) (fin true true Ge),rfl⟩
      |exact⟨m-1,ab,n+1,ab,congrArg (λr=>[_,dC.row 4 1 true r]) (fin true false Ge),rfl⟩
   ·have hy:PL[n]?=none:=zaK ab;rw[hy]at fin;simp only[Option.getD_none]at fin
    (conv=>whnf)
    refine λ_=>?_
    (conv=>whnf)
    refine aw (p:=(n:Int)<(PL.map pI).length) oP ?_
    (conv=>whnf)
    refine⟨⟨ab,KG⟩,_,hx,rfl,?_⟩;have CV:false=true↔(-1:Int)≠ -1:=aj
    ·have XM:0<=(n:Int)/\(n:Int).toNat<((R.map pB).set (n:Int).toNat (pB false)).length:=⟨ab,K9⟩
     have PH:=PH false
     (conv=>whnf)
     refine zcC XM ?_
     (conv=>whnf)
     refine⟨_,PH,?_⟩
     (repeat'((conv=>whnf);first|refine⟨XM,_,PH,rfl,?_⟩|refine de (λ_=>?_) (λ_=>?_)|refine bj ab ?_|fail))<;>try(conv=>whnf)
     all_goals first
      |exact aai
      |exact aax
 ·(repeat'((conv=>whnf);first|refine aw ab ?_|refine ez λ_=>?_|fail))<;>try(conv=>whnf)
  rw[show L.length-n=0 by omega,List.replicate_zero,zbf,za1 ab];exact⟨.fresh _ _ _,⟨rfl,rfl,rfl,rfl⟩,awY _,hK⟩
def R4(ps:List PV)(r:RV):Prop:=∃(s:List UInt8) (n v:Int),ps=[.str s,pI n,pI v]/\(0<=n/\n<=4096/\n<=8*s.length/\s.length<=100000)/\r=.fresh 28 2 (mg (jf s v) n.toNat)
def ac_:MT (ay [(111,agb),(106,LL)]) y3 (c8 true R4):=by
 rintro args K ⟨_,⟨s,n,v,rfl,hp,rfl⟩,hK⟩;exact afA _ K ⟨s,n,v,rfl,hp,hK⟩
def Rf(ps:List PV)(r:RV):Prop:=∃(d:Dk) (a:At),ps=[d.pv,a.pv]/\(fH d/\d.n<=4096/\d.n<=8*d.mp.length/\d.mp.length<=100000/\a.rn.l.length<=1000000)/\
 r=.tup [.pv (pI a.rn.l.length),.pv (pI (bh (jf d.mp 0) d.n).length)]
set_option maxHeartbeats 1000000 in
def afc:MT (ay [(32,ah bA),(123,c8 true R4)]) JM (c8 true Rf):=by
 rintro _ K ⟨_,⟨d,a,rfl,⟨h1,h2,h3,h4,h5⟩,rfl⟩,hK⟩;have Nt:bA [d.pv] (pI d.n):=⟨d,rfl,h1.1,rfl⟩
 have hex:R4 [.str d.mp,pI d.n,pI 0] (.fresh 28 2 (mg (jf d.mp 0) d.n)):=⟨d.mp,d.n,0,rfl,ab,rfl⟩
 generalize d.n=N at*
 (repeat'((conv=>whnf);first|refine oQ ?_|refine KP ?_|refine⟨_,Nt,?_⟩|refine⟨_,hex,?_⟩|fail))<;>try(conv=>whnf)
 have e1:(mg (jf d.mp 0) N).length=(bh (jf d.mp 0) N).length:=zav _;have e2:(a.rn.l.map Rn.pv).length=a.rn.l.length:=zav _;rw[<-e1,<-e2]at hK;exact K0
def Yu{l:List Int}:bt l=l.length↔∀x∈l,x≠ -1:=by
 refine⟨λh=>aak h,λh=>?_⟩;unfold bt;rw[zbR.2 λx hx=>by simpa using h x hx]
def SK:Dk:=⟨ai (16384:Int).toNat,255::ai 7⟩
def agU(ps:List PV)(r:RV):Prop:=ps=[]/\r=.pv SK.pv
def TL:MT (ay [(82,ah fK)]) Sk (c8 false agU):=by
 rintro _ K ⟨_,⟨rfl,rfl⟩,hK⟩;have h1:fK [pI 16384] (.str (ai (16384:Int).toNat)):=⟨16384,rfl,ab,rfl⟩
 have h2:fK [pI 7] (.str (ai 7)):=⟨7,rfl,ab,rfl⟩
 unfold SK at hK;generalize ai (16384:Int).toNat=Z at*
 (repeat'((conv=>whnf);first|refine⟨_,h1,?_⟩|refine⟨_,h2,?_⟩|refine zcC (by simp[bn];first|done|fail) ?_|fail))<;>try(conv=>whnf)
 exact⟨.pv (Dk.pv ⟨Z,255::ai 7⟩),rfl,trivial,hK⟩
def Ut(ps:List PV)(x:PV):Prop:=∃(b:UInt8) (n:Int),ps=[.str [b],pI n]/\(0<=n/\n<=10000)/\x=.str (List.replicate n.toNat b)
def akY:MT (ay []) PS (ah Ut):=by
 rintro _ K ⟨_,⟨b,n,rfl,⟨h1,h2⟩,rfl⟩,hK⟩;obtain⟨R,hR⟩:∃R:Nat->List UInt8,R=λk=>List.replicate k b:=⟨_,rfl⟩
 have hR0:R 0=[]:=by rw[hR];rfl
 have hRs:∀k,R (k+1)=R k++[b]:=λk=>by rw[hR];exact List.replicate_succ'
 have hRl:∀k,(R k).length=k:=λk=>by rw[hR];exact zap
 have hK:K (.pv (.str (R n.toNat))):=by rw[hR];exact hK
 clear hR
 (conv=>whnf)
 refine⟨λm env σ=>∃k:Nat,k+m=n.toNat/\σ=[]/\env=[(0,.pv (.str [b])),eN 1 n,(5,.pv (.str (R k))),eN 6 k],n.toNat,⟨0,ab,rfl,by rw[hR0];rfl⟩,?_⟩;rintro m env σ ⟨k,hk,rfl,rfl⟩;have hl:=hRl k
 (repeat'((conv=>whnf);first|refine zcC (by(rw[hl,zbN];omega)) ?_|refine bj ab ?_|refine de (λ_=>?_) (λ_=>?_)|fail))<;>try(conv=>whnf)
 ·exact⟨m-1,ab,k+1,ab,rfl,by rw[hRs];rfl⟩
 ·have:k=n.toNat:=by omega
  subst this;exact bM
def wV(d:Dk)(a:At):Prop:=d.a_.length<=131584/\d.mp.length<=100/\a.rn.l.length<=80/\a.vl.length<=500/\a.nm.length<=60
def sJ(ps:List PV)(p:Prop):Prop:=∃(d:Dk) (a:At),ps=[d.pv,a.pv]/\p=wV d a
def ah3:MT (ay []) NY (bF sJ):=by
 rintro _ K ⟨_,⟨d,a,rfl,rfl⟩,hK⟩;unfold wV at hK
 (repeat'((conv=>whnf);first|refine KP ?_|refine de (λ_=>?_) (λ_=>?_)|refine ez λ_=>?_|fail))<;>try(conv=>whnf)
 all_goals exact YS
def aBz(d e:Dk):d=e↔[PV.str d.a_,PV.str d.mp]=[PV.str e.a_,PV.str e.mp]:=by
 cases d;cases e;simp
def asO(d:Dk)(a:At)(e c:Int):Prop:=e=c/\d=zD/\Td a zA
def Fv(ps:List PV)(p:Prop):Prop:=∃(d:Dk) (a:At) (e c:Int),ps=[d.pv,a.pv,pI e,pI c]/\a.rn.l.length<=1000000/\p=asO d a e c
def agP:MT (ay [(17,bF Av)]) KL (bF Fv):=by
 rintro _ K ⟨_,⟨d,a,e,c,rfl,h,rfl⟩,hK⟩;have hz:d=zD↔[PV.str d.a_,PV.str d.mp]=[PV.str [],PV.str []]:=aBz d zD;unfold asO at hK;rw[hz]at hK
 (repeat'((conv=>whnf);first|refine⟨_,⟨a,zA,rfl,⟨h,ao⟩,rfl⟩,?_⟩|refine de (λ_=>?_) (λ_=>?_)|fail))<;>try(conv=>whnf)
 all_goals exact yj
def aiK(a:Int):iV ⟨a,1⟩=[a]:=by
 unfold iV;simp only[show(1:Int).toNat=1 from rfl,List.range_one,zat,List.map_nil];split
 ·rename_i h;rw[h]
 ·simp
def aqA{q:Rn}{a:Int}(hq:0<=q.n)(h:(a= -1/\q.s= -1)\/(a≠ -1/\q.s≠ -1/\q.s+q.n=a)):iV ⟨q.s,q.n+1⟩=iV q++[a]:=by
 unfold iV;simp only;rw[show(q.n+1).toNat=q.n.toNat+1 by omega,zdk,zbu];congr 1;simp only[zat,List.map_nil];split
 ·rw[show a= -1 by omega]
 ·rw[show q.s+((q.n.toNat:Nat):Int)=a by omega]
def Ff(a b:List Rn):az (a++b)=az a++az b:=by unfold az;rw[zaz]
def EN(r:Rn):az [r]=iV r:=by simp[az]
def ao0{acc:List Rn}{a:Int}(h:∀r∈acc,0<=r.n):az (qV acc a)=az acc++[a]:=by
 unfold qV;cases hl:acc.getLast? with
 |none=>
  have:acc=[]:=Lu;subst this;simp only[EN,aiK];rfl
 |some q=>
  simp only;have cb:acc≠[]:=by intro e;subst e;cases hl
  have e:acc.dropLast++[q]=acc:=by
   have e1:=zdm cb;rw[zdu cb]at hl;rw[<-Option.some.inj hl];exact e1
  split
  ·rename_i hj;rw[Ff,EN,aqA (h q (zds hl)) hj,<-zaj];congr 1;rw[<-EN,<-Ff,e]
  ·rw[Ff,EN,aiK]
def ZB{l:List Int}(h:∀a∈l,-1<=a/\a<=1000000):az (nS l)=l:=by
 have:∀n,n<=l.length->az (nS (l.take n))=l.take n:=by
  intro n
  induction n with
  |zero=>intro _;simp[nS,az]
  |succ n ih=>
   intro hn;have ha:l[n]?=some l[n]:=zah ab;rw[Fh ha,ao0 (λr hr=>by have:=((agT h n).2 r hr).1.1;omega),ih ab,zcF,ha];rfl
 have:=this l.length (zai _);rwa[zcN]at this
def yw(l:List Int):Prop:=l.Pairwise λa b=>a≠ -1->a≠b
def XD{l:List Int}(h:yw l){i j:Nat}{x:Int}(hi:l[i]?=some x)(hj:l[j]?=some x)(hx:x≠ -1):i=j:=by
 unfold yw at h;rw[zdl]at h;obtain⟨ud,j9⟩:=zaa.1 hi;obtain⟨oX,Gx⟩:=zaa.1 hj;rcases zbH i j with aU|heq|aU
 ·exact absurd (by rw[j9,Gx]) (h i j ud oX aU (by rw[j9];exact hx))
 ·exact heq
 ·exact absurd (by rw[j9,Gx]) (h j i oX ud aU (by rw[Gx];exact hx))
def Xt{l:List Int}(h:∀(i j:Nat) (x:Int),l[i]?=some x->l[j]?=some x->x≠ -1->i=j):yw l:=by
 unfold yw;rw[zdl];intro i j hi hj zk hx e;have:=h i j l[i] (zah hi) (by rw[zah hj,e]) hx;omega
def asW{l:List Rn}{k:Nat}{r:Rn}(h:l[k]?=some r)(h0:Wx l k=0){j:Nat}{q:Rn}(hj:j<k)(hq:l[j]?=some q):¬pE q r:=by
 intro hs;have hr:=Jr h h0;unfold Wx at h0;rw[h]at h0;simp only[hr,not_true_eq_false,if_false]at h0;split at h0
 ·cases h0
 ·rw[if_pos ⟨j,hj,q,hq,hs⟩]at h0;cases h0
def ain{r:Rn}{x:Int}(h:x∈iV r)(hx:x≠ -1):r.s≠ -1/\r.s<=x/\x<r.s+r.n:=by
 unfold iV at h;obtain⟨i,hi,rfl⟩:=zaX.1 h;have:=zbm.1 hi;split at hx
 ·exact absurd rfl hx
 ·rename_i hs;rw[if_neg hs];omega
def as4(r:Rn):yw (iV r):=by
 unfold yw iV;rw[zdK];refine List.Pairwise.imp ?_ zbY;intro i j zk h1 h2;by_cases hs:r.s= -1
 ·rw[if_pos hs]at h1;exact h1 rfl
 ·rw[if_neg hs,if_neg hs]at h2;omega
def u0{l:List Rn}(h:dU l=0):yw (az l):=by
 have g:=bZ h;unfold az yw;refine zdr.2 ⟨λr _=>as4 r,?_⟩;rw[zdl];intro i j hi hj zk x hx y hy I_ zn;have hs:=asW (zah hj) (g.2.1 j hj) zk (zah hi);have h1:=ain hx I_;have h2:=ain hy (by rw[<-zn];exact I_);exact hs ⟨h1.1,h2.1,ab,ab⟩
def ai1{ps:List (List UInt8)}{pl:List Int}{k:Nat}:∀{n:Nat},k<vF ps pl n→∃i,i<n/\G8 ps pl i=true/\vF ps pl i=k
 |0,h=>by cases h
 |n+1,h=>by
  by_cases h1:k<vF ps pl n
  ·obtain⟨i,h2,h3⟩:=ai1 h1;exact⟨i,ab,h3⟩
  ·rw[xP]at h
   grind
def ae2{ps:List (List UInt8)}{pl:List Int}{i j:Nat}(h:i<j)(hm:G8 ps pl i=true):vF ps pl i<vF ps pl j:=by
 have h1:vF ps pl (i+1)<=vF ps pl j:=RP ps pl ab;rw[xP,if_pos hm]at h1;omega
structure axB(s:St)(ps:List (List UInt8))(P:Nat->Int)(b3:Nat->Bool):Prop where
 no:∀i,jz ps i=false->P i= -1
 yes:∀i,i<ps.length->jz ps i=true->0<=P i/\P i<s.d.n
 inj:∀i j,i<ps.length->j<ps.length->jz ps i=true->P i=P j->i=j
 bit:∀c,c<s.d.n->(b3 c=true↔(∃i,i<ps.length/\jz ps i=true/\P i=c)\/((c:Int)∉s.pl/\df s.d c=true))
 free:∀i,i<ps.length->jz ps i=true->P i∉s.pl->df s.d (P i).toNat=false
def ay6{s:St}(h:adA s){ps:List (List UInt8)}(hl:ps.length<=1000)(he:w_ ps s.pl (df s.d) s.d.n=0):
 (pN ps s.pl (df s.d) s.d.n).length=lT ps s.pl/\(pN ps s.pl (df s.d) s.d.n).Nodup∧∀x∈pN ps s.pl (df s.d) s.d.n,(0<=x/\x<s.d.n)/\sq ps s.pl (df s.d) x.toNat=false:=by
 unfold pN;by_cases hm:lT ps s.pl=0
 ·simp_all
 ·rw[if_neg hm];unfold w_ at he;rw[if_neg hm]at he;have hg:=ag0 (auh h hl hm he);have Vv:=DF (l:=cQ (sq ps s.pl (df s.d)) s.d.n) (by rw[ck];have:=h.n;omega);refine⟨by unfold qv;omega,hg.2.2,λx hx=>?_⟩;have g:=hg.2.1 x hx;refine⟨g.1,?_⟩;have g2:=g.2;rw[Vv.2,if_pos kD,bO ab,zbC]at g2;cases hb:sq ps s.pl (df s.d) x.toNat with
  |false=>rfl
  |true=>rw[hb]at g2;exact absurd g2 ao
def Xd{ps:List (List UInt8)}{pl:List Int}{i:Nat}:nD ps pl i≠ -1↔jz ps i=true/\pl[i]?.getD (-1)≠ -1:=by
 unfold nD
 grind
def SD{ps:List (List UInt8)}{pl:List Int}{i:Nat}(h:nD ps pl i≠ -1):pl[i]?=some (nD ps pl i):=by
 obtain⟨h1,h2⟩:=Xd.1 h;unfold nD
 grind
def TA{ps:List (List UInt8)}{pl:List Int}{i:Nat}(h:jz ps i=true):G8 ps pl i=true↔nD ps pl i= -1:=by
 unfold G8;rw[h];simp
def atl{s:St}(h:adA s)(hd:yw s.pl){ps:List (List UInt8)}(hl:ps.length<=1000)(he:w_ ps s.pl (df s.d) s.d.n=0):
 axB s ps (CQ ps s.pl (pN ps s.pl (df s.d) s.d.n)) (ZJ (pN ps s.pl (df s.d) s.d.n) (sq ps s.pl (df s.d))):=by
 have CX:=λi hi hn=>auU h hl he (i:=i) hi hn
 obtain⟨f1,f2,f3⟩:=ay6 h hl he;generalize pN ps s.pl (df s.d) s.d.n=fr at*;have sQ:∀i,nD ps s.pl i≠ -1->CQ ps s.pl fr i=nD ps s.pl i:=λi hk=>by
  unfold CQ;rw[if_neg];intro hm;exact hk ((TA (Xd.1 hk).1).1 hm)
 have SH:∀c:Int,c≠ -1->(c∈Qg ps s.pl↔∃i,i<ps.length/\nD ps s.pl i=c):=λc hc=>by
  unfold Qg;rw[zaE];constructor
  ·rintro⟨i,hi⟩;have aU:i<ps.length:=by have:=(zaa.1 hi).1;rwa[ck]at this
   rw[bO aU]at hi;exact⟨i,aU,Option.some.inj hi⟩
  ·rintro⟨i,hi,e⟩;exact⟨i,by rw[bO hi,e]⟩
 have t_:∀c:Nat,sq ps s.pl (df s.d) c=if (c:Int)∈s.pl then decide ((c:Int)∈Qg ps s.pl)else df s.d c:=λc=>rfl
 have fq:∀i,G8 ps s.pl i=true->CQ ps s.pl fr i=fr[vF ps s.pl i]?.getD 0:=λi hm=>by unfold CQ;rw[if_pos hm]
 have pe:∀i,i<ps.length->G8 ps s.pl i=true->fr[vF ps s.pl i]?=some (CQ ps s.pl fr i):=λi hi hm=>by
  have hc:vF ps s.pl i<fr.length:=by rw[f1];exact ae2 hi hm
  have hx:fr[vF ps s.pl i]?=some fr[vF ps s.pl i]:=zah hc;rw[fq i hm,hx,zbC]
 refine⟨λi hi=>?_,CX,λi j hi hj hn e=>?_,λc hc=>?_,λi hi hn hnp=>?_⟩
 ·unfold CQ G8 nD;rw[hi];simp
 ·have hnj:jz ps j=true:=by
   by_cases g:jz ps j=true
   ·exact g
   ·have:CQ ps s.pl fr j= -1:=by unfold CQ G8 nD;simp[g]
    have:=(CX i hi hn).1;omega
  by_cases ki:nD ps s.pl i= -1
  ·have mi:=(TA hn).2 ki;by_cases kj:nD ps s.pl j= -1
   ·have mj:=(TA hnj).2 kj;have gi:=pe i hi mi;have gj:=pe j hj mj;rw[<-e]at gj;have heq:vF ps s.pl i=vF ps s.pl j:=by
     have h1:=(zaa.1 gi)
     have h2:=(zaa.1 gj)
     obtain⟨gT,ph⟩:=h1;obtain⟨h21,h22⟩:=h2;have f2:=zdl.1 f2;rcases zbH (vF ps s.pl i) (vF ps s.pl j)with aU|he|aU
     ·exact absurd (by rw[ph,h22]) (f2 _ _ gT h21 aU)
     ·exact he
     ·exact absurd (by rw[ph,h22]) (f2 _ _ h21 gT aU)
    rcases zbH i j with aU|he|aU
    ·have:=ae2 aU mi;omega
    ·exact he
    ·have:=ae2 aU mj;omega
   ·exfalso;have g:=(f3 _ (zag (pe i hi mi))).2;rw[e,sQ j kj,t_]at g;have nd:=CX j hj hnj;rw[sQ j kj]at nd;have av0:((nD ps s.pl j).toNat:Int)=nD ps s.pl j:=ab;rw[av0,if_pos (Dr kj)]at g;rw[decide_eq_true ((SH _ kj).2 ⟨j,hj,rfl⟩)]at g;cases g
  ·by_cases kj:nD ps s.pl j= -1
   ·exfalso;have mj:=(TA hnj).2 kj;have g:=(f3 _ (zag (pe j hj mj))).2;rw[<-e,sQ i ki,t_]at g;have jB:=CX i hi hn;rw[sQ i ki]at jB;have av0:((nD ps s.pl i).toNat:Int)=nD ps s.pl i:=ab;rw[av0,if_pos (Dr ki)]at g;rw[decide_eq_true ((SH _ ki).2 ⟨i,hi,rfl⟩)]at g;cases g
   ·rw[sQ i ki,sQ j kj]at e;have gi:=SD ki;have gj:=SD kj;rw[<-e]at gj;exact XD hd gi gj ki
 ·unfold ZJ;rw[zbD,decide_eq_true_eq,t_];constructor
  ·rintro(g|g)
   ·by_cases hp:(c:Int)∈s.pl
    ·rw[if_pos hp,decide_eq_true_eq,SH _ ab]at g;obtain⟨i,hi,e⟩:=g;have hk:nD ps s.pl i≠ -1:=ab;exact .inl ⟨i,hi,(Xd.1 hk).1,by rw[sQ i hk,e]⟩
    ·rw[if_neg hp]at g;exact .inr ⟨hp,g⟩
   ·obtain⟨k,hk⟩:=zaE.1 g;have AP:k<vF ps s.pl ps.length:=by
     have:=(zaa.1 hk).1;rw[f1]at this;exact this
    obtain⟨i,hi,hm,e⟩:=ai1 AP;have g2:=pe i hi hm;rw[e,hk]at g2;refine .inl ⟨i,hi,?_,(Option.some.inj g2).symm⟩;unfold G8 at hm;exact(zaU _ _▸hm).1
  ·rintro(⟨i,hi,hn,e⟩|⟨hp,hb⟩)
   ·by_cases ki:nD ps s.pl i= -1
    ·right;have:=zag (pe i hi ((TA hn).2 ki));rwa[e]at this
    ·left;rw[sQ i ki]at e;have hm:=Dr ki;rw[e]at hm ki;rw[if_pos hm,decide_eq_true_eq,SH _ ki];exact⟨i,hi,e⟩
   ·left;rw[if_neg hp,hb]
 ·have ki:nD ps s.pl i= -1:=Classical.byContradiction λhk=>hnp (by rw[sQ i hk];exact Dr hk)
  have g:=(f3 _ (zag (pe i hi ((TA hn).2 ki)))).2;have hy:=CX i hi hn;rw[t_,show((CQ ps s.pl fr i).toNat:Int)=CQ ps s.pl fr i by omega,if_neg hnp]at g;exact g
def axK(B:List UInt8)(k:Nat):eU B k=(B.drop (256*k)).take 256:=by
 unfold eU cut;rw[zdw]
 grind
def aaH{B:List UInt8}{k i:Nat}(hi:i<256):(eU B k)[i]?=B[256*k+i]?:=by
 rw[axK,zcY hi,zaB]
def asH{B p:List UInt8}{k:Nat}(h:256*(k+1)<=B.length)(hp:p.length=256)(j:Nat):(MF B k p)[j]?=if 256*k<=j/\j<256*k+256 then p[j-256*k]? else B[j]?:=by
 unfold MF
 grind
def anf{a b:List UInt8}(ha:a.length=256)(hb:b.length=256)(h:∀i:Nat,i<256->a[i]?=b[i]?):a=b:=by
 refine zba λi=>?_
 grind
def ahQ{B p:List UInt8}{k c:Nat}(h:256*(k+1)<=B.length)(hp:p.length=256)(hc:256*(c+1)<=B.length):eU (MF B k p) c=if c=k then p else eU B c:=by
 have hl:(MF B k p).length=B.length:=Yb ab hp;refine anf (gI ab) (by split;exact hp;exact gI ab) λi hi=>?_
 rw[aaH hi,asH h hp];by_cases hck:c=k
 ·grind
 ·rw[if_neg hck,if_neg ab,aaH hi]
def aec{B:List UInt8}{ps:List (List UInt8)}{P:Nat->Int}(hp:aBE ps)(hP:∀i,jz ps i=true->0<=P i/\(P i+1)*256<=B.length)
 (aDS:∀i j,jz ps i=true->jz ps j=true->P i=P j->i=j) {c:Nat} (hc:256*(c+1)<=B.length):∀n,
 (∀i,i<n->jz ps i=true->P i=c->eU (WA B ps P n) c=ps[i]?.getD [])/\((∀i,i<n->jz ps i=true->P i≠c)->eU (WA B ps P n) c=eU B c)
 |0=>⟨λi hi=>ab,λ_=>rfl⟩
 |n+1=>by
  obtain⟨za,zb⟩:=aec hp hP aDS hc n;have hl:=RW (B:=B) hp hP n;rw[TJ];by_cases hn:jz ps n=true
  ·rw[if_pos hn];have h1:=hP n hn;obtain⟨p,h2,h3⟩:=RJ.1 hn;have h4:(ps[n]?.getD []).length=256:=by rw[h2];exact(hp p (zag h2)).resolve_left h3
   rw[ahQ ab h4 ab]
   grind
  grind
def wD{ps:List (List UInt8)}{i:Nat}(h:jz ps i=true):i<ps.length:=by
 obtain⟨p,h2,_⟩:=RJ.1 h
 grind
structure Bu(s:St)(ps:List (List UInt8))(P:Nat->Int)(D:Dk):Prop where
 len:D.a_.length=s.d.a_.length
 kW:∀i,jz ps i=true->eU D.a_ (P i).toNat=ps[i]?.getD []
 aBv:∀c,c<s.d.n->(∀i,jz ps i=true->P i≠c)->eU D.a_ c=eU s.d.a_ c
 bm:nu D.mp s.d.n=0
 bit:∀c,c<s.d.n->(bH D.mp c=1↔(∃i,i<ps.length/\jz ps i=true/\P i=c)\/((c:Int)∉s.pl/\bH s.d.mp c=1))
def aCI{s:St}(h:adA s){C:List UInt8}{dt:Nat->Prop}(hl:(aQ s C dt).length<=1000)(hp:axB s (aQ s C dt) (Be s C dt) (ZJ (pN (aQ s C dt) s.pl (df s.d) s.d.n) (sq (aQ s C dt) s.pl (df s.d)))):
 Bu s (aQ s C dt) (Be s C dt) (XY s C dt):=by
 have LQ:=auv s C dt;have hn:=h.n;have hP:∀i,jz (aQ s C dt) i=true->0<=Be s C dt i/\(Be s C dt i+1)*256<=s.d.a_.length:=λi hi=>by
  have:=hp.yes i (wD hi) hi;unfold Dk.n at this;omega
 have aDS:∀i j,jz (aQ s C dt) i=true->jz (aQ s C dt) j=true->Be s C dt i=Be s C dt j->i=j:=λi j hi hj e=>hp.inj i j (wD hi) (wD hj) hi e
 have mE:=λ(c:Nat) (hc:256*(c+1)<=s.d.a_.length)=>aec LQ hP aDS hc (aQ s C dt).length
 have Vv:=DF (l:=cQ (ZJ (pN (aQ s C dt) s.pl (df s.d) s.d.n) (sq (aQ s C dt) s.pl (df s.d))) s.d.n) kD;rw[ck]at Vv;refine⟨RW LQ hP _,λi hi=>?_,λc hc hm=>?_,Vv.1,λc hc=>?_⟩
 ·have h1:=hP i hi;exact(mE (Be s C dt i).toNat ab).1 i (wD hi) hi ab
 ·exact(mE c Se).2 λi _ hi=>hm i hi
 ·show bH (mG _) c=1↔_;rw[Vv.2,if_pos hc,bO hc,zbC];have hb:=hp.bit c hc;have e:mS (ZJ (pN (aQ s C dt) s.pl (df s.d) s.d.n) (sq (aQ s C dt) s.pl (df s.d)) c)=1↔ZJ (pN (aQ s C dt) s.pl (df s.d) s.d.n) (sq (aQ s C dt) s.pl (df s.d)) c=true:=by
   cases ZJ (pN (aQ s C dt) s.pl (df s.d) s.d.n) (sq (aQ s C dt) s.pl (df s.d)) c<;>simp[mS]
  rw[e,hb];unfold df
  simp_all
def ta(C:List UInt8)(i:Nat):UInt8:=C[i]?.getD 0
def LW{n i:Nat}(h:i<n):(ai n)[i]?=some 0:=by
 unfold ai
 grind
def KE{l:List UInt8}{n i:Nat}(h:l.length<=n)(hi:i<n):(mF l n)[i]?=some (ta l i):=by
 unfold mF ta;by_cases g:i<l.length
 ·grind
 ·rw[zak ab,LW ab,zaK ab];rfl
def Bi{a b:List UInt8}{n:Nat}(ha:a.length=n)(hb:b.length=n)(h:∀i:Nat,i<n->a[i]?=b[i]?):a=b:=by
 refine zba λi=>?_
 grind
def ahO(m:Nat)(C:List UInt8)(i:Nat):List UInt8:=mF ((C.drop (m*i)).take m) m
def Z6(m:Nat)(C:List UInt8)(i:Nat):(ahO m C i).length=m:=BB eI
def YP{m:Nat}{C:List UInt8}{i j:Nat}(h:j<m):(ahO m C i)[j]?=some (ta C (m*i+j)):=by
 unfold ahO;rw[KE eI h];unfold ta
 grind
def ahz{m:Nat}(f:Nat->List UInt8)(h:∀i,(f i).length=m)(n:Nat):((List.range n).flatMap f).length=m*n:=by
 induction n with
 |zero=>simp
 |succ n ih=>
  rw[zdk,zaz,zad,ih]
  grind
def am8{m:Nat}{C:List UInt8}{n:Nat}(h:C.length<=m*n):(List.range n).flatMap (ahO m C)=mF C (m*n):=by
 have key:∀k i:Nat,i<m*k->((List.range k).flatMap (ahO m C))[i]?=some (ta C i):=by
  intro k
  induction k with
  |zero=>omega
  |succ k ih=>
   intro i hi;have hl:=ahz (ahO m C) (Z6 m C) k;rw[zdk,zaz];simp only[zan,List.flatMap_nil,zbf];by_cases g:i<m*k
   ·grind
   ·rw[Nat.mul_succ]at hi;rw[zak ab,hl,YP ab,show m*k+(i-m*k)=i by omega]
 refine Bi (ahz _ (Z6 m C) n) (BB h) λi hi=>?_
 rw[key n i hi,KE h hi]
def alm{a:At}{out C:List UInt8}(hs:a.sz=C.length)(hv:0<=a.vd/\a.vd<=C.length)(ho:∀i:Nat,(i:Int)<a.vd->out[i]?=some (ta C i))(hz:∀i:Nat,a.vd<=i->ta C i=0):nA a out=C:=by
 have hl:=OO a out;have sS:a.vd.toNat<=out.length:=by
  grind
 have htl:(out.take a.vd.toNat).length=a.vd.toNat:=nq;refine Bi (n:=C.length) ab rfl λi hi=>?_
 unfold nA;rw[zcY ab,KE ab ab];have hc:C[i]?=some (ta C i):=by unfold ta;grind
 rw[hc];congr 1;by_cases g:(i:Int)<a.vd
 ·show(out.take a.vd.toNat)[i]?.getD 0=ta C i
  grind
 ·have h1:=hz i ab;rw[h1];show(out.take a.vd.toNat)[i]?.getD 0=0
  grind
section
structure GZ(s:St)(C:List UInt8)(v:Int)(dt:Nat->Prop):Prop where
 len:C.length<=32768
 vb:0<=v/\v<=C.length
 z:∀i:Nat,v<=i->ta C i=0
 sp:s.a.fl/2%2=1→∀i,¬dt i→∀j,j<256->ta C (256*i+j)=0
def aue{m:Nat}{C:List UInt8}{i:Nat}(h:∀j,j<m->ta C (m*i+j)=0):ahO m C i=ai m:=
 Bi (Z6 m C i) (bn m) λj hj=>by rw[YP hj,h j hj,LW hj]
def Mr{α β:Type}{l:List α}{f g:α->List β}(h:∀x∈l,f x=g x):l.flatMap f=l.flatMap g:=by
 induction l with
 |nil=>rfl
 |cons a l ih=>grind
def Xn{s:St}{C:List UInt8}{dt:Nat->Prop}(hc:¬s.a.fl%2=1){i:Nat}(hi:i<(C.length+255)/256):(aQ s C dt)[i]?=some (dv (s.a.fl/2%2=1) dt C i):=by
 unfold aQ
 grind
def aAU{s:St}{C:List UInt8}{v:Int}{dt:Nat->Prop}{D:Dk}{P:Nat->Int}(hc:¬s.a.fl%2=1)(h:GZ s C v dt)(tT:∀i,jz (aQ s C dt) i=false->P i= -1)
 (CX:∀i,jz (aQ s C dt) i=true->0<=P i) (hd:Bu s (aQ s C dt) P D):rz D.a_ (cQ P (aQ s C dt).length)=mF C (256*((C.length+255)/256)):=by
 have hl:(aQ s C dt).length=(C.length+255)/256:=by rw[sK,if_neg hc]
 rw[<-am8 (m:=256) (C:=C) ab,hl];unfold rz cQ;rw[zdy];refine Mr λi hi=>?_
 have hi:=zbm.1 hi;have hp:=Xn (dt:=dt) hc hi;by_cases hn:jz (aQ s C dt) i=true
 ·have h1:=CX i hn;rw[if_neg ab,hd.kW i hn,hp,zbC];unfold dv;split
  ·obtain⟨p,h2,h3⟩:=RJ.1 hn;rw[hp]at h2;unfold dv at h2
   grind
  ·rfl
 ·have hn:jz (aQ s C dt) i=false:=by simpa using hn
  rw[if_pos (tT i hn)];refine(aue λj hj=>?_).symm;have um:dv (s.a.fl/2%2=1) dt C i=[]:=by
   unfold jz at hn
   simp_all
  unfold dv at um;split at um
  ·rename_i g;exact h.sp g.1 i g.2 j hj
  ·have h5:=congrArg List.length um;rw[BB eI]at h5;cases h5
def XG{C:List UInt8}{k j:Nat}(hj:j<16):∀{n:Nat},k<n->(qy C n)[16*k+j]?=some (((j_ (wa C k)).drop (j*256)).take 256)
 |0,h=>by cases h
 |n+1,h=>by
  have hl:=afF C n;rw[aaN];by_cases g:k<n
  ·rw[zaq ab];exact XG hj g
  ·unfold HU
   grind
def aqD(Q:List UInt8)(n:Nat):(List.range n).flatMap (λj=>(Q.drop (j*256)).take 256)=Q.take (256*n):=by
 induction n with
 |zero=>simp
 |succ n ih=>
  rw[zdk,zaz,ih,Nat.mul_succ,List.take_add]
  grind
def adN{P:Nat->Int}{n k:Nat}(h:k<n):bq (cQ P (16*n)) k=(List.range 16).map λj=>P (16*k+j):=by
 refine zba λi=>?_
 unfold bq;by_cases hi:i<16
 ·rw[zcY hi,zaB,bO ab,za9,zbA hi];rfl
 grind
def Y9(n:Nat):eE (16*n)=n:=FO
def aqv(C:List UInt8)(k:Nat):wa C k=ahO 4096 C k:=rfl
section
variable {s:St} {C:List UInt8} {v:Int} {dt:Nat->Prop} {D:Dk} {P:Nat->Int}
def aa9(hc:s.a.fl%2=1):aQ s C dt=qy C ((C.length+4095)/4096):=by unfold aQ;rw[if_pos hc]
def aop(hc:s.a.fl%2=1)(tT:∀i,jz (aQ s C dt) i=false->P i= -1)(CX:∀i,jz (aQ s C dt) i=true->0<=P i)(hd:Bu s (aQ s C dt) P D){k:Nat}(hk:k<(C.length+4095)/4096):
 dF D.a_ (bq (cQ P (16*((C.length+4095)/4096))) k)=j_ (wa C k):=by
 rw[adN hk];unfold dF;rw[zdy];have e:j_ (wa C k)=(List.range 16).flatMap (λj=>((j_ (wa C k)).drop (j*256)).take 256):=by
  rw[aqD,za1 (ai9 (AF C k))]
 conv=>rhs;rw[e]
 refine Mr λj hj=>?_
 have hj:=zbm.1 hj;have hp:(aQ s C dt)[16*k+j]?=some (((j_ (wa C k)).drop (j*256)).take 256):=by rw[aa9 hc];exact XG hj hk
 unfold tS;by_cases hn:jz (aQ s C dt) (16*k+j)=true
 ·have h1:=CX _ hn;rw[if_neg ab,hd.kW _ hn,hp];rfl
 ·have hn:jz (aQ s C dt) (16*k+j)=false:=by simpa using hn
  unfold jz at hn
  grind
def aCE(hc:s.a.fl%2=1)(tT:∀i,jz (aQ s C dt) i=false->P i= -1)(CX:∀i,jz (aQ s C dt) i=true->0<=P i)(hd:Bu s (aQ s C dt) P D):
 ow D.a_ (chunks (cQ P (aQ s C dt).length))=mF C (4096*((C.length+4095)/4096)):=by
 have hl:(aQ s C dt).length=16*((C.length+4095)/4096):=QS;rw[<-am8 (m:=4096) (C:=C) ab,hl];unfold ow chunks;rw[zdy,ck,Y9];refine Mr λk hk=>?_
 rw[aop hc tT CX hd (zbm.1 hk),(Dx (AF C k)).1];rfl
def aBR(h:GZ s C v dt)(tT:∀i,jz (aQ s C dt) i=false->P i= -1)(CX:∀i,jz (aQ s C dt) i=true->0<=P i)(hd:Bu s (aQ s C dt) P D){a:At}(hf:a.fl=s.a.fl)(hs:a.sz=C.length)(hv:a.vd=v):
 nA a (if a.fl%2=1 then ow D.a_ (chunks (cQ P (aQ s C dt).length))else rz D.a_ (cQ P (aQ s C dt).length))=C:=by
 have hb:=h.vb;refine alm hs (by rw[hv];exact hb) (λi hi=>?_) λi hi=>h.z i ab
 split
 ·rw[aCE ab tT CX hd];exact KE ab ab
 ·rw[aAU ab h tT CX hd];exact KE ab ab
end
end
section
def ajP{l:List Int}(h:∀x∈l,x=0):bQ l=0:=by
 induction l with
 |nil=>rfl
 |cons a l ih=>
  have ha:=h a aj;simp only[bQ,if_true]
  grind
def aqQ{f:Nat->Int}{n:Nat}(h:∀i,i<n->f i=0):TE f n=0:=by
 refine ajP λx hx=>?_
 grind
def apC{u:List UInt8}(h:u=ai u.length):j_ u=[]:=by unfold j_;rw[if_pos h]
def aiN{l:List Int}{k:Nat}{x:Int}(h:x∈bq l k):x∈l:=by
 unfold bq at h
 grind
section
variable {s:St} {C:List UInt8} {v:Int} {dt:Nat->Prop} {D:Dk} {P:Nat->Int}
def asb(hc:s.a.fl%2=1)(h:GZ s C v dt)(tT:∀i,jz (aQ s C dt) i=false->P i= -1)(CX:∀i,jz (aQ s C dt) i=true->0<=P i)(hd:Bu s (aQ s C dt) P D)(qG:MH D.a_ (cQ P (aQ s C dt).length)):
 qw D.a_ v (chunks (cQ P (aQ s C dt).length))=0:=by
 have hl:(aQ s C dt).length=16*((C.length+4095)/4096):=QS;have mE:=om (cQ P (aQ s C dt).length);rw[ck]at mE;refine aqQ λk hk=>?_
 have AP:k<(C.length+4095)/4096:=ab;rw[p_ _ (by rw[ck];unfold eE;omega),zbC];have fM:dF D.a_ (bq (cQ P (aQ s C dt).length) k)=j_ (wa C k):=by rw[hl];exact aop hc tT CX hd AP
 have xf:=(Dx (AF C k)).1;have Vr:=AF C k;unfold xC;rw[fM,xf,if_neg aj,if_neg];rintro(⟨g1,g2⟩|g)
 ·have h0:dF D.a_ (bq (cQ P (aQ s C dt).length) k)=[]:=by
   rw[fM];exact apC (by rw[Vr];exact g2)
  rw[TQ λx hx=>qG x (aiN hx)]at h0;omega
 ·refine g ?_;refine Bi (n:=4096-mZ v k) nq (bn _) λj hj=>?_
  rw[zaB,aqv,YP ab,LW hj];congr 1;exact h.z _ (by unfold mZ at hj ⊢;omega)
def axc(hc:s.a.fl%2=1)(tT:∀i,jz (aQ s C dt) i=false->P i= -1)(CX:∀i,jz (aQ s C dt) i=true->0<=P i):∀c∈chunks (cQ P (aQ s C dt).length),mh c:=by
 have hl:(aQ s C dt).length=16*((C.length+4095)/4096):=QS;intro c AQ;unfold chunks at AQ;rw[ck]at AQ;obtain⟨k,hk,rfl⟩:=zaX.1 AQ;have hk:=zbm.1 hk;rw[hl,Y9]at hk;rw[hl,adN hk];unfold mh;rcases Az (p:=λy:Int=>y= -1) ((List.range 16).map λj=>P (16*k+j))with⟨h1,_⟩|⟨i,x,h1,h2,h3,_⟩
 ·omega
 ·right;rw[h1,zaC,Oq];have hi:i<16:=bf;have Gr:∀j,j<16->(aQ s C dt)[16*k+j]?=some (((j_ (wa C k)).drop (j*256)).take 256):=λj hj=>by rw[aa9 hc];exact XG hj hk
  have z_:jz (aQ s C dt) (16*k+i)=false:=by
   grind
  have hlen:(j_ (wa C k)).length<=i*256:=by
   unfold jz at z_
   simp_all
  intro y hy;obtain⟨j,hj⟩:=zaE.1 hy;rw[zaB]at hj;have aHH:i+j<16:=bf;rw[za9,zbA aHH]at hj;rw[<-Option.some.inj hj];refine tT _ ?_;unfold jz;rw[Gr (i+j) aHH,zbC,zb8 (zay hlen (Nat.mul_le_mul_right 256 (Nat.le_add_right i j)))];simp
end
end
structure asc(s:St)(C:List UInt8)(v:Int)(dt:Nat->Prop):Prop where
 op:aK (XY s C dt) (Gv s C v dt)=0
 fN:aV (ar (XY s C dt) (Gv s C v dt))=C
 plc:az (Gv s C v dt).rn.l=Cz s C dt
 pl:axB s (aQ s C dt) (Be s C dt) (ZJ (pN (aQ s C dt) s.pl (df s.d) s.d.n) (sq (aQ s C dt) s.pl (df s.d)))
 dk:Bu s (aQ s C dt) (Be s C dt) (XY s C dt)
def Xo{d:Dk}{a:At}{C:List UInt8}{v:Int}{dt:Nat->Prop}(h0:aK d a=0)(hd:wU d)(hn:a.nm.length<=1000000)(hc:GZ (ar d a) C v dt)(he:Md (ar d a) C v dt=0):asc (ar d a) C v dt:=by
 obtain⟨ok,_⟩:=bc h0;have st:=ok.st hd hn;have Es:yw (ar d a).pl:=u0 ok.rn;obtain⟨d1,d2,d3⟩:=rX ok.dk;obtain⟨s1,s2,s3,s4,s5⟩:=lE ok.str;generalize hs:ar d a=s at*;have HO:s.a=a:=by rw[<-hs];rfl
 have WW:s.d=d:=by rw[<-hs];rfl
 unfold Md at he;split at he
 ·omega
 rename_i HL;have HL:=zcD.1 HL;split at he
 ·cases he
 rename_i qN;have he4:gu (Gv s C v dt)=0:=zcD.1 λh=>qN (.inr h)
 have qG:=sK s C dt;have mE:=hc.len;have IH:(aQ s C dt).length<=200:=Su;have pl:axB s (aQ s C dt) (Be s C dt) (ZJ (pN (aQ s C dt) s.pl (df s.d) s.d.n) (sq (aQ s C dt) s.pl (df s.d))):=atl st Es (ps:=aQ s C dt) ab HL;have dk:=aCI st ab pl;have CX:∀i,jz (aQ s C dt) i=true->0<=Be s C dt i:=λi hi=>(pl.yes i (wD hi) hi).1
 have tT:∀i,jz (aQ s C dt) i=false->Be s C dt i= -1:=pl.no;have rK:s.d.n<=512:=st.n;have hb:∀x∈Cz s C dt,x= -1\/(0<=x/\x<s.d.n):=λx hx=>by
  obtain⟨i,hi,rfl⟩:=zaX.1 hx;cases g:jz (aQ s C dt) i with
  |false=>exact .inl (tT i g)
  |true=>exact .inr (pl.yes i (zbm.1 hi) g)
 have akC:az (Gv s C v dt).rn.l=Cz s C dt:=ZB λx hx=>by rcases hb x hx with h|h<;>omega
 have hDn:(XY s C dt).n=s.d.n:=by unfold Dk.n;rw[dk.len]
 have aLi:MH (XY s C dt).a_ (Cz s C dt):=λx hx=>by
  rcases hb x hx with h|h
  ·exact .inl h
  ·rw[dk.len];unfold Dk.n at h;omega
 have aHJ:(Cz s C dt).length=(aQ s C dt).length:=ck;have SL:(Gv s C v dt).fl=s.a.fl:=rfl;refine⟨?_,?_,akC,pl,dk⟩
 ·unfold aK;have hdE:gm (XY s C dt)=0:=by
   unfold gm;rw[hDn,dk.len,WW,if_neg ab,if_neg ab];have:=dk.bm;rwa[WW]at this
  have hsE:oT (Gv s C v dt)=0:=by
   unfold oT;rw[he4,if_neg aj,if_neg,if_neg,if_neg]
   ·show ¬32768<(C.length:Int);omega
   ·show ¬(0:Int)≠0;simp
   ·show ¬(s.a.ty≠128\/4<=s.a.fl\/s.a.fl=3);rw[HO];omega
  have rH:pG (XY s C dt) (Cz s C dt)=0:=by
   unfold pG;rw[if_neg,if_neg]
   ·rintro⟨x,hx,h1,h2⟩;obtain⟨i,hi,rfl⟩:=zaX.1 hx;have hi:=zbm.1 hi;cases g:jz (aQ s C dt) i with
    |false=>exact h1 (tT i g)
    |true=>
     have hy:=pl.yes i hi g;have uq:=(dk.bit (Be s C dt i).toNat ab).2 (.inl ⟨i,hi,g,ab⟩);omega
   grind
  have yB:lJ (Gv s C v dt) (Cz s C dt):=by
   refine⟨rfl,?_⟩;rw[SL,aHJ,qG];show if s.a.fl%2=1 then(((if s.a.fl%2=1 then 16*((C.length+4095)/4096)else(C.length+255)/256:Nat):Int)=((C.length:Int)+4095)/4096*16∧∀c∈chunks (Cz s C dt),mh c)else(((if s.a.fl%2=1 then 16*((C.length+4095)/4096)else(C.length+255)/256:Nat):Int)=((C.length:Int)+255)/256/\(s.a.fl/2%2=1\/bt (Cz s C dt)=(if s.a.fl%2=1 then 16*((C.length+4095)/4096)else(C.length+255)/256:Nat)));split
   ·rename_i g;exact⟨ab,axc g tT CX⟩
   ·rename_i g;refine⟨ab,?_⟩;by_cases g2:s.a.fl/2%2=1
    ·exact .inl g2
    ·right;rw[<-if_neg g (t:=16*((C.length+4095)/4096)) (e:=(C.length+255)/256),<-qG,<-aHJ,Yu];intro x hx e;obtain⟨i,hi,hxi⟩:=zaX.1 hx;have hi:=zbm.1 hi;have cb:jz (aQ s C dt) i=true:=by
      have hp:=Xn (dt:=dt) g (i:=i) (by rw[qG,if_neg g]at hi;exact hi);unfold jz;rw[hp,zbC,decide_eq_true_eq];unfold dv;rw[if_neg (λh=>g2 h.1)];intro Nv;have h5:=congrArg List.length Nv;rw[BB eI]at h5;cases h5
     have:=CX i cb;omega
  rw[hdE,hsE,if_neg aj,if_neg aj,if_neg (by show ¬false=true;simp),akC,rH,if_neg aj];unfold iW;rw[if_pos yB,if_neg aj];split
  ·rename_i g;exact asb (v:=v) ab hc tT CX dk aLi
  ·rfl
 ·show nA (Gv s C v dt) (if (Gv s C v dt).fl%2=1 then ow (XY s C dt).a_ (chunks (az (Gv s C v dt).rn.l))else rz (XY s C dt).a_ (az (Gv s C v dt).rn.l))=C;rw[akC];exact aBR (v:=v) hc tT CX dk rfl rfl rfl
def Dl{l:List Int}{c:Nat}:(c:Int)∈tV l↔(c:Int)∈l:=by
 rw[atd];grind
def atm{d:Dk}{a:At}{C:List UInt8}{v:Int}{dt:Nat->Prop}(hm:asc (ar d a) C v dt):adv d (XY (ar d a) C dt) a (Gv (ar d a) C v dt):=by
 have lO:=hm.dk;have qG:=hm.pl;have sM:=(bc hm.op).1.dk;refine⟨⟨lO.len.symm,sM⟩,λc hc=>?_⟩;rw[hm.plc];have hB:(c:Int)∈tV (Cz (ar d a) C dt)↔∃i,i<(aQ (ar d a) C dt).length/\jz (aQ (ar d a) C dt) i=true/\Be (ar d a) C dt i=c:=by
  rw[Dl];constructor
  ·intro h;obtain⟨i,hi,e⟩:=zaX.1 h;refine⟨i,zbm.1 hi,?_,e⟩;cases g:jz (aQ (ar d a) C dt) i with
   |true=>rfl
   |false=>have:=qG.no i g;omega
  ·rintro⟨i,hi,_,e⟩;exact zaX.2 ⟨i,zbm.2 hi,e⟩
 have hA:(c:Int)∈tV (az a.rn.l)↔(c:Int)∈(ar d a).pl:=Dl;have pD:=lO.bit c hc;have b1:=mK (XY (ar d a) C dt).mp c;have b2:=mK d.mp c;have WW:(ar d a).d=d:=rfl;unfold E0;rw[hA,hB];refine⟨λ⟨g1,g2⟩=>⟨?_,?_⟩,λ⟨g1,g2⟩=>?_,λg=>pD.2 (.inl g),λ⟨⟨i,h1,h2,h3⟩,g2⟩=>?_⟩
 ·grind
 ·exact(lO.aBv c hc λi hi e=>g2 ⟨i,wD hi,hi,e⟩).symm
 ·grind
 ·have hf:=qG.free i h1 h2 (by rw[h3];exact g2);unfold df at hf
  grind
def gy(p:Nat->Bool):Nat->Nat
 |0=>0
 |n+1=>gy p n+if p n=true then 1 else 0
def ak5(p:Nat->Bool):∀n,gy p n<=n
 |0=>zai 0
 |n+1=>by
  have:=ak5 p n;show gy p n+(if p n=true then 1 else 0)<=n+1;split<;>omega
def cJ(p:Nat->Bool)(n:Nat):gy p (n+1)=gy p n+if p n=true then 1 else 0:=rfl
def jq{p q:Nat->Bool}:∀{n:Nat},(∀i,i<n->p i=q i)->gy p n=gy q n
 |0,_=>rfl
 |n+1,h=>by rw[cJ,cJ,jq (n:=n) λi hi=>h i ab,h n ab]
def Ed{p q:Nat->Bool}:∀{n:Nat},(∀i,i<n→¬(p i=true/\q i=true))->gy (λi=>p i||q i) n=gy p n+gy q n
 |0,_=>rfl
 |n+1,h=>by
  have ih:=Ed (n:=n) λi hi=>h i ab
  rw[cJ,cJ,cJ,ih]
  grind
def xh{k:Nat}:∀{n:Nat},gy (λi=>decide (i=k)) n=if k<n then 1 else 0
 |0=>rfl
 |n+1=>by
  rw[cJ,xh (n:=n)]
  grind
def Mt{n:Nat}:∀{l:List Int},yw l->(∀x∈l,x= -1\/(0<=x/\x<n))->gy (λc=>decide ((c:Int)∈l)) n=bt l
 |[],_,_=>by
  have:∀m,gy (λc=>decide ((c:Int)∈([]:List Int))) m=0:=λm=>by
   induction m with
   |zero=>rfl
   |succ m ih=>rw[cJ,ih];simp
  rw[this];rfl
 |a::l,hd,hb=>by
  have ih:=Mt (n:=n) (l:=l) (List.Pairwise.of_cons hd) λx hx=>hb x iP
  have hu:bt (a::l)=(if a= -1 then 0 else 1)+bt l:=by
   unfold bt
   grind
  by_cases h:a= -1
  ·grind
  ·have hr:=(hb a aj).resolve_left h;have h1:=Ed (p:=λc=>decide (c=a.toNat)) (q:=λc=>decide ((c:Int)∈l)) (n:=n) λc _=>by
    rw[decide_eq_true_eq,decide_eq_true_eq];rintro⟨e,hm⟩;exact(zdx.1 hd).1 _ hm h ab
   rw[xh,if_pos ab]at h1
   grind
def aoK(ps:List (List UInt8)):Nat:=gy (jz ps) ps.length
def kpB(ps:List (List UInt8))(pl:List Int)(i:Nat):Bool:=decide (nD ps pl i≠ -1)
def YH(ps:List (List UInt8))(pl:List Int):∀n,vF ps pl n=gy (G8 ps pl) n
 |0=>rfl
 |n+1=>by rw[xP,cJ,YH ps pl n]
def atx(ps:List (List UInt8))(pl:List Int):aoK ps=lT ps pl+gy (kpB ps pl) ps.length:=by
 have h1:lT ps pl=gy (G8 ps pl) ps.length:=YH ps pl _;rw[h1,<-Ed]
 ·refine jq λi _=>?_
  unfold G8 kpB;by_cases h:jz ps i=true
  ·grind
  ·have g:nD ps pl i= -1:=by unfold nD;rw[if_neg h]
   rw[g];simp[h]
 ·rintro i _ ⟨h1,h2⟩;unfold G8 at h1;unfold kpB at h2
  grind
def aaJ(f:Nat->Int):∀n,bt (cQ f n)=gy (λi=>decide (f i≠ -1)) n
 |0=>rfl
 |n+1=>by
  have:cQ f (n+1)=cQ f n++[f n]:=by unfold cQ;rw[zdk];simp
  rw[this,aen,aaJ f n,cJ];unfold bt;by_cases h:f n= -1<;>simp[h]
def az9{ps:List (List UInt8)}{pl:List Int}(h:yw pl):yw (Qg ps pl):=by
 refine Xt λi j x hi hj hx=>?_
 unfold Qg at hi hj;have iX:i<ps.length:=by have:=(zaa.1 hi).1;simp_all
 have HQ:j<ps.length:=by have:=(zaa.1 hj).1;simp_all
 rw[bO iX]at hi;rw[bO HQ]at hj;have hi:=Option.some.inj hi;have hj:=Option.some.inj hj;have gi:=SD (ps:=ps) (pl:=pl) (i:=i) (by rw[hi];exact hx);have gj:=SD (ps:=ps) (pl:=pl) (i:=j) (by rw[hj];exact hx);rw[hi]at gi;rw[hj]at gj;exact XD h gi gj hx
def amh{ps:List (List UInt8)}{pl:List Int}{x:Int}(h:x∈Qg ps pl)(hx:x≠ -1):x∈pl:=by
 obtain⟨i,_,rfl⟩:=zaX.1 h;exact Dr hx
def aBZ{ps:List (List UInt8)}{pl:List Int}{b:Nat->Bool}{n:Nat}(hd:yw pl)(hb:∀x∈pl,x= -1\/(0<=x/\x<n))(hu:∀c:Nat,(c:Int)∈pl->b c=true):
 gy (sq ps pl b) n+bt pl=gy (kpB ps pl) ps.length+gy b n:=by
 have h1:=Mt (n:=n) hd hb;have h2:=Mt (n:=n) (az9 (ps:=ps) hd) λx hx=>by
  by_cases g:x= -1
  ·exact .inl g
  ·exact hb x (amh hx g)
 have h3:bt (Qg ps pl)=gy (kpB ps pl) ps.length:=aaJ _ _;have h4:=Ed (p:=λc=>decide ((c:Int)∈pl)) (q:=λc=>b c&&!decide ((c:Int)∈pl)) (n:=n) λc _=>bf
 have h5:=Ed (p:=λc=>decide ((c:Int)∈Qg ps pl)) (q:=λc=>b c&&!decide ((c:Int)∈pl)) (n:=n) λc _=>by
  rintro⟨g1,g2⟩;simp only[decide_eq_true_eq,zaU,zbs,decide_eq_false_iff_not]at g1 g2;exact g2.2 (amh g1 ab)
 have e1:gy b n=gy (λc=>decide ((c:Int)∈pl)||(b c&&!decide ((c:Int)∈pl))) n:=jq λc _=>by
  by_cases g:(c:Int)∈pl
  ·simp_all
  ·simp[g]
 have e2:gy (sq ps pl b) n=gy (λc=>decide ((c:Int)∈Qg ps pl)||(b c&&!decide ((c:Int)∈pl))) n:=jq λc _=>by
  show(if (c:Int)∈pl then decide ((c:Int)∈Qg ps pl)else b c)=_;by_cases g:(c:Int)∈pl
  ·simp[g]
  ·have:(c:Int)∉Qg ps pl:=λh=>g (amh h ab)
   simp[g,this]
 omega
def vp(s:List UInt8):∀n,oF s n=gy (λc=>decide (bH s c=1)) n
 |0=>rfl
 |n+1=>by
  have hb:=mK s n;rw[cJ,<-vp s n];show oF s n+bH s n=_
  grind
def QX{d:Dk}{a:At}(h:aK d a=0){c:Nat}(hc:(c:Int)∈az a.rn.l):bH d.mp c=1:=by
 obtain⟨ok,ho⟩:=bc h;cases c_:a.rs with
 |true=>
  rw[(ok.res c_).1]at hc;cases hc
 |false=>
  have hp:=(ho c_).1;unfold pG at hp;split at hp
  ·cases hp
  split at hp
  ·cases hp
  have hb:=mK d.mp c
  grind
def abK{d:Dk}{a:At}(h0:aK d a=0)(hd:wU d)(hn:a.nm.length<=1000000){ps:List (List UInt8)}(hl:ps.length<=1000)(he:w_ ps (az a.rn.l) (df d) d.n≠0):
 (w_ ps (az a.rn.l) (df d) d.n=16/\d.n-oF d.mp d.n+bt (az a.rn.l)<aoK ps)\/
 (w_ ps (az a.rn.l) (df d) d.n=8/\64<(nG (mG (cQ (sq ps (az a.rn.l) (df d)) d.n)) d.n).length):=by
 obtain⟨ok,_⟩:=bc h0;have st:=ok.st hd hn;have Es:yw (az a.rn.l):=u0 ok.rn;have hb:=X6 st;have rK:=st.n;have Cy:(ar d a).pl=az a.rn.l:=rfl;have WW:(ar d a).d=d:=rfl;rw[Cy]at hb;rw[WW]at hb rK;have eh:∀c:Nat,(c:Int)∈az a.rn.l->df d c=true:=λc hc=>by
  unfold df;rw[QX h0 hc];rfl
 have aQf:=aBZ (ps:=ps) (n:=d.n) Es (λx hx=>by have:=hb x hx;omega) eh;have jF:gy (df d) d.n=oF d.mp d.n:=(vp d.mp d.n).symm;have cb:=atx ps (az a.rn.l);have Vv:=DF (l:=cQ (sq ps (az a.rn.l) (df d)) d.n) kD;rw[ck]at Vv;have xk:=aok (ps:=ps) hb ab ps.length;have AQ:=agH ps (az a.rn.l) ps.length;have aLa:lT ps (az a.rn.l)=vF ps (az a.rn.l) ps.length:=rfl;unfold w_ at he ⊢;by_cases hm:lT ps (az a.rn.l)=0
 ·grind
 rw[if_neg hm]at he ⊢;rcases axo Vv.1 (c:=lT ps (az a.rn.l)) (near:=UZ ps (az a.rn.l) ps.length) ab ab he with⟨g1,g2⟩|⟨g1,g2⟩
 ·refine .inl ⟨g1,?_⟩;rw[ax3 ab]at g2;have cM:oF (mG (cQ (sq ps (az a.rn.l) (df d)) d.n)) d.n=gy (sq ps (az a.rn.l) (df d)) d.n:=by
   rw[vp];refine jq λc hc=>?_
   rw[Vv.2,if_pos hc,bO hc,zbC];cases sq ps (az a.rn.l) (df d) c<;>simp[mS]
  rw[zaC,cM]at g2;have aJQ:=Bj d.mp d.n;omega
 ·exact .inr ⟨g1,g2⟩
def zC(x y:Int):Prop:=(x= -1/\y= -1)\/(x≠ -1/\y≠ -1/\x+1=y)
instance (x y:Int):Decidable (zC x y):=by unfold zC;infer_instance
def bR(L:Nat->Int)(i:Nat):Bool:=decide (i=0∨¬zC (L (i-1)) (L i))
def Lt{α:Type}(f:Nat->α)(n:Nat):cQ f (n+1)=cQ f n++[f n]:=by unfold cQ;rw[zdk];simp
def aw_(l:List Int)(a:Int):nS (l++[a])=qV (nS l) a:=by unfold nS;simp_all
def Xc{L:Nat->Int}(h:∀i,-1<=L i):∀n,(nS (cQ L n)).length=gy (bR L) n/\(0<n→∃r,(nS (cQ L n)).getLast?=some r/\1<=r.n/\ -1<=r.s/\((r.s= -1/\L (n-1)= -1)\/(r.s≠ -1/\L (n-1)=r.s+r.n-1)))
 |0=>⟨rfl,λh=>ab⟩
 |n+1=>by
  obtain⟨za,zb⟩:=Xc h n;have hLn:=h n;rw[Lt,aw_,cJ,<-za,Nat.add_sub_cancel];unfold qV;by_cases hn:n=0
  ·subst hn;refine⟨rfl,λ_=>⟨⟨L 0,1⟩,rfl,zdM 1,hLn,?_⟩⟩
   grind
  ·obtain⟨r,h1,h2,h3,h4⟩:=zb ab;have hj:((L n= -1/\r.s= -1)\/(L n≠ -1/\r.s≠ -1/\r.s+r.n=L n))↔zC (L (n-1)) (L n):=by
    unfold zC;omega
   by_cases hjj:zC (L (n-1)) (L n)
   ·have hs:bR L n=false:=by unfold bR;simp[hn,hjj]
    grind
   ·have hs:bR L n=true:=by unfold bR;simp[hjj]
    grind
def Tq(r:Rn)(i:Nat):Int:=if r.s= -1 then(-1:Int)else r.s+(i:Int)
def LC(r:Rn):iV r=cQ (Tq r) r.n.toNat:=rfl
def ahI{acc:List Rn}{r:Rn}(hs: -1<=r.s):∀k:Nat,((cQ (Tq r) (k+1)).foldl qV acc).length<=acc.length+1∧∃q,((cQ (Tq r) (k+1)).foldl qV acc).getLast?=some q/\((q.s= -1/\r.s= -1)\/(q.s≠ -1/\r.s≠ -1/\q.s+q.n=r.s+(k:Int)+1))
 |0=>by
  have e:(cQ (Tq r) 1).foldl qV acc=qV acc (Tq r 0):=rfl;rw[e];have hl:=abJ acc (Tq r 0);refine⟨hl,?_⟩;unfold qV;cases UB:acc.getLast? with
  |none=>
   refine⟨⟨Tq r 0,1⟩,rfl,?_⟩;simp only[Tq];omega
  |some q=>
   simp only;split
   ·rename_i hj;refine⟨⟨q.s,q.n+1⟩,aj,?_⟩;simp only[Tq]at hj ⊢;omega
   ·refine⟨⟨Tq r 0,1⟩,aj,?_⟩;simp only[Tq];omega
 |k+1=>by
  obtain⟨h1,q,h2,h3⟩:=ahI (acc:=acc) hs k;rw[Lt,zdL];generalize (cQ (Tq r) (k+1)).foldl qV acc=A at*;have hj:(Tq r (k+1)= -1/\q.s= -1)\/(Tq r (k+1)≠ -1/\q.s≠ -1/\q.s+q.n=Tq r (k+1)):=by
   unfold Tq;omega
  unfold qV
  grind
def apv{l:List Rn}(h:∀r∈l,-1<=r.s):∀acc:List Rn,((az l).foldl qV acc).length<=acc.length+l.length:=by
 induction l with
 |nil=>simp[az]
 |cons r l ih=>
  intro acc;have e:az (r::l)=iV r++az l:=by simp[az]
  rw[e,zdL];have h1:=ih (λq hq=>h q kF) ((iV r).foldl qV acc);have h2:((iV r).foldl qV acc).length<=acc.length+1:=by
   rw[LC];cases hk:r.n.toNat with
   |zero=>show acc.length<=_;omega
   |succ k=>exact(ahI (h r aj) k).1
  rw[zam];omega
def XP{l:List Rn}(h:∀r∈l,-1<=r.s):(nS (az l)).length<=l.length:=by
 have:=apv h [];simpa[nS]using this
def Xp(p:Nat->Bool)(i:Nat):Bool:=p i&&(decide (i=0)||!p (i-1))
def TW(p:Nat->Bool):∀n,(bh p n).length=gy (Xp p) n
 |0=>rfl
 |n+1=>by
  have ih:=TW p n;have di:=(kI p n).2.2;rw[cJ,<-ih];show(if p n then zh (bh p n) n else bh p n).length=_;by_cases hp:p n=true
  ·rw[if_pos hp];by_cases hq:0<n/\p (n-1)=true
   ·obtain⟨a,r,h1,h2⟩:=di.2 hq;have hx:Xp p n=false:=by unfold Xp;rw[hq.2];simp;omega
    rw[h1,xz,if_pos h2,hx];simp
   ·have hx:Xp p n=true:=by
     unfold Xp
     grind
    rw[hx,XO]
    ·simp
    ·intro r hr e;have cb:bh p n≠[]:=by intro h;simp_all
     have e1:=zdm cb
     grind
  ·have hx:Xp p n=false:=by unfold Xp;simp[hp]
   simp_all
def sk{p q:Nat->Bool}:∀{n:Nat},(∀i,i<n->p i=true->q i=true)->gy p n<=gy q n
 |0,_=>zai 0
 |n+1,h=>by
  have ih:=sk (n:=n) λi hi=>h i ab
  rw[cJ,cJ]
  grind
def tK{p q:Nat->Bool}:∀{n:Nat},gy (λi=>p i||q i) n<=gy p n+gy q n
 |0=>zai 0
 |n+1=>by
  have ih:=tK (p:=p) (q:=q) (n:=n);rw[cJ,cJ,cJ]
  grind
def aFN(p q:Nat->Bool)(n:Nat):gy (Xp λi=>p i||q i) n<=gy (Xp p) n+gy (Xp q) n:=by
 refine zay (sk (q:=λi=>Xp p i||Xp q i) λi _ h=>?_) tK;unfold Xp at h ⊢
 grind
section
def yU(b:Bool):Nat:=if b=true then 1 else 0
section
variable (O P:Nat->Int) (ne:Nat->Bool)
def n_(i:Nat):Bool:=ne i&&decide (O i= -1)
def jX(i:Nat):Bool:=!ne i&&decide (O i≠ -1)
def qi(i:Nat):Bool:=decide (¬zC (O (i-1)) (O i))
def ve(i:Nat):Bool:=decide (¬zC (P (i-1)) (P i))&&!(n_ O ne (i-1)&&n_ O ne i)
def k_(i:Nat):Bool:=jX O ne i&&!(jX O ne (i-1)&&decide (zC (O (i-1)) (O i)))
end
def aA4{O P:Nat->Int}{ne:Nat->Bool}{i:Nat}(tT:∀i,ne i=false->P i= -1)(hk:∀i,ne i=true->O i≠ -1->P i=O i)
 (h:ne (i-1)=ne i\/(qi O i=true/\jX O ne i=false)):yU (ve O P ne i)+yU (k_ O ne i)<=yU (qi O i):=by
 have h3:=hk (i-1);have h4:=hk i;unfold ve k_ qi jX n_ yU at*;generalize O (i-1)=x at*;generalize O i=y at*;cases hn:ne i<;>cases hm:ne (i-1)<;>by_cases hx:x= -1<;>by_cases hy:y= -1<;>simp_all[zC];all_goals(split<;>simp_all<;>omega)
def aFJ{O:Nat->Int}{ne:Nat->Bool}{M n:Nat}{F:Nat->Bool}(hb:∀i,i<M->O i= -1\/(0<=O i/\O i<n))(hi:∀i j,i<M->j<M->O i≠ -1->O i=O j->i=j)
 (hF:∀c,F c=true↔∃i,i<M/\jX O ne i=true/\O i=c):gy (Xp F) n<=gy (k_ O ne) M:=by
 have xq:∀i,jX O ne i=true->O i≠ -1:=λi h=>by
  unfold jX at h
  grind
 have eH:∀i,k_ O ne i=true->jX O ne i=true:=λi h=>by
  unfold k_ at h
  grind
 have hd:yw (cQ (λi=>if k_ O ne i=true then O i else-1) M):=Xt λi j x h1 h2 hx=>by
  have iX:i<M:=by have:=(zaa.1 h1).1;simp_all
  have HQ:j<M:=by have:=(zaa.1 h2).1;simp_all
  rw[bO iX]at h1;rw[bO HQ]at h2
  grind
 have hm:=Mt (n:=n) hd λx hx=>by
  obtain⟨i,iX,rfl⟩:=zaX.1 hx
  grind
 rw[aaJ]at hm;have e:gy (λi=>decide ((if k_ O ne i=true then O i else-1)≠ -1)) M=gy (k_ O ne) M:=jq λi _=>by
  grind
 rw[e]at hm;rw[<-hm];refine sk λc _ hc=>?_
 unfold Xp at hc;simp only[zaU,zbD,decide_eq_true_eq,zbs]at hc;obtain⟨h1,h2⟩:=hc;obtain⟨i,iX,h3,h4⟩:=(hF c).1 h1;rw[decide_eq_true_eq];refine zaX.2 ⟨i,zbm.2 iX,?_⟩;by_cases g:k_ O ne i=true
 ·simp_all
 ·unfold k_ at g;rw[h3]at g;simp only[Bool.true_and,zbs,Bool.not_eq_false,zaU,decide_eq_true_eq]at g;obtain⟨g1,g2⟩:=g;unfold zC at g2
  grind
end
def nv(P:Nat->Int)(m:Nat->Bool)(i:Nat):Bool:=decide (0<i)&&(m (i-1)&&m i)&&decide (¬zC (P (i-1)) (P i))
def azl{P G:Nat->Int}{m:Nat->Bool}(h:∀i,m i=true->P i=G (gy m i)):∀n,gy (nv P m) n<=gy (λk=>decide (0<k)&&decide (¬zC (G (k-1)) (G k))) (gy m n)
 |0=>zai 0
 |n+1=>by
  have ih:=azl h n;rw[cJ,cJ];cases hm:m n with
  |false=>
   have:nv P m n=false:=by unfold nv;rw[hm];simp
   simp_all
  |true=>
   rw[if_pos rfl,cJ];cases hf:nv P m n with
   |false=>grind
   |true=>
    unfold nv at hf;have e:gy m n=gy m (n-1)+1:=by
     have:=cJ m (n-1)
     grind
    grind
def ajr{nb fb ob ct:Nat->Bool}:∀{M:Nat},(∀i,i<M->ct i=false->yU (nb i)+yU (fb i)<=yU (ob i))->gy nb M+gy fb M<=gy (λi=>ob i&&!ct i) M+2*gy ct M
 |0,_=>zai 0
 |M+1,h=>by
  have ih:=ajr (M:=M) λi hi=>h i ab
  have h1:=h M ab;unfold yU at h1;rw[cJ,cJ,cJ,cJ]
  grind
def apN(l:List Rn):Prop:=∀(i:Nat) (q r:Rn),l[i]?=some q->l[i+1]?=some r→¬iy q r
def awX{acc:List Rn}{a:Int}(h:apN acc):apN (qV acc a):=by
 unfold qV;cases hl:acc.getLast? with
 |none=>
  intro i q r h1 h2;simp at h2
 |some q=>
  simp only;have Vu:acc[acc.length-1]?=some q:=bf;split
  ·intro i x y h1 h2 hj;have hi:=(zaa.1 h2).1;rw[zad,zdD,zbN]at hi;rw[zaq nq,zdA,if_pos ab]at h1;by_cases g:i+1<acc.length-1
   ·rw[zaq nq,zdA,if_pos ab]at h2;exact h i x y h1 h2 hj
   ·rw[zak nq,zdD,show i+1-(acc.length-1)=0 by omega]at h2;have h2:=Option.some.inj h2;subst h2;refine h i x q h1 ?_ hj
    grind
  ·intro i x y h1 h2 hj;have hi:=(zaa.1 h2).1;rw[zad,zbN]at hi;rw[zaq ab]at h1;by_cases g:i+1<acc.length
   ·rw[zaq ab]at h2;exact h i x y h1 h2 hj
   ·rw[zak ab,show i+1-acc.length=0 by omega]at h2;have h2:=Option.some.inj h2;subst h2;rw[show i=acc.length-1 by omega,Vu]at h1;unfold iy at hj
    simp_all
def aBW(l:List Int):apN (nS l):=by
 have:∀n,n<=l.length->apN (nS (l.take n)):=by
  intro n
  induction n with
  |zero=>intro _ i q r h1 _;simp[nS]at h1
  |succ n ih=>
   intro hn;have ha:l[n]?=some l[n]:=zah ab;rw[Fh ha];exact awX (ih ab)
 have:=this l.length (zai _)
 simp_all
def agi{r:Rn}{x:Int}(hs:r.s≠ -1)(h:r.s<=x/\x<r.s+r.n):x∈iV r:=by
 refine zaX.2 ⟨(x-r.s).toNat,zbm.2 ab,?_⟩;omega
def apJ{l:List Int}(hb:∀x∈l,x= -1\/(0<=x/\x<512))(hd:yw l)(hl:l.length<=4096)(hn:(nS l).length<=64):dU (nS l)=0:=by
 have t_:∀a∈l,-1<=a/\a<=1000000:=λa ha=>by rcases hb a ha with h|h<;>omega
 have hp:=ZB t_;have hq:=(agT t_ l.length).2;rw[zcN]at hq;have hap:=aBW l;have AW:=hd;rw[<-hp]at AW;have AW:=(zdr.1 AW).2;rw[zdl]at AW;have SF:∀r∈nS l,∀x∈iV r,x∈l:=λr hr x hx=>by
  rw[<-hp];exact zbB.2 ⟨r,hr,hx⟩
 have di:∀r∈nS l,jZ r:=λr hr=>by
  have h1:=hq r hr;have h2:=h1.1;have h3:=h1.2;unfold jZ;split
  ·omega
  ·rename_i hs;have a2:=hb _ (SF r hr _ (agi (x:=r.s+r.n-1) hs ab));omega
 have h0:∀k,k<(nS l).length->Wx (nS l) k=0:=λk hk=>by
  unfold Wx;have hg:(nS l)[k]?=some (nS l)[k]:=zah hk;rw[hg];simp only;rw[if_neg (λh=>h (di _ (zdh hk))),if_neg,if_neg]
  ·rintro⟨j,hj,q,hjq,hs⟩;have HQ:j<(nS l).length:=ab;have e:(nS l)[j]=q:=by
    grind
   subst e;obtain⟨s1,s2,s3,s4⟩:=hs;have b1:=(hq _ (zdh HQ))
   have b2:=(hq _ (zdh hk))
   have n1:=b1.1;have n2:=b2.1;have:=AW j k HQ hk hj (max (nS l)[j].s (nS l)[k].s) (agi s1 ab) (max (nS l)[j].s (nS l)[k].s) (agi s2 ab) ab;exact this rfl
  ·rintro⟨h1,q,h2,h3⟩;exact hap (k-1) q (nS l)[k] h2 bf h3
 unfold dU;rw[Mo hn h0];have hs:=xA (l:=nS l) (λr hr=>by have:=(hq r hr).1;omega)
 grind
def al6{a:At}(hr:a.rs=false):(T5 a).length=Tk a:=by
 have h1:=i_ (uH a+a.nm.length);have h2:=i_ (l8 a+(N8 a).length);have e1:l8 a=B5 (uH a+a.nm.length):=rfl;have e2:Tk a=B5 (l8 a+(N8 a).length):=rfl;have hh:uH a=40:=by unfold uH;rw[hr];rfl
 have hf:(aso a).length=40:=by
  unfold aso atW;rw[hr];simp only[zad,gL,bE,zct,if_false]
 unfold T5;rw[zad,zad,zad,zad,hf,bE,bE];omega
def al_{s:St}{C:List UInt8}{v:Int}{dt:Nat->Prop}(hs:gu s.a=0)(ht:s.a.ty=128)(hC:C.length<=32768)(hv:0<=v/\v<=C.length)
 (hb:∀x∈Cz s C dt,x= -1\/(0<=x/\x<512)) (hd:yw (Cz s C dt)) (hl:(Cz s C dt).length<=128) (hn:(nS (Cz s C dt)).length<=64):gu (Gv s C v dt)=0:=by
 have h0:TI s.a=0:=by
  unfold gu at hs
  grind
 have ok:=acN.of h0;have hr:=apJ hb hd ab hn;have hrk:=bZ hr;have hu:bt (Cz s C dt)<=128:=zay (zdB _ _) hl;have hk:Iv (Gv s C v dt)=0:=by
  show GG (Gv s C v dt)=0;unfold GG;have e1:(Gv s C v dt).rn.l=nS (Cz s C dt):=rfl;rw[e1,hr,if_neg,if_neg,if_neg,if_neg,if_neg,if_neg,if_neg,if_neg,if_neg]
  ·show ¬((C.length:Int)<v);omega
  ·refine λh=>h ?_
   show(0<=((bt (Cz s C dt):Nat):Int)*256/\((bt (Cz s C dt):Nat):Int)*256<=1048576)/\(0<=(C.length:Int)/\(C.length:Int)<=1048576)/\(0<=v/\v<=1048576);omega
  ·show ¬((0:Int)<0/\_);omega
  ·show ¬(4096<0+bI (nS (Cz s C dt)));omega
  ·show ¬((0:Int)<0/\_);omega
  ·simp
  ·show ¬ ¬((0:Int)<=0/\(0:Int)<=4096);omega
  ·show ¬([]:List UInt8)≠[];simp
  ·show ¬s.a.ty∈VG;rw[ht];decide
 have hw:(T5 (Gv s C v dt)).length<=440:=by
  rw[al6 rfl];have h1:=i_ (40+s.a.nm.length);have o_:(N8 (Gv s C v dt)).length<=321:=by
   show(qL (nS (Cz s C dt))).length<=321;unfold qL;have:=JP (nS (Cz s C dt)) _ (zai _)
   grind
  have kp:=ok.nmL;have e1:l8 (Gv s C v dt)=B5 (40+s.a.nm.length):=rfl;have h2:=i_ (l8 (Gv s C v dt)+(N8 (Gv s C v dt)).length);show B5 (l8 (Gv s C v dt)+(N8 (Gv s C v dt)).length)<=440;omega
 unfold gu;rw[if_neg,if_neg ab];refine λh=>h ?_
 unfold TI;rw[if_neg,if_neg,if_neg,hk]
 ·exact λh=>h ok.idf
 ·exact λh=>h ok.nm
 ·exact λh=>h ok.S3
end Go.Dv.Try
