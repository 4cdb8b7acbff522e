/- Own work: parts of the proof, shortened and laid together by a tool of our own. -/
import Derived.Test.YtcfhhnapcpgecaaGreatP3
import Derived.KernelRfl
import Derived.MapKept
set_option linter.defProp false
set_option linter.unusedSimpArgs false
set_option linter.unusedVariables false
open List renaming getElem?_eq_getElem→zah, length_map→zav, length_append→zad, mem_of_getElem?→zag, length_cons→zam, map_append→zbu, take_of_length_le→za1, drop_eq_getElem_cons→zcE, take_add_one→zcF, length_drop→zax, drop_eq_nil_of_le→zb8, eq_nil_of_length_eq_zero→zae, append_assoc→zaj, length_pos_iff→zcH, length_nil→zaY, append_nil→zbf, map_replicate→zcK, length_replicate→zap, getElem?_map→za9, take_append_drop→zaD, take_length→zcN, nil_append→zaZ, length_range→zcP, getElem?_set_self→zbL, mem_cons→zaw, not_mem_nil→zb3, mem_map→zaX, filter_append→zbT, getLast?_eq_getElem?→zcW, length_take→zal, getElem?_take_of_lt→zcY, getElem?_replicate→zcZ, mem_append→zaA, drop_drop→zaQ, set_append_right→zc5, getElem?_set_ne→zc7, map_take→zc8, filter_eq_self→zbR, drop_set_of_lt→zdb, getElem?_drop→zaB, map_inj_right→zce, any_eq_false→zde, getElem_mem→zdh, length_set→za0
open Int renaming toNat_natCast→zaC, fdiv_eq_ediv_of_nonneg→zb7, ediv_ediv_of_nonneg→zcJ, tdiv_eq_ediv_of_nonneg→zcL, tmod_eq_emod_of_nonneg→zcM, eq_ofNat_of_zero_le→zcO, pow_succ→zcS, mul_le_mul_of_nonpos_left→zcT, natCast_nonneg→zcU, ediv_neg_of_neg_of_pos→zcV, emod_eq_zero_of_dvd→zc0, dvd_of_emod_eq_zero→zc1, le_ediv_iff_mul_le→zc4, pow_nonneg→zc6, emod_lt_of_pos→zdc, tmod_eq_emod→zdg, ediv_le_self→zcx, emod_nonneg→zdj
open Bool renaming false_eq_true→zct, not_eq_true→zcX, eq_iff_iff→zaN
open Decidable renaming of_not_not→zco, not_not→zcD
open And renaming intro→zcC
open Nat renaming le_refl→zai, lt_or_eq_of_le→zcG, le_of_lt_succ→zcI, min_eq_right→zbI, min_eq_left→zas, pow_le_pow_right→zb6, two_pow_pos→zcj, div_div_eq_div_mul→zcQ, dvd_of_mod_eq_zero→zcR, zero_add→zaV, add_sub_cancel→zcs, div_le_self→zc2, add_assoc→zaJ, add_sub_cancel'→zc9, testBit_two_pow→zda, sub_zero→zcq, lt_of_lt_of_le→zaf, add_mod_right→zdd, zero_testBit→zdf, testBit_and→zdi
open Option renaming getD_some→zbC
open UInt8 renaming toNat_inj→zc3
open Array renaming toList_inj→zb2
namespace Go.Dv.Try
open Go Go.Dv
def aAT(a b:UInt8):[aL a,aL b]=[a,b].map aL:=rfl
def afR(ps:List PV)(x:PV):Prop:=∃n:Int,ps=[pI n]/\(0<=n/\n<65536)/\x=.str (JR n.toNat)
def alL:MT (ay []) Iq (ah afR):=by
 rintro _ K ⟨_,⟨n,rfl,h,rfl⟩,hK⟩;refine λx hx=>?_
 rw[Pn]at hx;refine⟨ab,?_⟩;refine λy hy=>?_
 have hy:y=n/256:=by
  rw[hy];show n.fdiv (2^8)=_;rw[zb7 _ ao];rfl
 refine λz hz=>?_
 rw[Pn]at hz;refine⟨rfl,?_⟩;refine⟨JR n.toNat,?_,?_⟩
 ·unfold JR;rw[<-aAT,ue (n:=x) ab,ue (n:=z) ab,hx,hz,hy];congr 2
  ·congr 1;omega
  ·congr 2;omega
 ·exact bM
def amI(ps:List PV)(x:PV):Prop:=∃(n:Int) (b:Bool),ps=[pI n,pB b]/\(1<=n/\n<=4096)/\x=.str (B8 n.toNat b)
def amt:MT (ay [(271,ah afR)]) IC (ah amI):=by
 rintro _ K ⟨_,⟨n,b,rfl,h,rfl⟩,hK⟩;refine λx hx=>?_
 obtain rfl:=dB hx ab;refine λx hx=>?_
 have e:x=((n.toNat-1+12288:Nat):Int):=by
  rw[hx,show n-1=((n.toNat-1:Nat):Int) by omega,show(12288:Int)=((12288:Nat):Int)from rfl,axa ab ao];rw[show(12288:Nat)=2^12*3 from rfl,O7 ab]
 subst e;cases b with
 |true=>
  refine λx hx=>?_
  have e:x=((n.toNat-1+12288+32768:Nat):Int):=by
   rw[hx,show(32768:Int)=((32768:Nat):Int)from rfl,axa ab ao];rw[show(32768:Nat)=2^15*1 from rfl,O7 ab]
  subst e;refine⟨_,⟨_,rfl,ab,rfl⟩,?_⟩;exact bM
 |false=>
  refine⟨_,⟨_,rfl,ab,rfl⟩,?_⟩;exact bM
def aqM(l:List UInt8):aF:=[.box 185 [.ref 0 0 0,.own 2],.dead,.row 5 1 true (l.map aL)]
def aCs:PV:=.val .nilIface
def J0(xs:List AV)(σ:aF)(K:AV->aF->Prop):Prop:=
 ∃b:UInt8,xs=[.ref 0 0 0,.pv (aL b)]/\((σ=ak2/\K (.pv aCs) (ach [b]))∨∃l:List UInt8,l.length<=1000000/\σ=ach l/\K (.pv aCs) (aqM (l++[b])))
def Wg:gO (ay [(223,sB C4)]) pK (sB J0):=by
 rintro _ _ K ⟨b,rfl,⟨rfl,hK⟩|⟨l,hl,rfl,hK⟩⟩
 ·refine⟨rfl,.inl ⟨rfl,?_⟩⟩;refine⟨rfl,?_⟩;refine⟨⟨aj,aj⟩,?_⟩;refine⟨rfl,?_⟩;exact hK
 ·refine⟨rfl,.inr ⟨l,rfl,?_⟩⟩;refine⟨rfl,?_⟩;refine⟨⟨by rw[zav];show(l.length+1)*1<=_;omega,by rw[zav];show l.length+1<=_;omega⟩,?_⟩;refine⟨rfl,?_⟩;rw[show aqM (l++[b])=[.box 185 [.ref 0 0 0,.own 2],.dead,.row 5 1 true (l.map aL++[aL b])] by simp[aqM]]at hK;exact hK
def DT(xs:List AV)(σ:aF)(K:AV->aF->Prop):Prop:=
 ∃s:List UInt8,xs=[.ref 0 0 0,.pv (.str s)]∧∃l:List UInt8,l.length<=1000000/\s.length<=1000000/\σ=ach l/\K (.tup [.pv (pI s.length),.pv aCs]) (aqM (l++s))
def PW:gO (ay [(223,sB C4)]) nM (sB DT):=by
 rintro _ _ K ⟨s,rfl,l,hl,hs,rfl,hK⟩;refine⟨rfl,.inr ⟨l,rfl,?_⟩⟩;refine⟨⟨by rw[zav,zav];omega,by rw[zav,zav];omega⟩,?_⟩;refine⟨rfl,?_⟩;rw[show aqM (l++s)=[.box 185 [.ref 0 0 0,.own 2],.dead,.row 5 1 true (l.map aL++s.map aL)] by simp[aqM]]at hK;exact hK
def ase(xs:List AV)(σ:aF)(K:AV->aF->Prop):Prop:=
 ∃l:List UInt8,xs=[.ref 0 0 0]/\σ=ach l/\K (.pv (pI l.length)) (ach l)
def aqs:gO (ay []) wi (sB ase):=by
 rintro _ _ K ⟨l,rfl,rfl,hK⟩;refine λ_=>?_
 rw[zav];exact hK
def at9{x s:Int}(hx:0<=x)(hs:0<=s/\s<=63)(h:x.toNat*2^s.toNat<=9223372036854775807):IntKind.i64.wrap (x*2^min s.toNat IntKind.i64.bits)=((x.toNat*2^s.toNat:Nat):Int):=by
 have hb:IntKind.i64.bits=64:=rfl;have:min s.toNat IntKind.i64.bits=s.toNat:=ab;rw[this];have e:x*2^s.toNat=((x.toNat*2^s.toNat:Nat):Int):=by
  rw[Int.natCast_mul,Int.natCast_pow,show((x.toNat:Nat):Int)=x by omega];rfl
 rw[e];exact wrap64 ab
def HG(ps:List PV)(x:PV):Prop:=∃(t:cI) (a:Nat),ps=[t.pv,pI a]/\vm t a/\x=.str (B7 t a)
def T8:MT (ay [(218,ah cm),(215,ah eS),(271,ah afR)]) vY (ah HG):=by
 rintro _ K ⟨_,⟨t,a,rfl,ht,rfl⟩,hK⟩;refine⟨_,⟨t,rfl,rfl⟩,?_⟩;refine λb hb=>?_
 have oE:=ht;unfold vm at oE;rcases cmp hb with⟨rfl,h⟩|⟨rfl,h⟩
 ·have hd:t.d=0:=by
   unfold cI.copy at h;simpa using h
  rw[if_neg ab]at oE;refine λx hx=>?_
  rw[Pn]at hx;refine⟨rfl,?_⟩;refine⟨B7 t a,?_,?_⟩
  ·unfold B7;rw[if_neg ab,ue (n:=x) ab];show[aL (lV x.toNat)]=[aL (lV t.b.toNat)]
   congr 3;omega
  exact bM
 ·have hd:t.d≠0:=by
   intro e;apply h;unfold cI.copy;simp[e]
  rw[if_pos hd]at oE;have hc:=aoq ht hd;have hs:=tw (a:=a) ab;have ZI:=wJ a;refine⟨ak,?_⟩;refine λx hx=>?_
  obtain rfl:=dB hx ab;refine⟨_,⟨a,rfl,⟨ab,ab⟩,rfl⟩,?_⟩;unfold pY;rw[zaC];refine λx hx=>?_
  obtain rfl:=dB hx ab;have es:(16-(dh a:Int)).toNat=16-dh a:=ab;have ed:(t.d-1).toNat=t.d.toNat-1:=ab;refine⟨ab,?_⟩;refine λx hx=>?_
  rw[at9 ab ab (by rw[es,ed];omega),es,ed]at hx;subst hx;generalize hp:(t.d.toNat-1)*2^(16-dh a)=p at hc;refine λx hx=>?_
  obtain rfl:=dB hx ab;refine λx hx=>?_
  obtain rfl:=dB hx ab;refine⟨_,⟨_,rfl,ab,rfl⟩,?_⟩;refine⟨.pv (.str _),?_,trivial,hK⟩;show PV.str (B7 t a)=PV.str (JR _);unfold B7;rw[if_pos hd,hp];congr 2;omega
def HD:∀(l:List cI) (a:Nat),hZ l a->l≠[]->a+l.length<=4096:=by
 intro l
 induction l with
 |nil=>intro a _ h;exact kN
 |cons t l ih=>
  intro a h _;obtain⟨h1,h2⟩:=h;have h3:=ur h1;by_cases hl:l=[]
  ·subst hl;simp;omega
  ·have:=ih _ h2 hl;simp only[zam];omega
def Yo(t:cI)(a:Nat):1<=(B7 t a).length/\(B7 t a).length<=2:=by
 unfold B7 JR;split<;>simp
def B6:∀(l:List cI) (a:Nat),(eA l a).length<=2*l.length:=by
 intro l
 induction l with
 |nil=>intro a;simp[eA]
 |cons t l ih=>
  intro a;have:=ih (a+t.made.toNat);have h:=Yo t a;simp only[eA,zad,zam];omega
def Vh:∀(n:Nat) (l:List cI) (a:Nat),(gK n l a).length<=3*l.length:=by
 intro n
 induction n with
 |zero=>intro l a;simp[gK]
 |succ n ih=>
  intro l a;unfold gK;split
  ·simp
  ·rename_i hl;have:0<l.length:=zcH.2 hl;have h1:=B6 (l.take 8) a;have h2:=ih (l.drop 8) (jH (l.take 8) a);simp only[zam,zad];rw[zal]at h1;rw[zax]at h2;omega
def RI(l:List cI)(a:Nat):∀(j n:Nat),l.length<=n->gK (n+j) l a=gK n l a:=by
 intro j
 induction j with
 |zero=>intro n _;rfl
 |succ j ih=>intro n hn;rw[<-zaJ,<-ae3 (n+j) l a ab,ih n hn]
def aAN(out:List UInt8):aF:=match out with|[]=>ak2|_=>ach out
def afy:Spec:=EM true false λps K=>∃l:List cI,ps=[.sl 3 (l.map cI.pv)]/\(l≠[]/\hZ l 0)/\
 (4096<(uK l).length->K (.tup [.pv (.str []),.pv (pI 8)]))/\((uK l).length<=4096->K (.tup [.pv (.str (B8 (uK l).length true++uK l)),.pv (pI 0)]))
def XV{α:Type}(n:Nat)(l:List α):cut 0 n l=l.take n:=by simp[cut]
def xY{α:Type}(n:Nat)(l:List α):cut n l.length l=l.drop n:=by simp[cut]
def ahS:MT (ay [(218,ah cm),(251,ah HG),(216,ah dW),(252,sB J0),(186,sB DT),(187,sB ase),(188,sB ZR),(253,ah amI)]) E6 afy:=by
 rintro _ K ⟨l,rfl,⟨cb,di⟩,Gt,xy⟩;have hlen:=HD l 0 di cb;have Gn:=Vh l.length l 0;refine⟨λm env σ=>∃(out:List UInt8) (l':List cI) (a:Nat),(l'.length=m/\hZ l' a/\l'.length<=l.length/\uK l=out++gK m l' a/\(l'=[]->out≠[]))/\σ=aAN out/\env=[(0,.pv (.sl 3 (l'.map cI.pv))),(4,.ref 0 0 0),eN 5 a],l.length,⟨[],l,0,⟨rfl,di,zai _,rfl,λh=>absurd h cb⟩,rfl,rfl⟩,?_⟩;rintro m env σ ⟨out,l',a,⟨hm,WU,hle,cL,avo⟩,rfl,rfl⟩;have sS:out.length<=3*l.length:=by
  have:(uK l).length=_:=congrArg List.length cL;unfold uK at this;rw[zad]at this;omega
 refine λ_=>?_
 rw[zav];refine λb hb=>?_
 rcases cmp hb with⟨rfl,h⟩|⟨rfl,h⟩
 ·cases m with
  |zero=>omega
  |succ m=>
  have cK:l'≠[]:=Rk;refine λ_=>?_
  rw[zav];refine λx hx=>?_
  have hx:x=((min l'.length 8:Nat):Int):=ab;subst hx;have e19:cut 0 ((min l'.length 8:Nat):Int).toNat (l'.map cI.pv)=(l'.take 8).map cI.pv:=by
   rw[zaC,XV,<-zc8];congr 1;rcases Nat.le_total l'.length 8 with h8|h8
   ·rw[zas h8,zcN,za1 h8]
   ·rw[zbI h8]
  have e0:cut ((min l'.length 8:Nat):Int).toNat (l'.map cI.pv).length (l'.map cI.pv)=(l'.drop 8).map cI.pv:=by
   rw[zaC,xY,<-List.map_drop];congr 1;rcases Nat.le_total l'.length 8 with h8|h8
   ·rw[zas h8,List.drop_length,List.drop_of_length_le h8]
   ·rw[zbI h8]
  obtain⟨g,Xr⟩:∃g,l'.take 8=g:=⟨_,rfl⟩
  have aPl:g.length<=8:=by rw[<-Xr,zal];omega
  have ayz:hZ g a:=by
   rw[<-zaD 8 l',oY,Xr]at WU;exact WU.1
  rw[Xr]at e19;refine⟨⟨ab,oP⟩,?_⟩;refine λ_=>?_
  cases out with
  |nil=>
   refine⟨λm2 env σ=>∃g1 g2:List cI,(g1++g2=g/\g2.length=m2)/\σ=aAN []/\env=[(0,.pv (.sl 3 (l'.map cI.pv))),(4,.ref 0 0 0),eN 5 (jH g1 a),(6,.pv (.int .u8 (fa 0 g1))),(7,.pv (.str (eA g1 a))),eN 8 (min l'.length 8:Nat),(19,.pv (.sl 3 (g.map cI.pv))),eN 20 g.length,eN 21 g1.length],g.length,⟨[],g,⟨rfl,rfl⟩,rfl,?_⟩,?_⟩
   ·show[(0,AV.pv (.sl 3 (l'.map cI.pv))),(4,.ref 0 0 0),eN 5 a,(6,.pv (.int .u8 0)),(7,.pv (.str [])),eN 8 (min l'.length 8:Nat),(19,.pv (.sl 3 (cut 0 ((min l'.length 8:Nat):Int).toNat (l'.map cI.pv)))),eN 20 ((cut 0 ((min l'.length 8:Nat):Int).toNat (l'.map cI.pv)).length:Nat),eN 21 0]=_;rw[e19,zav];rfl
   rintro m2 env σ ⟨g1,g2,⟨hg,sL⟩,rfl,rfl⟩;have bB:g1.length+g2.length=g.length:=EZ;refine λb hb=>?_
   rcases cmp hb with⟨rfl,h2⟩|⟨rfl,h2⟩
   ·cases g2 with
    |nil=>simp at bB;omega
    |cons t g2=>
    simp only[zam]at bB;have Eu:vm t (jH g1 a)/\hZ g2 (jH g1 a+t.made.toNat):=by
     rw[<-hg,oY]at ayz;exact ayz.2
    have hmt:=ur Eu.1;have hbT:=B6 g1 a;have htB:=Yo t (jH g1 a);have PH:=Ky g1 0;have hp8:2^g1.length<=2^7:=zb6 ab ab;have hp0:=zcj g1.length;rw[zaV]at PH;refine⟨t.pv,⟨ab,ajA⟩,?_⟩;refine⟨rfl,?_⟩;have next:∀x:Int,x=(jH g1 a:Int)+t.made->x=(jH (g1++[t]) a:Nat):=by
     intro x hx;rw[U3,hx];simp only[jH];omega
    cases hc:t.copy with
    |true=>
     have hd:t.d≠0:=oW;refine⟨pB true,⟨t,rfl,ep⟩,?_⟩;refine⟨ab,?_⟩;refine λx hx=>?_
     have hx:x=((2^g1.length:Nat):Int):=by
      rw[hx];have e8:min ((g1.length:Int)).toNat IntKind.u8.bits=g1.length:=by
       have:IntKind.u8.bits=8:=rfl;omega
      rw[e8,Int.one_mul,show((2:Int)^g1.length)=((2^g1.length:Nat):Int) by simp];exact ZV ab
     subst hx;refine λx hx=>?_
     rw[or8 ab ab,show 2^g1.length=2^g1.length*1 by omega,O7 ab]at hx;refine⟨_,⟨t,jH g1 a,rfl,Eu.1,rfl⟩,?_⟩;refine⟨ab,?_⟩;refine⟨_,⟨t,rfl,rfl⟩,?_⟩;refine λy hy=>?_
     have hy:=next y (dB hy ab)
     subst hy;refine λz hz=>?_
     obtain rfl:=dB hz ab;refine⟨g2.length,QU,g1++[t],g2,⟨sv,rfl⟩,rfl,?_⟩;have e6:x=(fa 0 (g1++[t]):Nat):=by rw[hx,Ar];simp[fa,hd]
     have e7:eA g1 a++B7 t (jH g1 a)=eA (g1++[t]) a:=Qm;have ZD:((g1.length:Int)+1)=((g1++[t]).length:Nat):=aj;rw[e6,e7,ZD]
    |false=>
     have hd:¬t.d≠0:=oW;refine⟨pB false,⟨t,rfl,ep⟩,?_⟩;refine⟨_,⟨t,jH g1 a,rfl,Eu.1,rfl⟩,?_⟩;refine⟨ab,?_⟩;refine⟨_,⟨t,rfl,rfl⟩,?_⟩;refine λy hy=>?_
     have hy:=next y (dB hy ab)
     subst hy;refine λz hz=>?_
     obtain rfl:=dB hz ab;refine⟨g2.length,QU,g1++[t],g2,⟨sv,rfl⟩,rfl,?_⟩;have e6:fa 0 (g1++[t])=fa 0 g1:=by rw[Ar];simp[fa,hd]
     have e7:eA g1 a++B7 t (jH g1 a)=eA (g1++[t]) a:=Qm;have ZD:((g1.length:Int)+1)=((g1++[t]).length:Nat):=aj;rw[e6,e7,ZD]
   ·have mU:g2=[]:=zae ab;subst mU;rw[zbf]at hg;subst hg;have PH:=Ky g1 0;rw[zaV]at PH;have hp8:2^g1.length<=2^8:=zb6 ab ab;have hbT:=B6 g1 a;refine⟨lV (fa 0 g1),?_,.inl ⟨rfl,?_⟩⟩
    ·rw[ue ab,zaC]
    refine⟨eA g1 a,rfl,[]++[lV (fa 0 g1)],ahY,ab,rfl,?_⟩;refine⟨⟨ab,oP⟩,?_⟩;refine⟨(l'.drop 8).length,ef,([]++[lV (fa 0 g1)])++eA g1 a,l'.drop 8,jH g1 a,⟨rfl,?_,ef,?_,λ_=>aj⟩,?_,?_⟩
    ·rw[<-zaD 8 l',oY,Xr]at WU;exact WU.2
    ·rw[cL];rw[gK,if_neg cK,Xr];have e:=RI (l'.drop 8) (jH g1 a) (m-(l'.drop 8).length) (l'.drop 8).length (zai _);rw[zc9 ef]at e;rw[e];simp
    ·rfl
    ·show[(0,AV.pv (.sl 3 (cut ((min l'.length 8:Nat):Int).toNat (l'.map cI.pv).length (l'.map cI.pv)))),(4,.ref 0 0 0),eN 5 (jH g1 a)]=_;rw[e0]
  |cons o os=>
   refine⟨λm2 env σ=>∃g1 g2:List cI,(g1++g2=g/\g2.length=m2)/\σ=aAN (o::os)/\env=[(0,.pv (.sl 3 (l'.map cI.pv))),(4,.ref 0 0 0),eN 5 (jH g1 a),(6,.pv (.int .u8 (fa 0 g1))),(7,.pv (.str (eA g1 a))),eN 8 (min l'.length 8:Nat),(19,.pv (.sl 3 (g.map cI.pv))),eN 20 g.length,eN 21 g1.length],g.length,⟨[],g,⟨rfl,rfl⟩,rfl,?_⟩,?_⟩
   ·show[(0,AV.pv (.sl 3 (l'.map cI.pv))),(4,.ref 0 0 0),eN 5 a,(6,.pv (.int .u8 0)),(7,.pv (.str [])),eN 8 (min l'.length 8:Nat),(19,.pv (.sl 3 (cut 0 ((min l'.length 8:Nat):Int).toNat (l'.map cI.pv)))),eN 20 ((cut 0 ((min l'.length 8:Nat):Int).toNat (l'.map cI.pv)).length:Nat),eN 21 0]=_;rw[e19,zav];rfl
   rintro m2 env σ ⟨g1,g2,⟨hg,sL⟩,rfl,rfl⟩;have bB:g1.length+g2.length=g.length:=EZ;refine λb hb=>?_
   rcases cmp hb with⟨rfl,h2⟩|⟨rfl,h2⟩
   ·cases g2 with
    |nil=>simp at bB;omega
    |cons t g2=>
    simp only[zam]at bB;have Eu:vm t (jH g1 a)/\hZ g2 (jH g1 a+t.made.toNat):=by
     rw[<-hg,oY]at ayz;exact ayz.2
    have hmt:=ur Eu.1;have hbT:=B6 g1 a;have htB:=Yo t (jH g1 a);have PH:=Ky g1 0;have hp8:2^g1.length<=2^7:=zb6 ab ab;have hp0:=zcj g1.length;rw[zaV]at PH;refine⟨t.pv,⟨ab,ajA⟩,?_⟩;refine⟨rfl,?_⟩;have next:∀x:Int,x=(jH g1 a:Int)+t.made->x=(jH (g1++[t]) a:Nat):=by
     intro x hx;rw[U3,hx];simp only[jH];omega
    cases hc:t.copy with
    |true=>
     have hd:t.d≠0:=oW;refine⟨pB true,⟨t,rfl,ep⟩,?_⟩;refine⟨ab,?_⟩;refine λx hx=>?_
     have hx:x=((2^g1.length:Nat):Int):=by
      rw[hx];have e8:min ((g1.length:Int)).toNat IntKind.u8.bits=g1.length:=by
       have:IntKind.u8.bits=8:=rfl;omega
      rw[e8,Int.one_mul,show((2:Int)^g1.length)=((2^g1.length:Nat):Int) by simp];exact ZV ab
     subst hx;refine λx hx=>?_
     rw[or8 ab ab,show 2^g1.length=2^g1.length*1 by omega,O7 ab]at hx;refine⟨_,⟨t,jH g1 a,rfl,Eu.1,rfl⟩,?_⟩;refine⟨ab,?_⟩;refine⟨_,⟨t,rfl,rfl⟩,?_⟩;refine λy hy=>?_
     have hy:=next y (dB hy ab)
     subst hy;refine λz hz=>?_
     obtain rfl:=dB hz ab;refine⟨g2.length,QU,g1++[t],g2,⟨sv,rfl⟩,rfl,?_⟩;have e6:x=(fa 0 (g1++[t]):Nat):=by rw[hx,Ar];simp[fa,hd]
     have e7:eA g1 a++B7 t (jH g1 a)=eA (g1++[t]) a:=Qm;have ZD:((g1.length:Int)+1)=((g1++[t]).length:Nat):=aj;rw[e6,e7,ZD]
    |false=>
     have hd:¬t.d≠0:=oW;refine⟨pB false,⟨t,rfl,ep⟩,?_⟩;refine⟨_,⟨t,jH g1 a,rfl,Eu.1,rfl⟩,?_⟩;refine⟨ab,?_⟩;refine⟨_,⟨t,rfl,rfl⟩,?_⟩;refine λy hy=>?_
     have hy:=next y (dB hy ab)
     subst hy;refine λz hz=>?_
     obtain rfl:=dB hz ab;refine⟨g2.length,QU,g1++[t],g2,⟨sv,rfl⟩,rfl,?_⟩;have e6:fa 0 (g1++[t])=fa 0 g1:=by rw[Ar];simp[fa,hd]
     have e7:eA g1 a++B7 t (jH g1 a)=eA (g1++[t]) a:=Qm;have ZD:((g1.length:Int)+1)=((g1++[t]).length:Nat):=aj;rw[e6,e7,ZD]
   ·have mU:g2=[]:=zae ab;subst mU;rw[zbf]at hg;subst hg;have PH:=Ky g1 0;rw[zaV]at PH;have hp8:2^g1.length<=2^8:=zb6 ab ab;have hbT:=B6 g1 a;refine⟨lV (fa 0 g1),?_,.inr ⟨o::os,ab,rfl,?_⟩⟩
    ·rw[ue ab,zaC]
    refine⟨eA g1 a,rfl,(o::os)++[lV (fa 0 g1)],ahY,ab,rfl,?_⟩;refine⟨⟨ab,oP⟩,?_⟩;refine⟨(l'.drop 8).length,ef,((o::os)++[lV (fa 0 g1)])++eA g1 a,l'.drop 8,jH g1 a,⟨rfl,?_,ef,?_,λ_=>aj⟩,?_,?_⟩
    ·rw[<-zaD 8 l',oY,Xr]at WU;exact WU.2
    ·rw[cL];rw[gK,if_neg cK,Xr];have e:=RI (l'.drop 8) (jH g1 a) (m-(l'.drop 8).length) (l'.drop 8).length (zai _);rw[zc9 ef]at e;rw[e];simp
    ·rfl
    ·show[(0,AV.pv (.sl 3 (cut ((min l'.length 8:Nat):Int).toNat (l'.map cI.pv).length (l'.map cI.pv)))),(4,.ref 0 0 0),eN 5 (jH g1 a)]=_;rw[e0]
 ·have cK:l'=[]:=zae ab;subst cK;have hb:uK l=out:=by
   rw[cL];cases m with
   |zero=>simp[gK]
   |succ m=>simp[gK]
  rw[hb]at Gt xy;cases out with
  |nil=>exact absurd rfl (avo rfl)
  |cons o os=>
   refine⟨o::os,rfl,rfl,?_⟩;refine λb hb=>?_
   rcases cmp hb with⟨rfl,h2⟩|⟨rfl,h2⟩
   ·exact⟨[.pv _,.pv _],⟨rfl,rfl,trivial⟩,⟨trivial,trivial,trivial⟩,Gt ab⟩
   ·have h3:(o::os).length<=4096:=by omega
    refine⟨o::os,rfl,rfl,?_⟩;refine⟨_,⟨_,true,rfl,by simp only[zam]at h3 ⊢;omega,rfl⟩,?_⟩;refine⟨rfl,o::os,aj,rfl,?_⟩;rw[zaC];refine⟨by simp[B8,JR]at h3 ⊢;omega,?_⟩;exact⟨[.pv (.str _),.pv _],⟨rfl,rfl,trivial⟩,⟨trivial,trivial,trivial⟩,xy h3⟩
def aBT(d:List UInt8)(h:d.length<=4096):∀(m a:Nat),a+m=d.length->hZ (qB d (aY d) m a) a:=by
 intro m
 induction m using Nat.strongRecOn with
 |_ m ih=>
  intro a hm;cases m with
  |zero=>trivial
  |succ m=>
   have azI:=Ck d a ab;rw[C9 d m a hm];refine⟨⟨ab,?_⟩,ih _ ab _ ab⟩;unfold mz;split
   ·rename_i cb;have h1:=Q0 d a ab cb;have h2:=Y5 d a _ ab h1.2.1;have h3:=SA d a;have h4:e_ d a<=KK a:=Nat.min_le_left _ _;unfold abj;simp only;rw[if_pos ab];refine⟨trivial,?_,?_,?_,?_,?_⟩<;>omega
   ·unfold Ws;have aU:a<d.length:=ab;have:=(d[a]?.getD 0).toNat_lt;simp only[ne_eq,not_true_eq_false,if_false,true_and];omega
def aas(d:List UInt8)(h:d.length<=4096):hZ (Eb d) 0:=aBT d h d.length 0 ab
def af4(d:List UInt8)(h:0<d.length):Eb d≠[]:=by
 unfold Eb;obtain⟨m,hm⟩:∃m,d.length=m+1:=⟨d.length-1,ab⟩
 rw[hm,C9 d m 0 ab];simp
def SX(n:Nat)(b:Bool):(B8 n b).length=2:=rfl
def KJ{g1 g2 l:List cI}{t:cI}(h:g1++t::g2=l){i:Int}(hi:i=g1.length):(l.map cI.pv)[i.toNat]?=some t.pv:=by
 subst h;subst hi;rw[zaC,za9,List.getElem?_append_right (zai _),Nat.sub_self];rfl
def anS(l:List cI)(h:l≠[]):0<(uK l).length:=by
 unfold uK;cases l with
 |nil=>exact kN
 |cons t l=>simp[gK]
def ia(t:cI)(a:Nat):Int:=
 if 4096<=a then 8
 else if t.d≠0 then
  (if t.b≠0 then 3 else if ¬(1<=t.d/\t.d<=a/\3<=t.l/\t.l<=KK a)then 2 else if 4096<a+t.l then 8 else 0)
 else(if t.l≠0 then 3 else if ¬(0<=t.b/\t.b<=255)then 2 else 0)
def L4{t:cI}{a:Nat}:ia t a=0↔vm t a:=by
 unfold ia vm;by_cases h:4096<=a
 ·rw[if_pos h];constructor
  ·intro h;cases h
  ·intro h';omega
 ·rw[if_neg h];by_cases hd:t.d≠0
  ·rw[if_pos hd,if_pos hd];split
   ·constructor
    ·intro h;cases h
    ·intro h';omega
   ·split
    ·constructor
     ·intro h;cases h
     ·intro h';omega
    ·split
     ·constructor
      ·intro h;cases h
      ·intro h';omega
     ·constructor
      ·intro _;omega
      ·intro _;rfl
  ·rw[if_neg hd,if_neg hd];split
   ·constructor
    ·intro h;cases h
    ·intro h';omega
   ·split
    ·constructor
     ·intro h;cases h
     ·intro h';omega
    ·constructor
     ·intro _;omega
     ·intro _;rfl
def dp:List cI->Nat->Nat->Int×Int
 |[],_,_=>(0,0)
 |t::l,i,a=>if ia t a≠0 then((i:Int),ia t a)else dp l (i+1) (a+t.made.toNat)
def nf(l:List cI):Int×Int:=if l=[]then(0,17)else dp l 0 0
def UT:∀(l:List cI) (i a:Nat),(dp l i a).2=0↔hZ l a:=by
 intro l
 induction l with
 |nil=>intro i a;simp[dp,hZ]
 |cons t l ih=>
  intro i a;unfold dp hZ;split
  ·rename_i h;constructor
   ·intro h';exact absurd h' h
   ·intro h';exact absurd (L4.2 h'.1) h
  ·rename_i h;rw[ih];have:=L4.1 (zco h);simp[this]
def ada:∀(l:List cI) (i a:Nat),(dp l i a).2=0->(dp l i a).1=0:=by
 intro l
 induction l with
 |nil=>intro i a _;rfl
 |cons t l ih=>
  intro i a h;unfold dp at h ⊢;split
  ·rename_i h';rw[if_pos h']at h;exact absurd h h'
  ·rename_i h';rw[if_neg h']at h;exact ih _ _ h
def Vi{l:List cI}(h:(nf l).2=0):(nf l).1=0/\l≠[]/\hZ l 0:=by
 unfold nf at h ⊢;split at h
 ·cases h
 ·rename_i hl;rw[if_neg hl];exact⟨ada _ _ _ h,hl,(UT _ _ _).1 h⟩
def ig:Nat->Nat->List UInt8->List UInt8
 |0,_,out=>out
 |n+1,d,out=>ig n d (out++[out[out.length-d]?.getD 0])
def Jo:∀(n d:Nat) (out:List UInt8),(ig n d out).length=out.length+n:=by
 intro n
 induction n with
 |zero=>intro d out;rfl
 |succ n ih=>intro d out;simp only[ig,ih,zad,zam,zaY];omega
def GP(t:cI)(out:List UInt8):List UInt8:=if t.d≠0 then ig t.l.toNat t.d.toNat out else out++[lV t.b.toNat]
def Em:List cI->List UInt8->List UInt8
 |[],out=>out
 |t::l,out=>Em l (GP t out)
def Ze(l:List cI):List UInt8:=Em l []
def uh{t:cI}{a:Nat}(h:vm t a)(out:List UInt8):(GP t out).length=out.length+t.made.toNat:=by
 unfold vm at h;unfold GP cI.made;split
 ·rw[Jo]
 ·simp
def amM:∀(l:List cI) (out:List UInt8) (a:Nat),hZ l a->(Em l out).length+a=out.length+jH l a:=by
 intro l
 induction l with
 |nil=>intro out a _;simp[Em,jH]
 |cons t l ih=>
  intro out a h;obtain⟨h1,h2⟩:=h;have h3:=ih (GP t out) _ h2;have h4:=uh h1 out;simp only[Em,jH];omega
def awL:∀(l:List cI) (a:Nat),hZ l a->a<=4096->jH l a<=4096:=by
 intro l
 induction l with
 |nil=>intro a _ h;exact h
 |cons t l ih=>
  intro a h _;have:=ur h.1;exact ih _ h.2 ab
def aN{K:Bool->Prop}(k:K false):∀r:Bool,(r=true↔true=false)->K r:=λr hr=>by
 cases r with
 |false=>exact k
 |true=>exact absurd (hr.1 rfl) ao
def bP{K:Bool->Prop}(k:K true):∀r:Bool,(r=true↔false=false)->K r:=λr hr=>by
 cases r with
 |false=>exact absurd (hr.2 rfl) ao
 |true=>exact k
def wY(ps:List PV)(x:PV):Prop:=∃(t:cI) (a:Nat),ps=[t.pv,pI a]/\a<=4096/\x=pI (ia t a)
def aln(a b:Int):bQ [a,b]=if a=0 then b else a:=by
 show(if a=0 then(if b=0 then 0 else b)else a)=_;by_cases h:b=0
 ·rw[if_pos h,h]
 ·rw[if_neg h]
def ajf(e:Int):dZ true e=0:=rfl
def abz(e:Int):dZ false e=e:=rfl
def ak3{t:cI}{a:Nat}(h:¬(a:Int)<4096):ia t a=8:=by unfold ia;rw[if_pos ab]
def ap3{t:cI}{a:Nat}(h:(a:Int)<4096)(hd:t.d≠0)(hb:t.b≠0):ia t a=3:=by unfold ia;rw[if_neg ab,if_pos hd,if_pos hb]
def aiM{t:cI}{a:Nat}(h:(a:Int)<4096)(hd:t.d≠0)(hb:t.b=0):ia t a=if ¬(1<=t.d/\t.d<=a/\3<=t.l/\t.l<=KK a)then 2 else if 4096<a+t.l then 8 else 0:=by unfold ia;rw[if_neg ab,if_pos hd,if_neg ab]
def aqi{t:cI}{a:Nat}(h:(a:Int)<4096)(hd:¬t.d≠0)(hb:t.l≠0):ia t a=3:=by unfold ia;rw[if_neg ab,if_neg hd,if_pos hb]
def ar5{t:cI}{a:Nat}(h:(a:Int)<4096)(hd:¬t.d≠0)(hb:t.l=0):ia t a=if ¬(0<=t.b/\t.b<=255)then 2 else 0:=by unfold ia;rw[if_neg ab,if_neg hd,if_neg ab]
def Zl:MT (ay [(218,ah cm),(171,ah l5),(170,ah qZ),(268,ah jl),(269,ah fF),(216,ah dW)]) zO (ah wY):=by
 rintro _ K ⟨_,⟨t,a,rfl,ha,rfl⟩,hK⟩;refine⟨ak,?_⟩;refine λb hb=>?_
 refine⟨_,⟨b,8,rfl,rfl⟩,?_⟩;have big:= @ak3 t a;cases hc:t.copy with
 |true=>
  have hd:t.d≠0:=oW;refine⟨pB true,⟨t,rfl,ep⟩,?_⟩;refine λe he=>?_
  rcases cmp he with⟨rfl,h1⟩|⟨rfl,h1⟩
  ·refine⟨_,⟨true,3,rfl,rfl⟩,?_⟩;refine⟨rfl,?_⟩;refine⟨_,⟨[dZ b 8,dZ true 3],rfl,rfl⟩,?_⟩;rcases cmp hb with⟨rfl,h⟩|⟨rfl,h⟩
   ·refine λq hq=>?_
    rcases cmp hq with⟨rfl,h2⟩|⟨rfl,h2⟩
    ·exact absurd rfl h2
    refine⟨_,⟨_,_,_,rfl,rfl⟩,?_⟩;refine⟨pB true,⟨t,rfl,ep⟩,?_⟩;refine⟨ak,?_⟩;by_cases h2:1<=t.d/\t.d<=a
    ·refine⟨pB true,⟨_,_,_,rfl,oH iT⟩,?_⟩;refine⟨_,⟨a,rfl,ab,rfl⟩,?_⟩;refine⟨_,⟨_,_,_,rfl,rfl⟩,?_⟩;refine⟨ak,?_⟩;refine⟨_,⟨decide (3<=t.l/\t.l<=zE a),2,rfl,rfl⟩,?_⟩;refine⟨_,⟨t,rfl,rfl⟩,?_⟩;refine λx hx=>?_
     obtain rfl:=dB hx ab;refine λc Cw=>?_
     refine⟨_,⟨c,8,rfl,rfl⟩,?_⟩;refine⟨rfl,?_⟩;refine⟨_,⟨[dZ (decide (3<=t.l/\t.l<=zE a)) 2,dZ c 8],rfl,rfl⟩,?_⟩;refine⟨.pv (pI _),bu ?_,trivial,hK⟩;rw[aln,aiM h hd h1];have hm:t.made=t.l:=Sy;rw[hm]at Cw;unfold zE;rw[zaC];by_cases h3:3<=t.l/\t.l<=(KK a:Int)
     ·rw[decide_eq_true h3,ajf,if_pos rfl,if_neg (λhn=>hn ⟨h2.1,h2.2,h3⟩)];rcases cmp Cw with⟨rfl,h4⟩|⟨rfl,h4⟩
      ·rw[if_neg ab];rfl
      ·rw[if_pos ab];rfl
     ·rw[decide_eq_false h3,abz,if_neg (show ¬(2:Int)=0 by decide),if_pos (λhn=>h3 hn.2.2)]
    ·refine⟨pB false,⟨_,_,_,rfl,oH iT⟩,?_⟩;refine⟨ak,?_⟩;refine⟨_,⟨false,2,rfl,rfl⟩,?_⟩;refine⟨_,⟨t,rfl,rfl⟩,?_⟩;refine λx hx=>?_
     obtain rfl:=dB hx ab;refine λc Cw=>?_
     refine⟨_,⟨c,8,rfl,rfl⟩,?_⟩;refine⟨rfl,?_⟩;refine⟨_,⟨[dZ false 2,dZ c 8],rfl,rfl⟩,?_⟩;refine⟨.pv (pI _),bu ?_,trivial,hK⟩;rw[aln,abz,if_neg ao];rw[aiM h hd h1,if_pos (λhn=>h2 ⟨hn.1,hn.2.1⟩)]
   ·refine λq hq=>?_
    rcases cmp hq with⟨rfl,h2⟩|⟨rfl,h2⟩
    ·refine⟨.pv (pI _),bu ?_,trivial,hK⟩;rw[big h];rfl
    ·exact absurd ao h2
  ·refine⟨pB true,⟨t,rfl,ep⟩,?_⟩;refine aN ?_;refine⟨_,⟨false,3,rfl,rfl⟩,?_⟩;refine⟨rfl,?_⟩;refine⟨_,⟨[dZ b 8,dZ false 3],rfl,rfl⟩,?_⟩;refine λq hq=>?_
   rcases cmp hb with⟨rfl,h⟩|⟨rfl,h⟩
   ·rcases cmp hq with⟨rfl,h2⟩|⟨rfl,h2⟩
    ·refine⟨.pv (pI _),bu ?_,trivial,hK⟩;rw[ap3 h hd h1];rfl
    ·exact absurd ao h2
   ·rcases cmp hq with⟨rfl,h2⟩|⟨rfl,h2⟩
    ·refine⟨.pv (pI _),bu ?_,trivial,hK⟩;rw[big h];rfl
    ·exact absurd ao h2
 |false=>
  have hd:¬t.d≠0:=oW;have hm:t.made=1:=KM;refine⟨pB false,⟨t,rfl,ep⟩,?_⟩;refine⟨pB false,⟨t,rfl,ep⟩,?_⟩;refine bP ?_;refine λe he=>?_
  refine⟨_,⟨e,3,rfl,rfl⟩,?_⟩;refine⟨rfl,?_⟩;refine⟨_,⟨[dZ b 8,dZ e 3],rfl,rfl⟩,?_⟩;refine λq hq=>?_
  rcases cmp hb with⟨rfl,h⟩|⟨rfl,h⟩
  ·rcases cmp he with⟨rfl,h1⟩|⟨rfl,h1⟩
   ·rcases cmp hq with⟨rfl,h2⟩|⟨rfl,h2⟩
    ·exact absurd rfl h2
    refine⟨_,⟨_,_,_,rfl,rfl⟩,?_⟩;refine⟨pB false,⟨t,rfl,ep⟩,?_⟩;refine⟨ak,?_⟩;refine⟨_,⟨decide (0<=t.b/\t.b<=255),2,rfl,rfl⟩,?_⟩;refine⟨_,⟨t,rfl,rfl⟩,?_⟩;refine λx hx=>?_
    obtain rfl:=dB hx ab;refine λc Cw=>?_
    refine⟨_,⟨c,8,rfl,rfl⟩,?_⟩;refine⟨rfl,?_⟩;refine⟨_,⟨[dZ (decide (0<=t.b/\t.b<=255)) 2,dZ c 8],rfl,rfl⟩,?_⟩;refine⟨.pv (pI _),bu ?_,trivial,hK⟩;rw[hm]at Cw;rw[aln,ar5 h hd h1];by_cases h3:0<=t.b/\t.b<=255
    ·rw[decide_eq_true h3,ajf,if_pos rfl,if_neg (λhn=>hn h3)];rcases cmp Cw with⟨rfl,h4⟩|⟨rfl,h4⟩
     ·rfl
     ·omega
    ·rw[decide_eq_false h3,abz,if_neg (show ¬(2:Int)=0 by decide),if_pos h3]
   ·rcases cmp hq with⟨rfl,h2⟩|⟨rfl,h2⟩
    ·refine⟨.pv (pI _),bu ?_,trivial,hK⟩;rw[aqi h hd h1];rfl
    ·exact absurd ao h2
  ·have h8:bQ [dZ false 8,dZ e 3]=8:=rfl;rcases cmp hq with⟨rfl,h2⟩|⟨rfl,h2⟩
   ·refine⟨.pv (pI _),bu ?_,trivial,hK⟩;rw[big h,h8]
   ·exact absurd (by rw[h8];decide) h2
def oZ:Spec:=EM true false λps K=>∃l:List cI,ps=[.sl 3 (l.map cI.pv)]/\l.length<=5000/\K (.tup [.pv (pI (nf l).1),.pv (pI (nf l).2)])
def Qo:MT (ay [(247,ah wY),(216,ah dW)]) vo oZ:=by
 rintro _ K ⟨l,rfl,hl,hK⟩;refine λ_=>?_
 refine λb hb=>?_
 rw[zav]at hb;rcases cmp hb with⟨rfl,h⟩|⟨rfl,h⟩
 ·have:l=[]:=zae ab;subst this;exact K0
 have cb:l≠[]:=by intro e;subst e;exact h rfl
 have hc:nf l=dp l 0 0:=by unfold nf;rw[if_neg cb]
 rw[hc]at hK;refine λ_=>?_
 rw[zav];refine⟨λm env σ=>∃(g1 g2:List cI) (a:Nat),(g1++g2=l/\g2.length=m/\a<=4096/\dp l 0 0=dp g2 g1.length a)/\σ=[]/\env=[eN 4 a,(11,.pv (.sl 3 (l.map cI.pv))),eN 12 l.length,eN 13 g1.length],l.length,⟨[],l,0,⟨rfl,rfl,ab,rfl⟩,rfl,rfl⟩,?_⟩;rintro m env σ ⟨g1,g2,a,⟨hg,hm,ha,cL⟩,rfl,rfl⟩;have bB:g1.length+g2.length=l.length:=EZ;refine λb hb=>?_
 rcases cmp hb with⟨rfl,h2⟩|⟨rfl,h2⟩
 ·cases g2 with
  |nil=>simp at bB;omega
  |cons t g2=>
  simp only[zam]at bB hm;refine⟨_,⟨ab,KJ hg rfl⟩,?_⟩;refine⟨rfl,?_⟩;refine⟨_,⟨t,a,rfl,ha,rfl⟩,?_⟩;refine λb hb=>?_
  rcases cmp hb with⟨rfl,h3⟩|⟨rfl,h3⟩
  ·refine⟨[.pv (pI _),.pv (pI _)],⟨rfl,rfl,trivial⟩,⟨trivial,trivial,trivial⟩,?_⟩;rw[cL,dp,if_pos h3]at hK;exact hK
  ·have di:=L4.1 (zco h3);have hmt:=ur di;refine⟨_,⟨t,rfl,rfl⟩,?_⟩;refine λx hx=>?_
   obtain rfl:=dB hx ab;refine λx hx=>?_
   obtain rfl:=dB hx ab;refine⟨g2.length,ab,g1++[t],g2,a+t.made.toNat,⟨sv,rfl,ab,?_⟩,rfl,?_⟩
   ·rw[cL,dp,if_neg h3];simp
   ·rw[show((a+t.made.toNat:Nat):Int)=(a:Int)+t.made by omega,zad];rfl
 ·have:g2=[]:=zae ab;subst this;rw[cL]at hK;exact K0
def HI:∀(k d:Nat) (out:List UInt8),ig (k+1) d out=ig k d out++[(ig k d out)[(ig k d out).length-d]?.getD 0]:=by
 intro k
 induction k with
 |zero=>intro d out;rfl
 |succ k ih=>
  intro d out;show ig (k+1) d (out++[out[out.length-d]?.getD 0])=_;rw[ih];rfl
def tf:Spec:=EM true false λps K=>∃l:List cI,ps=[.sl 3 (l.map cI.pv)]/\hZ l 0/\K (.pv (.str (Ze l)))
def Y2:MT (ay [(218,ah cm)]) zI tf:=by
 rintro _ K ⟨l,rfl,di,hK⟩;have hlen:l.length<=4096:=by
  by_cases h:l=[]
  ·subst h;simp
  ·have:=HD l 0 di h;omega
 refine λ_=>?_
 rw[zav];refine⟨λm env σ=>∃(g1 g2:List cI) (out:List UInt8),(g1++g2=l/\g2.length=m/\hZ g2 out.length/\out.length<=4096/\Ze l=Em g2 out)/\σ=[.row 5 1 true (out.map aL)]/\env=[(3,.own 0),(6,.pv (.sl 3 (l.map cI.pv))),eN 7 l.length,eN 8 g1.length],l.length,⟨[],l,[],⟨rfl,rfl,di,aj,rfl⟩,rfl,rfl⟩,?_⟩;rintro m env σ ⟨g1,g2,out,⟨hg,hm,UF,avo,cL⟩,rfl,rfl⟩;have bB:g1.length+g2.length=l.length:=EZ;refine λb hb=>?_
 rcases cmp hb with⟨rfl,h2⟩|⟨rfl,h2⟩
 ·cases g2 with
  |nil=>simp at bB;omega
  |cons t g2=>
  simp only[zam]at bB hm;obtain⟨Eu,avP⟩:=UF;have hmt:=ur Eu;have nj:=Eu;unfold vm at nj;refine⟨_,⟨ab,KJ hg rfl⟩,?_⟩;refine⟨rfl,?_⟩;cases hc:t.copy with
  |false=>
   have hd:¬t.d≠0:=oW;have mY:t.made=1:=KM;rw[if_neg hd]at nj;refine⟨pB false,⟨t,rfl,ep⟩,?_⟩;refine bP ?_;refine λx hx=>?_
   rw[Pn]at hx;refine⟨rfl,?_⟩;refine⟨⟨aH,aH⟩,?_⟩;refine λy hy=>?_
   obtain rfl:=dB hy ab;have e:GP t out=out++[lV t.b.toNat]:=by unfold GP;rw[if_neg hd]
   refine⟨g2.length,ab,g1++[t],g2,GP t out,⟨sv,rfl,?_,?_,?_⟩,?_,?_⟩
   ·rw[uh Eu];exact avP
   ·rw[uh Eu];omega
   ·rw[cL];rfl
   ·rw[e,ue (n:=x) ab,zbu,show x.toNat=t.b.toNat by omega];rfl
   ·rw[zad];rfl
  |true=>
   have hd:t.d≠0:=oW;have mY:t.made=t.l:=Sy;rw[if_pos hd]at nj;refine⟨pB true,⟨t,rfl,ep⟩,?_⟩;refine aN ?_;refine⟨λm2 env σ=>∃k:Nat,(k+m2=t.l)/\σ=[.row 5 1 true ((ig k t.d.toNat out).map aL),.box 170 [.pv (pI t.d),.pv (pI t.l),.pv (pI t.b)]]/\env=[(3,.own 0),(5,.ref 1 0 0),(6,.pv (.sl 3 (l.map cI.pv))),eN 7 l.length,eN 8 g1.length,eN 22 t.l,eN 23 k],t.l.toNat,⟨0,ab,rfl,rfl⟩,?_⟩;rintro m2 env σ ⟨k,hk,rfl,rfl⟩;have mE:=Jo k t.d.toNat out;refine λb hb=>?_
   rcases cmp hb with⟨rfl,h3⟩|⟨rfl,h3⟩
   ·refine λ_=>?_
    rw[zav];refine λx hx=>?_
    obtain rfl:=dB hx ab;obtain⟨v,hv⟩:∃v,(ig k t.d.toNat out)[(ig k t.d.toNat out).length-t.d.toNat]?=some v:=qp;refine⟨⟨ab,oP⟩,aL v,?_,?_⟩
    ·rw[za9,show(((ig k t.d.toNat out).length:Int)-t.d).toNat=(ig k t.d.toNat out).length-t.d.toNat by omega,hv];rfl
    refine⟨rfl,?_⟩;refine⟨⟨aH,aH⟩,?_⟩;refine λy hy=>?_
    obtain rfl:=dB hy ab;refine⟨m2-1,ab,k+1,ab,?_,rfl⟩;rw[HI,hv,zbu];rfl
   ·have ek:k=t.l.toNat:=by omega
    subst ek;have e:GP t out=ig t.l.toNat t.d.toNat out:=by unfold GP;rw[if_pos hd]
    refine λy hy=>?_
    obtain rfl:=dB hy ab;refine⟨g2.length,ab,g1++[t],g2,GP t out,⟨sv,rfl,?_,?_,?_⟩,?_,?_⟩
    ·rw[uh Eu];exact avP
    ·rw[uh Eu];omega
    ·rw[cL];rfl
    ·rw[e]
    ·rw[zad];rfl
 ·have:g2=[]:=zae ab;subst this;rw[cL]at hK;refine⟨out,rfl,?_⟩;exact bM
def dD(s:List UInt8):Nat:=(s[0]?.getD 0).toNat+256*(s[1]?.getD 0).toNat
def yd(s:List UInt8):dD s<65536:=by
 have h1:=(s[0]?.getD 0).toNat_lt;have h2:=(s[1]?.getD 0).toNat_lt;unfold dD;omega
def P5(ps:List PV)(x:PV):Prop:=∃s:List UInt8,ps=[.str s]/\2<=s.length/\x=pI (dD s)
def ae4:MT (ay []) Db (ah P5):=by
 rintro _ K ⟨_,⟨s,rfl,hs,rfl⟩,hK⟩;obtain⟨b0,h0⟩:∃b,s[0]?=some b:=qp;obtain⟨b1,h1⟩:∃b,s[1]?=some b:=qp;have l0:=b0.toNat_lt;have l1:=b1.toNat_lt;refine⟨ak,?_⟩;refine⟨_,⟨ab,h0⟩,?_⟩;refine λx hx=>?_
 have hx:=dB hx ab;rw[hx];refine⟨_,⟨ab,h1⟩,?_⟩;refine λy hy=>?_
 have hy:=dB hy ab;rw[hy];refine⟨ab,?_⟩;refine λz hz=>?_
 have e:((b1.toNat:Int).toNat*2^(Int.toNat 8):Nat)=2^8*b1.toNat:=by rw[zaC,Nat.mul_comm];rfl
 rw[at9 ab ab (by rw[e];omega)]at hz;subst hz;refine λq hq=>?_
 rw[e,axa ab ab,O7 ab]at hq;subst hq;refine⟨.pv (pI _),bu ?_,trivial,hK⟩;unfold dD;rw[h0,h1];rfl
def ava{w:Nat}(h:w<65536):w&&&32768≠0↔32768<=w:=by
 have h1:w.testBit 15=decide (w/2^15%2=1):=Nat.testBit_eq_decide_div_mod_eq ..;have e:(32768:Nat)=2^15:=rfl;constructor
 ·intro hn;refine zco λaU=>hn ?_
  have h2:w.testBit 15=false:=by rw[h1,decide_eq_false_iff_not];omega
  apply Nat.eq_of_testBit_eq;intro j;rw[e,zdi,zda,zdf];by_cases hj:15=j
  ·subst hj;rw[h2];rfl
  ·simp[hj]
 ·intro hle hz;have h2:w.testBit 15=true:=by rw[h1,decide_eq_true_iff];omega
  have h3:(w&&&32768).testBit 15=true:=by rw[e,zdi,zda,h2];rfl
  rw[hz,zdf]at h3;cases h3
def abr:Spec:=EM true false λps K=>∃(s:List UInt8) (ex:Bool),ps=[.str s,pB ex]/\s.length<=5000/\
 (s.length<2->K (.tup [.pv (.str []),.pv (pB false),.pv (pI 14)]))/\
 (2<=s.length->(dD s/4096%8≠3->K (.tup [.pv (.str []),.pv (pB (decide (32768<=dD s))),.pv (pI 3)]))/\
   (dD s/4096%8=3->(s.length-2<dD s%4096+1\/(ex=true/\dD s%4096+1<s.length-2)->K (.tup [.pv (.str []),.pv (pB (decide (32768<=dD s))),.pv (pI 10)]))/\
     (¬(s.length-2<dD s%4096+1\/(ex=true/\dD s%4096+1<s.length-2))->K (.tup [.pv (.str ((s.drop 2).take (dD s%4096+1))),.pv (pB (decide (32768<=dD s))),.pv (pI 0)]))))
def afO:MT (ay [(214,ah P5),(171,ah l5)]) C6 abr:=by
 rintro _ K ⟨s,ex,rfl,hs,Gt,xy⟩;refine λb hb=>?_
 rcases cmp hb with⟨rfl,h⟩|⟨rfl,h⟩
 ·exact⟨[.pv (.str _),.pv (pB _),.pv _],⟨rfl,rfl,rfl,trivial⟩,⟨trivial,trivial,trivial,trivial⟩,Gt ab⟩
 have h2:2<=s.length:=ab;have hK:=xy h2;have hw:=yd s;refine⟨_,⟨s,rfl,h2,rfl⟩,?_⟩;refine λx hx=>?_
 rw[show(4095:Int)=((4095:Nat):Int)from rfl,aiF ab ao,show(4095:Nat)=2^12-1 from rfl,PZ]at hx;subst hx;refine λx hx=>?_
 obtain rfl:=dB hx ab;refine⟨ab,?_⟩;have e9:cut (Int.toNat 2) s.length s=s.drop 2:=xY 2 s;refine⟨ab,?_⟩;refine λx hx=>?_
 have hx:x=((dD s/4096:Nat):Int):=by
  rw[hx];show((dD s:Nat):Int).fdiv (2^12)=_;rw[zb7 _ ao];rfl
 subst hx;refine λx hx=>?_
 rw[show(7:Int)=((7:Nat):Int)from rfl,aiF ab ao,show(7:Nat)=2^3-1 from rfl,PZ]at hx;subst hx;refine λb3 rv=>?_
 refine⟨_,⟨b3,3,rfl,rfl⟩,?_⟩;refine λx hx=>?_
 rw[show(32768:Int)=((32768:Nat):Int)from rfl,aiF ab ao]at hx;have zg:=ava (yd s);subst hx;refine λc hc=>?_
 have WQ:c=decide (32768<=dD s):=by
  rw[zaN,hc,decide_eq_true_iff,<-zg];omega
 subst WQ;refine λb hb=>?_
 rcases cmp rv with⟨rfl,h3⟩|⟨rfl,h3⟩
 ·rcases cmp hb with⟨rfl,h⟩|⟨rfl,h⟩
  ·exact kN
  have hK:=hK.2 ab;refine λb hb=>?_
  rw[e9,zax]at hb;rcases cmp hb with⟨rfl,h4⟩|⟨rfl,h4⟩
  ·exact⟨[.pv (.str _),.pv (pB _),.pv _],⟨rfl,rfl,rfl,trivial⟩,⟨trivial,trivial,trivial,trivial⟩,hK.1 (.inl ab)⟩
  have avQ:cut 0 (((dD s%2^12:Nat):Int)+1).toNat (cut (Int.toNat 2) s.length s)=(s.drop 2).take (dD s%4096+1):=by
   rw[e9,XV,show(((dD s%2^12:Nat):Int)+1).toNat=dD s%4096+1 by omega]
  cases ex with
  |false=>
   have hK:=hK.2 (by rintro(h5|⟨h5,_⟩);omega;cases h5);rw[<-avQ]at hK;refine⟨⟨ab,by rw[e9,zax];omega⟩,?_⟩;exact⟨[.pv (.str _),.pv (pB _),.pv _],⟨rfl,rfl,rfl,trivial⟩,⟨trivial,trivial,trivial,trivial⟩,hK⟩
  |true=>
   refine λb hb=>?_
   rw[e9,zax]at hb;rcases cmp hb with⟨rfl,h5⟩|⟨rfl,h5⟩
   ·exact⟨[.pv (.str _),.pv (pB _),.pv _],⟨rfl,rfl,rfl,trivial⟩,⟨trivial,trivial,trivial,trivial⟩,hK.1 (.inr ⟨rfl,ab⟩)⟩
   have hK:=hK.2 (by rintro(h6|⟨_,h6⟩);omega;omega);rw[<-avQ]at hK;refine⟨⟨ab,by rw[e9,zax];omega⟩,?_⟩;exact⟨[.pv (.str _),.pv (pB _),.pv _],⟨rfl,rfl,rfl,trivial⟩,⟨trivial,trivial,trivial,trivial⟩,hK⟩
 ·rcases cmp hb with⟨rfl,h⟩|⟨rfl,h⟩
  ·exact⟨[.pv (.str _),.pv (pB _),.pv _],⟨rfl,rfl,rfl,trivial⟩,⟨trivial,trivial,trivial,trivial⟩,hK.1 ab⟩
  ·exact BZ
def B_(g w:Nat):cI:=⟨((w/2^g+1:Nat):Int),((w%2^g+3:Nat):Int),0⟩
def Wm(s:List UInt8):cI:=⟨0,0,((s[0]?.getD 0).toNat:Int)⟩
def sb(s:List UInt8):Nat:=(s[0]?.getD 0).toNat+256*(s[1]?.getD 0).toNat
def cF(g:Nat->Nat):Nat->Nat->Nat->List UInt8->Nat->Int×List cI
 |0,_,_,_,_=>(0,[])
 |n+1,0,_,s,a=>if s=[]then(0,[])else if s.length=1 then(14,[])else cF g n 8 (s[0]?.getD 0).toNat (s.drop 1) a
 |n+1,left+1,f,s,a=>
  if s=[]then(if f≠0 then(3,[])else(0,[]))
  else if f%2=1 then
   (if s.length<2 then(14,[])else((cF g n left (f/2) (s.drop 2) (a+(B_ (g a) (sb s)).made.toNat)).1,B_ (g a) (sb s)::(cF g n left (f/2) (s.drop 2) (a+(B_ (g a) (sb s)).made.toNat)).2))
  else((cF g n left (f/2) (s.drop 1) (a+1)).1,Wm s::(cF g n left (f/2) (s.drop 1) (a+1)).2)
def amK(g h:Nat->Nat):∀(n left f:Nat) (s:List UInt8) (a b:Nat),(cF g n left f s a).1=(cF h n left f s b).1:=by
 intro n
 induction n with
 |zero=>intro left f s a b;rfl
 |succ n ih=>
  intro left f s a b;cases left with
  |zero=>
   simp only[cF];split
   ·rfl
   ·split
    ·rfl
    ·exact ih _ _ _ _ _
  |succ left=>
   simp only[cF];split
   ·rfl
   ·split
    ·split
     ·rfl
     ·exact ih _ _ _ _ _
    ·exact ih _ _ _ _ _
def ZN{t:cI}{a:Nat}(h:4096<=a):ia t a=8:=by unfold ia;rw[if_pos h]
def aj_(g h:Nat->Nat)(mX:∀a,a<4096->g a=h a):∀(n left f:Nat) (s:List UInt8) (a i:Nat),dp (cF g n left f s a).2 i a=dp (cF h n left f s a).2 i a/\((dp (cF g n left f s a).2 i a).2=0->(cF g n left f s a).2=(cF h n left f s a).2)/\((cF g n left f s a).2=[]↔(cF h n left f s a).2=[]):=by
 intro n
 induction n with
 |zero=>intro left f s a i;exact RY
 |succ n ih=>
  intro left f s a i;have step:∀(t u:cI) (s':List UInt8),(a<4096->t=u)->
   dp (t::(cF g n left.pred (f/2) s' (a+t.made.toNat)).2) i a=dp (u::(cF h n left.pred (f/2) s' (a+u.made.toNat)).2) i a/\((dp (t::(cF g n left.pred (f/2) s' (a+t.made.toNat)).2) i a).2=0->t::(cF g n left.pred (f/2) s' (a+t.made.toNat)).2=u::(cF h n left.pred (f/2) s' (a+u.made.toNat)).2):=by
   intro t u s' htu;by_cases ha:a<4096
   ·have:=htu ha;subst this;simp only[dp];split
    ·rename_i he;exact⟨rfl,λh0=>absurd h0 he⟩
    ·have h1:=ih left.pred (f/2) s' (a+t.made.toNat) (i+1);exact⟨h1.1,λh0=>by rw[h1.2.1 h0]⟩
   ·simp only[dp,ZN (t:=t) (a:=a) ab,ZN (t:=u) (a:=a) ab];exact⟨rfl,λh0=>by cases h0⟩
  cases left with
  |zero=>
   simp only[cF];split
   ·exact RY
   ·split
    ·exact RY
    ·exact ih _ _ _ _ _
  |succ left=>
   simp only[cF];split
   ·exact⟨rfl,λ_=>by split<;>rfl,by split<;>exact Iff.rfl⟩
   ·split
    ·split
     ·exact RY
     ·have:=step (B_ (g a) (sb s)) (B_ (h a) (sb s)) (s.drop 2) (λha=>by rw[mX a ha]);exact⟨this.1,this.2,aj⟩
    ·have:=step (Wm s) (Wm s) (s.drop 1) (λ_=>rfl);have e:(Wm s).made.toNat=1:=rfl;rw[e]at this;exact⟨this.1,this.2,aj⟩
def IY(g:Nat->Nat)(s:List UInt8):List cI×Int:=
 if (cF g (s.length+1) 0 0 s 0).1≠0 then([],(cF g (s.length+1) 0 0 s 0).1)
 else if (nf (cF g (s.length+1) 0 0 s 0).2).2≠0 then([],(nf (cF g (s.length+1) 0 0 s 0).2).2)else((cF g (s.length+1) 0 0 s 0).2,0)
def aoT(g h:Nat->Nat)(mX:∀a,a<4096->g a=h a)(s:List UInt8):IY g s=IY h s:=by
 have h1:=amK g h (s.length+1) 0 0 s 0 0;have h2:=aj_ g h mX (s.length+1) 0 0 s 0 0;unfold IY;rw[h1];split
 ·rfl
 ·have hc:nf (cF g (s.length+1) 0 0 s 0).2=nf (cF h (s.length+1) 0 0 s 0).2:=by
   unfold nf;by_cases he:(cF g (s.length+1) 0 0 s 0).2=[]
   ·rw[if_pos he,if_pos (h2.2.2.1 he)]
   ·rw[if_neg he,if_neg (λh=>he (h2.2.2.2 h)),h2.1]
  rw[hc];split
  ·rfl
  ·rename_i h3;have h3:=zco h3;rw[<-hc]at h3;have:(dp (cF g (s.length+1) 0 0 s 0).2 0 0).2=0:=by
    have h4:=Vi h3;unfold nf at h3;rw[if_neg h4.2.1]at h3;exact h3
   rw[h2.2.1 this]
def aja(g:Nat->Nat):∀(n left f:Nat) (s:List UInt8) (a:Nat),s.length<n->cF g (n+1) left f s a=cF g n left f s a:=by
 intro n
 induction n with
 |zero=>intro left f s a h;omega
 |succ n ih=>
  intro left f s a h;cases left with
  |zero=>
   rw[cF,cF];split
   ·rfl
   ·rename_i hs;have hl:0<s.length:=zcH.2 hs;split
    ·rfl
    ·exact ih _ _ _ _ ef
  |succ left=>
   rw[cF,cF];split
   ·rfl
   ·rename_i hs;have hl:0<s.length:=zcH.2 hs;split
    ·split
     ·rfl
     ·rw[ih _ _ _ _ ef]
    ·rw[ih _ _ _ _ ef]
def qI(g:Nat->Nat)(left f:Nat)(s:List UInt8)(a:Nat):Int×List cI:=cF g (s.length+1) left f s a
def Ft(g:Nat->Nat)(f a:Nat):qI g 0 f [] a=(0,[]):=by unfold qI;rw[cF,if_pos rfl]
def Bh(g:Nat->Nat)(left f a:Nat):qI g (left+1) f [] a=if f≠0 then(3,[])else(0,[]):=by unfold qI;rw[cF,if_pos rfl]
def an9(g:Nat->Nat)(f a:Nat){s:List UInt8}(h:s.length=1):qI g 0 f s a=(14,[]):=by
 unfold qI;rw[cF,if_neg (by intro e;subst e;cases h),if_pos h]
def OJ(g:Nat->Nat)(f a:Nat){s:List UInt8}(h:2<=s.length):qI g 0 f s a=qI g 8 (s[0]?.getD 0).toNat (s.drop 1) a:=by
 unfold qI;rw[cF,if_neg Rk,if_neg ab,zax,show s.length-1+1=s.length by omega]
def Kc(g:Nat->Nat)(left f a:Nat){s:List UInt8}(h:s.length=1)(hf:f%2=1):qI g (left+1) f s a=(14,[]):=by
 unfold qI;rw[cF,if_neg (by intro e;subst e;cases h),if_pos hf,if_pos ab]
def Mg(g:Nat->Nat)(left f a:Nat){s:List UInt8}(h:2<=s.length)(hf:f%2=1):
 qI g (left+1) f s a=((qI g left (f/2) (s.drop 2) (a+(B_ (g a) (sb s)).made.toNat)).1,B_ (g a) (sb s)::(qI g left (f/2) (s.drop 2) (a+(B_ (g a) (sb s)).made.toNat)).2):=by
 unfold qI;rw[cF,if_neg Rk,if_pos hf,if_neg ab,zax];rw[<-aja g (s.length-2+1) left (f/2) (s.drop 2) _ ef,show s.length-2+1+1=s.length by omega]
def PT(g:Nat->Nat)(left f a:Nat){s:List UInt8}(h:1<=s.length)(hf:¬f%2=1):
 qI g (left+1) f s a=((qI g left (f/2) (s.drop 1) (a+1)).1,Wm s::(qI g left (f/2) (s.drop 1) (a+1)).2):=by
 unfold qI;rw[cF,if_neg Rk,if_neg hf,zax,show s.length-1+1=s.length by omega]
def rW(g:Nat->Nat)(s:List UInt8):IY g s=if (qI g 0 0 s 0).1≠0 then([],(qI g 0 0 s 0).1)else if (nf (qI g 0 0 s 0).2).2≠0 then([],(nf (qI g 0 0 s 0).2).2)else((qI g 0 0 s 0).2,0):=rfl
def kg(g:Nat->Nat)(s0:List UInt8)(acc:List cI)(left f:Nat)(s:List UInt8)(a:Nat):Prop:=
 qI g 0 0 s0 0=((qI g left f s a).1,acc++(qI g left f s a).2)
def cV(a:Nat):Nat:=if a<4096 then 16-dh a else 16
def qW(a:Nat):Nat:=16-dh (min a 4095)
def aB6(a:Nat)(h:a<4096):cV a=qW a:=by unfold cV qW;rw[if_pos h,show min a 4095=a by omega]
def awv(a:Nat):4<=qW a/\qW a<=12:=by
 have h1:=tw (a:=min a 4095) ab;have h2:=wJ (min a 4095);unfold qW;omega
def apE(g:Nat->Nat)(l f a:Nat)(hf:f%2=0)(hl:f<2^(l+1)):qI g (l+1) f [] a=qI g l (f/2) [] a:=by
 cases l with
 |zero=>rw[Bh,Ft,if_neg (by simp at hl;omega)]
 |succ l=>
  rw[Bh,Bh];by_cases h:f=0
  ·subst h;rfl
  ·rw[if_pos h,if_pos ab]
def S4:Spec:=EM true false λps K=>∃s:List UInt8,ps=[.str s]/\s.length<=5000/\K (.tup [.fresh 170 3 ((IY qW s).1.map cI.pv),.pv (pI (IY qW s).2)])
set_option maxHeartbeats 1000000 in
def afI:MT (ay [(215,ah eS),(214,ah P5),(216,ah dW),(217,oZ)]) Ds S4:=by
 rintro _ K ⟨s0,rfl,lK,hK⟩;refine⟨λm env σ=>∃(acc:List cI) (f a:Nat) (s:List UInt8),(s.length=m/\acc.length+s.length<=s0.length/\a<=70000*acc.length/\kg qW s0 acc 0 f s a)/\σ=[.row 170 3 true (acc.map cI.pv)]/\env=[(0,.pv (.str s)),(4,.own 0),eN 5 a],s0.length,⟨[],0,0,s0,⟨rfl,aj,aj,by unfold kg;simp⟩,rfl,rfl⟩,?_⟩;rintro m env σ ⟨acc,f,a,s,⟨hm,kf,rE,pO⟩,rfl,rfl⟩;refine λb hb=>?_
 rcases cmp hb with⟨rfl,cb⟩|⟨rfl,cb⟩
 ·have Gq:0<s.length:=zcH.2 cb;obtain⟨fb,eH⟩:∃v,s[0]?=some v:=by rw[zah Gq];exact⟨_,rfl⟩
  have SL:=fb.toNat_lt;have uF:cut (Int.toNat 1) s.length s=s.drop 1:=xY 1 s;refine⟨_,⟨ab,eH⟩,?_⟩;refine⟨ab,?_⟩;refine λb hb=>?_
  rw[uF]at hb;rcases cmp hb with⟨rfl,he⟩|⟨rfl,he⟩
  ·have pj:s.length=1:=by
    have:(s.drop 1).length=0:=by rw[he];rfl
    rw[zax]at this;omega
   have h1:=an9 qW f a pj;unfold kg at pO;rw[h1]at pO;rw[rW,pO]at hK;dsimp only at hK;rw[if_pos ao]at hK;exact uG
  have cH:2<=s.length:=by
   have:0<(s.drop 1).length:=zcH.2 he;rw[zax]at this;omega
  have pO:kg qW s0 acc 8 (fb.toNat/2^0) (s.drop 1) a:=by
   unfold kg at pO ⊢;rw[OJ qW f a cH,eH]at pO;simpa using pO
  refine⟨λm2 env σ=>∃(acc:List cI) (a k:Nat) (q:List UInt8),(k+m2=8/\q.length<m/\acc.length+q.length<=s0.length/\a<=70000*acc.length/\kg qW s0 acc (8-k) (fb.toNat/2^k) q a)/\σ=[.row 170 3 true (acc.map cI.pv)]/\env=[(0,.pv (.str q)),(4,.own 0),eN 5 a,(6,.pv (aL fb)),eN 22 k],8,⟨acc,a,0,s.drop 1,⟨rfl,ef,ef,rE,pO⟩,rfl,?_⟩,?_⟩
  ·show[(0,AV.pv (.str (cut (Int.toNat 1) s.length s))),(4,.own 0),eN 5 a,(6,.pv (aL fb)),eN 22 0]=_;rw[uF];rfl
  clear pO rE kf eH cH uF;rintro m2 env σ ⟨acc,a,k,q,⟨hk,hqm,kf,rE,pO⟩,rfl,rfl⟩;refine λb hb=>?_
  rcases cmp hb with⟨rfl,hk8⟩|⟨rfl,hk8⟩
  ·obtain⟨l,hl⟩:∃l,8-k=l+1:=⟨7-k,ab⟩
   have cK:8-(k+1)=l:=ab;have hfk:fb.toNat/2^(k+1)=fb.toNat/2^k/2:=by rw[zcQ,Nat.pow_succ]
   have aKV:fb.toNat/2^k<2^(l+1):=by
    rw[Nat.div_lt_iff_lt_mul (zcj k),<-Nat.pow_add,show l+1+k=8 by omega];omega
   have aPo:fb.toNat/2^k<=fb.toNat:=zc2 _ _;rw[hl]at pO;refine⟨ab,?_⟩;refine λx hx=>?_
   have hx:x=((fb.toNat/2^k:Nat):Int):=by
    rw[hx];have e8:min ((k:Int)).toNat IntKind.u8.bits=k:=by
     have:IntKind.u8.bits=8:=rfl;omega
    rw[e8,show((2:Int)^k)=((2^k:Nat):Int) by simp,zb7 _ (zcU _)];rfl
   subst hx;generalize fb.toNat/2^k=fk at*;refine λx hx=>?_
   rw[show(1:Int)=((1:Nat):Int)from rfl,aJu ab ao,show(1:Nat)=2^1-1 from rfl,PZ]at hx;subst hx;refine λb hb=>?_
   rcases cmp hb with⟨rfl,hq⟩|⟨rfl,hq⟩
   ·subst hq;refine λb hb=>?_
    rcases cmp hb with⟨rfl,pD⟩|⟨rfl,pD⟩
    ·unfold kg at pO;rw[Bh,if_pos ab]at pO;rw[rW,pO]at hK;dsimp only at hK;rw[if_pos ao]at hK;exact uG
    ·refine λy hy=>?_
     have hy:=dB hy ab;rw[hy];refine⟨m2-1,ab,acc,a,k+1,[],⟨ab,hqm,kf,rE,?_⟩,rfl,rfl⟩;unfold kg at pO ⊢;rw[cK,hfk,pO,apE qW l fk a ab aKV]
   ·have hqp:0<q.length:=zcH.2 hq;obtain⟨v,hv⟩:∃v,q[0]?=some v:=by rw[zah hqp];exact⟨_,rfl⟩
    have Ja:=v.toNat_lt;have avS:Wm q=⟨0,0,(v.toNat:Int)⟩:=by unfold Wm;rw[hv];rfl
    have uF:cut (Int.toNat 1) q.length q=q.drop 1:=xY 1 q;refine⟨_,⟨ab,hv⟩,?_⟩;refine λy hy=>?_
    have hy:=dB hy ab;rw[hy];refine⟨rfl,?_⟩;refine⟨rfl,?_⟩;refine λb hb=>?_
    rcases cmp hb with⟨rfl,pD⟩|⟨rfl,pD⟩
    ·have akB:fk%2=1:=by omega
     refine λb t_=>?_
     rcases cmp t_ with⟨rfl,dV⟩|⟨rfl,dV⟩
     ·have h1:=Kc qW l fk a (s:=q) ab akB;unfold kg at pO;rw[h1]at pO;rw[rW,pO]at hK;dsimp only at hK;rw[if_pos ao]at hK;exact uG
     have fM:=Mg qW l fk a (s:=q) ab akB;unfold kg at pO;rw[fM]at pO;have hwl:sb q<65536:=yd _;have hwv:dD q=sb q:=rfl;have hg:=awv a;refine λx hx=>?_
     have hx:x=((min a 4095:Nat):Int):=ab;subst hx;refine⟨_,⟨_,rfl,⟨ab,ab⟩,rfl⟩,?_⟩;unfold pY;rw[zaC];refine λy hy=>?_
     have hgs:qW a=16-dh (min a 4095):=rfl;have hs:=tw (a:=min a 4095) ab;have hy:=dB hy ab;have hy:y=(qW a:Nat):=ab;subst hy;refine⟨_,⟨q,rfl,ab,rfl⟩,?_⟩;rw[hwv];generalize sb q=w at*;have hpg:=zcj (qW a);have aPq:2^qW a<=2^12:=zb6 ab ab;have qG:w/2^qW a<=w:=zc2 _ _;have hpm:w%2^qW a<=w:=Nat.mod_le _ _;have PE:B_ (qW a) w=⟨((w/2^qW a:Nat):Int)+1,((w%2^qW a:Nat):Int)+3,0⟩:=rfl;obtain⟨qq,hqq⟩:∃x,w/2^qW a=x:=⟨_,rfl⟩
     obtain⟨r,hr⟩:∃x,w%2^qW a=x:=⟨_,rfl⟩
     rw[hqq,hr]at PE;rw[hqq]at qG;rw[hr]at hpm;refine⟨ak,?_⟩;refine⟨ab,?_⟩;refine λy hy=>?_
     have hy:y=(qq:Int):=by
      rw[hy];have e8:min ((qW a:Nat):Int).toNat IntKind.i64.bits=qW a:=by
       have:IntKind.i64.bits=64:=rfl;omega
      rw[e8,show((2:Int)^qW a)=((2^qW a:Nat):Int) by simp,zb7 _ (zcU _),<-hqq];rfl
     subst hy;refine λy hy=>?_
     have hy:=dB hy ab;rw[hy];refine⟨ab,?_⟩;refine λy hy=>?_
     have hy:y=((2^qW a:Nat):Int):=by
      rw[at9 ab ab (by rw[zaC];simp;omega)]at hy;rw[hy,zaC];simp
     subst hy;refine λy hy=>?_
     have hy:=dB hy ab;have hy:y=((2^qW a-1:Nat):Int):=ab;subst hy;refine λy hy=>?_
     rw[aiF ab ab,PZ,hr]at hy;subst hy;refine λy hy=>?_
     have hy:=dB hy ab;rw[hy];refine⟨rfl,?_⟩;refine⟨rfl,?_⟩;refine⟨rfl,?_⟩;have lL:(⟨(qq:Int)+1,(r:Int)+3,0⟩:cI).made=(r:Int)+3:=by
      unfold cI.made;rw[if_pos (show(qq:Int)+1≠0 by omega)]
     rw[PE,lL,show((r:Int)+3).toNat=r+3 by omega]at pO;refine⟨ab,?_⟩;have aPr:(q.drop 1).length=q.length-1:=zax;have hd2:cut (Int.toNat 1) (q.drop 1).length (q.drop 1)=q.drop 2:=by rw[show cut (Int.toNat 1) (q.drop 1).length (q.drop 1)=(q.drop 1).drop 1 from xY 1 _,zaQ]
     refine⟨by rw[uF];omega,?_⟩;refine⟨rfl,?_⟩;refine⟨⟨aH,aH⟩,?_⟩;refine⟨_,⟨(⟨(qq:Int)+1,(r:Int)+3,0⟩:cI),rfl,rfl⟩,?_⟩;rw[lL];refine λy hy=>?_
     have hy:=dB hy ab;rw[hy];refine λy hy=>?_
     have hy:=dB hy ab;rw[hy];refine⟨m2-1,ab,acc++[(⟨(qq:Int)+1,(r:Int)+3,0⟩:cI)],a+(r+3),k+1,q.drop 2,⟨ab,ef,ahy,fP,?_⟩,?_,?_⟩
     ·unfold kg;rw[cK,hfk,pO];simp
     ·rw[zbu];rfl
     ·show[(0,AV.pv (.str (cut (Int.toNat 1) (cut (Int.toNat 1) q.length q).length (cut (Int.toNat 1) q.length q)))),(4,.own 0),eN 5 ((a:Int)+((r:Int)+3)),(6,.pv (aL fb)),eN 22 ((k:Int)+1)]=_;rw[uF,hd2,show((a+(r+3):Nat):Int)=(a:Int)+((r:Int)+3) by omega];rfl
    ·have sO:¬fk%2=1:=by omega
     have fM:=PT qW l fk a (s:=q) ab sO;unfold kg at pO;rw[fM,avS]at pO;refine⟨ab,?_⟩;refine⟨rfl,?_⟩;refine⟨⟨aH,aH⟩,?_⟩;refine⟨_,⟨(⟨0,0,(v.toNat:Int)⟩:cI),rfl,rfl⟩,?_⟩;have mY:(⟨0,0,(v.toNat:Int)⟩:cI).made=1:=rfl;rw[mY];refine λy hy=>?_
     have hy:=dB hy ab;rw[hy];refine λy hy=>?_
     have hy:=dB hy ab;rw[hy];refine⟨m2-1,ab,acc++[(⟨0,0,(v.toNat:Int)⟩:cI)],a+1,k+1,q.drop 1,⟨ab,ef,ahy,fP,?_⟩,?_,?_⟩
     ·unfold kg;rw[cK,hfk,pO];simp
     ·rw[zbu];rfl
     ·show[(0,AV.pv (.str (cut (Int.toNat 1) q.length q))),(4,.own 0),eN 5 ((a:Int)+1),(6,.pv (aL fb)),eN 22 ((k:Int)+1)]=_;rw[uF];rfl
  ·have hk:k=8:=by omega
   subst hk;refine⟨q.length,ab,acc,fb.toNat/2^8,a,q,⟨rfl,kf,rE,pO⟩,rfl,rfl⟩
 ·have:s=[]:=zco cb;subst this;unfold kg at pO;rw[Ft]at pO;rw[rW,pO]at hK;dsimp only at hK;rw[if_neg ao,zbf]at hK;refine⟨acc,rfl,by simp at kf;omega,?_⟩;refine λb hb=>?_
  rcases cmp hb with⟨rfl,h⟩|⟨rfl,h⟩
  ·rw[if_pos h]at hK;exact uG
  ·rw[if_neg h]at hK;exact⟨[.fresh _ _ _,.pv _],⟨⟨rfl,rfl,rfl,rfl⟩,rfl,trivial⟩,⟨Ui _,trivial,trivial⟩,hK⟩
def aoj{g:Nat->Nat}{s:List UInt8}(h:(IY g s).2=0):hZ (IY g s).1 0:=by
 unfold IY at h ⊢;split at h
 ·rename_i h1;exact absurd h h1
 ·rename_i h1;rw[if_neg h1];split at h
  ·rename_i h2;exact absurd h h2
  ·rename_i h2;rw[if_neg h2];exact(Vi (zco h2)).2.2
def ai(n:Nat):List UInt8:=List.replicate n 0
def Zh:∀n,alf [0] n=ai n:=by
 intro n
 induction n with
 |zero=>rfl
 |succ n ih=>show[0]++alf [0] n=_;rw[ih];rfl
def Xs(ps:List PV)(x:PV):Prop:=∃n:Int,ps=[pI n]/\(0<=n/\n<=200000)/\x=.str (ai n.toNat)
def akb:MT (ay []) Ha (ah Xs):=by
 rintro _ K ⟨_,⟨n,rfl,h,rfl⟩,hK⟩;refine λx hx=>?_
 refine λy hy=>?_
 have hy:y=n:=ab;rw[hy];refine⟨ab,?_⟩;refine⟨ai n.toNat,?_,?_⟩
 ·unfold ai;rw[zcK];rfl
 exact bM
def Xj(ps:List PV)(x:PV):Prop:=∃n:Int,ps=[pI n]/\(0<=n/\n<=200000)/\x=.str (ai n.toNat)
def aiO:MT (ay [(131,ah Lo)]) Ev (ah Xj):=by
 rintro _ K ⟨_,⟨n,rfl,h,rfl⟩,hK⟩;refine⟨_,⟨[0],n,rfl,aH,rfl⟩,?_⟩;refine⟨.pv (.str _),?_,trivial,hK⟩;show PV.str (ai n.toNat)=PV.str (alf [0] n.toNat);rw[Zh]
def GS(ps:List PV)(x:PV):Prop:=∃n:Int,ps=[pI n]/\(0<=n/\n<=1000000)/\x=pI ((n+255)/256)
def YU:MT (ay []) zx (ah GS):=by
 rintro _ K ⟨_,⟨n,rfl,h,rfl⟩,hK⟩;refine λx hx=>?_
 have hx:=dB hx ab;rw[hx];refine λx hx=>?_
 have hx:=dB hx ab;rw[hx];refine⟨ao,?_⟩;refine λx hx=>?_
 rw[zcL ab]at hx;have hx:=dB hx ab;rw[hx];refine⟨.pv (pI _),bu ?_,trivial,hK⟩;omega
def bn(n:Nat):(ai n).length=n:=by simp[ai]
def al2(s:List UInt8):List UInt8:=s++ai ((-(s.length:Int))%256).toNat
def j_(u:List UInt8):List UInt8:=
 if u=ai u.length then[]
 else if (uK (Eb u)).length<=4096/\((uK (Eb u)).length+2+255)/256*256<4096 then al2 (B8 (uK (Eb u)).length true++uK (Eb u))else u
def Hp:Spec:=EM true false λps K=>∃u:List UInt8,ps=[.str u]/\u.length<=100000/\(u.length≠4096->K (.tup [.pv (.str []),.pv (pI 10)]))/\(u.length=4096->K (.tup [.pv (.str (j_ u)),.pv (pI 0)]))
def aag:MT (ay [(168,ah Xj),(226,Um),(225,afy),(174,ah GS)]) zu Hp:=by
 rintro _ K ⟨u,rfl,Vr,Gt,xy⟩;refine λb hb=>?_
 rcases cmp hb with⟨rfl,h⟩|⟨rfl,h⟩
 ·exact⟨[.pv (.str _),.pv _],⟨rfl,rfl,trivial⟩,⟨trivial,trivial,trivial⟩,Gt ab⟩
 have hu:u.length=4096:=ab;have hK:=xy hu;clear Gt xy;unfold j_ at hK;have hb:=Vh (Eb u).length (Eb u) 0;have hl:=HD _ 0 (aas u ab) (af4 u ab);have cq:=anS _ (af4 u ab);have e:gK (Eb u).length (Eb u) 0=uK (Eb u):=rfl;rw[e]at hb;refine⟨_,⟨_,rfl,ab,rfl⟩,?_⟩;rw[zaC];refine λb hb=>?_
 rcases cmp hb with⟨rfl,hz⟩|⟨rfl,hz⟩
 ·rw[if_pos hz]at hK;exact dA
 rw[if_neg hz]at hK;refine⟨u,rfl,ab,?_⟩;refine⟨Eb u,rfl,⟨af4 u ab,aas u ab⟩,λh5=>?_,λh5=>?_⟩
 ·rw[if_neg ab]at hK;refine⟨_,⟨_,rfl,aj,rfl⟩,?_⟩;refine λx hx=>?_
  have hx:=dB hx aj;rw[hx];refine λb hb=>?_
  rcases cmp hb with⟨rfl,h⟩|⟨rfl,h⟩
  case inr=>exact BZ
  exact dA
 ·generalize uK (Eb u)=bd at*;have Gn:(B8 bd.length true++bd).length=bd.length+2:=by rw[zad,SX];omega
  refine⟨_,⟨_,rfl,by rw[Gn];omega,rfl⟩,?_⟩;rw[Gn];refine λx hx=>?_
  have hx:=dB hx ab;rw[hx];refine λb hb=>?_
  rcases cmp hb with⟨rfl,h⟩|⟨rfl,h⟩
  case inl=>exact kN
  refine λb hb=>?_
  rcases cmp hb with⟨rfl,h⟩|⟨rfl,h⟩
  ·rw[if_neg ab]at hK;exact dA
  ·rw[if_pos ab]at hK;refine λx hx=>?_
   rw[Gn]at hx;have hx:=dB hx ab;rw[hx];refine⟨_,⟨_,rfl,ab,rfl⟩,?_⟩;refine⟨by rw[Gn,bn];omega,?_⟩;refine⟨[.pv (.str _),.pv _],⟨rfl,rfl,trivial⟩,⟨trivial,trivial,trivial⟩,?_⟩;unfold al2 at hK;rw[Gn]at hK;rw[show((-((bd.length+2:Nat):Int))%256).toNat=(((bd.length+2:Nat)+255:Int)/256*256-(bd.length+2:Nat)).toNat by omega]at hK;exact hK
def b9(s:List UInt8):List UInt8×Int:=
 if 4096<s.length\/s.length%256≠0 then([],10)
 else if s.length=0 then(ai 4096,0)
 else if s.length=4096 then(s,0)
 else if dD s/4096%8≠3 then([],3)
 else if dD s<32768 then([],15)
 else if s.length-2<dD s%4096+1 then([],10)
 else if (IY cV ((s.drop 2).take (dD s%4096+1))).2≠0 then([],(IY cV ((s.drop 2).take (dD s%4096+1))).2)
 else if (Ze (IY cV ((s.drop 2).take (dD s%4096+1))).1).length≠4096 then([],10)
 else if s.drop (2+(dD s%4096+1))≠ai (s.length-(2+(dD s%4096+1)))\/256<=s.length-(2+(dD s%4096+1))then([],3)
 else(Ze (IY cV ((s.drop 2).take (dD s%4096+1))).1,0)
def By:Spec:=EM true false λps K=>∃s:List UInt8,ps=[.str s]/\s.length<=5000/\K (.tup [.pv (.str (b9 s).1),.pv (pI (b9 s).2)])
def anM{l:List cI}(h:hZ l 0):(Ze l).length<=4096:=by
 have h1:=amM l [] 0 h;have h2:=awL l 0 h ab;unfold Ze;simp at h1;omega
set_option maxHeartbeats 1000000 in
def To:MT (ay [(168,ah Xj),(169,abr),(171,ah l5),(170,ah qZ),(172,S4),(173,tf),(174,ah GS)]) wb By:=by
 rintro _ K ⟨s,rfl,hs,hK⟩;have hw:=yd s;unfold b9 at hK;refine λb hb=>?_
 rcases cmp hb with⟨rfl,h1⟩|⟨rfl,h1⟩
 ·rw[if_pos (.inl ab)]at hK;exact dA
 refine⟨ao,?_⟩;refine λx hx=>?_
 rw[zcM ab]at hx;rw[hx];refine λb hb=>?_
 rcases cmp hb with⟨rfl,h2⟩|⟨rfl,h2⟩
 ·rw[if_pos (.inr ab)]at hK;exact dA
 rw[if_neg (by rintro(h|h);omega;omega)]at hK;refine λb hb=>?_
 rcases cmp hb with⟨rfl,h3⟩|⟨rfl,h3⟩
 ·rw[if_pos ab]at hK;refine⟨_,⟨4096,rfl,ab,rfl⟩,?_⟩;exact dA
 rw[if_neg ab]at hK;refine λb hb=>?_
 rcases cmp hb with⟨rfl,h4⟩|⟨rfl,h4⟩
 ·rw[if_pos ab]at hK;exact dA
 rw[if_neg ab]at hK;refine⟨s,false,rfl,hs,λh=>ab,λcH=>⟨λh5=>?_,λh5=>⟨λh6=>?_,λh6=>?_⟩⟩⟩
 ·rw[if_pos h5]at hK;refine λb hb=>?_
  rcases cmp hb with⟨rfl,h⟩|⟨rfl,h⟩
  ·exact absurd h ao
  refine λb hb=>?_
  rcases cmp hb with⟨rfl,h⟩|⟨rfl,h⟩
  ·exact absurd h ao
  refine λb hb=>?_
  rcases cmp hb with⟨rfl,h⟩|⟨rfl,h⟩
  ·exact dA
  ·exact BZ
 ·have h6:s.length-2<dD s%4096+1:=by
   rcases h6 with h6|⟨h6,_⟩
   ·exact h6
   ·cases h6
  rw[if_neg ab]at hK;refine λb hb=>?_
  rcases cmp hb with⟨rfl,h⟩|⟨rfl,h⟩
  ·exact absurd h ao
  refine λb hb=>?_
  rcases cmp hb with⟨rfl,h⟩|⟨rfl,h⟩
  case inr=>exact kN
  refine⟨_,⟨decide (32768<=dD s),15,rfl,rfl⟩,?_⟩;refine⟨rfl,?_⟩;refine⟨_,⟨[dZ (decide (32768<=dD s)) 15,10],rfl,rfl⟩,?_⟩;refine λb hb=>?_
  by_cases hp:32768<=dD s
  ·rw[decide_eq_true hp]at hb ⊢;rw[if_neg ab,if_pos h6]at hK;rcases cmp hb with⟨rfl,h⟩|⟨rfl,h⟩
   ·exact dA
   ·exact BZ
  ·rw[decide_eq_false hp]at hb ⊢;rw[if_pos ab]at hK;rcases cmp hb with⟨rfl,h⟩|⟨rfl,h⟩
   ·exact dA
   ·exact BZ
 ·have h6:¬s.length-2<dD s%4096+1:=λh=>h6 (.inl h)
  rw[if_neg ab]at hK;refine λb hb=>?_
  rcases cmp hb with⟨rfl,h⟩|⟨rfl,h⟩
  case inr=>exact kN
  refine⟨_,⟨decide (32768<=dD s),15,rfl,rfl⟩,?_⟩;refine⟨rfl,?_⟩;refine⟨_,⟨[dZ (decide (32768<=dD s)) 15,0],rfl,rfl⟩,?_⟩;refine λb hb=>?_
  by_cases hp:32768<=dD s
  case neg=>
   rw[decide_eq_false hp]at hb ⊢;rw[if_pos ab]at hK;rcases cmp hb with⟨rfl,h⟩|⟨rfl,h⟩
   ·exact dA
   ·exact BZ
  rw[decide_eq_true hp]at hb;rw[if_neg ab,if_neg h6]at hK;rcases cmp hb with⟨rfl,h⟩|⟨rfl,h⟩
  ·exact kN
  generalize cM:dD s%4096+1=c at*;have htl:((s.drop 2).take c).length=c:=Rb;refine⟨_,rfl,by rw[htl];omega,?_⟩;rw[<-aoT cV qW aB6];refine λb hb=>?_
  rcases cmp hb with⟨rfl,h7⟩|⟨rfl,h7⟩
  ·rw[if_pos h7]at hK;exact dA
  rw[if_neg h7]at hK;have di:=aoj (zco h7);have lj:=anM di;refine⟨_,rfl,di,?_⟩;generalize Ze (IY cV ((s.drop 2).take c)).1=ex at*;refine λy hy=>?_
  rw[htl]at hy;have hy:=dB hy ab;have hy:y=((2+c:Nat):Int):=ab;subst hy;have aeS:cut ((2+c:Nat):Int).toNat s.length s=s.drop (2+c):=by rw[zaC,xY]
  refine⟨ak,?_⟩;refine λb1 CV=>?_
  refine⟨_,⟨b1,10,rfl,rfl⟩,?_⟩;refine⟨ab,?_⟩;refine λy hy=>?_
  have hy:=dB hy ab;have hy:y=((s.length-(2+c):Nat):Int):=ab;subst hy;refine⟨_,⟨_,rfl,ab,rfl⟩,?_⟩;refine λb2 t_=>?_
  rw[aeS,zaC]at t_;have fin:∀b3:Bool,(b3=true↔¬(s.drop (2+c)≠ai (s.length-(2+c))\/256<=s.length-(2+c)))->(if bQ [dZ b1 10,dZ b3 3]≠0 then K (.tup [.pv (.str []),.pv (pI (bQ [dZ b1 10,dZ b3 3]))])else K (.tup [.pv (.str ex),.pv (pI 0)])):=by
   intro b3 rv;rcases cmp CV with⟨rfl,h8⟩|⟨rfl,h8⟩
   ·rw[if_neg ab]at hK;rcases cmp rv with⟨rfl,h9⟩|⟨rfl,h9⟩
    ·rw[if_neg h9]at hK;rw[if_neg ao];exact hK
    ·rw[if_pos (zco h9)]at hK;rw[if_pos ao];exact hK
   ·rw[if_pos ab]at hK;have r5:bQ [dZ false 10,dZ b3 3]=10:=rfl;rw[r5,if_pos ao];exact hK
  rcases cmp t_ with⟨rfl,hz⟩|⟨rfl,hz⟩
  ·refine⟨_,⟨_,rfl,ab,rfl⟩,?_⟩;refine⟨ao,?_⟩;refine λy hy=>?_
   rw[zcL ab]at hy;have hy:=dB hy ab;rw[hy];refine λb3 rv=>?_
   have hf:=fin b3 (by
    rw[rv];constructor
    ·rintro h (h'|h')
     ·exact h' hz
     ·omega
    ·intro h;have:¬256<=s.length-(2+c):=λh'=>h (.inr h')
     omega)
   refine⟨_,⟨b3,3,rfl,rfl⟩,?_⟩;refine⟨rfl,?_⟩;refine⟨_,⟨[dZ b1 10,dZ b3 3],rfl,rfl⟩,?_⟩;refine λb hb=>?_
   rcases cmp hb with⟨rfl,h⟩|⟨rfl,h⟩
   ·rw[if_pos h]at hf;exact Qs
   ·rw[if_neg h]at hf;exact Qs
  ·have hf:=fin false (by
    constructor
    ·intro h;cases h
    ·intro h;exact absurd (.inl hz) h)
   refine⟨_,⟨false,3,rfl,rfl⟩,?_⟩;refine⟨rfl,?_⟩;refine⟨_,⟨[dZ b1 10,dZ false 3],rfl,rfl⟩,?_⟩;refine λb hb=>?_
   rcases cmp hb with⟨rfl,h⟩|⟨rfl,h⟩
   ·rw[if_pos h]at hf;exact Qs
   ·rw[if_neg h]at hf;exact Qs
end Go.Dv.Try
namespace Go.Dv.Try
structure Rn where
 s:Int
 n:Int
deriving DecidableEq
def zh(l:List Rn)(i:Int):List Rn:=
 match l[l.length-1]? with
 |some r=>if r.s+r.n=i then l.set (l.length-1) ⟨r.s,r.n+1⟩else l++[⟨i,1⟩]
 |none=>l++[⟨i,1⟩]
def bh(p:Nat->Bool):Nat->List Rn
 |0=>[]
 |n+1=>if p n then zh (bh p n) n else bh p n
def G9(i:Int):zh [] i=[⟨i,1⟩]:=rfl
def xz(l:List Rn)(r:Rn)(i:Int):zh (l++[r]) i=if r.s+r.n=i then l++[⟨r.s,r.n+1⟩]else l++[r]++[⟨i,1⟩]:=by
 unfold zh;simp only[zad,List.length_singleton,zcs,List.getElem?_concat_length];split
 ·rw[zc5 _ _ ab];simp
 ·rfl
def So(l:List Rn):l=[]∨∃a r,l=a++[r]:=by
 rcases List.eq_nil_or_concat l with h|⟨a,r,h⟩
 ·exact .inl h
 ·exact .inr ⟨a,r,ky⟩
def kI(p:Nat->Bool):∀n:Nat,(∀r∈bh p n,0<=r.s/\1<=r.n/\r.s+r.n<=n)/\(bh p n).length<=n/\
 ((∃a r,bh p n=a++[r]/\r.s+r.n=(n:Int))↔0<n/\p (n-1)=true):=by
 intro n
 induction n with
 |zero=>refine⟨by simp[bh],zai _,?_⟩;simp[bh]
 |succ n ih=>
  obtain⟨h1,h2,h3⟩:=ih;unfold bh;cases hp:p n with
  |false=>
   simp only[zct,if_false];refine⟨λr hr=>by have:=h1 r hr;omega,ab,?_⟩;simp only[zcs,hp,zct,and_false,iff_false];rintro⟨a,r,e,h⟩;have:=h1 r (by rw[e];simp);omega
  |true=>
   simp only[if_true];simp only[zcs,hp,and_true,Nat.zero_lt_succ,iff_true];rcases So (bh p n)with e|⟨a,r,e⟩
   ·rw[e,G9];refine⟨λr hr=>?_,aj,[],_,rfl,aj⟩;simp at hr;subst hr;simp
   ·rw[e,xz];have hr:=h1 r (by rw[e];simp);have hl:(a++[r]).length<=n:=by rw[<-e];exact h2
    simp at hl;split
    ·refine⟨λx hx=>?_,aH,a,_,rfl,aH⟩;rcases zaA.1 hx with hx|hx
     ·have:=h1 x (by rw[e];simp[hx]);omega
     ·simp at hx;subst hx;simp;omega
    ·refine⟨λx hx=>?_,aH,a++[r],_,rfl,aj⟩;rcases zaA.1 hx with hx|hx
     ·have:=h1 x (by rw[e];exact hx);omega
     ·simp at hx;subst hx;simp
def amu{l:List Rn}{r:Rn}{i:Int}(h:l[l.length-1]?=some r)(he:r.s+r.n=i):zh l i=l.set (l.length-1) ⟨r.s,r.n+1⟩:=by
 unfold zh;rw[h];simp[he]
def XO{l:List Rn}{i:Int}(h:∀r,l[l.length-1]?=some r->r.s+r.n≠i):zh l i=l++[⟨i,1⟩]:=by
 unfold zh;split
 ·rename_i r e;rw[if_neg (h r e)]
 ·rfl
def O6{p:Nat->Bool}{n:Nat}{r:Rn}(h:(bh p n)[(bh p n).length-1]?=some r):(r.s+r.n=n↔0<n/\p (n-1)=true):=by
 rw[<-(kI p n).2.2];rcases So (bh p n)with e|⟨a,x,e⟩
 ·rw[e]at h;simp at h
 ·rw[e]at h;simp at h;subst h;constructor
  ·intro h;exact⟨a,x,e,h⟩
  ·rintro⟨b,y,e2,h⟩;rw[e]at e2;have:=(List.append_inj' e2 rfl).2;simp at this;subst this;exact h
def aqt{p:Nat->Bool}{n:Nat}(h:0<n)(hp:p (n-1)=true):0<(bh p n).length:=by
 obtain⟨a,r,e,_⟩:=(kI p n).2.2.2 ⟨h,hp⟩;rw[e];simp
def bH(s:List UInt8)(i:Nat):Nat:=(s[i/8]?.getD 0).toNat/2^(i%8)%2
def mK(s:List UInt8)(i:Nat):bH s i<=1:=by unfold bH;omega
def Po(x:UInt8)(k v:Nat):UInt8:=UInt8.ofNat (x.toNat-x.toNat/2^k%2*2^k+v*2^k)
def ug(x:UInt8){k v:Nat}(hk:k<8)(hv:v<=1):(Po x k v).toNat=x.toNat-x.toNat/2^k%2*2^k+v*2^k:=by
 have hx:=x.toNat_lt;unfold Po;rw[UInt8.toNat_ofNat'];apply Nat.mod_eq_of_lt;generalize x.toNat=n at*;have h1:k=0\/k=1\/k=2\/k=3\/k=4\/k=5\/k=6\/k=7:=ab;have h2:v=0\/v=1:=ab;rcases h1 with rfl|rfl|rfl|rfl|rfl|rfl|rfl|rfl<;>rcases h2 with rfl|rfl<;>simp only[Nat.reducePow]<;>omega
def alw(x:UInt8){k v j:Nat}(hk:k<8)(hv:v<=1)(hj:j<8):(Po x k v).toNat/2^j%2=if j=k then v else x.toNat/2^j%2:=by
 have hx:=x.toNat_lt;rw[ug x hk hv];generalize x.toNat=n at*;have h1:k=0\/k=1\/k=2\/k=3\/k=4\/k=5\/k=6\/k=7:=ab;have h2:v=0\/v=1:=ab;have h3:j=0\/j=1\/j=2\/j=3\/j=4\/j=5\/j=6\/j=7:=ab;rcases h1 with rfl|rfl|rfl|rfl|rfl|rfl|rfl|rfl<;>rcases h2 with rfl|rfl<;>rcases h3 with rfl|rfl|rfl|rfl|rfl|rfl|rfl|rfl<;>simp only[Nat.reducePow]<;>simp<;>omega
def aau(b:List UInt8)(i v:Nat):List UInt8:=b.set (i/8) (Po (b[i/8]?.getD 0) (i%8) v)
@[simp] theorem aFK (b:List UInt8) (i v:Nat):(aau b i v).length=b.length:=by simp[aau]
def ate{b:List UInt8}{i v:Nat}(hi:i<8*b.length)(hv:v<=1)(j:Nat):bH (aau b i v) j=if j=i then v else bH b j:=by
 unfold bH aau;by_cases h:j/8=i/8
 ·rw[h,zbL ab,zbC,alw _ ab hv ab];by_cases h2:j=i
  ·subst h2;simp
  ·rw[if_neg ab,if_neg h2]
 ·rw[zc7 ab,if_neg ab]
def oF(s:List UInt8):Nat->Nat
 |0=>0
 |n+1=>oF s n+bH s n
def axz(s:List UInt8):∀n,oF s n<=n:=by
 intro n
 induction n with
 |zero=>exact zai _
 |succ n ih=>have:=mK s n;simp only[oF];omega
def sj(s:List UInt8)(n:Nat):List Int:=(List.range n).map λi=>((bH s i:Nat):Int)
@[simp] theorem L9 (s:List UInt8) (n:Nat):(sj s n).length=n:=by simp[sj]
def amj(s:List UInt8)(n:Nat):sj s (n+1)=sj s n++[((bH s n:Nat):Int)]:=by simp[sj,List.range_succ]
def ael{s:List UInt8}{n i:Nat}(h:i<n):(sj s n)[i]?=some ((bH s i:Nat):Int):=by simp[sj,h]
def Ou(n i:Nat):bH (ai n) i=0:=by
 unfold bH ai;rw[zcZ];split<;>simp
end Go.Dv.Try
namespace Go.Dv.Try
open Go.Dv
def Nj(f:Nat->Nat)(z:List UInt8):Nat->List UInt8
 |0=>z
 |k+1=>aau (Nj f z k) k (f k)
def qO(n:Nat):Nat:=(n+7)/8
def VA(f:Nat->Nat)(n:Nat):List UInt8:=Nj f (ai (qO n)) n
def Rw(f:Nat->Nat)(z:List UInt8):∀k,(Nj f z k).length=z.length:=by
 intro k
 induction k with
 |zero=>rfl
 |succ k ih=>simp[Nj,ih]
def Z_{f:Nat->Nat}{z:List UInt8}(hf:∀i,f i<=1):∀k,k<=8*z.length→∀j,bH (Nj f z k) j=if j<k then f j else bH z j:=by
 intro k
 induction k with
 |zero=>intro _ j;simp[Nj]
 |succ k ih=>
  intro hk j;simp only[Nj];rw[ate (by rw[Rw];omega) (hf k),ih ab];by_cases h:j=k
  ·subst h;simp
  ·rw[if_neg h];by_cases h2:j<k
   ·rw[if_pos h2,if_pos ab]
   ·rw[if_neg h2,if_neg ab]
def bI(l:List Rn):Int:=(l.map λr=>r.n).sum
@[simp] theorem aGk:bI []=0:=rfl
end Go.Dv.Try
namespace Go.Dv.Try
open Go Go.Dv
def lz(ps:List PV)(x:PV):Prop:=∃n lo hi:Int,ps=[pI n,pI lo,pI hi]/\x=pB (decide (lo<=n/\n<=hi))
def bG(ps:List PV)(p:Prop):Prop:=∃n lo hi:Int,ps=[pI n,pI lo,pI hi]/\p=(lo<=n/\n<=hi)
def M7:MT (ay []) ze (ah lz):=by
 rintro _ K ⟨_,⟨n,lo,hi,rfl,rfl⟩,hK⟩;refine λb hb=>?_
 rcases cmp hb with⟨rfl,h⟩|⟨rfl,h⟩
 ·refine λb hb=>?_
  refine⟨.pv (pB _),oH ?_,trivial,hK⟩;rw[decide_eq_true_iff,hb];omega
 ·refine⟨.pv (pB _),oH ?_,trivial,hK⟩;rw[decide_eq_true_iff];simp only[zct,iff_false];omega
def Np:MT (ay []) xg (ah lz):=by
 rintro _ K ⟨_,⟨n,lo,hi,rfl,rfl⟩,hK⟩;refine λb hb=>?_
 rcases cmp hb with⟨rfl,h⟩|⟨rfl,h⟩
 ·refine λb hb=>?_
  refine⟨.pv (pB _),oH ?_,trivial,hK⟩;rw[decide_eq_true_iff,hb];omega
 ·refine⟨.pv (pB _),oH ?_,trivial,hK⟩;rw[decide_eq_true_iff];simp only[zct,iff_false];omega
def jw(ps:List PV)(x:PV):Prop:=∃(ok:Bool) (e:Int),ps=[pB ok,pI e]/\x=pI (dZ ok e)
def Nc:MT (ay []) Ig (ah jw):=by
 rintro _ K ⟨_,⟨ok,e,rfl,rfl⟩,hK⟩;cases ok with
 |true=>exact aG
 |false=>exact aG
def YF(ps:List PV)(x:PV):Prop:=∃l:List Int,ps=[.sl 1 (l.map pI)]/\x=pI (bQ l)
def OR:MT (ay []) Bv (ah YF):=by
 rintro _ K ⟨_,⟨l,rfl,rfl⟩,hK⟩;refine λhl=>?_
 rw[zav]at hl;refine⟨λm env σ=>∃n:Nat,(n+m=l.length∧∀j,j<n->l[j]?=some 0)/\σ=[]/\env=[(5,.pv (.sl 1 (l.map pI))),eN 6 ((l.map pI).length:Nat),eN 7 n],l.length,⟨0,⟨ab,λj hj=>ab⟩,rfl,rfl⟩,?_⟩;rintro m env σ ⟨n,⟨hn,h0⟩,rfl,rfl⟩;refine λb hb=>?_
 rw[zav]at hb;rcases cmp hb with⟨rfl,h⟩|⟨rfl,h⟩
 ·have aU:n<l.length:=by omega
  refine⟨pI l[n],⟨ab,?_⟩,?_⟩
  ·show(l.map pI)[n]?=some (pI l[n]);simp[aU]
  refine λb hb=>?_
  rcases cmp hb with⟨rfl,h⟩|⟨rfl,h⟩
  ·refine⟨.pv (pI _),bu ?_,trivial,hK⟩;rw[ke l n h0,zcE aU];simp[bQ,h]
  ·refine λx hx=>?_
   replace hx:=dB hx ab;subst hx;refine⟨m-1,ab,n+1,⟨ab,λj hj=>?_⟩,rfl,rfl⟩;by_cases nd:j<n
   ·exact h0 j nd
   ·have:j=n:=by omega
    subst this;rw[zah aU];simpa using h
 ·refine⟨.pv (pI _),bu ?_,trivial,hK⟩;rw[ke l n h0,zb8 ab];rfl
def jQ(ps:List PV)(x:PV):Prop:=∃s:Int,ps=[pI s]/\(0<=s/\s<=62)/\x=pI ((2^s.toNat:Nat):Int)
def Te:MT (ay []) QI (ah jQ):=by
 rintro _ K ⟨_,⟨s,rfl,h,rfl⟩,hK⟩;refine⟨h.1,?_⟩;refine λy hy=>?_
 rw[aGh h]at hy;exact⟨.pv (pI _),bu hy.symm,trivial,hK⟩
def nW(ps:List PV)(x:PV):Prop:=∃n m:Int,ps=[pI n,pI m]/\(0<m/\m<=4611686018427387904)/\x=pI (n%m)
def ZX:MT (ay []) aac (ah nW):=by
 rintro _ K ⟨_,⟨n,m,rfl,⟨h1,h2⟩,rfl⟩,hK⟩;refine⟨ab,?_⟩;refine λx hx=>?_
 have vR:x=if 0<=n\/n%m=0 then n%m else n%m-m:=by
  rw[hx,zdg];have hd:(m ∣ n)↔n%m=0:=⟨λh=>zc0 h,λh=>zc1 h⟩
  have:(m.natAbs:Int)=m:=ab;split
  ·rename_i h;rw[hd]at h;rw[if_pos h];omega
  ·rename_i h;rw[hd]at h;rw[if_neg h];omega
 have mY:=zdj n (show m≠0 by omega);have sL:=zdc n h1;clear hx;generalize n%m=q at*;refine λb hb=>?_
 rcases cmp hb with⟨rfl,h⟩|⟨rfl,h⟩
 ·refine λy hy=>?_
  replace hy:=dB hy (by split at vR<;>omega);refine⟨.pv (pI _),bu ?_,trivial,hK⟩;split at vR<;>omega
 ·refine⟨.pv (pI _),bu ?_,trivial,hK⟩;split at vR<;>omega
def Xv(ps:List PV)(x:PV):Prop:=∃n m:Int,ps=[pI n,pI m]/\(0<m/\m<=1000000/\ -4611686018427387904<=n/\n<=4611686018427387904)/\x=pI (n/m)
def aiJ:MT (ay []) QD (ah Xv):=by
 rintro _ K ⟨_,⟨n,m,rfl,⟨h1,h2,h3,h4⟩,rfl⟩,hK⟩;have hd:n.tdiv m=if 0<=n\/m ∣ n then n/m else n/m+1:=by
  rw[Int.tdiv_eq_ediv];have:m.sign=1:=Int.sign_eq_one_of_pos h1;rw[this];split<;>omega
 have hr:n.tmod m=if 0<=n\/m ∣ n then n%m else n%m-m:=by
  rw[zdg];have:(m.natAbs:Int)=m:=ab;split<;>omega
 have mY:=zdj n (show m≠0 by omega);have sL:=zdc n h1;have hdv:(m ∣ n)↔n%m=0:=⟨λh=>zc0 h,λh=>zc1 h⟩
 have CV: -4611686018427387904<=n/m:=by
  rw[zc4 h1];have: -4611686018427387904*m<= -4611686018427387904*1:=zcT ab ab;omega
 have t_:n/m<=4611686018427387904:=by
  by_cases hn:0<=n
  ·have:=zcx m hn;omega
  ·have:=zcV (show n<0 by omega) h1;omega
 refine⟨ab,?_⟩;refine λx hx=>?_
 rw[hd]at hx;have hx:=dB hx Bt;rw[hx];refine⟨ab,?_⟩;refine λy hy=>?_
 rw[hr]at hy;rw[hy];refine λb hb=>?_
 rcases cmp hb with⟨rfl,h⟩|⟨rfl,h⟩
 ·refine λz hz=>?_
  have hz:=dB hz Bt;rw[hz];refine⟨.pv (pI _),bu ?_,trivial,hK⟩;split at h
  ·omega
  ·rename_i hc;rw[if_neg hc];omega
 ·refine⟨.pv (pI _),bu ?_,trivial,hK⟩;split at h
  ·rename_i hc;rw[if_pos hc]
  ·omega
def sx(n:Int):Int:=(n+7)/8
def XI(ps:List PV)(x:PV):Prop:=∃n:Int,ps=[pI n,pI 8]/\(-1000000000<=n/\n<=1000000000)/\x=pI (sx n)
def ahr:MT (ay [(122,ah Xv)]) Ln (ah XI):=by
 rintro _ K ⟨_,⟨n,rfl,h,rfl⟩,hK⟩;refine λx hx=>?_
 have hx:=dB hx ab;rw[hx];refine⟨_,⟨_,8,rfl,ab,rfl⟩,?_⟩;refine λx hx=>?_
 have hx:=dB hx ab;rw[hx];refine⟨.pv (pI _),bu ?_,trivial,hK⟩;unfold sx;omega
def ae6(ps:List PV)(x:PV):Prop:=∃n:Int,ps=[pI n]/\(0<=n/\n<=1000000000)/\x=pI (sx n)
def amE:MT (ay []) Oc (ah ae6):=by
 rintro _ K ⟨_,⟨n,rfl,h,rfl⟩,hK⟩;refine λx hx=>?_
 have hx:=dB hx ab;rw[hx];refine λx hx=>?_
 have hx:=dB hx ab;rw[hx];refine⟨ao,?_⟩;refine λx hx=>?_
 rw[zcL ab]at hx;have hx:=dB hx ab;rw[hx];refine⟨.pv (pI _),bu ?_,trivial,hK⟩;unfold sx;omega
def fx(n:Int):Int:=if 0<=n/\n<=4096 then 0 else 2
def Tb(ps:List PV)(x:PV):Prop:=∃n:Int,ps=[pI n]/\x=pI (fx n)
def acC:MT (ay [(15,ah lz)]) H4 (ah Tb):=by
 rintro _ K ⟨_,⟨n,rfl,rfl⟩,hK⟩;by_cases h:0<=n/\n<=4096
 ·refine⟨pB true,⟨_,_,_,rfl,oH ky⟩,?_⟩;refine λb hb=>?_
  rcases cmp hb with⟨rfl,h2⟩|⟨rfl,h2⟩
  ·cases h2
  refine⟨.pv (pI _),bu ?_,trivial,hK⟩;unfold fx;rw[if_pos h]
 ·refine⟨pB false,⟨_,_,_,rfl,oH ky⟩,?_⟩;refine λb hb=>?_
  rcases cmp hb with⟨rfl,h2⟩|⟨rfl,h2⟩
  case inr=>exact absurd rfl h2
  refine⟨.pv (pI _),bu ?_,trivial,hK⟩;unfold fx;rw[if_neg h]
def qM(ps:List PV)(x:PV):Prop:=∃(s:List UInt8) (i:Nat),ps=[.str s,pI i]/\(i<8*s.length/\s.length<=1000000)/\x=pI (bH s i)
def ae9:MT (ay [(34,ah jQ)]) UL (ah qM):=by
 rintro _ K ⟨_,⟨s,i,rfl,⟨h1,h2⟩,rfl⟩,hK⟩;obtain⟨v,hv⟩:∃v,s[i/8]?=some v:=qp;have Ja:=v.toNat_lt;have hp:=zcj (i%8);refine⟨ak,?_⟩;refine⟨ao,?_⟩;refine λx hx=>?_
 rw[zcL ab]at hx;have hx:=dB hx ab;rw[hx];refine⟨_,⟨ab,by rw[show((i:Int)/8).toNat=i/8 by omega];exact hv⟩,?_⟩;refine λx hx=>?_
 have hx:=dB hx ab;rw[hx];refine⟨ao,?_⟩;refine λy hy=>?_
 rw[zcM ab]at hy;have hy:y=((i%8:Nat):Int):=ab;subst hy;refine⟨_,⟨_,rfl,ab,rfl⟩,?_⟩;rw[zaC];refine⟨ab,?_⟩;refine λz hz=>?_
 have e:((v.toNat:Nat):Int).tdiv ((2^(i%8):Nat):Int)=((v.toNat/2^(i%8):Nat):Int):=Ls;have hq:v.toNat/2^(i%8)<=v.toNat:=zc2 _ _;have eb:bH s i=v.toNat/2^(i%8)%2:=by unfold bH;rw[hv];rfl
 rw[e]at hz;generalize v.toNat/2^(i%8)=q at*;have hz:=dB hz ab;rw[hz];refine⟨ao,?_⟩;refine λu hu=>?_
 rw[zcM ab]at hu;rw[hu];refine⟨.pv (pI _),bu ?_,trivial,hK⟩;rw[eb];omega
def nu(s:List UInt8)(n:Int):Int:=
 if fx n≠0 then fx n else if (s.length:Int)≠sx n then 10 else if ∀i,i<8*s.length->n.toNat<=i->bH s i=0 then 0 else 3
def HN(ps:List PV)(x:PV):Prop:=∃(s:List UInt8) (n:Int),ps=[.str s,pI n]/\s.length<=1000000/\x=pI (nu s n)
def agy:MT (ay [(153,ah Tb),(76,ah XI),(72,ah qM)]) UP (ah HN):=by
 rintro _ K ⟨_,⟨s,n,rfl,hs,rfl⟩,hK⟩;unfold nu at hK;refine⟨_,⟨n,rfl,rfl⟩,?_⟩;refine λb hb=>?_
 rcases cmp hb with⟨rfl,h⟩|⟨rfl,h⟩
 ·rw[if_pos h]at hK;exact aG
 rw[if_neg h]at hK;have hn:0<=n/\n<=4096:=by
  refine zco λh2=>h ?_
  unfold fx;rw[if_neg h2];decide
 refine⟨_,⟨n,rfl,ab,rfl⟩,?_⟩;refine λb hb=>?_
 rcases cmp hb with⟨rfl,h2⟩|⟨rfl,h2⟩
 ·rw[if_pos h2]at hK;exact aG
 rw[if_neg h2]at hK;have hl:(s.length:Int)=sx n:=zco h2;unfold sx at hl;refine⟨λm env σ=>∃i:Nat,(i+m=8*s.length/\n<=i∧∀j,j<i->n.toNat<=j->bH s j=0)/\σ=[]/\env=[(0,.pv (.str s)),eN 6 i],8*s.length-n.toNat,⟨n.toNat,⟨ab,ab,λj hj Gx=>ab⟩,rfl,by rw[show((n.toNat:Nat):Int)=n by omega]⟩,?_⟩;rintro m env σ ⟨i,⟨hi,hni,h0⟩,rfl,rfl⟩;refine λx hx=>?_
 have hx:=dB hx ab;rw[hx];refine λb hb=>?_
 rcases cmp hb with⟨rfl,h3⟩|⟨rfl,h3⟩
 ·refine⟨_,⟨s,i,rfl,ab,rfl⟩,?_⟩;refine λb hb=>?_
  rcases cmp hb with⟨rfl,h4⟩|⟨rfl,h4⟩
  ·rw[if_neg (λh5=>h4 (by rw[h5 i ab ab];rfl))]at hK;exact aG
  ·refine λy hy=>?_
   have hy:=dB hy ab;rw[hy];refine⟨m-1,ab,i+1,⟨ab,ab,λj hj Gx=>?_⟩,rfl,rfl⟩;by_cases hji:j<i
   ·exact h0 j hji Gx
   ·have:j=i:=by omega
    subst this;have:=zco h4;omega
 ·rw[if_pos (λj hj Gx=>h0 j ab Gx)]at hK;exact aG
def atA{v:Nat}(hv:v<256):∀m k:Nat,k+m=8->(∀r,k<=r->r<8->v/2^r%2=0)->v/2^k=0:=by
 intro m
 induction m with
 |zero=>
  intro k hk _;have:k=8:=ab;subst this;exact Nat.div_eq_of_lt ab
 |succ m ih=>
  intro k hk h;have h1:=ih (k+1) ab (λr h1 h2=>h r ab h2);have h2:=h k (zai _) ab;rw[Nat.pow_succ,<-zcQ]at h1;omega
def axe{s:List UInt8}{n:Nat}(hl:s.length=(n+7)/8):(∀i,i<8*s.length->n<=i->bH s i=0)↔(n%8=0\/(s[s.length-1]?.getD 0).toNat/2^(n%8)=0):=by
 have hv:=(s[s.length-1]?.getD 0).toNat_lt;constructor
 ·intro h;by_cases h8:n%8=0
  ·exact .inl h8
  refine .inr (atA hv (8-n%8) (n%8) ab λr h1 h2=>?_);have:=h (n/8*8+r) ab ab;unfold bH at this;rw[show(n/8*8+r)/8=s.length-1 by omega,show(n/8*8+r)%8=r by omega]at this;exact this
 ·intro h i hi hni;rcases h with h|h
  ·omega
  by_cases h8:n%8=0
  ·omega
  unfold bH;rw[show i/8=s.length-1 by omega];have e:2^(i%8)=2^(n%8)*2^(i%8-n%8):=by rw[<-Nat.pow_add];congr 1;omega
  rw[e,<-zcQ,h];simp
def PQ:MT (ay [(136,ah lz),(137,ah ae6),(138,ah jw)]) xX (ah HN):=by
 rintro _ K ⟨_,⟨s,n,rfl,hs,rfl⟩,hK⟩;unfold nu at hK;by_cases hn:0<=n/\n<=4096
 case neg=>
  refine⟨pB false,⟨_,_,_,rfl,oH (by simpa using hn)⟩,?_⟩;refine λb hb=>?_
  rcases cmp hb with⟨rfl,h⟩|⟨rfl,h⟩
  case inr=>exact kN
  have e:fx n=2:=by unfold fx;rw[if_neg hn]
  rw[e,if_pos ao]at hK;exact aG
 refine⟨pB true,⟨_,_,_,rfl,oH (by simpa using hn)⟩,?_⟩;refine λb hb=>?_
 rcases cmp hb with⟨rfl,h⟩|⟨rfl,h⟩
 ·cases h
 have e:fx n=0:=by unfold fx;rw[if_pos hn]
 rw[e,if_neg ao]at hK;refine⟨_,⟨n,rfl,ab,rfl⟩,?_⟩;refine λb hb=>?_
 rcases cmp hb with⟨rfl,h2⟩|⟨rfl,h2⟩
 ·rw[if_pos h2]at hK;exact aG
 rw[if_neg h2]at hK;have hl:(s.length:Int)=sx n:=zco h2;unfold sx at hl;have Gn:=axe (s:=s) (n:=n.toNat) ab;refine⟨ao,?_⟩;refine λx hx=>?_
 rw[zcM ab]at hx;have hx:x=((n.toNat%8:Nat):Int):=ab;subst hx;refine λb hb=>?_
 rcases cmp hb with⟨rfl,h3⟩|⟨rfl,h3⟩
 ·rw[if_pos (Gn.2 (.inl ab))]at hK;refine⟨_,⟨true,3,rfl,rfl⟩,?_⟩;exact aG
 ·obtain⟨v,hv⟩:∃v,s[s.length-1]?=some v:=by rw[zah ab];exact⟨_,rfl⟩
  rw[hv]at Gn;simp only[zbC]at Gn;refine λx hx=>?_
  have hx:=dB hx ab;rw[hx];refine⟨_,⟨ab,by rw[show((s.length:Int)-1).toNat=s.length-1 by omega];exact hv⟩,?_⟩;refine⟨ab,?_⟩;refine λy hy=>?_
  have hy:y=((v.toNat/2^(n.toNat%8):Nat):Int):=by
   rw[hy];have e8:min ((n.toNat%8:Nat):Int).toNat IntKind.u8.bits=n.toNat%8:=by
    have:IntKind.u8.bits=8:=rfl;omega
   rw[e8,show((2:Int)^(n.toNat%8))=((2^(n.toNat%8):Nat):Int) by simp,zb7 _ (zcU _)];rfl
  subst hy;refine λb hb=>?_
  rcases cmp hb with⟨rfl,h4⟩|⟨rfl,h4⟩
  ·rw[if_pos (Gn.2 (.inr ab))]at hK;refine⟨_,⟨true,3,rfl,rfl⟩,?_⟩;exact aG
  ·rw[if_neg (λh5=>by rcases Gn.1 h5 with h6|h6;omega;exact h4 (by rw[h6];rfl))]at hK;refine⟨_,⟨false,3,rfl,rfl⟩,?_⟩;exact aG
def Hu(ps:List PV)(x:PV):Prop:=∃(s:List UInt8) (n:Nat),ps=[.str s,pI n]/\(n<=8*s.length/\s.length<=1000000)/\x=pI (oF s n)
def YN:MT (ay [(72,ah qM)]) NX (ah Hu):=by
 rintro _ K ⟨_,⟨s,n,rfl,⟨h1,h2⟩,rfl⟩,hK⟩;refine⟨λm env σ=>∃i:Nat,(i+m=n)/\σ=[]/\env=[(0,.pv (.str s)),eN 1 n,eN 5 (oF s i),eN 6 i],n,⟨0,ab,rfl,rfl⟩,?_⟩;rintro m env σ ⟨i,hi,rfl,rfl⟩;have hc:=axz s i;have CV:=mK s i;refine λb hb=>?_
 rcases cmp hb with⟨rfl,h⟩|⟨rfl,h⟩
 ·refine⟨_,⟨s,i,rfl,ab,rfl⟩,?_⟩;refine λx hx=>?_
  have hx:=dB hx ab;rw[hx];refine λy hy=>?_
  have hy:=dB hy ab;rw[hy];refine⟨m-1,ab,i+1,ab,rfl,rfl⟩
 ·have:i=n:=by omega
  subst this;exact aG
def Rn.pv(r:Rn):PV:=.agg [pI r.s,pI r.n]
def bD(l:List Rn):∀x∈l.map Rn.pv,x.flat:=by
 intro x hx;obtain⟨t,_,rfl⟩:=zaX.1 hx;simp[Rn.pv,PV.flat,PV.one,PV.au_]
def acU:MT (ay []) ze (bF bG):=by
 rintro _ K ⟨_,⟨n,lo,hi,rfl,rfl⟩,hK⟩
 (repeat'(refine iM ?_;first|refine de (λ_=>?_) (λ_=>?_)|fail))
 all_goals exact kQ
def acX:MT (ay []) xg (bF bG):=by
 rintro _ K ⟨_,⟨n,lo,hi,rfl,rfl⟩,hK⟩
 (repeat'(refine iM ?_;first|refine de (λ_=>?_) (λ_=>?_)|fail))
 all_goals exact kQ
def agb:Spec:=EM true false λps K=>∃(s:List UInt8) (n:Nat),ps=[.str s,pI n]/\(n<=8*s.length/\s.length<=1000000)/\K (.fresh 3 1 ((sj s n).map pI))
def NU:MT (ay [(72,ah qM)]) Hf agb:=by
 rintro _ K ⟨s,n,rfl,⟨h1,h2⟩,hK⟩;refine⟨λm env σ=>∃i:Nat,i+m=n/\σ=[.row 3 1 true ((sj s i).map pI)]/\env=[(0,.pv (.str s)),eN 1 n,(5,.own 0),eN 6 i],n,⟨0,ab,rfl,rfl⟩,?_⟩;rintro m env σ ⟨i,hi,rfl,rfl⟩
 (repeat'(refine iM ?_;first|refine bj ab ?_|refine de (λ_=>?_) (λ_=>?_)|refine bT ?_|refine⟨_,⟨_,_,rfl,cU,rfl⟩,?_⟩|refine zcC cu ?_|fail))
 ·refine⟨m-1,ab,i+1,ab,?_,rfl⟩;rw[amj,zbu];rfl
 ·have:i=n:=by omega
  subst this;exact⟨.fresh _ _ _,⟨rfl,rfl,rfl,rfl⟩,dn _,hK⟩
def awJ(ps:List PV)(x:PV):Prop:=∃(B:List UInt8) (n i:Int),ps=[.agg [.sl 1 (B.map aL),pI n],pI i]/\(0<=i/\i<8*B.length/\B.length<=1000000)/\x=pI (bH B i.toNat)
def as7:MT (ay []) AR (ah awJ):=by
 rintro _ K ⟨_,⟨B,n,i,rfl,⟨h1,h2,h3⟩,rfl⟩,hK⟩
 (repeat'(refine iM ?_;first|refine bj ab ?_|refine l7 ab ?_|refine lW ab ?_|refine SHR ao ab (λ_=>?_)|refine aJn ab (λ_ _ _=>?_)|refine aGr ab ?_|fail))
 rename_i x hx vR hq;have e:bH B i.toNat=x.toNat/2^(i%8).toNat%2:=by
  unfold bH;rw[show i.toNat/8=(i/8).toNat by omega,show i.toNat%8=(i%8).toNat by omega,hx];rfl
 rw[e]at hK;exact aG
def afd:Spec:=EM false false λps K=>∃(s:List UInt8) (n:Int),ps=[.str s,pI n]/\s.length<=1000000/\K (.tup [.agg [.row 5 1 (s.map aL),.pv (pI n)],.pv (pI (nu s n))])
def alR:MT (ay [(95,ah HN)]) NM afd:=by
 rintro _ K ⟨s,n,rfl,h,hK⟩
 (repeat'(refine iM ?_;first|refine bT ?_|refine⟨_,⟨_,_,rfl,cU,rfl⟩,?_⟩|refine wz ?_|fail))
 exact⟨[.agg [.row _ _ _,.pv _],.pv (pI _)],⟨⟨⟨rfl,rfl,rfl⟩,rfl,trivial⟩,rfl,trivial⟩,trivial,hK⟩
def Bb(B:List UInt8)(n:Int):PV:=.agg [.sl 1 (B.map aL),pI n]
def Af(ps:List PV)(p:Prop):Prop:=∃(B:List UInt8) (n i v:Int),ps=[pI i,.cptr (Bb B n),.cptr (pI v)]/\(0<=i/\i<8*B.length/\B.length<=1000000)/\p=((bH B i.toNat:Int)=v)
def TS:MT (ay [(181,ah awJ)]) pW (bF Af):=by
 rintro _ K ⟨_,⟨B,n,i,v,rfl,⟨h1,h2,h3⟩,rfl⟩,hK⟩
 (repeat'(refine iM ?_;first|refine de (λ_=>?_) (λ_=>?_)|refine bT ?_|refine⟨_,⟨_,_,_,rfl,cU,rfl⟩,?_⟩|fail))
 all_goals exact kQ
def jf(B:List UInt8)(v:Int)(i:Nat):Bool:=decide ((bH B i:Int)=v)
def mg(p:Nat->Bool)(n:Nat):List PV:=(bh p n).map Rn.pv
def TU{p:Nat->Bool}{n:Nat}{x y:Rn}(hp:p n=true)(h:(bh p n)[(((bh p n).length:Nat):Int).toNat-1]?=some x)(he:x.s+x.n=n)(hy:x=y):((bh p n).map Rn.pv).set ((((bh p n).length:Nat):Int)-1).toNat (.agg [pI y.s,pI (y.n+1)])=mg p (n+1):=by
 subst hy;rw[zaC]at h;have e:bh p (n+1)=(bh p n).set ((bh p n).length-1) ⟨x.s,x.n+1⟩:=by
  show(if p n then zh (bh p n) n else bh p n)=_;rw[if_pos hp,amu h he]
 unfold mg;rw[e,show((((bh p n).length:Nat):Int)-1).toNat=(bh p n).length-1 by omega,List.map_set];rfl
def Kv{p:Nat->Bool}{n:Nat}(hp:p n=true)(h:∀x,(bh p n)[(bh p n).length-1]?=some x->x.s+x.n≠n):(bh p n).map Rn.pv++[.agg [pI n,pI 1]]=mg p (n+1):=by
 have e:bh p (n+1)=bh p n++[⟨n,1⟩]:=by
  show(if p n then zh (bh p n) n else bh p n)=_;rw[if_pos hp,XO h]
 unfold mg;rw[e,zbu];rfl
def ags{p:Nat->Bool}{n:Nat}(hp:p n=false):bh p (n+1)=bh p n:=by
 show(if p n then zh (bh p n) n else bh p n)=_;rw[hp];rfl
def U5(p:Nat->Bool)(n:Nat):∀x∈mg p n,x.flat:=bD _
def amN:Spec:=EM true false λps K=>
 (∃(B:List UInt8) (n:Nat) (v:Int),ps=[Bb B n,.clo 259 [.cptr (Bb B n),.cptr (pI v)]]/\(n<=8*B.length/\B.length<=1000000)/\K (.fresh 28 2 (mg (jf B v) n)))
def akQ:MT (ay [(259,bF Af)]) yo amN:=by
 rintro _ K ⟨B,n,v,rfl,⟨h1,h2⟩,hK⟩
 ·refine⟨λm env σ=>∃i:Nat,i+m=n/\σ=[.row 28 2 true (mg (jf B v) i)]/\env=[(1,.pv (.clo 259 [.cptr (Bb B n),.cptr (pI v)])),(5,.own 0),eN 9 n,eN 10 i],n,⟨0,ab,rfl,rfl⟩,?_⟩;rintro m env σ ⟨i,hi,rfl,rfl⟩;obtain⟨hr,hl,_⟩:=kI (jf B v) i;unfold mg
  (repeat'(refine iM ?_;first|refine bj ab ?_|refine aN ?_|refine bP ?_|refine de (λ_=>?_) (λ_=>?_)|refine ez λ_=>?_|refine Q3 ab ?_|refine aFO aA ab (λ_ _ _=>?_)|refine bT ?_|refine⟨_,⟨_,_,_,_,rfl,cU,rfl⟩,?_⟩|refine zcC cu ?_|fail))
  ·rename_i hb hn x hx _ y hy _ he z hz _ u hu _;have e1:x=y:=Option.some.inj (hx.symm.trans hy);have e2:x=z:=Option.some.inj (hx.symm.trans hz);have e3:x=u:=Option.some.inj (hx.symm.trans hu);subst e1 e2 e3;have hp:jf B v i=true:=RD;exact⟨m-1,ab,i+1,ab,congrArg (λl=>[dC.row _ _ _ l]) (TU hp abb he rfl),rfl⟩
  ·rename_i hb hn x hx _ y hy _ he;have e1:x=y:=Option.some.inj (hx.symm.trans hy);subst e1;have hp:jf B v i=true:=RD;refine⟨m-1,ab,i+1,ab,congrArg (λl=>[dC.row _ _ _ l]) (Kv hp λu hu=>?_),rfl⟩;rw[show(bh (jf B v) i).length-1=(((bh (jf B v) i).length:Int)-1).toNat by omega,hx]at hu;rw[<-Option.some.inj hu];exact he
  ·rename_i hb hn;have hp:jf B v i=true:=RD;refine⟨m-1,ab,i+1,ab,congrArg (λl=>[dC.row _ _ _ l]) (Kv hp λu hu=>?_),rfl⟩;rw[List.getElem?_eq_none ab]at hu;cases hu
  ·rename_i hb;have hp:jf B v i=false:=RD;refine⟨m-1,ab,i+1,ab,?_,rfl⟩;rw[ags hp]
  ·have:i=n:=by omega
   subst this;exact vj
def FQ:Spec:=EM true false λps K=>∃(B:List UInt8) (n v:Int),ps=[Bb B n,pI v]/\(0<=n/\n<=8*B.length/\B.length<=1000000)/\K (.fresh 28 2 (mg (jf B v) n.toNat))
def ade:MT (ay [(258,amN),(259,bF Af)]) tC FQ:=by
 rintro _ K ⟨B,n,v,rfl,⟨h0,h1,h2⟩,hK⟩;obtain⟨n,rfl⟩:∃k:Nat,n=k:=⟨n.toNat,ab⟩
 (conv=>whnf)
 refine⟨B,n,v,rfl,ab,?_⟩
 (conv=>whnf)
 exact vj
def LL:Spec:=EM true false λps K=>∃(l:List Int) (v:Int) (p:Nat->Bool),ps=[.sl 1 (l.map pI),pI v]/\(l.length<=8000000∧∀i x,l[i]?=some x->(p i=true↔x=v))/\K (.fresh 28 2 (mg p l.length))
def aeY:MT (ay []) JL LL:=by
 rintro _ K ⟨l,v,p,rfl,⟨hl,hp⟩,hK⟩;refine⟨λm env σ=>∃i:Nat,i+m=l.length/\σ=[.row 28 2 true (mg p i)]/\env=[(0,.pv (.sl 1 (l.map pI))),eN 1 v,(5,.own 0),eN 6 i],l.length,⟨0,ab,rfl,rfl⟩,?_⟩;rintro m env σ ⟨i,hi,rfl,rfl⟩;obtain⟨hr,cH,h3⟩:=kI p i;clear h3;unfold mg
 (repeat'(refine iM ?_;first|refine bj ab ?_|refine de (λ_=>?_) (λ_=>?_)|refine ez λ_=>?_|refine aii ab (λ_ _=>?_)|refine IDX ab (λ_ _=>?_)|refine bT ?_|refine zcC cu ?_|fail))
 ·rename_i x hx hb;have hp:p i=false:=by have:=hp i x hx;cases h:p i<;>simp_all
  exact⟨m-1,ab,i+1,ab,by rw[<-ags hp],rfl⟩
 ·rename_i x hx hb hi0 y hy hv Ee;have h0:0<(bh p i).length:=aqt ab ((hp (i-1) y ZS).2 hv)
  (repeat'(refine iM ?_;first|refine bj ab ?_|refine Q3 ab ?_|refine aFO aA ab (λ_ _ _=>?_)|refine bT ?_|fail))
  rename_i z hz eJ u hu Cm;have e1:z=u:=Option.some.inj (hz.symm.trans hu);subst e1;have hz':(bh p i)[(bh p i).length-1]?=some z:=by rw[<-hz];congr 1;omega
  have XN:p i=true:=(hp i x hx).2 (by simpa using hb);refine⟨m-1,ab,i+1,ab,congrArg (λl=>[dC.row _ _ _ l]) (TU XN hz' ((O6 hz').2 ⟨ab,(hp (i-1) y ZS).2 hv⟩) rfl),rfl⟩
 ·rename_i x hx hb hi0 y hy hv;have XN:p i=true:=(hp i x hx).2 (by simpa using hb);refine⟨m-1,ab,i+1,ab,congrArg (λl=>[dC.row _ _ _ l]) (Kv XN λu hu he=>?_),rfl⟩;exact hv ((hp (i-1) y ZS).1 ((O6 hu).1 he).2)
 ·rename_i x hx hb hi0;have XN:p i=true:=(hp i x hx).2 (by simpa using hb);refine⟨m-1,ab,i+1,ab,congrArg (λl=>[dC.row _ _ _ l]) (Kv XN λu hu he=>?_),rfl⟩;have:=((O6 hu).1 he).1;omega
 ·have:i=l.length:=by omega
  subst this;exact vj
def BX:Spec:=EM true true λps K=>∃a b:Int,ps=[.sl 1 [pI a,pI b]]/\(a≠0->K (.pv (pI a)))/\(a=0->K (.pv (pI b)))
def agS:MT (ay []) Bv BX:=by
 rintro _ K ⟨a,b,rfl,h1,h2⟩;refine OR _ K ⟨_,⟨[a,b],rfl,rfl⟩,?_⟩;by_cases ha:a=0
 ·subst ha;by_cases hb:b=0<;>simpa[bQ,hb]using h2 rfl
 ·simpa[bQ,ha]using h1 ha
def ac0(e:Int)(p:Prop)[Decidable p]:Int:=if e≠0 then e else if p then 0 else 2
def iR{s:List UInt8}{n:Int}(h:nu s n=0):0<=n/\n<=4096/\n<=8*s.length/\(s.length:Int)=sx n∧∀i,i<8*s.length->n.toNat<=i->bH s i=0:=by
 unfold nu fx at h;by_cases h1:0<=n/\n<=4096
 case neg=>simp[h1]at h
 rw[if_pos h1]at h;simp only[ne_eq,not_true_eq_false,if_false]at h;by_cases h2:(s.length:Int)≠sx n
 ·rw[if_pos h2]at h;cases h
 rw[if_neg h2]at h;have h3:(s.length:Int)=sx n:=zco h2;refine⟨h1.1,h1.2,by unfold sx at h3;omega,h3,?_⟩;split at h
 ·assumption
 ·cases h
def aqn(s:List UInt8)(n a:Int):Int:=if ac0 (nu s n) (0<=a/\a<=n-1)=0 then bH s a.toNat else 0
def XF:Spec:=EM true false λps K=>∃(s:List UInt8) (n a:Int),ps=[.str s,pI n,pI a]/\s.length<=1000000/\K (.tup [.pv (pI (aqn s n a)),.pv (pI (ac0 (nu s n) (0<=a/\a<=n-1)))])
def ahs:MT (ay [(179,afd),(180,BX),(138,ah jw),(136,bF bG),(181,ah awJ)]) Lm XF:=by
 rintro _ K ⟨s,n,a,rfl,h,hK⟩;unfold aqn at hK;have di:= @iR s n;by_cases he:nu s n=0
 ·obtain⟨h1,h2,h3,h4,h5⟩:=di he
  (repeat'(refine iM ?_;first|refine bj ab ?_|refine au ao ?_|refine aw ao ?_|refine de (λ_=>?_) (λ_=>?_)|refine bT ?_|refine⟨_,⟨_,_,rfl,rfl⟩,?_⟩|refine⟨_,⟨_,_,_,rfl,rfl⟩,?_⟩|refine⟨_,⟨_,_,_,rfl,cU,rfl⟩,?_⟩|refine⟨_,_,rfl,λh=>absurd h ab,λ_=>?_⟩|refine⟨_,_,rfl,cU,?_⟩|fail))
  all_goals simp[ac0, *]at hK
  all_goals(refine⟨_,?_,?_,hK⟩<;>repeat'(first|exact rfl|exact trivial|exact bD _|exact dn _|exact cr|refine⟨?_,?_⟩))
 ·(repeat'(refine iM ?_;first|refine au ab ?_|refine de (λ_=>?_) (λ_=>?_)|refine bT ?_|refine⟨_,⟨_,_,rfl,rfl⟩,?_⟩|refine⟨_,⟨_,_,_,rfl,rfl⟩,?_⟩|refine⟨_,_,rfl,λ_=>?_,λh=>absurd h ab⟩|refine⟨_,_,rfl,cU,?_⟩|refine aJH (λ_=>?_)|fail))
  all_goals simp[ac0, *]at hK
  all_goals(refine⟨_,?_,?_,hK⟩<;>repeat'(first|exact rfl|exact trivial|exact bD _|exact dn _|exact cr|refine⟨?_,?_⟩))
def agu:Spec:=EM false false λps K=>∃n:Int,ps=[pI n]/\(fx n=0->K (.tup [.agg [.row 5 1 ((ai (qO n.toNat)).map aL),.pv (pI n)],.pv (pI 0)]))/\(fx n≠0->K (.tup [.pv (.agg [.nil 1,pI 0]),.pv (pI 2)]))
def aeA(n:Nat):List.replicate n (PV.int .u8 0)=(ai n).map aL:=by
 unfold ai;rw[zcK];rfl
def as9{n:Int}(h:fx n=0):0<=n/\n<=4096:=by
 unfold fx at h;split at h
 ·assumption
 ·cases h
def abD{n:Int}(h:0<=n):sx n=(qO n.toNat:Nat):=by unfold sx qO;omega
def aip:MT (ay [(136,bF bG),(137,ah ae6)]) Jz agu:=by
 rintro _ K ⟨n,rfl,h1,h2⟩;by_cases h:fx n=0
 ·have hn:=as9 h;have hK:=h1 h;have hc:=abD hn.1;have hl:qO n.toNat<=512:=by unfold qO;omega
  rw[<-aeA]at hK
  (repeat'(refine iM ?_;first|refine aN ?_|refine au ab ?_|refine bT ?_|refine⟨_,⟨_,_,_,rfl,rfl⟩,?_⟩|refine⟨_,⟨_,rfl,cU,rfl⟩,?_⟩|refine wz ?_|fail))
  rw[hc,zaC];refine⟨[.agg [.row _ _ _,.pv _],.pv (pI _)],⟨⟨⟨rfl,rfl,rfl⟩,rfl,trivial⟩,rfl,trivial⟩,trivial,hK⟩
 ·have hn:¬(0<=n/\n<=4096):=by
   intro h';apply h;unfold fx;rw[if_pos h']
  have hK:=h2 h
  (repeat'(refine iM ?_;first|refine bP ?_|refine aw ab ?_|refine bT ?_|refine⟨_,⟨_,_,_,rfl,rfl⟩,?_⟩|fail))
  exact⟨[.pv _,.pv (pI _)],⟨rfl,rfl,trivial⟩,trivial,hK⟩
def axV(n:Int):List UInt8:=if fx n=0 then ai (qO n.toNat)else[]
def JN:Spec:=EM true false λps K=>∃n:Int,ps=[pI n]/\K (.tup [.pv (.str (axV n)),.pv (pI (fx n))])
def V4:MT (ay [(182,agu)]) Ch JN:=by
 rintro _ K ⟨n,rfl,hK⟩;unfold axV at hK;refine⟨n,rfl,λh=>?_,λh=>?_⟩
 ·rw[if_pos h,h]at hK
  (repeat'(refine iM ?_;first|refine yR ?_|refine bT ?_|fail))
  (refine⟨_,?_,?_,hK⟩<;>repeat'(first|exact rfl|exact trivial|exact bD _|exact dn _|exact cr|refine⟨?_,?_⟩))
 ·have e:fx n=2:=by
   unfold fx at h ⊢;split
   ·rename_i h';rw[if_pos h']at h;exact kN
   ·rfl
  rw[if_neg h,e]at hK
  (repeat'(refine iM ?_;first|refine aJi ?_|refine bT ?_|fail))
  (refine⟨_,?_,?_,hK⟩<;>repeat'(first|exact rfl|exact trivial|exact bD _|exact dn _|exact cr|refine⟨?_,?_⟩))
def apL(a b:Int):Int:=if a<b then-1 else if b<a then 1 else 0
def afu(ps:List PV)(x:PV):Prop:=∃a:Int,ps=[pI a]/\x=pB false
def ahJ:MT (ay []) HZ (ah afu):=by
 rintro _ K ⟨_,⟨a,rfl,rfl⟩,hK⟩;refine aw (λh=>h rfl) ?_
 (conv=>whnf)
 (refine⟨_,?_,?_,hK⟩<;>repeat'(first|exact rfl|exact trivial|exact bD _|exact dn _|exact cr|refine⟨?_,?_⟩))
def Ts(ps:List PV)(x:PV):Prop:=∃a b:Int,ps=[pI a,pI b]/\x=pI (apL a b)
def adf:MT (ay [(261,ah afu)]) DA (ah Ts):=by
 rintro _ K ⟨_,⟨a,b,rfl,rfl⟩,hK⟩;unfold apL at hK
 (repeat'(refine iM ?_;first|refine de (λ_=>?_) (λ_=>?_)|refine⟨_,⟨_,rfl,rfl⟩,?_⟩|fail))
 ·rename_i h;rw[if_pos h]at hK;(refine⟨_,?_,?_,hK⟩<;>repeat'(first|exact rfl|exact trivial|exact bD _|exact dn _|exact cr|refine⟨?_,?_⟩))
 ·rename_i h h2;rw[if_neg h,if_pos h2]at hK;(refine⟨_,?_,?_,hK⟩<;>repeat'(first|exact rfl|exact trivial|exact bD _|exact dn _|exact cr|refine⟨?_,?_⟩))
 ·rename_i h h2;rw[if_neg h,if_neg h2]at hK;(refine⟨_,?_,?_,hK⟩<;>repeat'(first|exact rfl|exact trivial|exact bD _|exact dn _|exact cr|refine⟨?_,?_⟩))
def aB_(ps:List PV)(x:PV):Prop:=∃l:List Int,ps=[.sl 1 (l.map pI)]/\x=pI (bQ l)
def ar9:MT (ay []) Sa (ah aB_):=by
 rintro _ K ⟨_,⟨l,rfl,rfl⟩,hK⟩
 (repeat'(refine iM ?_;first|refine ez λ_=>?_|fail))
 refine⟨λm env σ=>∃n:Nat,(n+m=l.length∧∀j,j<n->l[j]?=some 0)/\σ=[]/\env=[eN 3 0,(6,.pv (.sl 1 (l.map pI))),eN 7 (l.length:Nat),eN 8 n],l.length,⟨0,⟨ab,λj hj=>ab⟩,rfl,rfl⟩,?_⟩;rintro m env σ ⟨n,⟨hn,h0⟩,rfl,rfl⟩
 (repeat'(refine iM ?_;first|refine bj ab ?_|refine de (λ_=>?_) (λ_=>?_)|refine aii ab (λ_ _=>?_)|fail))
 ·rename_i x hx cb;rw[ke l n h0,zcE (eT hx)]at hK;rw[zah (eT hx)]at hx;simp only[Option.some.inj hx,bQ,if_neg cb]at hK
  (refine⟨_,?_,?_,hK⟩<;>repeat'(first|exact rfl|exact trivial|exact bD _|exact dn _|exact cr|refine⟨?_,?_⟩))
 ·rename_i x hx cb;refine⟨m-1,ab,n+1,⟨ab,λj hj=>?_⟩,rfl,rfl⟩;by_cases nd:j<n
  ·exact h0 j nd
  ·rw[show j=n by omega,hx];simpa using cb
 ·rw[ke l n h0,zb8 ab]at hK
  (refine⟨_,?_,?_,hK⟩<;>repeat'(first|exact rfl|exact trivial|exact bD _|exact dn _|exact cr|refine⟨?_,?_⟩))
def H5(a b:Int):Int:=max (a-b) (b-a)
def afn(ps:List PV)(x:PV):Prop:=∃a b:Int,ps=[pI a,pI b]/\(-1000000000000<=a/\a<=1000000000000/\ -1000000000000<=b/\b<=1000000000000)/\x=pI (H5 a b)
def amx:MT (ay []) NF (ah afn):=by
 rintro _ K ⟨_,⟨a,b,rfl,⟨h1,h2,h3,h4⟩,rfl⟩,hK⟩;unfold H5 at hK
 (repeat'(refine iM ?_;first|refine bj ab ?_|refine fQ ?_|fail))
 (refine⟨_,?_,?_,hK⟩<;>repeat'(first|exact rfl|exact trivial|exact bD _|exact dn _|exact cr|refine⟨?_,?_⟩))
def I3(r:Rn):Prop:= -1000000000000<=r.s/\r.s<=1000000000000/\ -1000000000000<=r.n/\r.n<=1000000000000
def alq(near:Int)(p q:Rn):Int:=bQ [apL q.n p.n,apL (H5 p.s near) (H5 q.s near),apL p.s q.s]
def vw(near:Int)(p q:Rn):Bool:=decide (alq near p q<0)
def afV{near:Int}{p q:Rn}:vw near p q=true↔(q.n<p.n\/q.n=p.n/\(H5 p.s near<H5 q.s near\/H5 p.s near=H5 q.s near/\p.s<q.s)):=by
 unfold vw alq;rw[decide_eq_true_iff];generalize H5 p.s near=x;generalize H5 q.s near=y;simp only[bQ,apL];by_cases h1:q.n<p.n
 ·simp[h1]
 ·by_cases h2:p.n<q.n
  ·simp[h1,h2];omega
  ·by_cases h3:x<y
   ·simp[h1,h2,h3];omega
   ·by_cases h4:y<x
    ·simp[h1,h2,h3,h4];omega
    ·by_cases h5:p.s<q.s
     ·simp[h1,h2,h3,h4,h5];omega
     ·by_cases h6:q.s<p.s<;>simp[h1,h2,h3,h4,h5,h6]<;>omega
def Ma(near:Int):Ord (vw near):=by
 constructor
 ·intro x y h;rw[<-zcX];rw[afV]at h ⊢;omega
 ·intro x y z h1 h2;rw[<-zcX]at h1 h2 ⊢;rw[afV]at h1 h2 ⊢;omega
def awt{near:Int}{x y:Rn}(h1:vw near x y=false)(h2:vw near y x=false):x=y:=by
 rw[<-zcX]at h1 h2;rw[afV]at h1 h2;obtain⟨a,b⟩:=x;obtain⟨c,d⟩:=y;simp only at h1 h2;have:a=c/\b=d:=ab;rw[this.1,this.2]
def OD(c near:Int):PV:=.clo 231 [.cptr (.agg [pI c,pI near])]
def aee(near:Int):Prop:= -1000000000000<=near/\near<=1000000000000
def Pt(ps:List PV)(x:PV):Prop:=∃(p q:Rn) (c near:Int),ps=[p.pv,q.pv,.cptr (.agg [pI c,pI near])]/\(I3 p/\I3 q/\aee near)/\x=pI (alq near p q)
def ak8:MT (ay [(232,ah aB_),(233,ah Ts),(234,ah afn)]) xZ (ah Pt):=by
 rintro _ K ⟨_,⟨p,q,c,near,rfl,⟨⟨h1,h2,h3,h4⟩,⟨h5,h6,h7,h8⟩,h9,XK⟩,rfl⟩,hK⟩;unfold alq at hK
 (repeat'(refine iM ?_;first|refine bT ?_|refine⟨_,⟨_,_,rfl,rfl⟩,?_⟩|refine⟨_,⟨_,_,rfl,cU,rfl⟩,?_⟩|refine⟨_,⟨[_,_,_],rfl,rfl⟩,?_⟩|fail))
 (refine⟨_,?_,?_,hK⟩<;>repeat'(first|exact rfl|exact trivial|exact bD _|exact dn _|exact cr|refine⟨?_,?_⟩))
def axL{α:Type}{f:Nat->α}{n:Nat}{F:α->PV}{i k:Nat}{x:α}{K:PV->Prop}(h:k<n)(c:K (F (if k=i then x else f k))):∃y,(((cQ f n).map F).set i (F x))[k]?=some y/\K y:=
 ⟨_,by rw[oc,oq,za9,bO h];rfl,c⟩
abbrev Cf(ap:Bool)(f:Nat->Rn)(N:Nat):dC:=.row 28 2 ap ((cQ f N).map Rn.pv)
def akV(xs:List AV)(σ:aF)(K:AV->aF->Prop):Prop:=
 ∃(ap:Bool) (f:Nat->Rn) (N:Nat) (a b n c near:Int),xs=[.own 0,.pv (pI a),.pv (pI b),.pv (pI n),.pv (OD c near)]/\σ=[Cf ap f N]/\(0<=a/\a+n<=b/\b+n<=N/\0<=n/\N<=100000)/\K (.tup []) [Cf ap (M4 f a.toNat b.toNat n.toNat) N]
def al5:gO (ay []) fW (sB akV):=by
 rintro _ _ K ⟨ap,f,N,a,b,n,c,near,rfl,rfl,⟨h0,h1,h2,h3,h4⟩,hK⟩;refine⟨λm env σ=>∃i:Nat,(i+m=n)/\σ=[Cf ap (M4 f a.toNat b.toNat i) N]/\env=[(0,.own 0),eN 1 a,eN 2 b,eN 3 n,eN 10 i],n.toNat,⟨0,ab,?_,rfl⟩,?_⟩
 ·refine congrArg (λx=>[Cf ap x N]) (funext λj=>?_);unfold M4;rw[if_neg ab,if_neg ab]
 rintro m env σ ⟨i,hi,rfl,rfl⟩
 (repeat'(refine iM ?_;first|refine axL ab ?_|refine bj ab ?_|refine de (λ_=>?_) (λ_=>?_)|refine Vx ab ?_|refine Ug ab ?_|refine bT ?_|refine zcC cu ?_|fail))
 ·refine⟨m-1,ab,i+1,ab,?_,rfl⟩;refine congrArg (λx=>[dC.row _ _ _ x]) ?_;rw[show PV.agg [pI (M4 f a.toNat b.toNat i (b+i).toNat).s,pI (M4 f a.toNat b.toNat i (b+i).toNat).n]=(M4 f a.toNat b.toNat i (b+i).toNat).pv from rfl,
   show PV.agg [pI (M4 f a.toNat b.toNat i (a+i).toNat).s,pI (M4 f a.toNat b.toNat i (a+i).toNat).n]=(M4 f a.toNat b.toNat i (a+i).toNat).pv from rfl,oc,oc,oq,oq]
  refine congrArg (List.map Rn.pv) (kT λj _=>?_);unfold M4
  repeat' split
  all_goals first|(exfalso;omega)|rfl|(congr 1<;>omega)
 ·have:n.toNat=i:=by omega
  rw[this]at hK;exact hK
def anV(xs:List AV)(σ:aF)(K:AV->aF->Prop):Prop:=
 ∃(ap:Bool) (f:Nat->Rn) (N:Nat) (a m b c near:Int),xs=[.own 0,.pv (pI a),.pv (pI m),.pv (pI b),.pv (OD c near)]/\σ=[Cf ap f N]/\(0<=a/\a<m/\m<b/\b<=N/\N<=100000)/\K (.tup []) [Cf ap (mJ f a.toNat m.toNat b.toNat) N]
def ap8:gO (ay [(290,sB akV)]) gY (sB anV):=by
 rintro _ _ K ⟨ap,f,N,a,m,b,c,near,rfl,rfl,⟨h0,h1,h2,h3,h4⟩,hK⟩
 (repeat'(refine iM ?_;first|refine bj ab ?_|fail))
 refine⟨λq env σ=>∃(i j:Int) (g:Nat->Rn),(q=i+j/\0<i/\0<j/\i<=m-a/\j<=b-m/\mJ f a.toNat m.toNat b.toNat=mJ g (m-i).toNat m.toNat (m+j).toNat)/\σ=[Cf ap g N]/\env=[(0,.own 0),eN 2 m,(4,.pv (OD c near)),eN 10 i,eN 11 j],(b-a).toNat,⟨m-a,b-m,f,⟨ab,ab,ab,ab,ab,by rw[show m-(m-a)=a by omega,show m+(b-m)=b by omega]⟩,rfl,rfl⟩,?_⟩;rintro q env σ ⟨i,j,g,⟨hq,hi,hj,j9,Gx,he⟩,rfl,rfl⟩
 (repeat'(refine iM ?_;first|refine bj ab ?_|refine de (λ_=>?_) (λ_=>?_)|refine⟨_,_,_,_,_,_,_,_,rfl,rfl,cU,?_⟩|fail))
 ·rename_i cb hgt;refine⟨j.toNat+(i-j).toNat,ab,i-j,j,M4 g (m-i).toNat m.toNat j.toNat,⟨ab,ab,ab,ab,ab,?_⟩,rfl,rfl⟩;rw[he];funext x;unfold mJ M4
  repeat' split
  all_goals first|(exfalso;omega)|(congr 1<;>omega)
 ·rename_i cb hgt;refine⟨i.toNat+(j-i).toNat,ab,i,j-i,M4 g (m-i).toNat (m+j-i).toNat i.toNat,⟨ab,ab,ab,ab,ab,?_⟩,rfl,rfl⟩;rw[he];funext x;unfold mJ M4
  repeat' split
  all_goals first|(exfalso;omega)|(congr 1<;>omega)
 ·rename_i cb;have zk:i=j:=zco cb;subst zk;have e:mJ f a.toNat m.toNat b.toNat=M4 g (m-i).toNat m.toNat i.toNat:=by
   rw[he];funext x;unfold mJ M4
   repeat' split
   all_goals first|(exfalso;omega)|(congr 1<;>omega)
  rw[e]at hK;exact hK
def s_(g:Nat->Rn)(j i:Nat):Nat->Rn:=λk=>if k=j then g i else if j<k/\k<=i then g (k-1)else g k
def S8(g:Nat->Rn)(i:Nat):s_ g i i=g:=by
 funext k;unfold s_;by_cases h:k=i
 ·rw[if_pos h,h]
 ·rw[if_neg h,if_neg ab]
def Ta(g:Nat->Rn){j i:Nat}(h0:0<j)(h:j<=i):FL (s_ g j i) (j-1) j=s_ g (j-1) i:=by
 funext k;unfold FL s_
 repeat' split
 all_goals first|(exfalso;omega)|rfl|(congr 1<;>omega)
def T3(g:Nat->Rn){a i:Nat}:∀d,d<=i-a->a<=i->eV a (i+1) g (s_ g (i-d) i):=by
 intro d
 induction d with
 |zero=>intro _ _;rw[zcq,S8];exact .refl _ _ _
 |succ d ih=>
  intro h1 h2;refine(ih ab h2).trans ?_;rw[<-show i-d-1=i-(d+1) by omega,<-Ta g ab ab];have:=YE (s_ g (i-d) i) (i:=i-d-1);rw[show i-d-1+1=i-d by omega]at this;exact YQ
abbrev aJw:List (Nat×Spec):=[(231,ah Pt)]
def ats(xs:List AV)(σ:aF)(K:AV->aF->Prop):Prop:=
 ∃(ap:Bool) (f:Nat->Rn) (N:Nat) (a b c near:Int),xs=[.own 0,.pv (pI a),.pv (pI b),.pv (OD c near)]/\σ=[Cf ap f N]/\(0<=a/\a<=b/\b<=N/\N<=100000/\(∀j,I3 (f j))/\aee near)/\
  ∀g,eV a.toNat b.toNat f g->bl (vw near) a.toNat b.toNat g->K (.tup []) [Cf ap g N]
def apR:gO (ay aJw) eX (sB ats):=by
 rintro _ _ K ⟨ap,f,N,a,b,c,near,rfl,rfl,⟨h0,h1,h2,h3,hB,hN⟩,hK⟩
 (repeat'(refine iM ?_;first|refine bj ab ?_|fail))
 refine⟨λq env σ=>∃(i:Int) (g:Nat->Rn),(q=(b-i).toNat/\a+1<=i/\(i<=b\/i=a+1)/\eV a.toNat b.toNat f g/\bl (vw near) a.toNat i.toNat g)/\σ=[Cf ap g N]/\env=[(0,.own 0),eN 1 a,eN 2 b,(3,.pv (OD c near)),eN 8 i],(b-(a+1)).toNat,⟨a+1,f,⟨ab,ab,ab,.refl _ _ _,λi j h1 h2 h3=>?_⟩,rfl,rfl⟩,?_⟩
 ·rw[show i=j by omega];exact(Ma near).irrefl _
 rintro q env σ ⟨i,g,⟨hq,hi,j9,hp,hs⟩,rfl,rfl⟩
 (repeat'(refine iM ?_;first|refine de (λ_=>?_) (λ_=>?_)|fail))
 ·refine⟨λq env σ=>∃(j:Int),(q=(j-a).toNat/\a<=j/\j<=i∧∀k:Nat,j<=k->k<i->vw near (g i.toNat) (g k)=true)/\σ=[Cf ap (s_ g j.toNat i.toNat) N]/\env=[(0,.own 0),eN 1 a,eN 2 b,(3,.pv (OD c near)),eN 8 i,eN 9 j],(i-a).toNat,⟨i,⟨ab,ab,ab,λk h1 h2=>ab⟩,by rw[S8],rfl⟩,?_⟩;rintro q env σ ⟨j,⟨hq,hj,hji,aU⟩,rfl,rfl⟩;have hB2:∀k,I3 (s_ g j.toNat i.toNat k):=by
   have:=hp.all (P:=I3) hB;intro k;unfold s_
   repeat' split
   all_goals exact this _
  (repeat'(refine iM ?_;first|refine bj ab ?_|refine de (λ_=>?_) (λ_=>?_)|refine Vx ab ?_|refine Ug ab ?_|refine bT ?_|fail))
  ·have aHe:∀r:Int,r=alq near (s_ g j.toNat i.toNat j.toNat) (s_ g j.toNat i.toNat (j-1).toNat)->(r<0↔vw near (g i.toNat) (g (j-1).toNat)=true):=by
    intro r hr;have e1:s_ g j.toNat i.toNat j.toNat=g i.toNat:=by unfold s_;rw[if_pos rfl]
    have e2:s_ g j.toNat i.toNat (j-1).toNat=g (j-1).toNat:=by unfold s_;rw[if_neg ab,if_neg ab]
    rw[hr,e1,e2];unfold vw;rw[decide_eq_true_iff]
   refine⟨_,⟨_,_,c,near,rfl,⟨hB2 _,hB2 _,hN⟩,rfl⟩,?_⟩
   (repeat'(refine iM ?_;first|refine axL ab ?_|refine bj ab ?_|refine de (λ_=>?_) (λ_=>?_)|refine Vx ab ?_|refine Ug ab ?_|refine bT ?_|refine zcC cu ?_|fail))
   ·rename_i aDC;have hl:=(aHe _ rfl).1 aDC;refine⟨(j-1-a).toNat,ab,j-1,⟨ab,ab,ab,λk h4 h5=>?_⟩,?_,rfl⟩
    ·by_cases hk:k=(j-1).toNat
     ·rw[hk];exact hl
     ·exact aU k ab h5
    ·refine congrArg (λx=>[dC.row _ _ _ x]) ?_;have hsw:=Ta g (j:=j.toNat) (i:=i.toNat) ab ab;rw[show PV.agg [pI (s_ g j.toNat i.toNat (j-1).toNat).s,pI (s_ g j.toNat i.toNat (j-1).toNat).n]=(s_ g j.toNat i.toNat (j-1).toNat).pv from rfl,
      show PV.agg [pI (s_ g j.toNat i.toNat j.toNat).s,pI (s_ g j.toNat i.toNat j.toNat).n]=(s_ g j.toNat i.toNat j.toNat).pv from rfl,oc,oc,oq,oq]
     refine congrArg (List.map Rn.pv) ?_;rw[show(j-1).toNat=j.toNat-1 by omega,<-hsw];refine kT λx _=>?_
     unfold FL
     repeat' split
     all_goals first|(exfalso;omega)|rfl
   ·rename_i aDC;have hl:vw near (g i.toNat) (g (j-1).toNat)=false:=by
     cases h:vw near (g i.toNat) (g (j-1).toNat)with
     |false=>rfl
     |true=>exact absurd ((aHe _ rfl).2 h) aDC
    refine⟨(b-(i+1)).toNat,ab,i+1,s_ g j.toNat i.toNat,⟨rfl,ab,ab,hp.trans ?_,?_⟩,rfl,rfl⟩
    ·have:=T3 g (a:=a.toNat) (i:=i.toNat) (i-j).toNat ab ab;rw[show i.toNat-(i-j).toNat=j.toNat by omega]at this;exact YQ
    ·rw[show(i+1).toNat=i.toNat+1 by omega];exact DM (Ma near) hs ab ab (λk h4 h5=>aU k ab ab) λ_=>by rw[show j.toNat-1=(j-1).toNat by omega];exact hl
  ·refine⟨(b-(i+1)).toNat,ab,i+1,s_ g j.toNat i.toNat,⟨rfl,ab,ab,hp.trans ?_,?_⟩,rfl,rfl⟩
   ·have:=T3 g (a:=a.toNat) (i:=i.toNat) (i-j).toNat ab ab;rw[show i.toNat-(i-j).toNat=j.toNat by omega]at this;exact YQ
   ·rw[show(i+1).toNat=i.toNat+1 by omega];exact DM (Ma near) hs ab ab (λk h4 h5=>aU k ab ab) λ_=>ab
 ·rename_i aU
  exact hK g hp (by rcases j9 with h|h;·rw[show b=i by omega];exact hs
                    ·exact λx y h1 h2 h3=>by rw[show x=y by omega];exact(Ma near).irrefl _)
def aoh(k:Nat)(xs:List AV)(σ:aF)(K:AV->aF->Prop):Prop:=
 ∃(ap:Bool) (f:Nat->Rn) (N:Nat) (a m b c near:Int),xs=[.own 0,.pv (pI a),.pv (pI m),.pv (pI b),.pv (OD c near)]/\σ=[Cf ap f N]/\
  (0<=a/\a<m/\m<b/\b<=N/\N<=100000/\b-a<=k/\(∀j,I3 (f j))/\aee near/\bl (vw near) a.toNat m.toNat f/\bl (vw near) m.toNat b.toNat f)/\
  ∀g,eV a.toNat b.toNat f g->bl (vw near) a.toNat b.toNat g->K (.tup []) [Cf ap g N]
def TN{near:Int}{p q:Rn}(h:alq near p q<0):vw near p q=true:=by unfold vw;rw[decide_eq_true_iff];exact h
def SQ{near:Int}{p q:Rn}(h:¬alq near p q<0):vw near p q=false:=by unfold vw;rw[decide_eq_false_iff_not];exact h
def Qj(g:Nat->Rn)(a k:Nat):Nat->Rn:=λj=>if j=k then g a else if a<=j/\j<k then g (j+1)else g j
def aej(g:Nat->Rn)(a:Nat):Qj g a a=g:=by
 funext j;unfold Qj
 repeat' split
 all_goals first|(exfalso;omega)|rfl|(congr 1<;>omega)
def aea(g:Nat->Rn){a k:Nat}(h:a<=k):FL (Qj g a k) k (k+1)=Qj g a (k+1):=by
 funext j;unfold FL Qj
 repeat' split
 all_goals first|(exfalso;omega)|rfl|(congr 1<;>omega)
def apH(g:Nat->Rn){a:Nat}:∀d,eV a (a+d+1) g (Qj g a (a+d)):=by
 intro d
 induction d with
 |zero=>rw[show a+0=a by omega,aej];exact .refl _ _ _
 |succ d ih=>
  rw[<-zaJ,<-aea g ab];exact(ih.wide (zai _) ab ab).trans ((YE _).wide ab ab ab)
def aiq{lt:Rn->Rn->Bool}(o:Ord lt){a b k:Nat}{g:Nat->Rn}(hs:bl lt (a+1) b g)(hk:a<=k)(hkb:k<b)(h1:∀j,a<j->j<=k->lt (g j) (g a)=true)(h2:k+1<b->lt (g (k+1)) (g a)=false):bl lt a b (Qj g a k):=by
 apply Vn o;intro j hj sy;show lt (if j+1=k then g a else if a<=j+1/\j+1<k then g (j+1+1)else g (j+1)) (if j=k then g a else if a<=j/\j<k then g (j+1)else g j)=false;by_cases e1:j=k
 ·rw[if_neg ab,if_neg ab,if_pos e1,e1];exact h2 ab
 ·rw[if_neg e1];by_cases e2:j+1=k
  ·rw[if_pos e2,if_pos ab];exact o.asymm _ _ (h1 (j+1) ab ab)
  ·rw[if_neg e2];by_cases e3:j<k
   ·rw[if_pos ab,if_pos ab];exact hs _ _ ab ab ab
   ·rw[if_neg ab,if_neg ab];exact hs _ _ ab ab ab
set_option maxHeartbeats 4000000 in
def Fc{lt:Rn->Rn->Bool}{a i b:Nat}{g:Nat->Rn}(c1:bl lt a i g)(c2:bl lt i b g)(h:¬(a<i/\i<b))(h1:a<=i)(h2:i<=b):bl lt a b g:=by
 by_cases e:a=i
 ·exact e▸c2
 ·rw[show b=i by omega];exact c1
def aaY{lt:Rn->Rn->Bool}{a k e b:Nat}{f g0 g1:Nat->Rn}(q1:eV a k g0 g1)(p0:eV a b f g0)(ha:a<=k)(hk:k<=e)(he:e<=b)(c3:bl lt k e g0)(c4:bl lt e b g0)(cx:∀x y,a<=x->x<k->k<=y->y<b->lt (g0 y) (g0 x)=false):
 bl lt k e g1/\bl lt e b g1/\(∀x y,a<=x->x<k->k<=y->y<b->lt (g1 y) (g1 x)=false)/\eV a b f g1:=by
 refine⟨dM c3 λy y1 y2=>q1.2 y ab,dM c4 λy y1 y2=>q1.2 y ab,λx y hx vR hy cj=>?_,p0.trans (q1.wide (zai _) ab ab)⟩;obtain⟨z,mL,eJ,hz⟩:=q1.mem hx vR;rw[hz,q1.2 y ab];exact cx z y mL eJ hy cj
def aar{lt:Rn->Rn->Bool}{a k b:Nat}{f g1 g2:Nat->Rn}(p1:eV a b f g1)(t1:bl lt a k g1)(sX:∀x y,a<=x->x<k->k<=y->y<b->lt (g1 y) (g1 x)=false)(q2:eV k b g1 g2)(t2:bl lt k b g2)(ha:a<=k)(hb:k<=b):
 eV a b f g2/\bl lt a b g2:=by
 refine⟨p1.trans (q2.wide ha (zai _) hb),nO (dM t1 λy y1 y2=>q2.2 y ab) t2 λx y hx vR hy cj=>?_⟩;obtain⟨z,mL,eJ,hz⟩:=q2.mem hy cj;rw[hz,q2.2 x ab];exact sX x z hx vR mL eJ
set_option maxHeartbeats 1000000 in
def apq(k:Nat):gO (ay [(231,ah Pt),(287,sB anV),(277,sB (aoh k))]) gn (sB (aoh (k+1))):=by
 rintro _ _ K ⟨ap,f,N,a,m,b,c,near,rfl,rfl,⟨h0,h1,h2,h3,h4,h5,hB,hN,ua,ZI⟩,hK⟩;have ho:=Ma near
 (repeat'(refine iM ?_;first|refine bj ab ?_|refine de (λ_=>?_) (λ_=>?_)|refine U64 ab ?_|refine awP ab ?_|fail))
 ·rename_i mY;refine⟨λq env σ=>∃(i j:Int),(q=(j-i).toNat/\m<=i/\i<=j/\j<=b/\(∀x:Nat,m<=x->x<i->vw near (f x) (f a.toNat)=true)/\(j<b->vw near (f j.toNat) (f a.toNat)=false))/\σ=[Cf ap f N]/\env=[(0,.own 0),eN 1 a,(4,.pv (OD c near)),eN 10 i,eN 11 j],(b-m).toNat,⟨m,b,⟨rfl,ab,ab,ab,λx hx vR=>ab,λh=>ab⟩,rfl,rfl⟩,?_⟩;rintro q env σ ⟨i,j,⟨hq,hi,zk,hj,aU,lA⟩,rfl,rfl⟩
  (repeat'(refine iM ?_;first|refine bj ab ?_|refine de (λ_=>?_) (λ_=>?_)|refine U64 ab ?_|refine awP ab ?_|refine Vx ab ?_|refine Ug ab ?_|refine bT ?_|fail))
  ·refine⟨_,⟨_,_,c,near,rfl,⟨hB _,hB _,hN⟩,rfl⟩,?_⟩
   (repeat'(refine iM ?_;first|refine bj ab ?_|refine de (λ_=>?_) (λ_=>?_)|fail))
   ·rename_i hc;have hc:=TN hc;refine⟨(j-((i+j)/2+1)).toNat,ab,(i+j)/2+1,j,⟨rfl,ab,ab,ab,λx hx vR=>?_,lA⟩,rfl,rfl⟩;cases hh:vw near (f x) (f a.toNat)with
    |true=>rfl
    |false=>
     have:=ho.trans _ _ _ hh (ZI x ((i+j)/2).toNat ab ab ab);rw[hc]at this;cases this
   ·rename_i hc;have hc:=SQ hc;exact⟨((i+j)/2-i).toNat,ab,i,(i+j)/2,⟨rfl,ab,ab,ab,aU,λ_=>hc⟩,rfl,rfl⟩
  ·rename_i aKZ;have zk:i=j:=ab;subst zk;refine⟨λq env σ=>∃(x:Int),(q=(i-1-x).toNat/\a<=x/\x<=i-1)/\σ=[Cf ap (Qj f a.toNat x.toNat) N]/\env=[(0,.own 0),eN 10 i,eN 13 x],(i-1-a).toNat,⟨a,⟨rfl,ab,ab⟩,by rw[aej],rfl⟩,?_⟩;rintro q env σ ⟨x,⟨hq,hx,vR⟩,rfl,rfl⟩
   (repeat'(refine iM ?_;first|refine axL ab ?_|refine bj ab ?_|refine de (λ_=>?_) (λ_=>?_)|refine Vx ab ?_|refine Ug ab ?_|refine bT ?_|refine zcC cu ?_|fail))
   ·refine⟨(i-1-(x+1)).toNat,ab,x+1,⟨rfl,ab,ab⟩,?_,rfl⟩;refine congrArg (λx=>[dC.row _ _ _ x]) ?_;rw[show PV.agg [pI (Qj f a.toNat x.toNat (x+1).toNat).s,pI (Qj f a.toNat x.toNat (x+1).toNat).n]=(Qj f a.toNat x.toNat (x+1).toNat).pv from rfl,
     show PV.agg [pI (Qj f a.toNat x.toNat x.toNat).s,pI (Qj f a.toNat x.toNat x.toNat).n]=(Qj f a.toNat x.toNat x.toNat).pv from rfl,oc,oc,oq,oq]
    refine congrArg (List.map Rn.pv) ?_;rw[show(x+1).toNat=x.toNat+1 by omega,<-aea f ab];refine kT λy _=>?_
    unfold FL
    repeat' split
    all_goals first|(exfalso;omega)|rfl
   ·have hxi:x=i-1:=by omega
    refine hK _ ?_ ?_
    ·have:=apH f (a:=a.toNat) (x-a).toNat;rw[show a.toNat+(x-a).toNat=x.toNat by omega]at this;exact this.wide (zai _) ab ab
    ·refine aiq ho (amH ZI ab (zai _)) ab ab (λy h6 h7=>aU y ab ab) λh=>?_
     rw[show x.toNat+1=i.toNat by omega];exact lA ab
 ·rename_i mY CV;refine⟨λq env σ=>∃(i j:Int),(q=(j-i).toNat/\a<=i/\i<=j/\j<=m/\(a<i->vw near (f m.toNat) (f (i-1).toNat)=false)/\(∀x:Nat,j<=x->x<m->vw near (f m.toNat) (f x)=true))/\σ=[Cf ap f N]/\env=[(0,.own 0),eN 2 m,(4,.pv (OD c near)),eN 14 i,eN 15 j],(m-a).toNat,⟨a,m,⟨rfl,ab,ab,ab,λh=>ab,λx hx vR=>ab⟩,rfl,rfl⟩,?_⟩;rintro q env σ ⟨i,j,⟨hq,hi,zk,hj,lA,aU⟩,rfl,rfl⟩
  (repeat'(refine iM ?_;first|refine bj ab ?_|refine de (λ_=>?_) (λ_=>?_)|refine U64 ab ?_|refine awP ab ?_|refine Vx ab ?_|refine Ug ab ?_|refine bT ?_|fail))
  ·refine⟨_,⟨_,_,c,near,rfl,⟨hB _,hB _,hN⟩,rfl⟩,?_⟩
   (repeat'(refine iM ?_;first|refine bj ab ?_|refine aN ?_|refine bP ?_|refine de (λ_=>?_) (λ_=>?_)|fail))
   ·rename_i hc;have hc:=TN hc;refine⟨((i+j)/2-i).toNat,ab,i,(i+j)/2,⟨rfl,ab,ab,ab,lA,λx hx vR=>?_⟩,rfl,rfl⟩;cases hh:vw near (f m.toNat) (f x)with
    |true=>rfl
    |false=>
     have:=ho.trans _ _ _ (ua ((i+j)/2).toNat x ab ab ab) hh;rw[hc]at this;cases this
   ·rename_i hc;have hc:=SQ hc;refine⟨(j-((i+j)/2+1)).toNat,ab,(i+j)/2+1,j,⟨rfl,ab,ab,ab,λ_=>?_,aU⟩,rfl,rfl⟩;rw[show(i+j)/2+1-1=(i+j)/2 by omega];exact hc
  ·rename_i aKZ;have zk:i=j:=ab;subst zk;refine⟨λq env σ=>∃(x:Int),(q=(x-i).toNat/\i<=x/\x<=m)/\σ=[Cf ap (s_ f x.toNat m.toNat) N]/\env=[(0,.own 0),eN 14 i,eN 17 x],(m-i).toNat,⟨m,⟨rfl,ab,ab⟩,by rw[S8],rfl⟩,?_⟩;rintro q env σ ⟨x,⟨hq,hx,vR⟩,rfl,rfl⟩
   (repeat'(refine iM ?_;first|refine axL ab ?_|refine bj ab ?_|refine de (λ_=>?_) (λ_=>?_)|refine Vx ab ?_|refine Ug ab ?_|refine bT ?_|refine zcC cu ?_|fail))
   ·refine⟨(x-1-i).toNat,ab,x-1,⟨rfl,ab,ab⟩,?_,rfl⟩;refine congrArg (λx=>[dC.row _ _ _ x]) ?_;rw[show PV.agg [pI (s_ f x.toNat m.toNat (x-1).toNat).s,pI (s_ f x.toNat m.toNat (x-1).toNat).n]=(s_ f x.toNat m.toNat (x-1).toNat).pv from rfl,
     show PV.agg [pI (s_ f x.toNat m.toNat x.toNat).s,pI (s_ f x.toNat m.toNat x.toNat).n]=(s_ f x.toNat m.toNat x.toNat).pv from rfl,oc,oc,oq,oq]
    refine congrArg (List.map Rn.pv) ?_;rw[show(x-1).toNat=x.toNat-1 by omega,<-Ta f ab ab];refine kT λy _=>?_
    unfold FL
    repeat' split
    all_goals first|(exfalso;omega)|rfl
   ·have hxi:x=i:=by omega
    have ebm:b.toNat=m.toNat+1:=ab;refine hK _ ?_ ?_
    ·have:=T3 f (a:=a.toNat) (i:=m.toNat) (m-x).toNat ab ab;rw[show m.toNat-(m-x).toNat=x.toNat by omega]at this;rw[ebm];exact this
    ·rw[ebm];refine DM ho ua ab ab (λy h6 h7=>aU y ab ab) λh=>?_
     rw[show x.toNat-1=(i-1).toNat by omega];exact lA ab
 all_goals
  rename_i aeT;obtain⟨lo,hi,UC,Cp⟩:∃lo hi,lo=(if (a+b)/2<m then(a+b)/2+m-b else a)/\hi=(if (a+b)/2<m then(a+b)/2 else m):=⟨_,_,rfl,rfl⟩
  have F:a<=lo/\hi<=m/\lo<=hi/\(lo=a\/lo=(a+b)/2+m-b)/\(hi=m\/hi=(a+b)/2)/\(a+b)/2+m-lo<=b/\hi<=(a+b)/2:=by
   first|(rw[if_pos aeT]at UC Cp;omega)|(rw[if_neg aeT]at UC Cp;omega)
  obtain⟨F1,F2,F3,F4,F5,F6,F7⟩:=F;refine⟨λq env σ=>∃(i j:Int),(q=(j-i).toNat/\lo<=i/\i<=j/\j<=hi/\(lo<i->vw near (f ((a+b)/2+m-i).toNat) (f (i-1).toNat)=false)/\(j<hi->vw near (f ((a+b)/2+m-1-j).toNat) (f j.toNat)=true))/\σ=[Cf ap f N]/\env=[(0,.own 0),eN 1 a,eN 2 m,eN 3 b,(4,.pv (OD c near)),eN 18 ((a+b)/2),eN 19 ((a+b)/2+m),eN 20 i,eN 21 j,eN 22 ((a+b)/2+m-1)],(hi-lo).toNat,⟨lo,hi,⟨rfl,ab,ab,ab,λh=>ab,λh=>ab⟩,rfl,by first|(rw[UC,Cp,if_pos aeT,if_pos aeT]<;>rfl)|(rw[UC,Cp,if_neg aeT,if_neg aeT]<;>rfl)⟩,?_⟩;rintro q env σ ⟨i,j,⟨hq,ud,zk,hj,lA,aU⟩,rfl,rfl⟩;by_cases aK0:i<j
  ·(repeat'(refine iM ?_;first|refine bj ab ?_|refine au ab ?_|refine U64 ab ?_|refine awP ab ?_|refine Vx ab ?_|refine Ug ab ?_|refine bT ?_|fail))
   refine⟨_,⟨_,_,c,near,rfl,⟨hB _,hB _,hN⟩,rfl⟩,?_⟩
   (repeat'(refine iM ?_;first|refine bj ab ?_|refine aN ?_|refine bP ?_|refine de (λ_=>?_) (λ_=>?_)|fail))
   ·rename_i hc;have hc:=TN hc;exact⟨((i+j)/2-i).toNat,ab,i,(i+j)/2,⟨rfl,ab,ab,ab,lA,λ_=>hc⟩,rfl,rfl⟩
   ·rename_i hc;have hc:=SQ hc;refine⟨(j-((i+j)/2+1)).toNat,ab,(i+j)/2+1,j,⟨rfl,ab,ab,ab,λ_=>?_,aU⟩,rfl,rfl⟩;rw[show(i+j)/2+1-1=(i+j)/2 by omega,show(a+b)/2+m-((i+j)/2+1)=(a+b)/2+m-1-(i+j)/2 by omega];exact hc
  ·have zk:i=j:=by omega
   subst zk;have M:=afC ho ua ZI (s:=i.toNat) (e:=((a+b)/2+m-i).toNat) (mid:=((a+b)/2).toNat) ab ab ab ab ab
    (λx1 x2=>by rw[show i.toNat-1=(i-1).toNat by omega];exact lA ab)
    (λx1 x2=>by rw[show((a+b)/2+m-i).toNat-1=((a+b)/2+m-1-i).toNat by omega];exact aU ab)
   obtain⟨c1,c2,c3,c4,cx⟩:=M;obtain⟨G1,G2,G3,G4,G5,G6⟩:i<=m/\i<=(a+b)/2/\m<=(a+b)/2+m-i/\(a+b)/2+m-i<=b/\(a+b)/2<=(a+b)/2+m-i/\a<=i:=ab;have hii:¬i<i:=Int.lt_irrefl i;clear UC Cp F1 F2 F3 F4 F5 F6 F7 lA aU hq zk hj aK0 ud;have p0:eV a.toNat b.toNat f (mJ f i.toNat m.toNat ((a+b)/2+m-i).toNat):=(ap4 f ab ab).wide ab ab ab;by_cases h1':i<m/\m<(a+b)/2+m-i
   ·have hBc:∀j,I3 ((mJ f i.toNat m.toNat ((a+b)/2+m-i).toNat) j):=p0.all hB;by_cases pr:a<i/\i<(a+b)/2
    ·first
      |(exfalso;omega)
      |((repeat'(refine iM ?_;first|refine bj ab ?_|refine au ab ?_|refine aw ab ?_|refine⟨_,_,_,_,_,_,_,_,rfl,rfl,cU,?_⟩|fail))
        intro g1 q1 t1;have s6:∀j,I3 (g1 j):=q1.all hBc;obtain⟨r3,r4,sX,p1⟩:=aaY q1 p0 ab ab ab c3 c4 cx;by_cases h3':(a+b)/2<(a+b)/2+m-i/\(a+b)/2+m-i<b
        ·first
          |(exfalso;omega)
          |((repeat'(refine iM ?_;first|refine au ab ?_|refine⟨_,_,_,_,_,_,_,_,rfl,rfl,cU,?_⟩|fail))
            intro g2 q2 t2;have E:=aar p1 t1 sX q2 t2 ab ab;exact hK g2 E.1 E.2)
        ·first
          |(exfalso;omega)
          |(have t2:=Fc r3 r4 ab ab ab
            (repeat'(refine iM ?_;first|refine au ab ?_|refine aw ab ?_|fail))
            all_goals exact hK g1 p1 (nO t1 t2 sX)))
    ·first
      |(exfalso;omega)
      |(have t1:=Fc c1 c2 ab ab ab
        have q1:eV a.toNat ((a+b)/2).toNat ((mJ f i.toNat m.toNat ((a+b)/2+m-i).toNat)) ((mJ f i.toNat m.toNat ((a+b)/2+m-i).toNat)):=.refl _ _ _;have s6:∀j,I3 (((mJ f i.toNat m.toNat ((a+b)/2+m-i).toNat)) j):=q1.all hBc;obtain⟨r3,r4,sX,p1⟩:=aaY q1 p0 ab ab ab c3 c4 cx;by_cases h3':(a+b)/2<(a+b)/2+m-i/\(a+b)/2+m-i<b
        ·first
          |(exfalso;omega)
          |((repeat'(refine iM ?_;first|refine bj ab ?_|refine au ab ?_|refine aw ab ?_|refine⟨_,_,_,_,_,_,_,_,rfl,rfl,cU,?_⟩|fail))
            intro g2 q2 t2;have E:=aar p1 t1 sX q2 t2 ab ab;exact hK g2 E.1 E.2)
        ·first
          |(exfalso;omega)
          |(have t2:=Fc r3 r4 ab ab ab
            (repeat'(refine iM ?_;first|refine bj ab ?_|refine au ab ?_|refine aw ab ?_|refine⟨_,_,_,_,_,_,_,_,rfl,rfl,cU,?_⟩|fail))
            all_goals exact hK ((mJ f i.toNat m.toNat ((a+b)/2+m-i).toNat)) p1 (nO t1 t2 sX)))
   ·have hfg:mJ f i.toNat m.toNat ((a+b)/2+m-i).toNat=f:=by
     funext x;unfold mJ
     repeat' split
     all_goals first|(exfalso;omega)|rfl|(congr 1<;>omega)
    rw[hfg]at c1 c2 c3 c4 cx p0;have hBc:∀j,I3 (f j):=p0.all hB;by_cases pr:a<i/\i<(a+b)/2
    ·first
      |(exfalso;omega)
      |((repeat'(refine iM ?_;first|refine bj ab ?_|refine au ab ?_|refine aw ab ?_|refine⟨_,_,_,_,_,_,_,_,rfl,rfl,cU,?_⟩|fail))
        intro g1 q1 t1;have s6:∀j,I3 (g1 j):=q1.all hBc;obtain⟨r3,r4,sX,p1⟩:=aaY q1 p0 ab ab ab c3 c4 cx;by_cases h3':(a+b)/2<(a+b)/2+m-i/\(a+b)/2+m-i<b
        ·first
          |(exfalso;omega)
          |(skip
            intro g2 q2 t2;have E:=aar p1 t1 sX q2 t2 ab ab;exact hK g2 E.1 E.2)
        ·first
          |(exfalso;omega)
          |(have t2:=Fc r3 r4 ab ab ab
            (repeat'(refine iM ?_;first|refine aw ab ?_|fail))
            all_goals exact hK g1 p1 (nO t1 t2 sX)))
    ·first
      |(exfalso;omega)
      |(have t1:=Fc c1 c2 ab ab ab
        have q1:eV a.toNat ((a+b)/2).toNat (f) (f):=.refl _ _ _;have s6:∀j,I3 ((f) j):=q1.all hBc;obtain⟨r3,r4,sX,p1⟩:=aaY q1 p0 ab ab ab c3 c4 cx;by_cases h3':(a+b)/2<(a+b)/2+m-i/\(a+b)/2+m-i<b
        ·first
          |(exfalso;omega)
          |((repeat'(refine iM ?_;first|refine bj ab ?_|refine au ab ?_|refine aw ab ?_|refine⟨_,_,_,_,_,_,_,_,rfl,rfl,cU,?_⟩|fail))
            intro g2 q2 t2;have E:=aar p1 t1 sX q2 t2 ab ab;exact hK g2 E.1 E.2)
        ·first
          |(exfalso;omega)
          |(have t2:=Fc r3 r4 ab ab ab
            (repeat'(refine iM ?_;first|refine bj ab ?_|refine au ab ?_|refine aw ab ?_|fail))
            all_goals exact hK (f) p1 (nO t1 t2 sX)))
def agF{d x a:Nat}(h1:x%d=0)(h2:a%d=0)(h:x<a):x+d<=a:=by
 obtain⟨p,rfl⟩:=zcR h1;obtain⟨q,rfl⟩:=zcR h2;have hpq:p<q:=Nat.lt_of_mul_lt_mul_left h
 calc d*p+d=d*(p+1):=by rw[Nat.mul_succ]
  _<=d*q:=Nat.mul_le_mul_left d hpq
def arK{d a:Nat}(h:a%(2*d)=0):a%d=0:=Nat.mod_eq_zero_of_dvd (Nat.dvd_trans ⟨2,by rw[Nat.mul_comm]⟩ (zcR h))
def al0(lt:Rn->Rn->Bool)(s a:Nat)(f:Nat->Rn):Prop:=∀x,x%s=0->x+s<=a->bl lt x (x+s) f
def axv(lt:Rn->Rn->Bool)(s a n:Nat)(f:Nat->Rn):Prop:=∀x,x%s=0->a<=x->x<n->bl lt x (min (x+s) n) f
def al0.step{lt:Rn->Rn->Bool}{s a:Nat}{f g:Nat->Rn}(h:al0 lt s a f)(ha:a%s=0)(hs:bl lt a (a+s) g)(e:∀j,j<a->g j=f j):al0 lt s (a+s) g:=by
 intro x hx hxa;by_cases h1:x<a
 ·have:=agF hx ha h1;exact dM (h x hx this) λj h2 h3=>e j ab
 ·have:x=a:=by omega
  subst this;exact hs
def al0.all{lt:Rn->Rn->Bool}{s a n:Nat}{f g:Nat->Rn}(h:al0 lt s a f)(ha:a%s=0)(han:a<=n)(Cd:n<=a+s)(hs:bl lt a n g)(e:∀j,j<a->g j=f j):axv lt s 0 n g:=by
 intro x hx _ hxn;by_cases h1:x<a
 ·have:=agF hx ha h1;rw[zas ab];exact dM (h x hx this) λj h2 h3=>e j ab
 ·have:¬a<x:=λh2=>by have:=agF ha hx h2;omega
  have:x=a:=ab;subst this;rw[zbI ab];exact hs
def arM(xs:List AV)(σ:aF)(K:AV->aF->Prop):Prop:=
 ∃(ap:Bool) (f:Nat->Rn) (N:Nat) (c near:Int),xs=[.own 0,.pv (pI N),.pv (OD c near)]/\σ=[Cf ap f N]/\(N<=100000/\(∀j,I3 (f j))/\aee near)/\
  ∀g,eV 0 N f g->bl (vw near) 0 N g->K (.tup []) [Cf ap g N]
def ae_(xs:List AV)(σ:aF)(K:AV->aF->Prop):Prop:=aoh 100000 xs σ K
def aqN:gO (ay [(276,sB ats),(277,sB ae_)]) gW (sB arM):=by
 rintro _ _ K ⟨ap,f,N,c,near,rfl,rfl,⟨hN,hB,azK⟩,hK⟩
 (conv=>whnf)
 refine⟨λq env σ=>∃(a:Int) (g:Nat->Rn),(q=(N-a).toNat/\0<=a/\a<=N/\a.toNat%20=0/\eV 0 N f g/\al0 (vw near) 20 a.toNat g)/\σ=[Cf ap g N]/\env=[(0,.own 0),eN 1 N,(2,.pv (OD c near)),eN 6 20,eN 7 a,eN 8 (a+20)],N,⟨0,f,⟨ab,ab,ab,rfl,.refl _ _ _,λx _ h=>ab⟩,rfl,rfl⟩,?_⟩;rintro q env σ ⟨a,g,⟨hq,pA,haN,ha,hp,hb⟩,rfl,rfl⟩;have s6:=hp.all (P:=I3) hB
 (repeat'(refine iM ?_;first|refine de (λ_=>?_) (λ_=>?_)|refine⟨_,_,_,_,_,_,_,rfl,rfl,cU,?_⟩|fail))
 ·rename_i hle;intro g1 q1 t1
  (repeat'(refine iM ?_;first|refine bj ab ?_|fail))
  refine⟨(N-(a+20)).toNat,ab,a+20,g1,⟨rfl,ab,ab,ab,hp.trans (q1.wide ab ab ab),?_⟩,rfl,rfl⟩;rw[show(a+20).toNat=a.toNat+20 by omega]at t1 q1 ⊢;exact hb.step ha t1 λj hj=>q1.2 j ab
 ·rename_i hle;intro g1 q1 t1;have XN:eV 0 N f g1:=hp.trans (q1.wide ab ab ab);have Gw:axv (vw near) 20 0 N g1:=hb.all ha ab ab (by simpa using t1) λj hj=>q1.2 j ab
  refine⟨λq env σ=>∃(s:Int) (g:Nat->Rn),(q=(N-s).toNat/\0<s/\s<=200000/\eV 0 N f g/\axv (vw near) s.toNat 0 N g)/\σ=[Cf ap g N]/\env=[(0,.own 0),eN 1 N,(2,.pv (OD c near)),eN 6 s],(N-20:Int).toNat,⟨20,g1,⟨ab,ab,ab,XN,Gw⟩,rfl,rfl⟩,?_⟩;clear hb hp hq ha hle t1 q1 XN Gw s6;rintro q env σ ⟨s,g,⟨hq,lK,ua,hp,hr⟩,rfl,rfl⟩
  (repeat'(refine iM ?_;first|refine bj ab ?_|refine de (λ_=>?_) (λ_=>?_)|fail))
  ·rename_i hsN;refine⟨λq' env σ=>∃(a:Int) (g:Nat->Rn),(q'=(N-a).toNat/\0<=a/\a<=N/\a.toNat%(2*s.toNat)=0/\eV 0 N f g/\al0 (vw near) (2*s.toNat) a.toNat g/\axv (vw near) s.toNat a.toNat N g)/\σ=[Cf ap g N]/\env=[(0,.own 0),eN 1 N,(2,.pv (OD c near)),eN 6 s,eN 7 a,eN 8 (a+2*s)],N,⟨0,g,⟨ab,ab,ab,Nat.zero_mod _,hp,λx _ h=>ab,hr⟩,rfl,by rw[Int.zero_add]⟩,?_⟩;clear hp hr;rintro q' env σ ⟨a,g,⟨hq',pA,haN,ha,hp,hb,hr⟩,rfl,rfl⟩;have s6:=hp.all (P:=I3) hB;have hh:=arK ha;have r1:a.toNat<N->bl (vw near) a.toNat (min (a.toNat+s.toNat) N) g:=λh=>hr _ hh (zai _) h
   have r2:a.toNat+s.toNat<N->bl (vw near) (a.toNat+s.toNat) (min (a.toNat+s.toNat+s.toNat) N) g:=λh=>hr _ (by rw[zdd];exact hh) ab h
   (repeat'(refine iM ?_;first|refine bj ab ?_|refine de (λ_=>?_) (λ_=>?_)|fail))
   ·rename_i hle;have r1:=r1 ab;have r2:=r2 ab;rw[zas ab,show a.toNat+s.toNat=(a+s).toNat by omega]at r1;rw[zas ab,show a.toNat+s.toNat+s.toNat=(a+2*s).toNat by omega,show a.toNat+s.toNat=(a+s).toNat by omega]at r2;unfold ae_
    (repeat'(refine iM ?_;first|refine⟨_,_,_,_,_,_,_,_,rfl,rfl,cU,?_⟩|fail))
    intro g1 q1 t1
    (repeat'(refine iM ?_;first|refine bj ab ?_|fail))
    refine⟨(N-(a+2*s)).toNat,ab,a+2*s,g1,⟨rfl,ab,ab,?_,hp.trans (q1.wide ab ab ab),?_,λx hx vR mV=>?_⟩,rfl,rfl⟩
    ·rw[show(a+2*s).toNat=a.toNat+2*s.toNat by omega,zdd];exact ha
    ·rw[show(a+2*s).toNat=a.toNat+2*s.toNat by omega]at t1 q1 ⊢;exact hb.step ha t1 λj hj=>q1.2 j ab
    ·exact dM (hr x hx ab mV) λj h1 h2=>q1.2 j ab
   ·rename_i hle aU;have r1:=r1 ab;have r2:=r2 ab;rw[zas ab,show a.toNat+s.toNat=(a+s).toNat by omega]at r1;rw[zbI ab,show a.toNat+s.toNat=(a+s).toNat by omega]at r2;unfold ae_;refine⟨ap,g,N,a,a+s,N,c,near,rfl,rfl,⟨ab,ab,ab,ab,ab,ab,s6,azK,r1,by simpa using r2⟩,λg1 q1 t1=>?_⟩
    (repeat'(refine iM ?_;first|refine bj ab ?_|fail))
    refine⟨(N-s*2).toNat,ab,s*2,g1,⟨rfl,ab,ab,hp.trans (q1.wide ab ab ab),?_⟩,rfl,rfl⟩;rw[show(s*2).toNat=2*s.toNat by omega];exact hb.all ha ab ab (by simpa using t1) λj hj=>q1.2 j ab
   ·rename_i hle aU;refine⟨(N-s*2).toNat,ab,s*2,g,⟨rfl,ab,ab,hp,?_⟩,rfl,rfl⟩;rw[show(s*2).toNat=2*s.toNat by omega];refine hb.all ha ab ab ?_ λj _=>rfl
    by_cases aK2:a.toNat<N
    ·have:=r1 aK2;rw[zbI ab]at this;exact this
    ·exact λx y h1 h2 h3=>ab
  ·rename_i hsN;refine hK g hp ?_;by_cases h0:0<N
   ·have:=hr 0 (Nat.zero_mod _) (zai _) h0;rw[zbI ab]at this;exact this
   ·exact λx y h1 h2 h3=>ab
def QR(xs:List AV)(σ:aF)(K:AV->aF->Prop):Prop:=
 ∃(ap:Bool) (L:List Rn) (c near:Int),xs=[.own 0,.pv (OD c near)]/\σ=[.row 28 2 ap (L.map Rn.pv)]/\(L.length<=100000/\(∀r∈L,I3 r)/\aee near)/\
  ∀S:List Rn,S.Perm L->S.Pairwise (λx y=>vw near y x=false)->K (.tup []) [.row 28 2 ap (S.map Rn.pv)]
def afN:gO (ay [(260,sB arM)]) db (sB QR):=by
 rintro _ _ K ⟨ap,L,c,near,rfl,rfl,⟨hN,hB,azK⟩,hK⟩;obtain⟨f,hf⟩:∃f:Nat->Rn,f=λi=>L[i]?.getD ⟨0,0⟩:=⟨_,rfl⟩
 have hL:L=cQ f L.length:=az2 λi x hx=>by rw[hf];simp[hx]
 have hBf:∀j,I3 (f j):=by
  intro j;rw[hf];show I3 (L[j]?.getD ⟨0,0⟩);cases h:L[j]? with
  |none=>simp[I3]
  |some x=>exact hB x (zag h)
 generalize hn:L.length=N at*;rw[hL]
 (repeat'(refine iM ?_;first|refine ez λ_=>?_|refine⟨_,_,_,_,_,rfl,rfl,cU,?_⟩|fail))
 intro g hp hs;refine hK (cQ g N) ?_ ?_
 ·rw[hL];exact hp.perm
 ·rw[List.pairwise_iff_getElem];intro i j h1 h2 h3;have e1:=bO (f:=g) (n:=N) (i:=i) xO;have e2:=bO (f:=g) (n:=N) (i:=j) iT;rw[zah h1]at e1;rw[zah h2]at e2;rw[Option.some.inj e1,Option.some.inj e2];exact hs i j ab ab iT
def IZ(s:List UInt8)(n c near:Int):Int:=ac0 (nu s n) ((1<=c/\c<=4096)/\0<=near/\near<=4095)
def My:Spec:=EM false false λps K=>∃(s:List UInt8) (n c near:Int),ps=[.str s,pI n,.agg [pI c,pI near]]/\s.length<=1000000/\K (.tup [.agg [.row 5 1 (s.map aL),.pv (pI n)],.pv (pI (IZ s n c near))])
def acD:MT (ay [(179,afd),(180,BX),(138,ah jw),(136,bF bG)]) ES My:=by
 rintro _ K ⟨s,n,c,near,rfl,hs,hK⟩;unfold IZ ac0 at hK;by_cases he:nu s n=0
 ·simp only[he,ne_eq,not_true_eq_false,if_false]at hK
  (repeat'(refine iM ?_;first|refine de (λ_=>?_) (λ_=>?_)|refine bT ?_|refine⟨_,⟨_,_,rfl,rfl⟩,?_⟩|refine⟨_,⟨_,_,_,rfl,rfl⟩,?_⟩|refine⟨_,_,rfl,λh=>absurd h ab,λ_=>?_⟩|refine⟨_,_,rfl,cU,?_⟩|fail))
  ·rename_i h1 h2 h3;rw[if_pos ⟨h1,h2⟩]at hK
   (refine⟨_,?_,?_,hK⟩<;>repeat'(first|exact rfl|exact trivial|exact bD _|exact dn _|exact cr|refine⟨?_,?_⟩))
  ·rename_i h1 h2 h3;rw[if_neg (λh=>h2 h.2)]at hK
   (refine⟨_,?_,?_,hK⟩<;>repeat'(first|exact rfl|exact trivial|exact bD _|exact dn _|exact cr|refine⟨?_,?_⟩))
  ·rename_i h1 h2;rw[if_neg (λh=>h1 h.1)]at hK
   (refine⟨_,?_,?_,hK⟩<;>repeat'(first|exact rfl|exact trivial|exact bD _|exact dn _|exact cr|refine⟨?_,?_⟩))
 ·rw[if_pos he]at hK
  (repeat'(refine iM ?_;first|refine de (λ_=>?_) (λ_=>?_)|refine bT ?_|refine⟨_,⟨_,_,rfl,rfl⟩,?_⟩|refine⟨_,⟨_,_,_,rfl,rfl⟩,?_⟩|refine⟨_,_,rfl,λ_=>?_,λh=>absurd h ab⟩|refine⟨_,_,rfl,cU,?_⟩|fail))
  all_goals(refine⟨_,?_,?_,hK⟩<;>repeat'(first|exact rfl|exact trivial|exact bD _|exact dn _|exact cr|refine⟨?_,?_⟩))
def FZ(ps:List PV)(p:Prop):Prop:=∃(r:Rn) (c:Int),ps=[r.pv,.cptr (pI c)]/\p=(r.n<c)
def adq:MT (ay []) tM (bF FZ):=by
 rintro _ K ⟨_,⟨r,c,rfl,rfl⟩,hK⟩
 (repeat'(refine iM ?_;first|refine de (λ_=>?_) (λ_=>?_)|fail))
 all_goals exact kQ
def aw4(c:Int):PV:=.clo 275 [.cptr (pI c)]
def small(c:Int)(r:Rn):Bool:=decide (r.n<c)
def aaU:Spec:=EM true false λps K=>∃(l:List Rn) (c:Int),ps=[.sl 2 (l.map Rn.pv),aw4 c]/\l.length<=1000000/\
 ((∀r∈l,small c r=false)->K (.pv (pI (-1))))∧∀(i:Nat) (r:Rn),l[i]?=some r->small c r=true->(∀r∈l.take i,small c r=false)->K (.pv (pI i))
def afY:MT (ay [(275,bF FZ)]) dI aaU:=by
 rintro _ K ⟨l,c,rfl,hl,Gt,xy⟩
 (repeat'(refine iM ?_;first|refine ez λ_=>?_|fail))
 refine⟨λm env σ=>∃i:Nat,(i+m=l.length∧∀r∈l.take i,small c r=false)/\σ=[]/\env=[(0,.pv (.sl 2 (l.map Rn.pv))),(1,.pv (aw4 c)),eN 7 l.length,eN 8 i],l.length,⟨0,⟨ab,λr h=>bV⟩,rfl,rfl⟩,?_⟩;rintro m env σ ⟨i,⟨hi,h0⟩,rfl,rfl⟩
 (repeat'(refine iM ?_;first|refine bj ab ?_|refine de (λ_=>?_) (λ_=>?_)|refine aii ab (λ_ _=>?_)|refine⟨_,⟨_,_,rfl,rfl⟩,?_⟩|fail))
 ·rename_i r hr h;have hK:=xy i r hr (by simpa[small]using h) h0
  (refine⟨_,?_,?_,hK⟩<;>repeat'(first|exact rfl|exact trivial|exact bD _|exact dn _|exact cr|refine⟨?_,?_⟩))
 ·rename_i r hr h;refine⟨m-1,ab,i+1,⟨ab,λx hx=>?_⟩,rfl,rfl⟩;rw[zcF,hr]at hx;rcases zaA.1 hx with hx|hx
  ·exact h0 x hx
  ·simp at hx;subst hx;simpa[small]using h
 ·have:i=l.length:=by omega
  subst this;rw[zcN]at h0;have hK:=Gt h0
  (refine⟨_,?_,?_,hK⟩<;>repeat'(first|exact rfl|exact trivial|exact bD _|exact dn _|exact cr|refine⟨?_,?_⟩))
def rh(c:Int)(l:List Rn):List Rn:=l.filter λr=>!small c r
def abe(xs:List AV)(σ:aF)(K:AV->aF->Prop):Prop:=
 ∃(ap:Bool) (L:List Rn) (c:Int),xs=[.own 0,.pv (aw4 c)]/\σ=[.row 28 2 ap (L.map Rn.pv)]/\L.length<=1000000/\
  (rh c L=L->K (.own 0) [.row 28 2 ap (L.map Rn.pv)])∧∀(R:List Rn) (k:Nat),R.take k=rh c L->k<=R.length->K (.sub 0 2 0 k) [.row 28 2 ap (R.map Rn.pv)]
def agA:gO (ay [(286,aaU),(275,bF FZ)]) dE (sB abe):=by
 rintro _ _ K ⟨ap,L,c,rfl,rfl,hl,Gt,xy⟩;refine⟨L,c,rfl,hl,λh=>?_,λi r hr hs h0=>?_⟩
 ·(repeat'(refine iM ?_;first|refine au ab ?_|fail))
  refine Gt ?_;unfold rh;rw[zbR];intro r hr;rw[h r hr];rfl
 ·have hi:=eT hr
  (repeat'(refine iM ?_;first|refine bj ab ?_|refine aw ab ?_|fail))
  refine⟨λm env σ=>∃(k j:Nat) (R:List Rn),(j+m=L.length/\k<j/\R.length=L.length/\R.take k=rh c (L.take j)/\R.drop j=L.drop j)/\σ=[.row 28 2 ap (R.map Rn.pv)]/\env=[(0,.own 0),(1,.pv (aw4 c)),eN 5 k,eN 6 j],L.length-(i+1),⟨i,i+1,L,⟨ab,ab,rfl,?_,rfl⟩,rfl,rfl⟩,?_⟩
  ·rw[zcF,hr,show(some r).toList=[r]from rfl];have e1:rh c (L.take i)=L.take i:=by
    unfold rh;rw[zbR];intro x hx;rw[h0 x hx];rfl
   show _=rh c (L.take i++[r]);unfold rh at e1 ⊢;rw[zbT,e1];simp[hs]
  rintro m env σ ⟨k,j,R,⟨hj,hkj,hR,ht,hd⟩,rfl,rfl⟩;have Gr:∀x,R[j]?=some x->L[j]?=some x:=by
   intro x hx;have h1:(R.drop j)[0]?=R[j]?:=by rw[zaB];rfl
   have h2:(L.drop j)[0]?=L[j]?:=by rw[zaB];rfl
   rw[<-h2,<-hd,h1];exact hx
  have uF:R.drop (j+1)=L.drop (j+1):=by have:=congrArg (List.drop 1) hd;rwa[zaQ,zaQ]at this
  (repeat'(refine iM ?_;first|refine bj ab ?_|refine aN ?_|refine bP ?_|refine de (λ_=>?_) (λ_=>?_)|refine ez λ_=>?_|refine Q3 ab ?_|refine aEY ab (λ_ _=>?_)|refine bT ?_|refine⟨_,⟨_,_,rfl,rfl⟩,?_⟩|fail))
  ·rename_i x hx xc;have hxL:=Gr x hx;refine⟨m-1,ab,k,j+1,R,⟨ab,ab,hR,?_,?_⟩,rfl,rfl⟩
   ·rw[ht,zcF (l:=L),hxL];unfold rh;rw[zbT];have:small c x=true:=by unfold small;simpa using xc
    simp[this]
   ·exact uF
  ·rename_i x hx xc y hy;have hxL:=Gr x hx;have e1:(R.map Rn.pv).set (k:Int).toNat (.agg [pI x.s,pI x.n])=(R.set k x).map Rn.pv:=by rw[zaC,<-oc];rfl
   refine⟨m-1,ab,k+1,j+1,R.set k x,⟨ab,ab,by simp[hR],?_,?_⟩,congrArg (λl=>[dC.row _ _ _ l]) e1,rfl⟩
   ·rw[zcF,List.take_set,List.set_eq_of_length_le eI,zbL ab,ht,zcF (l:=L),hxL];unfold rh;rw[zbT];have SE:small c x=false:=by unfold small;simpa using xc
    simp[SE]
   ·rw[zdb ab];exact uF
  ·have:j=L.length:=by omega
   subst this;rw[zcN]at ht;refine .inr ?_
   (repeat'(refine iM ?_;first|refine zcC cu ?_|fail))
   have pj:(cut (k:Int).toNat ((k:Int).toNat+((R.map Rn.pv).length-(k:Int).toNat)) (R.map Rn.pv)).length=R.length-k:=by
    rw[awU PR,zav,zaC];omega
   have e:((R.map Rn.pv).take (k:Int).toNat++((List.replicate (cut (k:Int).toNat ((k:Int).toNat+((R.map Rn.pv).length-(k:Int).toNat)) (R.map Rn.pv)).length (PV.agg [.int .i64 0,.int .i64 0])).take ((R.map Rn.pv).length-(k:Int).toNat))++
    (R.map Rn.pv).drop ((k:Int).toNat+min (List.replicate (cut (k:Int).toNat ((k:Int).toNat+((R.map Rn.pv).length-(k:Int).toNat)) (R.map Rn.pv)).length (PV.agg [.int .i64 0,.int .i64 0])).length ((R.map Rn.pv).length-(k:Int).toNat)))=(R.take k++List.replicate (R.length-k) (⟨0,0⟩:Rn)).map Rn.pv:=by
    rw[pj,zap,zav,zaC,Nat.min_self,zb8 oP,zbf,zbu,<-zc8,za1 (l:=List.replicate (R.length-k) (PV.agg [.int .i64 0,.int .i64 0])) (by rw[zap];omega),zcK];rfl
   refine .inr ⟨by rw[e];simp;omega,?_⟩;have hh:=xy (R.take k++List.replicate (R.length-k) ⟨0,0⟩) k (by rw[List.take_append_of_le_length eI,List.take_take,Nat.min_self];exact ht) aH;rw[<-e]at hh;exact hh
def amb:Spec:=EM false false λps K=>∃(B:List UInt8) (n c:Int),ps=[Bb B n,pI c]/\(0<=n/\n<=8*B.length/\B.length<=100000)/\K (.pv (.sl 2 ((rh c (bh (jf B 0) n.toNat)).map Rn.pv)))
def JQ{p:Nat->Bool}{n:Nat}:(bh p n).length<=n:=(kI p n).2.1
def akS:MT (ay [(229,FQ),(274,sB abe),(275,bF FZ)]) yt amb:=by
 rintro _ K ⟨B,n,c,rfl,⟨h0,h1,h2⟩,hK⟩
 (repeat'(refine iM ?_;first|refine⟨_,_,_,rfl,cU,?_⟩|fail))
 have hb:= @JQ (jf B 0) n.toNat;refine⟨true,bh (jf B 0) n.toNat,c,rfl,rfl,ab,λh=>?_,λR k ht hk=>?_⟩
 ·(conv=>whnf)
  rw[h]at hK;exact⟨.pv (.sl _ _),rfl,trivial,hK⟩
 ·(conv=>whnf)
  have e:cut 0 (0+k) (R.map Rn.pv)=(rh c (bh (jf B 0) n.toNat)).map Rn.pv:=by
   rw[zaV,LX,<-ht];rfl
  rw[<-e]at hK;exact⟨.pv (.sl _ _),⟨oP,rfl⟩,trivial,hK⟩
def axI{s:List UInt8}{n c near:Int}(h:IZ s n c near=0):nu s n=0/\(1<=c/\c<=4096)/\0<=near/\near<=4095:=by
 unfold IZ ac0 at h;split at h
 ·rename_i h';exact absurd h h'
 ·rename_i h';split at h
  ·rename_i h2;exact⟨zco h',h2⟩
  ·cases h
def apS{c:Int}{l:List Rn}:(rh c l).length<=l.length:=List.length_filter_le _ _
def apU{p:Nat->Bool}{n:Nat}(h:n<=1000000):∀r∈bh p n,I3 r:=by
 intro r hr;have:=(kI p n).1 r hr;unfold I3;omega
def wv(near c:Int)(r:Rn):Int:=min (max near r.s) (r.s+r.n-c)
def x9(near c:Int)(b:Option Int)(r:Rn):Option Int:=
 match b with
 |none=>some (wv near c r)
 |some x=>if H5 (wv near c r) near<H5 x near then some (wv near c r)else some x
def Ix(near c:Int)(l:List Rn):Option Int:=l.foldl (x9 near c) none
def alC(near c:Int)(l:List Rn)(r:Rn):Ix near c (l++[r])=x9 near c (Ix near c l) r:=by simp[Ix]
def aww(o:Option Int):Int:=o.getD 0
def Vl{near c:Int}{r:Rn}(hn:0<=near/\near<=4095)(hr:0<=r.s/\r.s<=1000000/\0<=r.n/\r.n<=1000000)(hc:0<=c/\c<=r.n):0<=wv near c r/\wv near c r<=2000000:=by
 unfold wv;omega
def aif{near c:Int}{l:List Rn}(hn:0<=near/\near<=4095)(hc:0<=c)(hl:∀r∈l,0<=r.s/\r.s<=1000000/\0<=r.n/\r.n<=1000000/\c<=r.n):∀x,Ix near c l=some x->0<=x/\x<=2000000:=by
 unfold Ix
 suffices H:∀(b:Option Int),(∀x,b=some x->0<=x/\x<=2000000)→∀x,l.foldl (x9 near c) b=some x->0<=x/\x<=2000000 from H none (λ_ h=>bV)
 induction l with
 |nil=>intro b hb x hx;exact hb x hx
 |cons r l ih=>
  intro b hb;refine ih (λr hr=>hl r (by simp[hr])) _ ?_;intro x hx;have h1:=hl r aj;have h2:=Vl hn ⟨h1.1,h1.2.1,h1.2.2.1,h1.2.2.2.1⟩ ⟨hc,h1.2.2.2.2⟩;unfold x9 at hx;split at hx
  ·cases hx;exact h2
  ·split at hx
   ·cases hx;exact h2
   ·cases hx;exact hb _ rfl
def ae0:Spec:=EM true false λps K=>∃(B:List UInt8) (n c near:Int),ps=[Bb B n,.agg [pI c,pI near]]/\(0<=n/\n<=4096/\n<=8*B.length/\B.length<=100000/\1<=c/\c<=4096/\0<=near/\near<=4095)/\K (.tup [.pv (pI (aww (Ix near c (rh c (bh (jf B 0) n.toNat))))),.pv (pB (Ix near c (rh c (bh (jf B 0) n.toNat))).isSome)])
def amJ:MT (ay [(257,amb),(234,ah afn)]) xG ae0:=by
 rintro _ K ⟨B,n,c,near,rfl,⟨h1,h2,h3,h4,h5,h6,h7,h8⟩,hK⟩;have hb:= @JQ (jf B 0) n.toNat;have t_:= @apS c (bh (jf B 0) n.toNat);have hR:∀r∈rh c (bh (jf B 0) n.toNat),0<=r.s/\r.s<=1000000/\0<=r.n/\r.n<=1000000/\c<=r.n:=λr hr=>by
  obtain⟨h9,XK⟩:=List.mem_filter.1 hr;have:=(kI (jf B 0) n.toNat).1 r h9;simp[small]at XK;omega
 refine⟨B,n,c,rfl,ab,?_⟩;generalize rh c (bh (jf B 0) n.toNat)=R at*
 (repeat'(refine iM ?_;first|refine ez λ_=>?_|fail))
 refine⟨λm env σ=>∃(i:Nat),(i+m=R.length)/\σ=[.box 193 [.pv (pI c),.pv (pI near)]]/\env=[(3,.ref 0 0 0),eN 6 (aww (Ix near c (R.take i))),(7,.pv (pB (Ix near c (R.take i)).isSome)),(14,.pv (.sl 2 (R.map Rn.pv))),eN 15 R.length,eN 16 i],R.length,⟨0,ab,rfl,rfl⟩,?_⟩;rintro m env σ ⟨i,hi,rfl,rfl⟩;have o_:=aif (l:=R.take i) ⟨h7,h8⟩ ab (λr hr=>hR r (List.mem_of_mem_take hr));by_cases aU:i<R.length
 ·obtain⟨r,hr⟩:∃r,R[i]?=some r:=⟨R[i],zah aU⟩
  have tZ:=hR r (zag hr);have e1:R.take (i+1)=R.take i++[r]:=by rw[zcF,hr];rfl
  have e2:=alC near c (R.take i) r;rw[<-e1]at e2;have mE:=Vl (near:=near) (c:=c) (r:=r) ⟨h7,h8⟩ ab ab;generalize Ix near c (R.take i)=b at*;cases b with
  |none=>
   simp only[Option.isSome_none,aww,Option.getD_none]
   (repeat'(refine iM ?_;first|refine bj ab ?_|refine bP ?_|refine au ab ?_|refine fQ ?_|refine I8 ?_|refine iY aA ?_|refine bT ?_|fail))
   refine⟨m-1,ab,i+1,ab,rfl,?_⟩;rw[e2];rfl
  |some x=>
   simp only[Option.isSome_some,aww,zbC];have hx:=o_ x rfl;unfold wv at mE
   (repeat'(refine iM ?_;first|refine bj ab ?_|refine aN ?_|refine au ab ?_|refine de (λ_=>?_) (λ_=>?_)|refine fQ ?_|refine I8 ?_|refine iY aA ?_|refine bT ?_|refine⟨_,⟨_,_,rfl,cU,rfl⟩,?_⟩|fail))
   ·rename_i h;have e3:x9 near c (some x) r=some (wv near c r):=if_pos h;refine⟨m-1,ab,i+1,ab,rfl,?_⟩;rw[e2,e3];rfl
   ·rename_i h;have e3:x9 near c (some x) r=some x:=if_neg h;refine⟨m-1,ab,i+1,ab,rfl,?_⟩;rw[e2,e3];rfl
 ·(repeat'(refine iM ?_;first|refine aw ab ?_|fail))
  have:i=R.length:=ab;subst this;rw[zcN]
  (refine⟨_,?_,?_,hK⟩<;>repeat'(first|exact rfl|exact trivial|exact bD _|exact dn _|exact cr|refine⟨?_,?_⟩))
def Sw(s:List UInt8)(n c near:Int):Option Int:=Ix near c (rh c (bh (jf s 0) n.toNat))
def auz:Spec:=EM true false λps K=>∃(s:List UInt8) (n v:Int),ps=[.str s,pI n,pI v]/\(0<=n/\n<=4096/\n<=8*s.length/\s.length<=100000)/\K (.fresh 28 2 (mg (jf s v) n.toNat))
def afA:MT (ay [(111,agb),(106,LL)]) y3 auz:=by
 rintro _ K ⟨s,n,v,rfl,⟨h0,h1,h2,h3⟩,hK⟩;obtain⟨n,rfl⟩:∃k:Nat,n=k:=⟨n.toNat,ab⟩
 rw[zaC]at hK
 (repeat'(refine iM ?_;first|refine⟨_,_,rfl,cU,?_⟩|fail))
 refine⟨sj s n,v,jf s v,rfl,⟨aH,λi x hx=>?_⟩,?_⟩
 ·have hi:=eT hx;rw[L9]at hi;rw[ael hi]at hx;rw[<-Option.some.inj hx];simp[jf]
 ·rw[L9]
  (conv=>whnf)
  exact⟨.fresh _ _ _,⟨rfl,rfl,rfl,rfl⟩,U5 _ _,hK⟩
def nG(s:List UInt8)(n:Int):List Rn:=bh (jf s 0) n.toNat
def kA:Int->List Rn->List Rn
 |_,[]=>[]
 |c,r::l=>if c=0 then[]else⟨r.s,min r.n c⟩::kA (c-min r.n c) l
def qa:Int->List Rn->Int
 |c,[]=>c
 |c,r::l=>if c=0 then 0 else qa (c-min r.n c) l
def ahT(near:Int)(L S:List Rn):Prop:=S.Perm L/\S.Pairwise (λx y=>vw near y x=false)
def apg{near:Int}{L S T:List Rn}(h1:ahT near L S)(h2:ahT near L T):S=T:=by
 have hp:S.Perm T:=h1.1.trans h2.1.symm;exact hp.eq_of_pairwise (λa b _ _ rE hba=>awt hba rE) h1.2 h2.2
def I2(left:Int)(n:Nat):Int:=if left≠0 then 16 else if n<=64 then 0 else 8
def afW{n:Nat}(h:n<=64):I2 0 n=0:=by unfold I2;rw[if_neg ao,if_pos h]
def O3{n:Nat}(h:¬n<=64):I2 0 n=8:=by unfold I2;rw[if_neg ao,if_neg h]
def ad9{c:Int}{n:Nat}(h:c≠0):I2 c n=16:=by unfold I2;rw[if_pos h]
def alo:Spec:=EM true false λps K=>∃(s:List UInt8) (n c near:Int),ps=[.str s,pI n,.agg [pI c,pI near]]/\s.length<=100000/\
 (IZ s n c near≠0->K (.tup [.fresh 28 2 [],.pv (pI (IZ s n c near))]))/\
 (IZ s n c near=0→∀x,Sw s n c near=some x->K (.tup [.fresh 28 2 ([(⟨x,c⟩:Rn)].map Rn.pv),.pv (pI 0)]))/\
 (IZ s n c near=0->Sw s n c near=none→∀S,ahT near (nG s n) S->
   (I2 (qa c S) (kA c S).length=0->K (.tup [.fresh 28 2 ((kA c S).map Rn.pv),.pv (pI 0)]))/\(I2 (qa c S) (kA c S).length≠0->K (.tup [.fresh 28 2 [],.pv (pI (I2 (qa c S) (kA c S).length))])))
set_option maxHeartbeats 2000000 in
def abk:MT (ay [(227,My),(228,ae0),(229,FQ),(230,sB QR),(231,ah Pt),(180,BX),(138,ah jw)]) uW alo:=by
 rintro _ K ⟨s,n,c,near,rfl,hs,Gt,xy,hK3⟩;by_cases he:IZ s n c near=0
 ·obtain⟨h0,h7,h8⟩:=axI he;obtain⟨h1,h2,h3,h4,h5⟩:=iR h0;have xy:=xy he;have hK3:=hK3 he;unfold Sw at xy hK3
  (repeat'(refine iM ?_;first|refine aw ab ?_|refine bT ?_|refine⟨_,_,_,_,rfl,cU,?_⟩|fail))
  generalize Ix near c (rh c (bh (jf s 0) n.toNat))=b at*;cases b with
  |some x=>
   have hK:=xy x rfl
   (repeat'(refine iM ?_;first|refine bT ?_|fail))
   (refine⟨_,?_,?_,hK⟩<;>repeat'(first|exact rfl|exact trivial|exact bD _|exact dn _|exact cr|refine⟨?_,?_⟩))
  |none=>
   have hK3:=hK3 rfl
   (repeat'(refine iM ?_;first|refine⟨_,_,_,rfl,cU,?_⟩|fail))
   have hb:= @JQ (jf s 0) n.toNat;have hr0:=(kI (jf s 0) n.toNat).1;refine⟨true,bh (jf s 0) n.toNat,c,near,rfl,rfl,⟨ab,apU ab,by unfold aee;omega⟩,λS hp hS=>?_⟩;obtain⟨hK4,hK5⟩:=hK3 S ⟨hp,hS⟩;have hlen:S.length<=4096:=by rw[hp.length_eq];omega
   have hS1:∀r∈S,1<=r.n/\r.n<=4096:=λr hr=>by have:=hr0 r (hp.mem_iff.1 hr);omega
   (repeat'(refine iM ?_;first|refine ez λ_=>?_|fail))
   refine⟨λm env σ=>∃(i:Nat) (left:Int) (out:List Rn),(i+m=S.length/\0<=left/\left<=4096/\out.length<=i/\out++kA left (S.drop i)=kA c S/\qa left (S.drop i)=qa c S)/\σ=[.row 28 2 true (out.map Rn.pv),.row 28 2 true (S.map Rn.pv)]/\env=[(13,.own 0),eN 14 left,(47,.own 1),eN 48 S.length,eN 49 i],S.length,⟨0,c,[],⟨ab,ab,ab,aj,rfl,rfl⟩,rfl,rfl⟩,?_⟩;rintro m env σ ⟨i,left,out,⟨hi,hl0,pj,ho,hg,hgn⟩,rfl,rfl⟩;have stop:(left=0∨¬i<S.length)->out=kA c S/\left=qa c S:=by
    intro h;rw[<-hg,<-hgn];by_cases aU:i<S.length
    ·have h0:left=0:=by rcases h with h|h;exact h;exact absurd aU h
     rw[zcE aU];subst h0;simp[kA,qa]
    ·rw[zb8 ab];simp[kA,qa]
   have fin:(left=0∨¬i<S.length)->(I2 left out.length=0->K (.tup [.fresh 28 2 (out.map Rn.pv),.pv (pI 0)]))/\(I2 left out.length≠0->K (.tup [.fresh 28 2 [],.pv (pI (I2 left out.length))])):=by
    intro h;obtain⟨e1,e2⟩:=stop h;rw[e1,e2];exact⟨hK4,hK5⟩
   by_cases aU:i<S.length
   ·obtain⟨r,hr⟩:∃r,S[i]?=some r:=⟨S[i],zah aU⟩
    have Gw:=hS1 r (zag hr);by_cases hz:left=0
    ·obtain⟨f1,f2⟩:=fin (.inl hz);subst hz;by_cases iG:out.length<=64
     ·have hK:=f1 (afW iG)
      (repeat'(refine iM ?_;first|refine au ab ?_|refine aw ao ?_|refine ez λ_=>?_|refine uM aA ?_|refine Q3 ab ?_|refine bT ?_|refine⟨_,⟨_,_,rfl,rfl⟩,?_⟩|refine⟨_,_,rfl,λh=>absurd h ao,λ_=>?_⟩|fail))
      (refine⟨_,?_,?_,hK⟩<;>repeat'(first|exact rfl|exact trivial|exact bD _|exact dn _|exact cr|refine⟨?_,?_⟩))
     ·rw[O3 iG]at f2;have hK:=f2 ao
      (repeat'(refine iM ?_;first|refine au ab ?_|refine aw ab ?_|refine au ao ?_|refine ez λ_=>?_|refine uM aA ?_|refine Q3 ab ?_|refine bT ?_|refine⟨_,⟨_,_,rfl,rfl⟩,?_⟩|refine⟨_,_,rfl,λh=>absurd h ao,λ_=>?_⟩|fail))
      (refine⟨_,?_,?_,hK⟩<;>repeat'(first|exact rfl|exact trivial|exact bD _|exact dn _|exact cr|refine⟨?_,?_⟩))
    ·have ed:S.drop i=r::S.drop (i+1):=by
      rw[zah aU]at hr;rw[zcE aU,Option.some.inj hr]
     rw[ed]at hg hgn;simp only[kA,qa,if_neg hz]at hg hgn
     (repeat'(refine iM ?_;first|refine bj ab ?_|refine au ab ?_|refine aw ab ?_|refine I8 ?_|refine uM aA ?_|refine Q3 ab ?_|refine bT ?_|refine zcC cu ?_|fail))
     refine⟨m-1,ab,i+1,left-min r.n left,out++[⟨r.s,min r.n left⟩],⟨ab,ab,ab,aH,?_,hgn⟩,?_,rfl⟩
     ·rw[<-hg,zaj];rfl
     ·rw[zbu];rfl
   ·obtain⟨f1,f2⟩:=fin (.inr aU);by_cases hz:left=0
    ·subst hz;by_cases iG:out.length<=64
     ·have hK:=f1 (afW iG)
      (repeat'(refine iM ?_;first|refine au ab ?_|refine aw ab ?_|refine aw ao ?_|refine ez λ_=>?_|refine bT ?_|refine⟨_,⟨_,_,rfl,rfl⟩,?_⟩|refine⟨_,_,rfl,λh=>absurd h ao,λ_=>?_⟩|fail))
      (refine⟨_,?_,?_,hK⟩<;>repeat'(first|exact rfl|exact trivial|exact bD _|exact dn _|exact cr|refine⟨?_,?_⟩))
     ·rw[O3 iG]at f2;have hK:=f2 ao
      (repeat'(refine iM ?_;first|refine au ab ?_|refine aw ab ?_|refine au ao ?_|refine ez λ_=>?_|refine bT ?_|refine⟨_,⟨_,_,rfl,rfl⟩,?_⟩|refine⟨_,_,rfl,λh=>absurd h ao,λ_=>?_⟩|fail))
      (refine⟨_,?_,?_,hK⟩<;>repeat'(first|exact rfl|exact trivial|exact bD _|exact dn _|exact cr|refine⟨?_,?_⟩))
    ·rw[ad9 hz]at f2;have hK:=f2 ao
     (repeat'(refine iM ?_;first|refine au ab ?_|refine aw ab ?_|refine de (λ_=>?_) (λ_=>?_)|refine ez λ_=>?_|refine bT ?_|refine⟨_,⟨_,_,rfl,rfl⟩,?_⟩|refine⟨_,_,rfl,λ_=>?_,λh=>absurd h ao⟩|fail))
     all_goals(refine⟨_,?_,?_,hK⟩<;>repeat'(first|exact rfl|exact trivial|exact bD _|exact dn _|exact cr|refine⟨?_,?_⟩))
 ·have hK:=Gt he
  (repeat'(refine iM ?_;first|refine au ab ?_|refine bT ?_|refine⟨_,_,_,_,rfl,cU,?_⟩|fail))
  (refine⟨_,?_,?_,hK⟩<;>repeat'(first|exact rfl|exact trivial|exact bD _|exact dn _|exact cr|refine⟨?_,?_⟩))
def UO(near:Int)(L:List Rn):List Rn:=L.mergeSort (λx y=>!vw near y x)
def YV(near:Int)(L:List Rn):ahT near L (UO near L):=by
 have ho:=Ma near;refine⟨List.mergeSort_perm _ _,?_⟩;have:=List.pairwise_mergeSort (le:=λx y=>!vw near y x) (λa b c h1 h2=>by
  simp at h1 h2 ⊢;exact ho.trans _ _ _ h1 h2) (λa b=>by
  cases h:vw near b a with
  |false=>simp
  |true=>simp[ho.asymm _ _ h]) L
 exact this.imp λh=>ky
def Ju(s:List UInt8)(n c near:Int):List Rn:=
 if IZ s n c near≠0 then[]else match Sw s n c near with
  |some x=>[⟨x,c⟩]
  |none=>if I2 (qa c (UO near (nG s n))) (kA c (UO near (nG s n))).length=0 then kA c (UO near (nG s n))else[]
def Fy(s:List UInt8)(n c near:Int):Int:=
 if IZ s n c near≠0 then IZ s n c near else match Sw s n c near with
  |some _=>0
  |none=>I2 (qa c (UO near (nG s n))) (kA c (UO near (nG s n))).length
def aun{s:List UInt8}{n c near:Int}{K:RV->Prop}(hK:K (.tup [.fresh 28 2 ((Ju s n c near).map Rn.pv),.pv (pI (Fy s n c near))])):
 (IZ s n c near≠0->K (.tup [.fresh 28 2 [],.pv (pI (IZ s n c near))]))/\
 (IZ s n c near=0→∀x,Sw s n c near=some x->K (.tup [.fresh 28 2 ([(⟨x,c⟩:Rn)].map Rn.pv),.pv (pI 0)]))/\
 (IZ s n c near=0->Sw s n c near=none→∀S,ahT near (nG s n) S->
 (I2 (qa c S) (kA c S).length=0->K (.tup [.fresh 28 2 ((kA c S).map Rn.pv),.pv (pI 0)]))/\(I2 (qa c S) (kA c S).length≠0->K (.tup [.fresh 28 2 [],.pv (pI (I2 (qa c S) (kA c S).length))]))):=by
 unfold Ju Fy at hK;refine⟨λh=>?_,λh x hx=>?_,λh hx S hS=>?_⟩
 ·rw[if_pos h,if_pos h]at hK;exact hK
 ·simp only[h,hx,ne_eq,not_true_eq_false,if_false]at hK;exact hK
 ·simp only[h,hx,ne_eq,not_true_eq_false,if_false]at hK;have:=apg hS (YV near (nG s n));subst this;refine⟨λh=>?_,λh=>?_⟩
  ·simp only[if_pos h]at hK;rw[h]at hK;exact hK
  ·simp only[if_neg h]at hK;exact hK
def K3:Spec:=EM true false λps K=>∃(s:List UInt8) (n c near:Int),ps=[.str s,pI n,.agg [pI c,pI near]]/\s.length<=100000/\K (.tup [.fresh 28 2 ((Ju s n c near).map Rn.pv),.pv (pI (Fy s n c near))])
def V2:MT (ay [(227,My),(228,ae0),(229,FQ),(230,sB QR),(231,ah Pt),(180,BX),(138,ah jw)]) uW K3:=
 λargs K ⟨s,n,c,near,h1,h2,hK⟩=>abk args K ⟨s,n,c,near,h1,h2,aun hK⟩
inductive Sl(α:Type) where
 |nil
 |sl (l:List α)
def Sl.l{α:Type}:Sl α->List α
 |nil=>[]
 |sl l=>l
def Sl.pv{α:Type}(f:α->PV)(sz:Nat):Sl α->PV
 |nil=>.nil sz
 |sl l=>.sl sz (l.map f)
def KP{α:Type}{f:α->PV}{sz:Nat}{s:Sl α}{K:Nat->List PV->Prop}(k:K sz (s.l.map f)):Ef [] (.pv (s.pv f sz)) K:=by
 cases s<;>exact k
def IXA{α:Type}{f:α->PV}{sz:Nat}{s:Sl α}{i:Nat}{K:PV->Prop}(h:i<s.l.length)(k:∀x,s.l[i]?=some x->K (f x)):
 (match s.pv f sz with
   | .sl s aC=>(match Nat.beq s sz with
    |true=>∃y,(0<=(i:Int)/\aC[(i:Int).toNat]?=some y)/\K y
    |false=>False)
   |_=>False):=by
 cases s with
 |nil=>exact absurd h (by simp[Sl.l])
 |sl l=>
  show(match Nat.beq sz sz with|true=>∃y,(0<=(i:Int)/\(l.map f)[(i:Int).toNat]?=some y)/\K y|false=>False);rw[Nat.beq_refl];exact⟨f l[i],⟨ab,by rw[zaC,za9,show l[i]?=some l[i]from zah h];rfl⟩,k _ (zah h)⟩
def Ek{α:Type}{f:α->PV}{sz:Nat}{s:Sl α}{i:Nat}{x:α}{K:PV->Prop}(h:s.l[i]?=some x)(k:K (f x)):
 (match s.pv f sz with
   | .sl s aC=>(match Nat.beq s sz with
    |true=>∃y,(0<=(i:Int)/\aC[(i:Int).toNat]?=some y)/\K y
    |false=>False)
   |_=>False):=IXA (eT h) (λ_ h'=>get_inj h h'▸k)
def aEP{α:Type}{f:α->PV}{sz:Nat}{s:Sl α}{i:Int}{x:α}{K:PV->Prop}(h0:0<=i)(h:s.l[i.toNat]?=some x)(k:K (f x)):
 (match s.pv f sz with
   | .sl s aC=>(match Nat.beq s sz with
    |true=>∃y,(0<=i/\aC[i.toNat]?=some y)/\K y
    |false=>False)
   |_=>False):=by
 obtain⟨n,rfl⟩:=zcO h0;exact Ek ky k
def Sl.cells{α:Type}{f:α->PV}{sz:Nat}{s:Sl α}:(s.pv f sz).cells=[s.pv f sz]:=by cases s<;>rfl
abbrev Rs:=Sl Rn
abbrev qF(s:Sl Rn):PV:=s.pv Rn.pv 2
structure At where
 ty:Int
 nm:List UInt8
 id:Int
 fl:Int
 rs:Bool
 vl:List UInt8
 ft:Int
 rn:Sl Rn
 al:Int
 sz:Int
 vd:Int
def At.pv(a:At):PV:=.agg [pI a.ty,.str a.nm,pI a.id,pI a.fl,pB a.rs,.str a.vl,pI a.ft,qF a.rn,pI a.al,pI a.sz,pI a.vd]
def gB(ps:List PV)(x:PV):Prop:=∃l:List Int,ps=[.sl 1 (l.map pI)]/\x=pI (bQ l)
def kS:MT (ay []) DG (ah gB):=by
 rintro _ K ⟨_,⟨l,rfl,rfl⟩,hK⟩;refine λhl=>?_
 rw[zav]at hl;refine⟨λm env σ=>∃n:Nat,(n+m=l.length∧∀j,j<n->l[j]?=some 0)/\σ=[]/\env=[(5,.pv (.sl 1 (l.map pI))),eN 6 ((l.map pI).length:Nat),eN 7 n],l.length,⟨0,⟨ab,λj hj=>ab⟩,rfl,rfl⟩,?_⟩;rintro m env σ ⟨n,⟨hn,h0⟩,rfl,rfl⟩;refine λb hb=>?_
 rw[zav]at hb;rcases cmp hb with⟨rfl,h⟩|⟨rfl,h⟩
 ·have aU:n<l.length:=by omega
  refine⟨pI l[n],⟨ab,?_⟩,?_⟩
  ·show(l.map pI)[n]?=some (pI l[n]);simp[aU]
  refine λb hb=>?_
  rcases cmp hb with⟨rfl,h⟩|⟨rfl,h⟩
  ·refine⟨.pv (pI _),bu ?_,trivial,hK⟩;rw[ke l n h0,zcE aU];simp[bQ,h]
  ·refine λx hx=>?_
   replace hx:=dB hx ab;subst hx;refine⟨m-1,ab,n+1,⟨ab,λj hj=>?_⟩,rfl,rfl⟩;by_cases nd:j<n
   ·exact h0 j nd
   ·have:j=n:=by omega
    subst this;rw[zah aU];simpa using h
 ·refine⟨.pv (pI _),bu ?_,trivial,hK⟩;rw[ke l n h0,zb8 ab];rfl
def Qv:MT (ay []) N6 (ah gB):=kS
def dG(ps:List PV)(x:PV):Prop:=∃(ok:Bool) (e:Int),ps=[pB ok,pI e]/\x=pI (if ok=true then 0 else e)
def jP:MT (ay []) AX (ah dG):=by
 rintro _ K ⟨_,⟨ok,e,rfl,rfl⟩,hK⟩;cases ok with
 |true=>exact aG
 |false=>exact aG
def OQ:MT (ay []) LJ (ah dG):=jP
def RG:MT (ay []) N_ (ah dG):=jP
def uL:MT (ay []) Cr (bF bG):=by
 rintro _ K ⟨_,⟨n,lo,hi,rfl,rfl⟩,hK⟩
 (repeat'((conv=>whnf);first|refine de (λ_=>?_) (λ_=>?_)|fail))<;>try(conv=>whnf)
 all_goals exact kQ
def Sd:MT (ay []) N2 (bF bG):=uL
def BJ(ps:List PV)(p:Prop):Prop:=∃r:Rn,ps=[r.pv]/\p=(r.s= -1)
def ae1:MT (ay []) N4 (bF BJ):=by
 rintro _ K ⟨_,⟨r,rfl,rfl⟩,hK⟩
 (repeat'((conv=>whnf);first|refine de (λ_=>?_) (λ_=>?_)|fail))<;>try(conv=>whnf)
 all_goals exact kQ
def jZ(r:Rn):Prop:=if r.s= -1 then 1<=r.n/\r.n<=4096 else(0<=r.s/\r.s<=511)/\1<=r.n/\r.n<=512-r.s
instance (r:Rn):Decidable (jZ r):=by unfold jZ;infer_instance
def Ph(ps:List PV)(x:PV):Prop:=∃r:Rn,ps=[r.pv]/\x=pI (if jZ r then 0 else 2)
def Yf:MT (ay [(209,bF BJ),(206,bF bG),(205,ah dG)]) HT (ah Ph):=by
 rintro _ K ⟨_,⟨r,rfl,rfl⟩,hK⟩;unfold jZ at hK
 (repeat'(refine iM ?_;first|refine bj ab ?_|refine aN ?_|refine bP ?_|refine de (λ_=>?_) (λ_=>?_)|refine⟨_,⟨_,rfl,rfl⟩,?_⟩|refine⟨_,⟨_,_,rfl,rfl⟩,?_⟩|refine⟨_,⟨_,_,_,rfl,rfl⟩,?_⟩|fail))<;>try(conv=>whnf)
 all_goals(refine⟨.pv (pI _),bu ?_,trivial,hK⟩;simp[*])
def iy(a b:Rn):Prop:=(a.s= -1↔b.s= -1)/\(a.s= -1\/a.s+a.n=b.s)
instance (a b:Rn):Decidable (iy a b):=by unfold iy;infer_instance
def jZ.b{r:Rn}(h:jZ r):I3 r:=by unfold jZ at h;unfold I3;split at h<;>omega
def Ab(ps:List PV)(p:Prop):Prop:=∃a b:Rn,ps=[a.pv,b.pv]/\(I3 a/\I3 b)/\p=iy a b
def akf:MT (ay [(209,bF BJ)]) Sf (bF Ab):=by
 rintro _ K ⟨_,⟨a,b,rfl,⟨ha,hb⟩,rfl⟩,hK⟩;unfold iy at hK;unfold I3 at ha hb
 (repeat'(refine iM ?_;first|refine bj ab ?_|refine aN ?_|refine bP ?_|refine au ab ?_|refine aw ab ?_|refine au ao ?_|refine aw ao ?_|refine de (λ_=>?_) (λ_=>?_)|refine bT ?_|refine⟨_,⟨_,rfl,rfl⟩,?_⟩|fail))<;>try(conv=>whnf)
 all_goals exact yj
def Rn.has(r:Rn)(c:Nat):Bool:=decide (r.s≠ -1/\r.s<=c/\(c:Int)<r.s+r.n)
abbrev Yi(L:List Bool):dC:=.row 233 1 false (L.map PV.bool)
structure mc(L:List Bool)(f:Nat->Bool):Prop where
 len:L.length=512
 get:∀c,c<512->L[c]?=some (f c)
def mc.set{L:List Bool}{f:Nat->Bool}(h:mc L f)(i:Nat):mc (L.set i true) (λc=>f c||decide (c=i)):=by
 refine⟨by simp[h.len],λc hc=>?_⟩;by_cases e:i=c
 ·subst e;simp[h.len,hc]
 ·rw[zc7 e,h.get c hc];simp[Ne.symm e]
def mc.congr{L:List Bool}{f g:Nat->Bool}(h:mc L f)(e:∀c,c<512->f c=g c):mc L g:=⟨h.len,λc hc=>(e c hc)▸h.get c hc⟩
def ag6(xs:List AV)(σ:aF)(K:AV->aF->Prop):Prop:=∃(r:Rn) (f:Nat->Bool) (L:List Bool),xs=[.ref 0 0 0,.pv r.pv]/\(jZ r/\mc L f)/\σ=[Yi L]∧∀(ok:Bool) (L':List Bool),(ok=true↔∀c,c<512->r.has c=true->f c=false)->mc L' (λc=>f c||r.has c)->K (.pv (pB ok)) [Yi L']
def Rn.QV(r:Rn)(n:Nat)(c:Nat):Bool:=decide (r.s<=c/\(c:Int)<r.s+n)
def al1:gO (ay [(209,bF BJ)]) Gi (sB ag6):=by
 rintro _ _ K ⟨r,f,L,rfl,⟨hr,hL⟩,rfl,hK⟩;unfold jZ at hr
 (repeat'(refine iM ?_;first|refine de (λ_=>?_) (λ_=>?_)|refine⟨_,⟨_,rfl,rfl⟩,?_⟩|fail))<;>try(conv=>whnf)
 ·exact hK true L (by simp[Rn.has, *]) (hL.congr λc _=>by simp[Rn.has, *])
 ·rename_i hs;rw[if_neg hs]at hr;refine⟨λm env σ=>∃(n:Nat) (ok:Bool) (L:List Bool),(n+m=r.n.toNat/\(ok=true↔∀c,c<512->r.QV n c=true->f c=false)/\mc L (λc=>f c||r.QV n c))/\σ=[Yi L,.box 28 [.pv (pI r.s),.pv (pI r.n)]]/\env=[(0,.ref 0 0 0),(3,.ref 1 0 0),(5,.pv (pB ok)),eN 6 (r.s+n)],r.n.toNat,⟨0,true,L,⟨ab,by simp[Rn.QV];omega,hL.congr λc _=>by simp[Rn.QV];omega⟩,rfl,aj⟩,?_⟩;rintro m env σ ⟨n,ok,L,⟨hn,di,hL⟩,rfl,rfl⟩;have hgo:∀c,r.QV (n+1) c=(r.QV n c||decide (c=(r.s+n).toNat)):=λc=>by
   unfold Rn.QV;rw[zaN];simp;omega
  have LO:mc (L.set (r.s+n).toNat true) (λc=>f c||r.QV (n+1) c):=(hL.set (r.s+n).toNat).congr λc _=>by rw[hgo c,Bool.or_assoc]
  have aK4:r.QV n (r.s+n).toNat=false:=by unfold Rn.QV;simp;omega
  have Gr:n<r.n.toNat->L[(r.s+n).toNat]?=some (f (r.s+n).toNat):=λh=>by rw[hL.get _ ab,aK4,Bool.or_false]
  have e:r.s+((n+1:Nat):Int)=r.s+(n:Int)+1:=ab;have nK:n<r.n.toNat->((∀c,c<512->r.QV (n+1) c=true->f c=false)↔(∀c,c<512->r.QV n c=true->f c=false)/\f (r.s+n).toNat=false):=λh=>by
   constructor
   ·intro h1;exact⟨λc hc hh=>h1 c hc (by rw[hgo,hh];rfl),h1 _ ab (by rw[hgo];simp)⟩
   ·rintro⟨h1,h2⟩ c hc hh;rw[hgo,Bool.or_eq_true,decide_eq_true_iff]at hh;rcases hh with hh|hh
    ·exact h1 c hc hh
    ·rw[hh];exact h2
  have adL:¬n<r.n.toNat→∀c,r.QV n c=r.has c:=λh c=>by unfold Rn.QV Rn.has;rw[zaN];simp;omega
  cases ok
  ·(repeat'((conv=>whnf);first|refine zcC ⟨by rw[zav];exact hL.len,ab,ab⟩ ?_|refine aFA (Gr ab) ?_|refine bj ab ?_|refine de (λ_=>?_) (λ_=>?_)|refine bT ?_|fail))<;>try(conv=>whnf)
   ·refine⟨m-1,ab,n+1,false,_,⟨ab,?_,LO⟩,congrArg (λx=>[dC.row 233 1 false x,_]) oc,by rw[e]⟩;rw[nK ab,<-di];simp
   ·refine hK false L (by simpa only[adL ab]using di) (hL.congr λc _=>by rw[adL ab])
  ·(repeat'((conv=>whnf);first|refine zcC ⟨by rw[zav];exact hL.len,ab,ab⟩ ?_|refine aFA (Gr ab) ?_|refine bj ab ?_|refine de (λ_=>?_) (λ_=>?_)|refine bT ?_|fail))<;>try(conv=>whnf)
   ·rename_i hf;refine⟨m-1,ab,n+1,true,_,⟨ab,?_,LO⟩,congrArg (λx=>[dC.row 233 1 false x,_]) oc,by rw[e]⟩;rw[nK ab,<-di];simp[hf]
   ·rename_i hf;refine⟨m-1,ab,n+1,false,_,⟨ab,?_,LO⟩,congrArg (λx=>[dC.row 233 1 false x,_]) oc,by rw[e]⟩;rw[nK ab,<-di];simpa using hf
   ·refine hK true L (by simpa only[adL ab]using di) (hL.congr λc _=>by rw[adL ab])
def J8(l m:List Rn):bI (l++m)=bI l+bI m:=by simp[bI]
def aeq{l:List Rn}{i:Nat}{r:Rn}(h:l[i]?=some r):bI (l.take (i+1))=bI (l.take i)+r.n:=by
 rw[zcF,h,J8];simp[bI]
def yP(l:List Rn):Prop:=l.length<=1000∧∀r∈l,-1000000000000<=r.n/\r.n<=1000000000000
def yP.sum{l:List Rn}(h:yP l):∀i,i<=l.length-> -1000000000000*i<=bI (l.take i)/\bI (l.take i)<=1000000000000*i:=by
 intro i
 induction i with
 |zero=>intro _;simp[bI]
 |succ i ih=>
  intro hi;have hx:=zah (show i<l.length by omega);rw[aeq hx];have h1:=ih ab;have h2:=h.2 _ (zdh (show i<l.length by omega));omega
def iu(ps:List PV)(x:PV):Prop:=∃s:Rs,ps=[qF s]/\yP s.l/\x=pI (bI s.l)
def agW:MT (ay []) NI (ah iu):=by
 rintro _ K ⟨_,⟨s,rfl,hs,rfl⟩,hK⟩
 (repeat'((conv=>whnf);first|refine KP ?_|refine ez λ_=>?_|fail))<;>try(conv=>whnf)
 refine⟨λm env σ=>∃(n:Nat),n+m=s.l.length/\σ=[]/\env=[eN 3 (bI (s.l.take n)),(6,.pv (qF s)),eN 7 s.l.length,eN 8 n],s.l.length,⟨0,ab,rfl,rfl⟩,?_⟩;rintro m env σ ⟨n,hn,rfl,rfl⟩;have hb:=hs.sum n ab;have hl:=hs.1
 (repeat'((conv=>whnf);first|(refine IXA ab (λx hx=>?_);have:=hs.2 x (zag hx))|refine bj ab ?_|refine de (λ_=>?_) (λ_=>?_)|refine bT ?_|fail))<;>try(conv=>whnf)
 ·exact abg
 ·rw[za1 ab];exact aG
def wo(f:Nat->Int):Nat->Nat->Int×Int
 |_,0=>(0,0)
 |i,n+1=>if f i=0 then wo f (i+1) n else((i:Int),f i)
def aiD{f:Nat->Int}{i n:Nat}(h:f i≠0):wo f i (n+1)=((i:Int),f i):=if_neg h
def ap7{f:Nat->Int}{i n:Nat}(h:f i=0):wo f i (n+1)=wo f (i+1) n:=if_pos h
def U2{f:Nat->Int}{i n:Nat}(h:∀j,j<i->f j=0):∀k,k<=i->i<=n->wo f k (n-k)=wo f i (n-i):=by
 intro k
 induction hd:i-k generalizing k with
 |zero=>intro h1 _;have:k=i:=by omega
        subst this;rfl
 |succ d ih=>
  intro h1 h2;rw[<-ih (k+1) ab ab h2,show n-k=(n-(k+1))+1 by omega,ap7 (h k ab)]
def aqT{f:Nat->Int}{i n:Nat}(h:∀j,j<i->f j=0)(hi:i<n)(hf:f i≠0):wo f 0 n=((i:Int),f i):=by
 have:=U2 (n:=n) h 0 ab ab;rw[zcq]at this;rw[this,show n-i=(n-i-1)+1 by omega,aiD hf]
def ai6{f:Nat->Int}{n:Nat}(h:∀j,j<n->f j=0):wo f 0 n=(0,0):=by
 have:=U2 (n:=n) h 0 ab (zai _);rw[zcq,Nat.sub_self]at this;rw[this];rfl
def apf{f:Nat->Int}{n:Nat}(h:(wo f 0 n).2=0):∀j,j<n->f j=0:=by
 intro j hj;refine Classical.byContradiction λcb=>?_
 have:∀i k,(∃j,i<=j/\j<i+k/\f j≠0)->(wo f i k).2≠0:=by
  intro i k
  induction k generalizing i with
  |zero=>rintro⟨j,h1,h2,_⟩;omega
  |succ k ih=>
   rintro⟨j,h1,h2,h3⟩;unfold wo;split
   ·rename_i h0;refine ih (i+1) ⟨j,?_,ab,h3⟩;rcases zcG h1 with h4|h4
    ·omega
    ·subst h4;exact absurd h0 h3
   ·assumption
 exact this 0 n ⟨j,ab,ab,cb⟩ h
def pE(a b:Rn):Prop:=a.s≠ -1/\b.s≠ -1/\a.s<b.s+b.n/\b.s<a.s+a.n
instance (a b:Rn):Decidable (pE a b):=by unfold pE;infer_instance
def Wx(l:List Rn)(i:Nat):Int:=match l[i]? with
 |none=>0
 |some r=>if ¬jZ r then 2 else if 0<i/\(∃p,l[i-1]?=some p/\iy p r)then 3 else if ∃k,k<i∧∃p,l[k]?=some p/\pE p r then 23 else 0
def Jr{l:List Rn}{i:Nat}{r:Rn}(h:l[i]?=some r)(h0:Wx l i=0):jZ r:=by
 unfold Wx at h0;rw[h]at h0;refine Classical.byContradiction λhr=>?_
 simp[hr]at h0
def kX(l:List Rn):Int×Int:=if 64<l.length then(0,8)else if (wo (Wx l) 0 l.length).2≠0 then wo (Wx l) 0 l.length else(0,if bI l<=4096 then 0 else 8)
def dU(l:List Rn):Int:=(kX l).2
def agj{l:List Rn}(hl:l.length<=1000)(h:∀j,j<l.length->Wx l j=0):yP l:=by
 refine⟨hl,λr hr=>?_⟩;obtain⟨i,hi⟩:=jk.1 hr;have:=(Jr hi (h i (eT hi))).b;unfold I3 at this;omega
def aeX(ps:List PV)(x:PV):Prop:=∃s:Rs,ps=[qF s]/\x=pI (dU s.l)
def aje{l:List Rn}{n:Nat}{x p:Rn}(hx:l[n]?=some x)(h:jZ x)(hn:0<n)(hp:l[n-1]?=some p)(hj:iy p x):Wx l n=3:=by
 unfold Wx;rw[hx];simp only[h,not_true_eq_false,if_false];rw[if_pos ⟨hn,p,hp,hj⟩]
def afo{l:List Rn}{n:Nat}{x:Rn}(hx:l[n]?=some x)(h:jZ x)(hj:∀p,0<n->l[n-1]?=some p→¬iy p x)(hd:∃k,k<n∧∃p,l[k]?=some p/\pE p x):Wx l n=23:=by
 unfold Wx;rw[hx];simp only[h,not_true_eq_false,if_false];rw[if_neg (by rintro⟨h1,p,h2,h3⟩;exact hj p h1 h2 h3),if_pos hd]
def KD{l:List Rn}{n:Nat}{x:Rn}(hx:l[n]?=some x)(h:jZ x)(hj:∀p,0<n->l[n-1]?=some p→¬iy p x)(hd:¬ ∃k,k<n∧∃p,l[k]?=some p/\pE p x):Wx l n=0:=by
 unfold Wx;rw[hx];simp only[h,not_true_eq_false,if_false];rw[if_neg (by rintro⟨h1,p,h2,h3⟩;exact hj p h1 h2 h3),if_neg hd]
def Zz{p q:Rn}(hp:jZ p)(hq:jZ q):pE p q↔∃c:Nat,c<512/\p.has c=true/\q.has c=true:=by
 unfold jZ at hp hq;unfold pE Rn.has;simp only[decide_eq_true_iff];constructor
 ·rintro⟨h1,h2,h3,h4⟩;rw[if_neg h1]at hp;rw[if_neg h2]at hq;exact⟨(max p.s q.s).toNat,ab,⟨h1,ab,ab⟩,⟨h2,ab,ab⟩⟩
 ·rintro⟨c,_,⟨h1,h2,h3⟩,⟨h4,h5,h6⟩⟩;exact⟨h1,h4,ab,ab⟩
def aae(ps:List PV)(r:RV):Prop:=∃s:Rs,ps=[qF s]/\r=.tup [.pv (pI (kX s.l).1),.pv (pI (kX s.l).2)]
def anq{l:List Rn}(h:64<l.length):kX l=(0,8):=by unfold kX;rw[if_pos h]
def Ox{l:List Rn}{n:Nat}{e:Int}(hl:l.length<=64)(h0:∀k,k<n->Wx l k=0)(aU:n<l.length)(he:Wx l n=e)(cb:e≠0):kX l=((n:Int),e):=by
 unfold kX;rw[if_neg ab,aqT h0 aU (by rw[he];exact cb),he,if_pos cb]
def Mo{l:List Rn}(hl:l.length<=64)(h0:∀k,k<l.length->Wx l k=0):kX l=(0,if bI l<=4096 then 0 else 8):=by
 unfold kX;rw[if_neg ab,ai6 h0,if_neg aj]
def agD(ps:List PV)(p:Prop):Prop:=∃r:Rn,ps=[r.pv]/\p=jZ r
def ajL:MT (ay [(15,bF bG)]) Og (bF agD):=by
 rintro _ K ⟨_,⟨r,rfl,rfl⟩,hK⟩;unfold jZ at hK
 (repeat'(refine iM ?_;first|refine bj ab ?_|refine de (λ_=>?_) (λ_=>?_)|refine⟨_,⟨_,_,_,rfl,rfl⟩,?_⟩|fail))<;>try(conv=>whnf)
 all_goals exact yj
def ads:MT (ay []) Ob (bF Ab):=by
 rintro _ K ⟨_,⟨a,b,rfl,⟨ha,hb⟩,rfl⟩,hK⟩;unfold iy at hK;unfold I3 at ha hb
 (repeat'((conv=>whnf);first|refine bj ab ?_|refine aw ab ?_|refine de (λ_=>?_) (λ_=>?_)|fail))<;>try(conv=>whnf)
 all_goals exact JH
def YY(ps:List PV)(p:Prop):Prop:=∃a b:Rn,ps=[a.pv,b.pv]/\(I3 a/\I3 b)/\p=pE a b
def agB:MT (ay []) Ks (bF YY):=by
 rintro _ K ⟨_,⟨a,b,rfl,⟨ha,hb⟩,rfl⟩,hK⟩;unfold pE at hK;unfold I3 at ha hb
 (repeat'((conv=>whnf);first|refine bj ab ?_|refine de (λ_=>?_) (λ_=>?_)|fail))<;>try(conv=>whnf)
 all_goals exact JH
def Uq(ps:List PV)(p:Prop):Prop:=∃(s:Rs) (i:Nat) (r:Rn),ps=[qF s,pI i]/\(i<=1000/\s.l[i]?=some r∧∀j q,j<=i->s.l[j]?=some q->I3 q)/\p=(∃k,k<i∧∃q,s.l[k]?=some q/\pE q r)
def adu:MT (ay [(265,bF YY)]) IE (bF Uq):=by
 rintro _ K ⟨_,⟨s,i,r,rfl,⟨hi0,hr,hb⟩,rfl⟩,hK⟩;have hi:=eT hr
 (conv=>whnf)
 refine⟨λm env σ=>∃(n:Nat),(n+m=i∧∀k,k<n→∀q,s.l[k]?=some q→¬pE q r)/\σ=[]/\env=[(0,.pv (qF s)),eN 1 i,eN 5 n],i,⟨0,⟨ab,λk hk=>ab⟩,rfl,rfl⟩,?_⟩;rintro m env σ ⟨n,⟨hn,h0⟩,rfl,rfl⟩
 (repeat'((conv=>whnf);first|refine Ek hr ?_|(refine IXA ab (λx hx=>?_))|refine⟨_,⟨_,r,rfl,⟨hb _ _ ab hx,hb _ _ ab hr⟩,rfl⟩,?_⟩|refine bj ab ?_|refine de (λ_=>?_) (λ_=>?_)|refine bT ?_|fail))<;>try(conv=>whnf)
 ·rename_i hs;exact⟨.pv (.bool _),rfl,trivial,hK true (by simp only[true_iff];exact⟨n,ab,x,hx,hs⟩)⟩
 ·rename_i hs;refine⟨m-1,ab,n+1,⟨ab,λk hk q hq=>?_⟩,rfl,rfl⟩;by_cases h:k<n
  ·exact h0 k h q hq
  ·have:k=n:=by omega
   subst this;rw[hx]at hq;cases hq;exact hs
 ·refine⟨.pv (.bool _),rfl,trivial,hK false ?_⟩;simp only[zct,false_iff];rintro⟨k,h1,q,h2,h3⟩;exact h0 k ab q h2 h3
def abN:MT (ay []) Jg (ah iu):=by
 rintro _ K ⟨_,⟨s,rfl,hs,rfl⟩,hK⟩;have hl:=hs.1
 (conv=>whnf)
 refine⟨λm env σ=>∃(n:Nat),n+m=s.l.length/\σ=[]/\env=[(0,.pv (qF s)),eN 3 (bI (s.l.take n)),eN 4 n],s.l.length,⟨0,ab,rfl,rfl⟩,?_⟩;rintro m env σ ⟨n,hn,rfl,rfl⟩;have hb:=hs.sum n ab
 (repeat'((conv=>whnf);first|refine KP ?_|(refine IXA ab (λx hx=>?_);have:=hs.2 x (zag hx))|refine bj ab ?_|refine de (λ_=>?_) (λ_=>?_)|refine ez λ_=>?_|fail))<;>try(conv=>whnf)
 ·exact abg
 ·rw[za1 ab];exact aG
def acx:MT (ay [(243,bF agD),(210,bF Ab),(244,bF Uq),(56,ah iu)]) NK (c8 true aae):=by
 rintro _ K ⟨_,⟨s,rfl,rfl⟩,hK⟩
 (repeat'((conv=>whnf);first|refine KP ?_|refine de (λ_=>?_) (λ_=>?_)|refine ez λ_=>?_|fail))<;>try(conv=>whnf)
 ·rename_i h;rw[anq ab]at hK;exact kM
 rename_i h;refine⟨λm env σ=>∃(n:Nat),(n+m=s.l.length∧∀k,k<n->Wx s.l k=0)/\σ=[]/\env=[(0,.pv (qF s)),eN 4 n],s.l.length,⟨0,⟨ab,λk hk=>ab⟩,rfl,rfl⟩,?_⟩;rintro m env σ ⟨n,⟨hn,h0⟩,rfl,rfl⟩;by_cases aU:n<s.l.length
 ·obtain⟨x,hx⟩:∃x,s.l[n]?=some x:=⟨_,zah aU⟩
  by_cases SI:jZ x
  case neg=>
   have hv:kX s.l=((n:Int),2):=Ox ab h0 aU (by unfold Wx;rw[hx];simp[SI]) ao;rw[hv]at hK
   (repeat'((conv=>whnf);first|refine KP ?_|refine Ek hx ?_|refine⟨_,⟨x,rfl,rfl⟩,?_⟩|refine bP ?_|refine au ab ?_|refine aw ab ?_|refine ez λ_=>?_|fail))<;>try(conv=>whnf)
   exact kM
  have hb:∀j q,j<=n->s.l[j]?=some q->I3 q:=λj q hj hq=>by
   rcases zcG hj with h1|h1
   ·exact(Jr hq (h0 j h1)).b
   ·subst h1;rw[hx]at hq;cases hq;exact SI.b
  have aPA:(kX s.l=((n:Int),23)->K (RV.tup [RV.pv (pI n),RV.pv (pI 23)])):=λh=>by rw[h]at hK;exact hK
  by_cases x3:0<n
  ·obtain⟨p,hp⟩:∃p,s.l[n-1]?=some p:=⟨_,zah ab⟩
   (repeat'((conv=>whnf);first|refine KP ?_|refine Ek hx ?_|refine aEP (x:=p) ab aiB ?_|refine⟨_,⟨x,rfl,rfl⟩,?_⟩|refine⟨_,⟨p,x,rfl,⟨hb _ _ ab hp,SI.b⟩,rfl⟩,?_⟩|refine⟨_,⟨s,n,x,rfl,⟨ab,hx,hb⟩,rfl⟩,?_⟩|refine bj ab ?_|refine aN ?_|refine au ab ?_|refine de (λ_=>?_) (λ_=>?_)|refine ez λ_=>?_|refine bT ?_|fail))<;>try(conv=>whnf)
   ·rename_i hj;have hv:kX s.l=((n:Int),3):=Ox ab h0 aU (aje hx SI x3 hp hj) ao;rw[hv]at hK;exact kM
   ·rename_i hj hd;have hv:kX s.l=((n:Int),23):=Ox ab h0 aU (afo hx SI (λq _ hq=>Qe) hd) ao;rw[hv]at hK;exact kM
   ·rename_i hj hd;have hz:=KD hx SI (λq _ hq=>Qe) hd;exact⟨m-1,ab,n+1,⟨ab,λk hk=>by
     rcases zcG (zcI hk)with h1|h1
     ·exact h0 k h1
     ·rw[h1];exact hz⟩,rfl,rfl⟩
  ·(repeat'((conv=>whnf);first|refine KP ?_|refine Ek hx ?_|refine⟨_,⟨x,rfl,rfl⟩,?_⟩|refine⟨_,⟨s,n,x,rfl,⟨ab,hx,hb⟩,rfl⟩,?_⟩|refine bj ab ?_|refine aN ?_|refine au ab ?_|refine aw ab ?_|refine ez λ_=>?_|refine bT ?_|fail))<;>try(conv=>whnf)
   have hz:=KD hx SI (λq h _=>absurd h x3) (by rintro⟨k,hk,_⟩;omega);exact⟨m-1,ab,n+1,⟨ab,λk hk=>by
    rcases zcG (zcI hk)with h1|h1
    ·exact h0 k h1
    ·rw[h1];exact hz⟩,rfl,rfl⟩
 ·(repeat'((conv=>whnf);first|refine KP ?_|refine⟨_,⟨s,rfl,agj ab (λj hj=>h0 j ab),rfl⟩,?_⟩|refine aw ab ?_|refine de (λ_=>?_) (λ_=>?_)|refine ez λ_=>?_|fail))<;>try(conv=>whnf)
  ·rename_i hs;rw[Mo ab (λk hk=>h0 k ab),if_neg ab]at hK;exact kM
  ·rename_i hs;rw[Mo ab (λk hk=>h0 k ab),if_pos ab]at hK;exact kM
def ah_:MT (ay [(201,c8 true aae)]) UM (ah aeX):=by
 rintro _ K ⟨_,⟨s,rfl,rfl⟩,hK⟩
 (repeat'((conv=>whnf);first|refine⟨_,⟨s,rfl,rfl⟩,?_⟩|fail))<;>try(conv=>whnf)
 exact aG
def Bc(l:List Rn)(n c:Nat):Bool:=(l.take n).any λr=>r.has c
def KY{l:List Rn}{n c:Nat}{x:Rn}(h:l[n]?=some x):Bc l (n+1) c=(Bc l n c||x.has c):=by
 unfold Bc;rw[zcF,h];simp
def Fq{l:List Rn}{n:Nat}{x:Rn}(h0:∀k,k<n->Wx l k=0)(hx:jZ x):(∃k,k<n∧∃p,l[k]?=some p/\pE p x)↔¬ ∀c,c<512->x.has c=true->Bc l n c=false:=by
 constructor
 ·rintro⟨k,hk,p,hp,hs⟩ h;obtain⟨c,h1,h2,h3⟩:=(Zz (Jr hp (h0 k hk)) hx).1 hs;have h4:=h c h1 h3;unfold Bc at h4;rw[zde]at h4;exact h4 p (zag (by rw[zcY hk];exact hp)) h2
 ·intro h;refine Classical.byContradiction λhn=>h λc hc hh=>?_
  unfold Bc;rw[zde];intro p hp s7;obtain⟨k,hk⟩:=jk.1 hp;have hkn:k<n:=by have:=eT hk;simp at this;omega
  rw[zcY hkn]at hk;exact hn ⟨k,hkn,p,hk,(Zz (Jr hk (h0 k hkn)) hx).2 ⟨c,hc,s7,hh⟩⟩
def aF7(l:List Rn):mc (List.replicate 512 false) (Bc l 0):=⟨zap,λc hc=>by rw[zcZ,if_pos hc];rfl⟩
def Wc:MT (ay [(238,ah Ph),(239,bF Ab),(240,sB ag6),(156,ah iu),(205,ah dG)]) FW (c8 true aae):=by
 rintro _ K ⟨_,⟨s,rfl,rfl⟩,hK⟩
 (repeat'((conv=>whnf);first|refine KP ?_|refine de (λ_=>?_) (λ_=>?_)|refine ez λ_=>?_|fail))<;>try(conv=>whnf)
 ·rename_i h;rw[anq ab]at hK;exact kM
 rename_i h;refine⟨λm env σ=>∃(n:Nat) (L:List Bool),(n+m=s.l.length/\(∀k,k<n->Wx s.l k=0)/\mc L (Bc s.l n))/\σ=[Yi L]/\env=[(0,.pv (qF s)),(4,.ref 0 0 0),(11,.pv (qF s)),eN 12 s.l.length,eN 13 n],s.l.length,⟨0,List.replicate 512 false,⟨ab,λk hk=>ab,aF7 _⟩,by unfold Yi;rw[zcK],rfl⟩,?_⟩;rintro m env σ ⟨n,L,⟨hn,h0,hL⟩,rfl,rfl⟩;by_cases aU:n<s.l.length
 ·obtain⟨x,hx⟩:∃x,s.l[n]?=some x:=⟨_,zah aU⟩
  by_cases SI:jZ x
  case neg=>
   have hv:kX s.l=((n:Int),2):=Ox ab h0 aU (by unfold Wx;rw[hx];simp[SI]) ao;rw[hv]at hK
   (repeat'((conv=>whnf);first|refine Ek hx ?_|refine⟨_,⟨x,rfl,rfl⟩,?_⟩|refine au (by rw[if_neg SI];decide) ?_|refine au ab ?_|refine bT ?_|fail))<;>try(conv=>whnf)
   rw[if_neg SI];exact kM
  by_cases x3:0<n
  ·obtain⟨p,hp⟩:∃p,s.l[n-1]?=some p:=⟨_,zah ab⟩
   (repeat'((conv=>whnf);first|refine Ek hx ?_|refine aEP (x:=p) ab aiB ?_|refine⟨_,⟨x,rfl,rfl⟩,?_⟩|refine aw (λh=>h (if_pos SI)) ?_|refine⟨_,⟨p,x,rfl,⟨(Jr hp (h0 _ ab)).b,SI.b⟩,rfl⟩,?_⟩|refine⟨x,_,L,rfl,⟨SI,hL⟩,rfl,λok L' di hL'=>?_⟩|refine bj ab ?_|refine au ab ?_|refine de (λ_=>?_) (λ_=>?_)|refine bT ?_|fail))<;>try(conv=>whnf)
   ·rename_i hj;have hv:kX s.l=((n:Int),3):=Ox ab h0 aU (aje hx SI x3 hp hj) ao;rw[hv]at hK;exact kM
   ·rename_i hj hd;have hv:kX s.l=((n:Int),23):=Ox ab h0 aU (afo hx SI (λq _ hq=>Qe) ((Fq h0 SI).2 λh=>by rw[di.2 h]at hd;cases hd)) ao;rw[hv]at hK;exact kM
   ·rename_i hj hd;have hz:=KD hx SI (λq _ hq=>Qe) (λh=>(Fq h0 SI).1 h (di.1 (by simpa using hd)));exact⟨m-1,ab,n+1,L',⟨ab,λk hk=>by
     rcases zcG (zcI hk)with h1|h1
     ·exact h0 k h1
     ·rw[h1];exact hz,hL'.congr λc _=>(KY hx).symm⟩,rfl,rfl⟩
  ·(repeat'((conv=>whnf);first|refine Ek hx ?_|refine⟨_,⟨x,rfl,rfl⟩,?_⟩|refine aw (λh=>h (if_pos SI)) ?_|refine⟨x,_,L,rfl,⟨SI,hL⟩,rfl,λok L' di hL'=>?_⟩|refine bj ab ?_|refine au ab ?_|refine aw ab ?_|refine de (λ_=>?_) (λ_=>?_)|refine bT ?_|fail))<;>try(conv=>whnf)
   ·rename_i hd;have hv:kX s.l=((n:Int),23):=Ox ab h0 aU (afo hx SI (λq h _=>absurd h x3) ((Fq h0 SI).2 λh=>by rw[di.2 h]at hd;cases hd)) ao;rw[hv]at hK;exact kM
   ·rename_i hd;have hz:=KD hx SI (λq h _=>absurd h x3) (λh=>(Fq h0 SI).1 h (di.1 (by simpa using hd)));exact⟨m-1,ab,n+1,L',⟨ab,λk hk=>by
     rcases zcG (zcI hk)with h1|h1
     ·exact h0 k h1
     ·rw[h1];exact hz,hL'.congr λc _=>(KY hx).symm⟩,rfl,rfl⟩
 ·(repeat'((conv=>whnf);first|refine⟨_,⟨s,rfl,agj ab (λj hj=>h0 j ab),rfl⟩,?_⟩|(refine fe ?_;first|refine aw ab ?_|refine de (λ_=>?_) (λ_=>?_)|refine⟨_,⟨_,_,rfl,rfl⟩,?_⟩|fail)))<;>try(conv=>whnf)
  ·rename_i hs;rw[Mo ab (λk hk=>h0 k ab),if_pos ab]at hK;exact kM
  ·rename_i hs;rw[Mo ab (λk hk=>h0 k ab),if_neg ab]at hK;exact kM
def Iy(n m:Int):Int:=0-(0-n)/m
def Jv(ps:List PV)(x:PV):Prop:=∃n m:Int,ps=[pI n,pI m]/\(0<m/\m<=1000000/\ -1000000000000<=n/\n<=1000000000000)/\x=pI (Iy n m)
def aB3{n m:Int}(h:0<m)(hn: -1000000000000<=n/\n<=1000000000000): -1000000000000<=n/m/\n/m<=1000000000000:=by
 have CV: -1000000000000<=n/m:=by
  rw[zc4 h];have: -1000000000000*m<= -1000000000000*1:=zcT ab ab;omega
 have t_:n/m<=1000000000000:=by
  by_cases hn:0<=n
  ·have:=zcx m hn;omega
  ·have:=zcV (show n<0 by omega) h;omega
 exact⟨CV,t_⟩
def alr:MT (ay [(122,ah Xv)]) Ln (ah Jv):=by
 rintro _ K ⟨_,⟨n,m,rfl,⟨h1,h2,h3,h4⟩,rfl⟩,hK⟩;have hb:=aB3 (n:=0-n) h1 ab
 (repeat'(refine iM ?_;first|refine bj ab ?_|refine⟨_,⟨_,_,rfl,cZ,rfl⟩,?_⟩|fail))<;>try(conv=>whnf)
 exact aG
def asA(ps:List PV)(x:PV):Prop:=∃b:Bool,ps=[pB b]/\x=pI (if b=true then 1 else 0)
def apt:MT (ay []) Pq (ah asA):=by
 rintro _ K ⟨_,⟨b,rfl,rfl⟩,hK⟩;cases b
 ·exact aG
 ·exact aG
def YX(ps:List PV)(p:Prop):Prop:=∃(l:List Int) (n:Int),ps=[.sl 1 (l.map pI),pI n]/\l.length<=1000000/\p=(n∈l)
def aqO:MT (ay []) ZL (bF YX):=by
 rintro _ K ⟨_,⟨l,x,rfl,hl,rfl⟩,hK⟩
 (conv=>whnf)
 refine⟨λm env σ=>∃(n:Nat),(n+m=l.length∧∀k,k<n->l[k]?≠some x)/\σ=[]/\env=[(0,.pv (.sl 1 (l.map pI))),eN 1 x,eN 5 n],l.length,⟨0,⟨ab,λk hk=>ab⟩,rfl,rfl⟩,?_⟩;rintro m env σ ⟨n,⟨hn,h0⟩,rfl,rfl⟩
 (repeat'((conv=>whnf);first|refine bj ab ?_|refine de (λ_=>?_) (λ_=>?_)|refine ez λ_=>?_|refine aii ab (λ_ _=>?_)|fail))<;>try(conv=>whnf)
 ·rename_i y hy he;exact⟨.pv (.bool _),rfl,trivial,hK true (by simp only[true_iff];exact he▸zag hy)⟩
 ·rename_i y hy he;exact⟨m-1,ab,n+1,⟨ab,λk hk hq=>by
   rcases zcG (zcI hk)with h1|h1
   ·exact h0 k h1 hq
   ·subst h1;rw[hy]at hq;cases hq;exact he rfl⟩,rfl,rfl⟩
 ·refine⟨.pv (.bool _),rfl,trivial,hK false ?_⟩;simp only[zct,false_iff];intro hx;obtain⟨k,hk⟩:=jk.1 hx;exact h0 k vg hk
def aJ(n:Int):Nat->List UInt8
 |0=>[]
 |k+1=>lV (n%256).toNat::aJ (n/256) k
def gL(k:Nat):∀n,(aJ n k).length=k:=by
 induction k with
 |zero=>intro n;rfl
 |succ k ih=>intro n;simp[aJ,ih]
def aam(k:Nat):∀n,aJ n (k+1)=aJ n k++[lV (n/256^k%256).toNat]:=by
 induction k with
 |zero=>intro n;simp[aJ]
 |succ k ih=>
  intro n;rw[aJ,ih (n/256),aJ,zcJ ao];simp[zcS,Int.mul_comm]
def u8P(n:Int):PV.int .u8 (n%256)=aL (lV (n%256).toNat):=ue ab
def Kd(ps:List PV)(x:PV):Prop:=∃(n:Int) (k:Nat),ps=[pI n,pI k]/\(0<=n/\n<=9223372036854775807/\k<=1000)/\x=.str (aJ n k)
def afU:MT (ay []) N1 (ah Kd):=by
 rintro _ K ⟨_,⟨n,k,rfl,⟨h1,h2,h3⟩,rfl⟩,hK⟩
 (conv=>whnf)
 refine⟨λm env σ=>∃(i:Nat) (q:Int),(i+m=k/\q=n/256^i/\0<=q/\q<=n)/\σ=[.row 5 1 true ((aJ n i).map aL)]/\env=[eN 0 q,eN 1 k,(5,.own 0),eN 6 i],k,⟨0,n,⟨ab,aj,ab,ab⟩,rfl,rfl⟩,?_⟩;rintro m env σ ⟨i,q,⟨hi,hq,hq0,rD⟩,rfl,rfl⟩;have bJ:=gL i n
 (repeat'((conv=>whnf);first|refine bj ab ?_|refine de (λ_=>?_) (λ_=>?_)|refine l7 ab ?_|refine lW ab ?_|refine U8 ab ?_|refine yR ?_|refine bT ?_|refine zcC cu ?_|fail))<;>try(conv=>whnf)
 ·refine⟨m-1,ab,i+1,q/256,⟨ab,?_,ab,ab⟩,?_,rfl⟩
  ·rw[hq,zcJ (zc6 ao),zcS]
  ·rw[aam,zbu,<-hq];exact congrArg (λx=>[dC.row 5 1 true (_++[x])]) (u8P q)
 ·have:i=k:=by omega
  subst this;exact bM
def IU(B:List UInt8)(at_:Nat)(bs:List UInt8):List UInt8:=B.take at_++bs++B.drop (at_+bs.length)
def auf{B bs:List UInt8}{at_:Nat}(h:at_+bs.length<=B.length):(IU B at_ bs).length=B.length:=by unfold IU;simp;omega
def ajN(B:List UInt8)(at_:Nat):IU B at_ []=B:=by unfold IU;simp
def aqR{B bs:List UInt8}{at_:Nat}{b:UInt8}(h:at_+bs.length<B.length):(IU B at_ bs).set (at_+bs.length) b=IU B at_ (bs++[b]):=by
 unfold IU;rw[zc5 _ _ aH];have e:at_+bs.length-(B.take at_++bs).length=0:=aH;rw[e,zcE h,List.set_cons_zero];simp[zaJ]
def aFx{n:Int}{K:Int->Prop}(k:K (n/256)):0<=(8:Int)∧∀r:Int,r=n.fdiv (2^min (8:Int).toNat IntKind.i64.bits)->K r:=by
 refine⟨ao,λr hr=>?_⟩;have e8:min (8:Int).toNat IntKind.i64.bits=8:=ao;rw[e8,zb7 _ ao]at hr;rw[hr];exact k
def ayY(xs:List AV)(σ:aF)(K:AV->aF->Prop):Prop:=∃(B:List UInt8) (at_ k:Nat) (n:Int),xs=[.own 0,.pv (pI at_),.pv (pI k),.pv (pI n)]/\(at_+k<=B.length/\B.length<=1000000)/\σ=[.row 5 1 true (B.map aL)]/\K (.tup []) [.row 5 1 true ((IU B at_ (aJ n k)).map aL)]
def apz:gO (ay []) yG (sB ayY):=by
 rintro _ _ K ⟨B,at_,k,n,rfl,⟨h1,h2⟩,rfl,hK⟩
 (conv=>whnf)
 refine⟨λm env σ=>∃(i:Nat),i+m=k/\σ=[.row 5 1 true ((IU B at_ (aJ n i)).map aL)]/\env=[(0,.own 0),eN 1 at_,eN 3 (n/256^i),eN 9 k,eN 10 i],k,⟨0,ab,by simp[aJ,ajN],aj⟩,?_⟩;rintro m env σ ⟨i,hi,rfl,rfl⟩;have bJ:=gL i n;have qG:=auf (B:=B) (at_:=at_) (bs:=aJ n i) ab
 (repeat'((conv=>whnf);first|refine aFx ?_|refine bj ab ?_|refine de (λ_=>?_) (λ_=>?_)|refine U8m ?_|refine Q3 ab ?_|refine aFU ab (λ_ _ _=>?_)|refine bT ?_|fail))<;>try(conv=>whnf)
 ·refine⟨m-1,ab,i+1,ab,?_,?_⟩
  ·rw[aam,<-aqR ab,<-oc,bJ];exact congrArg (λx=>[dC.row 5 1 true (List.set _ _ x)]) (u8P _)
  ·rw[zcS,<-zcJ (zc6 ao)];rfl
 ·have:i=k:=by omega
  subst this;exact hK
def fK(ps:List PV)(x:PV):Prop:=∃n:Int,ps=[pI n]/\(-1000000000000<=n/\n<=200000)/\x=.str (ai n.toNat)
def Ye:MT (ay []) Ha (ah fK):=by
 rintro _ K ⟨_,⟨n,rfl,h,rfl⟩,hK⟩
 (repeat'((conv=>whnf);first|refine fQ ?_|refine I8 ?_|refine wz ?_|refine⟨ai n.toNat,by unfold ai;rw[zcK,show(max 0 (min n 200000)).toNat=n.toNat by omega];rfl,?_⟩|fail))<;>try(conv=>whnf)
 exact bM
def jv(n:Int):Nat:=if-128<=n/\n<=127 then 1 else 2
def Y8(n:Int):List UInt8:=aJ n (jv n)
def agL(k:Nat):∀n:Int,aJ (n%256^k) k=aJ n k:=by
 induction k with
 |zero=>intro n;rfl
 |succ k ih=>
  intro n;have hp:(0:Int)<256^k:=Int.pow_pos ao;rw[aJ,aJ,zcS,Int.mul_comm];have e1:n%(256*256^k)%256=n%256:=Int.emod_emod_of_dvd _ (Int.dvd_mul_right _ _);have e2:n%(256*256^k)/256=n/256%256^k:=by
   rw[Int.emod_def,Int.mul_assoc,Int.sub_mul_ediv_left _ _ ao,Int.emod_def,zcJ ao]
  rw[e1,e2,ih]
def Ot(ps:List PV)(x:PV):Prop:=∃n:Int,ps=[pI n]/\(-1000000<=n/\n<=1000000)/\x=.str (Y8 n)
def Zo:MT (ay [(15,bF bG),(151,ah Kd),(28,ah nW)]) J9 (ah Ot):=by
 rintro _ K ⟨_,⟨n,rfl,h,rfl⟩,hK⟩;unfold Y8 jv at hK
 (repeat'((conv=>whnf);first|refine⟨_,⟨_,1,rfl,⟨ab,ab,ao⟩,rfl⟩,?_⟩|refine⟨_,⟨_,2,rfl,⟨ab,ab,ao⟩,rfl⟩,?_⟩|refine⟨_,⟨_,256,rfl,ao,rfl⟩,?_⟩|refine⟨_,⟨_,65536,rfl,ao,rfl⟩,?_⟩|(refine fe ?_;first|refine de (λ_=>?_) (λ_=>?_)|refine⟨_,⟨_,_,_,rfl,rfl⟩,?_⟩|fail)))<;>try(conv=>whnf)
 ·rename_i hc;rw[if_pos hc,<-agL 1 n]at hK;exact bM
 ·rename_i hc;rw[if_neg hc,<-agL 2 n]at hK;exact bM
def EQV{n v:Int}{K:Int->Prop}(h:n=v)(k:K v):∀r:Int,r=n->K r:=λr hr=>by rw[hr,h];exact k
def aaw(ps:List PV)(x:PV):Prop:=∃n:Int,ps=[pI n]/\(-32768<=n/\n<=32767)/\x=pI (jv n)
def afr:MT (ay [(206,bF bG)]) NN (ah aaw):=by
 rintro _ K ⟨_,⟨n,rfl,h,rfl⟩,hK⟩;unfold jv at hK
 (conv=>whnf)
 refine⟨λm env σ=>(m=1/\σ=[]/\env=[eN 0 n,eN 3 1])\/(m=0∧¬(-128<=n/\n<=127)/\σ=[]/\env=[eN 0 n,eN 3 2]),1,.inl ⟨rfl,rfl,rfl⟩,?_⟩;rintro m env σ (⟨rfl,rfl,rfl⟩|⟨rfl,hn,rfl,rfl⟩)
 ·(repeat'((conv=>whnf);first|refine EQV (v:= -128) ao ?_|refine EQV (v:=128) ao ?_|(refine fe ?_;first|refine bj ab ?_|refine aN ?_|refine bP ?_|refine de (λ_=>?_) (λ_=>?_)|refine bT ?_|refine⟨_,⟨_,_,_,rfl,rfl⟩,?_⟩|refine wz ?_|fail)))<;>try(conv=>whnf)
  ·rename_i hc;rw[if_pos ab]at hK;exact aG
  ·rename_i hc;exact⟨0,ao,.inr ⟨rfl,ab,rfl,rfl⟩⟩
 ·(repeat'((conv=>whnf);first|refine EQV (v:= -32768) ao ?_|refine EQV (v:=32768) ao ?_|(refine fe ?_;first|refine bj ab ?_|refine aN ?_|refine au ab ?_|refine bT ?_|refine⟨_,⟨_,_,_,rfl,rfl⟩,?_⟩|refine wz ?_|fail)))<;>try(conv=>whnf)
  rw[if_neg hn]at hK;exact aG
def l_(l:List UInt8):∀x∈l.map aL,x.flat:=by
 intro x hx;obtain⟨t,_,rfl⟩:=zaX.1 hx;trivial
def Z0(ps:List PV)(r:RV):Prop:=∃(n:Int) (k:Nat),ps=[pI n,pI k]/\k<=1000/\r=.fresh 5 1 ((aJ n k).map aL)
def agJ:MT (ay []) Od (c8 true Z0):=by
 rintro _ K ⟨_,⟨n,k,rfl,hk,rfl⟩,hK⟩
 (conv=>whnf)
 refine⟨λm env σ=>∃(i:Nat),i+m=k/\σ=[.row 5 1 true ((aJ n i).map aL)]/\env=[eN 0 (n/256^i),(5,.own 0),eN 6 k,eN 7 i],k,⟨0,ab,rfl,aj⟩,?_⟩;rintro m env σ ⟨i,hi,rfl,rfl⟩;have bJ:=gL i n
 (repeat'((conv=>whnf);first|refine aFx ?_|refine bj ab ?_|refine de (λ_=>?_) (λ_=>?_)|refine U8m ?_|refine bT ?_|refine zcC cu ?_|fail))<;>try(conv=>whnf)
 ·refine⟨m-1,ab,i+1,ab,?_,?_⟩
  ·rw[aam,zbu];exact congrArg (λx=>[dC.row 5 1 true (_++[x])]) (u8P _)
  ·rw[zcS,<-zcJ (zc6 ao)];rfl
 ·have:i=k:=by omega
  subst this;exact⟨.fresh _ _ _,⟨rfl,rfl,rfl,rfl⟩,l_ _,hK⟩
def wB(ps:List PV)(x:PV):Prop:=∃ls:List Rs,ps=[.sl 1 (ls.map qF)]/\ls.length<=100/\x=pI (bQ (ls.map λs=>dU s.l))
def ac2:MT (ay [(194,c8 true aae)]) J3 (ah wB):=by
 rintro _ K ⟨_,⟨ls,rfl,hl,rfl⟩,hK⟩
 (repeat'((conv=>whnf);first|refine ez λ_=>?_|fail))<;>try(conv=>whnf)
 refine⟨λm env σ=>∃(n:Nat),(n+m=ls.length∧∀j,j<n->(ls.map λs=>dU s.l)[j]?=some 0)/\σ=[]/\env=[(7,.pv (.sl 1 (ls.map qF))),eN 8 ls.length,eN 9 n],ls.length,⟨0,⟨ab,λj hj=>ab⟩,rfl,aj⟩,?_⟩;rintro m env σ ⟨n,⟨hn,h0⟩,rfl,rfl⟩;by_cases aU:n<ls.length
 ·obtain⟨s,hs⟩:∃s,ls[n]?=some s:=⟨_,zah aU⟩
  have hg:(ls.map λs=>dU s.l)[n]?=some (dU s.l):=by rw[za9,hs];rfl
  (repeat'((conv=>whnf);first|refine iY hs ?_|refine⟨_,⟨s,rfl,rfl⟩,?_⟩|rw[Sl.cells]|refine bj ab ?_|refine au ab ?_|refine de (λ_=>?_) (λ_=>?_)|fail))<;>try(conv=>whnf)
  ·rename_i cb;rw[ke _ n h0,zcE (eT hg)]at hK;rw[zah (eT hg)]at hg;rw[Option.some.inj hg]at hK;simp only[bQ]at hK;rw[if_neg (show ¬dU s.l=0 from cb)]at hK;exact aG
  ·rename_i cb;refine⟨m-1,ab,n+1,⟨ab,λj hj=>?_⟩,rfl,rfl⟩;by_cases nd:j<n
   ·exact h0 j nd
   ·rw[show j=n by omega,hg];exact congrArg some (by unfold dU;simpa using cb)
 ·(repeat'((conv=>whnf);first|refine aw ab ?_|fail))<;>try(conv=>whnf)
  rw[ke _ n h0,zb8 aH]at hK;exact aG
def acT(st:List UInt8×Int)(r:Rn):List UInt8×Int:=
 if r.s= -1 then(st.1++aJ (jv r.n) 1++Y8 r.n,st.2)
 else(st.1++aJ (jv r.n+16*jv (r.s-st.2)) 1++Y8 r.n++Y8 (r.s-st.2),r.s)
def Cn(l:List Rn)(n:Nat):List UInt8×Int:=(l.take n).foldl acT ([],0)
def tD{l:List Rn}{n:Nat}{x:Rn}(h:l[n]?=some x):Cn l (n+1)=acT (Cn l n) x:=by
 unfold Cn;rw[zcF,h,List.foldl_append];rfl
def qL(l:List Rn):List UInt8:=(Cn l l.length).1++[0]
def afG(n:Int):(Y8 n).length=jv n:=gL _ _
def SV(n:Int):1<=jv n/\jv n<=2:=by unfold jv;split<;>omega
def JP(l:List Rn):∀n,n<=l.length->(Cn l n).1.length<=5*n:=by
 intro n
 induction n with
 |zero=>intro _;simp[Cn]
 |succ n ih=>
  intro h;rw[tD (zah (show n<l.length by omega))];have:=ih ab;have h1:=SV l[n].n;have h2:=SV (l[n].s-(Cn l n).2);unfold acT;split<;>simp only[zad,afG,gL]<;>omega
def adP{l:List Rn}(h:∀r∈l,jZ r):∀n,n<=l.length->0<=(Cn l n).2/\(Cn l n).2<=511:=by
 intro n
 induction n with
 |zero=>intro _;simp[Cn]
 |succ n ih=>
  intro hn;rw[tD (zah (show n<l.length by omega))];have:=ih ab;have h1:=h _ (zdh (show n<l.length by omega));unfold jZ at h1;unfold acT;split
  ·exact this
  ·rename_i hc;rw[if_neg hc]at h1;show 0<=l[n].s/\l[n].s<=511;omega
def bZ{l:List Rn}(h:dU l=0):l.length<=64/\(∀k,k<l.length->Wx l k=0)/\bI l<=4096∧∀r∈l,jZ r:=by
 unfold dU kX at h;split at h
 ·cases h
 rename_i h1;split at h
 ·rename_i h2;exact absurd h h2
 rename_i h2;have h3:=apf iT;refine⟨ab,h3,?_,λr hr=>?_⟩
 ·simp only at h;split at h
  ·assumption
  ·cases h
 ·obtain⟨i,hi⟩:=jk.1 hr;exact Jr hi (h3 i (eT hi))
def aJs{d:Int}{K:Int->Prop}(h:0<=d/\d<=1000)(k:K (d*16)):0<=(4:Int)∧∀r:Int,r=IntKind.i64.wrap (d*2^min (4:Int).toNat IntKind.i64.bits)->K r:=by
 refine⟨ao,λr hr=>?_⟩;have e8:(2:Int)^min (4:Int).toNat IntKind.i64.bits=16:=ao;rw[e8,wrap64 ab]at hr;rw[hr];exact k
def ORH{d s:Int}{K:Int->Prop}(h:0<=d/\d<=1000)(hs:0<=s/\s<16)(k:K (s+16*d)):∀r:Int,r=iz .or .i64 (d*16) s->K r:=λr hr=>by
 obtain⟨m,rfl⟩:=zcO h.1;obtain⟨n,rfl⟩:=zcO hs.1;have e:((m:Int)*16)=((2^4*m:Nat):Int):=aH;rw[e,axa ab ab,Nat.or_comm,O7 (k:=4) ab]at hr;rw[hr];have:(((n+2^4*m:Nat)):Int)=(n:Int)+16*(m:Int):=aj;rw[this];exact k
def ayZ{v:Int}(h:0<=v/\v<256):PV.int .u8 v=aL (lV (v%256).toNat):=by rw[<-u8P,Int.emod_eq_of_lt h.1 h.2]
def axR(s:Rs):ahB 1 [qF s]=true:=by cases s<;>rfl
def G7(ps:List PV)(r:RV):Prop:=∃s:Rs,ps=[qF s]/\r=.tup [.pv (.str (if dU s.l=0 then qL s.l else[])),.pv (pI (dU s.l))]
def Uu:MT (ay [(155,ah wB),(209,bF BJ),(241,ah aaw),(242,c8 true Z0)]) C5 (c8 true G7):=by
 rintro _ K ⟨_,⟨s,rfl,rfl⟩,hK⟩;have hf:bQ (([s]:List Rs).map λs=>dU s.l)=dU s.l:=by simp only[List.map_cons,List.map_nil,bQ];split<;>simp_all
 (repeat'((conv=>whnf);first|refine zcC (axR s) ?_|(refine fe ?_;refine⟨_,⟨[s],rfl,aj,rfl⟩,?_⟩)|refine KP ?_|refine de (λ_=>?_) (λ_=>?_)|refine ez λ_=>?_|fail))<;>try(conv=>whnf)
 ·rename_i cb;replace cb:dU s.l≠0:=hf▸cb;rw[if_neg cb,<-hf]at hK;exact kM
 rename_i hz _;have hz:dU s.l=0:=by refine Classical.byContradiction λh=>hz ?_;rw[hf];exact h
 rw[hz,if_pos rfl]at hK;obtain⟨hl,_,_,di⟩:=bZ hz;refine⟨λm env σ=>∃(n:Nat),(n+m=s.l.length)/\σ=[.row 5 1 true ((Cn s.l n).1.map aL)]/\env=[(5,.own 0),eN 6 (Cn s.l n).2,(17,.pv (qF s)),eN 18 s.l.length,eN 19 n],s.l.length,⟨0,ab,rfl,by simp[Cn]⟩,?_⟩;rintro m env σ ⟨n,hn,rfl,rfl⟩;have hlen:=JP s.l n ab;have Vu:=adP di n ab;by_cases aU:n<s.l.length
 ·obtain⟨x,hx⟩:∃x,s.l[n]?=some x:=⟨_,zah aU⟩
  have hxo:=di x (zag hx);have hxb:(1<=x.n/\x.n<=4096)/\(x.s≠ -1->0<=x.s/\x.s<=511):=ajM;have h1:=SV x.n;have h2:=SV (x.s-(Cn s.l n).2);have h3:=gL (jv x.n) x.n;have h4:=gL (jv (x.s-(Cn s.l n).2)) (x.s-(Cn s.l n).2)
  (repeat'((conv=>whnf);first|refine Ek hx ?_|refine aJs ab ?_|refine ORH ab ab ?_|refine⟨_,⟨_,_,rfl,ab,rfl⟩,?_⟩|refine⟨_,⟨x,rfl,rfl⟩,?_⟩|refine zcC (by(simp only[zad,zav,zam,zaY,gL];omega)) ?_|(refine fe ?_;first|refine bj ab ?_|refine aN ?_|refine bP ?_|refine au ab ?_|refine aw ab ?_|refine de (λ_=>?_) (λ_=>?_)|refine U8 ab ?_|refine bT ?_|refine⟨_,⟨_,rfl,cZ,rfl⟩,?_⟩|fail)))<;>try(conv=>whnf)
  ·rename_i hc;refine⟨m-1,ab,n+1,ab,?_,?_⟩
   ·rw[tD hx];unfold acT;rw[if_pos hc];simp only[zbu];exact congrArg (λz=>[dC.row 5 1 true (_++[z]++_)]) (ayZ (v:=jv x.n) ab)
   ·rw[tD hx];unfold acT;rw[if_pos hc];rfl
  ·rename_i hc;refine⟨m-1,ab,n+1,ab,?_,?_⟩
   ·rw[tD hx];unfold acT;rw[if_neg hc];simp only[zbu];exact congrArg (λz=>[dC.row 5 1 true (_++[z]++_++_)]) (ayZ (v:=jv x.n+16*jv (x.s-(Cn s.l n).2)) ab)
   ·rw[tD hx];unfold acT;rw[if_neg hc];rfl
 ·(repeat'((conv=>whnf);first|refine zcC (by(simp only[zad,zav,zam,zaY];omega)) ?_|(refine fe ?_;refine⟨(Cn s.l n).1++[0],by simp[aL],?_⟩)|refine aw ab ?_|refine bT ?_|fail))<;>try(conv=>whnf)
  rw[qL,<-show n=s.l.length by omega]at hK;exact kM
def Px(ps:List PV)(x:PV):Prop:=∃s:Rs,ps=[qF s]/\dU s.l=0/\x=.str (qL s.l)
def abv:MT (ay [(202,ah Ot),(151,ah Kd),(82,ah fK)]) JB (ah Px):=by
 rintro _ K ⟨_,⟨s,rfl,hz,rfl⟩,hK⟩;obtain⟨hl,_,_,di⟩:=bZ hz
 (conv=>whnf)
 refine⟨λm env σ=>∃(n:Nat),(n+m=s.l.length)/\σ=[]/\env=[(0,.pv (qF s)),(3,.pv (.str (Cn s.l n).1)),eN 4 (Cn s.l n).2,eN 5 n],s.l.length,⟨0,ab,rfl,by simp[Cn]⟩,?_⟩;rintro m env σ ⟨n,hn,rfl,rfl⟩;have hlen:=JP s.l n ab;have Vu:=adP di n ab;by_cases aU:n<s.l.length
 ·obtain⟨x,hx⟩:∃x,s.l[n]?=some x:=⟨_,zah aU⟩
  have hxo:=di x (zag hx);have hxb:(1<=x.n/\x.n<=4096)/\(x.s≠ -1->0<=x.s/\x.s<=511):=ajM;have h1:=SV x.n;have h2:=SV (x.s-(Cn s.l n).2);have h3:=afG x.n;have h4:=afG (x.s-(Cn s.l n).2)
  (repeat'((conv=>whnf);first|refine KP ?_|refine Ek hx ?_|refine⟨_,⟨_,1,rfl,ab,rfl⟩,?_⟩|refine zcC (by(simp only[zad,gL];omega)) ?_|(refine fe ?_;first|refine bj ab ?_|refine au ab ?_|refine de (λ_=>?_) (λ_=>?_)|refine ez λ_=>?_|refine⟨_,⟨_,rfl,cZ,rfl⟩,?_⟩|fail)))<;>try(conv=>whnf)
  ·rename_i hc;refine⟨m-1,ab,n+1,ab,rfl,?_⟩;rw[tD hx];unfold acT;rw[if_pos hc,<-h3];rfl
  ·rename_i hc;refine⟨m-1,ab,n+1,ab,rfl,?_⟩;rw[tD hx];unfold acT;rw[if_neg hc,<-h3,<-h4];rfl
 ·(repeat'((conv=>whnf);first|refine KP ?_|refine zcC (by(simp only[zad,ai,zap];omega)) ?_|refine⟨_,⟨1,rfl,ao,rfl⟩,?_⟩|refine aw ab ?_|refine ez λ_=>?_|fail))<;>try(conv=>whnf)
  rw[qL,<-show n=s.l.length by omega]at hK;exact bM
end Go.Dv.Try
namespace Go.Dv.Try
open Go Go.Dv Go.RowKit
section
def aoL:List UInt8:=[34,42,47,58,60,62,63,92,124]
def Sb(c:UInt8):Prop:=(32<=c.toNat/\c.toNat<=126)/\c∉aoL
instance (c:UInt8):Decidable (Sb c):=by unfold Sb;infer_instance
def GW(s:List UInt8):Prop:=s≠[]/\(∀b∈s,Sb b)/\s.getLast?≠some 32/\s.getLast?≠some 46
instance (s:List UInt8):Decidable (GW s):=by unfold GW;infer_instance
def Zc(s:List UInt8):Int:=if 32<s.length then 8 else if GW s then 0 else 4
def fy(s:List UInt8):Prop:=s=[]\/Zc s=0
instance (s:List UInt8):Decidable (fy s):=by unfold fy;infer_instance
def ixb(l:List UInt8)(c:UInt8):Lib.indexByte l c<0↔c∉l:=by
 constructor
 ·intro h hc;have h1:=Lib.indexByte_ge l c;obtain⟨k,hk⟩:=jk.1 hc;exact Lib.indexByte_none (show Lib.indexByte l c= -1 by omega) k hk
 ·intro h;refine Classical.byContradiction λhn=>?_
  have:=(Lib.indexByte_some (l:=l) (c:=c) (o:=(Lib.indexByte l c).toNat) ab).1;exact h (zag this)
def Wb:MT (ay [(289,ah qc)]) zR (ah qc):=by
 rintro _ K ⟨_,⟨l,c,rfl,rfl⟩,hK⟩
 (repeat'((conv=>whnf);first|refine⟨_,⟨l,c,rfl,rfl⟩,?_⟩|fail))<;>try(conv=>whnf)
 exact aG
def L8(ps:List PV)(p:Prop):Prop:=∃c:UInt8,ps=[aL c]/\p=Sb c
def RU:MT (ay [(280,ah qc)]) zt (bF L8):=by
 rintro _ K ⟨_,⟨c,rfl,rfl⟩,hK⟩;have hc:=ixb aoL c
 (repeat'((conv=>whnf);first|refine⟨_,⟨aoL,c,rfl,rfl⟩,?_⟩|refine de (λ_=>?_) (λ_=>?_)|fail))<;>try(conv=>whnf)
 all_goals exact⟨.pv (.bool _),rfl,trivial,hK _ (by unfold Sb;rw[<-hc];simp only[zct,true_iff,false_iff];omega)⟩
def WD{α:Type}(p:α->Prop)[DecidablePred p]:List α->Int
 |[]=> -1
 |a::l=>if p a then 0 else if WD p l<0 then-1 else WD p l+1
section
variable {α:Type} {p:α->Prop} [DecidablePred p]
def aaK{l:List α}(h:∀x∈l,¬p x):WD p l= -1:=by
 induction l with
 |nil=>rfl
 |cons a l ih=>unfold WD;rw[if_neg (h a aj),ih (λx hx=>h x iP)];rfl
def alT{l:List α}{i:Nat}{x:α}(h0:∀j,j<i→∀y,l[j]?=some y→¬p y)(hx:l[i]?=some x)(hp:p x):WD p l=i:=by
 induction i generalizing l with
 |zero=>
  cases l with
  |nil=>simp at hx
  |cons a l=>simp at hx;subst hx;unfold WD;rw[if_pos hp];rfl
 |succ i ih=>
  cases l with
  |nil=>simp at hx
  |cons a l=>
   have:=ih (l:=l) (λj hj y hy=>h0 (j+1) ab y (by simpa using hy)) (by simpa using hx);unfold WD;rw[if_neg (h0 0 ab a rfl),this,if_neg ab];omega
def Az(l:List α):(WD p l= -1∧∀x∈l,¬p x)∨∃i x,WD p l=((i:Nat):Int)/\l[i]?=some x/\p x∧∀j,j<i→∀y,l[j]?=some y→¬p y:=by
 induction l with
 |nil=>exact .inl ⟨rfl,λx h=>bV⟩
 |cons a l ih=>
  by_cases ha:p a
  ·exact .inr ⟨0,a,by unfold WD;rw[if_pos ha];rfl,rfl,ha,λj h=>ab⟩
  ·rcases ih with⟨h1,h2⟩|⟨i,x,h1,h2,h3,h4⟩
   ·refine .inl ⟨by unfold WD;rw[if_neg ha,h1];rfl,λx hx=>?_⟩;rcases zaw.1 hx with rfl|hx
    ·exact ha
    ·exact h2 x hx
   ·refine .inr ⟨i+1,x,by unfold WD;rw[if_neg ha,h1,if_neg ab];omega,iT,h3,λj hj y hy=>?_⟩;cases j with
    |zero=>simp at hy;subst hy;exact ha
    |succ j=>exact h4 j ab y (by simpa using hy)
def axC(l:List α):WD p l<0↔∀x∈l,¬p x:=by
 rcases Az (p:=p) l with⟨h1,h2⟩|⟨i,x,h1,h2,h3,_⟩
 ·rw[h1];exact⟨λ_=>h2,λ_=>ao⟩
 ·rw[h1];exact⟨λh=>ab,λh=>absurd h3 (h x (zag h2))⟩
def ak7(l:List α):0<=WD p l↔∃x∈l,p x:=by
 have:=axC (p:=p) l;constructor
 ·intro h;refine Classical.byContradiction λhn=>?_
  have:=this.2 (λx hx hp=>hn ⟨x,hx,hp⟩);omega
 ·rintro⟨x,hx,hp⟩;refine Classical.byContradiction λhn=>?_
  exact this.1 ab x hx hp
end
def O9(ps:List PV)(p:Prop):Prop:=∃c:UInt8,ps=[aL c,.cptr (.clo 263 [])]/\p=¬Sb c
def RS:MT (ay [(263,bF L8)]) zJ (bF O9):=by
 rintro _ K ⟨_,⟨c,rfl,rfl⟩,hK⟩
 (repeat'((conv=>whnf);first|refine⟨_,⟨c,rfl,rfl⟩,?_⟩|refine aN ?_|refine bP ?_|refine de (λ_=>?_) (λ_=>?_)|fail))<;>try(conv=>whnf)
 all_goals exact yj
abbrev aa2:PV:=.clo 279 [.cptr (.clo 263 [])]
def HK(ps:List PV)(x:PV):Prop:=∃l:List UInt8,ps=[.sl 1 (l.map aL),aa2]/\l.length<=1000000/\x=pI (WD (λc=>¬Sb c) l)
def Un:MT (ay [(279,bF O9)]) oO (ah HK):=by
 rintro _ K ⟨_,⟨l,rfl,hl,rfl⟩,hK⟩
 (repeat'((conv=>whnf);first|refine ez λ_=>?_|fail))<;>try(conv=>whnf)
 refine⟨λm env σ=>∃n:Nat,(n+m=l.length∧∀j,j<n→∀y,l[j]?=some y→¬ ¬Sb y)/\σ=[]/\env=[(0,.pv (.sl 1 (l.map aL))),(1,.pv aa2),eN 7 l.length,eN 8 n],l.length,⟨0,⟨ab,λj hj=>ab⟩,rfl,rfl⟩,?_⟩;rintro m env σ ⟨n,⟨hn,h0⟩,rfl,rfl⟩
 (repeat'((conv=>whnf);first|refine⟨_,⟨_,rfl,rfl⟩,?_⟩|refine bj ab ?_|refine de (λ_=>?_) (λ_=>?_)|refine aGn ab (λ_ _ _=>?_)|fail))<;>try(conv=>whnf)
 ·rename_i x hx _ h;exact⟨.pv (pI _),bu (alT h0 hx h),trivial,hK⟩
 ·rename_i x hx _ h;refine⟨m-1,ab,n+1,⟨ab,λj hj y hy=>?_⟩,rfl,rfl⟩;rcases zcG (zcI hj)with h1|h1
  ·exact h0 j h1 y hy
  ·subst h1;rw[hx]at hy;cases hy;exact h
 ·refine⟨.pv (pI _),bu (aaK λx hx=>?_),trivial,hK⟩;obtain⟨k,hk⟩:=jk.1 hx;exact h0 k vg x hk
def yH(ps:List PV)(p:Prop):Prop:=∃l:List UInt8,ps=[.sl 1 (l.map aL),aa2]/\l.length<=1000000/\p=∃c∈l,¬Sb c
def Nq:MT (ay [(288,ah HK)]) mr (bF yH):=by
 rintro _ K ⟨_,⟨l,rfl,hl,rfl⟩,hK⟩;rw[<-ak7]at hK
 (repeat'((conv=>whnf);first|refine⟨_,⟨l,rfl,hl,rfl⟩,?_⟩|refine de (λ_=>?_) (λ_=>?_)|fail))<;>try(conv=>whnf)
 all_goals exact JH
def OW(ps:List PV)(p:Prop):Prop:=∃l:List UInt8,ps=[.str l,.clo 263 []]/\l.length<=1000000/\p=∀c∈l,Sb c
def ZY:MT (ay [(278,bF yH)]) FX (bF OW):=by
 rintro _ K ⟨_,⟨l,rfl,hl,rfl⟩,hK⟩;have e:(∀c∈l,Sb c)↔¬ ∃c∈l,¬Sb c:=aj;rw[e]at hK
 (repeat'((conv=>whnf);first|refine⟨_,⟨l,rfl,hl,rfl⟩,?_⟩|refine aN ?_|refine bP ?_|refine de (λ_=>?_) (λ_=>?_)|refine wz ?_|fail))<;>try(conv=>whnf)
 all_goals exact yj
def AM(ps:List PV)(p:Prop):Prop:=∃(s:List UInt8) (b:UInt8),ps=[.str s,.str [b]]/\s.length<=1000000/\p=(s.getLast?=some b)
def apM(s:List UInt8)(b:UInt8):(1<=s.length/\s.drop (s.length-1)=[b])↔s.getLast?=some b:=by
 constructor
 ·rintro⟨h1,h2⟩;rw[<-zaD (s.length-1) s,h2];simp
 ·intro h;have cb:s≠[]:=λe=>by subst e;simp at h
  have h1:0<s.length:=zcH.2 cb;refine⟨ab,?_⟩;rw[zcW]at h;rw[zcE (show s.length-1<s.length by omega),zb8 ab];rw[zah (show s.length-1<s.length by omega)]at h;simpa using h
def Uk:MT (ay []) lG (bF AM):=by
 rintro _ K ⟨_,⟨s,b,rfl,hs,rfl⟩,hK⟩;rw[<-apM]at hK;have hl:([b]:List UInt8).length=1:=rfl;have e:cut ((s.length:Int)-(([b]:List UInt8).length:Int)).toNat s.length s=s.drop (s.length-1):=by
  rw[hl,show((s.length:Int)-((1:Nat):Int)).toNat=s.length-1 by omega];unfold cut;rw[zcN]
 (repeat'((conv=>whnf);first|refine bj ab ?_|refine de (λ_=>?_) (λ_=>?_)|refine wz ?_|fail))<;>try(conv=>whnf)
 ·rename_i h1 h2;exact⟨.pv (.bool _),rfl,trivial,hK _ (by simp only[true_iff];exact⟨ab,e▸h2⟩)⟩
 ·rename_i h1 h2;exact⟨.pv (.bool _),rfl,trivial,hK _ (by simp only[zct,false_iff];rw[<-e];exact λh=>h2 h.2)⟩
 ·rename_i h1;exact⟨.pv (.bool _),rfl,trivial,hK _ (by simp only[zct,false_iff];omega)⟩
def Wt:MT (ay [(281,bF AM)]) zT (bF AM):=by
 rintro _ K ⟨_,⟨s,b,rfl,hs,rfl⟩,hK⟩
 (repeat'((conv=>whnf);first|refine⟨_,⟨s,b,rfl,hs,rfl⟩,?_⟩|refine de (λ_=>?_) (λ_=>?_)|fail))<;>try(conv=>whnf)
 all_goals exact yj
def Uw(ps:List PV)(p:Prop):Prop:=∃s:List UInt8,ps=[.str s]/\p=(GW s/\s.length<=32)
def adg:MT (ay [(262,bF OW),(264,bF AM)]) H3 (bF Uw):=by
 rintro _ K ⟨_,⟨s,rfl,rfl⟩,hK⟩;unfold GW at hK
 (repeat'((conv=>whnf);first|refine⟨_,⟨s,rfl,ab,rfl⟩,?_⟩|refine⟨_,⟨s,32,rfl,ab,rfl⟩,?_⟩|refine⟨_,⟨s,46,rfl,ab,rfl⟩,?_⟩|refine aN ?_|refine bP ?_|refine de (λ_=>?_) (λ_=>?_)|fail))<;>try(conv=>whnf)
 ·rename_i h;exact abq
 ·rename_i h;exact abq
 ·rename_i h1 h2 h3 h4 h5 h6;exact⟨.pv (.bool _),rfl,trivial,hK _ (by simp only[true_iff];exact⟨⟨h1,h3,h5,h6⟩,ab⟩)⟩
 ·rename_i h;have h:s=[46,46]:=zcD.1 h;exact⟨.pv (.bool _),rfl,trivial,hK _ (by subst h;simp)⟩
 ·rename_i h;exact⟨.pv (.bool _),rfl,trivial,hK _ (by simp only[zct,false_iff];exact λg=>h g.1.2.1)⟩
 ·rename_i h;exact⟨.pv (.bool _),rfl,trivial,hK _ (by simp only[zct,false_iff];exact λg=>h ab)⟩
 ·rename_i h;exact⟨.pv (.bool _),rfl,trivial,hK _ (by simp only[zct,false_iff];exact λg=>h g.1.1)⟩
def LY(ps:List PV)(x:PV):Prop:=∃s:List UInt8,ps=[.str s]/\x=pI (Zc s)
def VR:MT (ay [(236,ah dG),(237,bF Uw),(235,ah gB)]) C7 (ah LY):=by
 rintro _ K ⟨_,⟨s,rfl,rfl⟩,hK⟩;unfold Zc at hK
 (repeat'((conv=>whnf);first|refine⟨_,⟨s,rfl,rfl⟩,?_⟩|refine⟨_,⟨_,_,rfl,rfl⟩,?_⟩|refine⟨_,⟨[_,_],rfl,rfl⟩,?_⟩|refine aw ab ?_|refine de (λ_=>?_) (λ_=>?_)|refine bT ?_|fail))<;>try(conv=>whnf)
 ·rename_i h1 h2;rw[if_neg ab,if_pos h2.1]at hK;exact aG
 ·rename_i h1 h2;rw[if_neg ab,if_neg (λh=>h2 ⟨h,ab⟩)]at hK;exact aG
 ·rename_i h1;rw[if_pos ab]at hK;exact aG
end
end Go.Dv.Try
namespace Go.Dv.Try
open Go Go.Dv
def ac5:MT (ay []) Oa (bF L8):=by
 rintro _ K ⟨_,⟨c,rfl,rfl⟩,hK⟩;unfold Sb at hK;have hc:=c.toNat_lt
 (repeat'((conv=>whnf);first|refine de (λ_=>?_) (λ_=>?_)|fail))<;>try(conv=>whnf)
 ·exact YS
 ·exact YS
 refine⟨λm env σ=>∃n:Nat,(n+m=9∧∀j,j<n->aoL[j]?≠some c)/\σ=[]/\env=[(0,.pv (aL c)),eN 3 n],9,⟨0,⟨ab,λj hj=>ab⟩,rfl,rfl⟩,?_⟩;rintro m env σ ⟨n,⟨hn,h0⟩,rfl,rfl⟩;have hb9:aoL.length=9:=rfl
 (repeat'((conv=>whnf);first|(refine aJv (l:=aoL) ab (λ_ _=>?_))|refine bj ab ?_|refine de (λ_=>?_) (λ_=>?_)|fail))<;>try(conv=>whnf)
 ·rename_i x hx he;have he:x=c:=zc3.1 ab;exact⟨.pv (.bool _),rfl,trivial,hK _ (by simp only[zct,false_iff];exact λh=>h.2 (he▸zag hx))⟩
 ·rename_i x hx he;refine⟨m-1,ab,n+1,⟨ab,λj hj hq=>?_⟩,rfl,rfl⟩;rcases zcG (zcI hj)with h1|h1
  ·exact h0 j h1 hq
  ·subst h1;rw[zaC,hq]at hx;cases hx;exact he rfl
 ·refine⟨.pv (.bool _),rfl,trivial,hK _ ?_⟩;simp only[true_iff];refine⟨ab,λhc=>?_⟩;obtain⟨k,hk⟩:=jk.1 hc;exact h0 k vg hk
def adB:MT (ay [(200,bF L8)]) Io (ah LY):=by
 rintro _ K ⟨_,⟨s,rfl,rfl⟩,hK⟩;by_cases h0:s=[]
 ·subst h0
  (repeat'((conv=>whnf);first|refine au ao ?_|refine aw ao ?_|fail))<;>try(conv=>whnf)
  exact aG
 have Gq:0<s.length:=zcH.2 h0;obtain⟨b,hb⟩:∃b,s[s.length-1]?=some b:=⟨_,zah ab⟩
 have Vu:s.getLast?=some b:=by rw[zcW];exact hb
 have bad:(¬32<s.length)→¬GW s->K (.pv (pI 4)):=λh1 h2=>by unfold Zc at hK;rw[if_neg h1,if_neg h2]at hK;exact hK
 (repeat'((conv=>whnf);first|refine⟨b,⟨ab,by rw[show((s.length:Int)-1).toNat=s.length-1 by omega];exact hb⟩,?_⟩|refine bj ab ?_|refine aw ab ?_|refine de (λ_=>?_) (λ_=>?_)|fail))<;>try(conv=>whnf)
 ·rename_i h;unfold Zc at hK;rw[if_pos ab]at hK;exact aG
 ·rename_i h1 h2;have h2:s=[46]:=h2;exact⟨.pv (pI _),rfl,trivial,bad ab (by subst h2;unfold GW;simp)⟩
 ·rename_i h1 _ h2;have h2:s=[46,46]:=h2;exact⟨.pv (pI _),rfl,trivial,bad ab (by subst h2;unfold GW;simp)⟩
 ·rename_i h1 _ _ h2;have h2:b=32:=zc3.1 (by rw[show(32:UInt8).toNat=32 from rfl];omega);exact⟨.pv (pI _),rfl,trivial,bad ab (by subst h2;exact λh=>h.2.2.1 Vu)⟩
 ·rename_i h1 _ _ _ h2;have h2:b=46:=zc3.1 (by rw[show(46:UInt8).toNat=46 from rfl];omega);exact⟨.pv (pI _),rfl,trivial,bad ab (by subst h2;exact λh=>h.2.2.2 Vu)⟩
 rename_i g1 _ _ g2 g3;refine⟨λm env σ=>∃n:Nat,(n+m=s.length∧∀j,j<n→∀y,s[j]?=some y->Sb y)/\σ=[]/\env=[(0,.pv (.str s)),eN 3 n],s.length,⟨0,⟨ab,λj hj=>ab⟩,rfl,rfl⟩,?_⟩;rintro m env σ ⟨n,⟨hn,hl⟩,rfl,rfl⟩
 (repeat'((conv=>whnf);first|refine⟨_,⟨_,rfl,rfl⟩,?_⟩|refine bj ab ?_|refine aN ?_|refine bP ?_|refine de (λ_=>?_) (λ_=>?_)|refine aJD ab (λ_ _ _=>?_)|fail))<;>try(conv=>whnf)
 ·rename_i x hx _ vR;refine⟨m-1,ab,n+1,⟨ab,λj hj y hy=>?_⟩,rfl,rfl⟩;rcases zcG (zcI hj)with h1|h1
  ·exact hl j h1 y hy
  ·subst h1;rw[zaC,hy]at hx;cases hx;first|exact vR|exact zcD.1 vR
 ·rename_i x hx _ vR;exact⟨.pv (pI _),rfl,trivial,bad ab (λh=>vR (h.2.1 x (zag hx)))⟩
 ·have di:GW s:=by
   refine⟨h0,λy hy=>?_,?_,?_⟩
   ·obtain⟨k,hk⟩:=jk.1 hy;exact hl k vg y hk
   ·rw[Vu];intro h;cases h;exact g2 rfl
   ·rw[Vu];intro h;cases h;exact g3 rfl
  unfold Zc at hK;rw[if_neg ab,if_pos di]at hK;exact aG
def S3:List Int:=[16,32,48,64,96,112,128,144,160,176,192]
def VG:List Int:=[16,48,96,112,144]
def Tf(a:At):Prop:=a.ft=0/\a.al=0/\a.sz=0/\a.vd=0
instance (a:At):Decidable (Tf a):=by unfold Tf;infer_instance
def Hy(a:At):Int:=if ¬(a.rn.l.length=0/\Tf a)then 3 else if 400<a.vl.length then 8 else 0
def pL(a:At):Prop:=(0<=a.al/\a.al<=1048576)/\(0<=a.sz/\a.sz<=1048576)/\(0<=a.vd/\a.vd<=1048576)
instance (a:At):Decidable (pL a):=by unfold pL;infer_instance
def GG(a:At):Int:=
 if a.ty∈VG then 20 else if a.vl≠[]then 3 else if ¬(0<=a.ft/\a.ft<=4096)then 2 else
 if dU a.rn.l≠0 then dU a.rn.l else if 0<a.ft/\a.rn.l.length=0 then 17 else
 if 4096<a.ft+bI a.rn.l then 8 else if 0<a.ft∧¬(a.al=0/\a.sz=0/\a.vd=0)then 3 else
 if ¬pL a then 2 else if a.sz<a.vd then 9 else 0
def yi(a:At):Prop:=(0<=a.id/\a.id<=65535)/\(0<=a.fl/\a.fl<=7)
instance (a:At):Decidable (yi a):=by unfold yi;infer_instance
def Iv(a:At):Int:=if a.rs=true then Hy a else GG a
def TI(a:At):Int:=if a.ty∉S3 then 15 else if ¬fy a.nm then 4 else if ¬yi a then 2 else Iv a
def B5(n:Nat):Nat:=(n+7)/8*8
def uH(a:At):Nat:=if a.rs=true then 24 else 40
def N8(a:At):List UInt8:=if a.rs=true then a.vl else qL a.rn.l
def l8(a:At):Nat:=B5 (uH a+a.nm.length)
def Tk(a:At):Nat:=B5 (l8 a+(N8 a).length)
def atW(a:At):List UInt8:=
 if a.rs=true then aJ a.vl.length 4++aJ (l8 a) 4
 else aJ a.ft 4++aJ (a.ft+bI a.rn.l-1) 4++aJ (l8 a) 2++ai 2++aJ a.al 4++aJ a.sz 4++aJ a.vd 4
def aso(a:At):List UInt8:=aJ a.ty 4++aJ (Tk a) 4++aJ (if a.rs=true then 0 else 1) 1++aJ a.nm.length 1++aJ (uH a) 2++aJ a.fl 2++aJ a.id 2++atW a
def T5(a:At):List UInt8:=aso a++a.nm++ai (l8 a-uH a-a.nm.length)++N8 a++ai (Tk a-l8 a-(N8 a).length)
def gu(a:At):Int:=if TI a≠0 then TI a else if 440<(T5 a).length then 16 else 0
def i_(n:Nat):n<=B5 n/\B5 n<n+8/\B5 n%8=0:=by unfold B5;omega
def bE(n:Nat):(ai n).length=n:=zap
def ahH{s:List UInt8}(h:fy s):s.length<=32:=by
 rcases h with rfl|h
 ·simp
 ·unfold Zc at h;split at h
  ·cases h
  ·omega
structure acN(a:At):Prop where
 ty:0<=a.ty/\a.ty<=192
 S3:a.ty∈S3
 nm:fy a.nm
 nmL:a.nm.length<=32
 idf:yi a
 rs:a.rs=true->a.rn.l.length=0/\Tf a/\a.vl.length<=400
 ot:a.rs=false->a.ty∉VG/\a.vl=[]/\(0<=a.ft/\a.ft<=4096)/\dU a.rn.l=0/\a.ft+bI a.rn.l<=4096/\pL a/\a.vd<=a.sz
def aFY{n:Int}(h:n∈S3):0<=n/\n<=192:=by
 unfold S3 at h;simp only[zaw,zb3,or_false]at h;omega
def acN.of{a:At}(h:TI a=0):acN a:=by
 unfold TI at h;split at h
 ·cases h
 rename_i h1;have h1:=zcD.1 h1;split at h
 ·cases h
 rename_i h2;have h2:=zcD.1 h2;split at h
 ·cases h
 rename_i h3;have h3:=zcD.1 h3;refine⟨aFY h1,h1,h2,ahH h2,h3,λhr=>?_,λhr=>?_⟩
 ·unfold Iv at h;rw[if_pos hr]at h;unfold Hy at h;split at h
  ·cases h
  rename_i h4;have h4:=zcD.1 h4;split at h
  ·cases h
  ·exact⟨h4.1,h4.2,ab⟩
 ·unfold Iv at h;rw[hr,if_neg ao]at h;unfold GG at h;split at h
  ·cases h
  rename_i g1;split at h
  ·cases h
  rename_i g2;split at h
  ·cases h
  rename_i g3;split at h
  ·rename_i g4;exact absurd h g4
  rename_i g4;split at h
  ·cases h
  split at h
  ·cases h
  rename_i g6;split at h
  ·cases h
  split at h
  ·cases h
  rename_i g8;split at h
  ·cases h
  rename_i g9;exact⟨g1,zcD.1 g2,zcD.1 g3,zcD.1 g4,ab,zcD.1 g8,ab⟩
end Go.Dv.Try
namespace Go.Dv.Try
open Go Go.Dv Go.RowKit Go.MapKept
section
def aeE:List (Int×Bool):=[(16,true),(32,false),(48,true),(64,false),(96,true),(112,true),(128,false),(144,true),(160,false),(176,false),(192,false)]
structure MI(w0:World)(b:Nat)(l:List (Int×Bool))(w:World):Prop where
 b0:w0.heap.size<=b
 lt:b<w.heap.size
 is:∃es n,w.heap[b]?=some (.map es n)/\Zj es l
 bel:Below w0.heap.size w0 w
def an_:∀(l:List (Int×Bool)) (n:Int),n∉l.map Prod.fst->aP l n=none
 |[],_,_=>rfl
 |p::l,n,h=>by
  have h1:n≠p.1:=λe=>h (by simp[e])
  have hl:aP (p::l) n=(match decide (n=p.1)with|true=>some p.2|false=>aP l n):=rfl;rw[hl];simp only[h1,decide_false];exact an_ l n λhm=>h (by simp at hm ⊢;exact .inr hm)
def aBy(w:World):∃w',(Instr.makeMap 195 none).run Go.Proofs.Tryz.prog w=.ok (.map (some w.heap.size)) w'/\MI w w.heap.size [] w':=by
 refine⟨w.alloc (.map #[] 0),by simp[Instr.makeMap,Result.andThen],zai _,?_,⟨#[],0,(MapKept.heap_alloc w _).1,rfl⟩,?_⟩
 ·show w.heap.size<(w.heap.push _).size;rw[Array.size_push];omega
 ·exact(Below.refl _ _).alloc (zai _) _
def vr{w0 w:World}{b:Nat}{l:List (Int×Bool)}{k:Int}{v:Bool}(h:MI w0 b l w)(hk:k∉l.map Prod.fst):
 ∃w',(Instr.mapUpdate 195 (.map (some b)) (.int .i64 k) (.bool v)).run Go.Proofs.Tryz.prog w=.ok () w'/\MI w0 b (l++[(k,v)]) w':=by
 obtain⟨h1,h2,⟨es,n,h3,h4⟩,h5⟩:=h;obtain⟨j,hj⟩:=O2 l es.toList k 0 h4;rw[an_ l k hk]at hj;have hm:=Go.Proofs.Tryz.underlying195;have hd:=Go.Proofs.Tryz.underlying3;refine⟨_,by simp[Instr.mapUpdate,run_underlying hm,MapKept.run_getObj_map h3,run_checkKey (k:=.int .i64 k) hd (by simp[IsKey]),run_findKey hd hj,run_setObj_map _ h3,Result.andThen];rfl,h1,?_,⟨_,_,(heap_set h3).1,?_⟩,?_⟩
 ·simpa using h2
 ·unfold Zj at h4 ⊢;simp[h4]
 ·exact h5.trans ⟨rfl,rfl,rfl,aj,λr hr=>(heap_set h3).2 r ab⟩
open Go.Shelf Go.Proofs in
set_option maxHeartbeats 2000000 in
set_option maxRecDepth 100000 in
def aqd(w:World):Calls Go.Proofs.Tryz.prog 192 #[] w λe w'=>∃b es n,e=.returned (.map (some b))/\w.heap.size<=b/\b<w'.heap.size/\w'.heap[b]?=some (.map es n)/\Zj es aeE/\Below w.heap.size w w':=by
 have mixed:Go.Proofs.Tryz.prog.follows .mixedOrders=true:=mixed;have t3:=Go.Proofs.Tryz.underlying3;have a3:=Go.Proofs.Tryz.isAgg3;have z3:=Go.Proofs.Tryz.sizeOf3;have v3:=Go.Proofs.Tryz.zeroValue3;have t4:=Go.Proofs.Tryz.underlying4;have a4:=Go.Proofs.Tryz.isAgg4;have z4:=Go.Proofs.Tryz.sizeOf4;have v4:=Go.Proofs.Tryz.zeroValue4;have t195:=Go.Proofs.Tryz.underlying195;have aPB:=Go.Proofs.Tryz.isAgg195;have aPC:=Go.Proofs.Tryz.sizeOf195;have aPD:=Go.Proofs.Tryz.zeroValue195
 go_enter Go.Proofs.Tryz.func192,(show Go.Proofs.Tryz.f192.ntmps=3 from rfl)
 go_wp2
 obtain⟨w1,h1,h2⟩:=aBy w;rw[h1];simp only[Result.andThen];rw[Oper.upon_value]
 go_wp2
 obtain⟨w2,e0,m0⟩:=vr (k:=16) (v:=true) h2 ao;rw[e0];simp only[Result.andThen];rw[Oper.upon_skip]
 go_wp2
 clear e0 h2;obtain⟨w3,e1,m1⟩:=vr (k:=32) (v:=false) m0 ao;rw[e1];simp only[Result.andThen];rw[Oper.upon_skip]
 go_wp2
 clear e1 m0;obtain⟨w4,e2,m2⟩:=vr (k:=48) (v:=true) m1 ao;rw[e2];simp only[Result.andThen];rw[Oper.upon_skip]
 go_wp2
 clear e2 m1;obtain⟨w5,e3,m3⟩:=vr (k:=64) (v:=false) m2 ao;rw[e3];simp only[Result.andThen];rw[Oper.upon_skip]
 go_wp2
 clear e3 m2;obtain⟨w6,e4,m4⟩:=vr (k:=96) (v:=true) m3 ao;rw[e4];simp only[Result.andThen];rw[Oper.upon_skip]
 go_wp2
 clear e4 m3;obtain⟨w7,e5,m5⟩:=vr (k:=112) (v:=true) m4 ao;rw[e5];simp only[Result.andThen];rw[Oper.upon_skip]
 go_wp2
 clear e5 m4;obtain⟨w8,e6,m6⟩:=vr (k:=128) (v:=false) m5 ao;rw[e6];simp only[Result.andThen];rw[Oper.upon_skip]
 go_wp2
 clear e6 m5;obtain⟨w9,e7,m7⟩:=vr (k:=144) (v:=true) m6 ao;rw[e7];simp only[Result.andThen];rw[Oper.upon_skip]
 go_wp2
 clear e7 m6;obtain⟨w10,e8,m8⟩:=vr (k:=160) (v:=false) m7 ao;rw[e8];simp only[Result.andThen];rw[Oper.upon_skip]
 go_wp2
 clear e8 m7;obtain⟨w11,e9,m9⟩:=vr (k:=176) (v:=false) m8 ao;rw[e9];simp only[Result.andThen];rw[Oper.upon_skip]
 go_wp2
 clear e9 m8;obtain⟨w12,r5,m10⟩:=vr (k:=192) (v:=false) m9 ao;rw[r5];simp only[Result.andThen];rw[Oper.upon_skip]
 go_wp2
 clear r5 m9
 go_ret
 obtain⟨h1,h2,⟨es,n,h3,h4⟩,h5⟩:=m10;exact⟨_,es,n,rfl,h1,h2,h3,h4,h5⟩
def Xi(ps:List PV)(r:RV):Prop:=ps=[]/\r=.mp aeE
def aus:an Go.Proofs.Tryz.prog 192 (c8 true Xi):=by
 refine⟨λe=>cz,λe=>cz,?_,λ_ _ _ _ _ _ _ _ h=>(show False from h).elim,λ_ _ _ _ _ _ _ _ e=>cz⟩;rintro w ok ps vs K _ di rT ⟨r,⟨rfl,rfl⟩,hK⟩;simp only[ew]at rT;have:vs= #[]:=by rw[<-zb2];exact rT
 subst this;refine⟨Go.Proofs.enters_of Go.Proofs.Tryz.func192 ak rfl,(aqd w).mono ?_⟩;rintro e w' ⟨b,es,n,rfl,h1,h2,h3,h4,h5⟩;refine⟨_,_,[.map (some b)],rfl,hK,h5,?_,?_,?_⟩
 ·simp only[RR];refine⟨trivial,b,es,n,rfl,⟨.inr h1,h2,?_⟩,h3,h4⟩;intro u hu;simp at hu;subst hu;intro e;cases e
 ·intro u hu b hb;simp at hu;subst hu;cases hb
 ·intro i j u t b _ hu _ hb;have:u∈([.map (some _)]:List Value):=zag hu;simp at this;subst this;cases hb
end
end Go.Dv.Try
namespace Go.Dv.Try
open Go Go.Dv
def aFD(n:Int):(aP aeE n).isSome=true↔n∈S3:=by
 unfold aeE aP S3;simp only[]
 repeat'(split;·rename_i h;have:=of_decide_eq_true h;subst this;simp)
 rename_i h1 h2 h3 h4 h5 h6 h7 h8 h9 XK gT;simp at*;omega
def aBj(n:Int):(aP aeE n).getD false=true↔n∈VG:=by
 unfold aeE aP VG;simp only[]
 repeat'(split;·rename_i h;have:=of_decide_eq_true h;subst this;simp)
 rename_i h1 h2 h3 h4 h5 h6 h7 h8 h9 XK gT;simp at*;omega
def EV(ps:List PV)(p:Prop):Prop:=∃n:Int,ps=[pI n]/\p=(n∈S3)
def ae5:MT (ay [(192,c8 true Xi)]) BQ (bF EV):=by
 rintro _ K ⟨_,⟨n,rfl,rfl⟩,hK⟩
 (repeat'((conv=>whnf);first|refine⟨_,⟨rfl,rfl⟩,?_⟩|fail))<;>try(conv=>whnf)
 exact⟨.pv (.bool _),rfl,trivial,hK _ (aFD n)⟩
def xr(ps:List PV)(x:PV):Prop:=∃a:At,ps=[a.pv]/\yP a.rn.l/\x=pI (bI a.rn.l)
def Ro:MT (ay []) xQ (ah xr):=by
 rintro _ K ⟨_,⟨a,rfl,hs,rfl⟩,hK⟩
 (repeat'((conv=>whnf);first|refine KP ?_|refine ez λ_=>?_|fail))<;>try(conv=>whnf)
 refine⟨λm env σ=>∃(n:Nat),n+m=a.rn.l.length/\σ=[]/\env=[eN 3 (bI (a.rn.l.take n)),(7,.pv (qF a.rn)),eN 8 a.rn.l.length,eN 9 n],a.rn.l.length,⟨0,ab,rfl,rfl⟩,?_⟩;rintro m env σ ⟨n,hn,rfl,rfl⟩;have hb:=hs.sum n ab;have hl:=hs.1
 (repeat'((conv=>whnf);first|(refine IXA ab (λx hx=>?_);have:=hs.2 x (zag hx))|refine bj ab ?_|refine de (λ_=>?_) (λ_=>?_)|refine bT ?_|fail))<;>try(conv=>whnf)
 ·exact abg
 ·rw[za1 ab];exact aG
def E9(ps:List PV)(x:PV):Prop:=∃a:At,ps=[a.pv]/\x=pI (Hy a)
def afP:MT (ay [(140,ah dG),(139,ah gB)]) tl (ah E9):=by
 rintro _ K ⟨_,⟨a,rfl,rfl⟩,hK⟩;unfold Hy Tf at hK
 (repeat'((conv=>whnf);first|refine KP ?_|(refine fe ?_;first|refine de (λ_=>?_) (λ_=>?_)|refine ez λ_=>?_|refine bT ?_|refine⟨_,⟨_,_,rfl,rfl⟩,?_⟩|refine⟨_,⟨[_,_],rfl,rfl⟩,?_⟩|fail)))<;>try(conv=>whnf)
 all_goals(refine⟨.pv (pI _),bu ?_,trivial,hK⟩;simp only[bQ,if_true,zct,if_false,reduceCtorEq];(repeat' split)<;>first|rfl|omega)
def Zv:MT (ay [(128,bF YX)]) JA (bF EV):=by
 rintro _ K ⟨_,⟨n,rfl,rfl⟩,hK⟩
 (repeat'((conv=>whnf);first|refine⟨_,⟨S3,n,rfl,ao,rfl⟩,?_⟩|refine de (λ_=>?_) (λ_=>?_)|refine bT ?_|fail))<;>try(conv=>whnf)
 all_goals exact yj
def Pf(ps:List PV)(p:Prop):Prop:=∃n:Int,ps=[pI n]/\p=(n∈VG)
def SM:MT (ay [(128,bF YX)]) FH (bF Pf):=by
 rintro _ K ⟨_,⟨n,rfl,rfl⟩,hK⟩
 (repeat'((conv=>whnf);first|refine⟨_,⟨VG,n,rfl,ao,rfl⟩,?_⟩|refine de (λ_=>?_) (λ_=>?_)|refine bT ?_|fail))<;>try(conv=>whnf)
 all_goals exact yj
def TF(ps:List PV)(p:Prop):Prop:=∃s:List UInt8,ps=[.str s]/\p=fy s
def Wi:MT (ay [(147,ah LY)]) tQ (bF TF):=by
 rintro _ K ⟨_,⟨s,rfl,rfl⟩,hK⟩;unfold fy at hK
 (repeat'((conv=>whnf);first|refine⟨_,⟨s,rfl,rfl⟩,?_⟩|refine de (λ_=>?_) (λ_=>?_)|fail))<;>try(conv=>whnf)
 ·rename_i h;have h:s=[]:=h;exact abq
 ·rename_i h _;have h:s≠[]:=h;exact PN
 ·rename_i h _;have h:s≠[]:=h;exact PN
def Ps(ps:List PV)(x:PV):Prop:=∃s:List UInt8,ps=[.str s]/\x=pI (if fy s then 0 else 4)
def Z7:MT (ay [(193,ah LY),(140,ah dG)]) zB (ah Ps):=by
 rintro _ K ⟨_,⟨s,rfl,rfl⟩,hK⟩;unfold fy at hK
 (repeat'((conv=>whnf);first|refine⟨_,⟨s,rfl,rfl⟩,?_⟩|(refine fe ?_;first|refine de (λ_=>?_) (λ_=>?_)|refine⟨_,⟨_,_,rfl,rfl⟩,?_⟩|fail)))<;>try(conv=>whnf)
 ·rename_i h;have h:s=[]:=h;exact⟨.pv (pI _),bu uQ,trivial,hK⟩
 ·rename_i h _;have h:s≠[]:=h;exact⟨.pv (pI _),bu nq,trivial,hK⟩
 ·rename_i h _;have h:s≠[]:=h;exact⟨.pv (pI _),bu nq,trivial,hK⟩
def Fa(ps:List PV)(x:PV):Prop:=∃a:At,ps=[a.pv]/\x=pI (GG a)
def GB{l:List Rn}(h:dU l=0):yP l:=agj (by have:=(bZ h).1;omega) (bZ h).2.1
def TT{l:List Rn}(h:dU l=0):0<=bI l/\bI l<=4096:=by
 refine⟨?_,(bZ h).2.2.1⟩;have:=(bZ h).2.2.2;clear h
 induction l with
 |nil=>exact Int.le_refl 0
 |cons r l ih=>
  have h1:=this r aj;have h2:=ih (λx hx=>this x iP);have:bI (r::l)=r.n+bI l:=by simp[bI]
  unfold jZ at h1;split at h1<;>omega
def YZ:MT (ay []) zV (ah E9):=by
 rintro _ K ⟨_,⟨a,rfl,rfl⟩,hK⟩;unfold Hy Tf at hK
 (repeat'((conv=>whnf);first|refine KP ?_|refine de (λ_=>?_) (λ_=>?_)|refine ez λ_=>?_|fail))<;>try(conv=>whnf)
 all_goals(refine⟨.pv (pI _),bu ?_,trivial,hK⟩;(repeat' split)<;>first|rfl|omega)
def ash{A bs:List UInt8}{z g at_:Nat}(e:at_=A.length+g)(h:g+bs.length<=z):IU (A++ai z) at_ bs=A++ai g++bs++ai (z-g-bs.length):=by
 subst e;unfold IU ai;rw[List.take_append,za1 ab,List.drop_append,zb8 ab,zaZ,show A.length+g-A.length=g by omega,show A.length+g+bs.length-A.length=g+bs.length by omega,List.take_replicate,List.drop_replicate,show min g z=g by omega,show z-(g+bs.length)=z-g-bs.length by omega]
def atG{A X C bs:List UInt8}{at_:Nat}(e:at_=A.length)(h:X.length=bs.length):IU (A++(X++C)) at_ bs=A++(bs++C):=by
 subst e;unfold IU;rw[List.take_left,<-h,show A.length+X.length=(A++X).length by simp,<-zaj A X C,List.drop_left,zaj]
def fL:List UInt8->Nat->List UInt8->List UInt8
 |B,_,[]=>B
 |B,at_,b::bs=>fL (B.set at_ b) (at_+1) bs
def LF(bs:List UInt8):∀(B:List UInt8) (at_:Nat),(fL B at_ bs).length=B.length:=by
 induction bs with
 |nil=>intro B at_;rfl
 |cons b bs ih=>intro B at_;rw[fL,ih,za0]
def aoP{B bs:List UInt8}{at_:Nat}{b:UInt8}(h:at_+bs.length<B.length):IU B at_ (b::bs)=IU (B.set at_ b) (at_+1) bs:=by
 unfold IU;have h1:(B.set at_ b).take (at_+1)=B.take at_++[b]:=by
  rw[zcF,List.take_set_of_le (zai _),zbL ab];rfl
 have h2:(B.set at_ b).drop (at_+1+bs.length)=B.drop (at_+(b::bs).length):=by
  rw[zdb ab];simp only[zam];congr 1;omega
 rw[h1,h2];simp
def Xw(bs:List UInt8):∀(B:List UInt8) (at_:Nat),at_+bs.length<=B.length->fL B at_ bs=IU B at_ bs:=by
 induction bs with
 |nil=>intro B at_ _;rw[ajN];rfl
 |cons b bs ih=>
  intro B at_ h;simp only[zam]at h;rw[fL,ih _ _ (by rw[za0];omega),aoP ab]
def agl(xs:List AV)(σ:aF)(K:AV->aF->Prop):Prop:=∃(B:List UInt8) (at_ k:Nat) (n:Int),xs=[.own 0,.pv (pI at_),.pv (pI k),.pv (pI n)]/\(at_+k<=B.length/\B.length<=1000000)/\σ=[.row 5 1 true (B.map aL)]/\K (.tup []) [.row 5 1 true ((fL B at_ (aJ n k)).map aL)]
def awI{xs:List AV}{σ:aF}{K:AV->aF->Prop}(h:agl xs σ K):ayY xs σ K:=by
 obtain⟨B,at_,k,n,h1,h2,h3,h4⟩:=h;rw[Xw _ _ _ (by rw[gL];exact h2.1)]at h4;exact⟨B,at_,k,n,h1,h2,h3,h4⟩
def als:gO (ay []) yG (sB agl):=λxs σ K h=>apz xs σ K (awI h)
def afm{B ys:List UInt8}{lo n:Nat}(h:n=B.length-lo)(h2:lo+ys.length<=B.length):
 (B.map aL).take lo++(ys.map aL).take n++(B.map aL).drop (lo+min (ys.map aL).length n)=(fL B lo ys).map aL:=by
 rw[Xw _ _ _ h2];unfold IU;have h3:(ys.map aL).take n=ys.map aL:=za1 oP;have h4:min (ys.map aL).length n=ys.length:=oP;rw[h3,h4,<-zc8,<-List.map_drop,zbu,zbu]
def aih(W:Nat):List.replicate W (PV.int .u8 0)=(ai W).map aL:=by unfold ai;rw[zcK];rfl
def Tj(ps:List PV)(x:PV):Prop:=∃(b:Bool) (h:Int),ps=[pB b]/\h=(if b=true then 24 else 40)/\x=pI h
def acG:MT (ay []) Fl (ah Tj):=by
 rintro _ K ⟨_,⟨b,h,rfl,rfl,rfl⟩,hK⟩;cases b
 ·exact aG
 ·exact aG
def Uo(ps:List PV)(x:PV):Prop:=∃(n:Int) (m:Nat),ps=[pI n]/\(0<=n/\n<=1000000/\m=B5 n.toNat)/\x=pI m
def adm:MT (ay []) zo (ah Uo):=by
 rintro _ K ⟨_,⟨n,m,rfl,⟨h1,h2,rfl⟩,rfl⟩,hK⟩;unfold B5 at hK
 (repeat'((conv=>whnf);first|refine bj ab ?_|refine l7 ab ?_|fail))<;>try(conv=>whnf)
 refine⟨.pv (pI _),bu ?_,trivial,hK⟩;omega
def f_{P bs:List UInt8}{z g at_ n:Nat}(e:at_=P.length+g)(h:g+bs.length<=z)(e2:n=z-g-bs.length):fL (P++ai z) at_ bs=P++ai g++bs++ai n:=by
 rw[Xw _ _ _ (by rw[zad,bE];omega),ash e h,e2]
def asB{P X C bs:List UInt8}{at_:Nat}(e:at_=P.length)(h:X.length=bs.length):fL (P++(X++C)) at_ bs=P++(bs++C):=by
 rw[Xw _ _ _ (by simp only[zad];omega),atG e h]
def bC(g n:Nat){P bs:List UInt8}{z at_:Nat}(e:at_=P.length+g:=by simp only[List.length_append,gL,bE,List.length_nil]<;>omega)(h:g+bs.length<=z:=by(try simp only[gL])<;>omega)(e2:n=z-g-bs.length:=by(try simp only[gL])<;>omega):fL (P++ai z) at_ bs=P++ai g++bs++ai n:=f_ e h e2
def aw6{ty fl id:Int}{nm vl:List UInt8}{W A:Nat}(h1:24+nm.length<=A)(h2:A+vl.length<=W):
 fL (fL (fL (fL (fL (fL (fL (fL (fL (fL (ai W) 0 (aJ ty 4)) 4 (aJ (W:Nat) 4)) 9 (aJ (nm.length:Nat) 1)) 10 (aJ 24 2)) 12 (aJ fl 2)) 14 (aJ id 2)) 16 (aJ (vl.length:Nat) 4)) 20 (aJ (A:Nat) 4)) 24 nm) A vl=
 aJ ty 4++aJ (W:Nat) 4++aJ 0 1++aJ (nm.length:Nat) 1++aJ 24 2++aJ fl 2++aJ id 2++(aJ (vl.length:Nat) 4++aJ (A:Nat) 4)++nm++ai (A-24-nm.length)++vl++ai (W-A-vl.length):=by
 rw[<-zaZ (ai W),bC 0 (W-4),bC 0 (W-8),bC 1 (W-10),bC 0 (W-12),bC 0 (W-14),bC 0 (W-16),bC 0 (W-20),bC 0 (W-24),bC 0 (W-24-nm.length),bC (A-24-nm.length) (W-A-vl.length)];have z0:ai 0=[]:=rfl;have z1:ai 1=aJ 0 1:=rfl;rw[z0,z1];simp only[zaZ,zbf,zaj]
def aya{ty fl id ft la al sz vd:Int}{nm vl:List UInt8}{W A:Nat}(h1:40+nm.length<=A)(h2:A+vl.length<=W):
 fL (fL (fL (fL (fL (fL (fL (fL (fL (fL (fL (fL (fL (fL (fL (ai W) 0 (aJ ty 4)) 4 (aJ (W:Nat) 4)) 9 (aJ (nm.length:Nat) 1)) 10 (aJ 40 2)) 12 (aJ fl 2)) 14 (aJ id 2)) 8 (aJ 1 1)) 16 (aJ ft 4)) 20 (aJ la 4)) 24 (aJ (A:Nat) 2)) 28 (aJ al 4)) 32 (aJ sz 4)) 36 (aJ vd 4)) 40 nm) A vl=
 aJ ty 4++aJ (W:Nat) 4++aJ 1 1++aJ (nm.length:Nat) 1++aJ 40 2++aJ fl 2++aJ id 2++(aJ ft 4++aJ la 4++aJ (A:Nat) 2++ai 2++aJ al 4++aJ sz 4++aJ vd 4)++nm++ai (A-40-nm.length)++vl++ai (W-A-vl.length):=by
 rw[<-zaZ (ai W),bC 0 (W-4),bC 0 (W-8),bC 1 (W-10),bC 0 (W-12),bC 0 (W-14),bC 0 (W-16)];have m:=asB (P:=([]:List UInt8)++ai 0++aJ ty 4++ai 0++aJ (W:Nat) 4) (X:=ai 1) (C:=aJ (nm.length:Nat) 1++(ai 0++(aJ 40 2++(ai 0++(aJ fl 2++(ai 0++(aJ id 2++ai (W-16)))))))) (at_:=8) (bs:=aJ 1 1) (by simp only[zad,gL,bE,zaY]) (by rw[gL,bE]);simp only[<-zaj]at m ⊢;rw[m,bC 0 (W-20),bC 0 (W-24),bC 0 (W-26),bC 2 (W-32),bC 0 (W-36),bC 0 (W-40),bC 0 (W-40-nm.length),bC (A-40-nm.length) (W-A-vl.length)];have z0:ai 0=[]:=rfl;rw[z0];simp only[zaZ,zbf,zaj]
def Tp(ps:List PV)(x:PV):Prop:=∃a:At,ps=[a.pv]/\TI a=0/\x=.str (T5 a)
def ac6:MT (ay [(196,c8 true G7),(197,ah Tj),(198,ah Uo),(199,sB agl),(195,ah xr)]) zr (ah Tp):=by
 rintro _ K ⟨_,⟨a,rfl,ha,rfl⟩,hK⟩;have hA:=acN.of ha;obtain⟨ty,nm,id,fl,rs,vl,ft,rn,al,sz,vd⟩:=a;have kp:=hA.nmL;simp only at kp;simp only[At.pv];cases rs with
 |true=>
  obtain⟨_,_,Ja⟩:=hA.rs rfl;simp only at Ja;have h1:=i_ (24+nm.length);have h2:=i_ (B5 (24+nm.length)+vl.length);obtain⟨W,hW⟩:∃W,W=B5 (B5 (24+nm.length)+vl.length):=⟨_,rfl⟩
  obtain⟨A,hA⟩:∃A,A=B5 (24+nm.length):=⟨_,rfl⟩
  rw[<-hA]at h1 h2 hW;rw[<-hW]at h2;have Oi:∀B:List UInt8,B.length=W->(B.map aL).take (Int.toNat 24)++(nm.map aL).take ((B.map aL).length-Int.toNat 24)++(B.map aL).drop (Int.toNat 24+min (nm.map aL).length ((B.map aL).length-Int.toNat 24))=(fL B 24 nm).map aL:=
   λB hB=>afm (lo:=24) Lh ab
  have Cw:∀B:List UInt8,B.length=W->(B.map aL).take (A:Int).toNat++(vl.map aL).take ((B.map aL).length-(A:Int).toNat)++(B.map aL).drop ((A:Int).toNat+min (vl.map aL).length ((B.map aL).length-(A:Int).toNat))=(fL B A vl).map aL:=
   λB hB=>afm (lo:=A) Lh ab
  (repeat'((conv=>whnf);first|refine⟨_,⟨true,24,rfl,rfl,rfl⟩,?_⟩|(rw[aih,zaC])|(simp only[Oi,Cw,LF,bE])|refine Or.inr ?_|refine zcC (by(simp only[if_true,zav,LF,bE];omega)) ?_|refine⟨_,0,4,_,rfl,⟨br,br⟩,rfl,?_⟩|refine⟨_,4,4,_,rfl,⟨br,br⟩,rfl,?_⟩|refine⟨_,9,1,_,rfl,⟨br,br⟩,rfl,?_⟩|refine⟨_,10,2,_,rfl,⟨br,br⟩,rfl,?_⟩|refine⟨_,12,2,_,rfl,⟨br,br⟩,rfl,?_⟩|refine⟨_,14,2,_,rfl,⟨br,br⟩,rfl,?_⟩|refine⟨_,16,4,_,rfl,⟨br,br⟩,rfl,?_⟩|refine⟨_,20,4,_,rfl,⟨br,br⟩,rfl,?_⟩|refine⟨_,⟨_,W,rfl,⟨ab,ab,by rw[hW];exact congrArg B5 ab⟩,rfl⟩,?_⟩|(refine fe ?_;first|refine bj ab ?_|refine aN ?_|refine ez λ_=>?_|refine yR ?_|refine bT ?_|refine⟨_,⟨_,_,rfl,cZ,rfl⟩,?_⟩|refine wz ?_|fail)))<;>try(conv=>whnf)
  rw[show T5 ⟨ty,nm,id,fl,true,vl,ft,rn,al,sz,vd⟩=aJ ty 4++aJ (W:Nat) 4++aJ 0 1++aJ (nm.length:Nat) 1++aJ 24 2++aJ fl 2++aJ id 2++(aJ (vl.length:Nat) 4++aJ (A:Nat) 4)++nm++ai (A-24-nm.length)++vl++ai (W-A-vl.length)from by rw[hW,hA];rfl,<-aw6 h1.1 h2.1]at hK;exact bM
 |false=>
  obtain⟨_,rfl,n7,hz,SE,mD,_⟩:=hA.ot rfl;simp only[pL]at n7 hz SE mD;have hs:=TT hz;have vu:=(bZ hz).1;have lj:(qL rn.l).length<=400:=by
   unfold qL;have:=JP rn.l rn.l.length (zai _);simp only[zad,zam,zaY];omega
  obtain⟨vl,Ja⟩:∃vl,vl=qL rn.l:=⟨_,rfl⟩
  rw[<-Ja]at lj;have h1:=i_ (40+nm.length);have h2:=i_ (B5 (40+nm.length)+vl.length);obtain⟨W,hW⟩:∃W,W=B5 (B5 (40+nm.length)+vl.length):=⟨_,rfl⟩
  obtain⟨A,hA⟩:∃A,A=B5 (40+nm.length):=⟨_,rfl⟩
  rw[<-hA]at h1 h2 hW;rw[<-hW]at h2;have Oi:∀B:List UInt8,B.length=W->(B.map aL).take (Int.toNat 40)++(nm.map aL).take ((B.map aL).length-Int.toNat 40)++(B.map aL).drop (Int.toNat 40+min (nm.map aL).length ((B.map aL).length-Int.toNat 40))=(fL B 40 nm).map aL:=
   λB hB=>afm (lo:=40) Lh ab
  have Cw:∀B:List UInt8,B.length=W->(B.map aL).take (A:Int).toNat++(vl.map aL).take ((B.map aL).length-(A:Int).toNat)++(B.map aL).drop ((A:Int).toNat+min (vl.map aL).length ((B.map aL).length-(A:Int).toNat))=(fL B A vl).map aL:=
   λB hB=>afm (lo:=A) Lh ab
  (repeat'((conv=>whnf);first|refine⟨_,⟨false,40,rfl,rfl,rfl⟩,?_⟩|refine⟨RV.tup [.pv (.str vl),.pv (pI 0)],⟨rn,rfl,by rw[hz,if_pos rfl,Ja]⟩,?_⟩|(simp only[Oi,Cw,LF,bE])|(rw[aih,zaC])|refine Or.inr ?_|refine zcC (by(simp only[if_true,zav,LF,bE];omega)) ?_|refine⟨_,0,4,_,rfl,⟨br,br⟩,rfl,?_⟩|refine⟨_,4,4,_,rfl,⟨br,br⟩,rfl,?_⟩|refine⟨_,9,1,_,rfl,⟨br,br⟩,rfl,?_⟩|refine⟨_,10,2,_,rfl,⟨br,br⟩,rfl,?_⟩|refine⟨_,12,2,_,rfl,⟨br,br⟩,rfl,?_⟩|refine⟨_,14,2,_,rfl,⟨br,br⟩,rfl,?_⟩|refine⟨_,8,1,_,rfl,⟨br,br⟩,rfl,?_⟩|refine⟨_,16,4,_,rfl,⟨br,br⟩,rfl,?_⟩|refine⟨_,20,4,_,rfl,⟨br,br⟩,rfl,?_⟩|refine⟨_,24,2,_,rfl,⟨br,br⟩,rfl,?_⟩|refine⟨_,28,4,_,rfl,⟨br,br⟩,rfl,?_⟩|refine⟨_,32,4,_,rfl,⟨br,br⟩,rfl,?_⟩|refine⟨_,36,4,_,rfl,⟨br,br⟩,rfl,?_⟩|refine⟨_,⟨⟨ty,nm,id,fl,false,[],ft,rn,al,sz,vd⟩,rfl,GB hz,rfl⟩,?_⟩|refine⟨_,⟨_,W,rfl,⟨ab,ab,by rw[hW];exact congrArg B5 ab⟩,rfl⟩,?_⟩|(refine fe ?_;first|refine bj ab ?_|refine au ao ?_|refine ez λ_=>?_|refine yR ?_|refine bT ?_|refine⟨_,⟨_,_,rfl,cZ,rfl⟩,?_⟩|refine wz ?_|fail)))<;>try(conv=>whnf)
  rw[show T5 ⟨ty,nm,id,fl,false,[],ft,rn,al,sz,vd⟩=aJ ty 4++aJ (W:Nat) 4++aJ 1 1++aJ (nm.length:Nat) 1++aJ 40 2++aJ fl 2++aJ id 2++(aJ ft 4++aJ (ft+bI rn.l-1) 4++aJ (A:Nat) 2++ai 2++aJ al 4++aJ sz 4++aJ vd 4)++nm++ai (A-40-nm.length)++vl++ai (W-A-vl.length)from by rw[hW,hA,Ja];rfl,<-aya h1.1 h2.1]at hK;exact bM
def JX{n:Int}{A:Nat}(h:0<=n)(e:A=B5 n.toNat):pI ((A/8:Nat):Int)=pI (Iy n 8):=by
 unfold Iy;unfold B5 at e;congr 1;omega
def axp(n:Int):aJ (n%4294967296) 4=aJ n 4:=agL 4 n
def X0(ps:List PV)(x:PV):Prop:=∃(s:List UInt8) (p:Nat),ps=[.str s]/\(s.length<=100000/\p=B5 s.length-s.length)/\x=.str (s++ai p)
def afw:MT (ay [(76,ah Jv),(82,ah fK)]) Jd (ah X0):=by
 rintro _ K ⟨_,⟨s,p,rfl,⟨hs,rfl⟩,rfl⟩,hK⟩;have h1:=i_ s.length;obtain⟨A,hA⟩:∃A,A=B5 s.length:=⟨_,rfl⟩
 rw[<-hA]at h1 hK;have hA8:(8:Int)*((A/8:Nat):Int)=A:=ab
 (repeat'((conv=>whnf);first|(rw[hA8])|refine⟨pI ((A/8:Nat):Int),⟨_,8,rfl,ab,JX ab abn⟩,?_⟩|refine⟨_,⟨_,rfl,ab,rfl⟩,?_⟩|refine zcC (by(simp only[bE];omega)) ?_|refine bj ab ?_|fail))<;>try(conv=>whnf)
 rw[show A-s.length=((A:Int)-s.length).toNat by omega]at hK;exact bM
set_option maxRecDepth 8000 in
set_option maxHeartbeats 4000000 in
def YD:MT (ay [(150,ah Px),(76,ah Jv),(151,ah Kd),(105,ah asA),(28,ah nW),(56,ah iu),(82,ah fK),(152,ah X0)]) KX (ah Tp):=by
 rintro _ K ⟨_,⟨a,rfl,ha,rfl⟩,hK⟩;have hA:=acN.of ha;obtain⟨ty,nm,id,fl,rs,vl,ft,rn,al,sz,vd⟩:=a;have kp:=hA.nmL;have hty:=hA.ty;have aK5:=hA.idf;simp only[yi]at kp hty aK5;simp only[At.pv];cases rs with
 |true=>
  obtain⟨_,_,Ja⟩:=hA.rs rfl;simp only at Ja;have h1:=i_ (24+nm.length);have h2:=i_ (B5 (24+nm.length)+vl.length);obtain⟨W,hW⟩:∃W,W=B5 (B5 (24+nm.length)+vl.length):=⟨_,rfl⟩
  obtain⟨A,hA⟩:∃A,A=B5 (24+nm.length):=⟨_,rfl⟩
  rw[<-hA]at h1 h2 hW;rw[<-hW]at h2;have hA8:(8:Int)*((A/8:Nat):Int)=A:=ab;have iA:W=(A+vl.length+7)/8*8:=hW;have hW8:(8:Int)*((W/8:Nat):Int)=W:=ab
  (repeat'((conv=>whnf);first|(rw[hA8])|refine⟨pI ((A/8:Nat):Int),⟨_,8,rfl,ab,JX ab abn⟩,?_⟩|refine⟨_,⟨_,1,rfl,ab,rfl⟩,?_⟩|refine⟨_,⟨_,2,rfl,ab,rfl⟩,?_⟩|refine⟨_,⟨_,4,rfl,ab,rfl⟩,?_⟩|refine⟨_,⟨_,rfl,ab,rfl⟩,?_⟩|refine zcC RM ?_|(refine fe ?_;first|refine bj ab ?_|refine aN ?_|refine bT ?_|refine⟨_,⟨_,rfl,rfl⟩,?_⟩|fail)))<;>try(conv=>whnf)
  obtain⟨S,hS⟩:∃S,S=aJ (if false=true then 1 else 0) 1++aJ (nm.length:Nat) 1++aJ 24 2++aJ fl 2++aJ id 2++aJ (vl.length:Nat) 4++aJ (A:Nat) 4++nm++ai ((A:Int)-24-(nm.length:Nat)).toNat++vl++ai (W-A-vl.length):=⟨_,rfl⟩
  have hSl:S.length=W-8:=by rw[hS];simp only[zad,gL,bE];omega
  refine⟨.str S,⟨_,W-A-vl.length,rfl,⟨RM,aio⟩,congrArg PV.str hS⟩,?_⟩;have hSn:S++({ data:={ toList:=[] } }:ByteArray).data.toList=S:=zbf S
  (repeat'((conv=>whnf);first|(rw[hW8])|(rw[hSn])|refine zcC (by(simp only[zad,gL,zaY];omega)) ?_|refine⟨pI ((W/8:Nat):Int),⟨_,8,rfl,ab,JX ab (by(unfold B5;omega))⟩,?_⟩|refine⟨_,⟨_,4,rfl,ab,rfl⟩,?_⟩|refine bj ab ?_|fail))<;>try(conv=>whnf)
  rw[show T5 ⟨ty,nm,id,fl,true,vl,ft,rn,al,sz,vd⟩=aJ ty 4++aJ (W:Nat) 4++aJ 0 1++aJ (nm.length:Nat) 1++aJ 24 2++aJ fl 2++aJ id 2++(aJ (vl.length:Nat) 4++aJ (A:Nat) 4)++nm++ai (A-24-nm.length)++vl++ai (W-A-vl.length)from by rw[hW,hA];rfl]at hK;have n8:=congrArg (λx=>aJ ty 4++aJ (W:Nat) 4++x) hS;rw[show((A:Int)-24-(nm.length:Nat)).toNat=A-24-nm.length by omega]at n8;simp only[zct,if_false,zaj]at n8 hK;rw[<-n8]at hK;rw[<-zaj]at hK;exact bM
 |false=>
  obtain⟨_,rfl,n7,hz,SE,mD,_⟩:=hA.ot rfl;simp only[pL]at n7 hz SE mD;have hs:=TT hz;have vu:=(bZ hz).1;have lj:(qL rn.l).length<=400:=by
   unfold qL;have:=JP rn.l rn.l.length (zai _);simp only[zad,zam,zaY];omega
  obtain⟨vl,Ja⟩:∃vl,vl=qL rn.l:=⟨_,rfl⟩
  rw[<-Ja]at lj;have h1:=i_ (40+nm.length);have h2:=i_ (B5 (40+nm.length)+vl.length);obtain⟨W,hW⟩:∃W,W=B5 (B5 (40+nm.length)+vl.length):=⟨_,rfl⟩
  obtain⟨A,hA⟩:∃A,A=B5 (40+nm.length):=⟨_,rfl⟩
  rw[<-hA]at h1 h2 hW;rw[<-hW]at h2;have hA8:(8:Int)*((A/8:Nat):Int)=A:=ab;have iA:W=(A+vl.length+7)/8*8:=hW;have hW8:(8:Int)*((W/8:Nat):Int)=W:=ab
  (repeat'((conv=>whnf);first|(rw[axp])|(rw[hA8])|refine⟨.str vl,⟨rn,rfl,hz,congrArg PV.str Ja⟩,?_⟩|refine⟨_,⟨rn,rfl,GB hz,rfl⟩,?_⟩|refine⟨_,⟨_,4294967296,rfl,ao,rfl⟩,?_⟩|refine⟨pI ((A/8:Nat):Int),⟨_,8,rfl,ab,JX ab abn⟩,?_⟩|refine⟨_,⟨_,1,rfl,ab,rfl⟩,?_⟩|refine⟨_,⟨_,2,rfl,ab,rfl⟩,?_⟩|refine⟨_,⟨_,4,rfl,ab,rfl⟩,?_⟩|refine⟨_,⟨_,rfl,ab,rfl⟩,?_⟩|refine zcC RM ?_|(refine fe ?_;first|refine bj ab ?_|refine bP ?_|refine bT ?_|refine⟨_,⟨_,rfl,rfl⟩,?_⟩|fail)))<;>try(conv=>whnf)
  obtain⟨S,hS⟩:∃S,S=aJ (if true=true then 1 else 0) 1++aJ (nm.length:Nat) 1++aJ 40 2++aJ fl 2++aJ id 2++aJ ft 4++aJ (ft+bI rn.l-1) 4++aJ (A:Nat) 2++ai 2++aJ al 4++aJ sz 4++aJ vd 4++nm++ai ((A:Int)-40-(nm.length:Nat)).toNat++vl++ai (W-A-vl.length):=⟨_,rfl⟩
  have hSl:S.length=W-8:=by rw[hS];simp only[zad,gL,bE];omega
  refine⟨.str S,⟨_,W-A-vl.length,rfl,⟨RM,aio⟩,congrArg PV.str hS⟩,?_⟩;have hSn:S++({ data:={ toList:=[] } }:ByteArray).data.toList=S:=zbf S
  (repeat'((conv=>whnf);first|(rw[hW8])|(rw[hSn])|refine zcC (by(simp only[zad,gL,zaY];omega)) ?_|refine⟨pI ((W/8:Nat):Int),⟨_,8,rfl,ab,JX ab (by(unfold B5;omega))⟩,?_⟩|refine⟨_,⟨_,4,rfl,ab,rfl⟩,?_⟩|refine bj ab ?_|fail))<;>try(conv=>whnf)
  rw[show T5 ⟨ty,nm,id,fl,false,[],ft,rn,al,sz,vd⟩=aJ ty 4++aJ (W:Nat) 4++aJ 1 1++aJ (nm.length:Nat) 1++aJ 40 2++aJ fl 2++aJ id 2++(aJ ft 4++aJ (ft+bI rn.l-1) 4++aJ (A:Nat) 2++ai 2++aJ al 4++aJ sz 4++aJ vd 4)++nm++ai (A-40-nm.length)++vl++ai (W-A-vl.length)from by rw[hW,hA,Ja];rfl]at hK;have n8:=congrArg (λx=>aJ ty 4++aJ (W:Nat) 4++x) hS;rw[show((A:Int)-40-(nm.length:Nat)).toNat=A-40-nm.length by omega]at n8;simp only[if_true,zaj]at n8 hK;rw[<-n8]at hK;rw[<-zaj]at hK;exact bM
def aoR{a:At}{c5 c6 c3 c2 c9:Bool}(hs:0<=a.ft)(h5:c5=true↔¬(0<a.ft/\a.rn.l.length=0))(h6:c6=true↔a.ft+bI a.rn.l<=4096)
 (h3:c3=true↔¬(0<a.ft∧¬(a.al=0/\a.sz=0/\a.vd=0))) (h2:c2=true↔pL a) (h9:c9=true↔a.vd<=a.sz):
 (if 0<a.ft/\a.rn.l.length=0 then 17 else if 4096<a.ft+bI a.rn.l then 8 else if 0<a.ft∧¬(a.al=0/\a.sz=0/\a.vd=0)then 3 else if ¬pL a then 2 else if a.sz<a.vd then 9 else 0)=
 bQ [if c5=true then 0 else 17,if c6=true then 0 else 8,if c3=true then 0 else 3,if c2=true then 0 else 2,if c9=true then 0 else 9]:=by
 simp only[bQ,h5,h6,h3,h2,h9]
 (repeat' split)<;>first|rfl|omega|contradiction
set_option maxRecDepth 8000 in
set_option maxHeartbeats 4000000 in
def afi:MT (ay [(192,c8 true Xi),(140,ah dG),(139,ah gB),(143,bF bG),(194,c8 true aae),(195,ah xr)]) xW (ah Fa):=by
 rintro _ K ⟨_,⟨a,rfl,rfl⟩,hK⟩
 (repeat'((conv=>whnf);first|refine⟨_,⟨rfl,rfl⟩,?_⟩|refine λ(b:Bool) hb=>?_|(refine fe ?_;first|refine bT ?_|refine⟨_,⟨_,_,rfl,rfl⟩,?_⟩|refine⟨_,⟨_,_,_,rfl,rfl⟩,?_⟩|refine⟨_,⟨[_,_,_],rfl,rfl⟩,?_⟩|fail)))<;>try(conv=>whnf)
 rename_i b2 h2 b3 h3 b4 h4;have h2:b2=true↔a.ty∉VG:=by rw[h2,<-aBj];simp
 have h3:b3=true↔a.vl=[]:=h3;have e1:bQ [if b2=true then 0 else 20,if b3=true then 0 else 3,if b4=true then 0 else 2]=if a.ty∈VG then 20 else if a.vl≠[]then 3 else if ¬(0<=a.ft/\a.ft<=4096)then 2 else 0:=by
  simp only[bQ,h2,h3,h4];by_cases g1:a.ty∈VG<;>by_cases g2:a.vl=[]<;>by_cases g3:0<=a.ft/\a.ft<=4096<;>simp[g1,g2,g3]
 rw[e1]at hb;unfold GG at hK;cases b with
 |true=>
  have hb:=hb.1 rfl;refine⟨.pv (pI _),bu ?_,trivial,hK⟩;rw[e1];by_cases g1:a.ty∈VG
  ·simp[g1]
  by_cases g2:a.vl=[]
  ·by_cases g3:0<=a.ft/\a.ft<=4096
   ·exact absurd (by simp[g1,g2,g3]) hb
   ·simp[g1,g2,g3]
  ·simp[g1,g2]
 |false=>
 have hb:¬_:=λh=>absurd (hb.2 h) ao
 have g1:a.ty∉VG:=λh=>hb uQ
 have g2:a.vl=[]:=zcD.1 λh=>hb (by simp[h,g1])
 have g3:0<=a.ft/\a.ft<=4096:=zcD.1 λh=>hb (by simp[h,g1,g2])
 rw[if_neg g1,if_neg (λh=>h g2),if_neg (λh=>h g3)]at hK;clear hb e1 h2 h3 h4;by_cases hz:dU a.rn.l=0
 case neg=>
  rw[if_pos hz]at hK
  (repeat'((conv=>whnf);first|refine⟨_,⟨a.rn,rfl,rfl⟩,?_⟩|refine au hz ?_|fail))<;>try(conv=>whnf)
  exact aG
 rw[if_neg (λh=>h hz)]at hK;have hs:=TT hz;have gJ:(List.map Rn.pv a.rn.l).length=a.rn.l.length:=zav _
 (repeat'((conv=>whnf);first|refine KP ?_|refine⟨_,⟨a.rn,rfl,rfl⟩,?_⟩|refine aw (λh=>h hz) ?_|refine⟨_,⟨a,rfl,GB hz,rfl⟩,?_⟩|(refine λ(b5:Bool) (hb5:b5=true↔(0:Int)<((List.map Rn.pv a.rn.l).length:Nat))=>?_)|(refine λ(b6:Bool) (hb6:b6=true↔a.ft+bI a.rn.l<=4096)=>?_)|(refine λ(b7:Bool) (hb7:b7=true↔a.vd<=a.sz)=>?_)|refine⟨_,⟨[_,_,_,_,_],rfl,rfl⟩,?_⟩|(refine fe ?_;first|refine bj ab ?_|refine aN ?_|refine bP ?_|refine au ab ?_|refine de (λ_=>?_) (λ_=>?_)|refine bT ?_|refine⟨_,⟨_,_,rfl,rfl⟩,?_⟩|refine⟨_,⟨_,_,_,rfl,rfl⟩,?_⟩|fail)))<;>try(conv=>whnf)
 all_goals
  refine⟨.pv (pI _),bu (aoR (a:=a) ab ?_ ?_ ?_ ?_ ?_),trivial,hK⟩;all_goals first
   |(rw[hb6];done)
   |(rw[hb7];done)
   |(simp only[true_iff];(try unfold pL);omega)
   |(simp only[zct,false_iff];(try unfold pL);omega)
   |(rw[hb5,gJ];omega)
set_option maxRecDepth 8000 in
set_option maxHeartbeats 4000000 in
def Y1:MT (ay [(148,bF Pf),(15,bF bG),(149,ah aeX),(56,ah iu)]) EB (ah Fa):=by
 rintro _ K ⟨_,⟨a,rfl,rfl⟩,hK⟩;unfold GG pL at hK;have gJ:(List.map Rn.pv a.rn.l).length=a.rn.l.length:=zav _;by_cases hz:dU a.rn.l=0
 ·have hs:=TT hz;simp only[hz,ne_eq,not_true_eq_false,if_false]at hK
  (repeat'((conv=>whnf);first|refine KP ?_|refine⟨_,⟨a.rn,rfl,rfl⟩,?_⟩|refine aw (λh=>h hz) ?_|refine⟨_,⟨a.rn,rfl,GB hz,rfl⟩,?_⟩|(refine fe ?_;first|refine bj ab ?_|refine aN ?_|refine bP ?_|refine au ab ?_|refine aw ab ?_|refine de (λ_=>?_) (λ_=>?_)|refine ez λ_=>?_|refine bT ?_|refine⟨_,⟨_,rfl,rfl⟩,?_⟩|refine⟨_,⟨_,_,_,rfl,rfl⟩,?_⟩|fail)))<;>try(conv=>whnf)
  all_goals
   refine⟨.pv (pI _),bu ?_,trivial,hK⟩
   (repeat' split)<;>first|rfl|contradiction|omega|simp_all
 ·simp only[hz,ne_eq,not_false_eq_true,if_true]at hK
  (repeat'((conv=>whnf);first|refine⟨_,⟨a.rn,rfl,rfl⟩,?_⟩|refine au hz ?_|(refine fe ?_;first|refine aN ?_|refine bP ?_|refine de (λ_=>?_) (λ_=>?_)|refine⟨_,⟨_,rfl,rfl⟩,?_⟩|refine⟨_,⟨_,_,_,rfl,rfl⟩,?_⟩|fail)))<;>try(conv=>whnf)
  all_goals
   refine⟨.pv (pI _),bu ?_,trivial,hK⟩
   (repeat' split)<;>first|rfl|contradiction|omega|simp_all
def nC(ps:List PV)(x:PV):Prop:=∃a:At,ps=[a.pv]/\a.nm.length<=1000000/\x=pI (gu a)
def ad6{a:At}(h1:a.ty∈S3)(h2:fy a.nm)(h3:yi a):TI a=Iv a:=by
 unfold TI;rw[if_neg (λh=>h h1),if_neg (λh=>h h2),if_neg (λh=>h h3)]
def aom(a:At):gu a=if a.ty∉S3 then 15 else if ¬fy a.nm then 4 else if ¬yi a then 2 else if Iv a≠0 then Iv a else if 440<(T5 a).length then 16 else 0:=by
 unfold gu TI;by_cases h1:a.ty∈S3<;>by_cases h2:fy a.nm<;>by_cases h3:yi a<;>simp[h1,h2,h3]
def XE(p q r:Prop)[Decidable p][Decidable q][Decidable r](c1 c3:Bool)(h1:c1=true↔p)(h3:c3=true↔r):bQ [if c1=true then 0 else 15,if q then 0 else 4,if c3=true then 0 else 2]=if ¬p then 15 else if ¬q then 4 else if ¬r then 2 else 0:=by
 simp only[bQ,h1,h3];by_cases g1:p<;>by_cases g2:q<;>by_cases g3:r<;>simp[g1,g2,g3]
def JJ:MT (ay [(141,bF EV),(140,ah dG),(142,ah Ps),(143,bF bG),(139,ah gB),(144,ah E9),(145,ah Fa),(146,ah Tp)]) qn (ah nC):=by
 rintro _ K ⟨_,⟨a,rfl,hn,rfl⟩,hK⟩;rw[aom]at hK;obtain⟨ty,nm,id,fl,rs,vl,ft,rn,al,sz,vd⟩:=a;simp only at hn hK;simp only[At.pv];by_cases g:ty∈S3/\fy nm/\yi ⟨ty,nm,id,fl,rs,vl,ft,rn,al,sz,vd⟩
 ·obtain⟨g1,g2,g3⟩:=g;rw[if_neg (λh=>h g1),if_neg (λh=>h g2),if_neg (λh=>h g3)]at hK;have e0:bQ [if true=true then 0 else 15,if fy nm then 0 else 4,if true=true then 0 else 2]=0:=by simp[bQ,g2]
  have g4:=g3;simp only[yi]at g4;have h0:TI ⟨ty,nm,id,fl,rs,vl,ft,rn,al,sz,vd⟩=Iv ⟨ty,nm,id,fl,rs,vl,ft,rn,al,sz,vd⟩:=ad6 g1 g2 g3;by_cases hk:Iv ⟨ty,nm,id,fl,rs,vl,ft,rn,al,sz,vd⟩=0
  ·rw[if_neg (λh=>h hk)]at hK;rw[hk]at h0;cases rs with
   |true=>
    have AP:Hy ⟨ty,nm,id,fl,true,vl,ft,rn,al,sz,vd⟩=0:=hk
    (repeat'((conv=>whnf);first|refine au g1 ?_|refine au g4.1 ?_|refine au g4.2 ?_|refine aw (λh=>h e0) ?_|refine aw (λh=>h AP) ?_|refine⟨_,⟨nm,rfl,rfl⟩,?_⟩|refine⟨_,⟨[_,_,_],rfl,rfl⟩,?_⟩|refine⟨_,⟨⟨ty,nm,id,fl,true,vl,ft,rn,al,sz,vd⟩,rfl,rfl⟩,?_⟩|refine⟨_,⟨⟨ty,nm,id,fl,true,vl,ft,rn,al,sz,vd⟩,rfl,h0,rfl⟩,?_⟩|(refine fe ?_;first|refine de (λ_=>?_) (λ_=>?_)|refine bT ?_|refine⟨_,⟨_,rfl,rfl⟩,?_⟩|refine⟨_,⟨_,_,rfl,rfl⟩,?_⟩|refine⟨_,⟨_,_,_,rfl,rfl⟩,?_⟩|fail)))<;>try(conv=>whnf)
    ·rw[if_neg ab]at hK;exact aG
    ·rw[if_pos ab]at hK;exact aG
   |false=>
    have AP:GG ⟨ty,nm,id,fl,false,vl,ft,rn,al,sz,vd⟩=0:=hk
    (repeat'((conv=>whnf);first|refine au g1 ?_|refine au g4.1 ?_|refine au g4.2 ?_|refine aw (λh=>h e0) ?_|refine aw (λh=>h AP) ?_|refine⟨_,⟨nm,rfl,rfl⟩,?_⟩|refine⟨_,⟨[_,_,_],rfl,rfl⟩,?_⟩|refine⟨_,⟨⟨ty,nm,id,fl,false,vl,ft,rn,al,sz,vd⟩,rfl,rfl⟩,?_⟩|refine⟨_,⟨⟨ty,nm,id,fl,false,vl,ft,rn,al,sz,vd⟩,rfl,h0,rfl⟩,?_⟩|(refine fe ?_;first|refine de (λ_=>?_) (λ_=>?_)|refine bT ?_|refine⟨_,⟨_,rfl,rfl⟩,?_⟩|refine⟨_,⟨_,_,rfl,rfl⟩,?_⟩|refine⟨_,⟨_,_,_,rfl,rfl⟩,?_⟩|fail)))<;>try(conv=>whnf)
    ·rw[if_neg ab]at hK;exact aG
    ·rw[if_pos ab]at hK;exact aG
  ·rw[if_pos hk]at hK;clear h0;cases rs with
   |true=>
    have AP:Hy ⟨ty,nm,id,fl,true,vl,ft,rn,al,sz,vd⟩≠0:=hk
    (repeat'((conv=>whnf);first|refine au g1 ?_|refine au g4.1 ?_|refine au g4.2 ?_|refine aw (λh=>h e0) ?_|refine au AP ?_|refine⟨_,⟨nm,rfl,rfl⟩,?_⟩|refine⟨_,⟨[_,_,_],rfl,rfl⟩,?_⟩|refine⟨_,⟨⟨ty,nm,id,fl,true,vl,ft,rn,al,sz,vd⟩,rfl,rfl⟩,?_⟩|(refine fe ?_;first|refine bT ?_|refine⟨_,⟨_,rfl,rfl⟩,?_⟩|refine⟨_,⟨_,_,rfl,rfl⟩,?_⟩|refine⟨_,⟨_,_,_,rfl,rfl⟩,?_⟩|fail)))<;>try(conv=>whnf)
    exact aG
   |false=>
    have AP:GG ⟨ty,nm,id,fl,false,vl,ft,rn,al,sz,vd⟩≠0:=hk
    (repeat'((conv=>whnf);first|refine au g1 ?_|refine au g4.1 ?_|refine au g4.2 ?_|refine aw (λh=>h e0) ?_|refine au AP ?_|refine⟨_,⟨nm,rfl,rfl⟩,?_⟩|refine⟨_,⟨[_,_,_],rfl,rfl⟩,?_⟩|refine⟨_,⟨⟨ty,nm,id,fl,false,vl,ft,rn,al,sz,vd⟩,rfl,rfl⟩,?_⟩|(refine fe ?_;first|refine bT ?_|refine⟨_,⟨_,rfl,rfl⟩,?_⟩|refine⟨_,⟨_,_,rfl,rfl⟩,?_⟩|refine⟨_,⟨_,_,_,rfl,rfl⟩,?_⟩|fail)))<;>try(conv=>whnf)
    exact aG
 ·have cb:(if ¬ty∈S3 then 15 else if ¬fy nm then 4 else if ¬yi ⟨ty,nm,id,fl,rs,vl,ft,rn,al,sz,vd⟩then 2 else(0:Int))≠0:=by
   by_cases h1:ty∈S3<;>by_cases h2:fy nm<;>by_cases h3:yi ⟨ty,nm,id,fl,rs,vl,ft,rn,al,sz,vd⟩<;>simp_all
  have hK:K (.pv (pI (if ¬ty∈S3 then 15 else if ¬fy nm then 4 else if ¬yi ⟨ty,nm,id,fl,rs,vl,ft,rn,al,sz,vd⟩then 2 else 0))):=by
   have e:∀x:Int,(if ¬ty∈S3 then 15 else if ¬fy nm then 4 else if ¬yi ⟨ty,nm,id,fl,rs,vl,ft,rn,al,sz,vd⟩then 2 else x)=(if ¬ty∈S3 then 15 else if ¬fy nm then 4 else if ¬yi ⟨ty,nm,id,fl,rs,vl,ft,rn,al,sz,vd⟩then 2 else 0):=by
    intro x;by_cases h1:ty∈S3<;>by_cases h2:fy nm<;>by_cases h3:yi ⟨ty,nm,id,fl,rs,vl,ft,rn,al,sz,vd⟩<;>simp_all
   rw[e]at hK;exact hK
  (repeat'((conv=>whnf);first|(refine λ(b1:Bool) (CV:b1=true↔ty∈S3)=>?_)|refine⟨_,⟨nm,rfl,rfl⟩,?_⟩|refine⟨_,⟨[_,_,_],rfl,rfl⟩,?_⟩|(refine au (by rw[XE (ty∈S3) (fy nm) (yi ⟨ty,nm,id,fl,rs,vl,ft,rn,al,sz,vd⟩) b1 true CV (by simp only[yi,true_iff];omega)];exact cb) ?_)|(refine au (by rw[XE (ty∈S3) (fy nm) (yi ⟨ty,nm,id,fl,rs,vl,ft,rn,al,sz,vd⟩) b1 false CV (by simp only[yi,zct,false_iff];omega)];exact cb) ?_)|(refine fe ?_;first|refine de (λ_=>?_) (λ_=>?_)|refine bT ?_|refine⟨_,⟨_,rfl,rfl⟩,?_⟩|refine⟨_,⟨_,_,rfl,rfl⟩,?_⟩|refine⟨_,⟨_,_,_,rfl,rfl⟩,?_⟩|fail)))<;>try(conv=>whnf)
  all_goals
   first
    |(rw[<-XE (ty∈S3) (fy nm) (yi ⟨ty,nm,id,fl,rs,vl,ft,rn,al,sz,vd⟩) b1 true CV (by simp only[yi,true_iff];omega)]at hK;exact aG)
    |(rw[<-XE (ty∈S3) (fy nm) (yi ⟨ty,nm,id,fl,rs,vl,ft,rn,al,sz,vd⟩) b1 false CV (by simp only[yi,zct,false_iff];omega)]at hK;exact aG)
def aiZ:MT (ay [(99,bF EV),(100,bF TF),(15,bF bG),(101,ah Fa),(102,ah E9),(103,ah Tp)]) Vm (ah nC):=by
 rintro _ K ⟨_,⟨a,rfl,hn,rfl⟩,hK⟩;rw[aom]at hK;obtain⟨ty,nm,id,fl,rs,vl,ft,rn,al,sz,vd⟩:=a;have h0:ty∈S3->fy nm->yi ⟨ty,nm,id,fl,rs,vl,ft,rn,al,sz,vd⟩->Iv ⟨ty,nm,id,fl,rs,vl,ft,rn,al,sz,vd⟩=0->TI ⟨ty,nm,id,fl,rs,vl,ft,rn,al,sz,vd⟩=0:=λg1 g2 g3 g4=>(ad6 g1 g2 g3).trans g4
 unfold yi Iv at hK h0;simp only at hn hK h0;simp only[At.pv];cases rs with
 |true=>
  (repeat'((conv=>whnf);first|refine⟨_,⟨_,rfl,rfl⟩,?_⟩|refine⟨_,⟨⟨ty,nm,id,fl,true,vl,ft,rn,al,sz,vd⟩,rfl,rfl⟩,?_⟩|refine⟨_,⟨⟨ty,nm,id,fl,true,vl,ft,rn,al,sz,vd⟩,rfl,h0 aA aA ⟨aA,aA⟩ aA,rfl⟩,?_⟩|(refine fe ?_;first|refine aN ?_|refine bP ?_|refine de (λ_=>?_) (λ_=>?_)|refine⟨_,⟨_,_,_,rfl,rfl⟩,?_⟩|fail)))<;>try(conv=>whnf)
  all_goals
   refine⟨.pv (pI _),bu ?_,trivial,hK⟩;simp only[*,if_true,zct,if_false,not_true_eq_false,not_false_eq_true,ne_eq,and_self,and_true,true_and,and_false,false_and];try omega
   try((repeat' split)<;>first|rfl|omega|contradiction)
 |false=>
  (repeat'((conv=>whnf);first|refine⟨_,⟨_,rfl,rfl⟩,?_⟩|refine⟨_,⟨⟨ty,nm,id,fl,false,vl,ft,rn,al,sz,vd⟩,rfl,rfl⟩,?_⟩|refine⟨_,⟨⟨ty,nm,id,fl,false,vl,ft,rn,al,sz,vd⟩,rfl,h0 aA aA ⟨aA,aA⟩ aA,rfl⟩,?_⟩|(refine fe ?_;first|refine aN ?_|refine bP ?_|refine de (λ_=>?_) (λ_=>?_)|refine⟨_,⟨_,_,_,rfl,rfl⟩,?_⟩|fail)))<;>try(conv=>whnf)
  all_goals
   refine⟨.pv (pI _),bu ?_,trivial,hK⟩;simp only[*,if_true,zct,if_false,not_true_eq_false,not_false_eq_true,ne_eq,and_self,and_true,true_and,and_false,false_and];try omega
   try((repeat' split)<;>first|rfl|omega|contradiction)
end Go.Dv.Try
namespace Go.Dv.Try
open Go Go.Dv Go.RowKit Go.Shelf
def bq{α:Type}(l:List α)(k:Nat):List α:=(l.drop (16*k)).take 16
def eE(n:Nat):Nat:=(n+15)/16
def chunks{α:Type}(l:List α):List (List α):=(List.range (eE l.length)).map (bq l)
def ait{α:Type}(l:List α)(k:Nat):bq l k=cut (16*k) (min (16*k+16) l.length) l:=by
 unfold bq cut;rw[List.drop_take];rcases Nat.lt_or_ge l.length (16*k+16)with h|h
 ·rw[zbI ab,za1 aH,za1 aj]
 ·rw[zas h];congr 1;omega
def yb{α:Type}(l:List α)(k:Nat):(bq l k).length=min 16 (l.length-16*k):=by
 simp[bq]
def pZ{α β:Type}(f:α->β)(l:List α)(k:Nat):bq (l.map f) k=(bq l k).map f:=by
 simp[bq]
def me(l:List Int):List (List PV):=(chunks l).map λc=>[.sl 1 (c.map pI)]
def ay4(jh:List PV)(L:List (List PV)):Prop:=
 ∃l:List Int,jh=[.cptr (.sl 1 (l.map pI)),.cptr (pI 16)]/\l.length<=1000000/\L=me l
def aJh:PC:=.region [⟨some 4,none,.mv (.const (.int .i64 0))⟩]
def aJg:PC:=.seq (.region [⟨some 6,none,.mv (.tmp 4)⟩,⟨some 7,none,.load false 1 (.tmp 1)⟩,⟨some 8,none,.lenR (.tmp 7)⟩,⟨some 9,none,.bin .lss (.tmp 6) (.tmp 8)⟩]) (.cond (.tmp 9) .skip (.exit 0))
def aJj:PC:=.drawD [⟨some 13,none,.load false 1 (.tmp 2)⟩,⟨some 14,none,.load false 1 (.tmp 1)⟩,⟨some 15,none,.mv (.tmp 4)⟩,⟨some 16,none,.slcR 1 (.tmp 14) (some (.tmp 15)) none⟩,⟨some 17,none,.lenN (.tmp 16)⟩,⟨some 18,none,.mm false (.tmp 13) (.tmp 17)⟩,⟨some 5,none,.mv (.tmp 18)⟩]
 [[],[],[],[1,2],[3],[0,4],[5,0,1,2,3,4,5]]
def aJA:PC:=.region [⟨some 10,none,.mv (.tmp 4)⟩,⟨some 11,none,.load false 1 (.tmp 2)⟩,⟨some 12,none,.bin .add (.tmp 10) (.tmp 11)⟩,⟨some 4,none,.mv (.tmp 12)⟩]
def axJ:∃(A B C R:Code) (id:Nat) (o0 o1 o2 o3 o4 o5 o6 o7 o8 o9 o10 o11:Oper),
 Go.Proofs.Tryz.f213.body=some (.seq A (.block 0 (.loop (.seq B (.seq (.block 1 (.seq C (.seq (.region id #[o0,o1,o2,o3,o4,o5,o6,o7,o8,o9,o10,o11] false) (.cond (.tmp 30) .ret .skip)))) R)))))/\
 nR Go.Proofs.Tryz.prog 31 A=some (strip aJh)/\nR Go.Proofs.Tryz.prog 31 B=some (strip aJg)/\nR Go.Proofs.Tryz.prog 31 C=some (strip aJj)/\nR Go.Proofs.Tryz.prog 31 R=some (strip aJA)/\
 (o0.guard=none/\o0.dst=some 19/\o0.op=.move (.tmp 0))/\(o1.guard=none/\o1.dst=some 20/\o1.op=.load 63 (.tmp 1))/\(o2.guard=none/\o2.dst=some 21/\o2.op=.move (.tmp 4))/\
 (o3.guard=none/\o3.dst=some 22/\o3.op=.move (.tmp 4))/\(o4.guard=none/\o4.dst=some 23/\o4.op=.move (.tmp 5))/\(o5.guard=none/\o5.dst=some 24/\o5.op=.binOp .add 3 (.tmp 22) (.tmp 23) 3)/\
 (o6.guard=none/\o6.dst=some 25/\o6.op=.move (.tmp 4))/\(o7.guard=none/\o7.dst=some 26/\o7.op=.move (.tmp 5))/\(o8.guard=none/\o8.dst=some 27/\o8.op=.binOp .add 3 (.tmp 25) (.tmp 26) 3)/\
 (o9.guard=none/\o9.dst=some 28/\o9.op=.slice 63 (.tmp 20) (some (.tmp 21)) (some (.tmp 24)) (some (.tmp 27)))/\
 (o10.guard=none/\o10.dst=some 29∧∃c,o10.op=.call c/\c.callee=.value (.tmp 19)/\c.args= #[.tmp 28])/\(o11.guard=none/\o11.dst=some 30∧∃t,o11.op=.unOp .not t (.tmp 29)):=
 ⟨_,_,_,_,_,_,_,_,_,_,_,_,_,_,_,_,_,rfl,ak,ak,ak,ak,⟨rfl,rfl,rfl⟩,⟨rfl,rfl,rfl⟩,⟨rfl,rfl,rfl⟩,⟨rfl,rfl,rfl⟩,⟨rfl,rfl,rfl⟩,⟨rfl,rfl,rfl⟩,⟨rfl,rfl,rfl⟩,⟨rfl,rfl,rfl⟩,⟨rfl,rfl,rfl⟩,⟨rfl,rfl,rfl⟩,⟨rfl,rfl,_,rfl,rfl,rfl⟩,⟨rfl,rfl,_,rfl⟩⟩
def axO{ok:Nat->Prop}{w:World}{aC:List PV}{ad:Option Addr}{c l h:Nat}(hs:Rd ok w (.sl 1 aC) (.slice ad aC.length c))(hlh:l<h)(hx:h<=aC.length):
 Rd ok w (.sl 1 (cut l h aC)) (.slice (ad.map (·.add (l*1))) (h-l) (h-l)):=by
 simp only[Rd]at hs ⊢;obtain⟨ad0,c0,hv,h1,h2,h3⟩:=hs;cases hv;refine⟨_,_,by rw[wL _ _ _ hx],ZG,ab,.inr ?_⟩;rcases h3 with h3|⟨b,o,rfl,di,h4⟩
 ·subst h3;simp at hx;omega
 ·exact⟨b,o+l*1,by simp[ik],di,SP l h aC ab hx o h4⟩
def jpI{a b:Int}(h:a=b):AV.pv (pI a)=AV.pv (pI b):=by rw[h]
def al4(hΓ:Sound Go.Proofs.Tryz.prog (ay [])):akR Go.Proofs.Tryz.prog 213 ay4:=by
 intro m w jN jh vs L di rT kW;obtain⟨l,rfl,hl,rfl⟩:=kW;have hf:Go.Proofs.Tryz.prog.funcs[213]?=some Go.Proofs.Tryz.f213:=ak;obtain⟨A,B,C,R,id,o0,o1,o2,o3,o4,o5,o6,o7,o8,o9,o10,o11,ab0,cA,cB,cC,cR,⟨g0,d0,p0⟩,⟨g1,d1,p1⟩,⟨g2,d2,p2⟩,⟨g3,d3,p3⟩,⟨g4,d4,p4⟩,⟨g5,d5,p5⟩,⟨g6,d6,p6⟩,⟨g7,d7,p7⟩,⟨g8,d8,p8⟩,⟨g9,d9,p9⟩,⟨g10,d10,cc,p10,aHl,aHm⟩,⟨g11,d11,tt,p11⟩⟩:=axJ;refine⟨?_,Go.Proofs.enters_of hf ak ab0⟩;obtain⟨v1,v2,rfl,r1,r2⟩:∃v1 v2,vs= #[v1,v2]/\Rd jN w (.cptr (.sl 1 (l.map pI))) v1/\Rd jN w (.cptr (pI 16)) v2:=by
  simp only[ew]at rT;obtain⟨v1,t,e1,r1,v2,t2,rfl,r2,rfl⟩:=rT;exact⟨v1,v2,by rw[<-zb2];exact e1,r1,r2⟩
 have r1':=r1;simp only[Rd]at r1';obtain⟨b1,q1,rfl,CV,_,u1,Oi,ad,cp,ov,hle,Aw,ly⟩:=r1';have hru:Rd jN w (.sl 1 (l.map pI)) u1:=by simp only[Rd];exact⟨ad,cp,ov,hle,Aw,ly⟩
 subst ov;have hlen:(l.map pI).length=l.length:=zav ..
 let en:{ k:Nat//k<eE l.length }->Array Value:=λk=> #[.slice (ad.map (·.add (16*k.1*1))) (min (16*k.1+16) l.length-16*k.1) (min (16*k.1+16) l.length-16*k.1)]
 let yl:{ k:Nat//k<eE l.length }->List PV:=λk=>[.sl 1 ((bq l k.1).map pI)]
 have aU:∀k,k<eE l.length->16*k<l.length:=by intro k hk;unfold eE at hk;omega
 refine⟨{ k:Nat//k<eE l.length },yl,en,λk=>⟨?_,?_⟩,?_⟩
 ·show _∈me l;unfold me chunks;rw[List.map_map];exact zaX.2 ⟨k.1,List.mem_range.2 k.2,rfl⟩
 ·show ew jN w [_] [_];simp only[ew];refine⟨_,_,rfl,?_,rfl⟩;rw[<-pZ,ait,hlen];exact axO hru (by have:=aU k.1 k.2;omega) (by rw[hlen];omega)
 intro yy J Jx W hb hJ hJx hY h0;have hcW:∀b o,jN b->W.cell? ⟨b,o,none⟩=w.cell? ⟨b,o,none⟩:=λb o Cs=>World.cell?_of_block (hb.block b (di b Cs))
 refine callsIn_of_wp hf ab0 trivial ?_;have GY:Jt 31 jN yy (.pointer (some ⟨b1,q1,none⟩)) v2 (.cptr (.sl 1 (l.map pI))) (.cptr (pI 16)) { tmps:=(#[Value.func (.yield yy) #[] #[]]++ #[.pointer (some ⟨b1,q1,none⟩),v2])++Array.replicate (Go.Proofs.Tryz.f213.ntmps-(#[Value.func (.yield yy) #[] #[]]++ #[.pointer (some ⟨b1,q1,none⟩),v2]).size) undef,defers:=[] } W:=by
  have hn:Go.Proofs.Tryz.f213.ntmps-(#[Value.func (.yield yy) #[] #[]]++ #[.pointer (some ⟨b1,q1,none⟩),v2]).size=28:=by
   rw[show Go.Proofs.Tryz.f213.ntmps=31 by kernel_rfl];rfl
  rw[hn];obtain⟨a0,a1,a2,a3⟩:=ao8 (Value.func (.yield yy) #[] #[]) (.pointer (some ⟨b1,q1,none⟩)) v2 28;exact⟨a3,rfl,a0,a1,a2,Rd.mono (λ_ h=>h) hcW _ _ r1,Rd.mono (λ_ h=>h) hcW _ _ r2,λb Cs=>zaf (di b Cs) hb.size⟩
 generalize ({ tmps:=(#[Value.func (.yield yy) #[] #[]]++ #[.pointer (some ⟨b1,q1,none⟩),v2])++Array.replicate (Go.Proofs.Tryz.f213.ntmps-(#[Value.func (.yield yy) #[] #[]]++ #[.pointer (some ⟨b1,q1,none⟩),v2]).size) undef,defers:=[] }:Act)=aKL at GY;refine wpIn_seq (GY.piece hΓ (ps:=[1,2,4,5]) cA rfl rfl (GY.TR [] aj) (q:=λe f=>e=.normal/\f 4=.pv (pI 0)) ⟨rfl,rfl⟩ m _ ?_);intro e aKM W1 amV σ1 kh it1 hg1 Gw j0;cases e with
 |exit i=>exact QF
 |ret=>exact QF
 |normal=>
  obtain⟨_,dV⟩:=j0;have t14:=Jt.num Gw dV;have j1:J [] W1:=hJ [] W W1 none h0 hg1 (λr e=>cz);have Gp:∀W':World,W'.heap[b1]?=w.heap[b1]?->W'.cell? ⟨b1,q1,none⟩=some (.slice ad l.length cp):=by
   intro W' h;rw[World.cell?_of_block h,Oi,hlen]
  have n9:∀{A B:World},A.grownBy B none->b1<A.heap.size->A.heap[b1]?=w.heap[b1]?->B.heap[b1]?=w.heap[b1]?:=λhg h1 h2=>(hg.block b1 h1 (λe=>cz)).trans h2
  have hW1:W1.heap[b1]?=w.heap[b1]?:=n9 hg1 (zaf (di b1 CV) hb.size) (hb.block b1 (di b1 CV));refine wpIn_block ?_;refine wpIn_loop (λact W=>∃(k:Nat) (pre:List { k:Nat//k<eE l.length }),Jt 31 jN yy (.pointer (some ⟨b1,q1,none⟩)) v2 (.cptr (.sl 1 (l.map pI))) (.cptr (pI 16)) act W/\W.heap[b1]?=w.heap[b1]?/\act.tmps.getD 4 undef=.int .i64 ((16*k:Nat):Int)/\J pre W/\pre.map yl=(me l).take k/\k<=eE l.length) (λact _=>(l.length+16-intOf (act.tmps.getD 4 undef)).toNat)
   ⟨0,[],it1,hW1,t14,j1,aj,ab⟩ ?_
  clear t14 j1 it1 Gw dV;rintro act W ⟨k,pre,it,hW,t4,hj,hL,hk⟩;refine wpIn_seq (it.piece hΓ (ps:=[1,2,4,5]) cB rfl rfl (it.TR [(4,((16*k:Nat):Int))] (by intro q hq;simp only[zaw,zb3,or_false]at hq;rcases hq with rfl;exact t4)) (q:=λe f=>f 4=.pv (pI ((16*k:Nat):Int))/\((e=.normal/\16*k<l.length)\/(e=.exit 0∧¬16*k<l.length))) ?vcB m _ ?_)
  case vcB=>
   refine λ_=>?_
   refine λb hb=>?_
   rw[hlen]at hb;rcases cmp hb with⟨rfl,h⟩|⟨rfl,h⟩
   ·exact⟨rfl,.inl ⟨rfl,ab⟩⟩
   ·exact⟨rfl,.inr ⟨rfl,ab⟩⟩
  intro e aKN W2 ahb σ2 lh zX mU CW jx;have j2:J pre W2:=hJ pre W W2 none hj mU (λr e=>cz);have hW2:=n9 mU (it.ok b1 CV) hW;cases e with
  |ret=>exact(by obtain⟨_,h|h⟩:=jx<;>cases h.1)
  |exit i=>
   obtain⟨h24,hc⟩:=jx;obtain⟨rfl,hc⟩:i=0∧¬16*k<l.length:=by
    rcases hc with⟨h,_⟩|⟨h,h'⟩
    ·cases h
    ·injection h with h;exact⟨h,h'⟩
   refine⟨zX.defs,.tuple #[],results_none rfl _ _ _,⟨_,rfl⟩,.inl ⟨pre,?_,j2⟩⟩;show pre.map yl=me l;rw[hL,za1];simp only[me,chunks,zav,zcP];unfold eE at hk ⊢;omega
  |normal=>
   obtain⟨h24,hc⟩:=jx;have Eo:16*k<l.length:=aht;have hkc:k<eE l.length:=FO;have t24:=Jt.num CW h24;clear CW h24 hc mU it hj hW;have hM:∀(UG:Act) (W5:World) (ab4:List { k:Nat//k<eE l.length }),Jt 31 jN yy (.pointer (some ⟨b1,q1,none⟩)) v2 (.cptr (.sl 1 (l.map pI))) (.cptr (pI 16)) UG W5->W5.heap[b1]?=w.heap[b1]?->UG.tmps.getD 4 undef=.int .i64 ((16*k:Nat):Int)->J ab4 W5->ab4.map yl=(me l).take (k+1)->
    R.wpIn Fence.wide m Go.Proofs.Tryz.prog (Exit.then (λtk W'=>(∃(k:Nat) (pre:List { k:Nat//k<eE l.length }),Jt 31 jN yy (.pointer (some ⟨b1,q1,none⟩)) v2 (.cptr (.sl 1 (l.map pI))) (.cptr (pI 16)) tk W'/\W'.heap[b1]?=w.heap[b1]?/\tk.tmps.getD 4 undef=.int .i64 ((16*k:Nat):Int)/\J pre W'/\pre.map yl=(me l).take k/\k<=eE l.length)/\(l.length+16-intOf (tk.tmps.getD 4 undef)).toNat<(l.length+16-intOf (act.tmps.getD 4 undef)).toNat)
     (Exit.inBlock 0 (bodyPost Go.Proofs.Tryz.prog Go.Proofs.Tryz.f213 λe W'=>(∃v,e=.returned v)/\((∃xs,(λxs=>xs.map yl=me l) xs/\J xs W')\/(∃pre,(λpre=>pre.map yl<+:me l) pre/\Jx pre W'))))) UG W5:=by
    intro UG W5 ab4 uA hW5 t54 j5 hL5;refine uA.piece hΓ (ps:=[1,2,4,5]) cR rfl rfl (uA.TR [(4,((16*k:Nat):Int))] (by intro q hq;simp only[zaw,zb3,or_false]at hq;rcases hq with rfl;exact t54)) (q:=λe f=>e=.normal/\f 4=.pv (pI ((16*(k+1):Nat):Int))) ?_ m _ ?_
    ·refine λx hx=>?_
     replace hx:=dB hx ab;subst hx;exact⟨rfl,jpI (by push_cast;omega)⟩
    ·intro e ayy W6 aG4 σ6 azG zY JU pz wH;cases e with
     |normal=>
      obtain⟨_,iG⟩:=wH;have t64:=Jt.num pz iG;refine⟨⟨k+1,ab4,zY,n9 JU (uA.ok b1 CV) hW5,t64,hJ ab4 W5 W6 none j5 JU (λr e=>cz),hL5,hkc⟩,?_⟩;rw[t64,t4];show((l.length:Int)+16-((16*(k+1):Nat):Int)).toNat<((l.length:Int)+16-((16*k:Nat):Int)).toNat;omega
     |exit i=>exact FF
     |ret=>exact FF
     |_=>exact wH.elim
   have qG:pre.length=k:=by
    have:=congrArg List.length hL;simp only[zav,zal,me,chunks,zcP]at this;omega
   have hx:k<eE l.length:=hkc;have Gs:(pre++[(⟨k,hx⟩:{ k:Nat//k<eE l.length })]).map yl=(me l).take (k+1):=by
    have e:(me l)[k]?=some (yl ⟨k,hx⟩):=by
     simp only[me,chunks,za9,List.getElem?_range hx,Option.map_some];rfl
    rw[zbu,hL,zcF,e];rfl
   have hE':((min (16*k+16) l.length:Nat):Int)=((16*k:Nat):Int)+min 16 ((l.length:Int)-16*k):=ab;refine wpIn_seq (wpIn_block ?_);refine wpIn_seq (zX.piece hΓ (ps:=[1,2,4,5]) cC rfl rfl (zX.TR [(4,((16*k:Nat):Int))] (by intro q hq;simp only[zaw,zb3,or_false]at hq;rcases hq with rfl;exact t24)) (q:=λe f=>e=.normal/\f 4=.pv (pI ((16*k:Nat):Int))/\f 5=.pv (pI (min 16 ((l.length:Int)-16*k)))) ?vcC m _ ?_)
   case vcC=>
    refine oQ ?_
    (conv=>whnf)
    refine zcC ⟨ab,by rw[hlen];omega⟩ ?_
    (conv=>whnf)
    refine λx hx=>?_
    rw[wL _ _ _ (zai _),hlen]at hx;refine zcC ak ⟨rfl,rfl,jpI ?_⟩;rw[hx];omega
   intro e amY W3 ahc σ3 II uv hg3 pq ry;have j3:J pre W3:=hJ pre W2 W3 none j2 hg3 (λr e=>cz);have hW3:=n9 hg3 (zX.ok b1 CV) hW2;cases e with
   |exit i=>exact(by obtain⟨h,_⟩:=ry;cases h)
   |ret=>exact(by obtain⟨h,_⟩:=ry;cases h)
   |normal=>
    obtain⟨_,h34,h35⟩:=ry;have t34:=Jt.num pq h34;have t35:=Jt.num pq h35;clear pq h34 h35 hg3 zX j2 hW2 t24;refine wpIn_seq (wpIn_region ?_);show wpOpsIn Fence.wide m _ _ _ [0,1,2,3,4,5,6,7,8,9,10,11] amY W3;have hF:=aa1.aba uv.t0 (.aba uv.t1 (.aba t34 (.aba t35 .ag7)));refine uv.Qt hF rfl g0 d0 p0 rfl λa0 i0 hF=>?_
    refine i0.FG hF rfl g1 d1 p1 (ati p1 (hF 1 _ rfl) Go.Proofs.Tryz.isAgg63 (Gp W3 hW3)) λa1 i1 hF=>?_
    refine i1.Qt hF rfl g2 d2 p2 rfl λa2 i2 hF=>?_
    refine i2.Qt hF rfl g3 d3 p3 rfl λa3 i3 hF=>?_
    refine i3.Qt hF rfl g4 d4 p4 rfl λa4 i4 hF=>?_
    refine i4.FG hF rfl g5 d5 p5 (aoe p5 (hF 22 _ rfl) (hF 23 _ rfl) ab) λa5 i5 hF=>?_
    refine i5.Qt hF rfl g6 d6 p6 rfl λa6 i6 hF=>?_
    refine i6.Qt hF rfl g7 d7 p7 rfl λa7 i7 hF=>?_
    refine i7.FG hF rfl g8 d8 p8 (aoe p8 (hF 25 _ rfl) (hF 26 _ rfl) ab) λa8 i8 hF=>?_
    refine i8.FG (v:=.slice (ad.map (·.add (16*k*1))) (min (16*k+16) l.length-16*k) (min (16*k+16) l.length-16*k)) hF rfl g9 d9 p9 ((amD p9 Go.Proofs.Tryz.underlying63 Go.Proofs.Tryz.sizeOf3 (hF 20 _ rfl) (hF 21 _ rfl) (by rw[hF 24 _ rfl,<-hE']) (by rw[hF 27 _ rfl,<-hE']) ab (by rw[hlen]at hle;omega)).trans (by rw[if_neg ab])) λa9 k9 hF=>?_
    obtain⟨fn,tm,qJ,bd,hy,hR⟩:=hY pre ⟨k,hx⟩ W3 j3 (by simp only[me,chunks,zav,zcP];omega);refine ahv rfl g10 d10 p10 aHl aHm (l:=yy) (hF 19 _ rfl) ?_;rw[hF 28 _ rfl];refine⟨fn,tm,qJ,bd,hy,hR.mono ?_⟩;rintro e W8 (⟨rfl,j8,k8⟩|⟨rfl,jx8⟩)
    ·refine⟨_,rfl,?_⟩;have i8:=k9.kept k8;have hW8:W8.heap[b1]?=w.heap[b1]?:=(k8.2 b1 CV).trans hW3;have hF:=hF.abl (d:=29) (v:=.bool true) (by rw[k9.size];omega);refine(i8.put (q:=29) (v:=.bool true) ab ab).FG hF rfl g11 d11 p11 (ans p11 (hF 29 _ rfl)) λa11 k11 hF=>?_
     exact wpIn_cond_false (hF 30 _ rfl) (wpIn_skip (hM a11 W8 (pre++[⟨k,hx⟩]) k11 hW8 (hF 4 _ rfl) j8 Gs))
    ·refine⟨_,rfl,?_⟩;have n10:(a9.put (some 29) (.bool false)).tmps.getD 29 undef=.bool false:=by rw[cW (by rw[k9.size];omega),if_pos rfl]
     have s10:(a9.put (some 29) (.bool false)).tmps.size=31:=(xL ..).trans k9.size;have r5:(a9.put (some 29) (.bool false)).defers=[]:=k9.defs;generalize a9.put (some 29) (.bool false)=a10 at n10 s10 r5;refine oR rfl g11 d11 (ans p11 n10) (λc hc=>by have:=p11.symm.trans hc;cases this) ?_;have n11:(a10.put (some 30) (.bool (!false))).tmps.getD 30 undef=.bool true:=by rw[cW (by rw[s10];omega),if_pos rfl];rfl
     have e11:(a10.put (some 30) (.bool (!false))).defers=[]:=r5;generalize a10.put (some 30) (.bool (!false))=a11 at n11 e11;refine wpIn_cond_true n11 (wpIn_ret ?_);refine⟨e11,.tuple #[],results_none rfl _ _ _,⟨_,rfl⟩,.inr ⟨pre++[⟨k,hx⟩],?_,jx8⟩⟩;show(pre++[(⟨k,hx⟩:{ k:Nat//k<eE l.length })]).map yl<+:me l;rw[Gs];exact List.take_prefix _ _
   |_=>exact ry.elim
  |_=>exact jx.elim
 |_=>exact j0.elim
end Go.Dv.Try
namespace Go.Dv.Try
open Go Go.Dv
def L7:Spec:={ lone:=false,fn:=false,run:=λ_ _=>False,iter:=ay4,mu:=false,qS:=λ_ _ _=>False }
def alX(hΓ:Sound Go.Proofs.Tryz.prog (ay [])):an Go.Proofs.Tryz.prog 213 L7:=
 ⟨(λe=>cz),(λe=>cz),(λ_ _ _ _ _ _ _ _ h=>(show False from h).elim),al4 hΓ,(λ_ _ _ _ _ _ _ _ e=>cz)⟩
abbrev rI(l:List Int):PV:=.sl 1 (l.map pI)
def aeV:Spec:=EM false false λps K=>∃(l:List Int),ps=[rI l,pI 16]/\K (.pv (.clo 213 [.cptr (rI l),.cptr (pI 16)]))
def ahK:MT (ay [(213,L7)]) uE aeV:=by
 rintro _ K ⟨l,rfl,hK⟩;refine aw (p:=(16:Int)<1) ab ?_;exact FI
def nP(cs:List (List Int)):PV:=match cs with|[]=>.nil 0|cs=>.sl 1 (cs.map rI)
def alP{cs:List (List Int)}(h:cs≠[]):nP cs=.sl 1 (cs.map rI):=by
 cases cs with
 |nil=>exact kN
 |cons _ _=>rfl
def CS{cs:List (List Int)}{σ:aF}{K:Nat->List PV->Prop}(k:∀s,K s (cs.map rI)):Ef σ (.pv (nP cs)) K:=by
 cases cs with
 |nil=>exact k 0
 |cons c cs=>exact k 1
def auV:Spec:=EM false false λps K=>∃(l:List Int),ps=[.nil 0,.clo 213 [.cptr (rI l),.cptr (pI 16)]]/\l.length<=1000000/\K (.pv (nP (chunks l)))
def VJ:MT (ay [(213,L7)]) qj auV:=by
 rintro _ K ⟨l,rfl,hl,hK⟩;refine⟨me l,λpre σ=>∃cs:List (List Int),pre=cs.map (λc=>[rI c])/\σ=(match cs with|[]=>[.box 129 [.pv (.nil 0)],.row 63 1 true []]|cs=>[.box 129 [.own 2],.row 63 1 true [],.row 63 1 true (cs.map rI)]),⟨l,rfl,hl,rfl⟩,?_,⟨rfl,[],rfl,rfl⟩,?_,?_⟩
 ·intro x hx;simp only[me,zaX]at hx;obtain⟨p,_,rfl⟩:=hx;rfl
 ·rintro pre x σ hx hlen ⟨cs,rfl,rfl⟩;simp only[me,zaX]at hx;obtain⟨c,_,rfl⟩:=hx;have mE:cs.length<70000:=by
   simp only[zav,me,chunks,zcP,eE]at hlen;omega
  cases cs with
  |nil=>
   refine⟨rfl,?_⟩;refine⟨⟨aj,aj⟩,?_⟩;refine⟨rfl,?_⟩;exact⟨rfl,rfl,[c],rfl,rfl⟩
  |cons d cs=>
   refine⟨rfl,?_⟩;refine⟨⟨by simp at mE ⊢;omega,by simp at mE ⊢;omega⟩,?_⟩;refine⟨rfl,?_⟩;exact⟨rfl,rfl,d::cs++[c],aj,aj⟩
 ·rintro σ ⟨cs,sH,rfl⟩;have:cs=chunks l:=by
   unfold me at sH;have h2:=congrArg (List.map λx:List PV=>x) sH;exact(zce (f:=λc:List Int=>[rI c]) (λx y e=>by
    simp only[List.cons.injEq,PV.sl.injEq,true_and,and_true]at e;exact(zce (λa b e=>by cases e;rfl)).1 e)).1 sH.symm
  subst this;unfold nP at hK;cases h:chunks l with
  |nil=>
   rw[h]at hK;exact Zg
  |cons d cs=>
   rw[h]at hK;exact FI
def Ti:Spec:=EM false false λps K=>∃(l:List Int),ps=[.clo 213 [.cptr (rI l),.cptr (pI 16)]]/\l.length<=1000000/\K (.pv (nP (chunks l)))
def acY:MT (ay [(212,auV)]) x8 Ti:=by
 rintro _ K ⟨l,rfl,hl,hK⟩;refine⟨l,rfl,hl,?_⟩;cases h:chunks l with
 |nil=>rw[h]at hK;exact Zg
 |cons d cs=>rw[h]at hK;exact FI
end Go.Dv.Try
