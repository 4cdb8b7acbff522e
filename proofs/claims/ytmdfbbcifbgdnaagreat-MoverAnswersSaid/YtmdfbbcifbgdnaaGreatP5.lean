/- Own work: parts of the proof, shortened and laid together by a tool of our own. -/
import Derived.Test.YtmdfbbcifbgdnaaGreatP4
import Derived.KernelRfl
set_option linter.defProp false
set_option linter.unusedSimpArgs false
set_option linter.unusedVariables false
open List renaming getElem?_eq_getElem→zah, mem_of_getElem?→zag, length_map→zav, getElem?_eq_some_iff→zaa, getElem?_map→za9, length_append→zad, getElem?_eq_none→zaK, mem_range→zbm, take_of_length_le→za1, mem_map→zaX, getElem?_append_right→zak, length_set→za0, ext_getElem?→zba, mem_iff_getElem?→zaE, pairwise_iff_getElem→zdB, length_cons→zam, drop_of_length_le→zdC, take_add_one→zcX, getElem?_append_left→zaq, mem_singleton→zc2, getElem?_take_of_lt→zdg, getElem?_drop→zaB, mem_append→zaA, flatMap_append→zaz, mem_cons→zaw, mem_flatMap→zbz, eq_nil_or_concat→zdD, concat_eq_append→zdE, mem_or_eq_of_mem_set→zdF, map_append→zbu, getElem?_range→zbD, take_length→zcZ, length_take→zal, flatMap_map→zdG, range_succ→zdi, pairwise_flatMap→zdH, length_singleton→zbS, flatMap_def→zdI, map_congr_left→zbC, append_assoc→zaj, foldl_append→zdJ, getElem?_set→zaS, map_set→zdh, set_append_right→zcF, mem_of_mem_take→zaL, not_mem_nil→zb9, dropLast_concat→zdK, nil_append→zaZ, drop_eq_getElem_cons→zcj, getLast?_singleton→zdM, flatMap_cons→zan, mem_range'_1→zdN, getElem?_set_self→zbQ, mem_flatten→zdO, foldl_cons→zbg, append_nil→zbf, length_pos_iff→zcb, dropLast_concat_getLast→zdc, length_drop→zax, getElem_mem→zdw, length_eq_zero_iff→zdQ, nodup_cons→zdR, drop_eq_nil_of_le→zcc, getElem?_dropLast→zdS, flatMap_singleton→zdT, take_append_drop→zaD, drop_zero→zdk, length_dropLast→zdU, getLast?_concat→zdV, getLast?_append→zdW, map_cons→zat, map_nil→zcw, length_range'→zdY, pairwise_map→zdZ, nodup_append→zbv, cons_append→zbd, getElem_set→zd0, length_nil→zaY
open Option renaming getD_some→zbA, map_some→zb4, toList_some→zdq, or_some→zd1, some_or→zd2
open Int renaming toNat_natCast→zaC, natCast_add→zdL
open And renaming intro→zcB
open Bool renaming and_eq_true→zaU, not_eq_true'→zbs, or_eq_true→zbE, false_eq_true→zcn, eq_iff_iff→zaN
open Nat renaming le_refl→zai, le_trans→zay, lt_trichotomy→zbJ, lt_or_eq_of_le→zc0, le_of_lt_succ→zc1, mul_comm→zdP, mul_succ→zdX, sub_self→zck
open Decidable renaming not_not→zcY
namespace Go.Dv.Try
open Go Go.Dv
abbrev Pa(l:List Rn):PV:=.sl 2 (l.map Rn.pv)
def auy(acc l m:List Rn):h_ acc (l++m)=h_ (h_ acc l) m:=by simp[h_]
def aBo{q:Rn}{k:Int}(h:nV k q)(hk:k<=4096):jZ q:=by
 unfold nV at h;unfold jZ;split<;>omega
def agZ{l:List Rn}(h:∀r∈l,rO r):0<=bI l:=by
 induction l with
 |nil=>simp[bI]
 |cons r l ih=>
  rw[gS];have:=ih λq hq=>h q kF
  have h1:=h r aj;unfold rO at h1;omega
def AH{ls:List (List Rn)}{k:Nat}{l:List Rn}(h:ls[k]?=some l):(ls.take (k+1)).flatten=(ls.take k).flatten++l:=by
 rw[zcX,h];simp
def atf{ls:List (List Rn)}(h:∀l∈ls,∀r∈l,rO r)(k:Nat):0<=bI (ls.take k).flatten/\bI (ls.take k).flatten<=bI ls.flatten:=by
 have e:ls.flatten=(ls.take k).flatten++(ls.drop k).flatten:=by rw[<-List.flatten_append,zaD]
 have h1:0<=bI (ls.take k).flatten:=agZ λr hr=>by
  obtain⟨l,hl,vu⟩:=zdO.1 hr;exact h l (zaL hl) r vu
 have h2:0<=bI (ls.drop k).flatten:=agZ λr hr=>by
  obtain⟨l,hl,vu⟩:=zdO.1 hr;exact h l (List.mem_of_mem_drop hl) r vu
 rw[e,FE];omega
def axF{l:List Rn}(h:∀r∈l,rO r):(l.length:Int)<=bI l:=by
 induction l with
 |nil=>simp[bI]
 |cons r l ih=>
  rw[gS,zam];have:=ih λq hq=>h q kF
  have h1:=h r aj;unfold rO at h1;omega
def aoi:∀(l:List Rn) {A:List Rn},A≠[]->h_ A l≠[]
 |[],_,h=>h
 |r::l,A,_=>aoi l (xl A r)
noncomputable def U4(J:List Rn):List Rn:=open Classical in if ny J=0 then J else[]
def Xb(ps:List PV)(r:RV):Prop:=∃ls:List (List Rn),ps=[.sl 1 (ls.map Pa)]/\(ls.length<=4/\(∀l∈ls,l.length<=200∧∀r∈l,rO r)/\bI ls.flatten<=4096/\ls.flatten≠[])/\
 r=.tup [.fresh 37 2 ((U4 (h_ [] ls.flatten)).map Rn.pv),.pv (pI (ny (h_ [] ls.flatten)))]
set_option maxHeartbeats 1000000 in
def ai7:MT (ay [(231,sB abp),(232,sB ak4)]) U_ (c8 true Xb):=by
 rintro _ K ⟨_,⟨ls,rfl,⟨h1,h2,h3,h4⟩,rfl⟩,hK⟩;have hW:∀l∈ls,∀r∈l,rO r:=λl hl=>(h2 l hl).2
 have hF:∀k,∀r∈(ls.take k).flatten,rO r:=λk r hr=>by
  obtain⟨l,hl,vu⟩:=zdO.1 hr;exact hW l (zaL hl) r vu
 have hJ:∀k,∀q∈h_ [] (ls.take k).flatten,nV (bI (ls.take k).flatten) q:=λk q hq=>by
  have:=au4 (acc:=[]) (k:=0) (λ_ h=>bV) ab (hF k) q hq;simpa using this
 have cb:h_ [] ls.flatten≠[]:=by
  cases UB:ls.flatten.getLast? with
  |none=>exact absurd Ka h4
  |some q=>
   have hp:=zcb.2 h4;rw[<-zcZ (l:=ls.flatten),show ls.flatten.length=ls.flatten.length-1+1 by omega,FJ (zah ab)];exact xl _ _
 have da:h_ [] ls.flatten≠[]->(h_ [] ls.flatten).length<=5000:=λ_=>by
  have:=X3 [] ls.flatten;have:=axF (l:=ls.flatten) λr hr=>by
   obtain⟨l,hl,vu⟩:=zdO.1 hr;exact hW l hl r vu
  simp at*;omega
 have SL:∀k,(ls.take k).flatten.length<=200*k:=λk=>by
  induction k with
  |zero=>simp
  |succ k ih=>
   by_cases aU:k<ls.length
   ·have hx:ls[k]?=some ls[k]:=zah aU;rw[AH hx,zad];have:=(h2 _ (zag hx)).1;omega
   ·rw[za1 ab]at ih ⊢;omega
 have mE:∀k,(h_ [] (ls.take k).flatten).length<=200*k:=λk=>by
  have:=X3 [] (ls.take k).flatten;have:=SL k;simp at*;omega
 have gJ:(ls.map Pa).length=ls.length:=zav _
 (repeat'((conv=>whnf);first|refine dq λ_=>?_|fail))<;>try(conv=>whnf)
 refine⟨λm env σ=>∃k:Nat,k+m=ls.length/\σ=du (h_ [] (ls.take k).flatten)/\env=[(4,.ref 0 0 0),(7,.pv (.sl 1 (ls.map Pa))),eN 8 ls.length,eN 9 k],ls.length,⟨0,ab,rfl,rfl⟩,?_⟩;rintro m env σ ⟨k,hk,rfl,rfl⟩;have hs:=atf hW k;by_cases aU:k<ls.length
 ·obtain⟨l,hl⟩:∃l,ls[k]?=some l:=⟨_,zah aU⟩
  have hlw:=h2 l (zag hl);have hT:h_ [] (ls.take (k+1)).flatten=h_ (h_ [] (ls.take k).flatten) l:=by rw[AH hl,auy]
  have MY:=hJ k;have aHT:=mE k;clear hK;generalize h_ [] (ls.take k).flatten=A at*;by_cases hA:A=[]
  ·subst hA;rw[show du []=[.box 262 [.pv (.nil 2)]]from rfl]
   (repeat'((conv=>whnf);first|refine au ab ?_|refine iY aA ?_|fail))<;>try(conv=>whnf)
   refine⟨[],l,0,rfl,⟨aj,ab,ab,(λq hq=>by cases hq),hlw.2⟩,rfl,?_,λh=>absurd rfl h⟩;by_cases hB:h_ [] l=[]
   ·rw[hB]at hT ⊢;rw[show du []=[.box 262 [.pv (.nil 2)]]from rfl]
    (repeat'((conv=>whnf);first|refine bj ab ?_|fail))<;>try(conv=>whnf)
    exact⟨m-1,ab,k+1,ab,rY,rfl⟩
   ·rw[jd hB]
    (repeat'((conv=>whnf);first|refine bj ab ?_|fail))<;>try(conv=>whnf)
    exact Y0
  ·rw[jd hA]
   (repeat'((conv=>whnf);first|refine au ab ?_|refine iY aA ?_|fail))<;>try(conv=>whnf)
   have hB:h_ A l≠[]:=aoi l hA;refine⟨A,l,bI (ls.take k).flatten,rfl,⟨ab,ab,ab,MY,hlw.2⟩,(jd hA).symm,?_,λ_=>?_⟩
   ·rw[jd hB]
    (repeat'((conv=>whnf);first|refine bj ab ?_|fail))<;>try(conv=>whnf)
    exact Y0
   ·unfold lZ
    (repeat'((conv=>whnf);first|refine bj ab ?_|fail))<;>try(conv=>whnf)
    exact Y0
 ·have hk:k=ls.length:=by omega
  subst hk;have MY:=hJ ls.length;have aHT:=mE ls.length;rw[zcZ]at MY aHT ⊢;unfold U4 at hK;generalize h_ [] ls.flatten=A at*;rw[jd cb]
  (repeat'((conv=>whnf);first|refine aw ab ?_|fail))<;>try(conv=>whnf)
  refine⟨A,rfl,⟨cb,ab,λq hq=>aBo (MY q hq) h3⟩,(jd cb).symm,λhe=>?_,λhe=>?_⟩
  ·rw[he,if_pos rfl]at hK;rw[jd cb]
   (conv=>whnf)
   exact abO
  ·rw[if_neg he]at hK;rw[jd cb]
   (conv=>whnf)
   exact abm
def asn{r:Rn}(h:jZ r):rO r:=by
 unfold jZ at h;unfold rO;split at h<;>omega
def ay7{l:List Rn}{f n:Int}(hf:0<=f/\0<=n)(hl:∀r∈l,jZ r):(NB l f n).1.length<=l.length∧∀q∈(NB l f n).1,rO q:=by
 have:=aze hf hl l.length;rw[zcZ]at this;exact⟨this.1.1,this.2⟩
def anl{l:List Rn}(hl:∀r∈l,jZ r):∀(out:List Rn) (f n:Int),0<=f->0<=n->bI (l.foldl ee (out,f,n)).1=bI out+min n (max 0 (bI l-f)):=by
 induction l with
 |nil=>intro out f n h1 h2;simp[bI];omega
 |cons r l ih=>
  intro out f n h1 h2;have hr:=rG (hl r aj);have z_:0<=bI l:=agZ λq hq=>asn (hl q kF)
  rw[zbg,gS];have:=ih (λq hq=>hl q kF) (ee (out,f,n) r).1 (ee (out,f,n) r).2.1 (ee (out,f,n) r).2.2;have e:ee (out,f,n) r=((ee (out,f,n) r).1,(ee (out,f,n) r).2.1,(ee (out,f,n) r).2.2):=rfl;rw[e,this (by unfold ee;simp only;omega) (by unfold ee;simp only;omega)];unfold ee;simp only;rw[FE];split
  ·simp[bI]at*;omega
  ·simp[bI]at*;omega
def fO(l:List Rn)(p:Int)(tr:Rn):List Rn:=(NB l 0 p).1++[tr]++(NB l (p+tr.n) (bI l)).1
noncomputable def nn(l:List Rn)(p:Int)(tr:Rn):Int:=ny (h_ [] (fO l p tr))
def Hs(ps:List PV)(r:RV):Prop:=∃(s:Rs) (p:Int) (tr:Rn),ps=[qF s,pI p,Pa [tr]]/\(dU s.l=0/\dU [tr]=0/\0<=p/\p+tr.n<=bI s.l)/\
 r=.tup [.fresh 37 2 ((U4 (h_ [] (fO s.l p tr))).map Rn.pv),.pv (pI (nn s.l p tr))]
def Dz(ps:List PV)(x:PV):Prop:=∃(s:Rs) (p:Int) (tr:Rn),ps=[qF s,pI p,Pa [tr],pI tr.n]/\(dU s.l=0/\dU [tr]=0/\0<=p/\p+tr.n<=bI s.l)/\x=pI 0
def VV:MT (ay [(196,ah wB),(230,bF bG),(229,ah dG),(197,ah iu),(228,ah gB)]) EL (ah Dz):=by
 rintro _ K ⟨_,⟨s,p,tr,rfl,⟨h1,h2,h3,h4⟩,rfl⟩,hK⟩;have hb:=TT h1;have hr:=rG ((bZ h2).2.2.2 tr aj);have aDZ:wB [.sl 1 [qF s,Pa [tr]]] (pI 0):=⟨[s,.sl [tr]],rfl,aj,bu (by show(0:Int)=bQ [dU s.l,dU [tr]];rw[h1,h2];rfl)⟩
 have hlen:iu [qF s] (pI (bI s.l)):=⟨s,rfl,GB h1,rfl⟩
 (repeat'((conv=>whnf);first|refine zcB (show ahB 1 [qF s,Pa [tr]]=true by cases s<;>rfl) ?_|refine⟨_,aDZ,?_⟩|refine⟨_,hlen,?_⟩|(refine fe ?_;first|refine bj ab ?_|refine au ab ?_|refine bT ?_|refine⟨_,⟨_,_,rfl,rfl⟩,?_⟩|refine⟨_,⟨_,_,_,rfl,rfl⟩,?_⟩|refine⟨_,⟨[_,_,_],rfl,rfl⟩,?_⟩|fail)))<;>try(conv=>whnf)
 exact aG
set_option maxHeartbeats 1000000 in
def aao:MT (ay [(196,ah wB),(197,ah iu),(198,ah Dz),(200,c8 true YT),(199,c8 true Xb)]) H9 (c8 true Hs):=by
 rintro _ K ⟨_,⟨s,p,tr,rfl,⟨h1,h2,h3,h4⟩,rfl⟩,hK⟩;have hb:=TT h1;have gr:=bZ h1;have M5:=(bZ h2).2.2.2 tr aj;have hr:=rG M5;have aDZ:wB [.sl 1 [Pa [tr]]] (pI 0):=⟨[.sl [tr]],rfl,aj,bu (by show(0:Int)=bQ [dU [tr]];rw[h2];rfl)⟩
 have aU:iu [Pa [tr]] (pI tr.n):=⟨.sl [tr],rfl,GB h2,bu (by simp[bI,Sl.l])⟩
 have hlen:iu [qF s] (pI (bI s.l)):=⟨s,rfl,GB h1,rfl⟩
 have UH:Dz [qF s,pI p,Pa [tr],pI tr.n] (pI 0):=⟨s,p,tr,rfl,⟨h1,h2,h3,h4⟩,rfl⟩
 have XN:YT [qF s,pI 0,pI p] (.fresh 37 2 ((NB s.l 0 p).1.map Rn.pv)):=⟨s,0,p,rfl,⟨ab,ab,ab,gr.2.2.2⟩,rfl⟩
 have eQ:YT [qF s,pI (p+tr.n),pI (bI s.l)] (.fresh 37 2 ((NB s.l (p+tr.n) (bI s.l)).1.map Rn.pv)):=⟨s,p+tr.n,bI s.l,rfl,⟨ab,ab,ab,gr.2.2.2⟩,rfl⟩
 have Vt:=ay7 (f:=0) (n:=p) ⟨ab,ab⟩ gr.2.2.2;have WT:=ay7 (f:=p+tr.n) (n:=bI s.l) ⟨ab,ab⟩ gr.2.2.2;have lX:=anl gr.2.2.2 [] 0 p ab ab;have ZI:=anl gr.2.2.2 [] (p+tr.n) (bI s.l) ab ab;have PA:Xb [.sl 1 [Pa (NB s.l 0 p).1,Pa [tr],Pa (NB s.l (p+tr.n) (bI s.l)).1]] (.tup [.fresh 37 2 ((U4 (h_ [] (fO s.l p tr))).map Rn.pv),.pv (pI (nn s.l p tr))]):=by
  have e:[(NB s.l 0 p).1,[tr],(NB s.l (p+tr.n) (bI s.l)).1].flatten=fO s.l p tr:=by simp[fO]
  refine⟨[(NB s.l 0 p).1,[tr],(NB s.l (p+tr.n) (bI s.l)).1],rfl,⟨aj,?_,?_,?_⟩,?_⟩
  ·intro l hl;simp only[zaw,zb9,or_false]at hl;rcases hl with rfl|rfl|rfl
   ·exact⟨ab,Vt.2⟩
   ·exact⟨aj,λr hr=>by rw[zc2]at hr;subst hr;exact asn M5⟩
   ·exact⟨ab,WT.2⟩
  ·rw[e];unfold fO;rw[FE,FE];unfold NB;rw[lX,ZI];simp only[bI,zat,zcw,List.sum_cons,List.sum_nil]at*;omega
  ·rw[e];unfold fO;simp
  ·rw[e];rfl
 generalize (NB s.l 0 p).1=P1 at*;generalize (NB s.l (p+tr.n) (bI s.l)).1=P2 at*
 (repeat'((conv=>whnf);first|refine⟨_,aDZ,?_⟩|refine⟨_,aU,?_⟩|refine⟨_,UH,?_⟩|refine⟨_,hlen,?_⟩|refine⟨_,XN,?_⟩|refine⟨_,eQ,?_⟩|refine⟨_,PA,?_⟩|refine bj ab ?_|refine au ab ?_|refine aw ab ?_|refine bT ?_|fail))<;>try(conv=>whnf)
 exact abO
def qx(a:At)(p:Int)(tr:Rn):At:={ a with rn:=.sl (h_ [] (fO a.rn.l p tr)) }
def J2(B:List UInt8)(pl:List Int)(p:Int)(tr:Rn):Nat->List UInt8
 |0=>B
 |k+1=>MF (J2 B pl p tr k) (tr.s+k).toNat (eU B (pl[p.toNat+k]?.getD 0).toNat)
def ON(b:Nat->Bool)(pl:List Int)(p:Int)(tr:Rn):Nat->Nat->Bool
 |0=>b
 |k+1=>λc=>if c=(tr.s+k).toNat then true else if c=(pl[p.toNat+k]?.getD 0).toNat then false else ON b pl p tr k c
noncomputable def dJ(d:Dk)(a:At)(p:Int)(tr:Rn):Int:=
 if aK d a≠0 then aK d a else if SJ (ar d a) p tr≠0 then SJ (ar d a) p tr else if nn a.rn.l p tr≠0 then 8 else if gu (qx a p tr)≠0 then 8 else 0
noncomputable def jM(d:Dk)(a:At)(p:Int)(tr:Rn):Dk:=if dJ d a p tr≠0 then zD else⟨J2 d.a_ (az a.rn.l) p tr tr.n.toNat,mG (cQ (ON (df d) (az a.rn.l) p tr tr.n.toNat) d.n)⟩
noncomputable def jG(d:Dk)(a:At)(p:Int)(tr:Rn):At:=if dJ d a p tr≠0 then zA else qx a p tr
def ape{r:Rn}(h:jZ r):dU [r]=0:=by
 have hb:=rG h;have h0:∀k,k<[r].length->Wx [r] k=0:=λk hk=>by
  have:k=0:=by simpa using hk
  subst this;exact KD (x:=r) rfl h (λ_ h=>ab) (by rintro⟨k,hk,_⟩;omega)
 unfold dU;rw[Mo aj h0,if_pos (by simp[bI];omega)]
def aak:∀{l:List Int},bt l=l.length→∀x∈l,x≠ -1
 |[],_=>λ_ h=>by cases h
 |a::l,h=>by
  have hl:=oG l;unfold bt at h hl;rw[List.filter_cons]at h;split at h
  ·rename_i ha;intro x hx;rcases zaw.1 hx with rfl|hx
   ·simpa using ha
   ·exact aak (by unfold bt;simpa using h) x hx
  ·rw[zam]at h;omega
structure aJG(s:St)(p:Int)(tr:Rn):Prop where
 ok:Pv s p tr
 rs:s.a.rs=false
 len:p+tr.n<=s.pl.length
 from_:∀k:Nat,(k:Int)<tr.n→∃x,s.pl[p.toNat+k]?=some x/\x≠ -1
 free:∀c:Nat,tr.s<=c->(c:Int)<tr.s+tr.n->df s.d c=false
def Up{s:St}{p:Int}{tr:Rn}(h:SJ s p tr=0):aJG s p tr:=by
 unfold SJ at h;split at h
 ·cases h
 rename_i h1;split at h
 ·cases h
 rename_i h2;have h2:=zcY.1 h2;split at h
 ·cases h
 rename_i h3;split at h
 ·cases h
 rename_i h4;have h4:=zcY.1 h4;split at h
 ·cases h
 rename_i h5;have pr:=h2;unfold Pv at pr;have hlen:((s.pl.drop p.toNat).take tr.n.toNat).length=tr.n.toNat:=Rb;refine⟨h2,xO,ab,λk hk=>?_,λc h6 h7=>?_⟩
 ·have hx:s.pl[p.toNat+k]?=some (s.pl[p.toNat+k]'ab):=zah ab;refine⟨_,hx,aak (l:=(s.pl.drop p.toNat).take tr.n.toNat) ab _ ?_⟩;refine zag (i:=k) ?_;rw[zdg ab,zaB];exact hx
 ·cases hb:df s.d c with
  |false=>rfl
  |true=>
   refine absurd ?_ h5;refine zag (i:=c-tr.s.toNat) ?_;rw[zdg ab,zaB,show tr.s.toNat+(c-tr.s.toNat)=c by omega,bO ab,hb]
def Xk{B:List UInt8}{pl:List Int}{p:Int}{tr:Rn}(h:∀k:Nat,(k:Int)<tr.n->0<=tr.s+k/\(tr.s+k+1)*256<=B.length/\((pl[p.toNat+k]?.getD 0).toNat+1)*256<=B.length):∀k:Nat,(k:Int)<=tr.n->(J2 B pl p tr k).length=B.length
 |0,_=>rfl
 |k+1,hk=>by
  have ih:=Xk (B:=B) h k ab;have hh:=h k ab;unfold J2;rw[Yb ab (gI hh.2.2),ih]
def W9(ps:List PV)(r:RV):Prop:=∃(d:Dk) (a:At) (p:Int) (tr:Rn),ps=[d.pv,a.pv,pI p,tr.pv]/\(wU d/\a.nm.length<=1000000)/\
 r=.tup [.pv (jM d a p tr).pv,.pv (jG d a p tr).pv,.pv (pI (dJ d a p tr))]
set_option maxHeartbeats 2000000 in
def aj8:MT (ay [(127,xt),(140,ah Mk),(141,c8 true Hs),(112,ah nC),(142,c8 true xj),(143,ah AN),(144,ah Mn)]) JW (c8 false W9):=by
 rintro _ K ⟨_,⟨d,a,p,tr,rfl,⟨h1,h2⟩,rfl⟩,hK⟩;refine⟨d,a,rfl,⟨pR h1,h2⟩,λh=>?_,λh v hv=>?_⟩
 ·have sM:=(bc h).1;have fM:=sM.st h1 h2;have lM:Mk [sP (ar d a),pI p,tr.pv] (pI (SJ (ar d a) p tr)):=⟨ar d a,p,tr,rfl,fM,rfl⟩
  by_cases hm:SJ (ar d a) p tr=0
  ·have mo:=Up hm;have di:=mo.ok;unfold Pv at di;have kr:d.n<=512:=sM.nb;have WW:(ar d a).d=d:=rfl;rw[WW]at di;have M8:256*d.n<=d.a_.length:=so;have mW:d.a_.length<=200000:=h1.1;have qG:(ar d a).pl=az a.rn.l:=rfl;have ab8:=mo.from_;have jB:=X6 fM;rw[qG]at ab8 jB;rw[WW]at jB;obtain⟨N,hN⟩:∃N,N=d.n:=⟨_,rfl⟩
   obtain⟨BL,A9⟩:∃BL,BL=d.a_.length:=⟨_,rfl⟩
   rw[<-hN]at di kr M8 jB;rw[<-A9]at M8 mW;have M5:jZ tr:=by clear h hm;unfold jZ;split<;>omega
   have aLB:=xA (l:=a.rn.l) λr hr=>by have:=rG ((bZ sM.rn).2.2.2 r hr);omega
   have hlen:p+tr.n<=bI a.rn.l:=by have h3:=mo.len;rw[qG]at h3;omega
   have ui:Hs [qF a.rn,pI p,Pa [tr]] _:=⟨a.rn,p,tr,rfl,⟨sM.rn,ape M5,ab,hlen⟩,rfl⟩
   have hpb:p<=128:=by have h3:=mo.len;have h4:=sM.len;rw[qG]at h3;omega
   clear aLB hlen;have pe:∀k:Nat,(k:Int)<tr.n→∃x:Nat,(az a.rn.l)[p.toNat+k]?=some (x:Int)/\256*(x+1)<=BL/\x<N:=λk hk=>by
    clear h hm;obtain⟨x,hx,cb⟩:=ab8 k hk;have:=jB x (zag hx);refine⟨x.toNat,by rw[hx];congr 1;omega,ab,ab⟩
   have yh:=Xk (B:=d.a_) (pl:=az a.rn.l) (p:=p) (tr:=tr) λk hk=>by
    clear h hm;obtain⟨x,hx,vR,mV⟩:=pe k hk;rw[hx,zbA,<-A9];exact⟨ab,ab,by rw[zaC,zdP];exact vR⟩
   rw[<-A9]at yh;by_cases hr:nn a.rn.l p tr=0
   ·have PA:U4 (h_ [] (fO a.rn.l p tr))=h_ [] (fO a.rn.l p tr):=by unfold U4;rw[if_pos (show ny _=0 from hr)]
    rw[PA]at ui;have hAA:(qx a p tr).pv=.agg [pI a.ty,.str a.nm,pI a.id,pI a.fl,pB a.rs,.str a.vl,pI a.ft,Pa (h_ [] (fO a.rn.l p tr)),pI a.al,pI a.sz,pI a.vd]:=rfl;have IF:nC [(qx a p tr).pv] (pI (gu (qx a p tr))):=⟨qx a p tr,rfl,h2,rfl⟩
    by_cases ha:gu (qx a p tr)=0
    ·have he:dJ d a p tr=0:=by unfold dJ;rw[if_neg (λe=>e h),if_neg (λe=>e hm),if_neg (λe=>e hr),if_neg (λe=>e ha)]
     unfold jM jG at hK;rw[he,if_neg z0,if_neg z0]at hK;have ab6:xj [d.pv] (.fresh 4 1 ((cQ (df d) d.n).map pB)):=⟨d,rfl,⟨by have:=h1.1;omega,h1.2,sM.bm⟩,by rw[<-W_]⟩
     rw[<-hN]at ab6 hK;rw[hAA]at IF hK;generalize h_ [] (fO a.rn.l p tr)=J at*;generalize gu (qx a p tr)=AE at*;have mE:∀x:Nat,256*(x+1)<=BL->AN [sP (ar d a),pI x] (.str (eU d.a_ x)):=λx hx=>⟨ar d a,x,rfl,⟨by rw[A9,zdP]at hx;exact hx,by show d.a_.length<=_;omega⟩,rfl⟩
     (repeat'((conv=>whnf);first|refine⟨_,lM,?_⟩|refine⟨_,ui,?_⟩|refine⟨_,IF,?_⟩|refine⟨_,ab6,?_⟩|refine zcB (show d.a_.length<=_ by rw[<-A9];omega) ?_|refine au ab ?_|refine aw ab ?_|refine bT ?_|fail))<;>try(conv=>whnf)
     refine⟨λm env σ=>∃k:Nat,(k:Int)+m=tr.n/\
      σ=[.box 41 [.pv (pI a.ty),.pv (.str a.nm),.pv (pI a.id),.pv (pI a.fl),.pv (pB a.rs),.pv (.str a.vl),.pv (pI a.ft),.own 6,.pv (pI a.al),.pv (pI a.sz),.pv (pI a.vd)],.box 37 [.pv (pI tr.s),.pv (pI tr.n)],
       .box 23 [.pv (.str []),.pv (.str [])],.box 41 [.pv (pI 0),.pv (.str []),.pv (pI 0),.pv (pI 0),.pv (pB false),.pv (.str []),.pv (pI 0),.pv (.nil 2),.pv (pI 0),.pv (pI 0),.pv (pI 0)],
       rk (ON (df d) (az a.rn.l) p tr k) N,.row 5 1 false ((J2 d.a_ (az a.rn.l) p tr k).map aL),.row 37 2 true (J.map Rn.pv)]/\
      env=[eN 2 p,(5,.ref 0 0 0),(7,.ref 1 0 0),(8,.ref 2 0 0),(9,.ref 3 0 0),(11,.pv (sP (ar d a))),(14,.own 4),(15,.own 5),eN 61 tr.n,eN 62 k],tr.n.toNat,⟨0,ab,rfl,rfl⟩,?_⟩
     rintro m env σ ⟨k,hk,rfl,rfl⟩;clear h hm hr he ha;by_cases aU:(k:Int)<tr.n
     ·obtain⟨x,hx,vR,mV⟩:=pe k aU;have HJ:=yh k ab;have Wk:(az a.rn.l)[(p+(k:Int)).toNat]?=some (x:Int):=abb;have hBk:J2 d.a_ (az a.rn.l) p tr (k+1)=MF (J2 d.a_ (az a.rn.l) p tr k) (tr.s+k).toNat (eU d.a_ x):=by
       show MF _ _ (eU d.a_ ((az a.rn.l)[p.toNat+k]?.getD 0).toNat)=_;rw[hx];rfl
      have hFk:(((cQ (ON (df d) (az a.rn.l) p tr k) N).map pB).set ((x:Int)).toNat (pB false)).set (tr.s+(k:Int)).toNat (pB true)=(cQ (ON (df d) (az a.rn.l) p tr (k+1)) N).map pB:=by
       rw[<-zdh,<-zdh,tg,tg];congr 1;refine kT λc hc=>?_
       show _=if c=(tr.s+k).toNat then true else if c=((az a.rn.l)[p.toNat+k]?.getD 0).toNat then false else ON (df d) (az a.rn.l) p tr k c
       rw[hx];rfl
      have ly:=anB (Q:=J2 d.a_ (az a.rn.l) p tr k) (p:=eU d.a_ x) (k:=tr.s+k) ab (gI (by rw[<-A9,zdP];exact vR));have aLC:=mE x vR;have uu:=gI (B:=d.a_) (n:=x) (by rw[<-A9,zdP];exact vR);clear hK lM ui IF ab6 mE jB pe yh ab8;have hql:((J2 d.a_ (az a.rn.l) p tr k).map aL).length=BL:=by rw[zav];exact HJ
      have hy:∃y:Bool,(((cQ (ON (df d) (az a.rn.l) p tr k) N).map pB).set ((x:Int)).toNat (pB false))[(tr.s+(k:Int)).toNat]?=some (pB y):=by
       by_cases he:((x:Int)).toNat=(tr.s+(k:Int)).toNat
       ·exact⟨false,by rw[<-he,zbQ P3]⟩
       ·exact⟨_,by rw[List.getElem?_set_ne he,za9,bO ab];rfl⟩
      obtain⟨y,hy⟩:=hy;have aHU:(((cQ (ON (df d) (az a.rn.l) p tr k) N).map pB).set ((x:Int)).toNat (pB false)).length=N:=by rw[za0,zav,ck]
      simp only[rk];clear hN A9;generalize J2 d.a_ (az a.rn.l) p tr k=Q at*;generalize ON (df d) (az a.rn.l) p tr k=F at*
      (repeat'((conv=>whnf);first|refine oQ ?_|refine⟨_,aLC,?_⟩|refine Or.inr ?_|refine zcB (by rw[hql];omega) ?_|refine zcB (by rw[aHU];omega) ?_|refine⟨_,hy,?_⟩|refine bj ab ?_|refine au ab ?_|refine anF ab aA ?_|refine Vx ab ?_|refine Ug ab ?_|fail))<;>try(conv=>whnf)
      exact⟨m-1,ab,k+1,ab,by rw[hBk,<-ly,<-hFk],rfl⟩
     ·have hk:k=tr.n.toNat:=by omega
      subst hk
      (repeat'((conv=>whnf);first|refine oQ ?_|refine⟨_,⟨cQ (ON (df d) (az a.rn.l) p tr tr.n.toNat) N,rfl,kD,rfl⟩,?_⟩|refine aw ab ?_|refine yR ?_|fail))<;>try(conv=>whnf)
      exact⟨[.pv (.agg [_,_]),.pv (.agg [_,_,_,_,_,_,_,_,_,_,_]),.pv (pI _)],⟨rfl,rfl,rfl,trivial⟩,trivial,hK⟩
    ·have he:dJ d a p tr=8:=by unfold dJ;rw[if_neg (λe=>e h),if_neg (λe=>e hm),if_neg (λe=>e hr),if_pos ha]
     unfold jM jG at hK;rw[he,if_pos z8,if_pos z8]at hK;rw[hAA]at IF
     (repeat'((conv=>whnf);first|refine⟨_,lM,?_⟩|refine⟨_,ui,?_⟩|refine⟨_,IF,?_⟩|refine au ab ?_|refine aw ab ?_|refine bT ?_|fail))<;>try(conv=>whnf)
     exact iN
   ·have he:dJ d a p tr=8:=by unfold dJ;rw[if_neg (λe=>e h),if_neg (λe=>e hm),if_pos hr]
    unfold jM jG at hK;rw[he,if_pos z8,if_pos z8]at hK
    (repeat'((conv=>whnf);first|refine⟨_,lM,?_⟩|refine⟨_,ui,?_⟩|refine au ab ?_|refine aw ab ?_|refine bT ?_|fail))<;>try(conv=>whnf)
    exact iN
  ·have he:dJ d a p tr=SJ (ar d a) p tr:=by unfold dJ;rw[if_neg (λe=>e h),if_pos hm]
   unfold jM jG at hK;rw[he,if_pos hm,if_pos hm]at hK
   (repeat'((conv=>whnf);first|refine⟨_,lM,?_⟩|refine au ab ?_|refine bT ?_|fail))<;>try(conv=>whnf)
   exact iN
 ·have he:dJ d a p tr=aK d a:=by unfold dJ;rw[if_pos h]
  unfold jM jG at hK;rw[he,if_pos h,if_pos h]at hK;rcases hv with rfl|rfl
  all_goals
   (repeat'((conv=>whnf);first|refine aw (p:=aK d a=0) h ?_|refine au h ?_|refine bT ?_|fail))<;>try(conv=>whnf)
   exact iN
def aen(a b:List Int):bt (a++b)=bt a+bt b:=by unfold bt;rw[List.filter_append,zad]
def Oq{l:List Int}:bt l=0↔∀x∈l,x= -1:=by
 unfold bt;rw[zdQ,List.filter_eq_nil_iff];exact⟨λh x hx=>by simpa using h x hx,λh x hx=>by simpa using h x hx⟩
def TQ{B:List UInt8}{l:List Int}(h:MH B l):dF B l=[]↔bt l=0:=by
 rw[Oq];unfold dF;rw[List.flatMap_eq_nil_iff];refine⟨λhh x hx=>?_,λhh x hx=>?_⟩
 ·have:=hh x hx;unfold tS at this;rcases h x hx with h1|h1
  ·exact h1
  ·rw[if_neg ab]at this;have h2:=gI (B:=B) (n:=x.toNat) ab;rw[this]at h2;cases h2
 ·unfold tS;rw[if_pos (hh x hx)]
def p_{α:Type}(l:List α){k:Nat}(hk:k<ew l.length):(chunks l)[k]?=some (bq l k):=by
 unfold chunks;rw[za9,zbD hk];rfl
def Hv(ps:List PV)(r:RV):Prop:=∃s:Rs,ps=[qF s]/\s.l.length<=1000000/\r=.fresh 37 2 (s.l.map Rn.pv)
def Tv:MT (ay []) Ih (c8 true Hv):=by
 rintro _ K ⟨_,⟨s,rfl,hs,rfl⟩,hK⟩;have gJ:(s.l.map Rn.pv).length=s.l.length:=zav _
 (repeat'((conv=>whnf);first|refine KP ?_|refine bT ?_|refine zcB cu ?_|fail))<;>try(conv=>whnf)
 exact vj
def aB(a:At):At:={ a with rn:=.sl a.rn.l }
def dK(ps:List PV)(r:RV):Prop:=∃a:At,ps=[a.pv]/\a.rn.l.length<=1000000/\r=.pv (aB a).pv
def acO:MT (ay [(116,c8 true Hv)]) yk (c8 false dK):=by
 rintro _ K ⟨_,⟨a,rfl,hs,rfl⟩,hK⟩
 (repeat'((conv=>whnf);first|refine⟨_,⟨a.rn,rfl,hs,rfl⟩,?_⟩|refine bT ?_|fail))<;>try(conv=>whnf)
 exact⟨.pv (aB a).pv,rfl,trivial,hK⟩
def We(s:List UInt8)(p:Nat)(b:List UInt8):List UInt8:=s.take p++b++s.drop (p+b.length)
def Yn{s:List UInt8}{p:Nat}{b:List UInt8}(h:p+b.length<=s.length):(We s p b).length=s.length:=by
 unfold We;simp only[zad,zal,zax];omega
def yr(C:List UInt8)(p:Nat)(dat:List UInt8):List UInt8:=if dat=[]then C else We (M9 C (max C.length (p+dat.length))) p dat
def PY(C:List UInt8)(p n:Int):List UInt8:=We C (min p C.length).toNat (ai (min (p+n) C.length-min p C.length).toNat)
def jW(ps:List PV)(p:Prop):Prop:=∃a b:Rs,ps=[qF a,qF b]/\(a.l.length<=1000000/\b.l.length<=1000000)/\p=(a.l=b.l)
def T0:MT (ay []) HY (bF jW):=by
 rintro _ K ⟨_,⟨a,b,rfl,⟨h1,h2⟩,rfl⟩,hK⟩;by_cases hl:a.l.length=b.l.length
 case neg=>
  have cb:¬a.l=b.l:=λe=>hl (by rw[e])
  (repeat'((conv=>whnf);first|refine KP ?_|refine au ab ?_|refine dq λ_=>?_|fail))<;>try(conv=>whnf)
  exact⟨.pv (.bool _),rfl,trivial,hK false (by simp[cb])⟩
 (repeat'((conv=>whnf);first|refine KP ?_|refine aw ab ?_|refine dq λ_=>?_|fail))<;>try(conv=>whnf)
 refine⟨λm env σ=>∃n:Nat,(n+m=a.l.length∧∀j,j<n->a.l[j]?=b.l[j]?)/\σ=[]/\env=[(0,.pv (qF a)),(1,.pv (qF b)),eN 5 n],a.l.length,⟨0,⟨ab,λj hj=>ab⟩,rfl,rfl⟩,?_⟩;rintro m env σ ⟨n,⟨hn,h0⟩,rfl,rfl⟩;by_cases aU:n<a.l.length
 ·obtain⟨x,hx⟩:∃x,a.l[n]?=some x:=⟨_,zah aU⟩
  obtain⟨y,hy⟩:∃y,b.l[n]?=some y:=⟨_,zah ab⟩
  by_cases zn:x=y
  ·subst zn
   (repeat'((conv=>whnf);first|refine oQ ?_|refine KP ?_|refine Ek hx ?_|refine Ek hy ?_|refine aw (λh=>h rfl) ?_|refine bj ab ?_|refine au ab ?_|refine dq λ_=>?_|fail))<;>try(conv=>whnf)
   refine⟨m-1,ab,n+1,⟨ab,λj hj=>?_⟩,rfl,rfl⟩;rcases zc0 (zc1 hj)with h1|h1
   ·exact h0 j h1
   ·rw[h1,hx,hy]
  ·have cb:¬a.l=b.l:=λe=>zn (by rw[e,hy]at hx;exact(Option.some.inj hx).symm)
   have rF:¬[pI x.s,pI x.n]=[pI y.s,pI y.n]:=λh=>zn (by
    obtain⟨xs,xn⟩:=x;obtain⟨ys,yn⟩:=y;simp[pI]at h;rw[h.1,h.2])
   (repeat'((conv=>whnf);first|refine oQ ?_|refine KP ?_|refine Ek hx ?_|refine Ek hy ?_|refine au rF ?_|refine au ab ?_|refine dq λ_=>?_|fail))<;>try(conv=>whnf)
   exact⟨.pv (.bool _),rfl,trivial,hK false (by simp[cb])⟩
 ·have he:a.l=b.l:=by
   apply zba;intro j;by_cases hj:j<n
   ·exact h0 j hj
   ·rw[zaK ab,zaK ab]
  (repeat'((conv=>whnf);first|refine KP ?_|refine aw ab ?_|refine dq λ_=>?_|fail))<;>try(conv=>whnf)
  exact⟨.pv (.bool _),rfl,trivial,hK true (by simp[he])⟩
def tV(pl:List Int):List Int:=pl.filter λx=>decide (x≠ -1)
def atd{pl:List Int}{x:Int}:x∈tV pl↔x∈pl/\x≠ -1:=by unfold tV;rw[List.mem_filter];simp
def Lc(pl:List Int):(tV pl).length=bt pl:=rfl
def Bj(s:List UInt8):∀n,oF s n<=n
 |0=>zai 0
 |n+1=>by
  have:=Bj s n;have h2:=mK s n;unfold oF;omega
def E0(d e:Dk)(A B:List Int)(c:Nat):Prop:=
 ((c:Int)∉A/\(c:Int)∉B->bH e.mp c=bH d.mp c/\eU d.a_ c=eU e.a_ c)/\((c:Int)∈A/\(c:Int)∉B->bH e.mp c=0)/\((c:Int)∈B->bH e.mp c=1)/\((c:Int)∈B/\(c:Int)∉A->bH d.mp c=0)
def adv(d e:Dk)(a b:At):Prop:=(d.a_.length=e.a_.length/\gm e=0)∧∀c,c<d.n->E0 d e (tV (az a.rn.l)) (tV (az b.rn.l)) c
def RF(l:List Bool):Nat:=l.countP id
def QT(a:At)(f t:Int)(i:Nat):Bool:=(if a.rs=true then decide ((i:Int)*256<a.vl.length)else Jc (az a.rn.l) i)||(decide (f<t)&&decide ((i:Int)*256<t)&&decide (f<((i:Int)+1)*256))
def nJ(a:At)(f t sz:Int):List Bool:=(List.range (Iy sz 256).toNat).map (QT a f t)
def au6(acc:List Rn)(a:Int):y4 acc ⟨a,1⟩=qV acc a:=by
 unfold y4 qV;cases acc.getLast? with
 |none=>rfl
 |some q=>
  have:iy q ⟨a,1⟩↔((a= -1/\q.s= -1)\/(a≠ -1/\q.s≠ -1/\q.s+q.n=a)):=by unfold iy;simp only;omega
  simp only[this]
def C8(pl:List Int)(p:Int)(tr:Rn):Nat->List Int
 |0=>pl
 |k+1=>(C8 pl p tr k).set (p+k).toNat (tr.s+k)
def Xy(pl:List Int)(p:Int)(tr:Rn):∀k,(C8 pl p tr k).length=pl.length
 |0=>rfl
 |k+1=>by rw[C8,za0];exact Xy pl p tr k
def Yu{l:List Int}:bt l=l.length↔∀x∈l,x≠ -1:=by
 refine⟨λh=>aak h,λh=>?_⟩;unfold bt;rw[List.filter_eq_self.2 λx hx=>by simpa using h x hx]
def Il(a:At)(p:Int)(tr:Rn):At:={ a with rn:=.sl (IA (C8 (az a.rn.l) p tr tr.n.toNat)) }
noncomputable def fE(d:Dk)(a:At)(p:Int)(tr:Rn):Int:=
 if SJ (ar d a) p tr≠0 then SJ (ar d a) p tr else if 64<(IA (C8 (az a.rn.l) p tr tr.n.toNat)).length\/gu (Il a p tr)≠0 then 8 else 0
def cX(l:List Int)(pl:List Int)(p:Int)(tr:Rn):Nat->List Int
 |0=>l
 |k+1=>((cX l pl p tr k).set (tr.s+k).toNat 1).set (pl[p.toNat+k]?.getD 0).toNat 0
def RQ(l pl:List Int)(p:Int)(tr:Rn):∀k,(cX l pl p tr k).length=l.length
 |0=>rfl
 |k+1=>by rw[cX,za0,za0];exact RQ l pl p tr k
def Lz(d:Dk)(a:At)(p:Int)(tr:Rn):Dk:=⟨J2 d.a_ (az a.rn.l) p tr tr.n.toNat,VA (λi=>((cX (sj d.mp d.n) (az a.rn.l) p tr tr.n.toNat)[i]?.getD 0).toNat) d.n⟩
def aiK(a:Int):iV ⟨a,1⟩=[a]:=by
 unfold iV;simp only[show(1:Int).toNat=1 from rfl,List.range_one,zat,zcw];split
 ·rename_i h;rw[h]
 ·simp
def aqA{q:Rn}{a:Int}(hq:0<=q.n)(h:(a= -1/\q.s= -1)\/(a≠ -1/\q.s≠ -1/\q.s+q.n=a)):iV ⟨q.s,q.n+1⟩=iV q++[a]:=by
 unfold iV;simp only;rw[show(q.n+1).toNat=q.n.toNat+1 by omega,zdi,zbu];congr 1;simp only[zat,zcw];split
 ·rw[show a= -1 by omega]
 ·rw[show q.s+((q.n.toNat:Nat):Int)=a by omega]
def Ff(a b:List Rn):az (a++b)=az a++az b:=by unfold az;rw[zaz]
def EN(r:Rn):az [r]=iV r:=by simp[az]
def ao0{acc:List Rn}{a:Int}(h:∀r∈acc,0<=r.n):az (qV acc a)=az acc++[a]:=by
 unfold qV;cases hl:acc.getLast? with
 |none=>
  have:acc=[]:=Lu;subst this;simp only[EN,aiK];rfl
 |some q=>
  simp only;have cb:acc≠[]:=by intro e;subst e;cases hl
  have e:acc.dropLast++[q]=acc:=by
   have e1:=zdc cb;rw[List.getLast?_eq_some_getLast cb]at hl;rw[<-Option.some.inj hl];exact e1
  split
  ·rename_i hj;rw[Ff,EN,aqA (h q (List.mem_of_getLast? hl)) hj,<-zaj];congr 1;rw[<-EN,<-Ff,e]
  ·rw[Ff,EN,aiK]
def ZB{l:List Int}(h:∀a∈l,-1<=a/\a<=1000000):az (IA l)=l:=by
 have:∀n,n<=l.length->az (IA (l.take n))=l.take n:=by
  intro n
  induction n with
  |zero=>intro _;simp[IA,az]
  |succ n ih=>
   intro hn;have ha:l[n]?=some l[n]:=zah ab;rw[Fh ha,ao0 (λr hr=>by have:=((agT h n).2 r hr).1.1;omega),ih ab,zcX,ha];rfl
 have:=this l.length (zai _);rwa[zcZ]at this
def yw(l:List Int):Prop:=l.Pairwise λa b=>a≠ -1->a≠b
def XD{l:List Int}(h:yw l){i j:Nat}{x:Int}(hi:l[i]?=some x)(hj:l[j]?=some x)(hx:x≠ -1):i=j:=by
 unfold yw at h;rw[zdB]at h;obtain⟨ud,j9⟩:=zaa.1 hi;obtain⟨oX,Gx⟩:=zaa.1 hj;rcases zbJ i j with aU|heq|aU
 ·exact absurd (by rw[j9,Gx]) (h i j ud oX aU (by rw[j9];exact hx))
 ·exact heq
 ·exact absurd (by rw[j9,Gx]) (h j i oX ud aU (by rw[Gx];exact hx))
def Xt{l:List Int}(h:∀(i j:Nat) (x:Int),l[i]?=some x->l[j]?=some x->x≠ -1->i=j):yw l:=by
 unfold yw;rw[zdB];intro i j hi hj zk hx e;have:=h i j l[i] (zah hi) (by rw[zah hj,e]) hx;omega
def asW{l:List Rn}{k:Nat}{r:Rn}(h:l[k]?=some r)(h0:Wx l k=0){j:Nat}{q:Rn}(hj:j<k)(hq:l[j]?=some q):¬pE q r:=by
 intro hs;have hr:=Jr h h0;unfold Wx at h0;rw[h]at h0;simp only[hr,not_true_eq_false,if_false]at h0;split at h0
 ·cases h0
 ·rw[if_pos ⟨j,hj,q,hq,hs⟩]at h0;cases h0
def ain{r:Rn}{x:Int}(h:x∈iV r)(hx:x≠ -1):r.s≠ -1/\r.s<=x/\x<r.s+r.n:=by
 unfold iV at h;obtain⟨i,hi,rfl⟩:=zaX.1 h;have:=zbm.1 hi;split at hx
 ·exact absurd rfl hx
 ·rename_i hs;rw[if_neg hs];omega
def as4(r:Rn):yw (iV r):=by
 unfold yw iV;rw[zdZ];refine List.Pairwise.imp ?_ List.nodup_range;intro i j zk h1 h2;by_cases hs:r.s= -1
 ·rw[if_pos hs]at h1;exact h1 rfl
 ·rw[if_neg hs,if_neg hs]at h2;omega
def u0{l:List Rn}(h:dU l=0):yw (az l):=by
 have g:=bZ h;unfold az yw;refine zdH.2 ⟨λr _=>as4 r,?_⟩;rw[zdB];intro i j hi hj zk x hx y hy I_ zn;have hs:=asW (zah hj) (g.2.1 j hj) zk (zah hi);have h1:=ain hx I_;have h2:=ain hy (by rw[<-zn];exact I_);exact hs ⟨h1.1,h2.1,ab,ab⟩
def ai1{ps:List (List UInt8)}{pl:List Int}{k:Nat}:∀{n:Nat},k<vF ps pl n→∃i,i<n/\G8 ps pl i=true/\vF ps pl i=k
 |0,h=>by cases h
 |n+1,h=>by
  by_cases h1:k<vF ps pl n
  ·obtain⟨i,h2,h3⟩:=ai1 h1;exact⟨i,ab,h3⟩
  ·rw[xP]at h
   grind
def ae2{ps:List (List UInt8)}{pl:List Int}{i j:Nat}(h:i<j)(hm:G8 ps pl i=true):vF ps pl i<vF ps pl j:=by
 have h1:vF ps pl (i+1)<=vF ps pl j:=RP ps pl ab;rw[xP,if_pos hm]at h1;omega
structure axB(s:St)(ps:List (List UInt8))(P:Nat->Int)(b3:Nat->Bool):Prop where
 no:∀i,jz ps i=false->P i= -1
 yes:∀i,i<ps.length->jz ps i=true->0<=P i/\P i<s.d.n
 inj:∀i j,i<ps.length->j<ps.length->jz ps i=true->P i=P j->i=j
 bit:∀c,c<s.d.n->(b3 c=true↔(∃i,i<ps.length/\jz ps i=true/\P i=c)\/((c:Int)∉s.pl/\df s.d c=true))
 free:∀i,i<ps.length->jz ps i=true->P i∉s.pl->df s.d (P i).toNat=false
def ay6{s:St}(h:adA s){ps:List (List UInt8)}(hl:ps.length<=1000)(he:w_ ps s.pl (df s.d) s.d.n=0):
 (pN ps s.pl (df s.d) s.d.n).length=lT ps s.pl/\(pN ps s.pl (df s.d) s.d.n).Nodup∧∀x∈pN ps s.pl (df s.d) s.d.n,(0<=x/\x<s.d.n)/\sq ps s.pl (df s.d) x.toNat=false:=by
 unfold pN;by_cases hm:lT ps s.pl=0
 ·simp_all
 ·rw[if_neg hm];unfold w_ at he;rw[if_neg hm]at he;have hg:=ag0 (auh h hl hm he);have Vv:=DF (l:=cQ (sq ps s.pl (df s.d)) s.d.n) (by rw[ck];have:=h.n;omega);refine⟨by unfold qv;omega,hg.2.2,λx hx=>?_⟩;have g:=hg.2.1 x hx;refine⟨g.1,?_⟩;have g2:=g.2;rw[Vv.2,if_pos kD,bO ab,zbA]at g2;cases hb:sq ps s.pl (df s.d) x.toNat with
  |false=>rfl
  |true=>rw[hb]at g2;exact absurd g2 ao
def Xd{ps:List (List UInt8)}{pl:List Int}{i:Nat}:nD ps pl i≠ -1↔jz ps i=true/\pl[i]?.getD (-1)≠ -1:=by
 unfold nD
 grind
def SD{ps:List (List UInt8)}{pl:List Int}{i:Nat}(h:nD ps pl i≠ -1):pl[i]?=some (nD ps pl i):=by
 obtain⟨h1,h2⟩:=Xd.1 h;unfold nD
 grind
def TA{ps:List (List UInt8)}{pl:List Int}{i:Nat}(h:jz ps i=true):G8 ps pl i=true↔nD ps pl i= -1:=by
 unfold G8;rw[h];simp
def atl{s:St}(h:adA s)(hd:yw s.pl){ps:List (List UInt8)}(hl:ps.length<=1000)(he:w_ ps s.pl (df s.d) s.d.n=0):
 axB s ps (CQ ps s.pl (pN ps s.pl (df s.d) s.d.n)) (ZJ (pN ps s.pl (df s.d) s.d.n) (sq ps s.pl (df s.d))):=by
 have CX:=λi hi hn=>auU h hl he (i:=i) hi hn
 obtain⟨f1,f2,f3⟩:=ay6 h hl he;generalize pN ps s.pl (df s.d) s.d.n=fr at*;have sQ:∀i,nD ps s.pl i≠ -1->CQ ps s.pl fr i=nD ps s.pl i:=λi hk=>by
  unfold CQ;rw[if_neg];intro hm;exact hk ((TA (Xd.1 hk).1).1 hm)
 have SH:∀c:Int,c≠ -1->(c∈Qg ps s.pl↔∃i,i<ps.length/\nD ps s.pl i=c):=λc hc=>by
  unfold Qg;rw[zaE];constructor
  ·rintro⟨i,hi⟩;have aU:i<ps.length:=by have:=(zaa.1 hi).1;rwa[ck]at this
   rw[bO aU]at hi;exact⟨i,aU,Option.some.inj hi⟩
  ·rintro⟨i,hi,e⟩;exact⟨i,by rw[bO hi,e]⟩
 have t_:∀c:Nat,sq ps s.pl (df s.d) c=if (c:Int)∈s.pl then decide ((c:Int)∈Qg ps s.pl)else df s.d c:=λc=>rfl
 have fq:∀i,G8 ps s.pl i=true->CQ ps s.pl fr i=fr[vF ps s.pl i]?.getD 0:=λi hm=>by unfold CQ;rw[if_pos hm]
 have pe:∀i,i<ps.length->G8 ps s.pl i=true->fr[vF ps s.pl i]?=some (CQ ps s.pl fr i):=λi hi hm=>by
  have hc:vF ps s.pl i<fr.length:=by rw[f1];exact ae2 hi hm
  have hx:fr[vF ps s.pl i]?=some fr[vF ps s.pl i]:=zah hc;rw[fq i hm,hx,zbA]
 refine⟨λi hi=>?_,CX,λi j hi hj hn e=>?_,λc hc=>?_,λi hi hn Hg=>?_⟩
 ·unfold CQ G8 nD;rw[hi];simp
 ·have hnj:jz ps j=true:=by
   by_cases g:jz ps j=true
   ·exact g
   ·have:CQ ps s.pl fr j= -1:=by unfold CQ G8 nD;simp[g]
    have:=(CX i hi hn).1;omega
  by_cases ki:nD ps s.pl i= -1
  ·have mi:=(TA hn).2 ki;by_cases kj:nD ps s.pl j= -1
   ·have mj:=(TA hnj).2 kj;have gi:=pe i hi mi;have gj:=pe j hj mj;rw[<-e]at gj;have heq:vF ps s.pl i=vF ps s.pl j:=by
     have h1:=(zaa.1 gi)
     have h2:=(zaa.1 gj)
     obtain⟨gT,ph⟩:=h1;obtain⟨h21,h22⟩:=h2;have f2:=zdB.1 f2;rcases zbJ (vF ps s.pl i) (vF ps s.pl j)with aU|he|aU
     ·exact absurd (by rw[ph,h22]) (f2 _ _ gT h21 aU)
     ·exact he
     ·exact absurd (by rw[ph,h22]) (f2 _ _ h21 gT aU)
    rcases zbJ i j with aU|he|aU
    ·have:=ae2 aU mi;omega
    ·exact he
    ·have:=ae2 aU mj;omega
   ·exfalso;have g:=(f3 _ (zag (pe i hi mi))).2;rw[e,sQ j kj,t_]at g;have nd:=CX j hj hnj;rw[sQ j kj]at nd;have av0:((nD ps s.pl j).toNat:Int)=nD ps s.pl j:=ab;rw[av0,if_pos (Dr kj)]at g;rw[decide_eq_true ((SH _ kj).2 ⟨j,hj,rfl⟩)]at g;cases g
  ·by_cases kj:nD ps s.pl j= -1
   ·exfalso;have mj:=(TA hnj).2 kj;have g:=(f3 _ (zag (pe j hj mj))).2;rw[<-e,sQ i ki,t_]at g;have jB:=CX i hi hn;rw[sQ i ki]at jB;have av0:((nD ps s.pl i).toNat:Int)=nD ps s.pl i:=ab;rw[av0,if_pos (Dr ki)]at g;rw[decide_eq_true ((SH _ ki).2 ⟨i,hi,rfl⟩)]at g;cases g
   ·rw[sQ i ki,sQ j kj]at e;have gi:=SD ki;have gj:=SD kj;rw[<-e]at gj;exact XD hd gi gj ki
 ·unfold ZJ;rw[zbE,decide_eq_true_eq,t_];constructor
  ·rintro(g|g)
   ·by_cases hp:(c:Int)∈s.pl
    ·rw[if_pos hp,decide_eq_true_eq,SH _ ab]at g;obtain⟨i,hi,e⟩:=g;have hk:nD ps s.pl i≠ -1:=ab;exact .inl ⟨i,hi,(Xd.1 hk).1,by rw[sQ i hk,e]⟩
    ·rw[if_neg hp]at g;exact .inr ⟨hp,g⟩
   ·obtain⟨k,hk⟩:=zaE.1 g;have AP:k<vF ps s.pl ps.length:=by
     have:=(zaa.1 hk).1;rw[f1]at this;exact this
    obtain⟨i,hi,hm,e⟩:=ai1 AP;have g2:=pe i hi hm;rw[e,hk]at g2;refine .inl ⟨i,hi,?_,(Option.some.inj g2).symm⟩;unfold G8 at hm;exact(zaU _ _▸hm).1
  ·rintro(⟨i,hi,hn,e⟩|⟨hp,hb⟩)
   ·by_cases ki:nD ps s.pl i= -1
    ·right;have:=zag (pe i hi ((TA hn).2 ki));rwa[e]at this
    ·left;rw[sQ i ki]at e;have hm:=Dr ki;rw[e]at hm ki;rw[if_pos hm,decide_eq_true_eq,SH _ ki];exact⟨i,hi,e⟩
   ·left;rw[if_neg hp,hb]
 ·have ki:nD ps s.pl i= -1:=Classical.byContradiction λhk=>Hg (by rw[sQ i hk];exact Dr hk)
  have g:=(f3 _ (zag (pe i hi ((TA hn).2 ki)))).2;have hy:=CX i hi hn;rw[t_,show((CQ ps s.pl fr i).toNat:Int)=CQ ps s.pl fr i by omega,if_neg Hg]at g;exact g
def axK(B:List UInt8)(k:Nat):eU B k=(B.drop (256*k)).take 256:=by
 unfold eU cut;rw[List.drop_take]
 grind
def aaH{B:List UInt8}{k i:Nat}(hi:i<256):(eU B k)[i]?=B[256*k+i]?:=by
 rw[axK,zdg hi,zaB]
def asH{B p:List UInt8}{k:Nat}(h:256*(k+1)<=B.length)(hp:p.length=256)(j:Nat):(MF B k p)[j]?=if 256*k<=j/\j<256*k+256 then p[j-256*k]? else B[j]?:=by
 unfold MF
 grind
def anf{a b:List UInt8}(ha:a.length=256)(hb:b.length=256)(h:∀i:Nat,i<256->a[i]?=b[i]?):a=b:=by
 refine zba λi=>?_
 grind
def ahQ{B p:List UInt8}{k c:Nat}(h:256*(k+1)<=B.length)(hp:p.length=256)(hc:256*(c+1)<=B.length):eU (MF B k p) c=if c=k then p else eU B c:=by
 have hl:(MF B k p).length=B.length:=Yb ab hp;refine anf (gI ab) (by split;exact hp;exact gI ab) λi hi=>?_
 rw[aaH hi,asH h hp];by_cases hck:c=k
 ·grind
 ·rw[if_neg hck,if_neg ab,aaH hi]
def aec{B:List UInt8}{ps:List (List UInt8)}{P:Nat->Int}(hp:aBE ps)(hP:∀i,jz ps i=true->0<=P i/\(P i+1)*256<=B.length)
 (aDS:∀i j,jz ps i=true->jz ps j=true->P i=P j->i=j) {c:Nat} (hc:256*(c+1)<=B.length):∀n,
 (∀i,i<n->jz ps i=true->P i=c->eU (WA B ps P n) c=ps[i]?.getD [])/\((∀i,i<n->jz ps i=true->P i≠c)->eU (WA B ps P n) c=eU B c)
 |0=>⟨λi hi=>ab,λ_=>rfl⟩
 |n+1=>by
  obtain⟨za,zb⟩:=aec hp hP aDS hc n;have hl:=RW (B:=B) hp hP n;rw[TJ];by_cases hn:jz ps n=true
  ·rw[if_pos hn];have h1:=hP n hn;obtain⟨p,h2,h3⟩:=RJ.1 hn;have h4:(ps[n]?.getD []).length=256:=by rw[h2];exact(hp p (zag h2)).resolve_left h3
   rw[ahQ ab h4 ab]
   grind
  grind
def wD{ps:List (List UInt8)}{i:Nat}(h:jz ps i=true):i<ps.length:=by
 obtain⟨p,h2,_⟩:=RJ.1 h
 grind
structure Bu(s:St)(ps:List (List UInt8))(P:Nat->Int)(D:Dk):Prop where
 len:D.a_.length=s.d.a_.length
 kW:∀i,jz ps i=true->eU D.a_ (P i).toNat=ps[i]?.getD []
 aBv:∀c,c<s.d.n->(∀i,jz ps i=true->P i≠c)->eU D.a_ c=eU s.d.a_ c
 bm:nu D.mp s.d.n=0
 bit:∀c,c<s.d.n->(bH D.mp c=1↔(∃i,i<ps.length/\jz ps i=true/\P i=c)\/((c:Int)∉s.pl/\bH s.d.mp c=1))
def aCI{s:St}(h:adA s){C:List UInt8}{dt:Nat->Prop}(hl:(aQ s C dt).length<=1000)(hp:axB s (aQ s C dt) (Be s C dt) (ZJ (pN (aQ s C dt) s.pl (df s.d) s.d.n) (sq (aQ s C dt) s.pl (df s.d)))):
 Bu s (aQ s C dt) (Be s C dt) (XY s C dt):=by
 have LQ:=auv s C dt;have hn:=h.n;have hP:∀i,jz (aQ s C dt) i=true->0<=Be s C dt i/\(Be s C dt i+1)*256<=s.d.a_.length:=λi hi=>by
  have:=hp.yes i (wD hi) hi;unfold Dk.n at this;omega
 have aDS:∀i j,jz (aQ s C dt) i=true->jz (aQ s C dt) j=true->Be s C dt i=Be s C dt j->i=j:=λi j hi hj e=>hp.inj i j (wD hi) (wD hj) hi e
 have mE:=λ(c:Nat) (hc:256*(c+1)<=s.d.a_.length)=>aec LQ hP aDS hc (aQ s C dt).length
 have Vv:=DF (l:=cQ (ZJ (pN (aQ s C dt) s.pl (df s.d) s.d.n) (sq (aQ s C dt) s.pl (df s.d))) s.d.n) kD;rw[ck]at Vv;refine⟨RW LQ hP _,λi hi=>?_,λc hc hm=>?_,Vv.1,λc hc=>?_⟩
 ·have h1:=hP i hi;exact(mE (Be s C dt i).toNat ab).1 i (wD hi) hi ab
 ·exact(mE c Se).2 λi _ hi=>hm i hi
 ·show bH (mG _) c=1↔_;rw[Vv.2,if_pos hc,bO hc,zbA];have hb:=hp.bit c hc;have e:mS (ZJ (pN (aQ s C dt) s.pl (df s.d) s.d.n) (sq (aQ s C dt) s.pl (df s.d)) c)=1↔ZJ (pN (aQ s C dt) s.pl (df s.d) s.d.n) (sq (aQ s C dt) s.pl (df s.d)) c=true:=by
   cases ZJ (pN (aQ s C dt) s.pl (df s.d) s.d.n) (sq (aQ s C dt) s.pl (df s.d)) c<;>simp[mS]
  rw[e,hb];unfold df
  simp_all
def ta(C:List UInt8)(i:Nat):UInt8:=C[i]?.getD 0
def LW{n i:Nat}(h:i<n):(ai n)[i]?=some 0:=by
 unfold ai
 grind
def KE{l:List UInt8}{n i:Nat}(h:l.length<=n)(hi:i<n):(mF l n)[i]?=some (ta l i):=by
 unfold mF ta;by_cases g:i<l.length
 ·grind
 ·rw[zak ab,LW ab,zaK ab];rfl
def Bi{a b:List UInt8}{n:Nat}(ha:a.length=n)(hb:b.length=n)(h:∀i:Nat,i<n->a[i]?=b[i]?):a=b:=by
 refine zba λi=>?_
 grind
def ahO(m:Nat)(C:List UInt8)(i:Nat):List UInt8:=mF ((C.drop (m*i)).take m) m
def Z6(m:Nat)(C:List UInt8)(i:Nat):(ahO m C i).length=m:=BB eI
def YP{m:Nat}{C:List UInt8}{i j:Nat}(h:j<m):(ahO m C i)[j]?=some (ta C (m*i+j)):=by
 unfold ahO;rw[KE eI h];unfold ta
 grind
def ahz{m:Nat}(f:Nat->List UInt8)(h:∀i,(f i).length=m)(n:Nat):((List.range n).flatMap f).length=m*n:=by
 induction n with
 |zero=>simp
 |succ n ih=>
  rw[zdi,zaz,zad,ih]
  grind
def am8{m:Nat}{C:List UInt8}{n:Nat}(h:C.length<=m*n):(List.range n).flatMap (ahO m C)=mF C (m*n):=by
 have key:∀k i:Nat,i<m*k->((List.range k).flatMap (ahO m C))[i]?=some (ta C i):=by
  intro k
  induction k with
  |zero=>omega
  |succ k ih=>
   intro i hi;have hl:=ahz (ahO m C) (Z6 m C) k;rw[zdi,zaz];simp only[zan,List.flatMap_nil,zbf];by_cases g:i<m*k
   ·grind
   ·rw[zdX]at hi;rw[zak ab,hl,YP ab,show m*k+(i-m*k)=i by omega]
 refine Bi (ahz _ (Z6 m C) n) (BB h) λi hi=>?_
 rw[key n i hi,KE h hi]
def alm{a:At}{out C:List UInt8}(hs:a.sz=C.length)(hv:0<=a.vd/\a.vd<=C.length)(ho:∀i:Nat,(i:Int)<a.vd->out[i]?=some (ta C i))(hz:∀i:Nat,a.vd<=i->ta C i=0):nA a out=C:=by
 have hl:=OO a out;have sS:a.vd.toNat<=out.length:=by
  grind
 have Wq:(out.take a.vd.toNat).length=a.vd.toNat:=nq;refine Bi (n:=C.length) ab rfl λi hi=>?_
 unfold nA;rw[zdg ab,KE ab ab];have hc:C[i]?=some (ta C i):=by unfold ta;grind
 rw[hc];congr 1;by_cases g:(i:Int)<a.vd
 ·show(out.take a.vd.toNat)[i]?.getD 0=ta C i
  grind
 ·have h1:=hz i ab;rw[h1];show(out.take a.vd.toNat)[i]?.getD 0=0
  grind
section
structure GZ(s:St)(C:List UInt8)(v:Int)(dt:Nat->Prop):Prop where
 len:C.length<=32768
 vb:0<=v/\v<=C.length
 z:∀i:Nat,v<=i->ta C i=0
 sp:s.a.fl/2%2=1→∀i,¬dt i→∀j,j<256->ta C (256*i+j)=0
def aue{m:Nat}{C:List UInt8}{i:Nat}(h:∀j,j<m->ta C (m*i+j)=0):ahO m C i=ai m:=
 Bi (Z6 m C i) (aW m) λj hj=>by rw[YP hj,h j hj,LW hj]
def Mr{α β:Type}{l:List α}{f g:α->List β}(h:∀x∈l,f x=g x):l.flatMap f=l.flatMap g:=by
 induction l with
 |nil=>rfl
 |cons a l ih=>grind
def Xn{s:St}{C:List UInt8}{dt:Nat->Prop}(hc:¬s.a.fl%2=1){i:Nat}(hi:i<(C.length+255)/256):(aQ s C dt)[i]?=some (dv (s.a.fl/2%2=1) dt C i):=by
 unfold aQ
 grind
def aAU{s:St}{C:List UInt8}{v:Int}{dt:Nat->Prop}{D:Dk}{P:Nat->Int}(hc:¬s.a.fl%2=1)(h:GZ s C v dt)(tT:∀i,jz (aQ s C dt) i=false->P i= -1)
 (CX:∀i,jz (aQ s C dt) i=true->0<=P i) (hd:Bu s (aQ s C dt) P D):rz D.a_ (cQ P (aQ s C dt).length)=mF C (256*((C.length+255)/256)):=by
 have hl:(aQ s C dt).length=(C.length+255)/256:=by rw[sK,if_neg hc]
 rw[<-am8 (m:=256) (C:=C) ab,hl];unfold rz cQ;rw[zdG];refine Mr λi hi=>?_
 have hi:=zbm.1 hi;have hp:=Xn (dt:=dt) hc hi;by_cases hn:jz (aQ s C dt) i=true
 ·have h1:=CX i hn;rw[if_neg ab,hd.kW i hn,hp,zbA];unfold dv;split
  ·obtain⟨p,h2,h3⟩:=RJ.1 hn;rw[hp]at h2;unfold dv at h2
   grind
  ·rfl
 ·have hn:jz (aQ s C dt) i=false:=by simpa using hn
  rw[if_pos (tT i hn)];refine(aue λj hj=>?_).symm;have um:dv (s.a.fl/2%2=1) dt C i=[]:=by
   unfold jz at hn
   simp_all
  unfold dv at um;split at um
  ·rename_i g;exact h.sp g.1 i g.2 j hj
  ·have h5:=congrArg List.length um;rw[BB eI]at h5;cases h5
def XG{C:List UInt8}{k j:Nat}(hj:j<16):∀{n:Nat},k<n->(qy C n)[16*k+j]?=some (((j_ (wa C k)).drop (j*256)).take 256)
 |0,h=>by cases h
 |n+1,h=>by
  have hl:=afF C n;rw[aaN];by_cases g:k<n
  ·rw[zaq ab];exact XG hj g
  ·unfold HU
   grind
def aqD(Q:List UInt8)(n:Nat):(List.range n).flatMap (λj=>(Q.drop (j*256)).take 256)=Q.take (256*n):=by
 induction n with
 |zero=>simp
 |succ n ih=>
  rw[zdi,zaz,ih,zdX,List.take_add]
  grind
def adN{P:Nat->Int}{n k:Nat}(h:k<n):bq (cQ P (16*n)) k=(List.range 16).map λj=>P (16*k+j):=by
 refine zba λi=>?_
 unfold bq;by_cases hi:i<16
 ·rw[zdg hi,zaB,bO ab,za9,zbD hi];rfl
 grind
def Y9(n:Nat):ew (16*n)=n:=FO
def aqv(C:List UInt8)(k:Nat):wa C k=ahO 4096 C k:=rfl
section
variable {s:St} {C:List UInt8} {v:Int} {dt:Nat->Prop} {D:Dk} {P:Nat->Int}
def aa9(hc:s.a.fl%2=1):aQ s C dt=qy C ((C.length+4095)/4096):=by unfold aQ;rw[if_pos hc]
def aop(hc:s.a.fl%2=1)(tT:∀i,jz (aQ s C dt) i=false->P i= -1)(CX:∀i,jz (aQ s C dt) i=true->0<=P i)(hd:Bu s (aQ s C dt) P D){k:Nat}(hk:k<(C.length+4095)/4096):
 dF D.a_ (bq (cQ P (16*((C.length+4095)/4096))) k)=j_ (wa C k):=by
 rw[adN hk];unfold dF;rw[zdG];have e:j_ (wa C k)=(List.range 16).flatMap (λj=>((j_ (wa C k)).drop (j*256)).take 256):=by
  rw[aqD,za1 (ai9 (AF C k))]
 conv=>rhs;rw[e]
 refine Mr λj hj=>?_
 have hj:=zbm.1 hj;have hp:(aQ s C dt)[16*k+j]?=some (((j_ (wa C k)).drop (j*256)).take 256):=by rw[aa9 hc];exact XG hj hk
 unfold tS;by_cases hn:jz (aQ s C dt) (16*k+j)=true
 ·have h1:=CX _ hn;rw[if_neg ab,hd.kW _ hn,hp];rfl
 ·have hn:jz (aQ s C dt) (16*k+j)=false:=by simpa using hn
  unfold jz at hn
  grind
def aCE(hc:s.a.fl%2=1)(tT:∀i,jz (aQ s C dt) i=false->P i= -1)(CX:∀i,jz (aQ s C dt) i=true->0<=P i)(hd:Bu s (aQ s C dt) P D):
 ow D.a_ (chunks (cQ P (aQ s C dt).length))=mF C (4096*((C.length+4095)/4096)):=by
 have hl:(aQ s C dt).length=16*((C.length+4095)/4096):=QS;rw[<-am8 (m:=4096) (C:=C) ab,hl];unfold ow chunks;rw[zdG,ck,Y9];refine Mr λk hk=>?_
 rw[aop hc tT CX hd (zbm.1 hk),(Dx (AF C k)).1];rfl
def aBR(h:GZ s C v dt)(tT:∀i,jz (aQ s C dt) i=false->P i= -1)(CX:∀i,jz (aQ s C dt) i=true->0<=P i)(hd:Bu s (aQ s C dt) P D){a:At}(hf:a.fl=s.a.fl)(hs:a.sz=C.length)(hv:a.vd=v):
 nA a (if a.fl%2=1 then ow D.a_ (chunks (cQ P (aQ s C dt).length))else rz D.a_ (cQ P (aQ s C dt).length))=C:=by
 have hb:=h.vb;refine alm hs (by rw[hv];exact hb) (λi hi=>?_) λi hi=>h.z i ab
 split
 ·rw[aCE ab tT CX hd];exact KE ab ab
 ·rw[aAU ab h tT CX hd];exact KE ab ab
end
end
section
def ajP{l:List Int}(h:∀x∈l,x=0):bQ l=0:=by
 induction l with
 |nil=>rfl
 |cons a l ih=>
  have ha:=h a aj;simp only[bQ,if_true]
  grind
def aqQ{f:Nat->Int}{n:Nat}(h:∀i,i<n->f i=0):TE f n=0:=by
 refine ajP λx hx=>?_
 grind
def apC{u:List UInt8}(h:u=ai u.length):j_ u=[]:=by unfold j_;rw[if_pos h]
def aiN{l:List Int}{k:Nat}{x:Int}(h:x∈bq l k):x∈l:=by
 unfold bq at h
 grind
section
variable {s:St} {C:List UInt8} {v:Int} {dt:Nat->Prop} {D:Dk} {P:Nat->Int}
def asb(hc:s.a.fl%2=1)(h:GZ s C v dt)(tT:∀i,jz (aQ s C dt) i=false->P i= -1)(CX:∀i,jz (aQ s C dt) i=true->0<=P i)(hd:Bu s (aQ s C dt) P D)(qG:MH D.a_ (cQ P (aQ s C dt).length)):
 qw D.a_ v (chunks (cQ P (aQ s C dt).length))=0:=by
 have hl:(aQ s C dt).length=16*((C.length+4095)/4096):=QS;have mE:=om (cQ P (aQ s C dt).length);rw[ck]at mE;refine aqQ λk hk=>?_
 have AP:k<(C.length+4095)/4096:=ab;rw[p_ _ (by rw[ck];unfold ew;omega),zbA];have fM:dF D.a_ (bq (cQ P (aQ s C dt).length) k)=j_ (wa C k):=by rw[hl];exact aop hc tT CX hd AP
 have xf:=(Dx (AF C k)).1;have Vr:=AF C k;unfold xC;rw[fM,xf,if_neg aj,if_neg];rintro(⟨g1,g2⟩|g)
 ·have h0:dF D.a_ (bq (cQ P (aQ s C dt).length) k)=[]:=by
   rw[fM];exact apC (by rw[Vr];exact g2)
  rw[TQ λx hx=>qG x (aiN hx)]at h0;omega
 ·refine g ?_;refine Bi (n:=4096-mZ v k) nq (aW _) λj hj=>?_
  rw[zaB,aqv,YP ab,LW hj];congr 1;exact h.z _ (by unfold mZ at hj ⊢;omega)
def axc(hc:s.a.fl%2=1)(tT:∀i,jz (aQ s C dt) i=false->P i= -1)(CX:∀i,jz (aQ s C dt) i=true->0<=P i):∀c∈chunks (cQ P (aQ s C dt).length),aa c:=by
 have hl:(aQ s C dt).length=16*((C.length+4095)/4096):=QS;intro c AQ;unfold chunks at AQ;rw[ck]at AQ;obtain⟨k,hk,rfl⟩:=zaX.1 AQ;have hk:=zbm.1 hk;rw[hl,Y9]at hk;rw[hl,adN hk];unfold aa;rcases Az (p:=λy:Int=>y= -1) ((List.range 16).map λj=>P (16*k+j))with⟨h1,_⟩|⟨i,x,h1,h2,h3,_⟩
 ·omega
 ·right;rw[h1,zaC,Oq];have hi:i<16:=bf;have Gr:∀j,j<16->(aQ s C dt)[16*k+j]?=some (((j_ (wa C k)).drop (j*256)).take 256):=λj hj=>by rw[aa9 hc];exact XG hj hk
  have z_:jz (aQ s C dt) (16*k+i)=false:=by
   grind
  have hlen:(j_ (wa C k)).length<=i*256:=by
   unfold jz at z_
   simp_all
  intro y hy;obtain⟨j,hj⟩:=zaE.1 hy;rw[zaB]at hj;have aHH:i+j<16:=bf;rw[za9,zbD aHH]at hj;rw[<-Option.some.inj hj];refine tT _ ?_;unfold jz;rw[Gr (i+j) aHH,zbA,zcc (zay hlen (Nat.mul_le_mul_right 256 (Nat.le_add_right i j)))];simp
end
end
structure asc(s:St)(C:List UInt8)(v:Int)(dt:Nat->Prop):Prop where
 op:aK (XY s C dt) (Gv s C v dt)=0
 fN:aV (ar (XY s C dt) (Gv s C v dt))=C
 plc:az (Gv s C v dt).rn.l=Cz s C dt
 pl:axB s (aQ s C dt) (Be s C dt) (ZJ (pN (aQ s C dt) s.pl (df s.d) s.d.n) (sq (aQ s C dt) s.pl (df s.d)))
 dk:Bu s (aQ s C dt) (Be s C dt) (XY s C dt)
def Xo{d:Dk}{a:At}{C:List UInt8}{v:Int}{dt:Nat->Prop}(h0:aK d a=0)(hd:wU d)(hn:a.nm.length<=1000000)(hc:GZ (ar d a) C v dt)(he:Md (ar d a) C v dt=0):asc (ar d a) C v dt:=by
 obtain⟨ok,_⟩:=bc h0;have st:=ok.st hd hn;have Es:yw (ar d a).pl:=u0 ok.rn;obtain⟨d1,d2,d3⟩:=rX ok.dk;obtain⟨s1,s2,s3,s4,s5⟩:=lE ok.str;generalize hs:ar d a=s at*;have HO:s.a=a:=by rw[<-hs];rfl
 have WW:s.d=d:=by rw[<-hs];rfl
 unfold Md at he;split at he
 ·omega
 rename_i HL;have HL:=zcY.1 HL;split at he
 ·cases he
 rename_i qN;have he4:gu (Gv s C v dt)=0:=zcY.1 λh=>qN (.inr h)
 have qG:=sK s C dt;have mE:=hc.len;have IH:(aQ s C dt).length<=200:=Su;have pl:axB s (aQ s C dt) (Be s C dt) (ZJ (pN (aQ s C dt) s.pl (df s.d) s.d.n) (sq (aQ s C dt) s.pl (df s.d))):=atl st Es (ps:=aQ s C dt) ab HL;have dk:=aCI st ab pl;have CX:∀i,jz (aQ s C dt) i=true->0<=Be s C dt i:=λi hi=>(pl.yes i (wD hi) hi).1
 have tT:∀i,jz (aQ s C dt) i=false->Be s C dt i= -1:=pl.no;have rK:s.d.n<=512:=st.n;have hb:∀x∈Cz s C dt,x= -1\/(0<=x/\x<s.d.n):=λx hx=>by
  obtain⟨i,hi,rfl⟩:=zaX.1 hx;cases g:jz (aQ s C dt) i with
  |false=>exact .inl (tT i g)
  |true=>exact .inr (pl.yes i (zbm.1 hi) g)
 have akC:az (Gv s C v dt).rn.l=Cz s C dt:=ZB λx hx=>by rcases hb x hx with h|h<;>omega
 have AI:(XY s C dt).n=s.d.n:=by unfold Dk.n;rw[dk.len]
 have aLi:MH (XY s C dt).a_ (Cz s C dt):=λx hx=>by
  rcases hb x hx with h|h
  ·exact .inl h
  ·rw[dk.len];unfold Dk.n at h;omega
 have aHJ:(Cz s C dt).length=(aQ s C dt).length:=ck;have SL:(Gv s C v dt).fl=s.a.fl:=rfl;refine⟨?_,?_,akC,pl,dk⟩
 ·unfold aK;have hdE:gm (XY s C dt)=0:=by
   unfold gm;rw[AI,dk.len,WW,if_neg ab,if_neg ab];have:=dk.bm;rwa[WW]at this
  have hsE:oT (Gv s C v dt)=0:=by
   unfold oT;rw[he4,if_neg aj,if_neg,if_neg,if_neg]
   ·show ¬32768<(C.length:Int);omega
   ·show ¬(0:Int)≠0;simp
   ·show ¬(s.a.ty≠128\/4<=s.a.fl\/s.a.fl=3);rw[HO];omega
  have rH:pG (XY s C dt) (Cz s C dt)=0:=by
   unfold pG;rw[if_neg,if_neg]
   ·rintro⟨x,hx,h1,h2⟩;obtain⟨i,hi,rfl⟩:=zaX.1 hx;have hi:=zbm.1 hi;cases g:jz (aQ s C dt) i with
    |false=>exact h1 (tT i g)
    |true=>
     have hy:=pl.yes i hi g;have uq:=(dk.bit (Be s C dt i).toNat ab).2 (.inl ⟨i,hi,g,ab⟩);omega
   grind
  have yB:lJ (Gv s C v dt) (Cz s C dt):=by
   refine⟨rfl,?_⟩;rw[SL,aHJ,qG];show if s.a.fl%2=1 then(((if s.a.fl%2=1 then 16*((C.length+4095)/4096)else(C.length+255)/256:Nat):Int)=((C.length:Int)+4095)/4096*16∧∀c∈chunks (Cz s C dt),aa c)else(((if s.a.fl%2=1 then 16*((C.length+4095)/4096)else(C.length+255)/256:Nat):Int)=((C.length:Int)+255)/256/\(s.a.fl/2%2=1\/bt (Cz s C dt)=(if s.a.fl%2=1 then 16*((C.length+4095)/4096)else(C.length+255)/256:Nat)));split
   ·rename_i g;exact⟨ab,axc g tT CX⟩
   ·rename_i g;refine⟨ab,?_⟩;by_cases g2:s.a.fl/2%2=1
    ·exact .inl g2
    ·right;rw[<-if_neg g (t:=16*((C.length+4095)/4096)) (e:=(C.length+255)/256),<-qG,<-aHJ,Yu];intro x hx e;obtain⟨i,hi,hxi⟩:=zaX.1 hx;have hi:=zbm.1 hi;have cb:jz (aQ s C dt) i=true:=by
      have hp:=Xn (dt:=dt) g (i:=i) (by rw[qG,if_neg g]at hi;exact hi);unfold jz;rw[hp,zbA,decide_eq_true_eq];unfold dv;rw[if_neg (λh=>g2 h.1)];intro Nv;have h5:=congrArg List.length Nv;rw[BB eI]at h5;cases h5
     have:=CX i cb;omega
  rw[hdE,hsE,if_neg aj,if_neg aj,if_neg (by show ¬false=true;simp),akC,rH,if_neg aj];unfold iW;rw[if_pos yB,if_neg aj];split
  ·rename_i g;exact asb (v:=v) ab hc tT CX dk aLi
  ·rfl
 ·show nA (Gv s C v dt) (if (Gv s C v dt).fl%2=1 then ow (XY s C dt).a_ (chunks (az (Gv s C v dt).rn.l))else rz (XY s C dt).a_ (az (Gv s C v dt).rn.l))=C;rw[akC];exact aBR (v:=v) hc tT CX dk rfl rfl rfl
def Dl{l:List Int}{c:Nat}:(c:Int)∈tV l↔(c:Int)∈l:=by
 rw[atd];grind
def atm{d:Dk}{a:At}{C:List UInt8}{v:Int}{dt:Nat->Prop}(hm:asc (ar d a) C v dt):adv d (XY (ar d a) C dt) a (Gv (ar d a) C v dt):=by
 have lO:=hm.dk;have qG:=hm.pl;have sM:=(bc hm.op).1.dk;refine⟨⟨lO.len.symm,sM⟩,λc hc=>?_⟩;rw[hm.plc];have hB:(c:Int)∈tV (Cz (ar d a) C dt)↔∃i,i<(aQ (ar d a) C dt).length/\jz (aQ (ar d a) C dt) i=true/\Be (ar d a) C dt i=c:=by
  rw[Dl];constructor
  ·intro h;obtain⟨i,hi,e⟩:=zaX.1 h;refine⟨i,zbm.1 hi,?_,e⟩;cases g:jz (aQ (ar d a) C dt) i with
   |true=>rfl
   |false=>have:=qG.no i g;omega
  ·rintro⟨i,hi,_,e⟩;exact zaX.2 ⟨i,zbm.2 hi,e⟩
 have hA:(c:Int)∈tV (az a.rn.l)↔(c:Int)∈(ar d a).pl:=Dl;have pD:=lO.bit c hc;have b1:=mK (XY (ar d a) C dt).mp c;have b2:=mK d.mp c;have WW:(ar d a).d=d:=rfl;unfold E0;rw[hA,hB];refine⟨λ⟨g1,g2⟩=>⟨?_,?_⟩,λ⟨g1,g2⟩=>?_,λg=>pD.2 (.inl g),λ⟨⟨i,h1,h2,h3⟩,g2⟩=>?_⟩
 ·grind
 ·exact(lO.aBv c hc λi hi e=>g2 ⟨i,wD hi,hi,e⟩).symm
 ·grind
 ·have hf:=qG.free i h1 h2 (by rw[h3];exact g2);unfold df at hf
  grind
def gy(p:Nat->Bool):Nat->Nat
 |0=>0
 |n+1=>gy p n+if p n=true then 1 else 0
def ak5(p:Nat->Bool):∀n,gy p n<=n
 |0=>zai 0
 |n+1=>by
  have:=ak5 p n;show gy p n+(if p n=true then 1 else 0)<=n+1;split<;>omega
def cJ(p:Nat->Bool)(n:Nat):gy p (n+1)=gy p n+if p n=true then 1 else 0:=rfl
def jq{p q:Nat->Bool}:∀{n:Nat},(∀i,i<n->p i=q i)->gy p n=gy q n
 |0,_=>rfl
 |n+1,h=>by rw[cJ,cJ,jq (n:=n) λi hi=>h i ab,h n ab]
def Ed{p q:Nat->Bool}:∀{n:Nat},(∀i,i<n→¬(p i=true/\q i=true))->gy (λi=>p i||q i) n=gy p n+gy q n
 |0,_=>rfl
 |n+1,h=>by
  have ih:=Ed (n:=n) λi hi=>h i ab
  rw[cJ,cJ,cJ,ih]
  grind
def xh{k:Nat}:∀{n:Nat},gy (λi=>decide (i=k)) n=if k<n then 1 else 0
 |0=>rfl
 |n+1=>by
  rw[cJ,xh (n:=n)]
  grind
def Mt{n:Nat}:∀{l:List Int},yw l->(∀x∈l,x= -1\/(0<=x/\x<n))->gy (λc=>decide ((c:Int)∈l)) n=bt l
 |[],_,_=>by
  have:∀m,gy (λc=>decide ((c:Int)∈([]:List Int))) m=0:=λm=>by
   induction m with
   |zero=>rfl
   |succ m ih=>rw[cJ,ih];simp
  rw[this];rfl
 |a::l,hd,hb=>by
  have ih:=Mt (n:=n) (l:=l) (List.Pairwise.of_cons hd) λx hx=>hb x iP
  have hu:bt (a::l)=(if a= -1 then 0 else 1)+bt l:=by
   unfold bt
   grind
  by_cases h:a= -1
  ·grind
  ·have hr:=(hb a aj).resolve_left h;have h1:=Ed (p:=λc=>decide (c=a.toNat)) (q:=λc=>decide ((c:Int)∈l)) (n:=n) λc _=>by
    rw[decide_eq_true_eq,decide_eq_true_eq];rintro⟨e,hm⟩;exact(List.pairwise_cons.1 hd).1 _ hm h ab
   rw[xh,if_pos ab]at h1
   grind
def aoK(ps:List (List UInt8)):Nat:=gy (jz ps) ps.length
def nk(ps:List (List UInt8))(pl:List Int)(i:Nat):Bool:=decide (nD ps pl i≠ -1)
def YH(ps:List (List UInt8))(pl:List Int):∀n,vF ps pl n=gy (G8 ps pl) n
 |0=>rfl
 |n+1=>by rw[xP,cJ,YH ps pl n]
def atx(ps:List (List UInt8))(pl:List Int):aoK ps=lT ps pl+gy (nk ps pl) ps.length:=by
 have h1:lT ps pl=gy (G8 ps pl) ps.length:=YH ps pl _;rw[h1,<-Ed]
 ·refine jq λi _=>?_
  unfold G8 nk;by_cases h:jz ps i=true
  ·grind
  ·have g:nD ps pl i= -1:=by unfold nD;rw[if_neg h]
   rw[g];simp[h]
 ·rintro i _ ⟨h1,h2⟩;unfold G8 at h1;unfold nk at h2
  grind
def aaJ(f:Nat->Int):∀n,bt (cQ f n)=gy (λi=>decide (f i≠ -1)) n
 |0=>rfl
 |n+1=>by
  have:cQ f (n+1)=cQ f n++[f n]:=by unfold cQ;rw[zdi];simp
  rw[this,aen,aaJ f n,cJ];unfold bt;by_cases h:f n= -1<;>simp[h]
def az9{ps:List (List UInt8)}{pl:List Int}(h:yw pl):yw (Qg ps pl):=by
 refine Xt λi j x hi hj hx=>?_
 unfold Qg at hi hj;have iX:i<ps.length:=by have:=(zaa.1 hi).1;simp_all
 have HQ:j<ps.length:=by have:=(zaa.1 hj).1;simp_all
 rw[bO iX]at hi;rw[bO HQ]at hj;have hi:=Option.some.inj hi;have hj:=Option.some.inj hj;have gi:=SD (ps:=ps) (pl:=pl) (i:=i) (by rw[hi];exact hx);have gj:=SD (ps:=ps) (pl:=pl) (i:=j) (by rw[hj];exact hx);rw[hi]at gi;rw[hj]at gj;exact XD h gi gj hx
def amh{ps:List (List UInt8)}{pl:List Int}{x:Int}(h:x∈Qg ps pl)(hx:x≠ -1):x∈pl:=by
 obtain⟨i,_,rfl⟩:=zaX.1 h;exact Dr hx
def aBZ{ps:List (List UInt8)}{pl:List Int}{b:Nat->Bool}{n:Nat}(hd:yw pl)(hb:∀x∈pl,x= -1\/(0<=x/\x<n))(hu:∀c:Nat,(c:Int)∈pl->b c=true):
 gy (sq ps pl b) n+bt pl=gy (nk ps pl) ps.length+gy b n:=by
 have h1:=Mt (n:=n) hd hb;have h2:=Mt (n:=n) (az9 (ps:=ps) hd) λx hx=>by
  by_cases g:x= -1
  ·exact .inl g
  ·exact hb x (amh hx g)
 have h3:bt (Qg ps pl)=gy (nk ps pl) ps.length:=aaJ _ _;have h4:=Ed (p:=λc=>decide ((c:Int)∈pl)) (q:=λc=>b c&&!decide ((c:Int)∈pl)) (n:=n) λc _=>bf
 have h5:=Ed (p:=λc=>decide ((c:Int)∈Qg ps pl)) (q:=λc=>b c&&!decide ((c:Int)∈pl)) (n:=n) λc _=>by
  rintro⟨g1,g2⟩;simp only[decide_eq_true_eq,zaU,zbs,decide_eq_false_iff_not]at g1 g2;exact g2.2 (amh g1 ab)
 have e1:gy b n=gy (λc=>decide ((c:Int)∈pl)||(b c&&!decide ((c:Int)∈pl))) n:=jq λc _=>by
  by_cases g:(c:Int)∈pl
  ·simp_all
  ·simp[g]
 have e2:gy (sq ps pl b) n=gy (λc=>decide ((c:Int)∈Qg ps pl)||(b c&&!decide ((c:Int)∈pl))) n:=jq λc _=>by
  show(if (c:Int)∈pl then decide ((c:Int)∈Qg ps pl)else b c)=_;by_cases g:(c:Int)∈pl
  ·simp[g]
  ·have:(c:Int)∉Qg ps pl:=λh=>g (amh h ab)
   simp[g,this]
 omega
def vp(s:List UInt8):∀n,oF s n=gy (λc=>decide (bH s c=1)) n
 |0=>rfl
 |n+1=>by
  have hb:=mK s n;rw[cJ,<-vp s n];show oF s n+bH s n=_
  grind
def QX{d:Dk}{a:At}(h:aK d a=0){c:Nat}(hc:(c:Int)∈az a.rn.l):bH d.mp c=1:=by
 obtain⟨ok,ho⟩:=bc h;cases c_:a.rs with
 |true=>
  rw[(ok.res c_).1]at hc;cases hc
 |false=>
  have hp:=(ho c_).1;unfold pG at hp;split at hp
  ·cases hp
  split at hp
  ·cases hp
  have hb:=mK d.mp c
  grind
def abK{d:Dk}{a:At}(h0:aK d a=0)(hd:wU d)(hn:a.nm.length<=1000000){ps:List (List UInt8)}(hl:ps.length<=1000)(he:w_ ps (az a.rn.l) (df d) d.n≠0):
 (w_ ps (az a.rn.l) (df d) d.n=16/\d.n-oF d.mp d.n+bt (az a.rn.l)<aoK ps)\/
 (w_ ps (az a.rn.l) (df d) d.n=8/\64<(nG (mG (cQ (sq ps (az a.rn.l) (df d)) d.n)) d.n).length):=by
 obtain⟨ok,_⟩:=bc h0;have st:=ok.st hd hn;have Es:yw (az a.rn.l):=u0 ok.rn;have hb:=X6 st;have rK:=st.n;have Cy:(ar d a).pl=az a.rn.l:=rfl;have WW:(ar d a).d=d:=rfl;rw[Cy]at hb;rw[WW]at hb rK;have eh:∀c:Nat,(c:Int)∈az a.rn.l->df d c=true:=λc hc=>by
  unfold df;rw[QX h0 hc];rfl
 have aQf:=aBZ (ps:=ps) (n:=d.n) Es (λx hx=>by have:=hb x hx;omega) eh;have jF:gy (df d) d.n=oF d.mp d.n:=(vp d.mp d.n).symm;have cb:=atx ps (az a.rn.l);have Vv:=DF (l:=cQ (sq ps (az a.rn.l) (df d)) d.n) kD;rw[ck]at Vv;have xk:=aok (ps:=ps) hb ab ps.length;have AQ:=agH ps (az a.rn.l) ps.length;have aLa:lT ps (az a.rn.l)=vF ps (az a.rn.l) ps.length:=rfl;unfold w_ at he ⊢;by_cases hm:lT ps (az a.rn.l)=0
 ·grind
 rw[if_neg hm]at he ⊢;rcases axo Vv.1 (c:=lT ps (az a.rn.l)) (near:=UZ ps (az a.rn.l) ps.length) ab ab he with⟨g1,g2⟩|⟨g1,g2⟩
 ·refine .inl ⟨g1,?_⟩;rw[ax3 ab]at g2;have cM:oF (mG (cQ (sq ps (az a.rn.l) (df d)) d.n)) d.n=gy (sq ps (az a.rn.l) (df d)) d.n:=by
   rw[vp];refine jq λc hc=>?_
   rw[Vv.2,if_pos hc,bO hc,zbA];cases sq ps (az a.rn.l) (df d) c<;>simp[mS]
  rw[zaC,cM]at g2;have aJQ:=Bj d.mp d.n;omega
 ·exact .inr ⟨g1,g2⟩
def zC(x y:Int):Prop:=(x= -1/\y= -1)\/(x≠ -1/\y≠ -1/\x+1=y)
instance (x y:Int):Decidable (zC x y):=by unfold zC;infer_instance
def bR(L:Nat->Int)(i:Nat):Bool:=decide (i=0∨¬zC (L (i-1)) (L i))
def Lt{α:Type}(f:Nat->α)(n:Nat):cQ f (n+1)=cQ f n++[f n]:=by unfold cQ;rw[zdi];simp
def aw_(l:List Int)(a:Int):IA (l++[a])=qV (IA l) a:=by unfold IA;simp_all
def Xc{L:Nat->Int}(h:∀i,-1<=L i):∀n,(IA (cQ L n)).length=gy (bR L) n/\(0<n→∃r,(IA (cQ L n)).getLast?=some r/\1<=r.n/\ -1<=r.s/\((r.s= -1/\L (n-1)= -1)\/(r.s≠ -1/\L (n-1)=r.s+r.n-1)))
 |0=>⟨rfl,λh=>ab⟩
 |n+1=>by
  obtain⟨za,zb⟩:=Xc h n;have hLn:=h n;rw[Lt,aw_,cJ,<-za,Nat.add_sub_cancel];unfold qV;by_cases hn:n=0
  ·subst hn;refine⟨rfl,λ_=>⟨⟨L 0,1⟩,rfl,Int.le_refl 1,hLn,?_⟩⟩
   grind
  ·obtain⟨r,h1,h2,h3,h4⟩:=zb ab;have hj:((L n= -1/\r.s= -1)\/(L n≠ -1/\r.s≠ -1/\r.s+r.n=L n))↔zC (L (n-1)) (L n):=by
    unfold zC;omega
   by_cases hjj:zC (L (n-1)) (L n)
   ·have hs:bR L n=false:=by unfold bR;simp[hn,hjj]
    grind
   ·have hs:bR L n=true:=by unfold bR;simp[hjj]
    grind
def Tq(r:Rn)(i:Nat):Int:=if r.s= -1 then(-1:Int)else r.s+(i:Int)
def LC(r:Rn):iV r=cQ (Tq r) r.n.toNat:=rfl
def ahI{acc:List Rn}{r:Rn}(hs: -1<=r.s):∀k:Nat,((cQ (Tq r) (k+1)).foldl qV acc).length<=acc.length+1∧∃q,((cQ (Tq r) (k+1)).foldl qV acc).getLast?=some q/\((q.s= -1/\r.s= -1)\/(q.s≠ -1/\r.s≠ -1/\q.s+q.n=r.s+(k:Int)+1))
 |0=>by
  have e:(cQ (Tq r) 1).foldl qV acc=qV acc (Tq r 0):=rfl;rw[e];have hl:=abJ acc (Tq r 0);refine⟨hl,?_⟩;unfold qV;cases UB:acc.getLast? with
  |none=>
   refine⟨⟨Tq r 0,1⟩,rfl,?_⟩;simp only[Tq];omega
  |some q=>
   simp only;split
   ·rename_i hj;refine⟨⟨q.s,q.n+1⟩,aj,?_⟩;simp only[Tq]at hj ⊢;omega
   ·refine⟨⟨Tq r 0,1⟩,aj,?_⟩;simp only[Tq];omega
 |k+1=>by
  obtain⟨h1,q,h2,h3⟩:=ahI (acc:=acc) hs k;rw[Lt,zdJ];generalize (cQ (Tq r) (k+1)).foldl qV acc=A at*;have hj:(Tq r (k+1)= -1/\q.s= -1)\/(Tq r (k+1)≠ -1/\q.s≠ -1/\q.s+q.n=Tq r (k+1)):=by
   unfold Tq;omega
  unfold qV
  grind
def apv{l:List Rn}(h:∀r∈l,-1<=r.s):∀acc:List Rn,((az l).foldl qV acc).length<=acc.length+l.length:=by
 induction l with
 |nil=>simp[az]
 |cons r l ih=>
  intro acc;have e:az (r::l)=iV r++az l:=by simp[az]
  rw[e,zdJ];have h1:=ih (λq hq=>h q kF) ((iV r).foldl qV acc);have h2:((iV r).foldl qV acc).length<=acc.length+1:=by
   rw[LC];cases hk:r.n.toNat with
   |zero=>show acc.length<=_;omega
   |succ k=>exact(ahI (h r aj) k).1
  rw[zam];omega
def XP{l:List Rn}(h:∀r∈l,-1<=r.s):(IA (az l)).length<=l.length:=by
 have:=apv h [];simpa[IA]using this
def Xp(p:Nat->Bool)(i:Nat):Bool:=p i&&(decide (i=0)||!p (i-1))
def TW(p:Nat->Bool):∀n,(bh p n).length=gy (Xp p) n
 |0=>rfl
 |n+1=>by
  have ih:=TW p n;have di:=(kI p n).2.2;rw[cJ,<-ih];show(if p n then zh (bh p n) n else bh p n).length=_;by_cases hp:p n=true
  ·rw[if_pos hp];by_cases hq:0<n/\p (n-1)=true
   ·obtain⟨a,r,h1,h2⟩:=di.2 hq;have hx:Xp p n=false:=by unfold Xp;rw[hq.2];simp;omega
    rw[h1,xz,if_pos h2,hx];simp
   ·have hx:Xp p n=true:=by
     unfold Xp
     grind
    rw[hx,XO]
    ·simp
    ·intro r hr e;have cb:bh p n≠[]:=by intro h;simp_all
     have e1:=zdc cb
     grind
  ·have hx:Xp p n=false:=by unfold Xp;simp[hp]
   simp_all
def sk{p q:Nat->Bool}:∀{n:Nat},(∀i,i<n->p i=true->q i=true)->gy p n<=gy q n
 |0,_=>zai 0
 |n+1,h=>by
  have ih:=sk (n:=n) λi hi=>h i ab
  rw[cJ,cJ]
  grind
def tK{p q:Nat->Bool}:∀{n:Nat},gy (λi=>p i||q i) n<=gy p n+gy q n
 |0=>zai 0
 |n+1=>by
  have ih:=tK (p:=p) (q:=q) (n:=n);rw[cJ,cJ,cJ]
  grind
def aFN(p q:Nat->Bool)(n:Nat):gy (Xp λi=>p i||q i) n<=gy (Xp p) n+gy (Xp q) n:=by
 refine zay (sk (q:=λi=>Xp p i||Xp q i) λi _ h=>?_) tK;unfold Xp at h ⊢
 grind
section
def yU(b:Bool):Nat:=if b=true then 1 else 0
section
variable (O P:Nat->Int) (ne:Nat->Bool)
def n_(i:Nat):Bool:=ne i&&decide (O i= -1)
def jX(i:Nat):Bool:=!ne i&&decide (O i≠ -1)
def qi(i:Nat):Bool:=decide (¬zC (O (i-1)) (O i))
def ve(i:Nat):Bool:=decide (¬zC (P (i-1)) (P i))&&!(n_ O ne (i-1)&&n_ O ne i)
def k_(i:Nat):Bool:=jX O ne i&&!(jX O ne (i-1)&&decide (zC (O (i-1)) (O i)))
end
def aA4{O P:Nat->Int}{ne:Nat->Bool}{i:Nat}(tT:∀i,ne i=false->P i= -1)(hk:∀i,ne i=true->O i≠ -1->P i=O i)
 (h:ne (i-1)=ne i\/(qi O i=true/\jX O ne i=false)):yU (ve O P ne i)+yU (k_ O ne i)<=yU (qi O i):=by
 have h3:=hk (i-1);have h4:=hk i;unfold ve k_ qi jX n_ yU at*;generalize O (i-1)=x at*;generalize O i=y at*;cases hn:ne i<;>cases hm:ne (i-1)<;>by_cases hx:x= -1<;>by_cases hy:y= -1<;>simp_all[zC];all_goals(split<;>simp_all<;>omega)
def aFJ{O:Nat->Int}{ne:Nat->Bool}{M n:Nat}{F:Nat->Bool}(hb:∀i,i<M->O i= -1\/(0<=O i/\O i<n))(hi:∀i j,i<M->j<M->O i≠ -1->O i=O j->i=j)
 (hF:∀c,F c=true↔∃i,i<M/\jX O ne i=true/\O i=c):gy (Xp F) n<=gy (k_ O ne) M:=by
 have hfd:∀i,jX O ne i=true->O i≠ -1:=λi h=>by
  unfold jX at h
  grind
 have eH:∀i,k_ O ne i=true->jX O ne i=true:=λi h=>by
  unfold k_ at h
  grind
 have hd:yw (cQ (λi=>if k_ O ne i=true then O i else-1) M):=Xt λi j x h1 h2 hx=>by
  have iX:i<M:=by have:=(zaa.1 h1).1;simp_all
  have HQ:j<M:=by have:=(zaa.1 h2).1;simp_all
  rw[bO iX]at h1;rw[bO HQ]at h2
  grind
 have hm:=Mt (n:=n) hd λx hx=>by
  obtain⟨i,iX,rfl⟩:=zaX.1 hx
  grind
 rw[aaJ]at hm;have e:gy (λi=>decide ((if k_ O ne i=true then O i else-1)≠ -1)) M=gy (k_ O ne) M:=jq λi _=>by
  grind
 rw[e]at hm;rw[<-hm];refine sk λc _ hc=>?_
 unfold Xp at hc;simp only[zaU,zbE,decide_eq_true_eq,zbs]at hc;obtain⟨h1,h2⟩:=hc;obtain⟨i,iX,h3,h4⟩:=(hF c).1 h1;rw[decide_eq_true_eq];refine zaX.2 ⟨i,zbm.2 iX,?_⟩;by_cases g:k_ O ne i=true
 ·simp_all
 ·unfold k_ at g;rw[h3]at g;simp only[Bool.true_and,zbs,Bool.not_eq_false,zaU,decide_eq_true_eq]at g;obtain⟨g1,g2⟩:=g;unfold zC at g2
  grind
end
def nv(P:Nat->Int)(m:Nat->Bool)(i:Nat):Bool:=decide (0<i)&&(m (i-1)&&m i)&&decide (¬zC (P (i-1)) (P i))
def azl{P G:Nat->Int}{m:Nat->Bool}(h:∀i,m i=true->P i=G (gy m i)):∀n,gy (nv P m) n<=gy (λk=>decide (0<k)&&decide (¬zC (G (k-1)) (G k))) (gy m n)
 |0=>zai 0
 |n+1=>by
  have ih:=azl h n;rw[cJ,cJ];cases hm:m n with
  |false=>
   have:nv P m n=false:=by unfold nv;rw[hm];simp
   simp_all
  |true=>
   rw[if_pos rfl,cJ];cases hf:nv P m n with
   |false=>grind
   |true=>
    unfold nv at hf;have e:gy m n=gy m (n-1)+1:=by
     have:=cJ m (n-1)
     grind
    grind
def ajr{nb fb ob ct:Nat->Bool}:∀{M:Nat},(∀i,i<M->ct i=false->yU (nb i)+yU (fb i)<=yU (ob i))->gy nb M+gy fb M<=gy (λi=>ob i&&!ct i) M+2*gy ct M
 |0,_=>zai 0
 |M+1,h=>by
  have ih:=ajr (M:=M) λi hi=>h i ab
  have h1:=h M ab;unfold yU at h1;rw[cJ,cJ,cJ,cJ]
  grind
def CP(l:List Rn):Prop:=∀(i:Nat) (q r:Rn),l[i]?=some q->l[i+1]?=some r→¬iy q r
def awX{acc:List Rn}{a:Int}(h:CP acc):CP (qV acc a):=by
 unfold qV;cases hl:acc.getLast? with
 |none=>
  intro i q r h1 h2;simp at h2
 |some q=>
  simp only;have Vu:acc[acc.length-1]?=some q:=bf;split
  ·intro i x y h1 h2 hj;have hi:=(zaa.1 h2).1;rw[zad,zdU,zbS]at hi;rw[zaq nq,zdS,if_pos ab]at h1;by_cases g:i+1<acc.length-1
   ·rw[zaq nq,zdS,if_pos ab]at h2;exact h i x y h1 h2 hj
   ·rw[zak nq,zdU,show i+1-(acc.length-1)=0 by omega]at h2;have h2:=Option.some.inj h2;subst h2;refine h i x q h1 ?_ hj
    grind
  ·intro i x y h1 h2 hj;have hi:=(zaa.1 h2).1;rw[zad,zbS]at hi;rw[zaq ab]at h1;by_cases g:i+1<acc.length
   ·rw[zaq ab]at h2;exact h i x y h1 h2 hj
   ·rw[zak ab,show i+1-acc.length=0 by omega]at h2;have h2:=Option.some.inj h2;subst h2;rw[show i=acc.length-1 by omega,Vu]at h1;unfold iy at hj
    simp_all
def aBW(l:List Int):CP (IA l):=by
 have:∀n,n<=l.length->CP (IA (l.take n)):=by
  intro n
  induction n with
  |zero=>intro _ i q r h1 _;simp[IA]at h1
  |succ n ih=>
   intro hn;have ha:l[n]?=some l[n]:=zah ab;rw[Fh ha];exact awX (ih ab)
 have:=this l.length (zai _)
 simp_all
def agi{r:Rn}{x:Int}(hs:r.s≠ -1)(h:r.s<=x/\x<r.s+r.n):x∈iV r:=by
 refine zaX.2 ⟨(x-r.s).toNat,zbm.2 ab,?_⟩;omega
def apJ{l:List Int}(hb:∀x∈l,x= -1\/(0<=x/\x<512))(hd:yw l)(hl:l.length<=4096)(hn:(IA l).length<=64):dU (IA l)=0:=by
 have t_:∀a∈l,-1<=a/\a<=1000000:=λa ha=>by rcases hb a ha with h|h<;>omega
 have hp:=ZB t_;have hq:=(agT t_ l.length).2;rw[zcZ]at hq;have HF:=aBW l;have AW:=hd;rw[<-hp]at AW;have AW:=(zdH.1 AW).2;rw[zdB]at AW;have SF:∀r∈IA l,∀x∈iV r,x∈l:=λr hr x hx=>by
  rw[<-hp];exact zbz.2 ⟨r,hr,hx⟩
 have di:∀r∈IA l,jZ r:=λr hr=>by
  have h1:=hq r hr;have h2:=h1.1;have h3:=h1.2;unfold jZ;split
  ·omega
  ·rename_i hs;have a2:=hb _ (SF r hr _ (agi (x:=r.s+r.n-1) hs ab));omega
 have h0:∀k,k<(IA l).length->Wx (IA l) k=0:=λk hk=>by
  unfold Wx;have hg:(IA l)[k]?=some (IA l)[k]:=zah hk;rw[hg];simp only;rw[if_neg (λh=>h (di _ (zdw hk))),if_neg,if_neg]
  ·rintro⟨j,hj,q,hjq,hs⟩;have HQ:j<(IA l).length:=ab;have e:(IA l)[j]=q:=by
    grind
   subst e;obtain⟨s1,s2,s3,s4⟩:=hs;have b1:=(hq _ (zdw HQ))
   have b2:=(hq _ (zdw hk))
   have n1:=b1.1;have n2:=b2.1;have:=AW j k HQ hk hj (max (IA l)[j].s (IA l)[k].s) (agi s1 ab) (max (IA l)[j].s (IA l)[k].s) (agi s2 ab) ab;exact this rfl
  ·rintro⟨h1,q,h2,h3⟩;exact HF (k-1) q (IA l)[k] h2 bf h3
 unfold dU;rw[Mo hn h0];have hs:=xA (l:=IA l) (λr hr=>by have:=(hq r hr).1;omega)
 grind
def al6{a:At}(hr:a.rs=false):(T5 a).length=Tk a:=by
 have h1:=i_ (uH a+a.nm.length);have h2:=i_ (l8 a+(N8 a).length);have e1:l8 a=B5 (uH a+a.nm.length):=rfl;have e2:Tk a=B5 (l8 a+(N8 a).length):=rfl;have hh:uH a=40:=by unfold uH;rw[hr];rfl
 have hf:(aso a).length=40:=by
  unfold aso atW;rw[hr];simp only[zad,gL,bE,zcn,if_false]
 unfold T5;rw[zad,zad,zad,zad,hf,bE,bE];omega
def al_{s:St}{C:List UInt8}{v:Int}{dt:Nat->Prop}(hs:gu s.a=0)(ht:s.a.ty=128)(hC:C.length<=32768)(hv:0<=v/\v<=C.length)
 (hb:∀x∈Cz s C dt,x= -1\/(0<=x/\x<512)) (hd:yw (Cz s C dt)) (hl:(Cz s C dt).length<=128) (hn:(IA (Cz s C dt)).length<=64):gu (Gv s C v dt)=0:=by
 have h0:TI s.a=0:=by
  unfold gu at hs
  grind
 have ok:=acN.of h0;have hr:=apJ hb hd ab hn;have hrk:=bZ hr;have hu:bt (Cz s C dt)<=128:=zay (List.length_filter_le _ _) hl;have hk:Iv (Gv s C v dt)=0:=by
  show GG (Gv s C v dt)=0;unfold GG;have e1:(Gv s C v dt).rn.l=IA (Cz s C dt):=rfl;rw[e1,hr,if_neg,if_neg,if_neg,if_neg,if_neg,if_neg,if_neg,if_neg,if_neg]
  ·show ¬((C.length:Int)<v);omega
  ·refine λh=>h ?_
   show(0<=((bt (Cz s C dt):Nat):Int)*256/\((bt (Cz s C dt):Nat):Int)*256<=1048576)/\(0<=(C.length:Int)/\(C.length:Int)<=1048576)/\(0<=v/\v<=1048576);omega
  ·show ¬((0:Int)<0/\_);omega
  ·show ¬(4096<0+bI (IA (Cz s C dt)));omega
  ·show ¬((0:Int)<0/\_);omega
  ·simp
  ·show ¬ ¬((0:Int)<=0/\(0:Int)<=4096);omega
  ·show ¬([]:List UInt8)≠[];simp
  ·show ¬s.a.ty∈VG;rw[ht];decide
 have hw:(T5 (Gv s C v dt)).length<=440:=by
  rw[al6 rfl];have h1:=i_ (40+s.a.nm.length);have o_:(N8 (Gv s C v dt)).length<=321:=by
   show(qL (IA (Cz s C dt))).length<=321;unfold qL;have:=JP (IA (Cz s C dt)) _ (zai _)
   grind
  have kp:=ok.DL;have e1:l8 (Gv s C v dt)=B5 (40+s.a.nm.length):=rfl;have h2:=i_ (l8 (Gv s C v dt)+(N8 (Gv s C v dt)).length);show B5 (l8 (Gv s C v dt)+(N8 (Gv s C v dt)).length)<=440;omega
 unfold gu;rw[if_neg,if_neg ab];refine λh=>h ?_
 unfold TI;rw[if_neg,if_neg,if_neg,hk]
 ·exact λh=>h ok.idf
 ·exact λh=>h ok.nm
 ·exact λh=>h ok.S3
def Xe(p:Nat->Bool)(a:Nat):∀b,gy p (a+b)=gy p a+gy (λj=>p (a+j)) b
 |0=>rfl
 |b+1=>by rw[<-Nat.add_assoc,cJ,cJ,Xe p a b];omega
def arQ(p:Nat->Bool){a n:Nat}(h:a<=n):gy p a<=gy p n:=by
 rw[show n=a+(n-a) by omega,Xe];omega
def Bn{p:Nat->Bool}:∀{n:Nat},(∀i,i<n->p i=false)->gy p n=0
 |0,_=>rfl
 |n+1,h=>by rw[cJ,Bn (n:=n) λi hi=>h i ab,h n ab];rfl
def am_{p:Nat->Bool}{a n:Nat}(h:∀i,a<=i->p i=false)(ha:a<=n):gy p n=gy p a:=by
 rw[show n=a+(n-a) by omega,Xe,Bn (n:=n-a) λi _=>h _ ab];rfl
def XW(n:Nat):∀cs:List Nat,gy (λi=>decide (i∈cs)) n<=cs.length
 |[]=>by rw[Bn λi _=>aj];omega
 |c::cs=>by
  have ih:=XW n cs;have h1:=tK (p:=λi=>decide (i=c)) (q:=λi=>decide (i∈cs)) (n:=n);have h2:=xh (k:=c) (n:=n)
  grind
def af_(c:Nat->Nat):∀n,gy (λi=>decide (i%16=c (i/16))) (16*n)<=n
 |0=>zai 0
 |n+1=>by
  have ih:=af_ c n;rw[zdX,Xe];have e:gy (λj=>decide ((16*n+j)%16=c ((16*n+j)/16))) 16=gy (λj=>decide (j=c n)) 16:=jq λj hj=>by
   grind
  rw[e,xh]
  grind
def NZ(s:St)(i:Nat):Int:=s.pl[i]?.getD (-1)
def afa{s:St}{i:Nat}:OS s i↔NZ s i≠ -1:=by
 unfold OS NZ
 grind
def ahC(s:St)(dt:Nat->Prop):Prop:=s.a.fl/2%2=1→∃cs:List Nat,cs.length<=4∧∀i,1<=i->i∉cs->(dt (i-1)↔dt i)\/((OS s (i-1)↔dt (i-1))/\(OS s i↔dt i))
def ahu(C:List UInt8)(k:Nat):Nat:=if k<(C.length+4095)/4096 then((j_ (wa C k)).length+255)/256 else 0
def anv{s:St}{C:List UInt8}{dt:Nat->Prop}(hc:s.a.fl%2=1){k j:Nat}(hj:j<16):jz (aQ s C dt) (16*k+j)=decide (j<ahu C k):=by
 have hl:(aQ s C dt).length=16*((C.length+4095)/4096):=QS;unfold jz ahu;by_cases hk:k<(C.length+4095)/4096
 ·rw[if_pos hk,aa9 hc,XG hj hk,zbA,zaN,decide_eq_true_eq,decide_eq_true_eq];rw[<-zcb,zal,zax];omega
 grind
def Pb{s:St}{C:List UInt8}{dt:Nat->Prop}(hc:¬s.a.fl%2=1){i:Nat}:jz (aQ s C dt) i=true↔i<(C.length+255)/256/\(s.a.fl/2%2=1->dt i):=by
 have hl:(aQ s C dt).length=(C.length+255)/256:=by rw[sK,if_neg hc]
 constructor
 ·intro h;have hi:=wD h;rw[hl]at hi;unfold jz at h;rw[Xn hc hi]at h;unfold dv at h
  grind
 ·rintro⟨hi,hs⟩;unfold jz;rw[Xn hc hi,zbA,decide_eq_true_eq];unfold dv;rw[if_neg λh=>h.2 (hs h.1)];intro e;have h5:=congrArg List.length e;rw[BB bf]at h5;cases h5
def zU(_:Nat):Nat:=0
def Rx{a b:Bool}(h:a=true↔b=true):a=b:=bf
def aAB{s:St}{C:List UInt8}{dt:Nat->Prop}(hC:C.length<=32768)(PE:ahC s dt):∃ct:Nat->Bool,ct 0=true/\gy ct 128<=16/\
 ∀i,i<128->ct i=false->jz (aQ s C dt) (i-1)=jz (aQ s C dt) i\/(qi (NZ s) i=true/\jX (NZ s) (jz (aQ s C dt)) i=false):=by
 by_cases hc:s.a.fl%2=1
 ·refine⟨λi=>decide (i%16=zU (i/16))||decide (i%16=ahu C (i/16)),rfl,?_,λi hi hf=>.inl ?_⟩
  ·have h1:=af_ zU 8;have h2:=af_ (ahu C) 8;have h3:=tK (p:=λi=>decide (i%16=zU (i/16))) (q:=λi=>decide (i%16=ahu C (i/16))) (n:=128);have e:16*8=128:=rfl;rw[e]at h1 h2;omega
  ·simp only[Bool.or_eq_false_iff,decide_eq_false_iff_not]at hf;have hz:i%16≠0:=hf.1;have e1:i=16*(i/16)+i%16:=ab;have e2:i-1=16*(i/16)+(i%16-1):=ab;have g1:=anv (C:=C) (dt:=dt) hc (k:=i/16) (j:=i%16) ab;have g2:=anv (C:=C) (dt:=dt) hc (k:=i/16) (j:=i%16-1) ab
   grind
 ·by_cases hs:s.a.fl/2%2=1
  ·obtain⟨cs,mE,sH⟩:=PE hs;refine⟨λi=>decide (i∈0::(C.length+255)/256::cs),aj,?_,λi hi hf=>?_⟩
   ·have:=XW 128 (0::(C.length+255)/256::cs);simp only[zam]at this;omega
   ·simp only[decide_eq_false_iff_not,zaw,not_or]at hf;obtain⟨f1,f2,f3⟩:=hf;have g1:=Pb (C:=C) (dt:=dt) hc (i:=i);have g2:=Pb (C:=C) (dt:=dt) hc (i:=i-1);by_cases hn:i<(C.length+255)/256
    ·rcases sH i ab f3 with h|⟨h1,h2⟩
     ·grind
     ·by_cases hd:dt (i-1)↔dt i
      ·grind
      ·right;rw[afa]at h1 h2;constructor
       ·unfold qi zC
        grind
       ·unfold jX
        grind
    grind
  ·refine⟨λi=>decide (i∈[0,(C.length+255)/256]),aj,?_,λi hi hf=>.inl ?_⟩
   ·have:=XW 128 [0,(C.length+255)/256];simp only[zam,zaY]at this;omega
   ·simp only[decide_eq_false_iff_not,zaw,not_or]at hf;obtain⟨f1,f2,f3⟩:=hf;refine Rx ?_;rw[Pb hc,Pb hc];exact⟨λg=>⟨ab,λh=>absurd h hs⟩,λg=>⟨ab,λh=>absurd h hs⟩⟩
def ax8{O P:Nat->Int}{ne ct:Nat->Bool}(tT:∀i,ne i=false->P i= -1)(hk:∀i,ne i=true->O i≠ -1->P i=O i)
 (PE:gy ct 128<=16) (HR:∀i,i<128->ct i=false->ne (i-1)=ne i\/(qi O i=true/\jX O ne i=false)) (hob:gy (λi=>qi O i&&!ct i) 128<=16):
 gy (ve O P ne) 128+gy (k_ O ne) 128<=48:=by
 have:=ajr (nb:=ve O P ne) (fb:=k_ O ne) (ob:=qi O) (ct:=ct) (M:=128) λi hi hc=>aA4 tT hk (HR i hi hc)
 omega
def aAx{O P:Nat->Int}{ne:Nat->Bool}{n:Nat}(hn:n<=128):gy (bR P) n<=1+gy (ve O P ne) 128+gy (nv P (n_ O ne)) 128:=by
 have h1:=arQ (bR P) hn;have h2:gy (bR P) 128<=gy (λi=>decide (i=0)||(ve O P ne i||nv P (n_ O ne) i)) 128:=sk λi _ h=>by
  unfold bR at h;by_cases h0:i=0
  ·simp[h0]
  ·unfold ve nv
   grind
 have h3:=tK (p:=λi=>decide (i=0)) (q:=λi=>ve O P ne i||nv P (n_ O ne) i) (n:=128);have h4:=tK (p:=ve O P ne) (q:=nv P (n_ O ne)) (n:=128);have h5:=xh (k:=0) (n:=128)
 grind
def aBe{l:List Int}{ct:Nat->Bool}(h0:ct 0=true)(hl:l.length<=128)(hb:∀x∈l,-1<=x):gy (λi=>qi (λi:Nat=>l[i]?.getD (-1)) i&&!ct i) 128<=(IA l).length:=by
 have hO:∀i,-1<=(λi:Nat=>l[i]?.getD (-1)) i:=λi=>by
  show-1<=l[i]?.getD (-1);cases h:l[i]? with
  |none=>simp
  |some a=>exact hb a (zag h)
 have ht:cQ (λi:Nat=>l[i]?.getD (-1)) l.length=l:=by
  refine zba λi=>?_
  by_cases hi:i<l.length
  ·rw[bO hi,zah hi];rfl
  simp_all
 have hr:=(Xc hO l.length).1;rw[ht]at hr;rw[hr];have adL:∀i,l.length<=i->(λi:Nat=>l[i]?.getD (-1)) i= -1:=λi hi=>by
  grind
 generalize hOO:(λi:Nat=>l[i]?.getD (-1))=O at*;have h1:gy (λi=>qi O i&&!ct i) 128<=gy (λi=>(decide (0<i)&&(decide (i<l.length)&&bR O i))||(decide (i=l.length)&&decide (0<l.length))) 128:=sk λi hi h=>by
  simp only[zaU,zbs]at h;have hi0:i≠0:=by rintro rfl;rw[h0]at h;cases h.2
  have h2:=h.1;unfold qi at h2;rw[decide_eq_true_eq]at h2;by_cases g:i<l.length
  ·have:bR O i=true:=by unfold bR;rw[decide_eq_true_eq];exact .inr h2
   simp[g,this];omega
  ·by_cases g2:i=l.length
   ·simp[g2];omega
   ·exfalso;refine h2 (.inl ⟨adL _ ab,adL _ ab⟩)
 refine zay h1 (zay tK ?_);by_cases hp:0<l.length
 ·have h2:gy (λi=>decide (0<i)&&(decide (i<l.length)&&bR O i)) 128=gy (λi=>decide (0<i)&&(decide (i<l.length)&&bR O i)) l.length:=am_ (λi hi=>by
   have:¬i<l.length:=ab;simp[this]) hl
  have h3:gy (λi=>decide (i=l.length)&&decide (0<l.length)) 128<=1:=by
   have h4:=xh (k:=l.length) (n:=128)
   grind
  have h4:=Ed (p:=λi=>decide (i=0)) (q:=λi=>decide (0<i)&&(decide (i<l.length)&&bR O i)) (n:=l.length) λi _ h=>by
   grind
  have h5:gy (λi=>decide (i=0)||(decide (0<i)&&(decide (i<l.length)&&bR O i))) l.length<=gy (bR O) l.length:=sk λi hi h=>by
   simp only[decide_eq_true_eq,zaU,zbE]at h;rcases h with h|h
   ·unfold bR;simp[h]
   ·exact h.2.2
  have h6:=xh (k:=0) (n:=l.length);rw[if_pos hp]at h6;omega
 ·have h2:gy (λi=>decide (0<i)&&(decide (i<l.length)&&bR O i)) 128=0:=Bn λi _=>by
   have:¬i<l.length:=ab;simp[this]
  grind
def afh(s:List UInt8)(n:Nat):(nG s n).length=gy (Xp (jf s 0)) n:=by unfold nG;rw[TW,zaC]
def asN{p q:Nat->Bool}{n:Nat}(h:∀i,i<n->p i=q i):gy (Xp p) n=gy (Xp q) n:=jq λi hi=>by
 unfold Xp
 grind
def aGe(ps:List (List UInt8))(s:St):n_ (NZ s) (jz ps)=G8 ps s.pl:=by
 unfold n_ G8 nD NZ
 grind
noncomputable def fdF(O:Nat->Int)(ne:Nat->Bool)(c:Nat):Bool:= @decide (∃i,i<128/\jX O ne i=true/\O i=(c:Int)) (Classical.propDecidable _)
def anI(O:Nat->Int)(ne:Nat->Bool)(c:Nat):fdF O ne c=true↔∃i,i<128/\jX O ne i=true/\O i=(c:Int):=by
 unfold fdF;simp
def aCf{d:Dk}{a:At}(h0:aK d a=0)(hd:wU d)(hn:a.nm.length<=1000000){ps:List (List UInt8)}(hl:ps.length<=128):
 (nG (mG (cQ (sq ps (az a.rn.l) (df d)) d.n)) d.n).length<=(nG d.mp d.n).length+gy (k_ (NZ (ar d a)) (jz ps)) 128:=by
 obtain⟨ok,_⟩:=bc h0;have st:=ok.st hd hn;have Es:yw (az a.rn.l):=u0 ok.rn;have hb:=X6 st;have rK:=st.n;have hlen:=st.len;have Cy:(ar d a).pl=az a.rn.l:=rfl;have WW:(ar d a).d=d:=rfl;rw[Cy]at hb hlen;rw[WW]at hb rK;have Vv:=DF (l:=cQ (sq ps (az a.rn.l) (df d)) d.n) kD;rw[ck]at Vv;rw[afh,afh];have hF:=anI (NZ (ar d a)) (jz ps);have hbO:∀i,i<128->NZ (ar d a) i= -1\/(0<=NZ (ar d a) i/\NZ (ar d a) i<d.n):=λi _=>by
  unfold NZ;rw[Cy];cases hp:(az a.rn.l)[i]? with
  |none=>exact .inl rfl
  |some x=>have:=hb x (zag hp);simp only[zbA];omega
 have hiO:∀i j,i<128->j<128->NZ (ar d a) i≠ -1->NZ (ar d a) i=NZ (ar d a) j->i=j:=λi j _ _ h1 h2=>by
  unfold NZ at h1 h2;rw[Cy]at h1 h2;cases hp:(az a.rn.l)[i]? with
  |none=>rw[hp]at h1;exact absurd rfl h1
  |some x=>
   rw[hp,zbA]at h1 h2;cases hq:(az a.rn.l)[j]? with
   |none=>rw[hq]at h2;exact absurd h2 h1
   |some y=>
    rw[hq,zbA]at h2;subst h2;exact XD Es hp hq h1
 have h1:=aFJ (M:=128) (n:=d.n) (ne:=jz ps) hbO hiO hF;have h2:=aFN (jf d.mp 0) (fdF (NZ (ar d a)) (jz ps)) d.n;have e:gy (Xp (jf (mG (cQ (sq ps (az a.rn.l) (df d)) d.n)) 0)) d.n=gy (Xp λi=>jf d.mp 0 i||fdF (NZ (ar d a)) (jz ps) i) d.n:=asN λc hc=>by
  rw[zaN,zbE,anI];have hx:∀s:List UInt8,jf s 0 c=true↔bH s c=0:=λs=>by
   unfold jf;have:=mK s c;simp;try omega
  rw[hx,hx,Vv.2,if_pos hc,bO hc,zbA];have Br:mS (sq ps (az a.rn.l) (df d) c)=0↔sq ps (az a.rn.l) (df d) c=false:=by cases sq ps (az a.rn.l) (df d) c<;>simp[mS]
  rw[Br];show(if (c:Int)∈az a.rn.l then decide ((c:Int)∈Qg ps (az a.rn.l))else df d c)=false↔_;have SH:(c:Int)∈Qg ps (az a.rn.l)↔∃i,i<ps.length/\nD ps (az a.rn.l) i=c:=by
   unfold Qg;constructor
   ·intro h;obtain⟨i,hi,e⟩:=zaX.1 h;exact⟨i,zbm.1 hi,e⟩
   ·rintro⟨i,hi,e⟩;exact zaX.2 ⟨i,zbm.2 hi,e⟩
  by_cases hp:(c:Int)∈az a.rn.l
  ·rw[if_pos hp,decide_eq_false_iff_not,SH];obtain⟨j,hj⟩:=zaE.1 hp;have HQ:j<128:=by have:=(zaa.1 hj).1;omega
   have hOj:NZ (ar d a) j=c:=by unfold NZ;rw[Cy,hj];rfl
   constructor
   ·intro h;right;refine⟨j,HQ,?_,hOj⟩;unfold jX;rw[zaU,decide_eq_true_eq,hOj];refine⟨?_,ab⟩;cases hn:jz ps j with
    |false=>rfl
    |true=>
     refine absurd ⟨j,wD hn,?_⟩ h;unfold nD;rw[if_pos hn,hj];rfl
   ·rintro(h|⟨i,hi,h3,h4⟩)
    ·have:=QX h0 hp;omega
    ·rintro⟨k,hk,LL⟩;have sQ:=SD (ps:=ps) (pl:=az a.rn.l) (i:=k) ab;rw[LL]at sQ;have hnk:=(Xd.1 (show nD ps (az a.rn.l) k≠ -1 by omega)).1;have zk:i=k:=by
      have h5:NZ (ar d a) k=c:=by unfold NZ;rw[Cy,sQ];rfl
      refine hiO i k hi ?_ ab ab;have:=(zaa.1 sQ).1;omega
     subst zk;unfold jX at h3;rw[hnk]at h3;simp at h3
  ·rw[if_neg hp];unfold df;rw[decide_eq_false_iff_not];have Gn:=mK d.mp c;constructor
   ·intro h;left;omega
   ·rintro(h|⟨i,hi,h3,h4⟩)
    ·omega
    ·exfalso;refine hp ?_;unfold NZ at h4;rw[Cy]at h4;cases hq:(az a.rn.l)[i]? with
     |none=>rw[hq]at h4;simp at h4
     |some x=>
      rw[hq,zbA]at h4;rw[<-h4];exact zag hq
 omega
def auH{d:Dk}{a:At}{C:List UInt8}{v:Int}{dt:Nat->Prop}(h0:aK d a=0)(hd:wU d)(hn:a.nm.length<=1000000)(hc:GZ (ar d a) C v dt)(PE:ahC (ar d a) dt)
 (hr:a.rn.l.length<=16) (hx:(nG d.mp d.n).length<=16):Md (ar d a) C v dt≠8:=by
 obtain⟨ok,_⟩:=bc h0;have st:=ok.st hd hn;have Es:yw (az a.rn.l):=u0 ok.rn;have hb:=X6 st;have rK:=st.n;have hlen:=st.len;obtain⟨s1,s2,s3,s4,s5⟩:=lE ok.str;have hC:=hc.len;have hv:=hc.vb;have qG:=sK (ar d a) C dt;have IH:(aQ (ar d a) C dt).length<=128:=Su;have Cy:(ar d a).pl=az a.rn.l:=rfl;have WW:(ar d a).d=d:=rfl;obtain⟨ct,c0,c1,c2⟩:=aAB hC PE;have hO:(λi=>(az a.rn.l)[i]?.getD (-1))=NZ (ar d a):=rfl;have hob:=aBe (l:=az a.rn.l) c0 (by rw[Cy]at hlen;exact hlen) (λx hx=>(hb x hx).1);have HH:=XP (l:=a.rn.l) λr hr=>by
  have:=(bZ ok.rn).2.2.2 r hr;unfold jZ at this;split at this<;>omega
 rw[hO]at hob;have aQi:=aCf h0 hd hn IH;have av2:=abK h0 hd hn (ps:=aQ (ar d a) C dt) ab;have tT:∀i,jz (aQ (ar d a) C dt) i=false->Be (ar d a) C dt i= -1:=λi hi=>by
  unfold Be CQ G8 nD;rw[hi];simp
 have hk:∀i,jz (aQ (ar d a) C dt) i=true->NZ (ar d a) i≠ -1->Be (ar d a) C dt i=NZ (ar d a) i:=λi hi h1=>by
  unfold Be CQ G8 nD;unfold NZ at h1 ⊢;rw[hi];simp[h1]
 have hbs:=ax8 (O:=NZ (ar d a)) (P:=Be (ar d a) C dt) tT hk c1 c2 ab;have hX:(nG (mG (cQ (sq (aQ (ar d a) C dt) (az a.rn.l) (df d)) d.n)) d.n).length<=64:=ab;have um:∀e,w_ (aQ (ar d a) C dt) (ar d a).pl (df (ar d a).d) (ar d a).d.n=e->e≠0->e=16:=λe he cb=>by
  subst he;rcases av2 cb with h|h
  ·exact h.1
  ·omega
 unfold Md;split
 ·rename_i g;rw[um _ rfl g];decide
 rename_i g;have g:=zcY.1 g;have fM:=aAx (O:=NZ (ar d a)) (P:=Be (ar d a) C dt) (ne:=jz (aQ (ar d a) C dt)) IH;have pl:=atl st Es (ps:=aQ (ar d a) C dt) ab g;have hP:∀i,-1<=Be (ar d a) C dt i:=λi=>by
  cases h:jz (aQ (ar d a) C dt) i with
  |false=>rw[tT i h];exact Int.le_refl _
  |true=>have:=(pl.yes i (wD h) h).1;unfold Be;omega
 have vu:=(Xc hP (aQ (ar d a) C dt).length).1;have hff:gy (nv (Be (ar d a) C dt) (n_ (NZ (ar d a)) (jz (aQ (ar d a) C dt)))) 128<=15+gy (k_ (NZ (ar d a)) (jz (aQ (ar d a) C dt))) 128:=by
  rw[aGe];by_cases hm:lT (aQ (ar d a) C dt) (ar d a).pl=0
  ·rw[Bn]
   ·omega
   ·intro i hi;have:G8 (aQ (ar d a) C dt) (ar d a).pl i=false:=by
     cases h:G8 (aQ (ar d a) C dt) (ar d a).pl i with
     |false=>rfl
     |true=>
      have cb:jz (aQ (ar d a) C dt) i=true:=by unfold G8 at h;exact(zaU _ _▸h).1
      have:=ae2 (wD cb) h;unfold lT at hm;omega
    unfold nv;rw[this];simp
  ·have xH:=g;unfold w_ at xH;rw[if_neg hm]at xH;have gt:=auh st (ps:=aQ (ar d a) C dt) ab hm xH;have bB:=gt.len;have n9:=XP (l:=Ju (mG (cQ (sq (aQ (ar d a) C dt) (ar d a).pl (df (ar d a).d)) (ar d a).d.n)) (ar d a).d.n (lT (aQ (ar d a) C dt) (ar d a).pl) (UZ (aQ (ar d a) C dt) (ar d a).pl (aQ (ar d a) C dt).length)) λr hr=>by have:=(gt.rn r hr).1;omega
   have pe:=ay6 st (ps:=aQ (ar d a) C dt) ab g;have zG:pN (aQ (ar d a) C dt) (ar d a).pl (df (ar d a).d) (ar d a).d.n=az (Ju (mG (cQ (sq (aQ (ar d a) C dt) (ar d a).pl (df (ar d a).d)) (ar d a).d.n)) (ar d a).d.n (lT (aQ (ar d a) C dt) (ar d a).pl) (UZ (aQ (ar d a) C dt) (ar d a).pl (aQ (ar d a) C dt).length)):=by unfold pN qv;rw[if_neg hm]
   have h1:=azl (P:=Be (ar d a) C dt) (G:=λk=>(pN (aQ (ar d a) C dt) (ar d a).pl (df (ar d a).d) (ar d a).d.n)[k]?.getD 0) (m:=G8 (aQ (ar d a) C dt) (ar d a).pl) (λi hi=>by
    show CQ _ _ _ i=_;unfold CQ;rw[if_pos hi,YH]) 128
   have AQ:gy (G8 (aQ (ar d a) C dt) (ar d a).pl) 128=lT (aQ (ar d a) C dt) (ar d a).pl:=by
    unfold lT;rw[YH];refine am_ (λi hi=>?_) IH;unfold G8;cases h:jz (aQ (ar d a) C dt) i with
    |false=>rfl
    |true=>have:=wD h;omega
   rw[<-zG]at n9;rw[Cy,WW]at bB n9 pe h1;rw[Cy]at AQ;generalize pN (aQ (ar d a) C dt) (az a.rn.l) (df d) d.n=fr at*;rw[AQ]at h1;have ht:cQ (λk:Nat=>fr[k]?.getD 0) fr.length=fr:=by
    refine zba λi=>?_
    by_cases hi:i<fr.length
    ·rw[bO hi,zah hi];rfl
    ·rw[zaK kD,zaK ab]
   have hGb:∀k,-1<=(λk:Nat=>fr[k]?.getD 0) k:=λk=>by
    show-1<=fr[k]?.getD 0;cases h:fr[k]? with
    |none=>simp
    |some x=>have:=(pe.2.2 x (zag h)).1;simp only[zbA];omega
   have hrf:=(Xc hGb fr.length).1;rw[ht,pe.1]at hrf;have h5:=Ed (p:=λi=>decide (i=0)) (q:=λk=>decide (0<k)&&decide (¬zC (fr[k-1]?.getD 0) (fr[k]?.getD 0))) (n:=lT (aQ (ar d a) C dt) (az a.rn.l)) λi _ h=>by
    simp only[decide_eq_true_eq,zaU]at h;omega
   have h6:=xh (k:=0) (n:=lT (aQ (ar d a) C dt) (az a.rn.l));rw[Cy]at hm;rw[if_pos ab]at h6;have h7:gy (λi=>decide (i=0)||(decide (0<i)&&decide (¬zC (fr[i-1]?.getD 0) (fr[i]?.getD 0)))) (lT (aQ (ar d a) C dt) (az a.rn.l))<=gy (bR λk:Nat=>fr[k]?.getD 0) (lT (aQ (ar d a) C dt) (az a.rn.l)):=sk λi hi h=>by
    unfold bR;simp only[decide_eq_true_eq,zaU,zbE]at h ⊢;exact h.imp id λg=>g.2
   rw[Cy];omega
 have Yh:(IA (Cz (ar d a) C dt)).length<=64:=by
  show(IA (cQ (Be (ar d a) C dt) (aQ (ar d a) C dt).length)).length<=64;omega
 have IF:gu (Gv (ar d a) C v dt)=0:=by
  refine al_ s1 ?_ hC hv (λx hx=>?_) ?_ (by show(cQ _ _).length<=128;rw[ck];exact IH) Yh
  ·show a.ty=128;omega
  ·obtain⟨i,hi,rfl⟩:=zaX.1 hx;cases h:jz (aQ (ar d a) C dt) i with
   |false=>exact .inl (tT i h)
   |true=>
    have:=pl.yes i (wD h) h;right;unfold Be;rw[WW]at this rK;rw[WW];omega
  ·refine Xt λi j x hi hj hxx=>?_
   have iX:i<(aQ (ar d a) C dt).length:=by have:=(zaa.1 hi).1;rwa[show(Cz (ar d a) C dt).length=(aQ (ar d a) C dt).length from ck]at this
   have HQ:j<(aQ (ar d a) C dt).length:=by have:=(zaa.1 hj).1;rwa[show(Cz (ar d a) C dt).length=(aQ (ar d a) C dt).length from ck]at this
   unfold Cz at hi hj;rw[bO iX]at hi;rw[bO HQ]at hj;have hi:=Option.some.inj hi;have hj:=Option.some.inj hj;refine pl.inj i j iX HQ ?_ (by show Be (ar d a) C dt i=Be (ar d a) C dt j;omega);cases h:jz (aQ (ar d a) C dt) i with
   |true=>rfl
   |false=>have:=tT i h;omega
 rw[if_neg]
 ·decide
 ·rintro(h|h)
  ·omega
  ·exact h IF
def GX(a b:List UInt8)(i:Nat):ta (a++b) i=if i<a.length then ta a i else ta b (i-a.length):=by
 unfold ta
 grind
def L1(n i:Nat):ta (ai n) i=0:=by
 unfold ta ai
 grind
def sC(l:List UInt8)(n i:Nat):ta (l.take n) i=if i<n then ta l i else 0:=by
 unfold ta
 grind
def Fs(l:List UInt8)(n i:Nat):ta (l.drop n) i=ta l (n+i):=by
 unfold ta;simp
def Sq{l:List UInt8}{i:Nat}(h:l.length<=i):ta l i=0:=by
 unfold ta
 grind
def Xx(l:List UInt8)(n i:Nat):ta (mF l n) i=ta l i:=by
 unfold mF;rw[GX,L1];split
 ·rfl
 ·rw[Sq ab]
def apW{a b:List UInt8}(h:a.length=b.length)(g:∀i,i<a.length->ta a i=ta b i):a=b:=by
 refine Bi rfl h.symm λi hi=>?_
 have:=g i hi;unfold ta at this
 grind
def Py{C dat:List UInt8}{p:Nat}(i:Nat):ta (bW C p dat) i=if p<=i/\i<p+dat.length then ta dat (i-p)else ta C i:=by
 have hl:p+dat.length<=(mF C (p+dat.length)).length:=by unfold mF;rw[zad,aW];omega
 unfold bW;rw[GX,GX,zad,zal,show min p (mF C (p+dat.length)).length=p by omega,sC,Fs];by_cases h1:i<p
 ·rw[if_pos ab,if_pos h1,if_pos h1,if_neg ab,Xx]
 ·by_cases h2:i<p+dat.length
  ·grind
  ·rw[if_neg h2,if_neg ab,show p+dat.length+(i-(p+dat.length))=i by omega,Xx]
def Uv{C:List UInt8}{n:Nat}(i:Nat):ta (M9 C n) i=if i<n then ta C i else 0:=by
 unfold M9;rw[sC,Xx]
def auk{C:List UInt8}{f t:Nat}(h:f<=t/\t<=C.length)(i:Nat):ta (sD C f t) i=if f<=i/\i<t then 0 else ta C i:=by
 unfold sD;rw[GX,GX,zad,aW,sC,L1,Fs]
 grind
def aqc{a:At}{out:List UInt8}(h:0<=a.vd/\a.vd<=a.sz)(i:Nat):ta (nA a out) i=if (i:Int)<a.vd then ta out i else 0:=by
 unfold nA;rw[sC,Xx,sC]
 grind
def flat_get{α β:Type}{f:α->List β}{m:Nat}:∀{l:List α},(∀x∈l,(f x).length=m)→∀{i j:Nat},j<m->(l.flatMap f)[m*i+j]?=(l[i]?).bind λx=>(f x)[j]?
 |[],_,i,j,_=>by simp
 |x::l,h,0,j,hj=>by
  grind
 |x::l,h,i+1,j,hj=>by
  have ih:=flat_get (λy hy=>h y pT) (i:=i) hj (l:=l) (f:=f)
  grind
def auF{B:List UInt8}{l:List Int}(h:MH B l){i j:Nat}(hj:j<256)(hh:l[i]?.getD (-1)= -1):ta (rz B l) (256*i+j)=0:=by
 have hf:∀x∈l,(if x= -1 then ai 256 else eU B x.toNat).length=256:=λx hx=>by
  split
  ·exact aW 256
  ·rcases h x hx with g|g
   ·omega
   ·exact gI ab
 unfold ta rz;rw[flat_get hf hj];cases g:l[i]? with
 |none=>rfl
 |some x=>
  rw[g,zbA]at hh;rw[Option.bind_some,if_pos hh,LW hj];rfl
structure ajj(d:Dk)(a:At):Prop where
 sz:((aV (ar d a)).length:Int)=if a.rs=true then(a.vl.length:Int)else a.sz
 vd:0<=cG a/\cG a<=(aV (ar d a)).length
 z:∀i:Nat,cG a<=i->ta (aV (ar d a)) i=0
 hole:a.fl%2≠1→∀i,¬OS (ar d a) i→¬kG 0 a.vl.length i→∀j,j<256->ta (aV (ar d a)) (256*i+j)=0
 len:(aV (ar d a)).length<=32768
 fl:0<=a.fl/\a.fl<=2
def AD{a:At}(h:gu a=0):acN a:=by
 refine acN.of ?_;unfold gu at h;omega
def qo{d:Dk}{a:At}(h0:aK d a=0):ajj d a:=by
 obtain⟨ok,_⟩:=bc h0;obtain⟨s1,_⟩:=lE ok.str;have xu:=AD s1;have hl:=Jh ok;have Ja:cG a=if a.rs=true then(a.vl.length:Int)else a.vd:=rfl;cases c_:a.rs with
 |true=>
  have hc:aV (ar d a)=a.vl:=by unfold aV;rw[if_pos (show(ar d a).a.rs=true from c_)];rfl
  rw[c_,if_pos rfl]at Ja;refine⟨bf,bf,λi hi=>?_,λ_ i _ h2 j hj=>?_,hl,ok.fl⟩
  ·rw[hc];exact Sq ab
  ·rw[hc];refine Sq ?_;unfold kG at h2;omega
 |false=>
  have hc:aV (ar d a)=nA a (if a.fl%2=1 then ow d.a_ (chunks (az a.rn.l))else rz d.a_ (az a.rn.l)):=by unfold aV;rw[if_neg (show ¬(ar d a).a.rs=true from λh=>ai8)];rfl
  obtain⟨_,o2,_,_,_,o6,o7⟩:=xu.ot c_;have hsv:=o6.2;rw[c_,if_neg ao]at Ja;have hlen:=OO a (if a.fl%2=1 then ow d.a_ (chunks (az a.rn.l))else rz d.a_ (az a.rn.l));have hz:=aqc (a:=a) (out:=if a.fl%2=1 then ow d.a_ (chunks (az a.rn.l))else rz d.a_ (az a.rn.l)) ⟨ab,o7⟩;have mE:(aV (ar d a)).length=a.sz.toNat:=bf;refine⟨bf,ab,λi hi=>?_,λhf i h1 _ j hj=>?_,hl,ok.fl⟩
  ·grind
  ·rw[hc,hz,if_neg hf];rw[afa]at h1;have h1:=zcY.1 h1;rw[auF ok.pl hj h1];simp
def noT{f t:Int}{i j:Nat}(h:¬kG f t i)(hj:j<256):¬(f<=256*(i:Int)+j/\256*(i:Int)+j<t):=by
 unfold kG at h;omega
def aoc{d:Dk}{a:At}{p:Int}{dat:List UInt8}(hc:ajj d a)(hp:0<=p)(hl:p+dat.length<=32768):GZ (ar d a) (bW (aV (ar d a)) p.toNat dat) (max (cG a) (p+dat.length)) (b8 (ar d a) p (p+dat.length)):=by
 have h1:=hc.vd;have h2:=hc.len;have SL:=hc.fl;refine⟨by rw[xx];omega,by rw[xx];omega,λi hi=>?_,λhs i hn j hj=>?_⟩
 ·rw[Py,if_neg ab];exact hc.z i ab
 ·unfold b8 at hn;simp only[not_or]at hn;obtain⟨n1,n2,n3⟩:=hn;have:=noT n2 hj;rw[Py,if_neg ab];have e:(ar d a).a=a:=rfl;rw[e]at hs;exact hc.hole ab i n1 n3 j hj
def anp{d:Dk}{a:At}{n:Int}(hc:ajj d a)(hn:0<=n/\n<=32768):GZ (ar d a) (M9 (aV (ar d a)) n.toNat) (min (cG a) n) (Yk (ar d a)):=by
 have h1:=hc.vd;have SL:=hc.fl;refine⟨by rw[Ag];omega,by rw[Ag];omega,λi hi=>?_,λhs i hn j hj=>?_⟩
 ·rw[Uv];split
  ·exact hc.z i ab
  ·rfl
 ·unfold Yk at hn;simp only[not_or]at hn;have e:(ar d a).a=a:=rfl;rw[e]at hs;rw[Uv,hc.hole ab i hn.1 hn.2 j hj];simp
def ay1{d:Dk}{a:At}{p n:Int}(hp:0<=p)(hn:0<=n):(dz (aV (ar d a)) p).toNat<=(dX (aV (ar d a)) p n).toNat/\(dX (aV (ar d a)) p n).toNat<=(aV (ar d a)).length/\0<=dz (aV (ar d a)) p/\0<=dX (aV (ar d a)) p n:=by
 unfold dX dz;omega
def aFf{d:Dk}{a:At}{p n:Int}(hc:ajj d a)(c_:a.rs=false)(hp:0<=p)(hn:0<=n)(Ja:a.vl=[]):GZ (ar d a) (QC d a p n) a.vd (ju d a p n):=by
 have h1:=hc.vd;have h2:=hc.len;have SL:=hc.fl;obtain⟨f1,f2,f3,f4⟩:=ay1 (d:=d) (a:=a) hp hn;have hl:(QC d a p n).length=(aV (ar d a)).length:=Xa ⟨f1,f2⟩;have hv:cG a=a.vd:=by unfold cG;grind
 have hz:=auk (C:=aV (ar d a)) ⟨f1,f2⟩;refine⟨ab,ab,λi hi=>?_,λhs i uj j hj=>?_⟩
 ·show ta (sD _ _ _) i=0;rw[hz];split
  ·rfl
  ·exact hc.z i ab
 ·have e:(ar d a).a=a:=rfl;rw[e]at hs;show ta (sD _ _ _) _=0;rw[hz];split
  ·rfl
  ·rename_i g;by_cases hd:OS (ar d a) i
   ·have hcv:=Classical.byContradiction λhcv=>uj ⟨hd,hcv⟩
    unfold Cj at hcv;exact Sq ab
   ·refine hc.hole ab i hd ?_ j hj;rw[Ja];unfold kG
    grind
def Yg{P:Nat->Prop}{lo hi:Nat}(h:∀i,P i↔(lo<=i/\i<hi)){i:Nat}(h0:1<=i)(h1:i≠lo)(h2:i≠hi):P (i-1)↔P i:=by
 grind
def T4{f t:Int}(hf:0<=f)(ht:0<=t)(i:Nat):kG f t i↔(((f/256).toNat<=i/\i<(if f<t then((t+255)/256).toNat else 0))):=by
 unfold kG
 grind
def aEU{d:Dk}{a:At}{f t:Int}(hf:0<=f)(ht:0<=t):ahC (ar d a) (b8 (ar d a) f t):=by
 intro _;refine⟨[(f/256).toNat,if f<t then((t+255)/256).toNat else 0,((0:Int)/256).toNat,if (0:Int)<a.vl.length then(((a.vl.length:Int)+255)/256).toNat else 0],aj,λi h1 hi=>?_⟩;simp only[zaw,zb9,or_false,not_or]at hi;obtain⟨n1,n2,n3,n4⟩:=hi;have g1:=Yg (T4 hf ht) h1 n1 n2;have g2:=Yg (T4 (f:=0) (t:=a.vl.length) ab ab) h1 n3 n4;have e:(ar d a).a.vl=a.vl:=rfl;unfold b8
 grind
def aFF{d:Dk}{a:At}:ahC (ar d a) (Yk (ar d a)):=by
 intro _;refine⟨[((0:Int)/256).toNat,if (0:Int)<a.vl.length then(((a.vl.length:Int)+255)/256).toNat else 0],aj,λi h1 hi=>?_⟩;simp only[zaw,zb9,or_false,not_or]at hi;obtain⟨n3,n4⟩:=hi;have g2:=Yg (T4 (f:=0) (t:=a.vl.length) ab ab) h1 n3 n4;have e:(ar d a).a.vl=a.vl:=rfl;unfold Yk
 grind
def aeI{f t e:Int}(hf:0<=f)(ht:0<=t)(i:Nat):Cj f t i e↔((((f+255)/256).toNat<=i/\(e<=t\/i<(t/256).toNat))):=by
 unfold Cj;omega
def aFj{d:Dk}{a:At}{f t:Int}{n:Nat}(hf:0<=f)(ht:0<=t):ahC (ar d a) (yN (ar d a) f t n):=by
 intro _;refine⟨[((f+255)/256).toNat,(t/256).toNat],aj,λi h1 hi=>?_⟩;simp only[zaw,zb9,or_false,not_or]at hi;have g:Cj f t (i-1:Nat) n↔Cj f t i n:=by
  rw[aeI hf ht,aeI hf ht];omega
 unfold yN
 grind
section
structure rL(d e:Dk)(a b:At)(C:List UInt8)(v:Int)(rs:Bool):Prop where
 op:aK e b=0
 su:adv d e a b
 fN:aV (ar e b)=C
 rs:b.rs=rs
 vd:b.rs=false->b.vd=v
 ty:b.ty=a.ty
 nm:b.nm=a.nm
 id:b.id=a.id
 fl:b.fl=a.fl
def Ny(d:Dk)(a:At)(e k:Int):Prop:=(e=8/\(16<a.rn.l.length\/16<(nG d.mp d.n).length))\/(e=16/\(d.n:Int)-oF d.mp d.n+(tV (az a.rn.l)).length<k)
def Ns(a:At)(n:Int)(l:List Bool):Int:=if a.fl%2=1 then 16*((n+4095)/4096)else if a.fl/2%2=1 then RF l else(n+255)/256
def Yt{a:At}(hr:a.rs=true):(T5 a).length=B5 (B5 (24+a.nm.length)+a.vl.length):=by
 have h1:=i_ (24+a.nm.length);have h2:=i_ (B5 (24+a.nm.length)+a.vl.length);have e3:uH a=24:=by unfold uH;rw[hr];rfl
 have e1:l8 a=B5 (24+a.nm.length):=by unfold l8;rw[e3]
 have e4:N8 a=a.vl:=by unfold N8;rw[hr];rfl
 have e2:Tk a=B5 (B5 (24+a.nm.length)+a.vl.length):=by unfold Tk;rw[e1,e4]
 have hf:(aso a).length=24:=by
  unfold aso atW;rw[hr];simp only[zad,gL,if_true]
 unfold T5;rw[zad,zad,zad,zad,hf,bE,bE,e2,e1,e3,e4];omega
def awG{a:At}{C:List UInt8}(h:gu a=0)(hC:C.length<=200\/(a.rs=true/\C.length=a.vl.length)):gu (Hx a C)=0:=by
 have ok:=AD h;have hl:C.length<=400:=by
  rcases hC with h|⟨h1,h2⟩
  ·omega
  ·have:=(ok.rs h1).2.2;omega
 have hk:Iv (Hx a C)=0:=by
  show Hy (Hx a C)=0;unfold Hy;rw[if_neg,if_neg]
  ·show ¬400<C.length;omega
  ·exact λh=>h ⟨rfl,rfl,rfl,rfl,rfl⟩
 have hw:(T5 (Hx a C)).length<=440:=by
  rw[Yt rfl];show B5 (B5 (24+a.nm.length)+C.length)<=440;rcases hC with g|⟨g1,g2⟩
  ·have h1:=i_ (24+a.nm.length);have h2:=i_ (B5 (24+a.nm.length)+C.length);have hn:=ok.DL;omega
  ·rw[g2,<-Yt g1];unfold gu at h;split at h
   ·rename_i q;exact absurd h q
   split at h
   ·cases h
   ·omega
 unfold gu;rw[if_neg,if_neg ab];refine λh=>h ?_
 unfold TI;rw[if_neg,if_neg,if_neg,hk]
 ·exact λh=>h ok.idf
 ·exact λh=>h ok.nm
 ·exact λh=>h ok.S3
def aiu{d e:Dk}{a:At}{C:List UInt8}(h0:aK d a=0)(he:gm e=0)(hC:C.length<=200\/(a.rs=true/\C.length=a.vl.length)):aK e (Hx a C)=0:=by
 obtain⟨ok,_⟩:=bc h0;obtain⟨s1,s2,s3,s4,s5⟩:=lE ok.str;have hs:oT (Hx a C)=0:=by
  unfold oT;rw[awG s1 hC,if_neg aj,if_neg,if_neg,if_neg]
  ·show ¬32768<(0:Int);omega
  ·show ¬(0:Int)≠0;simp
  ·show ¬(a.ty≠128\/4<=a.fl\/a.fl=3);omega
 unfold aK;rw[he,hs];rfl
def aeo{d:Dk}{a:At}{C:List UInt8}{v:Int}(h0:aK d a=0)(hr:a.rs=true)(hC:C.length<=200\/(a.rs=true/\C.length=a.vl.length)):rL d d a (Hx a C) C v true:=by
 obtain⟨ok,_⟩:=bc h0;have lF:=(ok.res hr).1;refine⟨aiu h0 ok.dk hC,⟨⟨rfl,ok.dk⟩,λc hc=>?_⟩,rfl,rfl,(λh=>bV),rfl,rfl,rfl,rfl⟩;rw[lF];show E0 d d (tV (az [])) (tV (az [])) c;have e:tV (az [])=[]:=rfl;rw[e];unfold E0;simp
section
variable {d:Dk} {a:At} {C:List UInt8} {v:Int} {dt:Nat->Prop}
def aiI(h0:aK d a=0)(hd:wU d)(hn:a.nm.length<=1000000)(hc:GZ (ar d a) C v dt)(he:Md (ar d a) C v dt=0):rL d (XY (ar d a) C dt) a (Gv (ar d a) C v dt) C v false:=by
 have hm:=Xo h0 hd hn hc he;exact⟨hm.op,atm hm,hm.fN,rfl,λ_=>rfl,rfl,rfl,rfl,rfl⟩
def akg(h0:aK d a=0)(hd:wU d)(hn:a.nm.length<=1000000)(hc:GZ (ar d a) C v dt)(he:DJ (ar d a) C v dt=0):
 rL d (lQ (ar d a) C v dt) a (jK (ar d a) C v dt) C v (decide (a.rs=true/\C.length<=200)):=by
 have e1:(ar d a).a=a:=rfl;unfold DJ at he;unfold lQ jK;rw[e1]at he ⊢;by_cases h:a.rs=true/\C.length<=200
 ·rw[if_pos h,if_pos h,decide_eq_true h];exact aeo h0 h.1 (.inl h.2)
 ·rw[if_neg h]at he;rw[if_neg h,if_neg h,decide_eq_false h,if_pos he,if_pos he];exact aiI h0 hd hn hc he
def atg(h0:aK d a=0)(hd:wU d)(hn:a.nm.length<=1000000)(hc:GZ (ar d a) C v dt)(PE:ahC (ar d a) dt)(he:Md (ar d a) C v dt≠0){k:Int}(hk:(aoK (aQ (ar d a) C dt):Int)<=k):Ny d a (Md (ar d a) C v dt) k:=by
 have qG:=sK (ar d a) C dt;have mE:=hc.len;have IH:(aQ (ar d a) C dt).length<=1000:=bf;have xp:Md (ar d a) C v dt=8->16<a.rn.l.length\/16<(nG d.mp d.n).length:=λh=>by
  by_cases g:a.rn.l.length<=16/\(nG d.mp d.n).length<=16
  ·exact absurd h (auH h0 hd hn hc PE g.1 g.2)
  ·omega
 have hfu:=abK h0 hd hn IH;by_cases h8:Md (ar d a) C v dt=8
 ·exact .inl ⟨h8,xp h8⟩
 ·right;unfold Md at he h8 ⊢;split at he
  ·rename_i g;rw[if_pos g]at h8 ⊢;rcases hfu g with⟨g1,g2⟩|⟨g1,g2⟩
   ·refine⟨g1,?_⟩;rw[Lc];omega
   trivial
  omega
def auO(h0:aK d a=0)(hd:wU d)(hn:a.nm.length<=1000000)(hc:GZ (ar d a) C v dt)(PE:ahC (ar d a) dt)(he:DJ (ar d a) C v dt≠0){k:Int}(hk:(aoK (aQ (ar d a) C dt):Int)<=k):
 ¬(a.rs=true/\C.length<=200)/\Ny d a (DJ (ar d a) C v dt) k/\lQ (ar d a) C v dt=zD/\jK (ar d a) C v dt=zA:=by
 unfold DJ at he ⊢;unfold lQ jK;split at he
 ·omega
 ·rename_i h;rw[if_neg h,if_neg h,if_neg h,if_neg he,if_neg he];exact⟨h,atg h0 hd hn hc PE he hk,rfl,rfl⟩
def ar0(f:Nat->Bool)(n:Nat):RF ((List.range n).map f)=gy f n:=by
 induction n with
 |zero=>rfl
 |succ n ih=>
  rw[zdi,cJ,<-ih];unfold RF;simp
def F9(n:Int):Iy n 256=(n+255)/256:=Cl
def akW{l:List Bool}(hl:a.fl%2≠1->a.fl/2%2=1→∃f,l=(List.range ((C.length+255)/256)).map f∧∀i,i<(C.length+255)/256->dt i->f i=true):(aoK (aQ (ar d a) C dt):Int)<=Ns a C.length l:=by
 have qG:=sK (ar d a) C dt;have e1:(ar d a).a=a:=rfl;rw[e1]at qG;have h1:=ak5 (jz (aQ (ar d a) C dt)) (aQ (ar d a) C dt).length;unfold Ns aoK;by_cases h:a.fl%2=1
 ·grind
 ·rw[if_neg h]at qG ⊢;split
  ·rename_i g;obtain⟨f,rfl,hf⟩:=hl h g;rw[ar0,qG];have:=sk (p:=jz (aQ (ar d a) C dt)) (q:=f) (n:=(C.length+255)/256) λi hi cb=>hf i hi (((Pb (C:=C) (dt:=dt) (s:=ar d a) h).1 cb).2 g)
   omega
  ·omega
def Y7(h0:aK d a=0)(hd:wU d)(hn:a.nm.length<=1000000)(hc:GZ (ar d a) C v dt)(he:Md (ar d a) C v dt=0)(h1:¬a.fl%2=1)(h2:a.fl/2%2=1){f:Nat->Bool}(hf:∀i,i<(C.length+255)/256->(f i=true↔dt i)):
 (az (Gv (ar d a) C v dt).rn.l).map (λx=>decide (x≠ -1))=(List.range ((C.length+255)/256)).map f:=by
 have hm:=Xo h0 hd hn hc he;have qG:=sK (ar d a) C dt;have e1:(ar d a).a=a:=rfl;rw[e1,if_neg h1]at qG;rw[hm.plc];unfold Cz cQ;rw[qG,List.map_map];refine zbC λi hi=>?_
 have hi:=zbm.1 hi;have hr:=Pb (C:=C) (dt:=dt) (s:=ar d a) h1 (i:=i);show decide (Be (ar d a) C dt i≠ -1)=f i;rw[zaN,decide_eq_true_eq,hf i hi];constructor
 ·intro g;cases cb:jz (aQ (ar d a) C dt) i with
  |false=>exact absurd (hm.pl.no i cb) g
  |true=>grind
 ·intro g;have:=hm.pl.yes i ab (hr.2 ⟨hi,λ_=>g⟩);omega
end
def Rr(a:At)(f t:Int)(n:Nat):nJ a f t n=(List.range ((n+255)/256)).map (QT a f t):=by
 unfold nJ;rw[F9,show(((n:Int)+255)/256).toNat=(n+255)/256 by omega]
def af8{d:Dk}{a:At}{i:Nat}:Jc (az a.rn.l) i=true↔OS (ar d a) i:=by
 rw[afa];unfold Jc NZ;show _↔(az a.rn.l)[i]?.getD (-1)≠ -1;simp
def aua{d:Dk}{a:At}(h0:aK d a=0){f t:Int}(n7:f<t)(i:Nat):QT a f t i=true↔b8 (ar d a) f t i:=by
 obtain⟨ok,_⟩:=bc h0;obtain⟨s1,_⟩:=lE ok.str;have xu:=AD s1;unfold QT b8 kG;rw[zbE,zaU,decide_eq_true_eq];have e:(ar d a).a.vl=a.vl:=rfl;rw[e];cases c_:a.rs with
 |true=>
  have hh:¬OS (ar d a) i:=by
   rw[<-af8,(ok.res c_).1];unfold Jc;simp[az]
  grind
 |false=>
  have hv:=(xu.ot c_).2.1;rw[if_neg ao,af8 (d:=d)]
  grind
def afJ{d:Dk}{a:At}(h0:aK d a=0)(i:Nat):QT a 0 0 i=true↔Yk (ar d a) i:=by
 obtain⟨ok,_⟩:=bc h0;obtain⟨s1,_⟩:=lE ok.str;have xu:=AD s1;unfold QT Yk kG;rw[zbE,zaU];have e:(ar d a).a.vl=a.vl:=rfl;cases c_:a.rs with
 |true=>
  have hh:¬OS (ar d a) i:=by
   rw[<-af8,(ok.res c_).1];unfold Jc;simp[az]
  grind
 |false=>
  have hv:=(xu.ot c_).2.1;rw[if_neg ao,af8 (d:=d)]
  grind
end
def anN{s b:List UInt8}{p:Nat}(h:p+b.length<=s.length)(i:Nat):ta (We s p b) i=if p<=i/\i<p+b.length then ta b (i-p)else ta s i:=by
 unfold We;rw[GX,GX,sC,Fs]
 grind
def Hq{C dat:List UInt8}{p:Nat}(h:dat≠[]):yr C p dat=bW C p dat:=by
 have hl:(M9 C (max C.length (p+dat.length))).length=max C.length (p+dat.length):=Ag _ _;unfold yr;rw[if_neg h];refine apW (by rw[Yn ab,hl,xx]) λi hi=>?_
 rw[anN ab,Py,Uv];rw[Yn ab]at hi
 grind
def aAy{C:List UInt8}{p n:Int}(hp:0<=p)(hn:0<=n):PY C p n=sD C (dz C p).toNat (dX C p n).toNat:=by
 have hz:(ai (min (p+n) (C.length:Int)-min p (C.length:Int)).toNat).length=(min (p+n) (C.length:Int)-min p (C.length:Int)).toNat:=aW _;have n7:(dz C p).toNat<=(dX C p n).toNat/\(dX C p n).toNat<=C.length:=by unfold dX dz;omega
 unfold PY;refine apW (by rw[Yn ab,Xa n7]) λi hi=>?_
 rw[anN ab,auk n7,L1];unfold dX dz
 grind
def cf(a:At):Int:=if a.rs=true then a.vl.length else a.sz
def xV{d:Dk}{a:At}(hc:ajj d a):((aV (ar d a)).length:Int)=cf a:=hc.sz
def aah{d:Dk}{a:At}(h0:aK d a=0):(a.fl/2%2=1→¬a.fl%2=1):=by
 obtain⟨ok,_⟩:=bc h0;have:=ok.fl;omega
structure WrL(d:Dk)(a:At)(p:Int)(dat:List UInt8):Prop where
 ok:AO d a p dat=0->rL d (zM d a p dat) a (yV d a p dat) (yr (aV (ar d a)) p.toNat dat) (max (cG a) (p+dat.length)) (decide (a.rs=true/\max (cf a) (p+dat.length)<=200))/\
  (¬(a.rs=true/\max (cf a) (p+dat.length)<=200)->a.fl/2%2=1->(az (yV d a p dat).rn.l).map (λx=>decide (x≠ -1))=nJ a p (p+dat.length) (max (cf a) (p+dat.length)))
 er:AO d a p dat≠0→¬(a.rs=true/\max (cf a) (p+dat.length)<=200)/\zM d a p dat=zD/\yV d a p dat=zA/\Ny d a (AO d a p dat) (Ns a (max (cf a) (p+dat.length)) (nJ a p (p+dat.length) (max (cf a) (p+dat.length))))
def Uz{d:Dk}{a:At}{p:Int}{dat:List UInt8}(h0:aK d a=0)(hd:wU d)(hn:a.nm.length<=1000000)(hp:0<=p)(hl:p+dat.length<=32768)(cb:dat≠[]):WrL d a p dat:=by
 have hc:=qo h0;have Gq:=zcb.2 cb;have UH:=aoc hc hp hl;have PE:=aEU (d:=d) (a:=a) (f:=p) (t:=p+dat.length) hp ab;have Gy:yE d a p dat=0:=by unfold yE iU;omega
 have hE:AO d a p dat=DJ (ar d a) (bW (aV (ar d a)) p.toNat dat) (max (cG a) (p+dat.length)) (b8 (ar d a) p (p+dat.length)):=by unfold AO;grind
 have hD:zM d a p dat=lQ (ar d a) (bW (aV (ar d a)) p.toNat dat) (max (cG a) (p+dat.length)) (b8 (ar d a) p (p+dat.length)):=by unfold zM;grind
 have hA:yV d a p dat=jK (ar d a) (bW (aV (ar d a)) p.toNat dat) (max (cG a) (p+dat.length)) (b8 (ar d a) p (p+dat.length)):=by unfold yV;grind
 have hlen:=xx (aV (ar d a)) p.toNat dat;have mD:=xV hc;have hS:((bW (aV (ar d a)) p.toNat dat).length:Int)=max (cf a) (p+dat.length):=ab;have zl:(a.rs=true/\(bW (aV (ar d a)) p.toNat dat).length<=200)↔(a.rs=true/\max (cf a) (p+dat.length)<=200):=by
  grind
 have qY:=aah h0;refine⟨λhe=>?_,λhe=>?_⟩
 ·rw[hE]at he;rw[hD,hA,Hq cb];refine⟨?_,λhr hs=>?_⟩
  ·have:=akg h0 hd hn UH he
   grind
  ·have e1:(ar d a).a=a:=rfl;have CW:=λh=>hr (zl.1 h)
   have qN:Md (ar d a) (bW (aV (ar d a)) p.toNat dat) (max (cG a) (p+dat.length)) (b8 (ar d a) p (p+dat.length))=0:=by
    unfold DJ at he
    grind
   unfold jK;rw[e1,if_neg CW,if_pos qN,<-hS,Rr];exact Y7 h0 hd hn UH qN (qY hs) hs λi _=>aua h0 ab i
 ·rw[hE]at he;rw[hD,hA,hE,<-hS];have hk:=akW (d:=d) (a:=a) (C:=bW (aV (ar d a)) p.toNat dat) (dt:=b8 (ar d a) p (p+dat.length)) (l:=nJ a p (p+dat.length) ((bW (aV (ar d a)) p.toNat dat).length:Nat)) λg1 g2=>⟨_,Rr _ _ _ _,λi _ h=>(aua h0 ab i).2 h⟩
  obtain⟨r1,r2,r3,r4⟩:=auO h0 hd hn UH PE he hk
  grind
structure SzL(d:Dk)(a:At)(n:Int):Prop where
 ok:Jb d a n=0->rL d (Jf d a n) a (LA d a n) (M9 (aV (ar d a)) n.toNat) (min (cG a) n) (decide (a.rs=true/\n<=200))/\
  (¬(a.rs=true/\n<=200)->a.fl/2%2=1->(az (LA d a n).rn.l).map (λx=>decide (x≠ -1))=nJ a 0 0 n)
 er:Jb d a n≠0→¬(a.rs=true/\n<=200)/\Jf d a n=zD/\LA d a n=zA/\Ny d a (Jb d a n) (Ns a n (nJ a 0 0 n))
def af3{d:Dk}{a:At}{n:Int}(h0:aK d a=0)(hd:wU d)(hn:a.nm.length<=1000000)(hp:0<=n/\n<=32768):SzL d a n:=by
 have hc:=qo h0;have UH:=anp hc hp;have PE:=aFF (d:=d) (a:=a);have Gy:D8 d a n=0:=by unfold D8 iU;omega
 have hE:Jb d a n=DJ (ar d a) (M9 (aV (ar d a)) n.toNat) (min (cG a) n) (Yk (ar d a)):=by unfold Jb;omega
 have hD:Jf d a n=lQ (ar d a) (M9 (aV (ar d a)) n.toNat) (min (cG a) n) (Yk (ar d a)):=by unfold Jf;grind
 have hA:LA d a n=jK (ar d a) (M9 (aV (ar d a)) n.toNat) (min (cG a) n) (Yk (ar d a)):=by unfold LA;grind
 have hlen:=Ag (aV (ar d a)) n.toNat;have hS:((M9 (aV (ar d a)) n.toNat).length:Int)=n:=ab;have zl:(a.rs=true/\(M9 (aV (ar d a)) n.toNat).length<=200)↔(a.rs=true/\n<=200):=and_congr_right λ_=>ab
 have qY:=aah h0;refine⟨λhe=>?_,λhe=>?_⟩
 ·rw[hE]at he;rw[hD,hA];refine⟨?_,λhr hs=>?_⟩
  ·have:=akg h0 hd hn UH he
   grind
  ·have e1:(ar d a).a=a:=rfl;have CW:=λh=>hr (zl.1 h)
   have qN:Md (ar d a) (M9 (aV (ar d a)) n.toNat) (min (cG a) n) (Yk (ar d a))=0:=by
    unfold DJ at he
    grind
   unfold jK;rw[e1,if_neg CW,if_pos qN];have h5:=Y7 h0 hd hn UH qN (qY hs) hs (f:=QT a 0 0) λi _=>afJ h0 i
   rw[h5,<-Rr,hS]
 ·rw[hE]at he;rw[hD,hA,hE];have hk:=akW (d:=d) (a:=a) (C:=M9 (aV (ar d a)) n.toNat) (dt:=Yk (ar d a)) (l:=nJ a 0 0 ((M9 (aV (ar d a)) n.toNat).length:Nat)) λg1 g2=>⟨_,Rr _ _ _ _,λi _ h=>(afJ h0 i).2 h⟩
  rw[hS]at hk;obtain⟨r1,r2,r3,r4⟩:=auO h0 hd hn UH PE he hk
  grind
def ax9{d:Dk}{a:At}{C:List UInt8}{v:Int}{dt:Nat->Prop}(h0:aK d a=0)(hd:wU d)(hn:a.nm.length<=1000000)(c_:a.rs=false)(h1:¬a.fl%2=1)(h2:¬a.fl/2%2=1)(UH:GZ (ar d a) C v dt)(hC:(C.length:Int)=a.sz):Md (ar d a) C v dt=0:=by
 obtain⟨ok,oo⟩:=bc h0;obtain⟨_,yB,_⟩:=oo c_;obtain⟨s1,s2,s3,s4,s5⟩:=lE ok.str;have st:=ok.st hd hn;have Es:yw (az a.rn.l):=u0 ok.rn;have hb:=X6 st;have rK:=st.n;have hlen:=st.len;have Cy:(ar d a).pl=az a.rn.l:=rfl;have e1:(ar d a).a=a:=rfl;have WW:(ar d a).d=d:=rfl;rw[Cy]at hb hlen;rw[WW]at hb rK;unfold lJ at yB;rw[if_neg h1]at yB;obtain⟨_,hl,hu⟩:=yB;have hu:=Yu.1 (hu.resolve_left h2);have qG:=sK (ar d a) C dt;rw[e1,if_neg h1]at qG;have hpp:(aQ (ar d a) C dt).length=(az a.rn.l).length:=by rw[qG];omega
 have cb:∀i,jz (aQ (ar d a) C dt) i=true↔i<(az a.rn.l).length:=λi=>by
  rw[Pb (by rw[e1];exact h1),<-hpp,qG];exact⟨λg=>g.1,λg=>⟨g,λh=>absurd h h2⟩⟩
 have sQ:∀i,i<(az a.rn.l).length->(az a.rn.l)[i]?=some (nD (aQ (ar d a) C dt) (az a.rn.l) i)/\nD (aQ (ar d a) C dt) (az a.rn.l) i≠ -1:=λi hi=>by
  have hx:(az a.rn.l)[i]?=some (az a.rn.l)[i]:=zah hi;unfold nD;rw[if_pos ((cb i).2 hi),hx,zbA];exact⟨rfl,hu _ (zag hx)⟩
 have fq:∀i,G8 (aQ (ar d a) C dt) (az a.rn.l) i=false:=λi=>by
  unfold G8;cases h:jz (aQ (ar d a) C dt) i with
  |false=>rfl
  |true=>simp[(sQ i ((cb i).1 h)).2]
 have hmi:lT (aQ (ar d a) C dt) (az a.rn.l)=0:=by
  unfold lT;rw[YH];exact Bn λi _=>fq i
 have hL:Cz (ar d a) C dt=az a.rn.l:=by
  unfold Cz;refine zba λi=>?_
  by_cases hi:i<(az a.rn.l).length
  ·rw[bO ab];unfold Be CQ;rw[Cy,fq i,if_neg ao];exact(sQ i hi).1.symm
  ·rw[zaK kD,zaK ab]
 have HH:=XP (l:=a.rn.l) λr hr=>by
  have:=(bZ ok.rn).2.2.2 r hr;unfold jZ at this;split at this<;>omega
 have iG:=(bZ ok.rn).1;have hv:=UH.vb;have IF:gu (Gv (ar d a) C v dt)=0:=by
  refine al_ s1 s2 UH.len hv (λx hx=>?_) (by rw[hL];exact Es) (by rw[hL];exact hlen) (by rw[hL];omega);rw[hL]at hx;have:=hb x hx;omega
 unfold Md;rw[if_neg,if_neg]
 ·rw[hL];rintro(g|g)
  ·omega
  ·exact g IF
 ·unfold w_;rw[Cy,if_pos hmi];exact λh=>h rfl
def zrL(a:At)(p n:Int):List Bool:=(List.range (((cf a).toNat+255)/256)).map λi=>QT a 0 0 i&&!(decide (p<=(i:Int)*256)&&decide (min (((i:Int)+1)*256) (cf a)<=p+n))
structure ZrL(d:Dk)(a:At)(p n:Int):Prop where
 ok:jm d a p n=0->rL d (jU d a p n) a (js d a p n) (PY (aV (ar d a)) p n) (cG a) a.rs/\
  (a.rs=false->a.fl/2%2=1->(az (js d a p n).rn.l).map (λx=>decide (x≠ -1))=zrL a p n)
 er:jm d a p n≠0->(a.rs=false/\(a.fl%2=1\/a.fl/2%2=1))/\jU d a p n=zD/\js d a p n=zA/\Ny d a (jm d a p n) (Ns a (cf a) (nJ a 0 0 (cf a)))
def aCh{d:Dk}{a:At}{p n:Int}(h0:aK d a=0)(hd:wU d)(hn:a.nm.length<=1000000)(hp:0<=p/\p<=32768)(Cw:0<=n/\n<=32768):ZrL d a p n:=by
 have hc:=qo h0;obtain⟨ok,oo⟩:=bc h0;obtain⟨s1,_⟩:=lE ok.str;have xu:=AD s1;obtain⟨f1,f2,f3,f4⟩:=ay1 (d:=d) (a:=a) hp.1 Cw.1;have Gy:KF d a p n=0:=by unfold KF iU;omega
 have hE:jm d a p n=if a.rs=true then 0 else Md (ar d a) (QC d a p n) a.vd (ju d a p n):=by unfold jm;omega
 have hD:jU d a p n=if a.rs=true then d else if Md (ar d a) (QC d a p n) a.vd (ju d a p n)=0 then XY (ar d a) (QC d a p n) (ju d a p n)else zD:=by unfold jU;grind
 have hA:js d a p n=if a.rs=true then Hx a (QC d a p n)else if Md (ar d a) (QC d a p n) a.vd (ju d a p n)=0 then Gv (ar d a) (QC d a p n) a.vd (ju d a p n)else zA:=by unfold js;grind
 have hlen:(QC d a p n).length=(aV (ar d a)).length:=Xa ⟨f1,f2⟩;have mD:=xV hc;have hN:QC d a p n=PY (aV (ar d a)) p n:=(aAy hp.1 Cw.1).symm;have qY:=aah h0;cases c_:a.rs with
 |true=>
  rw[c_,if_pos rfl]at hE hD hA;refine⟨λ_=>⟨?_,λh=>bf⟩,λhe=>absurd hE he⟩;rw[hD,hA,<-hN,c_];refine aeo h0 c_ (.inr ⟨c_,?_⟩);have h5:cf a=a.vl.length:=by unfold cf;grind
  omega
 |false=>
  rw[c_,if_neg ao]at hE hD hA;have Ja:=(xu.ot c_).2.1;have UH:=aFf (d:=d) (a:=a) hc c_ hp.1 Cw.1 Ja;have PE:ahC (ar d a) (ju d a p n):=aFj f3 f4;have hv:cG a=a.vd:=by unfold cG;grind
  have hS:((QC d a p n).length:Int)=cf a:=ab;refine⟨λhe=>?_,λhe=>?_⟩
  ·rw[hE]at he;rw[if_pos he]at hD hA;rw[hD,hA,<-hN,hv,c_];refine⟨aiI h0 hd hn UH he,λ_ hs=>?_⟩;have h5:=Y7 h0 hd hn UH he (qY hs) hs (f:=λi=>QT a 0 0 i&&!(decide (p<=(i:Int)*256)&&decide (min (((i:Int)+1)*256) (cf a)<=p+n))) λi hi=>by
    rw[zaU,afJ h0,zbs,Bool.and_eq_false_iff,decide_eq_false_iff_not,decide_eq_false_iff_not];unfold ju yN Yk Cj;have e:(ar d a).a.vl=a.vl:=rfl;rw[e,Ja];have e2:¬kG 0 (([]:List UInt8).length:Nat) i:=by unfold kG;grind
    have hsi:256*(i:Int)<cf a:=ab;unfold dz dX;unfold dz
    grind
   rw[h5];unfold zrL
   grind
  ·rw[hE]at he;rw[if_neg he]at hD hA;rw[hD,hA,hE];have hk:=akW (d:=d) (a:=a) (C:=QC d a p n) (dt:=ju d a p n) (l:=nJ a 0 0 ((QC d a p n).length:Nat)) λg1 g2=>⟨_,Rr _ _ _ _,λi _ h=>(afJ h0 i).2 (.inl h.1)⟩
   rw[hS]at hk;refine⟨⟨c_,?_⟩,rfl,rfl,atg h0 hd hn UH PE he hk⟩;refine Classical.byContradiction λqG=>?_
   have HO:cf a=a.sz:=by unfold cf;grind
   exact he (ax9 h0 hd hn c_ (λh=>qG (.inl h)) (λh=>qG (.inr h)) UH ab)
def kU(d:Dk)(a:At):aK d (aB a)=aK d a:=FB
def Hm(d:Dk)(a:At):aV (ar d (aB a))=aV (ar d a):=FB
def auD{y:PV}(h:∃zs,y=.agg zs/\ou [.int .i64,.str,.int .i64,.int .i64,.bool,.str,.int .i64,.sl true [.int .i64,.int .i64],.int .i64,.int .i64,.int .i64] zs):∃a:At,y=a.pv:=by
 obtain⟨zs,rfl,h⟩:=h;simp only[ou,O1]at h;obtain⟨_,_,rfl,⟨ty,rfl,_⟩,_,_,rfl,⟨nm,rfl,_⟩,_,_,rfl,⟨id,rfl,_⟩,_,_,rfl,⟨fl,rfl,_⟩,_,_,rfl,⟨rs,rfl⟩,_,_,rfl,⟨vl,rfl,_⟩,_,_,rfl,⟨ft,rfl,_⟩,_,_,rfl,⟨aC,rfl,_,he⟩,_,_,rfl,⟨al,rfl,_⟩,_,_,rfl,⟨sz,rfl,_⟩,_,_,rfl,⟨vd,rfl,_⟩,rfl⟩:=h;obtain⟨l,rfl,_⟩:=awZ (g:=Rn.pv) (q:=λ_=>True) λz hz=>by
  obtain⟨zs,rfl,y,ys,rfl,⟨a,rfl,_⟩,y2,ys2,rfl,⟨b,rfl,_⟩,rfl⟩:=(he z hz).1 trivial;exact⟨⟨a,b⟩,rfl,trivial⟩
 exact⟨⟨ty,nm,id,fl,rs,vl,ft,.sl l,al,sz,vd⟩,rfl⟩
def ajv{acc:List Rn}{r:Rn}(hs: -1<=r.s):∀k:Nat,(cQ (Tq r) (k+1)).foldl qV acc=y4 acc ⟨r.s,(k:Int)+1⟩
 |0=>by
  show qV acc (Tq r 0)=y4 acc ⟨r.s,_⟩;have e:Tq r 0=r.s:=by
   unfold Tq;omega
  rw[e,<-au6];rfl
 |k+1=>by
  rw[Lt,zdJ,ajv hs k];simp only[zbg,List.foldl_nil];unfold y4;cases hl:acc.getLast? with
  |none=>
   unfold qV;simp only[zdM,List.dropLast_singleton,zaZ];rw[if_pos]
   ·rfl
   ·unfold Tq;omega
  |some q=>
   simp only;have hj:iy q ⟨r.s,(k:Int)+1⟩↔iy q ⟨r.s,((k+1:Nat):Int)+1⟩:=Iff.rfl;by_cases g:iy q ⟨r.s,(k:Int)+1⟩
   ·rw[if_pos g,if_pos (hj.1 g)];unfold qV;rw[zdV];simp only[zdK];unfold iy at g;simp only at g;rw[if_pos]
    ·grind
    ·unfold Tq;omega
   ·rw[if_neg g,if_neg (λh=>g (hj.2 h))];unfold qV;rw[zdV];simp only[zdK];rw[if_pos]
    ·rfl
    ·unfold Tq;omega
def atO{L:List Rn}(h:∀r∈L,1<=r.n/\ -1<=r.s):∀acc:List Rn,h_ acc L=(az L).foldl qV acc:=by
 induction L with
 |nil=>intro acc;rfl
 |cons r L ih=>
  intro acc;have hr:=h r aj;have e:az (r::L)=iV r++az L:=by rfl
  rw[e,zdJ];show h_ (y4 acc r) L=_;rw[ih λq hq=>h q kF];obtain⟨k,hk⟩:∃k:Nat,r.n.toNat=k+1:=⟨r.n.toNat-1,ab⟩
  rw[LC,hk,ajv hr.2];cases r
  grind
def asS{α:Type}(f:Nat->α)(n c:Nat):(cQ f n).drop c=cQ (λi=>f (c+i)) (n-c):=by
 refine zba λi=>?_
 rw[zaB];by_cases h:c+i<n
 ·rw[bO h,bO ab]
 ·rw[zaK nq,zaK kD]
def arY{α:Type}(f:Nat->α)(n c:Nat):(cQ f n).take c=cQ f (min c n):=by
 refine zba λi=>?_
 by_cases h:i<min c n
 ·rw[zdg ab,bO ab,bO h]
 simp_all
def at2{r:Rn}{c t:Int}(hr:1<=r.n/\ -1<=r.s)(hc:0<=c)(ht:0<=t/\t<=r.n-c):az (if t=0 then[]else[⟨if r.s= -1 then-1 else r.s+c,t⟩])=((iV r).drop c.toNat).take t.toNat:=by
 by_cases h:t=0
 ·subst h;rfl
 ·rw[if_neg h,EN,LC,LC,asS,arY];unfold Tq
  grind
def anb{l:List Rn}(h:∀r∈l,1<=r.n/\ -1<=r.s):∀(out:List Rn) (f n:Int),0<=f->0<=n->az (l.foldl ee (out,f,n)).1=az out++((az l).drop f.toNat).take n.toNat:=by
 induction l with
 |nil=>intro out f n _ _;simp[az]
 |cons r l ih=>
  intro out f n hf hn;have hr:=h r aj;have hlen:(iV r).length=r.n.toNat:=EK r;have e:az (r::l)=iV r++az l:=by rfl
  have es:ee (out,f,n) r=(out++(if min n (r.n-min f r.n)=0 then[]else[⟨if r.s= -1 then-1 else r.s+min f r.n,min n (r.n-min f r.n)⟩]),f-min f r.n,n-min n (r.n-min f r.n)):=rfl;rw[zbg,e,es];rw[ih (λq hq=>h q kF) _ _ _ ab ab,Ff,at2 hr ab ab,List.drop_append,List.take_append,zax,hlen,zaj];congr 1;by_cases h1:f<=r.n
  ·rw[show min f r.n=f by omega];by_cases h2:n<=r.n-f
   ·grind
   ·rw[show min n (r.n-f)=r.n-f by omega,show(f-f).toNat=f.toNat-r.n.toNat by omega,show(n-(r.n-f)).toNat=n.toNat-(r.n.toNat-f.toNat) by omega];congr 1;rw[za1 bf,za1 bf]
  ·rw[show min f r.n=r.n by omega,show min n (r.n-r.n)=0 by omega,show(f-r.n).toNat=f.toNat-r.n.toNat by omega,show(n-0).toNat=n.toNat-(r.n.toNat-f.toNat) by omega];congr 1;rw[zcc (show(iV r).length<=f.toNat by omega)];simp
def Sz{pl:List Int}{p:Int}{tr:Rn}(hp:0<=p):∀{k:Nat},p+k<=pl.length→∀i:Nat,(C8 pl p tr k)[i]?=if p.toNat<=i/\i<p.toNat+k then some (tr.s+((i-p.toNat:Nat):Int))else pl[i]?
 |0,_,i=>by rw[if_neg ab];rfl
 |k+1,h,i=>by
  have ih:=Sz (pl:=pl) (tr:=tr) hp (k:=k) ab i;show((C8 pl p tr k).set (p+k).toNat (tr.s+k))[i]?=_
  grind
def aAr{l:List Rn}{p:Int}{tr:Rn}(h:∀r∈l,1<=r.n/\ -1<=r.s)(hp:0<=p)(ht:1<=tr.n/\0<=tr.s)(hl:p+tr.n<=(az l).length):az (fO l p tr)=C8 (az l) p tr tr.n.toNat:=by
 have hs:=xA (l:=l) λr hr=>bf
 unfold fO NB;rw[Ff,Ff,EN,anb h [] 0 p ab hp,anb h [] (p+tr.n) (bI l) ab ab];have e:az []=[]:=rfl;rw[e,zaZ,zaZ,show(0:Int).toNat=0 from rfl,zdk,za1 (l:=(az l).drop (p+tr.n).toNat) bf,LC];refine zba λi=>?_
 rw[Sz hp ab];have l1:((az l).take p.toNat).length=p.toNat:=bf;have l2:(cQ (Tq tr) tr.n.toNat).length=tr.n.toNat:=ck;by_cases h1:i<p.toNat
 ·grind
 ·by_cases h2:i<p.toNat+tr.n.toNat
  ·rw[if_pos ab,zaq bf,zak ab,l1,bO ab];unfold Tq
   grind
  grind
def aAs{l:List Rn}{p:Int}{tr:Rn}(h:∀r∈l,1<=r.n/\ -1<=r.s)(hp:0<=p)(ht:1<=tr.n/\0<=tr.s)(hl:p+tr.n<=(az l).length):h_ [] (fO l p tr)=IA (C8 (az l) p tr tr.n.toNat):=by
 have hW:∀r∈fO l p tr,1<=r.n/\ -1<=r.s:=λr hr=>by
  have part:∀(l:List Rn),(∀r∈l,1<=r.n/\ -1<=r.s)→∀(out:List Rn) (f n:Int),0<=f->0<=n->(∀r∈out,1<=r.n/\ -1<=r.s)→∀r∈(l.foldl ee (out,f,n)).1,1<=r.n/\ -1<=r.s:=by
   intro l
   induction l with
   |nil=>simp
   |cons q l ih=>
    intro hl out f n hf hn ho r hr;have hq:=hl q aj;have es:ee (out,f,n) q=(out++(if min n (q.n-min f q.n)=0 then[]else[⟨if q.s= -1 then-1 else q.s+min f q.n,min n (q.n-min f q.n)⟩]),f-min f q.n,n-min n (q.n-min f q.n)):=rfl;rw[zbg,es]at hr;refine ih (λx hx=>hl x iP) _ _ _ ab ab (λx hx=>?_) r hr
    grind
  unfold fO at hr;rcases zaA.1 hr with hr|hr
  ·rcases zaA.1 hr with hr|hr
   ·exact part l h [] 0 p ab hp (λ_ h=>bV) r hr
   grind
  ·have hs:=xA (l:=l) λr hr=>by grind
   exact part l h [] (p+tr.n) (bI l) ab ab (λ_ h=>bV) r hr
 rw[atO hW,aAr h hp ht hl];rfl
def aE_{J:List Rn}(h:dU J=0):ny J=0:=by
 obtain⟨h1,h2,h3,h4⟩:=bZ h;have hd:BF J J.length:=by
  intro k hk r hr c hc hh;have hn:=(Fq (l:=J) (n:=k) (λj hj=>h2 j ab) (Jr hr (h2 k hk)))
  have xc:¬ ∃j,j<k∧∃q,J[j]?=some q/\pE q r:=by
   rintro⟨j,hj,q,hq,hs⟩;exact asW hr (h2 k hk) hj hq hs
  grind
 unfold ny
 grind
def azk{d:Dk}{a:At}{p:Int}{tr:Rn}(h0:aK d a=0):dJ d a p tr=fE d a p tr/\(SJ (ar d a) p tr=0->qx a p tr=Il a p tr):=by
 have ok:=(bc h0).1;have hr:∀r∈a.rn.l,1<=r.n/\ -1<=r.s:=λr hr=>by
  have:=(bZ ok.rn).2.2.2 r hr;unfold jZ at this
  grind
 have hA:SJ (ar d a) p tr=0->qx a p tr=Il a p tr:=λh=>by
  have mo:=Up h;have hk:=mo.ok;have hl:=mo.len;unfold qx Il;rw[aAs hr hk.1 ⟨hk.2.2.1,hk.2.1.1⟩ hl]
 refine⟨?_,hA⟩;unfold dJ fE;rw[if_neg (λh=>h h0)];split
 ·rfl
 ·rename_i h;have h:=zcY.1 h;have hA:=hA h;have hJ:h_ [] (fO a.rn.l p tr)=IA (C8 (az a.rn.l) p tr tr.n.toNat):=by
   have:=congrArg (λx:At=>x.rn.l) hA;exact this
  have mo:=Up h;unfold nn;rw[hA,hJ];by_cases ha:gu (Il a p tr)=0
  ·have xu:=AD ha;have c_:=mo.rs;have ji:dU (IA (C8 (az a.rn.l) p tr tr.n.toNat))=0:=(xu.ot c_).2.2.2.1;have iG:=(bZ ji).1;rw[aE_ ji,if_neg (λh=>h rfl),if_neg (λh=>h ha)];omega
  omega
def aut{f:Nat->Bool}{a b n:Nat}(ha:f a=false)(hb:f b=true)(JZ:a<n)(Br:b<n):gy (λc=>if c=a then true else if c=b then false else f c) n=gy f n:=by
 have h1:=Ed (p:=λc=>f c&&!decide (c=b)) (q:=λc=>decide (c=b)) (n:=n) λc _=>by
  rintro⟨g1,g2⟩;simp only[zaU,zbs,decide_eq_false_iff_not,decide_eq_true_eq]at g1 g2;exact g1.2 g2
 have h2:=Ed (p:=λc=>f c&&!decide (c=b)) (q:=λc=>decide (c=a)) (n:=n) λc _=>by
  rintro⟨g1,g2⟩;simp only[zaU,zbs,decide_eq_false_iff_not,decide_eq_true_eq]at g1 g2;rw[g2,ha]at g1;cases g1.1
 rw[xh,if_pos Br]at h1;rw[xh,if_pos JZ]at h2;have e1:gy f n=gy (λc=>(f c&&!decide (c=b))||decide (c=b)) n:=jq λc _=>by
  by_cases g:c=b
  ·subst g;simp[hb]
  ·simp[g]
 have e2:gy (λc=>if c=a then true else if c=b then false else f c) n=gy (λc=>(f c&&!decide (c=b))||decide (c=a)) n:=jq λc _=>by
  by_cases g:c=a
  ·simp[g]
  ·by_cases g2:c=b
   ·simp[g,g2]
   ·simp[g,g2]
 omega
def Mf{l:List Int}:bt l=RF (l.map λx=>decide (x≠ -1)):=by
 unfold bt RF;rw[List.countP_map,List.countP_eq_length_filter];congr 1
def amB{c c':List Int}(h:c.map (λx=>decide (x≠ -1))=c'.map (λx=>decide (x≠ -1)))(hp:aa c):aa c':=by
 have hg:∀i:Nat,(c[i]?).map (λx=>decide (x≠ -1))=(c'[i]?).map (λx=>decide (x≠ -1)):=λi=>by
  rw[<-za9,<-za9,h]
 unfold aa at hp ⊢;rcases Az (p:=λy:Int=>y= -1) c' with⟨h1,_⟩|⟨i,x,h1,h2,h3,h4⟩
 ·left;rw[h1];decide
 ·right;rw[h1,zaC];have nt:=hg i;rw[h2]at nt;rcases Az (p:=λy:Int=>y= -1) c with⟨g1,g2⟩|⟨j,y,g1,g2,g3,g4⟩
  ·exfalso;cases hc:c[i]? with
   |none=>rw[hc]at nt;simp at nt
   |some z=>
    rw[hc]at nt;have:=g2 z (zag hc);simp only[zb4,Option.some.injEq]at nt;rw[h3]at nt;simp[this]at nt
  ·have zk:j=i:=by
    rcases zbJ i j with aU|he|aU
    ·exfalso;cases hc:c[i]? with
     |none=>rw[hc]at nt;simp at nt
     |some z=>
      rw[hc]at nt;have:=g4 i aU z hc;simp only[zb4,Option.some.injEq]at nt;rw[h3]at nt;simp[this]at nt
    ·exact he.symm
    ·exfalso;have Rt:=hg j;rw[g2]at Rt;cases hc:c'[j]? with
     |none=>rw[hc]at Rt;simp at Rt
     |some z=>
      rw[hc]at Rt;have:=h4 j aU z hc;simp only[zb4,Option.some.injEq]at Rt;rw[g3]at Rt;simp[this]at Rt
   subst zk;rw[g1,zaC]at hp;have hp:=hp.resolve_left ab;rw[Mf,List.map_drop,<-h,<-List.map_drop,<-Mf];exact hp
def alH{B B':List UInt8}{l l':List Int}(h:l'.map (tS B')=l.map (tS B))(k:Nat):dF B' (bq l' k)=dF B (bq l k):=by
 unfold dF;rw[zdI,zdI,<-pZ,<-pZ,h]
structure MvL(d:Dk)(a:At)(p:Int)(tr:Rn):Prop where
 D:jM d a p tr=Lz d a p tr
 A:jG d a p tr=Il a p tr
 op:aK (Lz d a p tr) (Il a p tr)=0
 fN:aV (ar (Lz d a p tr) (Il a p tr))=aV (ar d a)
 n:(Lz d a p tr).n=d.n
 gy:oF (Lz d a p tr).mp d.n=oF d.mp d.n
 su:adv d (Lz d a p tr) a (Il a p tr)
 len:(Lz d a p tr).a_.length=d.a_.length
def aBQ{d:Dk}{a:At}{p:Int}{tr:Rn}(h0:aK d a=0)(hd:wU d)(hn:a.nm.length<=1000000)(he:dJ d a p tr=0):MvL d a p tr:=by
 obtain⟨ok,oo⟩:=bc h0;have st:=ok.st hd hn;have Es:yw (az a.rn.l):=u0 ok.rn;obtain⟨e1,e2⟩:=azk (p:=p) (tr:=tr) h0;have hx:fE d a p tr=0:=by rw[<-e1];exact he
 have hm:SJ (ar d a) p tr=0:=by
  unfold fE at hx;split at hx
  ·exact hx
  ·rename_i g;exact K6
 have IF:gu (Il a p tr)=0:=by
  unfold fE at hx;rw[if_neg (λh=>h hm)]at hx;split at hx
  ·cases hx
  ·rename_i g;exact zcY.1 λh=>g (.inr h)
 have e2:=e2 hm;have mo:=Up hm;have hk:=mo.ok;unfold Pv at hk;have WW:(ar d a).d=d:=rfl;have Cy:(ar d a).pl=az a.rn.l:=rfl;have hlen:=mo.len;have ab8:=mo.from_;have aoA:=mo.free;have c_:a.rs=false:=mo.rs;rw[WW]at hk aoA;rw[Cy]at hlen ab8;have hb:=X6 st;rw[Cy,WW]at hb;have rK:d.n<=512:=ok.nb;obtain⟨d1,d2,d3⟩:=rX ok.dk;obtain⟨s1,s2,s3,s4,s5⟩:=lE ok.str;obtain⟨aQC,yB,pd⟩:=oo c_;have eh:=λc hc=>QX (d:=d) (a:=a) h0 (c:=c) hc
 generalize hP:az a.rn.l=pl at*;obtain⟨T,hT⟩:∃T:Nat,tr.s=T:=⟨tr.s.toNat,ab⟩
 obtain⟨N,hN⟩:∃N:Nat,tr.n=N:=⟨tr.n.toNat,ab⟩
 obtain⟨q,hq⟩:∃q:Nat,p=q:=⟨p.toNat,ab⟩
 have rD:p.toNat=q:=ab;have hNn:tr.n.toNat=N:=ab;have hTN:T+N<=d.n:=ab;have hqN:q+N<=pl.length:=ab;rw[rD]at ab8;have pe:∀k,k<N→∃x:Nat,pl[q+k]?=some (x:Int)/\x<d.n/\df d x=true:=λk hkN=>by
  obtain⟨x,I_,vR⟩:=ab8 k ab;have h3:=hb x (zag I_);refine⟨x.toNat,by rw[I_];congr 1;omega,ab,?_⟩;have:=eh x.toNat (by rw[show((x.toNat:Nat):Int)=x by omega];exact zag I_);unfold df;rw[this];rfl
 have nj:∀c,T<=c->c<T+N->df d c=false:=λc h1 h2=>aoA c ab ab
 have fu:∀i j (x:Int),pl[i]?=some x->pl[j]?=some x->x≠ -1->i=j:=λi j x h1 h2 h3=>XD Es h1 h2 h3
 have lM:∀k,k<=N→∀c,ON (df d) pl p tr k c=true↔(T<=c/\c<T+k)\/(df d c=true∧¬ ∃j,j<k/\pl[q+j]?=some (c:Int)):=by
  intro k
  induction k with
  |zero=>
   intro _ c;show df d c=true↔_;exact⟨λh=>.inr ⟨h,by rintro⟨j,hj,_⟩;omega⟩,λh=>by rcases h with h|h;omega;exact h.1⟩
  |succ k ih=>
   intro SH c;have ih:=ih ab c;obtain⟨x,I_,vR,mV⟩:=pe k ab;show(if c=(tr.s+(k:Int)).toNat then true else if c=(pl[p.toNat+k]?.getD 0).toNat then false else ON (df d) pl p tr k c)=true↔_;rw[rD,I_,zbA,zaC,show(tr.s+(k:Int)).toNat=T+k by omega];by_cases g1:c=T+k
   ·rw[if_pos g1];exact⟨λ_=>.inl ab,λ_=>rfl⟩
   ·rw[if_neg g1];by_cases g2:c=x
    ·rw[if_pos g2];constructor
     ·intro h;cases h
     ·rintro(h|⟨_,h⟩)
      ·have:=nj c ab ab;rw[g2,mV]at this;cases this
      ·exact absurd ⟨k,ab,by rw[I_,g2]⟩ h
    ·rw[if_neg g2,ih];constructor
     ·rintro(h|⟨h1,h2⟩)
      ·exact .inl ab
      ·refine .inr ⟨h1,?_⟩;rintro⟨j,hj,Gx⟩;by_cases se:j=k
       ·subst se;rw[I_]at Gx;have:=Option.some.inj Gx;omega
       ·exact h2 ⟨j,ab,Gx⟩
     ·rintro(h|⟨h1,h2⟩)
      ·exact .inl ab
      ·exact .inr ⟨h1,λ⟨j,hj,Gx⟩=>h2 ⟨j,ab,Gx⟩⟩
 have Gn:=L9 d.mp d.n;have Vv:∀k,k<=N→∀c,c<d.n->((cX (sj d.mp d.n) pl p tr k)[c]?.getD 0).toNat=mS (ON (df d) pl p tr k c):=by
  intro k
  induction k with
  |zero=>
   intro _ c hc;show((sj d.mp d.n)[c]?.getD 0).toNat=mS (df d c);rw[ael hc,zbA,zaC];have:=mK d.mp c;unfold df mS;by_cases g:bH d.mp c=1
   ·rw[g];rfl
   ·rw[show bH d.mp c=0 by omega];rfl
  |succ k ih=>
   intro SH c hc;have ih:=ih ab c hc;obtain⟨x,I_,vR,mV⟩:=pe k ab;have cb:x≠T+k:=λh=>by
    have:=nj (T+k) ab ab;rw[<-h,mV]at this;cases this
   show((((cX (sj d.mp d.n) pl p tr k).set (tr.s+(k:Int)).toNat 1).set (pl[p.toNat+k]?.getD 0).toNat 0)[c]?.getD 0).toNat=mS (if c=(tr.s+(k:Int)).toNat then true else if c=(pl[p.toNat+k]?.getD 0).toNat then false else ON (df d) pl p tr k c);rw[rD,I_,zbA,zaC,show(tr.s+(k:Int)).toNat=T+k by omega,zaS,za0,RQ,Gn,zaS,RQ,Gn];by_cases g1:c=T+k
   ·subst g1;rw[if_neg ab,if_pos rfl,if_pos ab,if_pos rfl];rfl
   ·by_cases g2:c=x
    ·subst g2;rw[if_pos rfl,if_pos ab,if_neg g1,if_pos rfl];rfl
    ·rw[if_neg (λh=>g2 h.symm),if_neg (λh=>g1 h.symm),if_neg g1,if_neg g2];exact ih
 have av4:=DF (l:=cQ (ON (df d) pl p tr N) d.n) kD;rw[ck]at av4;have Rf:VA (λi=>((cX (sj d.mp d.n) pl p tr N)[i]?.getD 0).toNat) d.n=mG (cQ (ON (df d) pl p tr N) d.n):=by
  unfold mG;rw[ck];refine ak_ (λi=>?_) (λi=>Jj _) λi hi=>?_
  ·by_cases hi:i<d.n
   ·rw[Vv N (zai _) i hi];exact Jj _
   ·rw[zaK (by rw[RQ,Gn];omega)];simp
  ·rw[bO hi,zbA];exact Vv N (zai _) i hi
 have uS:Lz d a p tr=⟨J2 d.a_ pl p tr N,mG (cQ (ON (df d) pl p tr N) d.n)⟩:=by
  unfold Lz;rw[hP,hNn,Rf]
 have aLt:256*d.n<=d.a_.length:=so;have yh:∀k,k<=N->(J2 d.a_ pl p tr k).length=d.a_.length:=λk hkN=>Xk (λj hj=>by
  obtain⟨x,I_,vR,_⟩:=pe j ab;rw[rD,I_,zbA,zaC];exact⟨ab,ab,ab⟩) k ab
 have mE:∀k,k<=N→∀c,c<d.n->eU (J2 d.a_ pl p tr k) c=if T<=c/\c<T+k then eU d.a_ (pl[q+(c-T)]?.getD 0).toNat else eU d.a_ c:=by
  intro k
  induction k with
  |zero=>intro _ c _;rw[if_neg ab];rfl
  |succ k ih=>
   intro SH c hc;have ih:=ih ab c hc;obtain⟨x,I_,vR,mV⟩:=pe k ab;have hl:=yh k ab;show eU (MF (J2 d.a_ pl p tr k) (tr.s+(k:Int)).toNat (eU d.a_ (pl[p.toNat+k]?.getD 0).toNat)) c=_;rw[rD,I_,zbA,zaC,show(tr.s+(k:Int)).toNat=T+k by omega,ahQ ab (gI ab) ab,ih];by_cases g:c=T+k
   ·rw[if_pos g,if_pos ab,g,show T+k-T=k by omega,I_,zbA,zaC]
   ·rw[if_neg g];by_cases g2:T<=c/\c<T+k
    ·rw[if_pos g2,if_pos ab]
    ·rw[if_neg g2,if_neg ab]
 have aD1:=mE N (zai _);have aD2:az (Il a p tr).rn.l=C8 pl p tr N:=by
  show az (IA (C8 (az a.rn.l) p tr tr.n.toNat))=_;rw[hP,hNn];refine ZB λx hx=>?_
  obtain⟨i,hi⟩:=zaE.1 hx;rw[Sz ab ab]at hi;split at hi
  ·have:=Option.some.inj hi;omega
  ·have:=hb x (zag hi);omega
 have aD3:∀i,i<pl.length→∃x x':Int,pl[i]?=some x/\(C8 pl p tr N)[i]?=some x'/\((x= -1/\x'= -1)\/(x≠ -1/\(0<=x'/\x'<d.n)/\ON (df d) pl p tr N x'.toNat=true/\eU (J2 d.a_ pl p tr N) x'.toNat=eU d.a_ x.toNat)):=λi hi=>by
  have hg:=Sz (tr:=tr) (pl:=pl) (p:=p) ab (k:=N) ab i;rw[rD]at hg;by_cases g:q<=i/\i<q+N
  ·rw[if_pos g]at hg;obtain⟨x,I_,vR,mV⟩:=pe (i-q) ab;rw[show q+(i-q)=i by omega]at I_;refine⟨x,_,I_,hg,.inr ⟨ab,ab,(lM N (zai _) _).2 (.inl ab),?_⟩⟩;rw[aD1 _ ab,if_pos ab,show q+((tr.s+((i-q:Nat):Int)).toNat-T)=i by omega,I_,zbA]
  ·rw[if_neg g]at hg;have hx:pl[i]?=some pl[i]:=zah hi;rw[hx]at hg;have s9:=hb _ (zag hx);refine⟨_,_,hx,hg,?_⟩;by_cases h1:pl[i]= -1
   ·exact .inl ⟨h1,h1⟩
   ·have uq:df d pl[i].toNat=true:=by
     have:=eh pl[i].toNat (by rw[show((pl[i].toNat:Nat):Int)=pl[i] by omega];exact zag hx);unfold df;rw[this];rfl
    have l6:¬(T<=pl[i].toNat/\pl[i].toNat<T+N):=λh=>by
     rw[nj _ h.1 h.2]at uq;cases uq
    refine .inr ⟨h1,ab,(lM N (zai _) _).2 (.inr ⟨uq,?_⟩),?_⟩
    ·rintro⟨j,hj,Gx⟩;rw[show((pl[i].toNat:Nat):Int)=pl[i] by omega]at Gx;have:=fu _ _ _ hx Gx h1;omega
    ·rw[aD1 _ ab,if_neg l6]
 have AY:=Xy pl p tr N;have aD4:∀{β:Type} (f g:Int->β),f (-1)=g (-1)->(∀x x':Int,x≠ -1->0<=x'->eU (J2 d.a_ pl p tr N) x'.toNat=eU d.a_ x.toNat->f x'=g x)->(C8 pl p tr N).map f=pl.map g:=λf g h1 h2=>by
  refine zba λi=>?_
  rw[za9,za9];by_cases hi:i<pl.length
  ·obtain⟨x,x',g1,g2,g3⟩:=aD3 i hi;rw[g1,g2];simp only[zb4];congr 1;rcases g3 with⟨rfl,rfl⟩|⟨g3,g4,g5,g6⟩
   ·exact h1
   ·exact h2 x x' g3 g4.1 g6
  ·rw[zaK ab,zaK ab];rfl
 have mY:(C8 pl p tr N).map (λx=>decide (x≠ -1))=pl.map (λx=>decide (x≠ -1)):=aD4 _ _ rfl λx x' h1 h2 _=>by
  rw[zaN,decide_eq_true_eq,decide_eq_true_eq];exact⟨λ_=>h1,λ_=>ab⟩
 have sL:(C8 pl p tr N).map (tS (J2 d.a_ pl p tr N))=pl.map (tS d.a_):=aD4 _ _ rfl λx x' h1 h2 h3=>by
  unfold tS;rw[if_neg ab,if_neg h1,h3]
 have hm3:(C8 pl p tr N).map (λn=>if n= -1 then ai 256 else eU (J2 d.a_ pl p tr N) n.toNat)=pl.map (λn=>if n= -1 then ai 256 else eU d.a_ n.toNat):=aD4 _ _ rfl λx x' h1 h2 h3=>by
  rw[if_neg ab,if_neg h1,h3]
 have aDV:rz (J2 d.a_ pl p tr N) (C8 pl p tr N)=rz d.a_ pl:=by
  unfold rz;rw[zdI,zdI,hm3]
 have aHX:bt (C8 pl p tr N)=bt pl:=by rw[Mf,Mf,mY]
 have aHY:∀k,(bq (C8 pl p tr N) k).map (λx=>decide (x≠ -1))=(bq pl k).map (λx=>decide (x≠ -1)):=λk=>by rw[<-pZ,<-pZ,mY]
 have fM:=alH sL;have huc:∀k,bt (bq (C8 pl p tr N) k)=bt (bq pl k):=λk=>by rw[Mf,Mf,aHY]
 have aDW:ow (J2 d.a_ pl p tr N) (chunks (C8 pl p tr N))=ow d.a_ (chunks pl):=by
  unfold ow chunks;rw[zdG,zdG,AY];exact Mr λk _=>by rw[fM]
 have aDX:∀v,qw (J2 d.a_ pl p tr N) v (chunks (C8 pl p tr N))=qw d.a_ v (chunks pl):=λv=>by
  unfold qw;rw[om,om,AY];unfold TE;congr 1;refine zbC λk hk=>?_
  have hk:=zbm.1 hk;rw[p_ _ (by rw[AY];unfold ew;omega),p_ _ FO,zbA,zbA];unfold xC;rw[fM,huc]
 have AI:(Lz d a p tr).n=d.n:=by
  rw[uS];show(J2 d.a_ pl p tr N).length/256=d.a_.length/256;rw[yh N (zai _)]
 have pD:∀c,c<d.n->bH (Lz d a p tr).mp c=mS (ON (df d) pl p tr N c):=λc hc=>by
  rw[uS];show bH (mG _) c=_;rw[av4.2,if_pos hc,bO hc,zbA]
 have lO:gm (Lz d a p tr)=0:=by
  unfold gm;rw[AI];have e:(Lz d a p tr).a_.length=d.a_.length:=by rw[uS];exact yh N (zai _)
  rw[e,if_neg ab,if_neg ab,uS];exact av4.1
 have SF:∀c:Nat,(c:Int)∈C8 pl p tr N↔(T<=c/\c<T+N)\/((c:Int)∈pl∧¬ ∃j,j<N/\pl[q+j]?=some (c:Int)):=λc=>by
  have hg:=λi=>Sz (tr:=tr) (pl:=pl) (p:=p) ab (k:=N) ab i
  rw[rD]at hg;constructor
  ·intro h;obtain⟨i,hi⟩:=zaE.1 h;rw[hg i]at hi;split at hi
   ·have:=Option.some.inj hi;left;omega
   ·rename_i g;refine .inr ⟨zag hi,?_⟩;rintro⟨j,hj,Gx⟩;have:=fu _ _ _ hi Gx ab;omega
  ·rintro(h|⟨h1,h2⟩)
   ·refine zag (i:=q+(c-T)) ?_;rw[hg,if_pos ab];congr 1;omega
   ·obtain⟨i,hi⟩:=zaE.1 h1;refine zag (i:=i) ?_;rw[hg,if_neg,hi];intro g;exact h2 ⟨i-q,ab,by rw[show q+(i-q)=i by omega];exact hi⟩
 have aLG:jM d a p tr=Lz d a p tr:=by
  unfold jM;rw[if_neg (λh=>h he),uS,hP,hNn]
 have aLH:jG d a p tr=Il a p tr:=by
  unfold jG;rw[if_neg (λh=>h he),e2]
 refine⟨aLG,aLH,?_,?_,AI,?_,⟨⟨by rw[uS];exact(yh N (zai _)).symm,lO⟩,λc hc=>?_⟩,by rw[uS];exact yh N (zai _)⟩
 ·have hsE:oT (Il a p tr)=0:=by
   unfold oT;rw[IF,if_neg aj,if_neg,if_neg,if_neg]
   ·show ¬32768<a.sz;omega
   ·show ¬a.ft≠0;omega
   ·show ¬(a.ty≠128\/4<=a.fl\/a.fl=3);omega
  have rH:pG (Lz d a p tr) (C8 pl p tr N)=0:=by
   unfold pG;rw[AI,if_neg,if_neg]
   ·rintro⟨x,hx,h1,h2⟩;obtain⟨i,hi⟩:=zaE.1 hx;have iX:i<pl.length:=aaX;obtain⟨y,x',g1,g2,g3⟩:=aD3 i iX;rw[hi]at g2;have g2:=Option.some.inj g2;subst g2;rcases g3 with⟨_,g3⟩|⟨_,g4,g5,_⟩
    ·exact h1 g3
    ·rw[pD _ ab,g5]at h2;cases h2
   ·rintro⟨x,hx,h1⟩;obtain⟨i,hi⟩:=zaE.1 hx;have iX:i<pl.length:=aaX;obtain⟨y,x',g1,g2,g3⟩:=aD3 i iX;rw[hi]at g2;have g2:=Option.some.inj g2;subst g2;rcases g3 with⟨_,g3⟩|⟨_,g4,g5,_⟩<;>omega
  have aLI:lJ (Il a p tr) (C8 pl p tr N):=by
   have arb:=yB;unfold lJ at arb ⊢;rw[aHX,AY];show a.al=_/\if a.fl%2=1 then _/\_ else _
   refine⟨arb.1,?_⟩;have am2:=arb.2;by_cases hf:a.fl%2=1
   ·rw[if_pos hf]at am2 ⊢;refine⟨am2.1,λc hc=>?_⟩;unfold chunks at hc;obtain⟨k,SH,rfl⟩:=zaX.1 hc;rw[AY]at SH;exact amB (aHY k).symm (am2.2 _ (by unfold chunks;exact zaX.2 ⟨k,SH,rfl⟩))
   ·rw[if_neg hf]at am2 ⊢;exact am2
  unfold aK;rw[lO,hsE,if_neg aj,if_neg aj,if_neg (show ¬(Il a p tr).rs=true from λh=>by rw[show(Il a p tr).rs=a.rs from rfl,c_]at h;cases h),aD2,rH,if_neg aj];unfold iW;rw[if_pos aLI,if_neg aj];split
  ·rename_i g;rw[uS];show qw (J2 d.a_ pl p tr N) a.vd _=0;rw[aDX];exact pd g
  ·rfl
 ·unfold aV;rw[if_neg (show ¬(ar (Lz d a p tr) (Il a p tr)).a.rs=true from λh=>by rw[show(ar (Lz d a p tr) (Il a p tr)).a.rs=a.rs from rfl,c_]at h;cases h),if_neg (show ¬(ar d a).a.rs=true from λh=>ai8)];show nA a (if a.fl%2=1 then ow (Lz d a p tr).a_ (chunks (az (Il a p tr).rn.l))else rz (Lz d a p tr).a_ (az (Il a p tr).rn.l))=nA a (if a.fl%2=1 then ow d.a_ (chunks (az a.rn.l))else rz d.a_ (az a.rn.l));rw[aD2,hP,uS];show nA a (if a.fl%2=1 then ow (J2 d.a_ pl p tr N) _ else rz (J2 d.a_ pl p tr N) _)=_;rw[aDW,aDV]
 ·have hc:∀k,k<=N->gy (ON (df d) pl p tr k) d.n=gy (df d) d.n:=by
   intro k
   induction k with
   |zero=>intro _;rfl
   |succ k ih=>
    intro SH;obtain⟨x,I_,vR,mV⟩:=pe k ab;have hf:ON (df d) pl p tr (k+1)=λc=>if c=T+k then true else if c=x then false else ON (df d) pl p tr k c:=by
     funext c;show(if c=(tr.s+(k:Int)).toNat then true else if c=(pl[p.toNat+k]?.getD 0).toNat then false else ON (df d) pl p tr k c)=_;rw[rD,I_,zbA,zaC,show(tr.s+(k:Int)).toNat=T+k by omega]
    rw[hf,aut _ _ ab vR,ih ab]
    ·cases h:ON (df d) pl p tr k (T+k)with
     |false=>rfl
     |true=>
      rcases(lM k ab _).1 h with h|h
      ·omega
      ·rw[nj (T+k) ab ab]at h;cases h.1
    ·refine(lM k ab _).2 (.inr ⟨mV,?_⟩);rintro⟨j,hj,Gx⟩;have:=fu _ _ _ I_ Gx ab;omega
  rw[vp,vp];have e3:gy (λc=>decide (bH (Lz d a p tr).mp c=1)) d.n=gy (ON (df d) pl p tr N) d.n:=jq λc hc=>by
   rw[pD c hc];cases ON (df d) pl p tr N c<;>simp[mS]
  rw[e3,hc N (zai _)];rfl
 ·unfold E0;rw[Dl,Dl,aD2,hP,SF];have Te:=lM N (zai _) c;have hbc:=pD c hc;have cq:df d c=true↔bH d.mp c=1:=by unfold df;simp
  have aHU:=mK d.mp c;have ht:mS true=1:=rfl;have hf:mS false=0:=rfl;refine⟨λ⟨g1,g2⟩=>⟨?_,?_⟩,λ⟨g1,g2⟩=>?_,λg=>?_,λ⟨g1,g2⟩=>?_⟩
  ·rw[hbc];have l6:¬(T<=c/\c<T+N):=λh=>g2 (.inl h)
   by_cases eE:df d c=true
   ·rw[Te.2 (.inr ⟨eE,λ⟨j,_,hj⟩=>g1 (zag hj)⟩),ht,cq.1 eE]
   ·have:ON (df d) pl p tr N c=false:=by
     cases h:ON (df d) pl p tr N c with
     |false=>rfl
     |true=>
      rcases Te.1 h with h|h
      ·exact absurd h l6
      ·exact absurd h.1 eE
    rw[this,hf];have:¬bH d.mp c=1:=λh=>eE (cq.2 h)
    omega
  ·rw[uS];show eU d.a_ c=eU (J2 d.a_ pl p tr N) c;rw[aD1 c hc,if_neg λh=>g2 (.inl h)]
  ·rw[hbc];have:ON (df d) pl p tr N c=false:=by
    cases h:ON (df d) pl p tr N c with
    |false=>rfl
    |true=>
     rcases Te.1 h with h|h
     ·exact absurd (.inl h) g2
     ·exact absurd (.inr ⟨g1,h.2⟩) g2
   rw[this,hf]
  ·rw[hbc];have:ON (df d) pl p tr N c=true:=by
    rcases g with h|⟨h1,h2⟩
    ·exact Te.2 (.inl h)
    ·exact Te.2 (.inr ⟨cq.2 (eh c h1),h2⟩)
   rw[this,ht]
  ·rcases g1 with h|⟨h1,_⟩
   ·have:=nj c h.1 h.2;have:¬bH d.mp c=1:=λh=>by rw[cq.2 h]at this;cases this
    omega
   ·exact absurd h1 g2
def L0{d:Dk}(h:gm d=0):wU d:=by
 obtain⟨q1,q2,q3⟩:=rX h;obtain⟨_,_,b3,b4,_⟩:=iR q3;unfold Dk.n at q2 b4;exact⟨ab,by unfold sx at b4;omega⟩
section
def atK{d e:Dk}{b:At}(h:aK e b=0)(hl:d.a_.length=e.a_.length)(hd:wU d):wU e:=by
 have ok:=(bc h).1;obtain⟨b1,b2,b3,b4,_⟩:=iR ok.bm;have h1:=hd.1;exact⟨ab,by unfold sx at b4;omega⟩
section
variable {d e:Dk} {a:At} {C:List UInt8} {v:Int} {dt:Nat->Prop}
end
end
structure acV(d e:Dk)(a:At):Prop where
 len:e.a_.length=d.a_.length
 dk:gm e=0
 bit:∀c:Nat,(c:Int)∈az a.rn.l->bH e.mp c=1
 cl:∀c:Nat,(c:Int)∈az a.rn.l->eU e.a_ c=eU d.a_ c
def PS{d e:Dk}{a:At}(h:acV d e a)(h0:aK d a=0):aK e a=0/\aV (ar e a)=aV (ar d a):=by
 obtain⟨ok,oo⟩:=bc h0;have hn:e.n=d.n:=by unfold Dk.n;rw[h.len]
 have mE:∀x∈az a.rn.l,x≠ -1->eU e.a_ x.toNat=eU d.a_ x.toNat:=λx hx h1=>by
  have hb:=(ok.pl x hx).resolve_left h1;exact h.cl _ (by rw[show((x.toNat:Nat):Int)=x by omega];exact hx)
 have sL:(az a.rn.l).map (tS e.a_)=(az a.rn.l).map (tS d.a_):=zbC λx hx=>by
  unfold tS;split
  ·rfl
  ·rename_i g;exact mE x hx g
 have aDV:rz e.a_ (az a.rn.l)=rz d.a_ (az a.rn.l):=by
  unfold rz;refine Mr λx hx=>?_
  split
  ·rfl
  ·rename_i g;exact mE x hx g
 have fM:∀k,dF e.a_ (bq (az a.rn.l) k)=dF d.a_ (bq (az a.rn.l) k):=λk=>by
  unfold dF;rw[zdI,zdI,<-pZ,<-pZ,sL]
 have aDW:ow e.a_ (chunks (az a.rn.l))=ow d.a_ (chunks (az a.rn.l)):=by
  unfold ow chunks;rw[zdG,zdG];exact Mr λk _=>by rw[fM]
 have aDX:∀v,qw e.a_ v (chunks (az a.rn.l))=qw d.a_ v (chunks (az a.rn.l)):=λv=>by
  unfold qw TE;congr 1;refine zbC λk hk=>?_
  have hk:=zbm.1 hk;rw[om]at hk;rw[p_ _ FO,zbA];unfold xC;rw[fM]
 constructor
 ·by_cases c_:a.rs=true
  ·unfold aK;rw[h.dk,ok.str,if_neg aj,if_neg aj,if_pos c_]
  ·have c_:a.rs=false:=by simpa using c_
   obtain⟨o1,o2,o3⟩:=oo c_;have hp:pG e (az a.rn.l)=0:=by
    unfold pG;rw[hn,if_neg,if_neg]
    ·rintro⟨x,hx,h1,h2⟩;have hb:=(ok.pl x hx).resolve_left h1;have:=h.bit x.toNat (by rw[show((x.toNat:Nat):Int)=x by omega];exact hx);omega
    ·rintro⟨x,hx,h1⟩;rcases ok.pl x hx with h2|h2
     ·omega
     ·unfold Dk.n at h1;omega
   unfold aK;rw[h.dk,ok.str,if_neg aj,if_neg aj,if_neg qD,hp,if_neg aj];unfold iW;rw[if_pos o2,if_neg aj];split
   ·rename_i g;rw[aDX];exact o3 g
   ·rfl
 ·unfold aV;show(if a.rs=true then a.vl else nA a (if a.fl%2=1 then ow e.a_ (chunks (az a.rn.l))else rz e.a_ (az a.rn.l)))=(if a.rs=true then a.vl else nA a (if a.fl%2=1 then ow d.a_ (chunks (az a.rn.l))else rz d.a_ (az a.rn.l)))
  rw[aDW,aDV]
def L3(a b:At):Prop:=∀c:Nat,(c:Int)∈az a.rn.l->(c:Int)∉az b.rn.l
def beside{d e:Dk}{a b o:At}(h:adv d e a b)(h0:aK d o=0)(ha:L3 o a):acV d e o/\L3 o b:=by
 obtain⟨ok,_⟩:=bc h0;have hb:∀c:Nat,(c:Int)∈az o.rn.l->c<d.n/\bH d.mp c=1:=λc hc=>by
  refine⟨?_,QX h0 hc⟩;rcases ok.pl _ hc with h1|h1
  ·omega
  ·unfold Dk.n;omega
 have hk:∀c:Nat,(c:Int)∈az o.rn.l->(c:Int)∉az b.rn.l/\bH e.mp c=1/\eU e.a_ c=eU d.a_ c:=λc hc=>by
  obtain⟨h1,h2⟩:=hb c hc;have Cd:=ha c hc;have ho:=h.2 c h1;unfold E0 at ho;rw[Dl,Dl]at ho;have kr:(c:Int)∉az b.rn.l:=λg=>by have:=ho.2.2.2 ⟨g,Cd⟩;omega
  have:=ho.1 ⟨Cd,kr⟩;exact⟨kr,ab,this.2.symm⟩
 exact⟨⟨h.1.1.symm,h.1.2,λc hc=>(hk c hc).2.1,λc hc=>(hk c hc).2.2⟩,λc hc=>(hk c hc).1⟩
def Q1{d e:Dk}{a b:At}(ho:adv d e a b)(h0:aK d a=0)(h1:aK e b=0):oF e.mp d.n+bt (az a.rn.l)=oF d.mp d.n+bt (az b.rn.l):=by
 obtain⟨ok,_⟩:=bc h0;obtain⟨ok1,_⟩:=bc h1;have hn:e.n=d.n:=by unfold Dk.n;rw[ho.1.1]
 have ma:=Mt (n:=d.n) (u0 ok.rn) λx hx=>by
  rcases ok.pl x hx with h|h
  ·exact .inl h
  ·right;unfold Dk.n;omega
 have mb:=Mt (n:=d.n) (u0 ok1.rn) λx hx=>by
  rcases ok1.pl x hx with h|h
  ·exact .inl h
  ·right;unfold Dk.n at hn ⊢;omega
 have key:∀c,c<d.n->((bH e.mp c=1↔(c:Int)∈az b.rn.l\/(bH d.mp c=1/\(c:Int)∉az a.rn.l))∧¬((c:Int)∈az b.rn.l/\bH d.mp c=1/\(c:Int)∉az a.rn.l)):=λc hc=>by
  have:=ho.2 c hc;unfold E0 at this;rw[Dl,Dl]at this;obtain⟨t1,t2,t3,t4⟩:=this;by_cases g1:(c:Int)∈az a.rn.l<;>by_cases g2:(c:Int)∈az b.rn.l
  ·exact⟨⟨λ_=>.inl g2,λ_=>t3 g2⟩,λh=>h.2.2 g1⟩
  ·have:=t2 ⟨g1,g2⟩;exact⟨⟨λh=>ab,λh=>by rcases h with h|h;exact absurd h g2;exact absurd g1 h.2⟩,λh=>h.2.2 g1⟩
  ·have:=t4 ⟨g2,g1⟩;exact⟨⟨λ_=>.inl g2,λ_=>t3 g2⟩,λh=>ab⟩
  ·have:=t1 ⟨g1,g2⟩;exact⟨⟨λh=>.inr ⟨ab,g1⟩,λh=>by rcases h with h|h;exact absurd h g2;omega⟩,λh=>g2 h.1⟩
 have c1:=Ed (p:=λc=>decide ((c:Int)∈az b.rn.l)) (q:=λc=>decide (bH d.mp c=1)&&!decide ((c:Int)∈az a.rn.l)) (n:=d.n) λc hc=>by
  simp only[decide_eq_true_eq,zaU,zbs,decide_eq_false_iff_not];exact λh=>(key c hc).2 ⟨h.1,h.2.1,h.2.2⟩
 have c2:=Ed (p:=λc=>decide ((c:Int)∈az a.rn.l)) (q:=λc=>decide (bH d.mp c=1)&&!decide ((c:Int)∈az a.rn.l)) (n:=d.n) λc hc=>by
  simp only[decide_eq_true_eq,zaU,zbs,decide_eq_false_iff_not];exact λh=>h.2.2 h.1
 have e1:gy (λc=>decide (bH e.mp c=1)) d.n=gy (λc=>decide ((c:Int)∈az b.rn.l)||(decide (bH d.mp c=1)&&!decide ((c:Int)∈az a.rn.l))) d.n:=jq λc hc=>by
  rw[zaN,decide_eq_true_eq,(key c hc).1];simp
 have e2:gy (λc=>decide (bH d.mp c=1)) d.n=gy (λc=>decide ((c:Int)∈az a.rn.l)||(decide (bH d.mp c=1)&&!decide ((c:Int)∈az a.rn.l))) d.n:=jq λc hc=>by
  rw[zaN,decide_eq_true_eq,zbE,zaU,decide_eq_true_eq,decide_eq_true_eq,zbs,decide_eq_false_iff_not];by_cases g:(c:Int)∈az a.rn.l
  ·exact⟨λ_=>.inl g,λ_=>QX h0 g⟩
  ·exact⟨λh=>.inr ⟨h,g⟩,λh=>by rcases h with h|h;exact sF;exact h.1⟩
 rw[vp,vp];omega
structure Vo where
 d:Dk
 st:Sl At
def D4(s:Sl At):PV:=Sl.pv At.pv 11 s
def Vo.pv(v:Vo):PV:=.agg [.str v.d.a_,.str v.d.mp,D4 v.st]
def Y1:MT (ay []) Xg (ah gB):=kS
def YD:MT (ay []) Tg (ah dG):=by
 rintro _ K ⟨_,⟨b,e,rfl,rfl⟩,hK⟩;cases b
 ·(conv=>whnf)
  exact aG
 ·(conv=>whnf)
  exact aG
def YM:MT (ay []) Q8 (bF bG):=by
 rintro _ K ⟨_,⟨n,lo,hi,rfl,rfl⟩,hK⟩
 (repeat'((conv=>whnf);first|refine de (λ_=>?_) (λ_=>?_)|fail))<;>try(conv=>whnf)
 all_goals exact YS
def SM:MT (ay []) LB (ah bA):=by
 rintro _ K ⟨_,⟨d,rfl,h,rfl⟩,hK⟩
 (repeat'((conv=>whnf);first|refine l7 ab ?_|fail))<;>try(conv=>whnf)
 exact⟨.pv (pI _),bu so,trivial,hK⟩
def xd(d:Dk)(c:Nat):Int:=if bH d.mp c=1 then-2 else-1
def Fu(d:Dk):List Int:=(List.range d.n).map (xd d)
def ads(d:Dk):(Fu d).length=d.n:=by simp[Fu]
def YY(N:Nat)(f:Nat->Int)(n:Nat):List Int:=(List.range N).map λc=>if c<n then f c else 0
def af9(N:Nat)(f:Nat->Int)(n:Nat):(YY N f n).length=N:=by simp[YY]
def alr(N:Nat)(f:Nat->Int)(n i:Nat):(YY N f n)[i]?=if i<N then some (if i<n then f i else 0)else none:=by
 unfold YY;rw[za9];by_cases h:i<N
 ·rw[zbD h,if_pos h];rfl
 ·rw[zaK aH,if_neg h];rfl
def arO{N:Nat}{f:Nat->Int}{n:Nat}(h:n<N):(YY N f n).set n (f n)=YY N f (n+1):=by
 refine zba λi=>?_
 rw[zaS,alr,alr,af9];by_cases hi:n=i
 ·subst hi;rw[if_pos rfl,if_pos h,if_pos h,if_pos ab]
 ·rw[if_neg hi];by_cases hl:i<n
  ·rw[if_pos hl,if_pos (show i<n+1 by omega)]
  ·rw[if_neg hl,if_neg (show ¬i<n+1 by omega)]
def asX(N:Nat)(f:Nat->Int):YY N f N=(List.range N).map f:=zbC λc hc=>if_pos (zbm.1 hc)
def aqB(N:Nat)(f:Nat->Int):(YY N f 0).map pI=List.replicate N (pI 0):=by
 refine List.ext_getElem (by simp[YY]) λi h1 h2=>?_
 simp[YY]
def UL(ps:List PV)(r:RV):Prop:=∃d:Dk,ps=[d.pv]/\(fH d/\nu d.mp d.n=0)/\r=.fresh 3 1 ((Fu d).map pI)
def ac3:MT (ay [(86,ah bA),(126,XF)]) aay (c8 true UL):=by
 rintro _ K ⟨_,⟨d,rfl,⟨⟨h1,h2⟩,h3⟩,rfl⟩,hK⟩;have hn:d.n<=1000000:=so;have hc:bA [d.pv] (pI d.n):=⟨d,rfl,h1,rfl⟩
 have hz:=aqB d.n (xd d);have hlN:∀k,((YY d.n (xd d) k).map pI).length=d.n:=λk=>by rw[zav,af9]
 (repeat'((conv=>whnf);first|refine⟨_,hc,?_⟩|refine dq λ_=>?_|refine wz ?_|fail))<;>try(conv=>whnf)
 refine⟨λm env σ=>∃n:Nat,n+m=d.n/\σ=[.box 23 [.pv (.str d.a_),.pv (.str d.mp)],.row 3 1 true ((YY d.n (xd d) n).map pI)]/\env=[(1,.ref 0 0 0),(3,.own 1),eN 11 d.n,eN 12 n],d.n,⟨0,ab,?_,?_⟩,?_⟩
 ·rw[hz,zaC]
 ·rfl
 rintro m env σ ⟨n,kp,rfl,rfl⟩;have hl:=hlN n;by_cases aU:n<d.n
 ·have hb:aqn d.mp d.n n=bH d.mp n:=by
   unfold aqn ac0;rw[h3];simp;intro h;omega
  have LO:=arO (f:=xd d) aU;have hbf:xd d n=if bH d.mp n=1 then-2 else-1:=rfl
  have hG:(YY d.n (xd d) n).length=d.n:=af9 _ _ _;generalize YY d.n (xd d) n=G at*;have hg:(G.map pI)[(n:Int).toNat]?=some (pI (G[n]'ab)):=by
   rw[zaC,za9,zah ab];rfl
  have ZI:(G.map pI).set (n:Int).toNat (pI (-1))=(G.set n (-1)).map pI:=by rw[zaC,zdh]
  have cH:((G.set n (-1)).map pI).length=d.n:=by rw[zav,za0,hG]
  have mU:((G.set n (-1)).map pI)[(n:Int).toNat]?=some (pI (-1)):=by
   rw[zaC,za9,zbQ ab];rfl
  have hs3:((G.set n (-1)).map pI).set (n:Int).toNat (pI (-2))=(G.set n (-2)).map pI:=by rw[zaC,<-zdh,List.set_set]
  (conv=>whnf)
  refine au ab ?_
  (conv=>whnf)
  refine zcB ⟨ab,ab⟩ ?_
  (conv=>whnf)
  refine⟨_,hg,?_⟩;refine⟨rfl,?_⟩;have aAS:(G.map pI).set (n:Int).toNat (.int .i64 (-1))=(G.set n (-1)).map pI:=ZI;have aAV:((G.set n (-1)).map pI).set (n:Int).toNat (.int .i64 (-2))=(G.set n (-2)).map pI:=hs3
  (repeat'((conv=>whnf);first|rw[aAS]|refine zcB ⟨ab,ab⟩ ?_|refine⟨_,mU,?_⟩|rw[aAV]|refine⟨_,_,_,rfl,ab,?_⟩|refine bj ab ?_|refine de (λ_=>?_) (λ_=>?_)|refine dq λ_=>?_|refine bT ?_|fail))<;>try(conv=>whnf)
  ·rename_i x;rw[za0,hG,hb]at x;exact⟨m-1,ab,n+1,ab,by rw[<-LO,hbf,if_pos ab],rfl⟩
  ·rename_i x;rw[za0,hG,hb]at x;exact⟨m-1,ab,n+1,ab,by rw[<-LO,hbf,if_neg ab],rfl⟩
 ·(repeat'((conv=>whnf);first|refine aw ab ?_|fail))<;>try(conv=>whnf)
  have:n=d.n:=ab;subst this;rw[asX];exact⟨.fresh _ _ _,⟨rfl,rfl,rfl,rfl⟩,dn _,hK⟩
def Wi(o:List Int)(i:Int):List Nat->Option (List Int)
 |[]=>some o
 |c::r=>if 0<=o[c]?.getD 0 then none else Wi (o.set c i) i r
def jQ(r:Rn):List Nat:=if r.s= -1 then[]else List.range' r.s.toNat r.n.toNat
def xM(l:List Rn):List Nat:=l.flatMap jQ
def arN{l:List Rn}{n:Nat}{r:Rn}(h:l[n]?=some r):xM (l.drop n)=jQ r++xM (l.drop (n+1)):=by
 obtain⟨aU,rfl⟩:=zaa.1 h;rw[zcj aU];unfold xM;rw[zan]
def afc(xs:List AV)(σ:aF)(K:AV->aF->Prop):Prop:=∃(o:List Int) (a:At) (i:Int),xs=[.own 0,.pv a.pv,.pv (pI i)]/\(a.rn.l.length<=1000/\(∀r∈a.rn.l,r.s= -1\/(0<=r.s/\0<=r.n/\r.s+r.n<=o.length))/\o.length<=1000000)/\σ=[.row 3 1 true (o.map pI)]/\
 (∀o',Wi o i (xM a.rn.l)=some o'->K (.pv (pB true)) [.row 3 1 true (o'.map pI)])/\(Wi o i (xM a.rn.l)=none→∀o':List Int,o'.length=o.length->K (.pv (pB false)) [.row 3 1 true (o'.map pI)])
set_option maxHeartbeats 2000000 in
def amG:gO (ay []) WN (sB afc):=by
 rintro _ _ K ⟨o,a,i,rfl,⟨h1,h2,h3⟩,rfl,hT,hF⟩;have gJ:(a.rn.l.map Rn.pv).length=a.rn.l.length:=zav _
 (repeat'((conv=>whnf);first|refine KP ?_|refine dq λ_=>?_|fail))<;>try(conv=>whnf)
 refine⟨λm env σ=>∃(n:Nat) (oc:List Int),(n+m=a.rn.l.length/\oc.length=o.length/\Wi o i (xM a.rn.l)=Wi oc i (xM (a.rn.l.drop n)))/\σ=[.row 3 1 true (oc.map pI)]/\env=[(0,.own 0),eN 2 i,(11,.pv (qF a.rn)),eN 12 a.rn.l.length,eN 13 n],a.rn.l.length,⟨0,o,⟨ab,rfl,rfl⟩,rfl,rfl⟩,?_⟩;rintro m env σ ⟨n,oc,⟨hn,GV,KS⟩,rfl,rfl⟩;by_cases aU:n<a.rn.l.length
 ·obtain⟨r,hr⟩:∃r,a.rn.l[n]?=some r:=⟨_,zah aU⟩
  have JA:=h2 r (zag hr);have hd:=arN hr;have lF:(a.rn.l.map Rn.pv)[(n:Int).toNat]?=some r.pv:=by rw[zaC,za9,hr];rfl
  have qH:qF a.rn=.sl 2 (a.rn.l.map Rn.pv):=by
   cases h:a.rn with
   |nil=>rw[h]at hr;cases hr
   |sl l=>rfl
  rw[hd]at KS;rw[qH];by_cases hs:r.s= -1
  ·(repeat'((conv=>whnf);first|refine au hs ?_|refine bj ab ?_|refine au ab ?_|refine iY aA ?_|refine bT ?_|fail))<;>try(conv=>whnf)
   rw[show jQ r=[] by unfold jQ;rw[if_pos hs]]at KS;exact⟨m-1,ab,n+1,oc,⟨ab,GV,KS⟩,rfl,rfl⟩
  ·have Wo:jQ r=List.range' r.s.toNat r.n.toNat:=by unfold jQ;rw[if_neg hs]
   rw[Wo]at KS
   (repeat'((conv=>whnf);first|refine aw hs ?_|refine au ab ?_|refine iY aA ?_|refine bT ?_|fail))<;>try(conv=>whnf)
   refine⟨λm2 env σ=>∃(c:Nat) (oq:List Int),((c:Int)+m2=r.s+r.n/\oq.length=o.length/\Wi o i (xM a.rn.l)=Wi oq i (List.range' c m2++xM (a.rn.l.drop (n+1))))/\σ=[.row 3 1 true (oq.map pI),.box 37 [.pv (pI r.s),.pv (pI r.n)]]/\
    env=[(0,.own 0),eN 2 i,(8,.ref 1 0 0),eN 9 c,(11,.pv (.sl 2 (a.rn.l.map Rn.pv))),eN 12 a.rn.l.length,eN 13 n],r.n.toNat,⟨r.s.toNat,oc,⟨ab,GV,KS⟩,rfl,?_⟩,?_⟩
   ·rw[show((r.s.toNat:Nat):Int)=r.s by omega]
   rintro m2 env σ ⟨c,oq,⟨hc,hoq,hg⟩,rfl,rfl⟩;cases m2 with
   |zero=>
    (repeat'((conv=>whnf);first|refine aw ab ?_|refine bj ab ?_|fail))<;>try(conv=>whnf)
    exact⟨m-1,ab,n+1,oq,⟨ab,hoq,hg⟩,rfl,rfl⟩
   |succ m2=>
    have mE:c<oq.length:=ab;obtain⟨w,hw⟩:∃w,oq[c]?=some w:=⟨_,zah mE⟩
    have hq:(oq.map pI)[(c:Int).toNat]?=some (pI w):=by rw[zaC,za9,hw];rfl
    have hql:(oq.map pI).length=oq.length:=zav _;have LO:(oq.map pI).set (c:Int).toNat (pI i)=(oq.set c i).map pI:=by rw[zaC,zdh]
    have jA:Wi oq i (List.range' c (m2+1)++xM (a.rn.l.drop (n+1)))=if 0<=w then none else Wi (oq.set c i) i (List.range' (c+1) m2++xM (a.rn.l.drop (n+1))):=by
     rw[List.range'_succ,zbd];show(if 0<=oq[c]?.getD 0 then none else _)=_;rw[hw];rfl
    rw[jA]at hg;by_cases uX:0<=w
    ·rw[if_pos uX]at hg
     (repeat'((conv=>whnf);first|refine au ab ?_|refine zcB ⟨ab,ab⟩ ?_|refine⟨_,hq,?_⟩|refine bj ab ?_|fail))<;>try(conv=>whnf)
     exact hF hg oq hoq
    ·rw[if_neg uX]at hg
     (repeat'((conv=>whnf);first|refine zcB ⟨ab,ab⟩ ?_|refine⟨_,hq,?_⟩|refine aw uX ?_|refine au ab ?_|refine bj ab ?_|refine bT ?_|fail))<;>try(conv=>whnf)
     exact⟨m2,ab,c+1,oq.set c i,⟨ab,by rw[za0,hoq],hg⟩,by rw[<-LO],rfl⟩
 ·(repeat'((conv=>whnf);first|refine aw ab ?_|fail))<;>try(conv=>whnf)
  refine hT oc ?_;rw[KS,zdC ab];rfl
noncomputable def FH(d:Dk)(o:List Int)(i:Int):List At->Int×Int
 |[]=>(0,0)
 |a::r=>if aK d a≠0 then(i,aK d a)else match Wi o i (xM a.rn.l)with
  |none=>(i,13)
  |some o'=>FH d o' (i+1) r
def aeB:∀(cs:List Nat) {o o':List Int} {i:Int},Wi o i cs=some o'->o'.length=o.length
 |[],o,o',i,h=>by cases h;rfl
 |c::r,o,o',i,h=>by
  unfold Wi at h;split at h
  ·cases h
  ·rw[aeB r h,za0]
def Bd{d:Dk}{a:At}(h:aK d a=0):∀r∈a.rn.l,r.s= -1\/(0<=r.s/\0<=r.n/\r.s+r.n<=d.n):=by
 obtain⟨ok,_⟩:=bc h;intro r hr;have h1:=(bZ ok.rn).2.2.2 r hr;unfold jZ at h1;by_cases hs:r.s= -1
 ·exact .inl hs
 rw[if_neg hs]at h1;have hm:r.s+((r.n.toNat-1:Nat):Int)∈az a.rn.l:=by
  unfold az;rw[zbz];refine⟨r,hr,?_⟩;unfold iV;rw[zaX];refine⟨r.n.toNat-1,zbm.2 ab,?_⟩;rw[if_neg hs]
 have h2:=ok.pl _ hm;right;unfold Dk.n;omega
def NK(d:Dk)(s:Sl At):dC:=.box 26 [.pv (.str d.a_),.pv (.str d.mp),.pv (D4 s)]
def ajO(xs:List AV)(σ:aF)(K:AV->aF->Prop):Prop:=∃(d:Dk) (s:Sl At) (o:List Int) (i:Int) (a:At),xs=[.pv (pI i),.pv a.pv,.ref 0 0 0,.ref 1 0 0]/\(fH d/\a.nm.length<=1000000/\o.length=d.n)/\σ=[NK d s,.box 45 [.own 2],.row 3 1 true (o.map pI)]/\
 (aK d a≠0->K (.pv (pI (aK d a))) [NK d s,.box 45 [.own 2],.row 3 1 true (o.map pI)])/\
 (aK d a=0->(∀o',Wi o i (xM a.rn.l)=some o'->K (.pv (pI 0)) [NK d s,.box 45 [.own 2],.row 3 1 true (o'.map pI)])/\(Wi o i (xM a.rn.l)=none→∀o':List Int,o'.length=o.length->K (.pv (pI 13)) [NK d s,.box 45 [.own 2],.row 3 1 true (o'.map pI)]))
set_option maxHeartbeats 2000000 in
def aoC:gO (ay [(72,ah tQ),(73,sB afc),(68,ah dG)]) y0 (sB ajO):=by
 rintro _ _ K ⟨d,s,o,i,a,rfl,⟨h1,h2,h3⟩,rfl,hE,hG⟩;have hc:tQ [d.pv,a.pv] (pI (aK d a)):=⟨d,a,rfl,⟨h1,h2⟩,rfl⟩
 have hn:d.n<=1000000:=by have:=h1.1;unfold Dk.n;omega
 unfold NK at*;by_cases h0:aK d a=0
 case neg=>
  have hE:=hE h0
  (repeat'((conv=>whnf);first|refine⟨_,hc,?_⟩|refine au h0 ?_|fail))<;>try(conv=>whnf)
  exact hE
 obtain⟨hT,hF⟩:=hG h0;have HH:=Bd h0;have vu:=(bZ (bc h0).1.rn).1;rw[h0]at hc
 (repeat'((conv=>whnf);first|refine⟨_,hc,?_⟩|refine aw (λh=>h rfl) ?_|fail))<;>try(conv=>whnf)
 refine⟨o,a,i,rfl,⟨ab,by rw[h3];exact HH,ab⟩,rfl,λo' ho=>?_,λho o' hl=>?_⟩
 ·(repeat'(refine iM ?_;first|refine⟨_,⟨_,_,rfl,rfl⟩,?_⟩|fail))<;>try(conv=>whnf)
  exact hT o' ho
 ·(repeat'(refine iM ?_;first|refine⟨_,⟨_,_,rfl,rfl⟩,?_⟩|fail))<;>try(conv=>whnf)
  exact hF ho o' hl
def apI{d:Dk}{o:List Int}{i:Int}{l:List At}{n:Nat}{a:At}(h:l[n]?=some a):FH d o i (l.drop n)=if aK d a≠0 then(i,aK d a)else match Wi o i (xM a.rn.l)with
 |none=>(i,13)
 |some o'=>FH d o' (i+1) (l.drop (n+1)):=by
 obtain⟨aU,rfl⟩:=zaa.1 h;rw[zcj aU];rfl
def akk(xs:List AV)(σ:aF)(K:AV->aF->Prop):Prop:=∃(d:Dk) (s q:Sl At) (o:List Int),xs=[.pv (D4 s),.clo 71 [.ref 0 0 0,.ref 1 0 0]]/\(fH d/\(∀a∈s.l,a.nm.length<=1000000)/\o.length=d.n/\s.l.length<=1000000)/\σ=[NK d q,.box 45 [.own 2],.row 3 1 true (o.map pI)]/\
 ∀o':List Int,K (.tup [.pv (pI (FH d o 0 s.l).1),.pv (pI (FH d o 0 s.l).2)]) [NK d q,.box 45 [.own 2],.row 3 1 true (o'.map pI)]
set_option maxHeartbeats 2000000 in
def anm:gO (ay [(71,sB ajO)]) l4 (sB akk):=by
 rintro _ _ K ⟨d,s,q,o,rfl,⟨h1,h2,h3,h4⟩,rfl,hK⟩;have gJ:(s.l.map At.pv).length=s.l.length:=zav _
 (repeat'((conv=>whnf);first|refine KP ?_|refine dq λ_=>?_|fail))<;>try(conv=>whnf)
 refine⟨λm env σ=>∃(n:Nat) (oc:List Int),(n+m=s.l.length/\oc.length=d.n/\FH d o 0 s.l=FH d oc n (s.l.drop n))/\σ=[NK d q,.box 45 [.own 2],.row 3 1 true (oc.map pI)]/\
  env=[(1,.clo 71 [.ref 0 0 0,.ref 1 0 0]),(9,.pv (D4 s)),eN 10 s.l.length,eN 11 n],s.l.length,⟨0,o,⟨ab,h3,rfl⟩,rfl,rfl⟩,?_⟩
 rintro m env σ ⟨n,oc,⟨hn,GV,hg⟩,rfl,rfl⟩;by_cases aU:n<s.l.length
 ·obtain⟨a,ha⟩:∃a,s.l[n]?=some a:=⟨_,zah aU⟩
  have qH:D4 s=.sl 11 (s.l.map At.pv):=by
   cases s with
   |nil=>cases ha
   |sl l=>rfl
  have Cd:=h2 a (zag ha);rw[apI ha]at hg;rw[qH]
  (repeat'((conv=>whnf);first|refine au ab ?_|refine iY aA ?_|refine bT ?_|fail))<;>try(conv=>whnf)
  refine⟨d,q,oc,n,a,rfl,⟨h1,Cd,GV⟩,rfl,λhE=>?_,λh0=>⟨λo' ho=>?_,λho o' hl=>?_⟩⟩
  ·rw[if_pos hE]at hg;rw[hg]at hK
   (repeat'((conv=>whnf);first|refine au hE ?_|fail))<;>try(conv=>whnf)
   exact hK oc
  ·rw[if_neg (λh=>h h0),ho]at hg
   (repeat'((conv=>whnf);first|refine aw (λh=>h rfl) ?_|refine bj ab ?_|fail))<;>try(conv=>whnf)
   exact⟨m-1,ab,n+1,o',⟨ab,(aeB _ ho).trans GV,by rw[zdL];exact hg⟩,rfl,rfl⟩
  ·rw[if_neg (λh=>h h0),ho]at hg;rw[hg]at hK
   (repeat'((conv=>whnf);first|refine au ao ?_|fail))<;>try(conv=>whnf)
   exact hK o'
 ·(repeat'((conv=>whnf);first|refine aw ab ?_|fail))<;>try(conv=>whnf)
  rw[zdC ab]at hg;rw[hg]at hK;exact hK oc
def n8(v:Vo):Prop:=fH v.d/\(∀a∈v.st.l,a.nm.length<=1000000)/\v.st.l.length<=1000000
noncomputable def ZX(v:Vo):Int×Int:=if gm v.d≠0 then(0,gm v.d)else if 8<v.st.l.length then(0,8)else FH v.d (Fu v.d) 0 v.st.l
def aco(ps:List PV)(r:RV):Prop:=∃v:Vo,ps=[v.pv]/\n8 v/\r=.tup [.pv (pI (ZX v).1),.pv (pI (ZX v).2)]
set_option maxHeartbeats 2000000 in
def abN:MT (ay [(67,ah dm),(68,ah dG),(66,ah gB),(69,c8 true UL),(71,sB ajO),(70,sB akk)]) E8 (c8 true aco):=by
 rintro _ K ⟨_,⟨v,rfl,⟨h1,h2,h3⟩,rfl⟩,hK⟩;obtain⟨d,s⟩:=v;have hd:dm [d.pv] (pI (gm d)):=⟨d,rfl,h1,rfl⟩
 have gJ:(s.l.map At.pv).length=s.l.length:=zav _;have f1:∀b:Bool,gm d≠0->bQ [gm d,if b=true then 0 else 8]=gm d:=λb h=>by simp[bQ,h]
 have f2:bQ [0,if true=true then 0 else 8]=0:=ao;have f3:bQ [0,if false=true then 0 else 8]=8:=ao;unfold ZX at hK;simp only at h2 h3 hK;by_cases h0:gm d=0
 case neg=>
  rw[if_pos h0]at hK
  (repeat'((conv=>whnf);first|refine⟨_,hd,?_⟩|refine KP ?_|(refine au (by rw[f1 _ h0];exact h0) ?_)|(refine fe ?_;first|refine de (λ_=>?_) (λ_=>?_)|refine bT ?_|refine⟨_,⟨_,_,rfl,rfl⟩,?_⟩|refine⟨_,⟨[_,_],rfl,rfl⟩,?_⟩|fail)))<;>try(conv=>whnf)
  ·rw[f1 _ h0];exact⟨[.pv (pI 0),.pv (pI (gm d))],⟨rfl,rfl,trivial⟩,⟨trivial,trivial,trivial⟩,hK⟩
  ·rw[f1 _ h0];exact⟨[.pv (pI 0),.pv (pI (gm d))],⟨rfl,rfl,trivial⟩,⟨trivial,trivial,trivial⟩,hK⟩
 rw[if_neg (λh=>h h0)]at hK;rw[h0]at hd;have hb:UL [d.pv] _:=⟨d,rfl,⟨h1,(rX h0).2.2⟩,rfl⟩
 clear f1;by_cases hl:8<s.l.length
 ·rw[if_pos hl]at hK;have cH:¬(((s.l.map At.pv).length:Nat):Int)<=8:=ab
  (repeat'((conv=>whnf);first|refine⟨_,hd,?_⟩|refine KP ?_|refine aw cH ?_|(refine au (by rw[f3];decide) ?_)|(refine fe ?_;first|refine bT ?_|refine⟨_,⟨_,_,rfl,rfl⟩,?_⟩|refine⟨_,⟨[_,_],rfl,rfl⟩,?_⟩|fail)))<;>try(conv=>whnf)
  rw[f3];exact⟨[.pv (pI 0),.pv (pI 8)],⟨rfl,rfl,trivial⟩,⟨trivial,trivial,trivial⟩,hK⟩
 ·rw[if_neg hl]at hK;have cH:(((s.l.map At.pv).length:Nat):Int)<=8:=ab
  (repeat'((conv=>whnf);first|refine⟨_,hd,?_⟩|refine KP ?_|refine au cH ?_|(refine aw (by rw[f2];decide) ?_)|refine⟨_,hb,?_⟩|(refine fe ?_;first|refine bT ?_|refine⟨_,⟨_,_,rfl,rfl⟩,?_⟩|refine⟨_,⟨[_,_],rfl,rfl⟩,?_⟩|fail)))<;>try(conv=>whnf)
  refine⟨d,s,s,Fu d,rfl,⟨h1,h2,ads d,h3⟩,rfl,λo'=>?_⟩
  (conv=>whnf)
  exact K0
section
noncomputable abbrev wX(v:Vo):Int:=(ZX v).2
open Classical in
noncomputable def LI(v:Vo)(i:Int):Int:=if wX v≠0 then wX v else if 0<=i/\i<=(v.st.l.length:Int)-1 then 0 else 6
open Classical in
def Cc{e c:Int}(b:Bool)(h:e≠0):bQ [e,if b=true then 0 else c]=e:=by simp[bQ,h]
def NO{c:Int}:bQ [0,if true=true then 0 else c]=0:=by simp[bQ]
def CB{c:Int}(h:c≠0):bQ [0,if false=true then 0 else c]=c:=by simp[bQ,h]
def q6(ps:List PV)(r:RV):Prop:=∃v:Vo,ps=[v.pv]/\n8 v/\r=.tup [.pv v.pv,.pv (pI (wX v))]
def acR:MT (ay [(20,c8 true aco)]) acd (c8 false q6):=by
 rintro _ K ⟨_,⟨v,rfl,h,rfl⟩,hK⟩;have hc:aco [v.pv] _:=⟨v,rfl,h,rfl⟩
 (repeat'((conv=>whnf);first|refine⟨_,hc,?_⟩|refine bT ?_|fail))<;>try(conv=>whnf)
 exact⟨[.pv v.pv,.pv (pI _)],⟨rfl,rfl,trivial⟩,trivial,hK⟩
def ZQ(ps:List PV)(r:RV):Prop:=∃(v:Vo) (i:Int),ps=[v.pv,pI i]/\n8 v/\r=.tup [.pv v.pv,.pv (pI (LI v i))]
def adu:MT (ay [(74,c8 false q6),(92,bF bG),(68,ah dG),(66,ah gB)]) Iu (c8 false ZQ):=by
 rintro _ K ⟨_,⟨v,i,rfl,h,rfl⟩,hK⟩;have hc:q6 [v.pv] _:=⟨v,rfl,h,rfl⟩
 have h3:=h.2.2;have gJ:(v.st.l.map At.pv).length=v.st.l.length:=zav _;unfold LI at hK;generalize wX v=E at*;by_cases he:E=0
 case neg=>
  rw[if_pos he]at hK
  (repeat'((conv=>whnf);first|refine⟨_,hc,?_⟩|refine KP ?_|refine⟨_,⟨_,_,_,rfl,rfl⟩,?_⟩|(refine fe ?_;first|refine bj ab ?_|refine de (λ_=>?_) (λ_=>?_)|refine bT ?_|refine⟨_,⟨_,_,rfl,rfl⟩,?_⟩|refine⟨_,⟨[_,_],rfl,rfl⟩,?_⟩|fail)))<;>try(conv=>whnf)
  all_goals
   rw[Cc _ he];exact⟨[.pv v.pv,.pv (pI _)],⟨rfl,rfl,trivial⟩,trivial,hK⟩
 subst he;rw[if_neg (λh=>h rfl)]at hK;by_cases hi:0<=i/\i<=(v.st.l.length:Int)-1
 ·rw[if_pos hi]at hK
  (repeat'((conv=>whnf);first|refine⟨_,hc,?_⟩|refine KP ?_|refine⟨_,⟨_,_,_,rfl,rfl⟩,?_⟩|refine au ab ?_|(refine fe ?_;first|refine bj ab ?_|refine bT ?_|refine⟨_,⟨_,_,rfl,rfl⟩,?_⟩|refine⟨_,⟨[_,_],rfl,rfl⟩,?_⟩|fail)))<;>try(conv=>whnf)
  rw[NO];exact⟨[.pv v.pv,.pv (pI _)],⟨rfl,rfl,trivial⟩,trivial,hK⟩
 ·rw[if_neg hi]at hK
  (repeat'((conv=>whnf);first|refine⟨_,hc,?_⟩|refine KP ?_|refine⟨_,⟨_,_,_,rfl,rfl⟩,?_⟩|refine aw ab ?_|(refine fe ?_;first|refine bj ab ?_|refine bT ?_|refine⟨_,⟨_,_,rfl,rfl⟩,?_⟩|refine⟨_,⟨[_,_],rfl,rfl⟩,?_⟩|fail)))<;>try(conv=>whnf)
  rw[CB ao];exact⟨[.pv v.pv,.pv (pI _)],⟨rfl,rfl,trivial⟩,trivial,hK⟩
end
def ac5(o:List Int)(i:Int):List At->List Int
 |[]=>o
 |a::r=>ac5 ((Wi o i (xM a.rn.l)).getD o) (i+1) r
def aeW{d:Dk}{o:List Int}{i:Int}{a:At}{r:List At}(h:(FH d o i (a::r)).2=0):aK d a=0∧∃o',Wi o i (xM a.rn.l)=some o'/\(FH d o' (i+1) r).2=0:=by
 unfold FH at h;by_cases h0:aK d a=0
 ·rw[if_neg (λg=>g h0)]at h;cases hg:Wi o i (xM a.rn.l)with
  |none=>rw[hg]at h;exact absurd (show(13:Int)=0 from h) ao
  |some o'=>rw[hg]at h;exact⟨h0,o',rfl,h⟩
 ·rw[if_pos h0]at h;exact absurd h h0
def drop_cons{α:Type}{l:List α}{n:Nat}{a:α}(h:l[n]?=some a):l.drop n=a::l.drop (n+1):=by
 obtain⟨aU,rfl⟩:=zaa.1 h;exact zcj aU
structure U1(v:Vo):Prop where
 b:n8 v
 dk:gm v.d=0
 len:v.st.l.length<=8
 ch:(FH v.d (Fu v.d) 0 v.st.l).2=0
def P0{v:Vo}(hb:n8 v)(h:wX v=0):U1 v:=by
 unfold wX ZX at h;split at h
 ·rename_i g;exact sF
 ·rename_i g;split at h
  ·exact absurd h ao
  ·exact⟨hb,zcY.1 g,ab,h⟩
def q4(v:Vo):List Int:=ac5 (Fu v.d) 0 v.st.l
def HB(ps:List PV)(r:RV):Prop:=∃v:Vo,ps=[v.pv]/\U1 v/\r=.fresh 3 1 ((q4 v).map pI)
set_option maxHeartbeats 2000000 in
def ajZ:MT (ay [(69,c8 true UL),(73,sB afc)]) AU (c8 true HB):=by
 rintro _ K ⟨_,⟨v,rfl,hv,rfl⟩,hK⟩;obtain⟨d,s⟩:=v;have hb:UL [d.pv] _:=⟨d,rfl,⟨hv.b.1,(rX hv.dk).2.2⟩,rfl⟩
 have hn:d.n<=1000000:=by have:=hv.b.1.1;unfold Dk.n;simp only at this;omega
 have gJ:(s.l.map At.pv).length=s.l.length:=zav _;have hlen:=hv.len;have UH:=hv.ch;unfold q4 at hK;simp only at hlen UH hK
 (repeat'((conv=>whnf);first|refine⟨_,hb,?_⟩|refine KP ?_|refine dq λ_=>?_|fail))<;>try(conv=>whnf)
 refine⟨λm env σ=>∃(n:Nat) (oc:List Int),(n+m=s.l.length/\oc.length=d.n/\(FH d oc n (s.l.drop n)).2=0/\ac5 (Fu d) 0 s.l=ac5 oc n (s.l.drop n))/\σ=[.row 3 1 true (oc.map pI)]/\
  env=[(3,.own 0),(12,.pv (D4 s)),eN 13 s.l.length,eN 14 n],s.l.length,⟨0,Fu d,⟨ab,ads d,UH,rfl⟩,rfl,rfl⟩,?_⟩
 rintro m env σ ⟨n,oc,⟨kp,GV,hc,hg⟩,rfl,rfl⟩;by_cases aU:n<s.l.length
 ·obtain⟨a,ha⟩:∃a,s.l[n]?=some a:=⟨_,zah aU⟩
  have qH:D4 s=.sl 11 (s.l.map At.pv):=by
   cases s with
   |nil=>cases ha
   |sl l=>rfl
  rw[drop_cons ha]at hc hg;obtain⟨h0,o',ho,WS⟩:=aeW hc;have jA:ac5 oc n (a::s.l.drop (n+1))=ac5 o' (n+1) (s.l.drop (n+1)):=by
   show ac5 ((Wi oc n (xM a.rn.l)).getD oc) _ _=_;rw[ho];rfl
  rw[jA]at hg;have HH:=Bd h0;have vu:=(bZ (bc h0).1.rn).1;rw[qH]
  (repeat'((conv=>whnf);first|refine au ab ?_|refine iY aA ?_|refine bT ?_|fail))<;>try(conv=>whnf)
  refine⟨oc,a,n,rfl,⟨ab,by rw[GV];exact HH,ab⟩,rfl,λo2 ho2=>?_,λtT=>by rw[ho]at tT;cases tT⟩;rw[ho]at ho2;cases ho2
  (repeat'((conv=>whnf);first|refine bj ab ?_|fail))<;>try(conv=>whnf)
  exact⟨m-1,ab,n+1,o',⟨ab,(aeB _ ho).trans GV,by rw[zdL];exact WS,by rw[zdL];exact hg⟩,rfl,rfl⟩
 ·(repeat'((conv=>whnf);first|refine aw ab ?_|fail))<;>try(conv=>whnf)
  rw[zdC ab]at hg;rw[hg]at hK;exact⟨.fresh _ _ _,⟨rfl,rfl,rfl,rfl⟩,dn _,hK⟩
def ajs(ps:List PV)(x:PV):Prop:=∃l:List Rn,ps=[.sl 2 (l.map Rn.pv)]/\(l.length<=100000∧∀r∈l,0<=r.n/\r.n<=100000)/\x=pI (bI l)
def agV{l:List Rn}(h:∀r∈l,0<=r.n/\r.n<=100000):0<=bI l/\bI l<=100000*(l.length:Int):=by
 induction l with
 |nil=>decide
 |cons a l ih=>
  have h1:=h a aj;have h2:=ih λr hr=>h r (by simp[hr])
  have e:bI (a::l)=a.n+bI l:=gS a l;rw[e,zam];omega
def aoW:MT (ay []) adB (ah ajs):=by
 rintro _ K ⟨_,⟨l,rfl,⟨h1,h2⟩,rfl⟩,hK⟩;have gJ:(l.map Rn.pv).length=l.length:=zav _
 (repeat'((conv=>whnf);first|refine dq λ_=>?_|fail))<;>try(conv=>whnf)
 refine⟨λm env σ=>∃n:Nat,n+m=l.length/\σ=[]/\env=[eN 3 (bI (l.take n)),(6,.pv (.sl 2 (l.map Rn.pv))),eN 7 l.length,eN 8 n],l.length,⟨0,ab,rfl,rfl⟩,?_⟩;rintro m env σ ⟨n,hn,rfl,rfl⟩;by_cases aU:n<l.length
 ·obtain⟨r,hr⟩:∃r,l[n]?=some r:=⟨_,zah aU⟩
  have tZ:=h2 r (zag hr);have hs:=aeq hr;have hb:=agV (l:=l.take n) λr hr=>h2 r (zaL hr)
  rw[zal]at hb;generalize bI (l.take n)=S at*
  (repeat'((conv=>whnf);first|refine au ab ?_|refine bj ab ?_|refine iY aA ?_|refine bT ?_|fail))<;>try(conv=>whnf)
  exact⟨m-1,ab,n+1,ab,rfl,by rw[hs];rfl⟩
 ·(repeat'((conv=>whnf);first|refine aw ab ?_|fail))<;>try(conv=>whnf)
  rw[za1 ab];exact aG
def cg(acc:List Rn)(r:Rn):List Rn:=if r.s= -1 then acc else match acc.getLast? with
 |some q=>if q.s+q.n=r.s then acc.dropLast++[⟨q.s,q.n+r.n⟩]else acc++[r]
 |none=>acc++[r]
def Yd(l:List Rn):List Rn:=l.foldl cg []
def CM(r:Rn):Prop:=0<=r.s/\0<=r.n/\r.s+r.n<=1000000
def aac{r:Rn}(h:r.s≠ -1):cg [] r=[r]:=by unfold cg;rw[if_neg h];rfl
def Sj{p:List Rn}{q r:Rn}(h:r.s≠ -1):cg (p++[q]) r=if q.s+q.n=r.s then p++[⟨q.s,q.n+r.n⟩]else p++[q]++[r]:=by
 unfold cg;rw[if_neg h,zdW,zdM];simp only[zd1,zd2,zdK]
def ay9{acc:List Rn}{r:Rn}(h:∀q∈acc,CM q)(hr:r.s= -1\/CM r):∀q∈cg acc r,CM q:=by
 by_cases hs:r.s= -1
 ·unfold cg;rw[if_pos hs];exact h
 have hr:=hr.resolve_left hs;rcases zdD acc with rfl|⟨p,q,rfl⟩
 ·rw[aac hs];intro x hx;rw[zc2]at hx;subst hx;exact hr
 ·rw[zdE]at h ⊢;rw[Sj hs];intro x hx;have hq:=h q aj;unfold CM at*;split at hx
  ·rename_i e;rcases zaA.1 hx with hx|hx
   ·exact h x iP
   ·rw[zc2]at hx;subst hx;simp only;omega
  ·rcases zaA.1 hx with hx|hx
   ·exact h x hx
   ·rw[zc2]at hx;subst hx;exact hr
def am0{l:List Rn}{n:Nat}{r:Rn}(h:l[n]?=some r):Yd (l.take (n+1))=cg (Yd (l.take n)) r:=by
 unfold Yd;rw[zcX,h,zdq,zdJ];rfl
def arw{l:List Rn}(h:∀r∈l,r.s= -1\/CM r):∀n,(∀q∈Yd (l.take n),CM q)/\(Yd (l.take n)).length<=n:=by
 intro n
 induction n with
 |zero=>exact⟨λq hq=>absurd hq (by simp[Yd]),by simp[Yd]⟩
 |succ n ih=>
  by_cases aU:n<l.length
  ·obtain⟨r,hr⟩:∃r,l[n]?=some r:=⟨_,zah aU⟩
   rw[am0 hr];refine⟨ay9 ih.1 (h r (zag hr)),?_⟩;generalize Yd (l.take n)=acc at*;by_cases hs:r.s= -1
   ·unfold cg;rw[if_pos hs];omega
   rcases zdD acc with rfl|⟨p,q,rfl⟩
   ·rw[aac hs];simp
   ·rw[zdE]at ih ⊢;rw[Sj hs];have:=ih.2;simp only[zad,zbS]at this;split<;>simp<;>omega
  ·rw[za1 ab];rw[za1 ab]at ih;exact⟨ih.1,ab⟩
def H7(ps:List PV)(r:RV):Prop:=∃(v:Vo) (i:Int) (a:At),ps=[v.pv,pI i]/\(0<=i/\v.st.l[i.toNat]?=some a/\a.rn.l.length<=100000∧∀r∈a.rn.l,r.s= -1\/CM r)/\r=.fresh 37 2 ((Yd a.rn.l).map Rn.pv)
set_option maxHeartbeats 2000000 in
def afX:MT (ay []) AT (c8 true H7):=by
 rintro _ K ⟨_,⟨v,i,a,rfl,⟨h0,ha,h1,h2⟩,rfl⟩,hK⟩;obtain⟨d,s⟩:=v;simp only at ha;have qH:D4 s=.sl 11 (s.l.map At.pv):=by
  cases s with
  |nil=>cases ha
  |sl l=>rfl
 have vt:(s.l.map At.pv)[i.toNat]?=some a.pv:=by rw[za9,ha];rfl
 have gJ:(a.rn.l.map Rn.pv).length=a.rn.l.length:=zav _;have hv:Vo.pv ⟨d,s⟩=.agg [.str d.a_,.str d.mp,.sl 11 (s.l.map At.pv)]:=by unfold Vo.pv;rw[qH]
 rw[hv]
 (repeat'((conv=>whnf);first|refine⟨_,⟨h0,vt⟩,?_⟩|refine KP ?_|refine dq λ_=>?_|fail))<;>try(conv=>whnf)
 refine⟨λm env σ=>∃n:Nat,n+m=a.rn.l.length/\σ=[.row 37 2 true ((Yd (a.rn.l.take n)).map Rn.pv)]/\env=[(5,.own 0),(15,.pv (qF a.rn)),eN 16 a.rn.l.length,eN 17 n],a.rn.l.length,⟨0,ab,rfl,rfl⟩,?_⟩;rintro m env σ ⟨n,hn,rfl,rfl⟩;by_cases aU:n<a.rn.l.length
 case neg=>
  (repeat'((conv=>whnf);first|refine aw ab ?_|fail))<;>try(conv=>whnf)
  rw[za1 ab];exact vj
 obtain⟨r,hr⟩:∃r,a.rn.l[n]?=some r:=⟨_,zah aU⟩
 have c_:qF a.rn=.sl 2 (a.rn.l.map Rn.pv):=by
  cases h:a.rn with
  |nil=>rw[h]at hr;cases hr
  |sl l=>rfl
 have JA:=h2 r (zag hr);have ht:=am0 hr;obtain⟨hb,Gn⟩:=arw h2 n;generalize Yd (a.rn.l.take n)=acc at*;have kf:(acc.map Rn.pv).length=acc.length:=zav _;rw[c_];by_cases hs:r.s= -1
 ·have e:cg acc r=acc:=by unfold cg;rw[if_pos hs]
  (repeat'((conv=>whnf);first|refine au ab ?_|refine bj ab ?_|refine dq λ_=>?_|refine iY aA ?_|refine bT ?_|fail))<;>try(conv=>whnf)
  exact⟨m-1,ab,n+1,ab,by rw[ht,e],rfl⟩
 have JA:=JA.resolve_left hs;unfold CM at JA;rcases zdD acc with rfl|⟨p,q,rfl⟩
 ·rw[aac hs]at ht
  (repeat'((conv=>whnf);first|refine au ab ?_|refine aw hs ?_|refine zcB (by simp;first|done|fail) ?_|refine bj ab ?_|refine aw ao ?_|refine dq λ_=>?_|refine iY aA ?_|refine bT ?_|fail))<;>try(conv=>whnf)
  exact⟨m-1,ab,n+1,ab,by rw[ht];rfl,rfl⟩
 ·simp only[zdE]at*;rw[Sj hs]at ht;have hq:=hb q aj;unfold CM at hq;have qG:(p++[q]).length=p.length+1:=aj;have XM:(((p++[q]).length:Int)-1).toNat=p.length:=ab;have hgq:((p++[q]).map Rn.pv)[(((p++[q]).length:Int)-1).toNat]?=some q.pv:=by
   rw[XM,za9,zak (zai _),zck];rfl
  have Jq:∀x:Rn,((p++[q]).map Rn.pv).set (((p++[q]).length:Int)-1).toNat x.pv=(p++[x]).map Rn.pv:=λx=>by
   rw[XM,zbu,zcF _ _ aj];simp
  (repeat'((conv=>whnf);first|refine au ab ?_|refine aw hs ?_|refine zcB ⟨ab,ab⟩ ?_|refine⟨_,hgq,?_⟩|refine bj ab ?_|refine de (λ_=>?_) (λ_=>?_)|refine dq λ_=>?_|refine iY aA ?_|refine bT ?_|refine zcB cu ?_|fail))<;>try(conv=>whnf)
  ·rename_i x;rw[if_pos x]at ht;exact⟨m-1,ab,n+1,ab,by rw[ht];exact congrArg (λy=>[dC.row 37 2 true y]) (Jq ⟨q.s,q.n+r.n⟩),rfl⟩
  ·rename_i x;rw[if_neg x]at ht;exact⟨m-1,ab,n+1,ab,by rw[ht,zbu (l₂:=[r])];rfl,rfl⟩
section
def cO(acc:List Rn)(c:Int):List Rn:=match acc.getLast? with
 |some q=>if q.s+q.n=c then acc.dropLast++[⟨q.s,q.n+1⟩]else acc++[⟨c,1⟩]
 |none=>acc++[⟨c,1⟩]
def Hu(c:Int):cO [] c=[⟨c,1⟩]:=rfl
def xw(p:List Rn)(q:Rn)(c:Int):cO (p++[q]) c=if q.s+q.n=c then p++[⟨q.s,q.n+1⟩]else p++[q]++[⟨c,1⟩]:=by
 unfold cO;rw[zdW,zdM];simp only[zd1,zd2,zdK]
open Classical in
noncomputable def ae(P:Nat->Prop):Nat->List Rn
 |0=>[]
 |n+1=>if P n then cO (ae P n) n else ae P n
def N0{P:Nat->Prop}{n:Nat}(h:P n):ae P (n+1)=cO (ae P n) n:=if_pos h
def GJ{P:Nat->Prop}{n:Nat}(h:¬P n):ae P (n+1)=ae P n:=if_neg h
def ah9(P:Nat->Prop)(n:Nat):(∀q∈ae P n,0<=q.s/\1<=q.n/\q.s+q.n<=n)/\(ae P n).length<=n:=by
 induction n with
 |zero=>exact⟨λq hq=>absurd hq (by simp[ae]),by simp[ae]⟩
 |succ n ih=>
  by_cases h:P n
  ·rw[N0 h];generalize ae P n=acc at*;rcases zdD acc with rfl|⟨p,q,rfl⟩
   ·rw[Hu];refine⟨λq hq=>?_,aj⟩;rw[zc2]at hq;subst hq;simp only;omega
   ·simp only[zdE]at*;have hq:=ih.1 q aj;rw[xw];split
    ·rename_i e;refine⟨λx hx=>?_,by have:=ih.2;simp at this ⊢;omega⟩;rcases zaA.1 hx with hx|hx
     ·have:=ih.1 x iP;omega
     ·rw[zc2]at hx;subst hx;simp only;omega
    ·refine⟨λx hx=>?_,by have:=ih.2;simp at this ⊢;omega⟩;rcases zaA.1 hx with hx|hx
     ·have:=ih.1 x hx;omega
     ·rw[zc2]at hx;subst hx;simp only;omega
  ·rw[GJ h];exact⟨λq hq=>by have:=ih.1 q hq;omega,ab⟩
inductive aw8:PV->(Int->Prop)->Prop where
 |any:aw8 (.clo 77 []) λ_=>True
 |out (t:Rn) (h:(-1000000<=t.s/\t.s<=1000000)/\(-1000000<=t.n/\t.n<=1000000)):aw8 (.clo 103 [.cptr t.pv]) λc=>¬(t.s<=c/\c<=t.s+t.n-1)
def amX(ps:List PV)(p:Prop):Prop:=∃c:Int,ps=[pI c]/\p=True
def agR:MT (ay []) NU (bF amX):=by
 rintro _ K ⟨_,⟨c,rfl,rfl⟩,hK⟩
 (conv=>whnf)
 exact⟨.pv (.bool _),rfl,trivial,hK _ aj⟩
def ajL(ps:List PV)(p:Prop):Prop:=∃(c:Int) (t:Rn),ps=[pI c,.cptr t.pv]/\((-1000000<=t.s/\t.s<=1000000)/\(-1000000<=t.n/\t.n<=1000000))/\p=¬(t.s<=c/\c<=t.s+t.n-1)
def XI:MT (ay [(92,bF bG)]) Dm (bF ajL):=by
 rintro _ K ⟨_,⟨c,t,rfl,h,rfl⟩,hK⟩
 (repeat'((conv=>whnf);first|refine⟨_,⟨_,_,_,rfl,rfl⟩,?_⟩|refine bj ab ?_|refine aN ?_|refine bP ?_|refine de (λ_=>?_) (λ_=>?_)|fail))<;>try(conv=>whnf)
 all_goals exact YS
end
def akO:∀(l:List At) (o:List Int) (i:Int),(ac5 o i l).length=o.length
 |[],o,i=>rfl
 |a::r,o,i=>by
  show(ac5 ((Wi o i (xM a.rn.l)).getD o) (i+1) r).length=o.length;rw[akO r];cases h:Wi o i (xM a.rn.l)with
  |none=>rfl
  |some o'=>exact aeB _ h
def yx(v:Vo):(q4 v).length=v.d.n:=by unfold q4;rw[akO,ads]
def aqZ(v:Vo)(Q:Int->Prop)(c:Nat):Prop:=(q4 v)[c]?=some (-1)/\Q c
def aeM(ps:List PV)(r:RV):Prop:=∃(v:Vo) (F:PV) (Q:Int->Prop),ps=[v.pv,F]/\(U1 v/\aw8 F Q)/\r=.fresh 37 2 ((ae (aqZ v Q) (q4 v).length).map Rn.pv)
set_option maxHeartbeats 4000000 in
def akP:MT (ay [(75,c8 true HB),(77,bF amX),(103,bF ajL)]) Ey (c8 true aeM):=by
 rintro _ K ⟨_,⟨v,F,Q,rfl,⟨hv,hF⟩,rfl⟩,hK⟩;have hw:HB [v.pv] _:=⟨v,rfl,hv,rfl⟩
 have hlO:(q4 v).length<=1000000:=by rw[yx];have:=hv.b.1.1;unfold Dk.n;omega
 have awp:∀n,aqZ v Q n↔(q4 v)[n]?=some (-1)/\Q n:=λn=>Iff.rfl
 generalize aqZ v Q=P at*;generalize q4 v=O at*;have hOl:(O.map pI).length=O.length:=zav _;rcases hF with _|⟨t,htb⟩
 ·have hq:∀n:Nat,amX [pI n] True:=λn=>⟨n,rfl,rfl⟩
  (repeat'((conv=>whnf);first|refine⟨_,hw,?_⟩|refine dq λ_=>?_|fail))<;>try(conv=>whnf)
  refine⟨λm env σ=>∃n:Nat,n+m=O.length/\σ=[.row 37 2 true ((ae P n).map Rn.pv),.row 3 1 true (O.map pI)]/\env=[(1,.pv (.clo 77 [])),(5,.own 0),(10,.own 1),eN 11 O.length,eN 12 n],O.length,⟨0,ab,rfl,rfl⟩,?_⟩;rintro m env σ ⟨n,hn,rfl,rfl⟩;by_cases aU:n<O.length
  case neg=>
   (repeat'((conv=>whnf);first|refine aw ab ?_|fail))<;>try(conv=>whnf)
   have:n=O.length:=ab;subst this;exact vj
  obtain⟨x,hx⟩:∃x,O[n]?=some x:=⟨_,zah aU⟩
  have Wk:(O.map pI)[(n:Int).toNat]?=some (pI x):=by rw[zaC,za9,hx];rfl
  have PU:P n↔x= -1/\True:=by
   rw[awp];constructor
   ·rintro⟨h1,h2⟩;rw[hx]at h1;cases h1;exact⟨rfl,h2⟩
   ·rintro⟨h1,h2⟩;subst h1;exact⟨hx,h2⟩
  have rD:=hq n;obtain⟨hb,Gn⟩:=ah9 P n;by_cases I_:x= -1
  case neg=>
   have ht:=GJ (P:=P) (n:=n) λh=>I_ (PU.1 h).1
   generalize ae P n=acc at*
   (repeat'((conv=>whnf);first|refine au ab ?_|refine zcB ⟨ab,ab⟩ ?_|refine⟨_,Wk,?_⟩|refine bj ab ?_|fail))<;>try(conv=>whnf)
   exact⟨m-1,ab,n+1,ab,by rw[ht],rfl⟩
  by_cases hQ:True
  case neg=>
   have ht:=GJ (P:=P) (n:=n) λh=>hQ (PU.1 h).2
   generalize ae P n=acc at*
   (repeat'((conv=>whnf);first|refine au ab ?_|refine zcB ⟨ab,ab⟩ ?_|refine⟨_,Wk,?_⟩|refine aw (λh=>h I_) ?_|refine⟨_,rD,?_⟩|refine aw hQ ?_|refine bj ab ?_|refine bP ?_|fail))<;>try(conv=>whnf)
   exact⟨m-1,ab,n+1,ab,by rw[ht],rfl⟩
  have ht:=N0 (P:=P) (n:=n) (PU.2 ⟨I_,hQ⟩);generalize ae P n=acc at*;rcases zdD acc with rfl|⟨p,q,rfl⟩
  ·rw[Hu]at ht
   (repeat'((conv=>whnf);first|refine au ab ?_|refine zcB ⟨ab,ab⟩ ?_|refine⟨_,Wk,?_⟩|refine aw (λh=>h I_) ?_|refine⟨_,rD,?_⟩|refine zcB (by simp;first|done|fail) ?_|refine bj ab ?_|refine aN ?_|refine aw ao ?_|refine dq λ_=>?_|refine bT ?_|fail))<;>try(conv=>whnf)
   exact⟨m-1,ab,n+1,ab,by rw[ht];rfl,rfl⟩
  ·simp only[zdE]at*;rw[xw]at ht;have jx:=hb q aj;have qG:(p++[q]).length=p.length+1:=aj;have XM:(((p++[q]).length:Int)-1).toNat=p.length:=ab;have kf:((p++[q]).map Rn.pv).length=(p++[q]).length:=zav _;have hgq:((p++[q]).map Rn.pv)[(((p++[q]).length:Int)-1).toNat]?=some q.pv:=by
    rw[XM,za9,zak (zai _),zck];rfl
   have Jq:∀x:Rn,((p++[q]).map Rn.pv).set (((p++[q]).length:Int)-1).toNat x.pv=(p++[x]).map Rn.pv:=λx=>by
    rw[XM,zbu,zcF _ _ aj];simp
   (repeat'((conv=>whnf);first|refine au ab ?_|refine zcB ⟨ab,ab⟩ ?_|refine⟨_,Wk,?_⟩|refine aw (λh=>h I_) ?_|refine⟨_,rD,?_⟩|refine⟨_,hgq,?_⟩|refine bj ab ?_|refine aN ?_|refine de (λ_=>?_) (λ_=>?_)|refine dq λ_=>?_|refine bT ?_|refine zcB cu ?_|fail))<;>try(conv=>whnf)
   ·rename_i y;rw[if_pos y]at ht;exact⟨m-1,ab,n+1,ab,by rw[ht];exact congrArg (λy=>[dC.row 37 2 true y,_]) (Jq ⟨q.s,q.n+1⟩),rfl⟩
   ·rename_i y;rw[if_neg y]at ht;exact⟨m-1,ab,n+1,ab,by rw[ht,zbu (l₁:=p++[q]) (l₂:=[⟨(n:Int),1⟩])];rfl,rfl⟩
 ·have hq:∀n:Nat,ajL [pI n,.cptr t.pv] (¬(t.s<=n/\(n:Int)<=t.s+t.n-1)):=λn=>⟨n,t,rfl,htb,rfl⟩
  (repeat'((conv=>whnf);first|refine⟨_,hw,?_⟩|refine dq λ_=>?_|fail))<;>try(conv=>whnf)
  refine⟨λm env σ=>∃n:Nat,n+m=O.length/\σ=[.row 37 2 true ((ae P n).map Rn.pv),.row 3 1 true (O.map pI)]/\env=[(1,.pv (.clo 103 [.cptr t.pv])),(5,.own 0),(10,.own 1),eN 11 O.length,eN 12 n],O.length,⟨0,ab,rfl,rfl⟩,?_⟩;rintro m env σ ⟨n,hn,rfl,rfl⟩;by_cases aU:n<O.length
  case neg=>
   (repeat'((conv=>whnf);first|refine aw ab ?_|fail))<;>try(conv=>whnf)
   have:n=O.length:=ab;subst this;exact vj
  obtain⟨x,hx⟩:∃x,O[n]?=some x:=⟨_,zah aU⟩
  have Wk:(O.map pI)[(n:Int).toNat]?=some (pI x):=by rw[zaC,za9,hx];rfl
  have PU:P n↔x= -1∧¬(t.s<=n/\(n:Int)<=t.s+t.n-1):=by
   rw[awp];constructor
   ·rintro⟨h1,h2⟩;rw[hx]at h1;cases h1;exact⟨rfl,h2⟩
   ·rintro⟨h1,h2⟩;subst h1;exact⟨hx,h2⟩
  have rD:=hq n;obtain⟨hb,Gn⟩:=ah9 P n;by_cases I_:x= -1
  case neg=>
   have ht:=GJ (P:=P) (n:=n) λh=>I_ (PU.1 h).1
   generalize ae P n=acc at*
   (repeat'((conv=>whnf);first|refine au ab ?_|refine zcB ⟨ab,ab⟩ ?_|refine⟨_,Wk,?_⟩|refine bj ab ?_|fail))<;>try(conv=>whnf)
   exact⟨m-1,ab,n+1,ab,by rw[ht],rfl⟩
  by_cases hQ:¬(t.s<=n/\(n:Int)<=t.s+t.n-1)
  case neg=>
   have ht:=GJ (P:=P) (n:=n) λh=>hQ (PU.1 h).2
   generalize ae P n=acc at*
   (repeat'((conv=>whnf);first|refine au ab ?_|refine zcB ⟨ab,ab⟩ ?_|refine⟨_,Wk,?_⟩|refine aw (λh=>h I_) ?_|refine⟨_,rD,?_⟩|refine aw hQ ?_|refine bj ab ?_|refine bP ?_|fail))<;>try(conv=>whnf)
   exact⟨m-1,ab,n+1,ab,by rw[ht],rfl⟩
  have ht:=N0 (P:=P) (n:=n) (PU.2 ⟨I_,hQ⟩);generalize ae P n=acc at*;rcases zdD acc with rfl|⟨p,q,rfl⟩
  ·rw[Hu]at ht
   (repeat'((conv=>whnf);first|refine au ab ?_|refine zcB ⟨ab,ab⟩ ?_|refine⟨_,Wk,?_⟩|refine aw (λh=>h I_) ?_|refine⟨_,rD,?_⟩|refine zcB (by simp;first|done|fail) ?_|refine bj ab ?_|refine aN ?_|refine aw ao ?_|refine dq λ_=>?_|refine bT ?_|fail))<;>try(conv=>whnf)
   exact⟨m-1,ab,n+1,ab,by rw[ht];rfl,rfl⟩
  ·simp only[zdE]at*;rw[xw]at ht;have jx:=hb q aj;have qG:(p++[q]).length=p.length+1:=aj;have XM:(((p++[q]).length:Int)-1).toNat=p.length:=ab;have kf:((p++[q]).map Rn.pv).length=(p++[q]).length:=zav _;have hgq:((p++[q]).map Rn.pv)[(((p++[q]).length:Int)-1).toNat]?=some q.pv:=by
    rw[XM,za9,zak (zai _),zck];rfl
   have Jq:∀x:Rn,((p++[q]).map Rn.pv).set (((p++[q]).length:Int)-1).toNat x.pv=(p++[x]).map Rn.pv:=λx=>by
    rw[XM,zbu,zcF _ _ aj];simp
   (repeat'((conv=>whnf);first|refine au ab ?_|refine zcB ⟨ab,ab⟩ ?_|refine⟨_,Wk,?_⟩|refine aw (λh=>h I_) ?_|refine⟨_,rD,?_⟩|refine⟨_,hgq,?_⟩|refine bj ab ?_|refine aN ?_|refine de (λ_=>?_) (λ_=>?_)|refine dq λ_=>?_|refine bT ?_|refine zcB cu ?_|fail))<;>try(conv=>whnf)
   ·rename_i y;rw[if_pos y]at ht;exact⟨m-1,ab,n+1,ab,by rw[ht];exact congrArg (λy=>[dC.row 37 2 true y,_]) (Jq ⟨q.s,q.n+1⟩),rfl⟩
   ·rename_i y;rw[if_neg y]at ht;exact⟨m-1,ab,n+1,ab,by rw[ht,zbu (l₁:=p++[q]) (l₂:=[⟨(n:Int),1⟩])];rfl,rfl⟩
section
def Np(ps:List PV)(r:RV):Prop:=∃s:Sl At,ps=[D4 s]/\s.l.length<=100000/\r=.fresh 41 11 (s.l.map At.pv)
def ajh:MT (ay []) dc (c8 false Np):=by
 rintro _ K ⟨_,⟨s,rfl,h,rfl⟩,hK⟩;cases s with
 |nil=>
  (conv=>whnf)
  exact⟨.fresh _ _ _,⟨rfl,rfl,rfl,rfl⟩,trivial,hK⟩
 |sl l=>
  have hl:(l.map At.pv).length<=100000:=by rw[zav];exact h
  have aJO:([]:List PV)++l.map At.pv=l.map At.pv:=zaZ _
  (conv=>whnf)
  refine λb hb=>?_
  cases b with
  |true=>
   have hl:l=[]:=by
    cases l with
    |nil=>rfl
    |cons x r=>exact absurd (hb aj) ao
   subst hl
   (conv=>whnf)
   exact⟨.fresh _ _ _,⟨rfl,rfl,rfl,rfl⟩,trivial,hK⟩
  |false=>
   (repeat'((conv=>whnf);first|refine zcB (by simp only[zaY,Nat.zero_add];omega) ?_|refine bT ?_|fail))<;>try(conv=>whnf)
   exact⟨.fresh _ _ _,⟨rfl,rfl,rfl,rfl⟩,trivial,hK⟩
def rl(v:Vo)(d:Dk)(i:Nat)(a:At):Vo:=⟨d,.sl (v.st.l.set i a)⟩
def GC(ps:List PV)(r:RV):Prop:=∃(v:Vo) (d:Dk) (i:Int) (a:At),ps=[v.pv,d.pv,pI i,a.pv]/\((0<=i/\i.toNat<v.st.l.length)/\v.st.l.length<=100000)/\r=.pv (rl v d i.toNat a).pv
def amd:MT (ay [(134,c8 false Np)]) D3 (c8 false GC):=by
 rintro _ K ⟨_,⟨v,d,i,a,rfl,⟨⟨h1,h2⟩,h3⟩,rfl⟩,hK⟩;have hc:Np [D4 v.st] _:=⟨v.st,rfl,h3,rfl⟩
 have hl:(v.st.l.map At.pv).length=v.st.l.length:=zav _;obtain⟨b,hb⟩:∃b,v.st.l[i.toNat]?=some b:=⟨_,zah h2⟩
 have hg:(v.st.l.map At.pv)[i.toNat]?=some b.pv:=by rw[za9,hb];rfl
 have hs:(v.st.l.map At.pv).set i.toNat a.pv=(v.st.l.set i.toNat a).map At.pv:=by rw[zdh]
 (repeat'((conv=>whnf);first|refine⟨_,hc,?_⟩|refine zcB ⟨ab,ab⟩ ?_|refine⟨_,hg,?_⟩|refine bT ?_|fail))<;>try(conv=>whnf)
 have e:(rl v d i.toNat a).pv=.agg [.str d.a_,.str d.mp,.sl 11 ((v.st.l.map At.pv).set i.toNat a.pv)]:=by rw[hs];rfl
 rw[e]at hK;exact FI
structure Mv where
 k:Int
 p:Int
 t:Rn
def Mv.pv(m:Mv):PV:=.agg [pI m.k,pI m.p,pI m.t.s,pI m.t.n]
def ni(v:Vo)(k:Int):At:=v.st.l[k.toNat]?.getD zA
open Classical in
noncomputable def ub(v:Vo)(m:Mv):Int:=if ¬(0<=m.k/\m.k<=(v.st.l.length:Int)-1)then 6 else dJ v.d (ni v m.k) m.p m.t
noncomputable def nX(v:Vo)(m:Mv):Vo:=if ub v m≠0 then v else rl v (jM v.d (ni v m.k) m.p m.t) m.k.toNat (jG v.d (ni v m.k) m.p m.t)
def voS(v:Vo):Prop:=wU v.d/\v.st.l.length<=100000∧∀a∈v.st.l,a.nm.length<=1000000
def Lq(ps:List PV)(r:RV):Prop:=∃(v:Vo) (m:Mv),ps=[v.pv,m.pv]/\voS v/\r=.tup [.pv (nX v m).pv,.pv (pI (ub v m))]
set_option maxHeartbeats 2000000 in
def akA:MT (ay [(92,bF bG),(101,c8 false W9),(100,c8 false GC)]) Cb (c8 false Lq):=by
 rintro _ K ⟨_,⟨v,m,rfl,⟨h1,h2,h3⟩,rfl⟩,hK⟩;have hl:(v.st.l.map At.pv).length=v.st.l.length:=zav _;by_cases hk:0<=m.k/\m.k<=(v.st.l.length:Int)-1
 case neg=>
  have e1:ub v m=6:=by unfold ub;rw[if_pos hk]
  have e2:nX v m=v:=by unfold nX;rw[e1,if_pos ao]
  rw[e1,e2]at hK
  (repeat'((conv=>whnf);first|refine KP ?_|refine⟨_,⟨_,_,_,rfl,rfl⟩,?_⟩|refine aw ab ?_|refine bj ab ?_|refine bP ?_|refine dq λ_=>?_|refine bT ?_|fail))<;>try(conv=>whnf)
  exact⟨[.pv v.pv,.pv (pI 6)],⟨rfl,rfl,trivial⟩,trivial,hK⟩
 obtain⟨b,hb⟩:∃b,v.st.l[m.k.toNat]?=some b:=⟨_,zah ab⟩
 have qH:D4 v.st=.sl 11 (v.st.l.map At.pv):=by
  cases h:v.st with
  |nil=>rw[h]at hb;cases hb
  |sl l=>rfl
 have hg:(v.st.l.map At.pv)[m.k.toNat]?=some b.pv:=by rw[za9,hb];rfl
 have uk:W9 [v.d.pv,b.pv,pI m.p,m.t.pv] _:=⟨v.d,b,m.p,m.t,rfl,⟨h1,h3 b (zag hb)⟩,rfl⟩
 have e0:ni v m.k=b:=by unfold ni;rw[hb];rfl
 have e1:ub v m=dJ v.d b m.p m.t:=by unfold ub;rw[if_neg (λh=>h hk),e0]
 have e2:nX v m=if dJ v.d b m.p m.t≠0 then v else rl v (jM v.d b m.p m.t) m.k.toNat (jG v.d b m.p m.t):=by unfold nX;rw[e1,e0]
 have Lk:GC [v.pv,(jM v.d b m.p m.t).pv,pI m.k,(jG v.d b m.p m.t).pv] _:=⟨v,_,m.k,_,rfl,⟨⟨hk.1,ab⟩,h2⟩,rfl⟩
 have hv:v.pv=.agg [.str v.d.a_,.str v.d.mp,.sl 11 (v.st.l.map At.pv)]:=by unfold Vo.pv;rw[qH]
 rw[e1,e2]at hK;rw[hv]at Lk;rw[hv];clear e0 e1 e2;generalize dJ v.d b m.p m.t=E at*;generalize jM v.d b m.p m.t=D at*;generalize jG v.d b m.p m.t=A at*;by_cases hE:E=0
 ·rw[if_neg (λh=>h hE)]at hK
  (repeat'((conv=>whnf);first|refine⟨_,⟨_,_,_,rfl,rfl⟩,?_⟩|refine au hk ?_|refine⟨_,⟨hk.1,hg⟩,?_⟩|refine⟨_,uk,?_⟩|refine aw (λh=>h hE) ?_|refine⟨_,Lk,?_⟩|refine bj ab ?_|refine aN ?_|refine dq λ_=>?_|refine bT ?_|fail))<;>try(conv=>whnf)
  rw[hE]at hK;exact⟨[.pv (rl v D m.k.toNat A).pv,.pv (pI 0)],⟨rfl,rfl,trivial⟩,trivial,hK⟩
 ·rw[if_pos hE]at hK
  (repeat'((conv=>whnf);first|refine⟨_,⟨_,_,_,rfl,rfl⟩,?_⟩|refine au hk ?_|refine⟨_,⟨hk.1,hg⟩,?_⟩|refine⟨_,uk,?_⟩|refine au hE ?_|refine bj ab ?_|refine aN ?_|refine dq λ_=>?_|refine bT ?_|fail))<;>try(conv=>whnf)
  rw[hv]at hK;exact⟨[.pv _,.pv (pI E)],⟨rfl,rfl,trivial⟩,trivial,hK⟩
end
def Zv{d:Dk}{a:At}{p:Int}{t:Rn}(h:dJ d a p t=0):aK d a=0:=by
 unfold dJ at h;split at h
 ·rename_i g;exact sF
 ·rename_i g;exact K6
def azb{v:Vo}(h:voS v)(m:Mv):voS (nX v m):=by
 by_cases he:ub v m=0
 case neg=>unfold nX;rw[if_pos he];exact h
 have e:nX v m=rl v (jM v.d (ni v m.k) m.p m.t) m.k.toNat (jG v.d (ni v m.k) m.p m.t):=by unfold nX;rw[if_neg (λg=>g he)]
 rw[e];have hk:0<=m.k/\m.k<=(v.st.l.length:Int)-1:=by
  apply Classical.byContradiction;intro g;unfold ub at he;rw[if_pos g]at he;exact absurd he ao
 have hm:dJ v.d (ni v m.k) m.p m.t=0:=by unfold ub at he;rw[if_neg (λg=>g hk)]at he;exact he
 obtain⟨b,hb⟩:∃b,v.st.l[m.k.toNat]?=some b:=⟨_,zah ab⟩
 have eb:ni v m.k=b:=by unfold ni;rw[hb];rfl
 rw[eb]at hm ⊢;have hn:=h.2.2 b (zag hb);have ml:=aBQ (Zv hm) h.1 hn hm;refine⟨?_,by show(v.st.l.set _ _).length<=_;rw[za0];exact h.2.1,λa ha=>?_⟩
 ·show wU (jM v.d b m.p m.t);rw[ml.D];exact atK ml.op ml.len.symm h.1
 ·rcases zdF (show a∈v.st.l.set _ _ from ha)with ha|rfl
  ·exact h.2.2 a ha
  ·rw[ml.A];exact hn
def boW(v:Vo):dC:=.box 110 [.pv (.str v.d.a_),.pv (.str v.d.mp),.pv (D4 v.st)]
def bp(v:Vo):Vo:=⟨v.d,.sl (v.st.l.map aB)⟩
def Ks(ps:List PV)(r:RV):Prop:=∃v:Vo,ps=[v.pv]/\(v.st.l.length<=100000∧∀a∈v.st.l,a.rn.l.length<=1000000)/\r=.pv (bp v).pv
def NA(l:List At)(n:Nat):List At:=(l.take n).map aB++l.drop n
def aq9(l:List At)(n:Nat):(NA l n).length=l.length:=by unfold NA;simp;omega
def aqY{l:List At}{n:Nat}{a:At}(h:l[n]?=some a):(NA l n)[n]?=some a:=by
 have aU:=(zaa.1 h).1;unfold NA;rw[zak aH,zaB,<-h];congr 1;simp;omega
def aqy{l:List At}{n:Nat}{a:At}(h:l[n]?=some a):(NA l n).set n (aB a)=NA l (n+1):=by
 have aU:=(zaa.1 h).1;unfold NA;rw[zcF _ _ aH,drop_cons h,zcX,h];have e:n-((l.take n).map aB).length=0:=aH;rw[e,List.set_cons_zero];simp
set_option maxHeartbeats 2000000 in
def aoy:MT (ay [(134,c8 false Np),(135,c8 true YI)]) H_ (c8 false Ks):=by
 rintro _ K ⟨_,⟨v,rfl,⟨h1,h2⟩,rfl⟩,hK⟩;have hc:Np [D4 v.st] _:=⟨v.st,rfl,h1,rfl⟩
 have gJ:(v.st.l.map At.pv).length=v.st.l.length:=zav _
 (repeat'((conv=>whnf);first|refine⟨_,hc,?_⟩|refine dq λ_=>?_|refine bT ?_|fail))<;>try(conv=>whnf)
 refine⟨λm env σ=>∃n:Nat,n+m=v.st.l.length/\σ=[.box 26 [.pv (.str []),.pv (.str []),.pv (.nil 11)],.box 26 [.pv (.str v.d.a_),.pv (.str v.d.mp),.own 2],.row 41 11 true ((NA v.st.l n).map At.pv)]/\
  env=[(2,.ref 0 0 0),(3,.ref 1 0 0),(14,.own 2),eN 15 v.st.l.length,eN 16 n],v.st.l.length,⟨0,ab,by unfold NA;rfl,rfl⟩,?_⟩
 rintro m env σ ⟨n,hn,rfl,rfl⟩;by_cases aU:n<v.st.l.length
 case neg=>
  (repeat'((conv=>whnf);first|refine aw ab ?_|refine bT ?_|fail))<;>try(conv=>whnf)
  have e:NA v.st.l n=v.st.l.map aB:=by unfold NA;rw[za1 ab,zdC ab,zbf]
  rw[e];exact⟨.pv (bp v).pv,rfl,trivial,hK⟩
 obtain⟨a,ha⟩:∃a,v.st.l[n]?=some a:=⟨_,zah aU⟩
 have sS:=aq9 v.st.l n;have hg:=aqY ha;have hs:=aqy ha;generalize NA v.st.l n=L at*;have D6:(L.map At.pv)[(n:Int).toNat]?=some a.pv:=by rw[zaC,za9,hg];rfl
 have hLl:(L.map At.pv).length=L.length:=zav _;have Wo:YI [qF a.rn] _:=⟨a.rn,rfl,h2 a (zag ha),rfl⟩
 have LO:(L.map At.pv).set (n:Int).toNat (aB a).pv=(NA v.st.l (n+1)).map At.pv:=by rw[zaC,<-zdh,hs]
 (repeat'((conv=>whnf);first|refine au ab ?_|refine zcB ⟨ab,ab⟩ ?_|refine⟨_,D6,?_⟩|refine⟨_,Wo,?_⟩|refine bj ab ?_|refine bT ?_|fail))<;>try(conv=>whnf)
 exact⟨m-1,ab,n+1,ab,by rw[<-LO];rfl,rfl⟩
def ar4{v:Vo}(hb:n8 v)(h:wX v=0):voS v:=by
 have hv:=P0 hb h;exact⟨L0 hv.dk,by have:=hv.len;omega,hb.2.1⟩
def am4{d:Dk}:∀{l:List At} {o:List Int} {i:Int},(FH d o i l).2=0→∀a∈l,aK d a=0
 |[],_,_,_,a,ha=>absurd ha aj
 |b::l,o,i,h,a,ha=>by
  obtain⟨h0,o',_,h2⟩:=aeW h;rcases zaw.1 ha with rfl|ha
  ·exact h0
  ·exact am4 h2 a ha
def U1.op{v:Vo}(h:U1 v):∀a∈v.st.l,aK v.d a=0:=am4 h.ch
def A3(v:Vo):Prop:=voS v∧∀a∈v.st.l,dU a.rn.l=0
def acx{v:Vo}(hb:n8 v)(h:wX v=0):A3 v:=⟨ar4 hb h,λa ha=>(bc ((P0 hb h).op a ha)).1.rn⟩
def A3.own{v:Vo}(h:A3 v):v.st.l.length<=100000∧∀a∈v.st.l,a.rn.l.length<=1000000:=⟨h.1.2.1,λa ha=>by have:=(bZ (h.2 a ha)).1;omega⟩
def aql{v:Vo}(h:A3 v)(m:Mv):A3 (nX v m):=by
 refine⟨azb h.1 m,?_⟩;by_cases he:ub v m=0
 case neg=>unfold nX;rw[if_pos he];exact h.2
 have e:nX v m=rl v (jM v.d (ni v m.k) m.p m.t) m.k.toNat (jG v.d (ni v m.k) m.p m.t):=by unfold nX;rw[if_neg (λg=>g he)]
 rw[e];have hk:0<=m.k/\m.k<=(v.st.l.length:Int)-1:=by
  apply Classical.byContradiction;intro g;unfold ub at he;rw[if_pos g]at he;exact absurd he ao
 have hm:dJ v.d (ni v m.k) m.p m.t=0:=by unfold ub at he;rw[if_neg (λg=>g hk)]at he;exact he
 obtain⟨b,hb⟩:∃b,v.st.l[m.k.toNat]?=some b:=⟨_,zah ab⟩
 have eb:ni v m.k=b:=by unfold ni;rw[hb];rfl
 rw[eb]at hm ⊢;have ml:=aBQ (Zv hm) h.1.1 (h.1.2.2 b (zag hb)) hm;intro a ha;rcases zdF (show a∈v.st.l.set _ _ from ha)with ha|rfl
 ·exact h.2 a ha
 ·rw[ml.A];exact(bc ml.op).1.rn
def TZ:Vo:=⟨⟨[],[]⟩,.nil⟩
structure Sp where
 k:Int
 i:Int
 p:Int
 n:Int
 dat:List UInt8
 t:Rn
def Sp.pv(s:Sp):PV:=.agg [pI s.k,pI s.i,pI s.p,pI s.n,.str s.dat,pI s.t.s,pI s.t.n]
structure An where
 b:List UInt8
 e:Int
def An.pv(x:An):PV:=.agg [.str x.b,pI x.e]
noncomputable def A4(d:Dk)(a:At)(s:Sp):Int:=if s.k=1 then AO d a s.p s.dat else if s.k=2 then Jb d a s.n else if s.k=3 then jm d a s.p s.n else dJ d a s.p s.t
noncomputable def Ib(d:Dk)(a:At)(s:Sp):Dk:=if s.k=1 then zM d a s.p s.dat else if s.k=2 then Jf d a s.n else if s.k=3 then jU d a s.p s.n else jM d a s.p s.t
noncomputable def D2(d:Dk)(a:At)(s:Sp):At:=if s.k=1 then yV d a s.p s.dat else if s.k=2 then LA d a s.n else if s.k=3 then js d a s.p s.n else jG d a s.p s.t
noncomputable def vf(v:Vo)(s:Sp):An:=
 if ¬(0<=s.i/\s.i<=(v.st.l.length:Int)-1)then⟨[],6⟩
 else if s.k=0 then⟨H2 v.d (ni v s.i) s.p s.n,xN v.d (ni v s.i) s.p s.n⟩
 else⟨[],A4 v.d (ni v s.i) s⟩
noncomputable def YN(v:Vo)(s:Sp):Vo:=
 if ¬(0<=s.i/\s.i<=(v.st.l.length:Int)-1)then v
 else if s.k=0 then v
 else if A4 v.d (ni v s.i) s≠0 then v
 else rl v (Ib v.d (ni v s.i) s) s.i.toNat (D2 v.d (ni v s.i) s)
def afk(ps:List PV)(r:RV):Prop:=∃(v:Vo) (s:Sp),ps=[v.pv,s.pv]/\(A3 v/\s.dat.length<=1000000)/\r=.tup [.pv (vf v s).pv,.pv (YN v s).pv]
set_option maxHeartbeats 4000000 in
def am3:MT (ay [(92,bF bG),(120,c8 true oN),(121,c8 false fm),(122,c8 false ko),(123,c8 false Ss),(101,c8 false W9),(100,c8 false GC)]) E7 (c8 false afk):=by
 rintro _ K ⟨_,⟨v,s,rfl,⟨h0,aho⟩,rfl⟩,hK⟩;obtain⟨⟨h1,h2,h3⟩,h4⟩:=h0;obtain⟨k,i,p,n,dat,t⟩:=s;have hl:(v.st.l.map At.pv).length=v.st.l.length:=zav _;by_cases hk:0<=i/\i<=(v.st.l.length:Int)-1
 case neg=>
  have e1:vf v ⟨k,i,p,n,dat,t⟩=⟨[],6⟩:=by unfold vf;rw[if_pos hk]
  have e2:YN v ⟨k,i,p,n,dat,t⟩=v:=by unfold YN;rw[if_pos hk]
  rw[e1,e2]at hK
  (repeat'((conv=>whnf);first|refine KP ?_|refine⟨_,⟨_,_,_,rfl,rfl⟩,?_⟩|refine aw ab ?_|refine bj ab ?_|refine bP ?_|refine dq λ_=>?_|refine bT ?_|fail))<;>try(conv=>whnf)
  exact⟨[.pv (An.pv ⟨[],6⟩),.pv v.pv],⟨rfl,rfl,trivial⟩,trivial,hK⟩
 obtain⟨b,hb⟩:∃b,v.st.l[i.toNat]?=some b:=⟨_,zah ab⟩
 have qH:D4 v.st=.sl 11 (v.st.l.map At.pv):=by
  cases h:v.st with
  |nil=>rw[h]at hb;cases hb
  |sl l=>rfl
 have hg:(v.st.l.map At.pv)[i.toNat]?=some b.pv:=by rw[za9,hb];rfl
 have Br:=h3 b (zag hb);have E3:b.rn.l.length<=1000000:=by have:=(bZ (h4 b (zag hb))).1;omega
 have e0:ni v i=b:=by unfold ni;rw[hb];rfl
 have e1:vf v ⟨k,i,p,n,dat,t⟩=if k=0 then⟨H2 v.d b p n,xN v.d b p n⟩else⟨[],A4 v.d b ⟨k,i,p,n,dat,t⟩⟩:=by unfold vf;rw[if_neg (λh=>h hk)];simp only[e0]
 have e2:YN v ⟨k,i,p,n,dat,t⟩=if k=0 then v else if A4 v.d b ⟨k,i,p,n,dat,t⟩≠0 then v else rl v (Ib v.d b ⟨k,i,p,n,dat,t⟩) i.toNat (D2 v.d b ⟨k,i,p,n,dat,t⟩):=by unfold YN;rw[if_neg (λh=>h hk)];simp only[e0]
 have hv:v.pv=.agg [.str v.d.a_,.str v.d.mp,.sl 11 (v.st.l.map At.pv)]:=by unfold Vo.pv;rw[qH]
 have Lk:∀D A,GC [.agg [.str v.d.a_,.str v.d.mp,.sl 11 (v.st.l.map At.pv)],Dk.pv D,pI i,At.pv A] (.pv (rl v D i.toNat A).pv):=λD A=>⟨v,D,i,A,by rw[hv],⟨⟨hk.1,ab⟩,h2⟩,rfl⟩
 rw[e1,e2]at hK;rw[hv];clear e0 e1 e2;by_cases k0:k=0
 ·have hr:oN [v.d.pv,b.pv,pI p,pI n] _:=⟨v.d,b,p,n,rfl,⟨pR h1,Br⟩,rfl⟩
  rw[if_pos k0,if_pos k0,hv]at hK
  (repeat'((conv=>whnf);first|refine⟨_,⟨_,_,_,rfl,rfl⟩,?_⟩|refine au hk ?_|refine⟨_,⟨hk.1,hg⟩,?_⟩|refine au k0 ?_|refine⟨_,hr,?_⟩|refine bj ab ?_|refine aN ?_|refine dq λ_=>?_|refine bT ?_|fail))<;>try(conv=>whnf)
  exact⟨[.pv (An.pv ⟨_,_⟩),.pv _],⟨rfl,rfl,trivial⟩,trivial,hK⟩
 rw[if_neg k0,if_neg k0]at hK;unfold A4 Ib D2 at hK;dsimp only at hK;by_cases k1:k=1
 ·have hr:fm [v.d.pv,b.pv,pI p,.str dat] _:=⟨v.d,b,p,dat,rfl,⟨h1,Br,E3,aho⟩,rfl⟩
  simp only[if_pos k1]at hK;generalize AO v.d b p dat=E at*;generalize zM v.d b p dat=D at*;generalize yV v.d b p dat=A at*;by_cases hE:E=0
  ·rw[if_neg (λh=>h hE)]at hK
   (repeat'((conv=>whnf);first|refine⟨_,⟨_,_,_,rfl,rfl⟩,?_⟩|refine au hk ?_|refine⟨_,⟨hk.1,hg⟩,?_⟩|refine aw k0 ?_|refine au k1 ?_|refine⟨_,hr,?_⟩|refine aw (λh=>h hE) ?_|refine⟨_,Lk D A,?_⟩|refine bj ab ?_|refine aN ?_|refine dq λ_=>?_|refine bT ?_|fail))<;>try(conv=>whnf)
   rw[hE]at hK;exact⟨[.pv (An.pv ⟨[],0⟩),.pv (rl v D i.toNat A).pv],⟨rfl,rfl,trivial⟩,trivial,hK⟩
  ·rw[if_pos hE,hv]at hK
   (repeat'((conv=>whnf);first|refine⟨_,⟨_,_,_,rfl,rfl⟩,?_⟩|refine au hk ?_|refine⟨_,⟨hk.1,hg⟩,?_⟩|refine aw k0 ?_|refine au k1 ?_|refine⟨_,hr,?_⟩|refine au hE ?_|refine bj ab ?_|refine aN ?_|refine dq λ_=>?_|refine bT ?_|fail))<;>try(conv=>whnf)
   exact⟨[.pv (An.pv ⟨[],E⟩),.pv _],⟨rfl,rfl,trivial⟩,trivial,hK⟩
 simp only[if_neg k1]at hK;by_cases k2:k=2
 ·have hr:ko [v.d.pv,b.pv,pI n] _:=⟨v.d,b,n,rfl,⟨h1,Br⟩,rfl⟩
  simp only[if_pos k2]at hK;generalize Jb v.d b n=E at*;generalize Jf v.d b n=D at*;generalize LA v.d b n=A at*;by_cases hE:E=0
  ·rw[if_neg (λh=>h hE)]at hK
   (repeat'((conv=>whnf);first|refine⟨_,⟨_,_,_,rfl,rfl⟩,?_⟩|refine au hk ?_|refine⟨_,⟨hk.1,hg⟩,?_⟩|refine aw k0 ?_|refine aw k1 ?_|refine au k2 ?_|refine⟨_,hr,?_⟩|refine aw (λh=>h hE) ?_|refine⟨_,Lk D A,?_⟩|refine bj ab ?_|refine aN ?_|refine dq λ_=>?_|refine bT ?_|fail))<;>try(conv=>whnf)
   rw[hE]at hK;exact⟨[.pv (An.pv ⟨[],0⟩),.pv (rl v D i.toNat A).pv],⟨rfl,rfl,trivial⟩,trivial,hK⟩
  ·rw[if_pos hE,hv]at hK
   (repeat'((conv=>whnf);first|refine⟨_,⟨_,_,_,rfl,rfl⟩,?_⟩|refine au hk ?_|refine⟨_,⟨hk.1,hg⟩,?_⟩|refine aw k0 ?_|refine aw k1 ?_|refine au k2 ?_|refine⟨_,hr,?_⟩|refine au hE ?_|refine bj ab ?_|refine aN ?_|refine dq λ_=>?_|refine bT ?_|fail))<;>try(conv=>whnf)
   exact⟨[.pv (An.pv ⟨[],E⟩),.pv _],⟨rfl,rfl,trivial⟩,trivial,hK⟩
 simp only[if_neg k2]at hK;by_cases k3:k=3
 ·have hr:Ss [v.d.pv,b.pv,pI p,pI n] _:=⟨v.d,b,p,n,rfl,⟨h1,Br⟩,rfl⟩
  simp only[if_pos k3]at hK;generalize jm v.d b p n=E at*;generalize jU v.d b p n=D at*;generalize js v.d b p n=A at*;by_cases hE:E=0
  ·rw[if_neg (λh=>h hE)]at hK
   (repeat'((conv=>whnf);first|refine⟨_,⟨_,_,_,rfl,rfl⟩,?_⟩|refine au hk ?_|refine⟨_,⟨hk.1,hg⟩,?_⟩|refine aw k0 ?_|refine aw k1 ?_|refine aw k2 ?_|refine au k3 ?_|refine⟨_,hr,?_⟩|refine aw (λh=>h hE) ?_|refine⟨_,Lk D A,?_⟩|refine bj ab ?_|refine aN ?_|refine dq λ_=>?_|refine bT ?_|fail))<;>try(conv=>whnf)
   rw[hE]at hK;exact⟨[.pv (An.pv ⟨[],0⟩),.pv (rl v D i.toNat A).pv],⟨rfl,rfl,trivial⟩,trivial,hK⟩
  ·rw[if_pos hE,hv]at hK
   (repeat'((conv=>whnf);first|refine⟨_,⟨_,_,_,rfl,rfl⟩,?_⟩|refine au hk ?_|refine⟨_,⟨hk.1,hg⟩,?_⟩|refine aw k0 ?_|refine aw k1 ?_|refine aw k2 ?_|refine au k3 ?_|refine⟨_,hr,?_⟩|refine au hE ?_|refine bj ab ?_|refine aN ?_|refine dq λ_=>?_|refine bT ?_|fail))<;>try(conv=>whnf)
   exact⟨[.pv (An.pv ⟨[],E⟩),.pv _],⟨rfl,rfl,trivial⟩,trivial,hK⟩
 simp only[if_neg k3]at hK;have hr:W9 [v.d.pv,b.pv,pI p,t.pv] _:=⟨v.d,b,p,t,rfl,⟨h1,Br⟩,rfl⟩
 generalize dJ v.d b p t=E at*;generalize jM v.d b p t=D at*;generalize jG v.d b p t=A at*;by_cases hE:E=0
 ·rw[if_neg (λh=>h hE)]at hK
  (repeat'((conv=>whnf);first|refine⟨_,⟨_,_,_,rfl,rfl⟩,?_⟩|refine au hk ?_|refine⟨_,⟨hk.1,hg⟩,?_⟩|refine aw k0 ?_|refine aw k1 ?_|refine aw k2 ?_|refine aw k3 ?_|refine⟨_,hr,?_⟩|refine aw (λh=>h hE) ?_|refine⟨_,Lk D A,?_⟩|refine bj ab ?_|refine aN ?_|refine dq λ_=>?_|refine bT ?_|fail))<;>try(conv=>whnf)
  rw[hE]at hK;exact⟨[.pv (An.pv ⟨[],0⟩),.pv (rl v D i.toNat A).pv],⟨rfl,rfl,trivial⟩,trivial,hK⟩
 ·rw[if_pos hE,hv]at hK
  (repeat'((conv=>whnf);first|refine⟨_,⟨_,_,_,rfl,rfl⟩,?_⟩|refine au hk ?_|refine⟨_,⟨hk.1,hg⟩,?_⟩|refine aw k0 ?_|refine aw k1 ?_|refine aw k2 ?_|refine aw k3 ?_|refine⟨_,hr,?_⟩|refine au hE ?_|refine bj ab ?_|refine aN ?_|refine dq λ_=>?_|refine bT ?_|fail))<;>try(conv=>whnf)
  exact⟨[.pv (An.pv ⟨[],E⟩),.pv _],⟨rfl,rfl,trivial⟩,trivial,hK⟩
def Im(s:Sl Sp):PV:=Sl.pv Sp.pv 7 s
noncomputable def EB(k:Int):Int:=if 0<=k/\k<=4 then 0 else 15
noncomputable def BE(i:Int):List Sp->Int×Int
 |[]=>(0,0)
 |s::r=>if EB s.k≠0 then(i,EB s.k)else BE (i+1) r
def ald(ps:List PV)(x:PV):Prop:=∃(i:Int) (s:Sp),ps=[pI i,s.pv]/\True/\x=pI (EB s.k)
def arh:MT (ay [(92,bF bG),(68,ah dG)]) Eg (ah ald):=by
 rintro _ K ⟨_,⟨i,s,rfl,-,rfl⟩,hK⟩;unfold EB at hK
 (repeat'((conv=>whnf);first|refine⟨_,⟨_,_,_,rfl,rfl⟩,?_⟩|(refine fe ?_;first|refine de (λ_=>?_) (λ_=>?_)|refine⟨_,⟨_,_,rfl,rfl⟩,?_⟩|fail)))<;>try(conv=>whnf)
 ·rename_i hk;rw[if_pos hk]at hK;exact⟨.pv (pI 0),rfl,trivial,hK⟩
 ·rename_i hk;rw[if_neg hk]at hK;exact⟨.pv (pI 15),rfl,trivial,hK⟩
def aeD(ps:List PV)(r:RV):Prop:=∃s:Sl Sp,ps=[Im s,.clo 118 []]/\s.l.length<=1000000/\r=.tup [.pv (pI (BE 0 s.l).1),.pv (pI (BE 0 s.l).2)]
set_option maxHeartbeats 2000000 in
def akY:MT (ay [(118,ah ald)]) my (c8 false aeD):=by
 rintro _ K ⟨_,⟨s,rfl,h2,rfl⟩,hK⟩;have gJ:(s.l.map Sp.pv).length=s.l.length:=zav _
 (repeat'((conv=>whnf);first|refine KP ?_|refine dq λ_=>?_|fail))<;>try(conv=>whnf)
 refine⟨λm env σ=>∃n:Nat,(n+m=s.l.length/\BE 0 s.l=BE n (s.l.drop n))/\σ=[]/\
  env=[(1,.pv (.clo 118 [])),(9,.pv (Im s)),eN 10 s.l.length,eN 11 n],s.l.length,⟨0,⟨ab,rfl⟩,rfl,rfl⟩,?_⟩
 rintro m env σ ⟨n,⟨hn,hg⟩,rfl,rfl⟩;by_cases aU:n<s.l.length
 ·obtain⟨a,ha⟩:∃a,s.l[n]?=some a:=⟨_,zah aU⟩
  have qH:Im s=.sl 7 (s.l.map Sp.pv):=by
   cases s with
   |nil=>cases ha
   |sl l=>rfl
  have D6:(s.l.map Sp.pv)[(n:Int).toNat]?=some a.pv:=by rw[zaC,za9,ha];rfl
  rw[drop_cons ha]at hg;have mU:BE n (a::s.l.drop (n+1))=if EB a.k≠0 then((n:Int),EB a.k)else BE (n+1) (s.l.drop (n+1)):=rfl;rw[mU]at hg;rw[qH];have hf:ald [pI n,a.pv] _:=⟨n,a,rfl,trivial,rfl⟩
  (repeat'((conv=>whnf);first|refine au ab ?_|refine⟨_,⟨ab,D6⟩,?_⟩|refine⟨_,hf,?_⟩|refine bj ab ?_|refine de (λ_=>?_) (λ_=>?_)|refine bT ?_|fail))<;>try(conv=>whnf)
  ·rename_i he;rw[if_pos he]at hg;rw[hg]at hK;exact⟨[.pv (pI n),.pv (pI _)],⟨rfl,rfl,trivial⟩,trivial,hK⟩
  ·rename_i he;rw[if_neg he]at hg;exact⟨m-1,ab,n+1,⟨ab,by rw[zdL];exact hg⟩,rfl,rfl⟩
 ·(repeat'((conv=>whnf);first|refine aw ab ?_|fail))<;>try(conv=>whnf)
  rw[zdC ab]at hg;rw[hg]at hK;exact⟨[.pv (pI _),.pv (pI _)],⟨rfl,rfl,trivial⟩,trivial,hK⟩
structure StL(e:Dk)(b:At):Prop where
 sd:wU e
 nm:b.nm.length<=1000000
 rn:dU b.rn.l=0
def StL.of{d e:Dk}{a b:At}{C:List UInt8}{v:Int}{rs:Bool}(hd:wU d)(hn:a.nm.length<=1000000)(h:rL d e a b C v rs):StL e b:=
 ⟨atK h.op h.su.1.1 hd,by rw[h.nm];exact hn,(bc h.op).1.rn⟩
def aqp{d:Dk}{a:At}{p:Int}{dat:List UInt8}(h:yE d a p dat=0):aK d a=0/\iU p/\p+dat.length<=32768:=by
 unfold yE at h;split at h
 ·rename_i g;exact sF
 split at h
 ·exact absurd h ao
 split at h
 ·exact absurd h ao
 rename_i g1 g2 g3;exact⟨zcY.1 g1,zcY.1 g2,ab⟩
def ar7{d:Dk}{a:At}{s:Sp}(hd:wU d)(hn:a.nm.length<=1000000)(hr:dU a.rn.l=0)(h:A4 d a s=0):StL (Ib d a s) (D2 d a s):=by
 unfold A4 at h;unfold Ib D2;by_cases k1:s.k=1
 ·simp only[if_pos k1]at h ⊢;have h0:yE d a s.p s.dat=0:=by
   apply Classical.byContradiction;intro g;unfold AO at h;rw[if_pos g]at h;exact g h
  obtain⟨g1,g2,g3⟩:=aqp h0;by_cases he:s.dat=[]
  ·have eD:zM d a s.p s.dat=d:=by unfold zM;rw[h0,if_neg (λg=>g rfl),if_pos he]
   have eA:yV d a s.p s.dat={ a with rn:=.sl a.rn.l }:=by unfold yV;rw[h0,if_neg (λg=>g rfl),if_pos he]
   rw[eD,eA];exact⟨hd,hn,hr⟩
  ·exact .of hd hn ((Uz g1 hd hn g2.1 g3 he).ok h).1
 simp only[if_neg k1]at h ⊢;by_cases k2:s.k=2
 ·simp only[if_pos k2]at h ⊢;have h0:aK d a=0/\iU s.n:=by
   unfold Jb D8 at h;by_cases g1:aK d a=0
   ·refine⟨g1,Classical.byContradiction λg2=>?_⟩;simp[g1,g2]at h
   ·simp[g1]at h
  exact .of hd hn ((af3 h0.1 hd hn h0.2).ok h).1
 simp only[if_neg k2]at h ⊢;by_cases k3:s.k=3
 ·simp only[if_pos k3]at h ⊢;have h0:aK d a=0/\iU s.p/\iU s.n:=by
   unfold jm KF at h;by_cases g1:aK d a=0
   ·refine⟨g1,Classical.byContradiction λg2=>?_⟩;simp[g1,g2]at h
   ·simp[g1]at h
  exact .of hd hn ((aCh h0.1 hd hn h0.2.1 h0.2.2).ok h).1
 simp only[if_neg k3]at h ⊢;have ml:=aBQ (Zv h) hd hn h;rw[ml.D,ml.A];exact⟨atK ml.op ml.len.symm hd,hn,(bc ml.op).1.rn⟩
def ax0{v:Vo}(h:A3 v)(s:Sp):A3 (YN v s):=by
 unfold YN;split
 ·exact h
 rename_i hk;have hk:=zcY.1 hk;split
 ·exact h
 split
 ·exact h
 rename_i he;have he:=zcY.1 he;obtain⟨b,hb⟩:∃b,v.st.l[s.i.toNat]?=some b:=⟨_,zah ab⟩
 have eb:ni v s.i=b:=by unfold ni;rw[hb];rfl
 rw[eb]at he ⊢;have hm:=zag hb;have sl:=ar7 h.1.1 (h.1.2.2 b hm) (h.2 b hm) he;refine⟨⟨sl.sd,by show(v.st.l.set _ _).length<=_;rw[za0];exact h.1.2.1,λa ha=>?_⟩,λa ha=>?_⟩
 ·rcases zdF (show a∈v.st.l.set _ _ from ha)with ha|rfl
  ·exact h.1.2.2 a ha
  ·exact sl.nm
 ·rcases zdF (show a∈v.st.l.set _ _ from ha)with ha|rfl
  ·exact h.2 a ha
  ·exact sl.rn
noncomputable def Jv(v:Vo):List Sp->Vo
 |[]=>v
 |s::r=>Jv (YN v s) r
noncomputable def Kh(v:Vo):List Sp->List An
 |[]=>[]
 |s::r=>vf v s::Kh (YN v s) r
noncomputable def ID(v:Vo)(s:Sl Sp):Int:=if wX v≠0 then wX v else if s.l.length<=40 then(BE 0 s.l).2 else 8
noncomputable def SV(v:Vo)(s:Sl Sp):Vo:=if ID v s≠0 then TZ else bp (Jv v s.l)
noncomputable def Sr(v:Vo)(s:Sl Sp):List An:=if ID v s≠0 then[]else Kh v s.l
def Oe(ps:List PV)(r:RV):Prop:=∃(v:Vo) (s:Sl Sp),ps=[v.pv,Im s]/\(n8 v/\s.l.length<=1000000∧∀x∈s.l,x.dat.length<=1000000)/\r=.tup [.fresh 104 2 ((Sr v s).map An.pv),.pv (SV v s).pv,.pv (pI (ID v s))]
def afQ{o o':List Int}{i:Int}{c:Nat}{r:List Nat}:Wi o i (c::r)=some o'↔o[c]?.getD 0<0/\Wi (o.set c i) i r=some o':=by
 have e:Wi o i (c::r)=if 0<=o[c]?.getD 0 then none else Wi (o.set c i) i r:=rfl
 rw[e];split
 ·exact⟨λh=>bV,λh=>ab⟩
 ·exact⟨λh=>⟨ab,h⟩,λh=>h.2⟩
def aad{o:List Int}{i:Int}{c x:Nat}(h:o[c]?.getD 0<0):(o.set c i)[x]?.getD 0=if x=c then i else o[x]?.getD 0:=by
 have aU:c<o.length:=by
  apply Classical.byContradiction;intro g;rw[zaK ab]at h;exact absurd h ao
 rw[zaS];by_cases hx:x=c
 ·subst hx;simp[aU]
 ·rw[if_neg (λg=>hx g.symm),if_neg hx]
def aa8{i:Int}:∀{cs:List Nat} {o o':List Int},Wi o i cs=some o'→∀x,o'[x]?.getD 0=if x∈cs then i else o[x]?.getD 0
 |[],o,o',h,x=>by cases h;simp
 |c::r,o,o',h,x=>by
  obtain⟨h1,h2⟩:=afQ.1 h;rw[aa8 h2 x,aad h1];by_cases g1:x∈r
  ·simp[g1]
  ·by_cases g2:x=c
   ·simp[g2]
   ·simp[g1,g2]
def TL{i:Int}(hi:0<=i):∀{cs:List Nat} {o:List Int},(∃o',Wi o i cs=some o')↔cs.Nodup∧∀c∈cs,o[c]?.getD 0<0
 |[],o=>⟨λ_=>⟨.nil,λ_ h=>absurd h aj⟩,λ_=>⟨o,rfl⟩⟩
 |c::r,o=>by
  constructor
  ·rintro⟨o',h⟩;obtain⟨h1,h2⟩:=afQ.1 h;obtain⟨h3,h4⟩:=(TL hi).1 ⟨o',h2⟩;have hc:c∉r:=λg=>by
    have:=h4 c g;rw[aad h1,if_pos rfl]at this;omega
   refine⟨zdR.2 ⟨hc,h3⟩,λx hx=>?_⟩;rcases zaw.1 hx with rfl|hx
   ·exact h1
   ·have:=h4 x hx;rwa[aad h1,if_neg (λg:x=c=>hc (g▸hx))]at this
  ·rintro⟨h1,h2⟩;obtain⟨h3,h4⟩:=zdR.1 h1;have hc:=h2 c aj;obtain⟨o',ho⟩:=(TL hi (cs:=r) (o:=o.set c i)).2 ⟨h4,λx hx=>by
    rw[aad hc,if_neg (λg:x=c=>h3 (g▸hx))];exact h2 x iP⟩
   exact⟨o',afQ.2 ⟨hc,ho⟩⟩
def KT(l:List At):List Nat:=l.flatMap λa=>xM a.rn.l
def agr{d:Dk}:∀{l:List At} {o:List Int} {i:Int},0<=i->((FH d o i l).2=0↔(∀a∈l,aK d a=0)/\(KT l).Nodup∧∀c∈KT l,o[c]?.getD 0<0)
 |[],o,i,hi=>⟨λ_=>⟨λ_ h=>absurd h aj,.nil,λ_ h=>absurd h (by simp[KT])⟩,λ_=>rfl⟩
 |a::l,o,i,hi=>by
  have hc:KT (a::l)=xM a.rn.l++KT l:=zan;rw[hc];constructor
  ·intro h;obtain⟨h0,o',ho,h2⟩:=aeW h;obtain⟨h3,h4,h5⟩:=(agr ab).1 h2;obtain⟨h6,h7⟩:=(TL hi).1 ⟨o',ho⟩;have hg:=aa8 ho;have Es:∀c∈xM a.rn.l,c∉KT l:=λc g1 g2=>by
    have:=h5 c g2;rw[hg c,if_pos g1]at this;omega
   refine⟨λx hx=>?_,zbv.2 ⟨h6,h4,λx hx y hy e=>Es x hx (e▸hy)⟩,λc hx=>?_⟩
   ·rcases zaw.1 hx with rfl|hx
    ·exact h0
    ·exact h3 x hx
   ·rcases zaA.1 hx with hx|hx
    ·exact h7 c hx
    ·have:=h5 c hx;rwa[hg c,if_neg (λg=>Es c g hx)]at this
  ·rintro⟨h1,h2,h3⟩;obtain⟨h4,h5,h6⟩:=zbv.1 h2;obtain⟨o',ho⟩:=(TL hi).2 ⟨h4,λc hx=>h3 c (List.mem_append_left _ hx)⟩;have hg:=aa8 ho;have e:(FH d o i (a::l)).2=(FH d o' (i+1) l).2:=by
    have:=h1 a aj;simp only[FH,this,ho,ne_eq,not_true_eq_false,if_false]
   rw[e];exact(agr ab).2 ⟨λx hx=>h1 x iP,h5,λc hx=>by
    rw[hg c,if_neg (λg=>h6 c g c hx rfl)];exact h3 c (List.mem_append_right _ hx)⟩
def am1{d:Dk}{c:Nat}:(Fu d)[c]?.getD 0<0↔c<d.n:=by
 unfold Fu;rw[za9];by_cases h:c<d.n
 ·rw[zbD h];refine⟨λ_=>h,λ_=>?_⟩;show xd d c<0;unfold xd;split<;>decide
 ·rw[zaK aH];exact⟨λg=>absurd (show(0:Int)<0 from g) ao,λg=>absurd g h⟩
def avR{v:Vo}:wX v=0↔gm v.d=0/\v.st.l.length<=8/\(∀a∈v.st.l,aK v.d a=0)/\(KT v.st.l).Nodup∧∀c∈KT v.st.l,c<v.d.n:=by
 have hc:=agr (d:=v.d) (l:=v.st.l) (o:=Fu v.d) (i:=0) ao;simp only[am1]at hc;unfold wX ZX;split
 ·rename_i g;exact⟨λh=>absurd h g,λh=>absurd h.1 g⟩
 ·rename_i g;have g:=zcY.1 g;split
  ·exact⟨λh=>absurd (show(8:Int)=0 from h) ao,λh=>ab⟩
  ·rw[hc];exact⟨λh=>⟨g,ab,h⟩,λh=>h.2.2⟩
def aeR{r:Rn}(h:r.s= -1\/0<=r.s){c:Nat}:c∈jQ r↔(c:Int)∈iV r:=by
 unfold jQ iV;rcases h with h|h
 ·rw[if_pos h];simp only[zaX,zbm,zb9,false_iff,not_exists,not_and];intro k _ e;rw[if_pos h]at e;omega
 ·rw[if_neg ab,zdN];simp only[zaX,zbm];constructor
  ·rintro⟨h1,h2⟩;refine⟨c-r.s.toNat,ab,?_⟩;split<;>omega
  ·rintro⟨k,hk,e⟩;split at e<;>omega
def abi{l:List Rn}(h:∀r∈l,r.s= -1\/0<=r.s){c:Nat}:c∈xM l↔(c:Int)∈az l:=by
 unfold xM az;rw[zbz,zbz];exact⟨λ⟨r,hr,hc⟩=>⟨r,hr,(aeR (h r hr)).1 hc⟩,λ⟨r,hr,hc⟩=>⟨r,hr,(aeR (h r hr)).2 hc⟩⟩
def adr{l:List Rn}(h:∀r∈l,r.s= -1\/0<=r.s)(hd:yw (az l)):(xM l).Nodup:=by
 unfold yw az at hd;obtain⟨_,h2⟩:=zdH.1 hd;unfold xM List.Nodup;refine zdH.2 ⟨λr _=>?_,h2.imp_of_mem λha hb g x hx y hy e=>?_⟩
 ·unfold jQ;split
  ·exact .nil
  ·exact List.nodup_range'
 ·subst e;exact g x ((aeR (h _ ha)).1 hx) x ((aeR (h _ hb)).1 hy) ab rfl
def AZ{v:Vo}:wX v=0↔gm v.d=0/\v.st.l.length<=8/\(∀a∈v.st.l,aK v.d a=0)/\v.st.l.Pairwise L3:=by
 rw[avR];have hr:∀a,aK v.d a=0→∀r∈a.rn.l,r.s= -1\/0<=r.s:=λa h r hr=>(Bd h r hr).imp id (·.1)
 have hn:(∀a∈v.st.l,aK v.d a=0)->((KT v.st.l).Nodup↔v.st.l.Pairwise L3):=λh=>by
  unfold KT List.Nodup;rw[zdH];constructor
  ·rintro⟨_,h2⟩;exact h2.imp_of_mem λha hb g c h3 h4=>g c ((abi (hr _ (h _ ha))).2 h3) c ((abi (hr _ (h _ hb))).2 h4) rfl
  ·intro h2;refine⟨λa ha=>adr (hr _ (h _ ha)) (u0 (bc (h _ ha)).1.rn),h2.imp_of_mem λha hb g x hx y hy e=>?_⟩;subst e;exact g x ((abi (hr _ (h _ ha))).1 hx) ((abi (hr _ (h _ hb))).1 hy)
 constructor
 ·rintro⟨h1,h2,h3,h4,_⟩;exact⟨h1,h2,h3,(hn h3).1 h4⟩
 ·rintro⟨h1,h2,h3,h4⟩;refine⟨h1,h2,h3,(hn h3).2 h4,λc hc=>?_⟩;obtain⟨a,ha,Mq⟩:=zbz.1 hc;obtain⟨r,Ql,Wo⟩:=zbz.1 Mq;have h5:=Bd (h3 a ha) r Ql;unfold jQ at Wo;split at Wo
  ·exact absurd Wo aj
  ·rw[zdN]at Wo;omega
def Qp{d:Dk}{a:At}(h0:aK d a=0):adv d d a a:=by
 refine⟨⟨rfl,(bc h0).1.dk⟩,λc _=>⟨λ_=>⟨rfl,rfl⟩,λh=>absurd h.1 h.2,λh=>QX h0 (Dl.1 h),λh=>absurd h.1 h.2⟩⟩
structure As(d:Dk)(a:At)(e:Dk)(b:At)(C:List UInt8):Prop where
 op:aK e b=0
 fN:aV (ar e b)=C
 su:adv d e a b
 nm:b.nm.length<=1000000
def As.of{d e:Dk}{a b:At}{C:List UInt8}{v:Int}{rs:Bool}(h:rL d e a b C v rs)(hn:a.nm.length<=1000000):As d a e b C:=⟨h.op,h.fN,h.su,by rw[h.nm];exact hn⟩
def As.sd{d e:Dk}{a b:At}{C:List UInt8}(h:As d a e b C)(hd:wU d):wU e:=atK h.op h.su.1.1 hd
structure NG(d:Dk)(a b:At):Prop where
 sd:wU d
 a0:aK d a=0
 b0:aK d b=0
 an:a.nm.length<=1000000
 bn:b.nm.length<=1000000
 ap:L3 a b
def NG.symm{d:Dk}{a b:At}(h:NG d a b):NG d b a:=⟨h.sd,h.b0,h.a0,h.bn,h.an,λc h1 h2=>h.ap c h2 h1⟩
def NG.step{d e:Dk}{a b a':At}{C:List UInt8}(h:NG d a b)(s:As d a e a' C):NG e a' b/\aV (ar e b)=aV (ar d b)/\e.n=d.n/\
 oF e.mp d.n+bt (az a.rn.l)=oF d.mp d.n+bt (az a'.rn.l):=by
 obtain⟨h1,h2⟩:=beside s.su h.b0 h.symm.ap;obtain⟨h3,h4⟩:=PS h1 h.b0;exact⟨⟨s.sd h.sd,s.op,h3,s.nm,h.bn,λc g1 g2=>h2 c g2 g1⟩,h4,by unfold Dk.n;rw[s.su.1.1],Q1 s.su h.a0 s.op⟩
def amr{a b:At}(h:L3 a b):L3 b a:=λc h1 h2=>h c h2 h1
def au2{v:Vo}{i:Nat}{a a':At}{e:Dk}{C:List UInt8}(hb:n8 v)(ho:wX v=0)(hi:v.st.l[i]?=some a)(s:As v.d a e a' C):
 wX (rl v e i a')=0/\(∀j b,j≠i->v.st.l[j]?=some b->aV (ar e b)=aV (ar v.d b))/\e.n=v.d.n:=by
 obtain⟨h1,h2,h3,h4⟩:=AZ.1 ho;have WW:=L0 h1;have iX:=(zaa.1 hi).1;have HA:=zag hi;have HF:∀j b,j≠i->v.st.l[j]?=some b->L3 a b:=λj b hj sy=>by
  obtain⟨g1,rfl⟩:=zaa.1 sy;obtain⟨_,rfl⟩:=zaa.1 hi;have:=zdB.1 h4;rcases Nat.lt_or_ge i j with g|g
  ·exact this i j iX g1 g
  ·exact amr (this j i g1 iX ab)
 have htw:∀j b,j≠i->v.st.l[j]?=some b->NG v.d a b:=λj b hj sy=>
  ⟨WW,h3 a HA,h3 b (zag sy),hb.2.1 a HA,hb.2.1 b (zag sy),HF j b hj sy⟩
 have hn:e.n=v.d.n:=by unfold Dk.n;rw[s.su.1.1]
 refine⟨AZ.2 ⟨(bc s.op).1.dk,by show(v.st.l.set i a').length<=8;rw[za0];exact h2,λx hx=>?_,?_⟩,λj b hj sy=>((htw j b hj sy).step s).2.1,hn⟩
 ·obtain⟨j,hjx⟩:=zaE.1 (show x∈v.st.l.set i a' from hx);rw[zaS]at hjx;by_cases g:i=j
  ·rw[if_pos g,if_pos ab]at hjx;cases hjx;exact s.op
  ·rw[if_neg g]at hjx;exact((htw j x (λh=>g h.symm) hjx).step s).1.b0
 ·show(v.st.l.set i a').Pairwise L3;refine zdB.2 λj k hj hk se=>?_
  rw[za0]at hj hk;rw[zd0,zd0];by_cases g1:i=j
  ·rw[if_pos g1,if_neg ab];exact((htw k _ ab (zah hk)).step s).1.ap
  ·rw[if_neg g1];by_cases g2:i=k
   ·rw[if_pos g2];exact amr ((htw j _ ab (zah hj)).step s).1.ap
   ·rw[if_neg g2];exact zdB.1 h4 j k hj hk se
def KX(v:Vo):Prop:=n8 v/\wX v=0
def avi{v:Vo}{i:Nat}{a a':At}{e:Dk}{C:List UInt8}(h:KX v)(hi:v.st.l[i]?=some a)(s:As v.d a e a' C):KX (rl v e i a'):=by
 obtain⟨g1,_,_⟩:=au2 h.1 h.2 hi s;refine⟨⟨pR (L0 (bc s.op).1.dk),λx hx=>?_,by show(v.st.l.set i a').length<=_;rw[za0];exact h.1.2.2⟩,g1⟩;rcases zdF (show x∈v.st.l.set i a' from hx)with hx|rfl
 ·exact h.1.2.1 x hx
 ·exact s.nm
def awk(a:At):(aB a).rn.l=a.rn.l:=rfl
def aup{d:Dk}{a:At}{s:Sp}(hd:wU d)(hn:a.nm.length<=1000000)(h:A4 d a s=0):∃C,As d a (Ib d a s) (D2 d a s) C:=by
 unfold A4 at h;unfold Ib D2;by_cases k1:s.k=1
 ·simp only[if_pos k1]at h ⊢;have h0:yE d a s.p s.dat=0:=by
   apply Classical.byContradiction;intro g;unfold AO at h;rw[if_pos g]at h;exact g h
  obtain⟨g1,g2,g3⟩:=aqp h0;by_cases he:s.dat=[]
  ·have eD:zM d a s.p s.dat=d:=by unfold zM;rw[h0,if_neg (λg=>g rfl),if_pos he]
   have eA:yV d a s.p s.dat=aB a:=by unfold yV;rw[h0,if_neg (λg=>g rfl),if_pos he];rfl
   rw[eD,eA];have o:=Qp g1;exact⟨_,by rw[kU];exact g1,rfl,o,hn⟩
  ·exact⟨_,.of ((Uz g1 hd hn g2.1 g3 he).ok h).1 hn⟩
 simp only[if_neg k1]at h ⊢;by_cases k2:s.k=2
 ·simp only[if_pos k2]at h ⊢;have h0:aK d a=0/\iU s.n:=by
   unfold Jb D8 at h;by_cases g1:aK d a=0
   ·refine⟨g1,Classical.byContradiction λg2=>?_⟩;simp[g1,g2]at h
   ·simp[g1]at h
  exact⟨_,.of ((af3 h0.1 hd hn h0.2).ok h).1 hn⟩
 simp only[if_neg k2]at h ⊢;by_cases k3:s.k=3
 ·simp only[if_pos k3]at h ⊢;have h0:aK d a=0/\iU s.p/\iU s.n:=by
   unfold jm KF at h;by_cases g1:aK d a=0
   ·refine⟨g1,Classical.byContradiction λg2=>?_⟩;simp[g1,g2]at h
   ·simp[g1]at h
  exact⟨_,.of ((aCh h0.1 hd hn h0.2.1 h0.2.2).ok h).1 hn⟩
 simp only[if_neg k3]at h ⊢;have ml:=aBQ (Zv h) hd hn h;rw[ml.D,ml.A];exact⟨_,ml.op,ml.fN,ml.su,hn⟩
def azC{v:Vo}(h:KX v)(s:Sp):KX (YN v s):=by
 unfold YN;split
 ·exact h
 rename_i hk;have hk:=zcY.1 hk;split
 ·exact h
 split
 ·exact h
 rename_i he;have he:=zcY.1 he;obtain⟨b,hb⟩:∃b,v.st.l[s.i.toNat]?=some b:=⟨_,zah ab⟩
 have eb:ni v s.i=b:=by unfold ni;rw[hb];rfl
 rw[eb]at he ⊢;obtain⟨C,sp⟩:=aup (L0 (AZ.1 h.2).1) (h.1.2.1 b (zag hb)) he;exact avi h hb sp
def awu{v:Vo}{l:List Sp}(h:KX v):KX (Jv v l):=by
 induction l generalizing v with
 |nil=>exact h
 |cons s r ih=>exact ih (azC h s)
def avd{v:Vo}:wX (bp v)=0↔wX v=0:=by
 have hl:(bp v).st.l=v.st.l.map aB:=rfl;have hd:(bp v).d=v.d:=rfl;rw[AZ,AZ,hl,hd,zav,zdZ];have e:(∀a∈v.st.l.map aB,aK v.d a=0)↔∀a∈v.st.l,aK v.d a=0:=by
  constructor
  ·intro h a ha;have:=h (aB a) (List.mem_map_of_mem ha);rwa[kU]at this
  ·intro h a ha;obtain⟨b,hb,rfl⟩:=zaX.1 ha;rw[kU];exact h b hb
 rw[e];exact Iff.rfl
def axS{v:Vo}(h:KX v):KX (bp v):=by
 refine⟨⟨h.1.1,λa ha=>?_,by show(v.st.l.map aB).length<=_;rw[zav];exact h.1.2.2⟩,avd.2 h.2⟩;obtain⟨b,hb,rfl⟩:=zaX.1 (show a∈v.st.l.map aB from ha);exact h.1.2.1 b hb
noncomputable def ac4(v:Vo):List (List UInt8):=v.st.l.map λa=>aV (ar v.d a)
def nS{α:Type}{f:α->PV}{l:List α}{n:Nat}{x:α}(h:l[n]?=some x):(l.map f)[(n:Int).toNat]?=some (f x):=by
 rw[zaC,za9,h];rfl
def Sl.zN{α:Type}{f:α->PV}{sz:Nat}{s:Sl α}{n:Nat}{x:α}(h:s.l[n]?=some x):s.pv f sz=.sl sz (s.l.map f):=by
 cases s with
 |nil=>cases h
 |sl l=>rfl
def Xv(n:Nat):Int:=n
def Dc(a:At):List Nat:=if a.rs=true then[]else xM a.rn.l
def sw(l:List Nat):List PV:=(l.map Xv).map pI
def BU(ps:List PV)(r:RV):Prop:=∃a:At,ps=[a.pv]/\(a.rn.l.length<=1000000/\(∀r∈a.rn.l,r.s= -1\/CM r)/\(xM a.rn.l).length<=1000000)/\r=.fresh 3 1 (sw (Dc a))
def arA(a:At)(x:PV):dC:=.box 41 [.pv (pI a.ty),.pv (.str a.nm),.pv (pI a.id),.pv (pI a.fl),.pv (pB false),.pv (.str a.vl),.pv (pI a.ft),.pv x,.pv (pI a.al),.pv (pI a.sz),.pv (pI a.vd)]
def arD{l:List Rn}{n:Nat}{r:Rn}(h:l[n]?=some r):xM (l.take (n+1))=xM (l.take n)++jQ r:=by
 unfold xM;rw[zcX,h,zdq,zaz,zdT]
def adE(l:List Rn)(n:Nat):(xM (l.take n)).length<=(xM l).length:=by
 have h:xM l=xM (l.take n)++xM (l.drop n):=by unfold xM;rw[<-zaz,zaD]
 rw[h,zad];omega
def ae9(l:List Nat):(sw l).length=l.length:=by simp[sw]
def asU(l:List Nat)(c:Nat):sw (l++[c])=sw l++[pI c]:=by simp[sw,Xv]
set_option maxHeartbeats 2000000 in
def akp:MT (ay []) abI (c8 true BU):=by
 rintro _ K ⟨_,⟨a,rfl,⟨h1,h2,h3⟩,rfl⟩,hK⟩;have gJ:(a.rn.l.map Rn.pv).length=a.rn.l.length:=zav _;cases c_:a.rs with
 |true=>
  have e:Dc a=[]:=by unfold Dc;rw[if_pos c_]
  rw[e]at hK;have hp:a.pv=.agg [pI a.ty,.str a.nm,pI a.id,pI a.fl,pB true,.str a.vl,pI a.ft,qF a.rn,pI a.al,pI a.sz,pI a.vd]:=by unfold At.pv;rw[c_]
  rw[hp]
  (conv=>whnf)
  refine⟨λm env σ=>σ=[.box 41 [.pv (pI a.ty),.pv (.str a.nm),.pv (pI a.id),.pv (pI a.fl),.pv (pB true),.pv (.str a.vl),.pv (pI a.ft),.pv (qF a.rn),.pv (pI a.al),.pv (pI a.sz),.pv (pI a.vd)],.row 3 1 true []]/\env=[(1,.ref 0 0 0),(3,.own 1),eN 4 0],0,⟨rfl,rfl⟩,?_⟩;rintro m env σ ⟨rfl,rfl⟩
  (repeat'((conv=>whnf);first|refine KP ?_|refine aN ?_|refine de (λ_=>?_) (λ_=>?_)|refine dq λ_=>?_|fail))<;>try(conv=>whnf)
  all_goals exact⟨.fresh _ _ _,⟨rfl,rfl,rfl,rfl⟩,dn [],hK⟩
 |false=>
  have e:Dc a=xM a.rn.l:=by unfold Dc;rw[if_neg qD]
  rw[e]at hK;have hp:a.pv=.agg [pI a.ty,.str a.nm,pI a.id,pI a.fl,pB false,.str a.vl,pI a.ft,qF a.rn,pI a.al,pI a.sz,pI a.vd]:=by unfold At.pv;rw[c_]
  rw[hp]
  (conv=>whnf)
  refine⟨λm env σ=>∃n:Nat,n+m=a.rn.l.length/\σ=[arA a (qF a.rn),.row 3 1 true (sw (xM (a.rn.l.take n)))]/\env=[(1,.ref 0 0 0),(3,.own 1),eN 4 n],a.rn.l.length,⟨0,ab,rfl,rfl⟩,?_⟩;rintro m env σ ⟨n,hn,rfl,rfl⟩;by_cases aU:n<a.rn.l.length
  ·obtain⟨r,hr⟩:∃r,a.rn.l[n]?=some r:=⟨_,zah aU⟩
   have JA:=h2 r (zag hr);have qH:qF a.rn=.sl 2 (a.rn.l.map Rn.pv):=Sl.zN hr;have hg:=nS (f:=Rn.pv) hr;have ht:=arD hr;have Wq:=adE a.rn.l (n+1);have aGs:((xM (a.rn.l.take n)).length)<=1000000:=zay (adE _ _) h3;rw[ht,zad]at Wq;unfold arA;rw[qH];by_cases hs:r.s= -1
   ·have Wo:jQ r=[]:=by unfold jQ;rw[if_pos hs]
    rw[Wo,zbf]at ht
    (repeat'((conv=>whnf);first|refine au ab ?_|refine bP ?_|refine dq λ_=>?_|fail))<;>try(conv=>whnf)
    refine⟨λm2 env σ=>σ=[arA a (.sl 2 (a.rn.l.map Rn.pv)),.row 3 1 true (sw (xM (a.rn.l.take n)))]/\env=[(1,.ref 0 0 0),(3,.own 1),eN 4 n,eN 5 0],0,⟨rfl,rfl⟩,?_⟩;rintro m2 env σ ⟨rfl,rfl⟩
    (repeat'((conv=>whnf);first|refine⟨_,⟨ab,hg⟩,?_⟩|refine aw (λh=>h hs) ?_|refine bj ab ?_|refine de (λ_=>?_) (λ_=>?_)|fail))<;>try(conv=>whnf)
    all_goals exact⟨m-1,ab,n+1,ab,by rw[ht],rfl⟩
   ·have Wo:jQ r=List.range' r.s.toNat r.n.toNat:=by unfold jQ;rw[if_neg hs]
    have JA:=JA.resolve_left hs;unfold CM at JA;rw[Wo,zdY]at Wq;rw[Wo]at ht
    (repeat'((conv=>whnf);first|refine au ab ?_|refine bP ?_|refine dq λ_=>?_|fail))<;>try(conv=>whnf)
    refine⟨λm2 env σ=>∃k:Nat,(k:Int)+m2=r.n/\σ=[arA a (.sl 2 (a.rn.l.map Rn.pv)),.row 3 1 true (sw (xM (a.rn.l.take n)++List.range' r.s.toNat k))]/\env=[(1,.ref 0 0 0),(3,.own 1),eN 4 n,eN 5 k],r.n.toNat,⟨0,ab,by simp[arA],rfl⟩,?_⟩;rintro m2 env σ ⟨k,hk,rfl,rfl⟩;have hl:=ae9 (xM (a.rn.l.take n)++List.range' r.s.toNat k);rw[zad,zdY]at hl;have hsn:=asU (xM (a.rn.l.take n)++List.range' r.s.toNat k) (r.s.toNat+k);rw[zaj,<-List.range'_1_concat]at hsn;cases m2 with
    |zero=>
     have kP:k=r.n.toNat:=ab
     (repeat'((conv=>whnf);first|refine⟨_,⟨ab,hg⟩,?_⟩|refine aw ab ?_|refine bj ab ?_|fail))<;>try(conv=>whnf)
     exact⟨m-1,ab,n+1,ab,by rw[ht,kP],rfl⟩
    |succ m2=>
     have hv:r.s+(k:Int)=((r.s.toNat+k:Nat):Int):=ab
     (repeat'((conv=>whnf);first|refine⟨_,⟨ab,hg⟩,?_⟩|refine au hs ?_|refine au ab ?_|refine zcB ⟨by rw[hl];simp;omega,by rw[hl];simp;omega⟩ ?_|refine bj ab ?_|refine bT ?_|fail))<;>try(conv=>whnf)
     exact⟨m2,ab,k+1,ab,by rw[hsn,<-hv];rfl,rfl⟩
  ·(repeat'((conv=>whnf);first|refine KP ?_|refine aw ab ?_|refine dq λ_=>?_|fail))<;>try(conv=>whnf)
   rw[za1 ab];exact⟨.fresh _ _ _,⟨rfl,rfl,rfl,rfl⟩,dn _,hK⟩
def ED(seen:List Nat)(i:Int):List At->Int
 |[]=> -1
 |a::r=>if ∃c∈Dc a,c∈seen then i else ED (seen++Dc a) (i+1) r
def aeN(ps:List PV)(x:PV):Prop:=∃s:Sl At,ps=[D4 s]/\(s.l.length<=1000∧∀a∈s.l,a.rn.l.length<=1000000/\(∀r∈a.rn.l,r.s= -1\/CM r)/\(xM a.rn.l).length<=1000)/\x=pI (ED [] 0 s.l)
def ajE(a:At):(Dc a).length<=(xM a.rn.l).length:=by
 unfold Dc;split
 ·simp
 ·omega
def asO{l:List Nat}{c:Nat}:Xv c∈l.map Xv↔c∈l:=by
 rw[zaX];exact⟨λ⟨x,h,e⟩=>by unfold Xv at e;rw[<-show x=c by omega];exact h,λh=>⟨c,h,rfl⟩⟩
set_option maxHeartbeats 4000000 in
def alF:MT (ay [(53,c8 true BU),(83,bF YX)]) WJ (ah aeN):=by
 rintro _ K ⟨_,⟨s,rfl,⟨h1,h2⟩,rfl⟩,hK⟩;have gJ:(s.l.map At.pv).length=s.l.length:=zav _
 (conv=>whnf)
 refine⟨λm env σ=>∃(n:Nat) (seen:List Nat),(n+m=s.l.length/\seen.length<=1000*n/\ED [] 0 s.l=ED seen n (s.l.drop n))/\σ=[.row 3 1 true (sw seen)]/\env=[(0,.pv (D4 s)),(3,.own 0),eN 4 n],s.l.length,⟨0,[],⟨ab,aj,rfl⟩,rfl,rfl⟩,?_⟩;rintro m env σ ⟨n,seen,⟨hn,qH,hg⟩,rfl,rfl⟩;by_cases aU:n<s.l.length
 case neg=>
  (repeat'((conv=>whnf);first|refine KP ?_|refine aw ab ?_|refine dq λ_=>?_|fail))<;>try(conv=>whnf)
  rw[hg,zdC ab]at hK;exact aG
 obtain⟨a,ha⟩:∃a,s.l[n]?=some a:=⟨_,zah aU⟩
 obtain⟨q1,q2,q3⟩:=h2 a (zag ha);have hsv:D4 s=.sl 11 (s.l.map At.pv):=Sl.zN ha;have vt:=nS (f:=At.pv) ha;have hd:BU [a.pv] _:=⟨a,rfl,⟨q1,q2,ab⟩,rfl⟩
 have Aj:=ajE a;have mE:ED seen n (s.l.drop n)=if ∃c∈Dc a,c∈seen then(n:Int)else ED (seen++Dc a) (n+1) (s.l.drop (n+1)):=by
  rw[drop_cons ha];rfl
 rw[mE]at hg;generalize Dc a=D at*;have hDl:=ae9 D;rw[hsv]
 (repeat'((conv=>whnf);first|refine au ab ?_|refine⟨_,⟨ab,vt⟩,?_⟩|refine⟨_,hd,?_⟩|refine dq λ_=>?_|fail))<;>try(conv=>whnf)
 refine⟨λm2 env σ=>∃j:Nat,(j+m2=D.length∧∀i c,i<j->D[i]?=some c->c∉seen)/\σ=[.row 3 1 true (sw seen),.row 3 1 true (sw D)]/\env=[(0,.pv (.sl 11 (s.l.map At.pv))),(3,.own 0),eN 4 n,(5,.own 1),eN 6 j],D.length,⟨0,⟨ab,λi c h=>absurd h ab⟩,rfl,rfl⟩,?_⟩;rintro m2 env σ ⟨j,⟨hj,tT⟩,rfl,rfl⟩;by_cases HQ:j<D.length
 ·obtain⟨c,hc⟩:∃c,D[j]?=some c:=⟨_,zah HQ⟩
  have hgc:(sw D)[(j:Int).toNat]?=some (pI (Xv c)):=by
   unfold sw;exact nS (f:=pI) (l:=D.map Xv) (by rw[za9,hc];rfl)
  have hQ:YX [.sl 1 (sw seen),pI (Xv c)] (Xv c∈seen.map Xv):=⟨seen.map Xv,Xv c,rfl,oP,rfl⟩
  (repeat'((conv=>whnf);first|refine au ab ?_|refine zcB ⟨ab,ab⟩ ?_|refine⟨_,hgc,?_⟩|refine⟨_,hQ,?_⟩|refine bj ab ?_|refine de (λ_=>?_) (λ_=>?_)|refine dq λ_=>?_|fail))<;>try(conv=>whnf)
  ·rename_i hx;rw[if_pos ⟨c,zag hc,asO.1 hx⟩]at hg;rw[hg]at hK;exact⟨.pv (pI n),rfl,trivial,hK⟩
  ·rename_i hx;refine⟨m2-1,ab,j+1,⟨ab,λi x hi XM=>?_⟩,rfl,rfl⟩;by_cases e:i=j
   ·subst e;rw[hc]at XM;cases XM;exact λh=>hx (asO.2 h)
   ·exact tT i x ab XM
 ·have azQ:¬ ∃c∈D,c∈seen:=λ⟨c,h1,h2⟩=>by
   obtain⟨i,hi⟩:=jk.1 h1;exact tT i c (by have:=eT hi;omega) hi h2
  rw[if_neg azQ]at hg;have hsn:=ae9 seen;have aJO:sw (seen++D)=sw seen++sw D:=by simp[sw]
  (repeat'((conv=>whnf);first|refine aw ab ?_|refine zcB ⟨by rw[hsn,hDl];omega,by rw[hsn,hDl];omega⟩ ?_|refine bj ab ?_|refine dq λ_=>?_|fail))<;>try(conv=>whnf)
  exact⟨m-1,ab,n+1,seen++D,⟨ab,by rw[zad];omega,by rw[hg];rfl⟩,by rw[aJO],rfl⟩
def R_{d:Dk}{a:At}(h:aK d a=0):Dc a=xM a.rn.l:=by
 unfold Dc;split
 ·rename_i hr;have h1:=(AD (lE (bc h).1.str).1).rs hr;rw[zdQ.1 h1.1];rfl
 ·rfl
def axH{i:Int}:∀{l:List At} {seen:List Nat},ED seen i l= -1→∀(a:At),0<=i->ED seen i (l++[a])=if ∃c∈Dc a,c∈seen++l.flatMap Dc then i+l.length else-1:=by
 intro l
 induction l generalizing i with
 |nil=>intro seen _ a _;simp[ED]
 |cons b l ih=>
  intro seen h a hi;have e:∀l,ED seen i (b::l)=if ∃c∈Dc b,c∈seen then i else ED (seen++Dc b) (i+1) l:=λ_=>rfl
  rw[zbd,e];rw[e]at h;by_cases g:∃c∈Dc b,c∈seen
  ·rw[if_pos g]at h;omega
  ·rw[if_neg g]at h ⊢;rw[ih h a ab,zan,zaj,zam];congr 1;omega
def aqE{d:Dk}{a:At}{o:List Int}{seen:List Nat}{i:Int}(hi:0<=i)(h0:aK d a=0)(ho:∀c,c<d.n->(0<=o[c]?.getD 0↔c∈seen)):Wi o i (xM a.rn.l)=none↔∃c∈Dc a,c∈seen:=by
 rw[R_ h0];have hr:=Bd h0;have hn:=adr (λr h=>(hr r h).imp id (·.1)) (u0 (bc h0).1.rn);have aU:∀c∈xM a.rn.l,c<d.n:=λc hc=>by
  obtain⟨r,Ql,Wo⟩:=zbz.1 hc;have h5:=hr r Ql;unfold jQ at Wo;split at Wo
  ·exact absurd Wo aj
  ·rw[zdN]at Wo;omega
 constructor
 ·intro h;apply Classical.byContradiction;intro g;obtain⟨o',ho'⟩:=(TL (o:=o) hi).2 ⟨hn,λc hc=>Int.not_le.1 λh=>g ⟨c,hc,(ho c (aU c hc)).1 h⟩⟩;rw[h]at ho';cases ho'
 ·rintro⟨c,hc,hs⟩;cases hg:Wi o i (xM a.rn.l)with
  |none=>rfl
  |some o'=>
   have g1:=((TL hi).1 ⟨o',hg⟩).2 c hc;have g2:=(ho c (aU c hc)).2 hs;exact absurd g1 ab
def ar_{d:Dk}{a:At}{o o':List Int}{seen:List Nat}{i:Int}(hi:0<=i)(h0:aK d a=0)(ho:∀c,c<d.n->(0<=o[c]?.getD 0↔c∈seen))(hg:Wi o i (xM a.rn.l)=some o'):∀c,c<d.n->(0<=o'[c]?.getD 0↔c∈seen++Dc a):=by
 intro c hc;rw[aa8 hg c,R_ h0,zaA];by_cases g:c∈xM a.rn.l
 ·rw[if_pos g];exact⟨λ_=>.inr g,λ_=>hi⟩
 ·rw[if_neg g,ho c hc];exact⟨.inl,λh=>h.resolve_right g⟩
def ani:∀{l m:List Nat},l.Nodup->l ⊆ m->l.length<=m.length
 |[],_,_,_=>by simp
 |a::l,m,hn,hs=>by
  obtain⟨h1,h2⟩:=zdR.1 hn;have hm:a∈m:=hs aj;have:=ani (m:=m.erase a) h2 λx hx=>(List.mem_erase_of_ne (λe:x=a=>h1 (e▸hx))).2 (hs iP)
  rw[List.length_erase_of_mem hm]at this;have:=List.length_pos_of_mem hm;simp only[zam];omega
def Re{d:Dk}{a:At}(h:aK d a=0):(xM a.rn.l).length<=512/\a.rn.l.length<=100000∧∀r∈a.rn.l,r.s= -1\/CM r:=by
 have hr:=Bd h;have hl:=(bZ (bc h).1.rn).1;have hd:=(rX (bc h).1.dk).2.1;have hn:=adr (λr h=>(hr r h).imp id (·.1)) (u0 (bc h).1.rn);refine⟨?_,ab,λr Ql=>(hr r Ql).imp id λh=>⟨h.1,h.2.1,ab⟩⟩;have aJN:xM a.rn.l ⊆ List.range d.n:=λc hc=>by
  obtain⟨r,Ql,Wo⟩:=zbz.1 hc;have h5:=hr r Ql;unfold jQ at Wo;split at Wo
  ·exact absurd Wo aj
  ·rw[zdN]at Wo;rw[zbm];omega
 have:=ani hn aJN;rw[List.length_range]at this;omega
def H4(ps:List PV)(r:RV):Prop:=∃v:Vo,ps=[v.pv]/\(n8 v∧∀a∈v.st.l,a.rn.l.length<=1000000)/\r=.tup [.pv (pI (ZX v).1),.pv (pI (ZX v).2)]
set_option maxHeartbeats 4000000 in
def ahd:MT (ay [(67,ah dm),(55,c8 false dK),(72,ah tQ),(81,ah aeN)]) Wv (c8 true H4):=by
 rintro _ K ⟨_,⟨v,rfl,⟨h1,h4⟩,rfl⟩,hK⟩;obtain⟨h1,h2,h3⟩:=h1;have hd:dm [v.d.pv] (pI (gm v.d)):=⟨v.d,rfl,h1,rfl⟩
 have gJ:(v.st.l.map At.pv).length=v.st.l.length:=zav _;unfold ZX at hK;by_cases h0:gm v.d=0
 case neg=>
  rw[if_pos h0]at hK
  (repeat'((conv=>whnf);first|refine⟨_,hd,?_⟩|refine au h0 ?_|fail))<;>try(conv=>whnf)
  exact⟨[.pv (pI 0),.pv (pI (gm v.d))],⟨rfl,rfl,trivial⟩,⟨trivial,trivial,trivial⟩,hK⟩
 rw[if_neg (λh=>h h0)]at hK;rw[h0]at hd;by_cases hl:8<v.st.l.length
 ·rw[if_pos hl]at hK
  (repeat'((conv=>whnf);first|refine⟨_,hd,?_⟩|refine KP ?_|refine au ab ?_|refine aw ab ?_|refine dq λ_=>?_|fail))<;>try(conv=>whnf)
  exact⟨[.pv (pI 0),.pv (pI 8)],⟨rfl,rfl,trivial⟩,⟨trivial,trivial,trivial⟩,hK⟩
 rw[if_neg hl]at hK
 (repeat'((conv=>whnf);first|refine⟨_,hd,?_⟩|refine KP ?_|refine aw ab ?_|refine dq λ_=>?_|fail))<;>try(conv=>whnf)
 refine⟨λm env σ=>∃(n:Nat) (o:List Int),(n+m=v.st.l.length/\(∀c,c<v.d.n->(0<=o[c]?.getD 0↔c∈(v.st.l.take n).flatMap Dc))/\ED [] 0 (v.st.l.take n)= -1/\(∀a∈v.st.l.take n,aK v.d a=0)/\FH v.d (Fu v.d) 0 v.st.l=FH v.d o n (v.st.l.drop n))/\σ=[.box 26 [.pv (.str v.d.a_),.pv (.str v.d.mp),.pv (D4 v.st)]]/\env=[(1,.ref 0 0 0),eN 6 n],v.st.l.length,⟨0,Fu v.d,⟨ab,λc hc=>by have:=(am1 (d:=v.d)).2 hc;simp;omega,rfl,λ_ h=>absurd h aj,rfl⟩,rfl,rfl⟩,?_⟩;rintro m env σ ⟨n,o,⟨hn,ho,mE,sM,hg⟩,rfl,rfl⟩;by_cases aU:n<v.st.l.length
 case neg=>
  (repeat'((conv=>whnf);first|refine KP ?_|refine aw ab ?_|refine dq λ_=>?_|fail))<;>try(conv=>whnf)
  rw[hg,zdC ab]at hK;exact⟨[.pv (pI 0),.pv (pI 0)],⟨rfl,rfl,trivial⟩,⟨trivial,trivial,trivial⟩,hK⟩
 obtain⟨a,ha⟩:∃a,v.st.l[n]?=some a:=⟨_,zah aU⟩
 have HA:=zag ha;have hsv:D4 v.st=.sl 11 (v.st.l.map At.pv):=Sl.zN ha;have vt:=nS (f:=At.pv) ha;have Aw:dK [a.pv] _:=⟨a,rfl,h4 a HA,rfl⟩
 have sH:tQ [v.d.pv,(aB a).pv] (pI (aK v.d a)):=⟨v.d,aB a,rfl,⟨h1,h2 a HA⟩,by rw[kU]⟩
 rw[apI ha]at hg;rw[hg]at hK;rw[hsv];by_cases h5:aK v.d a=0
 case neg=>
  rw[if_pos h5]at hK
  (repeat'((conv=>whnf);first|refine au ab ?_|refine⟨_,⟨ab,vt⟩,?_⟩|refine⟨_,Aw,?_⟩|refine⟨_,sH,?_⟩|refine dq λ_=>?_|refine bT ?_|fail))<;>try(conv=>whnf)
  exact⟨[.pv (pI n),.pv (pI _)],⟨rfl,rfl,trivial⟩,⟨trivial,trivial,trivial⟩,hK⟩
 rw[if_neg (λh=>h h5)]at hK hg;have kv:v.st.l.take (n+1)=v.st.l.take n++[a]:=by rw[zcX,ha];rfl
 have nK:∀x∈v.st.l.take (n+1),aK v.d x=0:=λx hx=>by
  rw[kv,zaA,zc2]at hx;rcases hx with hx|rfl
  ·exact sM x hx
  ·exact h5
 have cM:=axH mE a ab;rw[zaZ,<-kv]at cM;have HR:cut 0 ((n:Int)+1).toNat (v.st.l.map At.pv)=(v.st.l.take (n+1)).map At.pv:=by
  unfold cut;rw[zdk,<-List.map_take];congr 2
 have hC:aeN [.sl 11 (cut 0 ((n:Int)+1).toNat (v.st.l.map At.pv))] _:=⟨.sl (v.st.l.take (n+1)),by rw[HR];rfl,⟨by rw[show(Sl.sl (v.st.l.take (n+1))).l=v.st.l.take (n+1)from rfl,zal];omega,λx hx=>by
  obtain⟨q1,q2,q3⟩:=Re (nK x hx);exact⟨ab,q3,ab⟩⟩,rfl⟩
 rw[show(Sl.sl (v.st.l.take (n+1))).l=v.st.l.take (n+1)from rfl,cM]at hC;have CY:=aqE (i:=n) ab h5 ho
 (repeat'((conv=>whnf);first|refine au ab ?_|refine⟨_,⟨ab,vt⟩,?_⟩|refine⟨_,Aw,?_⟩|refine⟨_,sH,?_⟩|refine aw (λh=>h h5) ?_|refine⟨_,hC,?_⟩|refine bj ab ?_|refine de (λ_=>?_) (λ_=>?_)|refine dq λ_=>?_|refine bT ?_|refine wz ?_|fail))<;>try(conv=>whnf)
 ·rename_i x;by_cases g:∃c∈Dc a,c∈(v.st.l.take n).flatMap Dc
  ·rw[CY.2 g]at hK;have e:(0:Int)+((v.st.l.take n).length:Int)=n:=eI;rw[if_pos g,e];exact⟨[.pv (pI n),.pv (pI 13)],⟨rfl,rfl,trivial⟩,⟨trivial,trivial,trivial⟩,hK⟩
  ·rw[if_neg g]at x;omega
 ·rename_i x;have g:¬ ∃c∈Dc a,c∈(v.st.l.take n).flatMap Dc:=λg=>by rw[if_pos g]at x;omega
  rw[if_neg g]at cM;obtain⟨o',ho'⟩:∃o',Wi o n (xM a.rn.l)=some o':=by
   cases e:Wi o n (xM a.rn.l)with
   |none=>exact absurd (CY.1 e) g
   |some o'=>exact⟨o',rfl⟩
  have hs:=ar_ ab h5 ho ho';rw[ho']at hg;refine⟨m-1,ab,n+1,o',⟨ab,λc hc=>?_,cM,nK,by rw[hg];rfl⟩,rfl,rfl⟩;rw[hs c hc,kv,zaz,zdT]
def ais{α β:Type}{f:α->β}{a b:List α}(hl:a.length=b.length)(h:∀(j:Nat) (x y:α),a[j]?=some x->b[j]?=some y->f x=f y):a.map f=b.map f:=by
 refine zba λj=>?_
 rw[za9,za9];by_cases hj:j<a.length
 ·rw[zah hj,zah ab];exact congrArg some (h j _ _ (zah hj) (zah ab))
 ·rw[zaK ab,zaK ab]
def arG{α:Type}{a b:List α}(e:a=b){n:Nat}{x y:α}(hx:a[n]?=some x)(hy:b[n]?=some y):x=y:=by
 subst e;rw[hx]at hy;exact Option.some.inj hy
def awm{α:Type}{a b:List α}(hl:a.length=b.length)(h:∀(j:Nat) (x y:α),a[j]?=some x->b[j]?=some y->x=y):a=b:=by
 have:=ais (f:=id) hl h;simpa using this
def Px(l:List (List UInt8)):List PV:=l.map PV.str
def aeY(ps:List PV)(p:Prop):Prop:=∃a b:List (List UInt8),ps=[.sl 1 (Px a),.sl 1 (Px b)]/\(a.length<=1000000/\b.length<=1000000)/\p=(a=b)
set_option maxHeartbeats 2000000 in
def amT:MT (ay []) abd (bF aeY):=by
 rintro _ K ⟨_,⟨a,b,rfl,⟨h1,h2⟩,rfl⟩,hK⟩;have la:(Px a).length=a.length:=zav _;have lb:(Px b).length=b.length:=zav _;by_cases hl:a.length=b.length
 case neg=>
  have cb:¬a=b:=λe=>hl (by rw[e])
  (repeat'((conv=>whnf);first|refine au ab ?_|refine dq λ_=>?_|fail))<;>try(conv=>whnf)
  exact⟨.pv (.bool _),rfl,trivial,hK false (by simp only[cb,zcn])⟩
 (repeat'((conv=>whnf);first|refine aw ab ?_|refine dq λ_=>?_|fail))<;>try(conv=>whnf)
 refine⟨λm env σ=>∃n:Nat,(n+m=a.length∧∀j,j<n→∀x y,a[j]?=some x->b[j]?=some y->x=y)/\σ=[]/\env=[(0,.pv (.sl 1 (Px a))),(1,.pv (.sl 1 (Px b))),eN 5 n],a.length,⟨0,⟨ab,λj hj=>ab⟩,rfl,rfl⟩,?_⟩;rintro m env σ ⟨n,⟨hn,h0⟩,rfl,rfl⟩;by_cases aU:n<a.length
 ·obtain⟨x,hx⟩:∃x,a[n]?=some x:=⟨_,zah aU⟩
  obtain⟨y,hy⟩:∃y,b[n]?=some y:=⟨_,zah ab⟩
  have Wk:(Px a)[(n:Int).toNat]?=some (.str x):=nS (f:=PV.str) hx;have hgy:(Px b)[(n:Int).toNat]?=some (.str y):=nS (f:=PV.str) hy;by_cases zn:x=y
  ·(repeat'((conv=>whnf);first|refine au ab ?_|refine⟨_,⟨ab,Wk⟩,?_⟩|refine⟨_,⟨ab,hgy⟩,?_⟩|refine aw (λh=>h zn) ?_|refine bj ab ?_|refine dq λ_=>?_|refine bT ?_|fail))<;>try(conv=>whnf)
   refine⟨m-1,ab,n+1,⟨ab,λj hj x' y' dR cn=>?_⟩,rfl,rfl⟩;rcases zc0 (zc1 hj)with h1|h1
   ·exact h0 j h1 x' y' dR cn
   ·subst h1;rw[hx]at dR;rw[hy]at cn;cases dR;cases cn;exact zn
  ·have cb:¬a=b:=λe=>zn (arG e hx hy)
   (repeat'((conv=>whnf);first|refine au ab ?_|refine⟨_,⟨ab,Wk⟩,?_⟩|refine⟨_,⟨ab,hgy⟩,?_⟩|refine dq λ_=>?_|refine bT ?_|fail))<;>try(conv=>whnf)
   exact⟨.pv (.bool _),rfl,trivial,hK false (by simp only[cb,zcn])⟩
 ·have he:a=b:=awm hl λj x y hx hy=>h0 j (by have:=eT hx;omega) x y hx hy
  (repeat'((conv=>whnf);first|refine aw ab ?_|refine dq λ_=>?_|fail))<;>try(conv=>whnf)
  exact⟨.pv (.bool _),rfl,trivial,hK true (by simp only[he])⟩
def aa7(ps:List PV)(r:RV):Prop:=∃s:Sl At,ps=[D4 s]/\(s.l.length<=1000000∧∀a∈s.l,a.rn.l.length<=1000000)/\r=.fresh 41 11 ((s.l.map aB).map At.pv)
def aky:MT (ay [(55,c8 false dK)]) Al (c8 false aa7):=by
 rintro _ K ⟨_,⟨s,rfl,⟨h1,h2⟩,rfl⟩,hK⟩
 (conv=>whnf)
 refine⟨λm env σ=>∃n:Nat,n+m=s.l.length/\σ=[.row 41 11 true (((s.l.take n).map aB).map At.pv)]/\env=[(0,.pv (D4 s)),(3,.own 0),eN 4 n],s.l.length,⟨0,ab,rfl,rfl⟩,?_⟩;rintro m env σ ⟨n,hn,rfl,rfl⟩;by_cases aU:n<s.l.length
 ·obtain⟨a,ha⟩:∃a,s.l[n]?=some a:=⟨_,zah aU⟩
  have qH:D4 s=.sl 11 (s.l.map At.pv):=Sl.zN ha;have vt:=nS (f:=At.pv) ha;have Aw:dK [a.pv] _:=⟨a,rfl,h2 a (zag ha),rfl⟩
  have hl:(((s.l.take n).map aB).map At.pv).length=n:=aH;have ht:((s.l.take (n+1)).map aB).map At.pv=((s.l.take n).map aB).map At.pv++[(aB a).pv]:=by rw[zcX,ha];simp
  rw[qH]
  (repeat'((conv=>whnf);first|refine au ab ?_|refine⟨_,⟨ab,vt⟩,?_⟩|refine⟨_,Aw,?_⟩|refine zcB ⟨by rw[hl];simp;omega,by rw[hl];simp;omega⟩ ?_|refine bj ab ?_|refine dq λ_=>?_|refine bT ?_|fail))<;>try(conv=>whnf)
  exact⟨m-1,ab,n+1,ab,by rw[ht],rfl⟩
 ·(repeat'((conv=>whnf);first|refine KP ?_|refine aw ab ?_|refine dq λ_=>?_|fail))<;>try(conv=>whnf)
  rw[za1 ab];exact⟨.fresh _ _ _,⟨rfl,rfl,rfl,rfl⟩,trivial,hK⟩
def qM(ps:List PV)(r:RV):Prop:=∃v:Vo,ps=[v.pv]/\(v.st.l.length<=1000000∧∀a∈v.st.l,a.rn.l.length<=1000000)/\r=.agg [.pv (.str v.d.a_),.pv (.str v.d.mp),.fresh 41 11 ((v.st.l.map aB).map At.pv)]
def alu:MT (ay [(65,c8 false aa7)]) Zt (c8 false qM):=by
 rintro _ K ⟨_,⟨v,rfl,h,rfl⟩,hK⟩;have hc:aa7 [D4 v.st] _:=⟨v.st,rfl,h,rfl⟩
 (repeat'((conv=>whnf);first|refine⟨_,hc,?_⟩|refine bT ?_|fail))<;>try(conv=>whnf)
 exact⟨.agg [.pv _,.pv _,.fresh _ _ _],⟨rfl,rfl,⟨rfl,rfl,rfl,rfl⟩,trivial⟩,trivial,hK⟩
def ab9(ps:List PV)(r:RV):Prop:=∃s:Sl Sp,ps=[Im s]/\s.l.length<=1000000/\r=.fresh 107 7 (s.l.map Sp.pv)
def Sp.flat(l:List Sp):∀x∈l.map Sp.pv,x.flat:=by
 intro x hx;obtain⟨m,_,rfl⟩:=zaX.1 hx;intro c hc;rcases hc with _|⟨_,_|⟨_,_|⟨_,_|⟨_,_|⟨_,_|⟨_,_|⟨_,h⟩⟩⟩⟩⟩⟩⟩<;>first|exact trivial|cases h
def akF:MT (ay []) JX (c8 true ab9):=by
 rintro _ K ⟨_,⟨s,rfl,hs,rfl⟩,hK⟩;have gJ:(s.l.map Sp.pv).length=s.l.length:=zav _
 (repeat'((conv=>whnf);first|refine KP ?_|refine bT ?_|refine zcB cu ?_|fail))<;>try(conv=>whnf)
 exact⟨.fresh _ _ _,⟨rfl,rfl,rfl,rfl⟩,Sp.flat _,hK⟩
def voN(v:Vo):Prop:=v.st.l.length<=1000000∧∀a∈v.st.l,a.rn.l.length<=1000000
def yL(c:Nat)(o i:Int):List At->Int
 |[]=>o
 |a::r=>yL c (if c∈Dc a then i else o) (i+1) r
def owR(v:Vo):List Int:=(List.range v.d.n).map λc=>yL c (xd v.d c) 0 v.st.l
def aj3(v:Vo):(owR v).length=v.d.n:=by simp[owR]
def aiZ{v:Vo}{c:Nat}(h:c<v.d.n):(owR v)[c]?=some (yL c (xd v.d c) 0 v.st.l):=by
 unfold owR;rw[za9,zbD h];rfl
def LZ(l:List Nat):List Rn:=l.foldl (λ(acc:List Rn) (c:Nat)=>cO acc (c:Int)) []
noncomputable def acZ(d:Dk):List Rn:=ae (λc=>¬bH d.mp c=1) d.n
def ata{v:Vo}{i:Int}(h:LI v i=0):wX v=0/\0<=i/\i<=(v.st.l.length:Int)-1:=by
 unfold LI at h;by_cases g:wX v=0
 ·refine⟨g,?_⟩;rw[if_neg (λh=>h g)]at h;split at h
  ·assumption
  ·exact absurd h ao
 ·rw[if_pos g]at h;exact sF
def U1.rb{v:Vo}(h:U1 v){a:At}(ha:a∈v.st.l):a.rn.l.length<=100000∧∀r∈a.rn.l,r.s= -1\/CM r:=by
 have hl:=(bZ (bc (h.op a ha)).1.rn).1;have hd:=(rX h.dk).2.1;refine⟨ab,λr hr=>?_⟩;rcases Bd (h.op a ha) r hr with h|⟨h,h',h''⟩
 ·exact .inl h
 ·exact .inr ⟨h,h',ab⟩
noncomputable def pcE(v:Vo)(i:Int):List Rn:=open Classical in if LI v i≠0 then[]else Yd (ni v i).rn.l
def A8(ps:List PV)(r:RV):Prop:=∃(v:Vo) (i:Int),ps=[v.pv,pI i]/\n8 v/\r=.tup [.fresh 37 2 ((pcE v i).map Rn.pv),.pv (pI (LI v i))]
def agD:MT (ay [(63,c8 false ZQ),(64,c8 true H7)]) MG (c8 false A8):=by
 rintro _ K ⟨_,⟨v,i,rfl,h1,rfl⟩,hK⟩;have ho:ZQ [v.pv,pI i] _:=⟨v,i,rfl,h1,rfl⟩
 unfold pcE at hK;by_cases he:LI v i=0
 case neg=>
  rw[if_pos he]at hK
  (repeat'((conv=>whnf);first|refine⟨_,ho,?_⟩|refine au he ?_|refine bT ?_|fail))<;>try(conv=>whnf)
  exact⟨[.fresh _ _ _,.pv (pI _)],⟨⟨rfl,rfl,rfl,rfl⟩,rfl,trivial⟩,trivial,hK⟩
 rw[if_neg (λh=>h he)]at hK;obtain⟨sM,hi⟩:=ata he;have hk:=P0 h1 sM;obtain⟨b,hb⟩:∃b,v.st.l[i.toNat]?=some b:=⟨_,zah ab⟩
 have eb:ni v i=b:=by unfold ni;rw[hb];rfl
 rw[eb]at hK;obtain⟨q1,q2⟩:=hk.rb (zag hb);have hpp:H7 [v.pv,pI i] _:=⟨v,i,b,rfl,⟨hi.1,hb,q1,q2⟩,rfl⟩
 (repeat'((conv=>whnf);first|refine⟨_,ho,?_⟩|refine aw (λh=>h he) ?_|refine⟨_,hpp,?_⟩|refine bT ?_|fail))<;>try(conv=>whnf)
 rw[he]at hK;exact⟨[.fresh _ _ _,.pv (pI _)],⟨⟨rfl,rfl,rfl,rfl⟩,rfl,trivial⟩,trivial,hK⟩
set_option maxHeartbeats 4000000 in
def agm:MT (ay [(74,c8 false q6),(68,ah dG),(66,ah gB),(118,ah ald),(117,c8 false aeD),(119,c8 false afk),(90,c8 false Ks)]) Mc (c8 false Oe):=by
 rintro _ K ⟨_,⟨v,s,rfl,⟨h1,h2,h3⟩,rfl⟩,hK⟩;have ho:q6 [v.pv] _:=⟨v,rfl,h1,rfl⟩
 have he:aeD [Im s,.clo 118 []] _:=⟨s,rfl,h2,rfl⟩
 have gJ:(s.l.map Sp.pv).length=s.l.length:=zav _;have BV:=acx h1;unfold Sr SV ID at hK;generalize wX v=E at*;by_cases hE:E=0
 case neg=>
  simp only[if_pos hE]at hK
  (repeat'((conv=>whnf);first|refine⟨_,ho,?_⟩|refine KP ?_|(refine aw (by rw[Cc _ hE];exact hE) ?_)|(refine au (by rw[Cc _ hE];exact hE) ?_)|(refine fe ?_;first|refine de (λ_=>?_) (λ_=>?_)|refine dq λ_=>?_|refine bT ?_|refine⟨_,⟨_,_,rfl,rfl⟩,?_⟩|refine⟨_,⟨[_,_],rfl,rfl⟩,?_⟩|fail)))<;>try(conv=>whnf)
  all_goals
   rw[Cc _ hE];exact⟨[.fresh 104 2 [],.pv TZ.pv,.pv (pI _)],⟨⟨rfl,rfl,rfl,rfl⟩,rfl,rfl,trivial⟩,trivial,hK⟩
 subst hE;simp only[ne_eq,not_true_eq_false,if_false]at hK;by_cases hl:s.l.length<=40
 case neg=>
  simp only[if_neg hl]at hK
  (repeat'((conv=>whnf);first|refine⟨_,ho,?_⟩|refine KP ?_|refine aw ab ?_|(refine aw (by rw[CB ao];decide) ?_)|(refine au (by rw[CB ao];decide) ?_)|(refine fe ?_;first|refine dq λ_=>?_|refine bT ?_|refine⟨_,⟨_,_,rfl,rfl⟩,?_⟩|refine⟨_,⟨[_,_],rfl,rfl⟩,?_⟩|fail)))<;>try(conv=>whnf)
  rw[if_pos ao,if_pos ao]at hK;rw[CB ao];exact⟨[.fresh 104 2 [],.pv TZ.pv,.pv (pI _)],⟨⟨rfl,rfl,rfl,rfl⟩,rfl,rfl,trivial⟩,trivial,hK⟩
 simp only[if_pos hl]at hK;generalize hek:(BE 0 s.l).2=E2 at*;by_cases hE:E2=0
 case neg=>
  simp only[if_pos hE]at hK
  (repeat'((conv=>whnf);first|refine⟨_,ho,?_⟩|refine KP ?_|refine au ab ?_|(refine au (by rw[NO]) ?_)|refine⟨_,he,?_⟩|(refine fe ?_;first|refine dq λ_=>?_|refine bT ?_|refine⟨_,⟨_,_,rfl,rfl⟩,?_⟩|refine⟨_,⟨[_,_],rfl,rfl⟩,?_⟩|fail)))<;>try(conv=>whnf)
  exact⟨[.fresh 104 2 [],.pv TZ.pv,.pv (pI _)],⟨⟨rfl,rfl,rfl,rfl⟩,rfl,rfl,trivial⟩,trivial,hK⟩
 subst hE;simp only[ne_eq,not_true_eq_false,if_false]at hK
 (repeat'((conv=>whnf);first|refine⟨_,ho,?_⟩|refine KP ?_|refine au ab ?_|(refine au (by rw[NO]) ?_)|refine⟨_,he,?_⟩|(refine aw (λh=>h rfl) ?_)|(refine fe ?_;first|refine dq λ_=>?_|refine bT ?_|refine⟨_,⟨_,_,rfl,rfl⟩,?_⟩|refine⟨_,⟨[_,_],rfl,rfl⟩,?_⟩|fail)))<;>try(conv=>whnf)
 have hv:=BV rfl;refine⟨λm env σ=>∃(n:Nat) (w:Vo) (l:List An),(n+m=s.l.length/\l.length=n/\A3 w/\l++Kh w (s.l.drop n)=Kh v s.l/\Jv w (s.l.drop n)=Jv v s.l)/\σ=[.box 26 [.pv (.str []),.pv (.str []),.pv (.nil 11)],.box 110 [.pv (.str w.d.a_),.pv (.str w.d.mp),.pv (D4 w.st)],.row 104 2 true (l.map An.pv)]/\
  env=[(5,.ref 0 0 0),(7,.ref 1 0 0),(9,.own 2),(36,.pv (Im s)),eN 37 s.l.length,eN 38 n],s.l.length,⟨0,v,[],⟨ab,rfl,hv,rfl,rfl⟩,rfl,rfl⟩,?_⟩
 rintro m env σ ⟨n,w,l,⟨hn,Ee,hw,hA,hV⟩,rfl,rfl⟩;by_cases aU:n<s.l.length
 case neg=>
  rw[zdC ab]at hA hV;have OC:Kh v s.l=l:=by rw[<-hA];exact zbf l
  have Y_:Jv v s.l=w:=hV.symm;rw[OC,Y_]at hK;have eh:Ks [w.pv] _:=⟨w,rfl,hw.own,rfl⟩
  (repeat'((conv=>whnf);first|refine aw ab ?_|refine⟨_,eh,?_⟩|refine bT ?_|fail))<;>try(conv=>whnf)
  exact⟨[.fresh 104 2 (l.map An.pv),.pv (bp w).pv,.pv (pI 0)],⟨⟨rfl,rfl,rfl,rfl⟩,rfl,rfl,trivial⟩,trivial,hK⟩
 obtain⟨x,hx⟩:∃x,s.l[n]?=some x:=⟨_,zah aU⟩
 have qH:Im s=.sl 7 (s.l.map Sp.pv):=by
  cases s with
  |nil=>cases hx
  |sl l=>rfl
 have D6:(s.l.map Sp.pv)[(n:Int).toNat]?=some x.pv:=by rw[zaC,za9,hx];rfl
 have fM:afk [w.pv,x.pv] _:=⟨w,x,rfl,⟨hw,h3 x (zag hx)⟩,rfl⟩
 rw[drop_cons hx]at hA hV;have OC:(l++[vf w x])++Kh (YN w x) (s.l.drop (n+1))=Kh v s.l:=by rw[<-hA,zaj];rfl
 rw[qH]
 (repeat'((conv=>whnf);first|refine au ab ?_|refine⟨_,⟨ab,D6⟩,?_⟩|refine⟨_,fM,?_⟩|refine zcB ⟨by simp only[zav,zbS];omega,by simp only[zav,zbS];omega⟩ ?_|refine bj ab ?_|refine bT ?_|fail))<;>try(conv=>whnf)
 exact⟨m-1,ab,n+1,YN w x,l++[vf w x],⟨ab,by simp[Ee],ax0 hw x,OC,hV⟩,by rw[zbu];rfl,rfl⟩
def avb:∀x:Fin 256,∀k:Fin 8,iz .andNot .u8 (x.val:Int) ((2^k.val:Nat):Int)=(((Po (UInt8.ofNat x.val) k.val 0).toNat:Nat):Int):=LM
def avh:∀x:Fin 256,∀k:Fin 8,iz .or .u8 (((Po (UInt8.ofNat x.val) k.val 0).toNat:Nat):Int) ((2^k.val:Nat):Int)=(((Po (UInt8.ofNat x.val) k.val 1).toNat:Nat):Int):=LM
def avk(b:UInt8){k:Nat}(h:k<8):iz .andNot .u8 (b.toNat:Int) ((2^k:Nat):Int)=((Po b k 0).toNat:Int):=by
 have:=avb ⟨b.toNat,b.toNat_lt⟩ ⟨k,h⟩;simpa using this
def avj(b:UInt8){k:Nat}(h:k<8):iz .or .u8 ((Po b k 0).toNat:Int) ((2^k:Nat):Int)=((Po b k 1).toNat:Int):=by
 have:=avh ⟨b.toNat,b.toNat_lt⟩ ⟨k,h⟩;simpa using this
def azs{a:Int}{K:Int->Prop}(h:0<=a/\a<8)(k:K ((2^a.toNat:Nat):Int)):0<=a∧∀r:Int,r=IntKind.u8.wrap (1*2^min a.toNat IntKind.u8.bits)->K r:=by
 refine⟨h.1,λr hr=>?_⟩;have e:IntKind.u8.wrap (1*2^min a.toNat IntKind.u8.bits)=((2^a.toNat:Nat):Int):=by
  have h1:a=0\/a=1\/a=2\/a=3\/a=4\/a=5\/a=6\/a=7:=ab;rcases h1 with rfl|rfl|rfl|rfl|rfl|rfl|rfl|rfl<;>decide
 rw[hr,e];exact k
def aps(xs:List AV)(σ:aF)(K:AV->aF->Prop):Prop:=
 ∃(ap:Bool) (B:List UInt8) (n i v:Int),xs=[.agg [.own 0,.pv (pI n)],.pv (pI i),.pv (pI v)]/\σ=[.row 5 1 ap (B.map aL)]/\(0<=i/\i<8*B.length/\B.length<=1000000/\0<=v/\v<=1)/\K (.tup []) [.row 5 1 ap ((aau B i.toNat v.toNat).map aL)]
def arj:gO (ay []) Fp (sB aps):=by
 rintro _ _ K ⟨ap,B,n,i,v,rfl,rfl,⟨h0,h1,h2,h3,h4⟩,hK⟩;have e1:(i/8).toNat=i.toNat/8:=ab;have e2:(i%8).toNat=i.toNat%8:=ab;have hB:∀x,B[(i/8).toNat]?=some x->(B.map aL).set (i/8).toNat (.int .u8 (iz .andNot .u8 (x.toNat:Int) ((2^(i%8).toNat:Nat):Int)))=(aau B i.toNat 0).map aL:=by
  intro x hx;rw[e1]at hx;unfold aau;rw[e1,e2,avk x ab,hx];exact oU
 (repeat'(refine iM ?_;first|refine azs ab ?_|refine aFZ ?_|refine de (λ_=>?_) (λ_=>?_)|refine l7 ab ?_|refine lW ab ?_|refine uM aA ?_|refine Q3 ab ?_|refine aJm ab (λ_ _ _=>?_)|refine bT ?_|refine zcB cu ?_|fail))<;>try(conv=>whnf)
 ·rename_i x hx _ hv;have hv:v=1:=ab;subst hv;rw[hB x hx];have hl:=aFK B i.toNat 0;rw[e1]at hx;have h0:(aau B i.toNat 0)[(i/8).toNat]?=some (Po x (i.toNat%8) 0):=by
   unfold aau;rw[e1,hx,zbQ ab];rfl
  (repeat'(refine iM ?_;first|refine aFZ ?_|refine uM aA ?_|refine Q3 ab ?_|refine bT ?_|fail))<;>try(conv=>whnf)
  have e3:((aau B i.toNat 0).map aL).set (i/8).toNat (.int .u8 (iz .or .u8 ((Po x (i.toNat%8) 0).toNat:Int) ((2^(i%8).toNat:Nat):Int)))=(aau B i.toNat 1).map aL:=by
   unfold aau;rw[e1,e2,avj x ab,hx];rw[show PV.int .u8 ((Po x (i.toNat%8) 1).toNat:Int)=aL (Po x (i.toNat%8) 1)from rfl,oU,List.set_set];rfl
  rw[e3];exact hK
 ·rename_i x hx _ hv;have hv:v=0:=ab;subst hv;rw[hB x hx];exact hK
def asl{n:Int}(h:fx n≠0):fx n=2:=by
 unfold fx at h ⊢;split
 ·rename_i h';rw[if_pos h']at h;exact kN
 ·rfl
def aos(s:List UInt8)(n m:Int):Int:=if nu s n≠0 then nu s n else if fx m≠0 then fx m else if aJI (λi=>decide (bH s i=1)) m.toNat (n.toNat-m.toNat)then 18 else 0
def axA(s:List UInt8)(n m:Int):List UInt8:=if aos s n m=0 then VA (bH s) m.toNat else[]
def adt:Spec:=EM true false λps K=>∃(s:List UInt8) (n m:Int),ps=[.str s,pI n,pI m]/\(s.length<=1000000)/\K (.tup [.pv (.str (axA s n m)),.pv (pI (aos s n m))])
def ag2:MT (ay [(173,afd),(182,agu),(175,ah awJ),(183,sB aps)]) Ml adt:=by
 rintro _ K ⟨s,n,tt,rfl,hs,hK⟩;unfold axA aos at hK;by_cases he:nu s n=0
 case neg=>
  simp only[he,ne_eq,not_false_eq_true,if_true,if_false]at hK
  (repeat'(refine iM ?_;first|refine au ab ?_|refine bT ?_|refine⟨_,_,rfl,cU,?_⟩|fail))<;>try(conv=>whnf)
  (refine⟨_,?_,?_,hK⟩<;>repeat'(first|exact rfl|exact trivial|exact bD _|exact dn _|exact cr|refine⟨?_,?_⟩))
 obtain⟨h1,h2,h3,h4,h5⟩:=iR he;simp only[he,ne_eq,not_true_eq_false,if_false]at hK
 (repeat'(refine iM ?_;first|refine aw ab ?_|refine bT ?_|refine⟨_,_,rfl,cU,?_⟩|refine⟨_,rfl,?_⟩|fail))<;>try(conv=>whnf)
 refine⟨λh=>?_,λh=>?_⟩
 rotate_left
 ·simp only[h,not_false_eq_true,if_true,if_false,asl h]at hK
  (repeat'(refine iM ?_;first|refine au ab ?_|refine bT ?_|fail))<;>try(conv=>whnf)
  (refine⟨_,?_,?_,hK⟩<;>repeat'(first|exact rfl|exact trivial|exact bD _|exact dn _|exact cr|refine⟨?_,?_⟩))
 have ht:=as9 h;simp only[h,not_true_eq_false,if_false]at hK
 (repeat'(refine iM ?_;first|refine aw ab ?_|refine bT ?_|fail))<;>try(conv=>whnf)
 have hz:(ai (qO tt.toNat)).length=qO tt.toNat:=by simp[ai]
 have hl8:qO tt.toNat<=512/\tt.toNat<=8*qO tt.toNat:=by unfold qO;omega
 refine⟨λm env σ=>∃(i:Nat) (B:List UInt8),(i+m=n/\B.length=qO tt.toNat/\(∀j:Nat,tt<=j->j<i->bH s j=0)∧∀j,bH B j=if j<i then bH s j else 0)/\σ=[.box 207 [.own 2,.pv (pI n)],.box 207 [.own 3,.pv (pI tt)],.row 5 1 false (s.map aL),.row 5 1 false (B.map aL)]/\env=[eN 2 tt,(8,.ref 0 0 0),(10,.ref 1 0 0),eN 29 n,eN 30 i],n.toNat,⟨0,ai (qO tt.toNat),⟨ab,hz,λj _ h=>ab,λj=>by rw[Ou,if_neg ab]⟩,rfl,rfl⟩,?_⟩;rintro m env σ ⟨i,B,⟨hi,hB,h0,hb⟩,rfl,rfl⟩
 (repeat'(refine iM ?_;first|refine bj ab ?_|refine de (λ_=>?_) (λ_=>?_)|refine yR ?_|refine⟨_,⟨_,_,_,rfl,cU,rfl⟩,?_⟩|refine⟨_,_,_,_,_,rfl,rfl,cU,?_⟩|fail))<;>try(conv=>whnf)
 ·rename_i _ h0b;have h0b:bH s i=0:=by simpa using h0b
  refine⟨m-1,ab,i+1,B,⟨ab,hB,λj hj hji=>?_,λj=>?_⟩,rfl,rfl⟩
  ·by_cases h:j=i
   ·rw[h];exact h0b
   ·exact h0 j hj ab
  ·rw[hb];by_cases h:j=i
   ·subst h;simp[h0b]
   ·by_cases h':j<i
    ·rw[if_pos h',if_pos ab]
    ·rw[if_neg h',if_neg ab]
 ·rename_i _ P4 hle;have P4:bH s i=1:=by have:=mK s i;simp at P4;omega
  have hh:aJI (λi=>decide (bH s i=1)) tt.toNat (n.toNat-tt.toNat)=true:=Ru.2 ⟨i,ab,ab,by simpa using P4⟩;rw[if_pos hh]at hK
  (conv=>whnf)
  (refine⟨_,?_,?_,hK⟩<;>repeat'(first|exact rfl|exact trivial|exact bD _|exact dn _|exact cr|refine⟨?_,?_⟩))
 ·rename_i _ P4 hle;have P4:bH s i=1:=by have:=mK s i;simp at P4;omega
  refine⟨m-1,ab,i+1,aau B i 1,⟨ab,by simp[hB],λj hj hji=>h0 j hj ab,λj=>?_⟩,rfl,rfl⟩;rw[ate ab (zai _),hb];by_cases h:j=i
  ·subst h;simp[P4]
  ·rw[if_neg h];by_cases h':j<i
   ·rw[if_pos h',if_pos ab]
   ·rw[if_neg h',if_neg ab]
 ·have hi:i=n.toNat:=by omega
  subst hi;have hh:¬aJI (λi=>decide (bH s i=1)) tt.toNat (n.toNat-tt.toNat)=true:=λhh=>by
   obtain⟨j,h1',pr,tY⟩:=Ru.1 hh;rw[h0 j ab ab]at tY;cases tY
  have e:B=VA (bH s) tt.toNat:=by
   refine aFT (mK s) hB (λj hj=>?_) λj hj _=>?_
   ·rw[hb];by_cases h':j<n.toNat
    ·rw[if_pos h']
    ·rw[if_neg h'];by_cases h8:j<8*s.length
     ·exact(h5 j h8 ab).symm
     ·unfold bH;rw[zaK ab];simp
   ·rw[hb];by_cases h':j<n.toNat
    ·rw[if_pos h'];exact h0 j ab h'
    ·rw[if_neg h']
  rw[if_neg hh,if_pos rfl,<-e]at hK
  (conv=>whnf)
  (refine⟨_,?_,?_,hK⟩<;>repeat'(first|exact rfl|exact trivial|exact bD _|exact dn _|exact cr|refine⟨?_,?_⟩))
section
open Classical in
noncomputable def NY(v:Vo)(c lo hi:Int):Int:=if wX v≠0 then wX v else if lo<=c/\c<=hi then aos v.d.mp v.d.n c else 2
noncomputable def rzB(v:Vo)(c:Int):List UInt8:=v.d.a_.take (min (v.d.n:Int) c*256).toNat++alf [0] (max 0 (c-v.d.n)*256).toNat
noncomputable def SE(v:Vo)(c lo hi:Int):Vo:=if NY v c lo hi≠0 then TZ else⟨⟨rzB v c,axA v.d.mp v.d.n c⟩,.sl (v.st.l.map aB)⟩
def TM(ps:List PV)(r:RV):Prop:=∃(v:Vo) (c lo hi:Int),ps=[v.pv,pI c,pI lo,pI hi]/\(n8 v/\0<=lo/\(wX v=0->hi<=3900))/\r=.tup [.pv (SE v c lo hi).pv,.pv (pI (NY v c lo hi))]
def ah3:∀n,(alf [0] n).length=n
 |0=>rfl
 |n+1=>by simp[alf,ah3 n];try omega
set_option maxHeartbeats 4000000 in
def ag_:MT (ay [(74,c8 false q6),(92,bF bG),(68,ah dG),(66,ah gB),(90,c8 false Ks),(86,ah bA),(130,adt),(131,ah Lo)]) PF (c8 false TM):=by
 rintro _ K ⟨_,⟨v,c,lo,hi,rfl,⟨h1,h2,h3⟩,rfl⟩,hK⟩;have ho:q6 [v.pv] _:=⟨v,rfl,h1,rfl⟩
 have BV:=acx h1;have di:=P0 h1;unfold SE NY at hK;generalize wX v=E at*;by_cases hE:E=0
 case neg=>
  simp only[if_pos hE]at hK
  (repeat'((conv=>whnf);first|refine⟨_,ho,?_⟩|refine⟨_,⟨_,_,_,rfl,rfl⟩,?_⟩|(refine au (by rw[Cc _ hE];exact hE) ?_)|(refine fe ?_;first|refine de (λ_=>?_) (λ_=>?_)|refine bT ?_|refine⟨_,⟨_,_,rfl,rfl⟩,?_⟩|refine⟨_,⟨[_,_],rfl,rfl⟩,?_⟩|fail)))<;>try(conv=>whnf)
  all_goals
   rw[Cc _ hE];exact⟨[.pv TZ.pv,.pv (pI _)],⟨rfl,rfl,trivial⟩,trivial,hK⟩
 subst hE;simp only[ne_eq,not_true_eq_false,if_false]at hK;by_cases hc:lo<=c/\c<=hi
 case neg=>
  simp only[if_neg hc]at hK;rw[if_pos ao]at hK
  (repeat'((conv=>whnf);first|refine⟨_,ho,?_⟩|refine⟨_,⟨_,_,_,rfl,rfl⟩,?_⟩|refine aw hc ?_|(refine au (by rw[CB ao];decide) ?_)|(refine fe ?_;first|refine bT ?_|refine⟨_,⟨_,_,rfl,rfl⟩,?_⟩|refine⟨_,⟨[_,_],rfl,rfl⟩,?_⟩|fail)))<;>try(conv=>whnf)
  rw[CB ao];exact⟨[.pv TZ.pv,.pv (pI 2)],⟨rfl,rfl,trivial⟩,trivial,hK⟩
 simp only[if_pos hc]at hK;have hv:=BV rfl;have hk:=di rfl;have h3:=h3 rfl;have eh:Ks [v.pv] _:=⟨v,rfl,hv.own,rfl⟩
 obtain⟨d1,d2,d3⟩:=rX hk.dk;have hb:=h1.1;have mE:bA [v.d.pv] _:=⟨v.d,rfl,hb.1,rfl⟩
 have hn:v.d.n=v.d.a_.length/256:=rfl;unfold rzB at hK;generalize v.d.n=N at*;by_cases hz:aos v.d.mp N c=0
 case neg=>
  rw[if_pos hz]at hK
  (repeat'((conv=>whnf);first|refine⟨_,ho,?_⟩|refine⟨_,⟨_,_,_,rfl,rfl⟩,?_⟩|refine au hc ?_|(refine aw (by rw[NO];exact λh=>h rfl) ?_)|refine⟨_,eh,?_⟩|refine⟨_,mE,?_⟩|refine⟨_,_,_,rfl,hb.2,?_⟩|refine au hz ?_|(refine fe ?_;first|refine bT ?_|refine⟨_,⟨_,_,rfl,rfl⟩,?_⟩|refine⟨_,⟨[_,_],rfl,rfl⟩,?_⟩|fail)))<;>try(conv=>whnf)
  exact⟨[.pv TZ.pv,.pv (pI _)],⟨rfl,rfl,trivial⟩,trivial,hK⟩
 rw[if_neg (λh=>h hz),hz]at hK;have ui:Lo [.str [0],pI (max 0 (c-N)*256)] _:=⟨[0],_,rfl,⟨ab,ab,ao⟩,rfl⟩
 have hlen:(((cut 0 (min (N:Int) c*256).toNat v.d.a_).length+(alf [0] (max 0 (c-N)*256).toNat).length:Nat):Int)<=9223372036854775807:=by
  rw[ah3];have:(cut 0 (min (N:Int) c*256).toNat v.d.a_).length<=v.d.a_.length:=by unfold cut;rw[zdk,zal];omega
  have:=hb.1;omega
 (repeat'((conv=>whnf);first|refine⟨_,ho,?_⟩|refine⟨_,⟨_,_,_,rfl,rfl⟩,?_⟩|refine au hc ?_|(refine aw (by rw[NO];exact λh=>h rfl) ?_)|refine⟨_,eh,?_⟩|refine⟨_,mE,?_⟩|refine⟨_,_,_,rfl,hb.2,?_⟩|refine aw (λh=>h hz) ?_|refine⟨_,ui,?_⟩|refine zcB hlen ?_|(refine fe ?_;first|refine bj ab ?_|refine fQ ?_|refine I8 ?_|refine bT ?_|refine⟨_,⟨_,_,rfl,rfl⟩,?_⟩|refine wz ?_|refine⟨_,⟨[_,_],rfl,rfl⟩,?_⟩|fail)))<;>try(conv=>whnf)
 exact⟨[.pv (Vo.pv ⟨⟨_,_⟩,.sl _⟩),.pv (pI 0)],⟨rfl,rfl,trivial⟩,trivial,hK⟩
def IE(ps:List PV)(r:RV):Prop:=∃(v:Vo) (c:Int),ps=[v.pv,pI c]/\n8 v/\r=.tup [.pv (SE v c 1 v.d.n).pv,.pv (pI (NY v c 1 v.d.n))]
def afw:MT (ay [(86,ah bA),(85,c8 false TM)]) Nh (c8 false IE):=by
 rintro _ K ⟨_,⟨v,c,rfl,h1,rfl⟩,hK⟩;have mE:bA [v.d.pv] _:=⟨v.d,rfl,h1.1.1,rfl⟩
 have hr:TM [v.pv,pI c,pI 1,pI v.d.n] _:=⟨v,c,1,v.d.n,rfl,⟨h1,ab,λh=>by have:=(rX (P0 h1 h).dk).2.1;omega⟩,rfl⟩
 (repeat'((conv=>whnf);first|refine⟨_,mE,?_⟩|refine⟨_,hr,?_⟩|refine bT ?_|fail))<;>try(conv=>whnf)
 exact⟨[.pv (SE v c 1 v.d.n).pv,.pv (pI _)],⟨rfl,rfl,trivial⟩,trivial,hK⟩
end
def alV(ps:List PV)(x:PV):Prop:=∃a b:Rn,ps=[a.pv,b.pv]/\True/\x=pI (apL a.n b.n)
def aq_:MT (ay [(128,ah Ts)]) Mp (ah alV):=by
 rintro _ K ⟨_,⟨a,b,rfl,-,rfl⟩,hK⟩;have hc:Ts [pI a.n,pI b.n] _:=⟨a.n,b.n,rfl,rfl⟩
 (repeat'((conv=>whnf);first|refine⟨_,hc,?_⟩|fail))<;>try(conv=>whnf)
 exact aG
def Ot(b:Rn):List Rn->Rn
 |[]=>b
 |x::l=>Ot (if b.n<x.n then x else b) l
def ara(b:Rn):∀(l:List Rn) (x:Rn),Ot b (l++[x])=if (Ot b l).n<x.n then x else Ot b l:=by
 intro l
 induction l generalizing b with
 |nil=>intro x;rfl
 |cons y l ih=>intro x;exact ih _ x
def aoV:Spec:=EM true false λps K=>∃(b:Rn) (l:List Rn),ps=[.sl 2 ((b::l).map Rn.pv),.clo 80 []]/\l.length<=1000000/\K (.pv (Ot b l).pv)
def apt{a b:Int}:0<apL a b↔b<a:=by
 unfold apL;split
 ·exact⟨λh=>absurd h ao,λh=>ab⟩
 ·split
  ·rename_i h;exact⟨λ_=>h,λ_=>ao⟩
  ·rename_i h;exact⟨λg=>absurd g ao,λg=>absurd g h⟩
def ao1:MT (ay [(80,ah alV)]) dy aoV:=by
 rintro _ K ⟨b,l,rfl,hl,hK⟩;have hlen:(b::l).length=l.length+1:=rfl;have gJ:((b::l).map Rn.pv).length=l.length+1:=aj;have hg0:((b::l).map Rn.pv)[(0:Int).toNat]?=some b.pv:=rfl;generalize hP:(b::l).map Rn.pv=P at*
 (repeat'((conv=>whnf);first|refine aw ab ?_|refine⟨_,⟨ab,hg0⟩,?_⟩|refine dq λ_=>?_|refine bT ?_|fail))
 refine⟨λm env σ=>∃(i:Nat),(i+m=l.length)/\σ=[.box 37 [.pv (pI 0),.pv (pI 0)],.box 37 [.pv (pI (Ot b (l.take i)).s),.pv (pI (Ot b (l.take i)).n)]]/\env=[(0,.pv (.sl 2 P)),(1,.pv (.clo 80 [])),(4,.ref 0 0 0),(5,.ref 1 0 0),eN 6 ((i+1:Nat):Int)],l.length,⟨0,ab,rfl,rfl⟩,?_⟩;rintro m env σ ⟨i,hi,rfl,rfl⟩;by_cases aU:i<l.length
 case neg=>
  have:i=l.length:=ab;subst this;rw[zcZ]
  (repeat'((conv=>whnf);first|refine aw ab ?_|refine dq λ_=>?_|refine bT ?_|fail))
  exact⟨.pv (Ot b l).pv,rfl,bD [Ot b l] (Ot b l).pv aj,hK⟩
 obtain⟨y,hy⟩:∃y,l[i]?=some y:=⟨_,zah aU⟩
 have D6:P[((i+1:Nat):Int).toNat]?=some y.pv:=by rw[<-hP,zaC,za9,List.getElem?_cons_succ,hy];rfl
 have e:Ot b (l.take (i+1))=if (Ot b (l.take i)).n<y.n then y else Ot b (l.take i):=by rw[zcX,hy,show(some y).toList=[y]from rfl,ara]
 generalize Ot b (l.take i)=M at*;have hf:alV [y.pv,M.pv] _:=⟨y,M,rfl,trivial,rfl⟩
 by_cases hc:M.n<y.n
 ·rw[if_pos hc]at e
  (repeat'((conv=>whnf);first|refine au ab ?_|refine⟨_,⟨ab,D6⟩,?_⟩|refine⟨_,hf,?_⟩|refine au (apt.2 hc) ?_|refine bj ab ?_|refine dq λ_=>?_|refine bT ?_|fail))
  exact⟨m-1,ab,i+1,ab,by rw[e],rfl⟩
 ·rw[if_neg hc]at e
  (repeat'((conv=>whnf);first|refine au ab ?_|refine⟨_,⟨ab,D6⟩,?_⟩|refine⟨_,hf,?_⟩|refine aw (λh=>hc (apt.1 h)) ?_|refine bj ab ?_|refine dq λ_=>?_|refine bT ?_|fail))
  exact⟨m-1,ab,i+1,ab,by rw[e],rfl⟩
structure Sc where
 p:Int
 f:Int
 e:Int
 l:Int
def Sc.pv(x:Sc):PV:=.agg [pI x.p,pI x.f,pI x.e,pI x.l]
def Sc.flat(x:Sc):x.pv.flat:=λc hc=>by
 rcases hc with _|⟨_,_|⟨_,_|⟨_,_|⟨_,h⟩⟩⟩⟩<;>first|exact trivial|cases h
def akU:List Rn->Int
 |[]=>0
 |b::l=>(Ot b l).n
def XT(l:List At):Int:=(l.map λa=>((Yd a.rn.l).length:Int)).sum
noncomputable def DO(v:Vo):List Rn:=ae (aqZ v λ_=>True) (q4 v).length
noncomputable def Zi(v:Vo):Sc:=⟨XT v.st.l,bI (DO v),(DO v).length,akU (DO v)⟩
noncomputable def NH(v:Vo):Sc:=open Classical in if wX v≠0 then⟨0,0,0,0⟩else Zi v
def ari{l:List At}{n:Nat}{a:At}(h:l[n]?=some a):XT (l.take (n+1))=XT (l.take n)+((Yd a.rn.l).length:Int):=by
 unfold XT;rw[zcX,h];simp
def ary{B:Nat}:∀{l:List At},(∀a∈l,(Yd a.rn.l).length<=B)->0<=XT l/\XT l<=B*l.length
 |[],_=>by simp[XT]
 |a::l,h=>by
  have h1:=h a aj;obtain⟨h2,h3⟩:=ary (l:=l) λx hx=>h x iP
  have e:XT (a::l)=((Yd a.rn.l).length:Int)+XT l:=by simp[XT]
  rw[e,zam];refine⟨ab,?_⟩;have:(B:Int)*((l.length+1:Nat):Int)=B*l.length+B:=by rw[zdL,Int.mul_add];simp
  omega
def HW(ps:List PV)(r:RV):Prop:=∃v:Vo,ps=[v.pv]/\n8 v/\r=.tup [.pv (NH v).pv,.pv (pI (wX v))]
set_option maxHeartbeats 4000000 in
def ah1:MT (ay [(74,c8 false q6),(77,bF amX),(76,c8 true aeM),(78,ah ajs),(80,ah alV),(79,aoV),(64,c8 true H7)]) Qb (c8 true HW):=by
 rintro _ K ⟨_,⟨v,rfl,h1,rfl⟩,hK⟩;have ho:q6 [v.pv] _:=⟨v,rfl,h1,rfl⟩
 by_cases he:wX v=0
 case neg=>
  have e:NH v=⟨0,0,0,0⟩:=by unfold NH;rw[if_pos he]
  rw[e]at hK
  (repeat'((conv=>whnf);first|refine⟨_,ho,?_⟩|refine au he ?_|refine bT ?_|fail))
  exact⟨[.pv (Sc.pv ⟨0,0,0,0⟩),.pv (pI _)],⟨rfl,rfl,trivial⟩,⟨Sc.flat _,trivial,trivial⟩,hK⟩
 have e:NH v=Zi v:=by unfold NH;rw[if_neg (λh=>h he)]
 rw[e,he]at hK;have hk:=P0 h1 he;have aCy:=(rX hk.dk).2.1;have hlen:=hk.len;have gJ:(v.st.l.map At.pv).length=v.st.l.length:=zav _;have aoA:aeM [v.pv,.clo 77 []] (.fresh 37 2 ((DO v).map Rn.pv)):=⟨v,_,_,rfl,⟨hk,.any⟩,rfl⟩
 obtain⟨eH,SL⟩:=ah9 (aqZ v λ_=>True) (q4 v).length;rw[yx]at eH SL;have hF:(DO v).length<=512:=by unfold DO;rw[yx];omega
 have hFb:∀q∈DO v,0<=q.n/\q.n<=100000:=λq hq=>by
  unfold DO at hq;rw[yx]at hq;have:=eH q hq;omega
 have hFl:((DO v).map Rn.pv).length=(DO v).length:=zav _;unfold Zi at hK;generalize DO v=F at*;have aHt:ajs [.sl 2 (F.map Rn.pv)] _:=⟨F,rfl,⟨ab,hFb⟩,rfl⟩
 have hsb:=agV hFb;generalize bI F=S at*;have SF:∀a∈v.st.l,(Yd a.rn.l).length<=100000:=λa ha=>by
  obtain⟨q1,q2⟩:=hk.rb ha;have:=(arw q2 a.rn.l.length).2;rw[zcZ]at this;omega
 have step:(F=[]/\akU F=0)∨∃b l,F=b::l/\akU F=(Ot b l).n:=by
  cases F with
  |nil=>exact .inl ⟨rfl,rfl⟩
  |cons b l=>exact .inr ⟨b,l,rfl,rfl⟩
 have hFm:∀b l,F=b::l->l.length<=1000000:=λb l h=>by rw[h,zam]at hF;omega
 generalize akU F=L at*;rcases step with⟨hF0,rfl⟩|⟨b,l,hF0,rfl⟩<;>((repeat'((conv=>whnf);first|refine⟨_,ho,?_⟩|refine aw (λh=>h he) ?_|refine⟨_,aoA,?_⟩|refine⟨_,aHt,?_⟩|refine⟨b,l,by rw[hF0],hFm b l hF0,?_⟩|refine aw (by rw[hF0];simp;first|done|fail) ?_|refine au (by rw[hF0,zam];omega) ?_|refine KP ?_|refine dq λ_=>?_|refine bT ?_|fail)))
 all_goals
  refine⟨λm env σ=>∃n:Nat,n+m=v.st.l.length/\σ=[.box 49 [.pv (pI 0),.pv (pI 0),.pv (pI 0),.pv (pI 0)],boW v,.box 49 [.pv (pI (XT (v.st.l.take n))),.pv (pI S),.pv (pI F.length),.pv (pI _)]]/\env=[(2,.ref 0 0 0),(4,.ref 1 0 0),(7,.ref 2 0 0),eN 34 v.st.l.length,eN 35 n],v.st.l.length,⟨0,ab,rfl,rfl⟩,?_⟩;rintro m env σ ⟨n,hn,rfl,rfl⟩;unfold boW;by_cases aU:n<v.st.l.length
  ·obtain⟨a,ha⟩:∃a,v.st.l[n]?=some a:=⟨_,zah aU⟩
   have HA:=zag ha;have qH:D4 v.st=.sl 11 (v.st.l.map At.pv):=Sl.zN ha;obtain⟨q1,q2⟩:=hk.rb HA;have hpp:H7 [.agg [.str v.d.a_,.str v.d.mp,D4 v.st],pI n] _:=⟨v,n,a,rfl,⟨ab,by rw[zaC];exact ha,q1,q2⟩,rfl⟩
   have lk:=ary (l:=v.st.l.take n) (B:=100000) λx hx=>SF x (zaL hx)
   have hma:=SF a HA;have fM:=ari ha;rw[zal]at lk;have qG:((Yd a.rn.l).map Rn.pv).length=(Yd a.rn.l).length:=zav _;generalize XT (v.st.l.take n)=P at*
   (repeat'((conv=>whnf);first|refine au ab ?_|refine⟨_,hpp,?_⟩|refine bj ab ?_|refine bT ?_|fail))
   exact⟨m-1,ab,n+1,ab,by rw[fM,qG],rfl⟩
  ·(repeat'((conv=>whnf);first|refine aw ab ?_|refine bT ?_|fail))
   rw[za1 ab];exact⟨[.pv (Sc.pv ⟨XT v.st.l,S,F.length,_⟩),.pv (pI _)],⟨rfl,rfl,trivial⟩,⟨Sc.flat _,trivial,trivial⟩,hK⟩
def Nd(l:List At):Int:=(l.map λa=>((LZ (Dc a)).length:Int)).sum
def anU(l:List Rn):Int:=l.foldl (λm r=>max m r.n) 0
noncomputable def eJ(v:Vo):Sc:=⟨Nd v.st.l,bI (acZ v.d),(acZ v.d).length,anU (acZ v.d)⟩
section
def ave(a:At):Prop:=a.rn.l.length<=66/\a.vl.length<=1000/\a.nm.length<=60
def ahf(v:Vo):Prop:=(v.d.a_.length<=20481/\v.d.mp.length<=20/\v.st.l.length<=10)∧∀a∈v.st.l,ave a
def Wr(ps:List PV)(p:Prop):Prop:=∃v:Vo,ps=[v.pv]/\p=ahf v
set_option maxHeartbeats 2000000 in
def aqF:MT (ay []) adK (bF Wr):=by
 rintro _ K ⟨_,⟨v,rfl,rfl⟩,hK⟩;have gJ:(v.st.l.map At.pv).length=v.st.l.length:=zav _;by_cases hc:v.d.a_.length<=20481/\v.d.mp.length<=20/\v.st.l.length<=10
 case neg=>
  have hn:¬ahf v:=λh=>hc h.1
  (repeat'((conv=>whnf);first|refine KP ?_|refine au ab ?_|refine de (λ_=>?_) (λ_=>?_)|refine dq λ_=>?_|fail))<;>try(conv=>whnf)
  all_goals first
   |(exfalso;omega)
   |exact⟨.pv (.bool false),rfl,trivial,hK false (by simp only[hn,zcn])⟩
 obtain⟨c1,c2,c3⟩:=hc
 (repeat'((conv=>whnf);first|refine KP ?_|refine aw ab ?_|refine dq λ_=>?_|fail))<;>try(conv=>whnf)
 refine⟨λm env σ=>∃n:Nat,(n+m=v.st.l.length∧∀j a,j<n->v.st.l[j]?=some a->ave a)/\σ=[.box 26 [.pv (.str v.d.a_),.pv (.str v.d.mp),.pv (D4 v.st)]]/\env=[(1,.ref 0 0 0),eN 3 n],v.st.l.length,⟨0,⟨ab,λj a h=>ab⟩,rfl,rfl⟩,?_⟩;rintro m env σ ⟨n,⟨hn,tT⟩,rfl,rfl⟩;by_cases aU:n<v.st.l.length
 ·obtain⟨a,ha⟩:∃a,v.st.l[n]?=some a:=⟨_,zah aU⟩
  have qH:D4 v.st=.sl 11 (v.st.l.map At.pv):=Sl.zN ha;have vt:=nS (f:=At.pv) ha;have hlr:(a.rn.l.map Rn.pv).length=a.rn.l.length:=zav _;rw[qH];by_cases hf:ave a
  ·obtain⟨f1,f2,f3⟩:=hf
   (repeat'((conv=>whnf);first|refine KP ?_|refine au ab ?_|refine⟨_,⟨ab,vt⟩,?_⟩|refine aw ab ?_|refine bj ab ?_|refine dq λ_=>?_|fail))<;>try(conv=>whnf)
   refine⟨m-1,ab,n+1,⟨ab,λj b hj hb=>?_⟩,rfl,rfl⟩;rcases zc0 (zc1 hj)with h1|h1
   ·exact tT j b h1 hb
   ·subst h1;rw[ha]at hb;cases hb;exact⟨f1,f2,f3⟩
  ·have hn:¬ahf v:=λh=>hf (h.2 a (zag ha))
   unfold ave at hf
   (repeat'((conv=>whnf);first|refine KP ?_|refine au ab ?_|refine⟨_,⟨ab,vt⟩,?_⟩|refine de (λ_=>?_) (λ_=>?_)|refine dq λ_=>?_|fail))<;>try(conv=>whnf)
   all_goals first
    |(exfalso;omega)
    |exact⟨.pv (.bool false),rfl,trivial,hK false (by simp only[hn,zcn])⟩
 ·have hy:ahf v:=⟨⟨c1,c2,c3⟩,λa ha=>by
   obtain⟨j,hj⟩:=jk.1 ha;exact tT j a (by have:=eT hj;omega) hj⟩
  (repeat'((conv=>whnf);first|refine KP ?_|refine aw ab ?_|refine dq λ_=>?_|fail))<;>try(conv=>whnf)
  exact⟨.pv (.bool true),rfl,trivial,hK true (by simp only[hy])⟩
def ahf.b{v:Vo}(h:ahf v):n8 v/\(∀a∈v.st.l,a.rn.l.length<=1000000)/\voN v:=by
 obtain⟨⟨h1,h2,h3⟩,h4⟩:=h;refine⟨⟨⟨ab,ab⟩,λa ha=>by have:=(h4 a ha).2.2;omega,ab⟩,λa ha=>by have:=(h4 a ha).1;omega,ab,λa ha=>by have:=(h4 a ha).1;omega⟩
def OA(ps:List PV)(x:PV):Prop:=∃v:Vo,ps=[v.pv]/\(n8 v∧∀a∈v.st.l,a.rn.l.length<=1000000)/\x=pI (wX v)
def aow:MT (ay [(23,c8 true H4)]) Jy (ah OA):=by
 rintro _ K ⟨_,⟨v,rfl,h,rfl⟩,hK⟩;have hc:H4 [v.pv] _:=⟨v,rfl,h,rfl⟩
 (repeat'((conv=>whnf);first|refine⟨_,hc,?_⟩|fail))<;>try(conv=>whnf)
 exact aG
open Classical in
end
end Go.Dv.Try
