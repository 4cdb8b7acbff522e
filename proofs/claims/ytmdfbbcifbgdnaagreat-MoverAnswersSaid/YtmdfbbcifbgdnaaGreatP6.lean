/- Own work: parts of the proof, shortened and laid together by a tool of our own. -/
import Derived.Test.YtmdfbbcifbgdnaaGreatP5
import Derived.KernelRfl
set_option linter.defProp false
set_option linter.unusedSimpArgs false
set_option linter.unusedVariables false
open List renaming getElem?_eq_getElem→zah, length_map→zav, mem_of_getElem?→zag, take_add_one→zcX, getElem?_map→za9, getElem?_eq_none→zaK, length_set→za0, mem_singleton→zc2, mem_cons→zaw, getElem?_eq_some_iff→zaa, any_eq_true→zd3, map_cons→zat, range'_succ→zd4, nil_append→zaZ, foldl_cons→zbg, take_zero→zd5
open Decidable renaming not_not→zcY
open And renaming intro→zcB
open Bool renaming false_eq_true→zcn
namespace Go.Dv.Try
open Go Go.Dv
def aml{α β:Type}{f:α->β}{a b:Nat}{l:List α}:cut a b (l.map f)=(cut a b l).map f:=by simp[cut]
def acS(l:List Rn)(r:Rn)(i:Nat):aiC (l++[r]) i=(aiC l i||fR r i):=by simp[aiC]
def are(l:List Rn)(r:Rn):orR (aiC l) r=aiC (l++[r]):=by
 funext i;rw[acS];rfl
def amZ:aiC []=λ_=>false:=by funext i;rfl
def T7{n:Int}{l:List Rn}{i:Nat}{r:Rn}(h:l[i]?=some r):Kd n (aiC (l.take i)) (l.drop i)=if azh n r then(if aJI (aiC (l.take i)) r.s.toNat r.n.toNat then 23 else Kd n (aiC (l.take (i+1))) (l.drop (i+1)))else 2:=by
 have hi:i<l.length:=by
  by_cases hi:i<l.length
  ·exact hi
  ·rw[zaK ab]at h;cases h
 have e:l[i]=r:=by rw[zah hi]at h;exact Option.some.inj h
 rw[List.drop_eq_getElem_cons hi,e];simp only[Kd];rw[are,zcX,h];rfl
def aoB{n:Int}{l:List Rn}{i:Nat}(h:l.length<=i)(t:Nat->Bool):Kd n t (l.drop i)=0:=by
 rw[List.drop_eq_nil_of_le h];rfl
def Tb(f:Nat->Nat)(l:List Rn)(v:Nat)(i:Nat):Nat:=if aiC l i then v else f i
def ath{f:Nat->Nat}(hf:∀i,f i<=1){l:List Rn}{v:Nat}(hv:v<=1)(i:Nat):Tb f l v i<=1:=by
 unfold Tb;split
 ·exact hv
 ·exact hf i
def XZ:Spec:=EM true false λps K=>∃(x:PV) (n:Int) (l:List Rn),ps=[.agg [x,pI n],.sl 2 (l.map Rn.pv)]/\(0<=n/\n<=4096)/\K (.pv (pI (NX l n)))
def agy:MT (ay [(170,bF bG),(195,ah2)]) yT XZ:=by
 rintro _ K ⟨x,n,l,rfl,⟨x3,hn⟩,hK⟩;unfold NX at hK;by_cases hl:64<l.length
 ·rw[if_pos hl]at hK
  (repeat'(refine iM ?_;first|refine au ab ?_|refine dq λ_=>?_|fail))<;>try(conv=>whnf)
  (refine⟨_,?_,?_,hK⟩<;>repeat'(first|exact rfl|exact trivial|exact bD _|exact dn _|exact cr|refine⟨?_,?_⟩))
 ·rw[if_neg hl]at hK
  (repeat'(refine iM ?_;first|refine aw ab ?_|refine dq λ_=>?_|refine wz ?_|fail))<;>try(conv=>whnf)
  refine⟨λm env σ=>∃i:Nat,(i+m=l.length/\Kd n (λ_=>false) l=Kd n (aiC (l.take i)) (l.drop i))/\σ=[.box 207 [.pv x,.pv (pI n)],.row 4 1 true ((cQ (aiC (l.take i)) n.toNat).map pB)]/\env=[(2,.ref 0 0 0),(5,.own 1),(16,.pv (.sl 2 (l.map Rn.pv))),eN 17 l.length,eN 18 i],l.length,⟨0,⟨ab,by rw[zd5,amZ];rfl⟩,by rw[zd5,amZ,<-ard,as_],rfl⟩,?_⟩;rintro m env σ ⟨i,⟨hi,he⟩,rfl,rfl⟩
  (repeat'(refine iM ?_;first|refine bj ab ?_|refine aN ?_|refine bP ?_|refine de (λ_=>?_) (λ_=>?_)|refine aii ab (λ_ _=>?_)|refine bT ?_|refine⟨_,⟨_,_,_,rfl,rfl⟩,?_⟩|refine wz ?_|refine zcB cu ?_|refine .inr ?_|fail))<;>try(conv=>whnf)
  rotate_left
  ·rw[he,T7 aA]at hK;simp[azh, *]at hK
   (refine⟨_,?_,?_,hK⟩<;>repeat'(first|exact rfl|exact trivial|exact bD _|exact dn _|exact cr|refine⟨?_,?_⟩))
  ·rw[he,T7 aA]at hK;simp only[azh, *,false_and,if_false]at hK
   (refine⟨_,?_,?_,hK⟩<;>repeat'(first|exact rfl|exact trivial|exact bD _|exact dn _|exact cr|refine⟨?_,?_⟩))
  ·rw[he,aoB ab]at hK
   (refine⟨_,?_,?_,hK⟩<;>repeat'(first|exact rfl|exact trivial|exact bD _|exact dn _|exact cr|refine⟨?_,?_⟩))
  rename_i _ r hr h1 h2;have e0:(r.s.toNat+((r.s+r.n).toNat-r.s.toNat))=r.s.toNat+r.n.toNat:=ab;rw[e0];have mE:(cut r.s.toNat (r.s.toNat+r.n.toNat) (cQ (aiC (l.take i)) n.toNat)).length=r.n.toNat:=by rw[awU aH];omega
  refine⟨cut r.s.toNat (r.s.toNat+r.n.toNat) (cQ (aiC (l.take i)) n.toNat),true,by rw[aml],ab,λb hb=>?_⟩;have hb:b=true↔aJI (aiC (l.take i)) r.s.toNat r.n.toNat=true:=by
   rw[hb,Ru,jk];constructor
   ·rintro⟨j,hj⟩;have aU:=eT hj;rw[aqo ab,bO ab]at hj;exact⟨r.s.toNat+j,ab,ab,Option.some.inj hj⟩
   ·rintro⟨j,h3,h4,h5⟩;refine⟨j-r.s.toNat,?_⟩;rw[aqo ab,bO ab,show r.s.toNat+(j-r.s.toNat)=j by omega,h5]
  cases b with
  |true=>
   rw[he,T7 aA,if_pos ⟨h1,h2⟩,if_pos (hb.1 rfl)]at hK
   (conv=>whnf)
   (refine⟨_,?_,?_,hK⟩<;>repeat'(first|exact rfl|exact trivial|exact bD _|exact dn _|exact cr|refine⟨?_,?_⟩))
  |false=>
   have hb:¬aJI (aiC (l.take i)) r.s.toNat r.n.toNat=true:=λh=>by have:=hb.2 h;cases this
   (repeat'(refine iM ?_;first|refine dq λ_=>?_|refine zcB cu ?_|fail))<;>try(conv=>whnf)
   have hlen:(cut r.s.toNat (r.s.toNat+((r.s+r.n).toNat-r.s.toNat)) ((cQ (aiC (l.take i)) n.toNat).map pB)).length=r.n.toNat:=by rw[e0,aml,zav,mE]
   refine⟨λm' env σ=>∃k:Nat,(k+m'=r.n.toNat)/\σ=[.box 207 [.pv x,.pv (pI n)],.row 4 1 true ((cQ (λj=>aiC (l.take i) j||decide (r.s<=j/\(j:Int)<r.s+k)) n.toNat).map pB)]/\env=[(2,.ref 0 0 0),(5,.own 1),(8,.sub 1 1 r.s.toNat ((r.s+r.n).toNat-r.s.toNat)),(16,.pv (.sl 2 (l.map Rn.pv))),eN 17 l.length,eN 18 i,eN 52 (r.n.toNat:Nat),eN 53 k],r.n.toNat,⟨0,ab,?_,by rw[<-hlen];rfl⟩,?_⟩
   ·have:cQ (λj=>aiC (l.take i) j||decide (r.s<=j/\(j:Int)<r.s+(0:Nat))) n.toNat=cQ (aiC (l.take i)) n.toNat:=kT λj _=>by
     have:¬(r.s<=j/\(j:Int)<r.s+(0:Nat)):=ab;rw[decide_eq_false this,Bool.or_false]
    rw[this]
   ·rintro m' env σ ⟨k,hk,rfl,rfl⟩
    (repeat'(refine iM ?_;first|refine bj ab ?_|refine de (λ_=>?_) (λ_=>?_)|refine Vx ab ?_|refine bT ?_|refine zcB cu ?_|fail))<;>try(conv=>whnf)
    ·have aU:r.s.toNat+k<n.toNat:=by omega
     refine⟨m'-1,ab,k+1,ab,?_,rfl⟩;rw[Int.toNat_natCast,oU,tg];refine congrArg (λt=>[_,dC.row _ _ _ (List.map pB t)]) (kT λj _=>?_);by_cases hj:j=r.s.toNat+k
     ·subst hj;simp;omega
     ·rw[if_neg hj];have:(r.s<=(j:Int)/\(j:Int)<r.s+(k:Nat))↔(r.s<=(j:Int)/\(j:Int)<r.s+(k+1:Nat)):=ab;rw[decide_eq_decide.2 this]
    ·refine⟨m-1,ab,i+1,⟨ab,?_⟩,?_,rfl⟩
     ·rw[he,T7 hr,if_pos ⟨h1,h2⟩,if_neg hb]
     ·refine congrArg (λt=>[_,dC.row _ _ _ (List.map pB t)]) (kT λj _=>?_);have:aiC (l.take (i+1)) j=(aiC (l.take i) j||fR r j):=by
       rw[zcX,hr];exact acS _ _ _
      rw[this];have:(r.s<=(j:Int)/\(j:Int)<r.s+(k:Nat))↔(r.s<=(j:Int)/\(j:Int)<r.s+r.n):=ab;unfold fR;rw[decide_eq_decide.2 this]
def aov(xs:List AV)(σ:aF)(K:AV->aF->Prop):Prop:=
 ∃(ap:Bool) (B:List UInt8) (n:Int) (l:List Rn) (v:Nat),xs=[.agg [.own 0,.pv (pI n)],.pv (.sl 2 (l.map Rn.pv)),.pv (pI v)]/\σ=[.row 5 1 ap (B.map aL)]/\(0<=n/\n<=4096/\n<=8*B.length/\B.length<=1000000/\v<=1)/\
  ∀B':List UInt8,B'.length=B.length->(Ob (bH B) n l v=0→∀j,bH B' j=Tb (bH B) l v j)->K (.pv (pI (Ob (bH B) n l v))) [.row 5 1 ap (B'.map aL)]
def aoG:gO (ay [(226,XZ),(175,ah awJ),(183,sB aps)]) Fv (sB aov):=by
 rintro _ _ K ⟨ap,B,n,l,v,rfl,rfl,⟨h0,h1,h2,h3,h4⟩,hK⟩;unfold Ob at hK;by_cases he:NX l n=0
 case neg=>
  rw[if_pos he]at hK
  (repeat'(refine iM ?_;first|refine au ab ?_|refine⟨_,_,_,rfl,cU,?_⟩|fail))<;>try(conv=>whnf)
  exact hK B rfl λh=>absurd h he
 rw[if_neg (λh=>h he)]at hK;obtain⟨hl,di,AW⟩:=agU he
 (repeat'(refine iM ?_;first|refine aw ab ?_|refine dq λ_=>?_|refine⟨_,_,_,rfl,cU,?_⟩|fail))<;>try(conv=>whnf)
 refine⟨λm env σ=>∃(i:Nat) (B1:List UInt8),(i+m=l.length/\B1.length=B.length/\(∀r∈l.take i,aJI (λj=>decide (bH B j=v)) r.s.toNat r.n.toNat=false)∧∀j,bH B1 j=Tb (bH B) (l.take i) v j)/\σ=[.row 5 1 ap (B1.map aL),.box 207 [.own 0,.pv (pI n)]]/\env=[eN 2 v,(3,.ref 1 0 0),(17,.pv (.sl 2 (l.map Rn.pv))),eN 18 l.length,eN 19 i],l.length,⟨0,B,⟨ab,rfl,λr h=>bV,λj=>by simp[Tb,aiC]⟩,rfl,rfl⟩,?_⟩;rintro m env σ ⟨i,B1,⟨hi,hB,hh,hb⟩,rfl,rfl⟩
 (repeat'(refine iM ?_;first|refine de (λ_=>?_) (λ_=>?_)|refine aii ab (λ_ _=>?_)|refine bT ?_|fail))<;>try(conv=>whnf)
 ·rename_i r hr;obtain⟨Gw,CW⟩:=di r (zag hr);refine⟨λm' env σ=>∃(k:Nat) (B2:List UInt8),(k+m'=r.n.toNat/\B2.length=B.length/\aJI (λj=>decide (bH B j=v)) r.s.toNat k=false∧∀j,bH B2 j=if r.s.toNat<=j/\j<r.s.toNat+k then v else Tb (bH B) (l.take i) v j)/\σ=[.row 5 1 ap (B2.map aL),.box 207 [.own 0,.pv (pI n)],.box 37 [.pv (pI r.s),.pv (pI r.n)]]/\env=[eN 2 v,(3,.ref 1 0 0),(9,.ref 2 0 0),(17,.pv (.sl 2 (l.map Rn.pv))),eN 18 l.length,eN 19 i,eN 24 r.n,eN 25 k],r.n.toNat,⟨0,B1,⟨ab,hB,rfl,λj=>by rw[hb,if_neg ab]⟩,rfl,rfl⟩,?_⟩;rintro m' env σ ⟨k,B2,⟨hk,XC,hf,t_⟩,rfl,rfl⟩;have aK4:aiC (l.take i) (r.s.toNat+k)=true→¬((k:Int)<r.n):=by
   intro h aU;unfold aiC at h;rw[zd3]at h;obtain⟨a,ha,h'⟩:=h;obtain⟨q,hq⟩:=jk.1 ha;have hqi:q<i:=by
    have:=eT hq;simp at this;omega
   rw[List.getElem?_take_of_lt hqi]at hq;have aJ9:=eT hq;have aym:=eT hr;have:=(List.pairwise_iff_getElem.1 AW) q i aJ9 aym hqi;rw[zah aJ9]at hq;rw[zah aym]at hr;rw[Option.some.inj hq,Option.some.inj hr]at this;refine this (r.s.toNat+k) ⟨h',?_⟩;simp only[fR,decide_eq_true_eq];omega
  have ei:(r.s+(k:Int)).toNat=r.s.toNat+k:=ab;have Ue:(k:Int)<r.n->bH B2 (r.s+(k:Int)).toNat=bH B (r.s.toNat+k):=by
   intro aU;rw[ei,t_,if_neg ab];unfold Tb;rw[if_neg λh=>aK4 h aU]
  (repeat'(refine iM ?_;first|refine bj ab ?_|refine de (λ_=>?_) (λ_=>?_)|refine⟨_,⟨_,_,_,rfl,cU,rfl⟩,?_⟩|refine⟨_,_,_,_,_,rfl,rfl,cU,?_⟩|fail))<;>try(conv=>whnf)
  ·rename_i aU hc;rw[Ue aU]at hc;have hh:aJI (λj=>decide (bH B j=v)) r.s.toNat r.n.toNat=true:=Ru.2 ⟨r.s.toNat+k,ab,ab,aH⟩;have ha:(l.any λr=>aJI (λi=>decide (bH B i=v)) r.s.toNat r.n.toNat)=true:=zd3.2 ⟨r,zag hr,hh⟩;rw[if_pos ha]at hK;exact hK B2 XC λh=>bV
  ·rename_i aU hc;rw[Ue aU]at hc;refine⟨m'-1,ab,k+1,aau B2 (r.s+(k:Int)).toNat v,⟨ab,by simp[XC],?_,λj=>?_⟩,rfl,rfl⟩
   ·simp only[aJI,hf,Bool.false_or,decide_eq_false_iff_not];omega
   ·rw[ate ab h4,t_];by_cases hj:j=(r.s+(k:Int)).toNat
    ·rw[if_pos hj,if_pos ab]
    ·rw[if_neg hj];by_cases Gx:r.s.toNat<=j/\j<r.s.toNat+k
     ·rw[if_pos Gx,if_pos ab]
     ·rw[if_neg Gx,if_neg ab]
  ·refine⟨m-1,ab,i+1,B2,⟨ab,XC,λx hx=>?_,λj=>?_⟩,rfl,rfl⟩
   ·rw[zcX,hr]at hx;rcases List.mem_append.1 hx with hx|hx
    ·exact hh x hx
    ·simp at hx;subst hx;rw[show x.n.toNat=k by omega];exact hf
   ·rw[t_];unfold Tb;have:aiC (l.take (i+1)) j=(aiC (l.take i) j||fR r j):=by
     rw[zcX,hr];exact acS _ _ _
    rw[this];have e:(r.s.toNat<=j/\j<r.s.toNat+k)↔fR r j=true:=by
     simp only[fR,decide_eq_true_eq];omega
    by_cases h:fR r j=true
    ·rw[if_pos (e.2 h),if_pos uQ]
    ·rw[if_neg (λh'=>h (e.1 h'))];have:fR r j=false:=ky;simp[this]
 ·have ei:i=l.length:=by omega
  subst ei;rw[List.take_length]at hh hb;have ha:(l.any λr=>aJI (λi=>decide (bH B i=v)) r.s.toNat r.n.toNat)=false:=by
   rw[List.any_eq_false];intro r hr;rw[hh r hr];simp
  rw[ha]at hK;exact hK B1 hB λ_=>hb
def TF(s:List UInt8)(n:Int)(l:List Rn)(v:Nat):List UInt8:=if aew s n l v=0 then VA (Tb (bH s) l v) n.toNat else[]
def Ye:Spec:=EM true false λps K=>∃(s:List UInt8) (n:Int) (l:List Rn) (v:Nat),ps=[.str s,pI n,.sl 2 (l.map Rn.pv),pI v]/\(s.length<=1000000/\v<=1)/\K (.tup [.pv (.str (TF s n l v)),.pv (pI (aew s n l v))])
def arE{n:Int}{f:Nat->Nat}{l:List Rn}{v:Nat}(h:Ob f n l v=0)(j:Nat)(hj:n.toNat<=j):aiC l j=false:=by
 unfold Ob at h;split at h
 ·rename_i h';exact absurd h h'
 ·rename_i h';obtain⟨_,h1,_⟩:=agU (Decidable.of_not_not h');cases hc:aiC l j with
  |false=>rfl
  |true=>
   unfold aiC at hc;obtain⟨r,hr,hi⟩:=zd3.1 hc;obtain⟨h2,h3⟩:=h1 r hr;simp only[fR,decide_eq_true_eq]at hi;omega
def agw:MT (ay [(173,afd),(190,sB aov)]) Ld Ye:=by
 rintro _ K ⟨s,n,l,v,rfl,⟨hs,hv⟩,hK⟩;unfold TF aew at hK;by_cases he:nu s n=0
 case neg=>
  rw[if_pos he,if_neg he]at hK
  (repeat'(refine iM ?_;first|refine au ab ?_|refine aw ab ?_|refine bT ?_|refine⟨_,_,rfl,cU,?_⟩|fail))<;>try(conv=>whnf)
  (refine⟨_,?_,?_,hK⟩<;>repeat'(first|exact rfl|exact trivial|exact bD _|exact dn _|exact cr|refine⟨?_,?_⟩))
 obtain⟨h1,h2,h3,h4,h5⟩:=iR he;simp only[he,ne_eq,not_true_eq_false,if_false]at hK
 (repeat'(refine iM ?_;first|refine au ab ?_|refine bT ?_|refine⟨_,_,rfl,cU,?_⟩|refine⟨_,_,_,_,_,rfl,rfl,cU,?_⟩|fail))<;>try(conv=>whnf)
 refine λB' hB hb=>?_
 by_cases hm:Ob (bH s) n l v=0
 ·have e:B'=VA (Tb (bH s) l v) n.toNat:=by
   refine aFT (ath (mK s) hv) ?_ (λj _=>hb hm j) λj hj Gx=>?_
   ·have:=abD h1;omega
   ·rw[hb hm];unfold Tb;rw[arE hm j hj];exact h5 j ab hj
  rw[if_pos hm,<-e,hm]at hK;rw[hm]
  (repeat'(refine iM ?_;first|refine aw ab ?_|refine yR ?_|fail))<;>try(conv=>whnf)
  (refine⟨_,?_,?_,hK⟩<;>repeat'(first|exact rfl|exact trivial|exact bD _|exact dn _|exact cr|refine⟨?_,?_⟩))
 ·rw[if_neg hm]at hK
  (repeat'(refine iM ?_;first|refine au ab ?_|fail))<;>try(conv=>whnf)
  (refine⟨_,?_,?_,hK⟩<;>repeat'(first|exact rfl|exact trivial|exact bD _|exact dn _|exact cr|refine⟨?_,?_⟩))
def Pf(ps:List PV)(r:RV):Prop:=∃(s:List UInt8) (n:Int) (l:List Rn),ps=[.str s,pI n,.sl 2 (l.map Rn.pv)]/\s.length<=1000000/\r=.tup [.pv (.str (TF s n l 1)),.pv (pI (aew s n l 1))]
def ag1:MT (ay [(136,Ye)]) PL (c8 true Pf):=by
 rintro _ K ⟨_,⟨s,n,l,rfl,h1,rfl⟩,hK⟩
 (repeat'((conv=>whnf);first|refine⟨s,n,l,1,rfl,⟨h1,ao⟩,?_⟩|fail))<;>try(conv=>whnf)
 exact⟨[.pv (.str _),.pv (pI _)],⟨rfl,rfl,trivial⟩,⟨trivial,trivial,trivial⟩,hK⟩
def CV(v w:Vo)(m:Mv):Vo:=rl v ⟨w.d.a_,TF v.d.mp v.d.n [m.t] 1⟩ m.k.toNat (ni v m.k)
def Z3(v w:Vo)(m:Mv):Vo:=rl (CV v w m) (CV v w m).d m.k.toNat (ni w m.k)
noncomputable def akj(v:Vo)(m:Mv):Int:=open Classical in if wX v≠0 then wX v else ub v m
noncomputable def afD(v:Vo)(m:Mv):List Vo:=open Classical in if akj v m≠0 then[]else[bp v,bp (CV v (nX v m) m),bp (Z3 v (nX v m) m),bp (nX v m)]
def N7(ps:List PV)(r:RV):Prop:=∃(v:Vo) (m:Mv),ps=[v.pv,m.pv]/\n8 v/\r=.tup [.fresh 26 3 ((afD v m).map Vo.pv),.pv (pI (akj v m))]
def apm{v:Vo}{m:Mv}(h:ub v m=0):0<=m.k/\m.k<=(v.st.l.length:Int)-1/\dJ v.d (ni v m.k) m.p m.t=0:=by
 unfold ub at h;split at h
 ·exact absurd h ao
 ·rename_i g;exact⟨(zcY.1 g).1,(zcY.1 g).2,h⟩
set_option maxHeartbeats 4000000 in
def af5:MT (ay [(74,c8 false q6),(99,c8 false Lq),(100,c8 false GC),(86,ah bA),(93,c8 true Pf),(90,c8 false Ks)]) NJ (c8 false N7):=by
 rintro _ K ⟨_,⟨v,m,rfl,h1,rfl⟩,hK⟩;have ho:q6 [v.pv] _:=⟨v,rfl,h1,rfl⟩
 by_cases he:wX v=0
 case neg=>
  have e:akj v m=wX v:=by unfold akj;rw[if_pos he]
  have e2:afD v m=[]:=by unfold afD;rw[e,if_pos he]
  rw[e2,e]at hK
  (repeat'((conv=>whnf);first|refine⟨_,ho,?_⟩|refine au he ?_|refine bT ?_|fail))<;>try(conv=>whnf)
  exact⟨[.fresh _ _ _,.pv (pI _)],⟨⟨rfl,rfl,rfl,rfl⟩,rfl,trivial⟩,trivial,hK⟩
 have BV:=acx h1 he;have uk:Lq [v.pv,m.pv] _:=⟨v,m,rfl,BV.1,rfl⟩
 have e:akj v m=ub v m:=by unfold akj;rw[if_neg (λh=>h he)]
 by_cases hm:ub v m=0
 case neg=>
  have e2:afD v m=[]:=by unfold afD;rw[e,if_pos hm]
  rw[e2,e]at hK
  (repeat'((conv=>whnf);first|refine⟨_,ho,?_⟩|refine aw (λh=>h he) ?_|refine⟨_,uk,?_⟩|refine au hm ?_|refine bT ?_|fail))<;>try(conv=>whnf)
  exact⟨[.fresh _ _ _,.pv (pI _)],⟨⟨rfl,rfl,rfl,rfl⟩,rfl,trivial⟩,trivial,hK⟩
 have e2:afD v m=[bp v,bp (CV v (nX v m) m),bp (Z3 v (nX v m) m),bp (nX v m)]:=by unfold afD;rw[e,if_neg (λh=>h hm)]
 rw[e2,e,hm]at hK;rw[hm]at uk;have hwr:=aql BV m;obtain⟨k0,k1,-⟩:=apm hm;have hwl:(nX v m).st.l.length=v.st.l.length:=by
  unfold nX;rw[if_neg (λh=>h hm)];exact za0
 generalize nX v m=w at*;obtain⟨b,hb⟩:∃b,v.st.l[m.k.toNat]?=some b:=⟨_,zah ab⟩
 obtain⟨c,hc⟩:∃c,w.st.l[m.k.toNat]?=some c:=⟨_,zah ab⟩
 have eb:ni v m.k=b:=by unfold ni;rw[hb];rfl
 have ec:ni w m.k=c:=by unfold ni;rw[hc];rfl
 have qH:D4 v.st=.sl 11 (v.st.l.map At.pv):=Sl.zN hb;have hsw:D4 w.st=.sl 11 (w.st.l.map At.pv):=Sl.zN hc;have H6:(v.st.l.map At.pv)[m.k.toNat]?=some b.pv:=by rw[za9,hb];rfl
 have hgc:(w.st.l.map At.pv)[m.k.toNat]?=some c.pv:=by rw[za9,hc];rfl
 have hvp:v.pv=.agg [.str v.d.a_,.str v.d.mp,.sl 11 (v.st.l.map At.pv)]:=by unfold Vo.pv;rw[qH]
 have hwp:w.pv=.agg [.str w.d.a_,.str w.d.mp,.sl 11 (w.st.l.map At.pv)]:=by unfold Vo.pv;rw[hsw]
 have Lk:GC [v.pv,w.d.pv,pI m.k,b.pv] _:=⟨v,w.d,m.k,b,rfl,⟨⟨k0,ab⟩,BV.1.2.1⟩,rfl⟩
 have mE:bA [v.d.pv] _:=⟨v.d,rfl,h1.1.1,rfl⟩
 have hmk:Pf [.str v.d.mp,pI v.d.n,.sl 2 ([m.t].map Rn.pv)] _:=⟨v.d.mp,v.d.n,[m.t],rfl,h1.1.2,rfl⟩
 have Aw:CV v w m=⟨⟨w.d.a_,TF v.d.mp v.d.n [m.t] 1⟩,.sl (v.st.l.set m.k.toNat b)⟩:=by unfold CV;rw[eb];rfl
 have azV:Z3 v w m=rl (CV v w m) (CV v w m).d m.k.toNat c:=by unfold Z3;rw[ec]
 generalize hX:TF v.d.mp v.d.n [m.t] 1=X at*;have ayt:GC [(CV v w m).pv,(CV v w m).d.pv,pI m.k,c.pv] _:=⟨CV v w m,(CV v w m).d,m.k,c,rfl,⟨⟨k0,by rw[Aw];show _<(v.st.l.set _ _).length;rw[za0];omega⟩,by rw[Aw];show(v.st.l.set _ _).length<=_;rw[za0];exact BV.1.2.1⟩,rfl⟩
 rw[<-azV]at ayt;have eh:∀x:Vo,(x.st.l.length<=100000∧∀a∈x.st.l,a.rn.l.length<=1000000)->Ks [x.pv] (.pv (bp x).pv):=λx h=>⟨x,rfl,h,rfl⟩
 have LO:v.st.l.set m.k.toNat b=v.st.l:=by
  obtain⟨g,rfl⟩:=zaa.1 hb;exact List.set_getElem_self g
 have o1:=eh v BV.own;have o4:=eh w hwr.own;have o2:=eh (CV v w m) (by rw[Aw,LO];exact BV.own);have o3:=eh (Z3 v w m) (by
  rw[azV,Aw,LO];refine⟨by show(v.st.l.set _ _).length<=_;rw[za0];exact BV.own.1,λa ha=>?_⟩;rcases List.mem_or_eq_of_mem_set (show a∈v.st.l.set _ _ from ha)with ha|rfl
  ·exact BV.own.2 a ha
  ·exact hwr.own.2 a (zag hc))
 rw[Aw]at ayt o2;rw[hvp]at ho uk Lk o1 ⊢;rw[hwp]at uk o4
 (repeat'((conv=>whnf);first|refine⟨_,ho,?_⟩|refine aw (λh=>h he) ?_|refine⟨_,uk,?_⟩|refine⟨_,⟨k0,H6⟩,?_⟩|refine⟨_,Lk,?_⟩|refine⟨_,mE,?_⟩|refine⟨_,hmk,?_⟩|refine⟨_,⟨k0,hgc⟩,?_⟩|refine⟨_,ayt,?_⟩|refine⟨_,o1,?_⟩|refine⟨_,o2,?_⟩|refine⟨_,o3,?_⟩|refine⟨_,o4,?_⟩|refine aw ab ?_|refine bT ?_|fail))<;>try(conv=>whnf)
 rw[Aw]at hK;exact⟨[.fresh _ _ _,.pv (pI _)],⟨⟨rfl,rfl,rfl,rfl⟩,rfl,trivial⟩,trivial,hK⟩
def R2(v:Vo)(i:Int)(h:0<=i/\i<=(v.st.l.length:Int)-1):ni (bp v) i=aB (ni v i):=by
 obtain⟨b,hb⟩:∃b,v.st.l[i.toNat]?=some b:=⟨_,zah ab⟩
 unfold ni;rw[hb,show(bp v).st.l=v.st.l.map aB from rfl,za9,hb];rfl
def vE(v:Vo):bp (bp v)=bp v:=by
 unfold bp;simp only[show(Sl.sl (v.st.l.map aB)).l=v.st.l.map aB from rfl,List.map_map];rfl
def akH(ps:List PV)(r:RV):Prop:=∃v:Vo,ps=[v.pv]/\(KX v∧∀a∈v.st.l,a.rn.l.length<=1000000)/\r=.tup [.fresh 9 1 (Px (ac4 v)),.pv (pB true)]
def arJ(l:List (List UInt8)):∀x∈Px l,x.flat:=by
 intro x hx;obtain⟨b,_,rfl⟩:=List.mem_map.1 hx;exact trivial
set_option maxHeartbeats 4000000 in
def aou:MT (ay [(55,c8 false dK),(102,c8 true fi)]) ME (c8 true akH):=by
 rintro _ K ⟨_,⟨v,rfl,⟨hv,hr⟩,rfl⟩,hK⟩;have hlen:=hv.1.2.2;have sM:=(AZ.1 hv.2).2.2.1;have mE:(ac4 v).length=v.st.l.length:=zav _
 (conv=>whnf)
 refine⟨λm env σ=>∃n:Nat,n+m=v.st.l.length/\σ=[.box 26 [.pv (.str v.d.a_),.pv (.str v.d.mp),.pv (D4 v.st)],.row 9 1 true (Px ((ac4 v).take n))]/\env=[(1,.ref 0 0 0),(4,.own 1),eN 5 n],v.st.l.length,⟨0,ab,rfl,rfl⟩,?_⟩;rintro m env σ ⟨n,hn,rfl,rfl⟩;by_cases aU:n<v.st.l.length
 ·obtain⟨a,ha⟩:∃a,v.st.l[n]?=some a:=⟨_,zah aU⟩
  have HA:=zag ha;have qH:D4 v.st=.sl 11 (v.st.l.map At.pv):=Sl.zN ha;have vt:=nS (f:=At.pv) ha;have h0:=sM a HA;have Aw:dK [a.pv] _:=⟨a,rfl,hr a HA,rfl⟩
  have CY:fi [v.d.pv,(aB a).pv] _:=⟨v.d,aB a,rfl,⟨hv.1.1,hv.1.2.1 a HA⟩,rfl⟩
  have e1:auS v.d (aB a)=aV (ar v.d a):=by unfold auS;rw[kU,h0,Hm];rfl
  rw[kU,h0,e1]at CY;have hl:(Px ((ac4 v).take n)).length=n:=by unfold Px;rw[zav,List.length_take];omega
  have ht:Px ((ac4 v).take (n+1))=Px ((ac4 v).take n)++[.str (aV (ar v.d a))]:=by
   rw[zcX,show(ac4 v)[n]?=some (aV (ar v.d a)) by unfold ac4;rw[za9,ha];rfl];unfold Px;rw[List.map_append];rfl
  generalize Px ((ac4 v).take n)=T at*;rw[qH]
  (repeat'((conv=>whnf);first|refine au ab ?_|refine⟨_,⟨ab,vt⟩,?_⟩|refine⟨_,Aw,?_⟩|refine⟨_,CY,?_⟩|refine zcB ⟨by rw[hl];simp;omega,by rw[hl];simp;omega⟩ ?_|refine bj ab ?_|refine aw ab ?_|refine dq λ_=>?_|refine bT ?_|fail))<;>try(conv=>whnf)
  exact⟨m-1,ab,n+1,ab,by rw[ht],rfl⟩
 ·(repeat'((conv=>whnf);first|refine KP ?_|refine aw ab ?_|refine dq λ_=>?_|fail))<;>try(conv=>whnf)
  rw[List.take_of_length_le ab];exact⟨[.fresh _ _ _,.pv (.bool true)],⟨⟨rfl,rfl,rfl,rfl⟩,rfl,trivial⟩,⟨arJ _,trivial,trivial⟩,hK⟩
def PI:At:=⟨128,[],0,0,false,[],0,.sl [⟨4,2⟩,⟨8,1⟩],768,700,700⟩
def wV:At:=⟨128,[98],1,0,false,[],0,.sl [⟨6,2⟩],512,512,512⟩
def hH:Dk:=⟨ai 16384,255::1::ai 6⟩
def I7:Vo:=⟨hH,.sl [PI,wV]⟩
def Ci:Mv:=⟨1,0,⟨9,2⟩⟩
def arc:hH.n=64:=by
 unfold Dk.n hH;rw[aW]
def aAm:fH hH:=⟨by show(ai 16384).length<=_;rw[aW];decide,ao⟩
def azD:gm hH=0:=by
 unfold gm;rw[arc,show hH.a_=ai 16384 from rfl,aW,if_neg ao,if_neg ao];show nu (255::1::ai 6) 64=0;decide+kernel
def azg{l:List Int}(h:(∀a∈l,a<64/\(a≠ -1->bH (255::1::ai 6) a.toNat≠0))):pG hH l=0:=by
 unfold pG;rw[arc,if_neg,if_neg]
 ·rintro⟨a,ha,h1,h2⟩;exact(h a ha).2 h1 h2
 ·rintro⟨a,ha,h1⟩;have:=(h a ha).1;omega
def azz{a:At}(h1:oT a=0)(h2:a.rs=false)(h3:a.fl=0)(h4:∀x∈az a.rn.l,x<64/\(x≠ -1->bH (255::1::ai 6) x.toNat≠0))(h5:a.al=bt (az a.rn.l)*256/\((az a.rn.l).length:Int)=(a.sz+255)/256/\bt (az a.rn.l)=(az a.rn.l).length):aK hH a=0:=by
 have hs:iW a (az a.rn.l)=0:=by
  unfold iW;rw[if_pos];unfold lJ;rw[h3,if_neg ao];exact⟨h5.1,h5.2.1,.inr h5.2.2⟩
 unfold aK;rw[azD,h1,h2,azg h4,hs,h3];simp
def aAo:aK hH PI=0:=azz LM rfl rfl LM LM
def aza:aK hH wV=0:=azz LM rfl rfl LM LM
def agt:wX I7=0:=by
 refine AZ.2 ⟨azD,ao,λa ha=>?_,?_⟩
 ·rcases zaw.1 ha with rfl|ha
  ·exact aAo
  ·rw[zc2]at ha;subst ha;exact aza
 ·refine List.pairwise_cons.2 ⟨λb hb=>?_,List.pairwise_singleton _ _⟩;rw[zc2]at hb;subst hb;intro c h1 h2;have e1:az PI.rn.l=[4,5,8]:=LM;have e2:az wV.rn.l=[6,7]:=LM;rw[e1]at h1;rw[e2]at h2;simp only[zaw,List.not_mem_nil,or_false]at h1 h2;omega
def adj:n8 I7:=by
 refine⟨aAm,λa ha=>?_,ao⟩;rcases zaw.1 ha with rfl|ha
 ·decide
 ·rw[zc2]at ha;subst ha;decide
def azn:ub I7 Ci=0:=by
 have hk:0<=Ci.k/\Ci.k<=(I7.st.l.length:Int)-1:=⟨ao,ao⟩
 have e0:I7.st.l[Ci.k.toNat]?=some wV:=zaa.2 ⟨ao,rfl⟩;have e:ni I7 Ci.k=wV:=by unfold ni;rw[e0];rfl
 have e2:dJ I7.d wV Ci.p Ci.t=dJ hH wV 0 ⟨9,2⟩:=rfl;unfold ub;rw[if_neg (λh=>h hk),e,e2,(azk aza).1];have hm:SJ (ar hH wV) 0 ⟨9,2⟩=0:=by
  have dB:=arc;have e3:((cQ (df hH) 64).drop (9:Int).toNat).take (2:Int).toNat=[false,false]:=by
   have:df hH=λc=>decide (bH (255::1::ai 6) c=1):=rfl
   rw[this];decide+kernel
  have a2:Pv (ar hH wV) 0 ⟨9,2⟩:=by
   have e:(ar hH wV).d.n=64:=arc;unfold Pv;rw[e];decide
  have a4:(ar hH wV).pl=[6,7]:=(show az wV.rn.l=[6,7] by decide+kernel)
  have a5:¬true∈((cQ (df (ar hH wV).d) (ar hH wV).d.n).drop (9:Int).toNat).take (2:Int).toNat:=by
   have e:cQ (df (ar hH wV).d) (ar hH wV).d.n=cQ (df hH) 64:=by
    show cQ (df hH) hH.n=_;rw[dB]
   rw[e,e3];decide
  unfold SJ;rw[if_neg (λh=>nomatch h),if_neg (λh=>h a2),a4,if_neg ao,if_neg LM,if_neg a5]
 unfold fE;rw[if_neg (λh=>h hm),if_neg];rintro(h|h)
 ·revert h;decide+kernel
 ·revert h;decide+kernel
def alI{P:Nat->Prop}{k:Nat}:∀n,(∀c,c<n->(P c↔k<=c))->ae P n=if n<=k then[]else[⟨k,(n:Int)-k⟩]
 |0,_=>by simp[ae]
 |n+1,h=>by
  have ih:=alI n λc hc=>h c ab
  by_cases hn:k<=n
  ·rw[N0 ((h n ab).2 hn),ih];by_cases e:n<=k
   ·rw[if_pos e,if_neg ab,Hu];have:n=k:=ab;subst this;congr 2;omega
   ·rw[if_neg e,if_neg ab];show cO ([]++[_]) _=_;rw[xw,if_pos (by simp only;omega)];simp only[zaZ];congr 2;omega
  ·rw[GJ (λg=>hn ((h n ab).1 g)),ih,if_pos ab,if_pos ab]
def akN{d:Dk}:∀{l:List At} {o:List Int} {i:Int},(FH d o i l).2=0→∀c,(ac5 o i l)[c]?.getD 0=yL c (o[c]?.getD 0) i l
 |[],o,i,_,c=>rfl
 |a::l,o,i,h,c=>by
  obtain⟨h0,o',ho,h2⟩:=aeW h;have e1:ac5 o i (a::l)=ac5 o' (i+1) l:=by
   show ac5 ((Wi o i (xM a.rn.l)).getD o) _ _=_;rw[ho];rfl
  have e2:yL c (o[c]?.getD 0) i (a::l)=yL c (if c∈Dc a then i else o[c]?.getD 0) (i+1) l:=rfl;rw[e1,e2,akN h2 c,aa8 ho c,R_ h0]
def ah7{v:Vo}(h:U1 v):q4 v=owR v:=by
 have h1:=yx v;have h2:=aj3 v;refine List.ext_getElem? λc=>?_
 by_cases hc:c<v.d.n
 ·rw[aiZ hc];have h3:=akN h.ch c;have h4:(Fu v.d)[c]?.getD 0=xd v.d c:=by
   unfold Fu;rw[za9,List.getElem?_range hc];rfl
  rw[h4]at h3;have h5:(q4 v)[c]?=some ((q4 v)[c]?.getD 0):=by
   rw[zah ab];rfl
  rw[h5];exact congrArg some h3
 ·rw[zaK ab,zaK ab]
def atp{d:Dk}{a:At}(h:aK d a=0){c:Nat}(hc:c∈xM a.rn.l):bH d.mp c=1/\c<d.n:=by
 have hr:=Bd h;have hp:=(abi λr ic=>(hr r ic).imp id (·.1)).1 hc;exact⟨QX h hp,by
  obtain⟨r,Ql,Wo⟩:=List.mem_flatMap.1 hc;have h5:=hr r Ql;unfold jQ at Wo;split at Wo
  ·exact absurd Wo aj
  ·rw[List.mem_range'_1]at Wo;omega⟩
def aie{c:Nat}:∀{l:List At} {o i:Int},(∀a∈l,c∉Dc a)->yL c o i l=o
 |[],_,_,_=>rfl
 |a::l,o,i,h=>by
  show yL c (if c∈Dc a then i else o) (i+1) l=o;rw[if_neg (h a aj)];exact aie λx hx=>h x iP
def aid{c:Nat}:∀{l:List At} {o i:Int},0<=i->((∃a∈l,c∈Dc a)\/0<=o)->0<=yL c o i l
 |[],_,_,_,h=>h.elim (λ⟨_,h,_⟩=>bV) id
 |a::l,o,i,hi,h=>by
  show 0<=yL c (if c∈Dc a then i else o) (i+1) l;refine aid ab ?_;by_cases g:c∈Dc a
  ·rw[if_pos g];exact .inr hi
  ·rw[if_neg g];rcases h with⟨x,hx,uu⟩|h
   ·rcases zaw.1 hx with rfl|hx
    ·exact absurd uu g
    ·exact .inl ⟨x,hx,uu⟩
   ·exact .inr h
def axp{v:Vo}(h:U1 v){c:Nat}(hc:c<v.d.n):(∃a∈v.st.l,c∈Dc a)/\bH v.d.mp c=1/\0<=yL c (xd v.d c) 0 v.st.l\/(∀a∈v.st.l,c∉Dc a)/\yL c (xd v.d c) 0 v.st.l=xd v.d c:=by
 by_cases g:∃a∈v.st.l,c∈Dc a
 ·left;refine⟨g,?_,aid ab (.inl g)⟩;obtain⟨a,ha,Mq⟩:=g;rw[R_ (h.op a ha)]at Mq;exact(atp (h.op a ha) Mq).1
 ·right;have g2:∀a∈v.st.l,c∉Dc a:=λa ha Mq=>g ⟨a,ha,Mq⟩
  exact⟨g2,aie g2⟩
def atL{v:Vo}(h:U1 v){c:Nat}(hc:c<v.d.n):(q4 v)[c]?=some (-1)↔¬bH v.d.mp c=1:=by
 rw[ah7 h,aiZ hc];have hb:xd v.d c=if bH v.d.mp c=1 then-2 else-1:=rfl
 rcases axp h hc with⟨_,h2,h3⟩|⟨_,h2⟩
 ·constructor
  ·intro e;have:=Option.some.inj e;omega
  ·intro e;exact absurd h2 e
 ·rw[h2,hb];constructor
  ·intro e g;rw[if_pos g]at e;have:=Option.some.inj e;omega
  ·intro g;rw[if_neg g]
def aiJ{P Q:Nat->Prop}:∀n,(∀c,c<n->(P c↔Q c))->ae P n=ae Q n
 |0,_=>rfl
 |n+1,h=>by
  have ih:=aiJ n λc hc=>h c ab
  by_cases g:P n
  ·rw[N0 g,N0 ((h n ab).1 g),ih]
  ·rw[GJ g,GJ (λk=>g ((h n ab).2 k)),ih]
def awy{v:Vo}(h:U1 v):DO v=acZ v.d:=by
 unfold DO acZ;rw[yx];refine aiJ _ λc hc=>?_
 unfold aqZ;rw[atL h hc];exact⟨λh=>h.1,λh=>⟨h,trivial⟩⟩
def Ua:∀(n:Nat) (p:List Rn) (s k:Int) (c:Nat),s+k=c->(List.range' c n).foldl (λ(acc:List Rn) (c:Nat)=>cO acc (c:Int)) (p++[⟨s,k⟩])=p++[⟨s,k+n⟩]
 |0,p,s,k,c,_=>by simp
 |n+1,p,s,k,c,h=>by
  rw[zd4,zbg,xw,if_pos (by simp only;omega)];rw[Ua n p s (k+1) (c+1) ab];congr 3;omega
def asz{acc:List Rn}{r:Rn}(h:r.s= -1\/(0<=r.s/\1<=r.n)):(jQ r).foldl (λ(acc:List Rn) (c:Nat)=>cO acc (c:Int)) acc=cg acc r:=by
 by_cases hs:r.s= -1
 ·unfold jQ cg;rw[if_pos hs,if_pos hs];rfl
 ·have h:=h.resolve_left hs;have e:jQ r=List.range' r.s.toNat r.n.toNat:=by unfold jQ;rw[if_neg hs]
  obtain⟨n,hn⟩:∃n,r.n.toNat=n+1:=⟨r.n.toNat-1,ab⟩
  have ZI:((r.s.toNat:Nat):Int)=r.s:=ab;have LD:(1:Int)+(n:Nat)=r.n:=ab;rw[e,hn,zd4,zbg];rcases List.eq_nil_or_concat acc with rfl|⟨p,q,rfl⟩
  ·rw[Hu,aac hs];have:=Ua n [] ((r.s.toNat:Nat):Int) 1 (r.s.toNat+1) ab;rw[zaZ]at this;rw[this,ZI,LD];rfl
  ·simp only[List.concat_eq_append];rw[xw,Sj hs];by_cases g:q.s+q.n=r.s
   ·rw[if_pos ab,if_pos g,Ua n p q.s (q.n+1) (r.s.toNat+1) ab];congr 3;omega
   ·rw[if_neg ab,if_neg g,Ua n (p++[q]) _ 1 (r.s.toNat+1) ab,ZI,LD]
def auW{l:List Rn}(h:∀r∈l,r.s= -1\/(0<=r.s/\1<=r.n)):LZ (xM l)=Yd l:=by
 have main:∀(l:List Rn) (acc:List Rn),(∀r∈l,r.s= -1\/(0<=r.s/\1<=r.n))->(xM l).foldl (λ(acc:List Rn) (c:Nat)=>cO acc (c:Int)) acc=l.foldl cg acc:=by
  intro l
  induction l with
  |nil=>intro acc _;rfl
  |cons r l ih=>
   intro acc h;have e:xM (r::l)=jQ r++xM l:=List.flatMap_cons;rw[e,List.foldl_append,asz (h r aj),ih _ λx hx=>h x iP];rfl
 exact main l [] h
def amk{d:Dk}{a:At}(h:aK d a=0):LZ (Dc a)=Yd a.rn.l:=by
 rw[R_ h];refine auW λr hr=>?_
 have h1:=Bd h r hr;have h2:=rG ((bZ (bc h).1.rn).2.2.2 r hr);rcases h1 with h1|h1
 ·exact .inl h1
 ·exact .inr ⟨h1.1,h2.1.1⟩
def amg:∀(l:List Rn) (b:Rn),(Ot b l).n=l.foldl (λm r=>max m r.n) b.n
 |[],b=>rfl
 |x::l,b=>by
  show(Ot (if b.n<x.n then x else b) l).n=(l.foldl (λm r=>max m r.n) (max b.n x.n))
  rw[amg l];congr 1;split<;>omega
def auw{l:List Rn}(h:∀r∈l,0<=r.n):akU l=anU l:=by
 cases l with
 |nil=>rfl
 |cons b l=>
  have hb:=h b aj;show(Ot b l).n=l.foldl (λm r=>max m r.n) (max 0 b.n);rw[amg,show max 0 b.n=b.n by omega]
def asm{d:Dk}:∀{l:List At},(∀a∈l,aK d a=0)->XT l=Nd l
 |[],_=>rfl
 |a::l,h=>by
  have ih:=asm (l:=l) λx hx=>h x iP
  unfold XT Nd at*;rw[zat,zat,List.sum_cons,List.sum_cons,ih,amk (h a aj)]
def alK{v:Vo}(h:U1 v):Zi v=eJ v:=by
 unfold Zi eJ;rw[awy h,asm h.op,auw λr hr=>by have:=(ah9 (λc=>¬bH v.d.mp c=1) v.d.n).1 r hr;omega]
def akG(ps:List PV)(r:RV):Prop:=ps=[]/\r=.pv I7.pv
set_option maxHeartbeats 2000000 in
def an0:MT (ay [(97,ah Xs)]) S2 (c8 false akG):=by
 rintro _ K ⟨_,⟨rfl,rfl⟩,hK⟩;obtain⟨Z,hZ⟩:∃Z,Z=ai (16384:Int).toNat:=⟨_,rfl⟩
 have hl:Z.length=16384:=by rw[hZ,aW];rfl
 have e:I7.pv=.agg [.str Z,.str (255::1::ai 6),.sl 11 [PI.pv,wV.pv]]:=by rw[hZ];rfl
 have hz:Xs [pI 16384] (.str Z):=⟨16384,rfl,ab,by rw[hZ]⟩
 have hz6:Xs [pI 6] (.str (ai 6)):=⟨6,rfl,ab,rfl⟩
 rw[e]at hK;clear hZ e;have hle:((([255,1]:List UInt8).length+(ai 6).length:Nat):Int)<=9223372036854775807:=by rw[aW];decide
 (repeat'((conv=>whnf);first|refine⟨_,hz,?_⟩|refine⟨_,hz6,?_⟩|refine zcB hle ?_|refine bT ?_|fail))<;>try(conv=>whnf)
 exact FI
def azf:NH I7=⟨3,55,1,55⟩:=by
 have hk:=P0 adj agt;have hf:acZ I7.d=[⟨9,55⟩]:=by
  unfold acZ;rw[show I7.d.n=64 from arc];have h:=alI (P:=λc=>¬bH I7.d.mp c=1) (k:=9) 64 (by
   have e:I7.d.mp=255::1::ai 6:=rfl;rw[e];intro c hc;have:∀c:Fin 64,(¬bH (255::1::ai 6) c.val=1↔9<=c.val):=LM;exact this ⟨c,hc⟩)
  rw[h,if_neg ao];rfl
 unfold NH;rw[if_neg (λh=>h agt),alK hk];unfold eJ;rw[hf];have:Nd I7.st.l=3:=by
  show Nd [PI,wV]=3;decide+kernel
 rw[this];rfl
def awb:LI I7 0=0:=by
 unfold LI;rw[if_neg (λh=>h agt),if_pos ⟨ao,ao⟩]
def azv:pcE I7 0=[⟨4,2⟩,⟨8,1⟩]:=by
 unfold pcE;rw[if_neg (λh=>h awb)];have e0:I7.st.l[(0:Int).toNat]?=some PI:=rfl;have e:ni I7 0=PI:=by unfold ni;rw[e0];rfl
 rw[e];decide+kernel
def azj:akj I7 Ci=0/\(afD I7 Ci).length=4:=by
 have e:akj I7 Ci=0:=by unfold akj;rw[if_neg (λh=>h agt)];exact azn
 refine⟨e,?_⟩;unfold afD;rw[if_neg (λh=>h e)];rfl
def awc:NY I7 9 1 I7.d.n=0/\NY I7 8 1 I7.d.n=18:=by
 have en:I7.d.n=64:=arc;rw[en];have r9:aos (255::1::ai 6) 64 9=0:=LM;have r8:aos (255::1::ai 6) 64 8=18:=LM;constructor
 ·unfold NY;rw[if_neg (λh=>h agt),if_pos ⟨ao,ao⟩,en];exact r9
 ·unfold NY;rw[if_neg (λh=>h agt),if_pos ⟨ao,ao⟩,en];exact r8
def KL(ps:List PV)(x:PV):Prop:=ps=[]/\x=pB true
set_option maxHeartbeats 4000000 in
def an8:MT (ay [(62,c8 false akG),(22,c8 true HW),(14,c8 false A8),(42,c8 false N7),(27,c8 false IE),(18,bF jW)]) WC (ah KL):=by
 rintro _ K ⟨_,⟨rfl,rfl⟩,hK⟩;have hvo:akG [] (.pv I7.pv):=⟨rfl,rfl⟩
 have hsc:HW [I7.pv] (.tup [.pv (NH I7).pv,.pv (pI (wX I7))]):=⟨I7,rfl,adj,rfl⟩
 have s7:A8 [I7.pv,pI 0] _:=⟨I7,0,rfl,adj,rfl⟩
 have fM:N7 [I7.pv,.agg [pI 1,pI 0,pI 9,pI 2]] _:=⟨I7,Ci,rfl,adj,rfl⟩
 have h9:IE [I7.pv,pI 9] _:=⟨I7,9,rfl,adj,rfl⟩
 have h8:IE [I7.pv,pI 8] _:=⟨I7,8,rfl,adj,rfl⟩
 obtain⟨s1,s2⟩:=azj;rw[agt,azf]at hsc;rw[azv,awb]at s7;rw[s1]at fM;rw[awc.1]at h9;rw[awc.2]at h8;have qH:((afD I7 Ci).map Vo.pv).length=4:=by rw[zav];exact s2
 generalize (afD I7 Ci).map Vo.pv=L at*;generalize SE I7 9 1 I7.d.n=X9 at*;generalize SE I7 8 1 I7.d.n=X8 at*;generalize I7=V at*;have QL:jW [.sl 2 [.agg [pI 4,pI 2],.agg [pI 8,pI 1]],.sl 2 [.agg [pI 4,pI 2],.agg [pI 8,pI 1]]] _:=⟨.sl [⟨4,2⟩,⟨8,1⟩],.sl [⟨4,2⟩,⟨8,1⟩],rfl,ao,rfl⟩
 (repeat'((conv=>whnf);first|refine⟨_,hvo,?_⟩|refine⟨_,hsc,?_⟩|refine⟨_,s7,?_⟩|refine⟨_,fM,?_⟩|refine⟨_,h9,?_⟩|refine⟨_,h8,?_⟩|refine⟨_,QL,?_⟩|refine au rfl ?_|refine au ab ?_|refine dq λ_=>?_|refine bT ?_|fail))<;>try(conv=>whnf)
 exact⟨.pv (pB true),rfl,trivial,hK⟩
def aqa{d:Dk}:∀(l:List At) (o:List Int) (i:Int),FH d o i (l.map aB)=FH d o i l
 |[],_,_=>rfl
 |a::l,o,i=>by
  rw[zat];unfold FH;rw[kU,awk];split
  ·rfl
  ·split
   ·rfl
   ·exact aqa l _ _
def amC(v:Vo):ZX (bp v)=ZX v:=by
 unfold ZX;rw[show(bp v).st.l=v.st.l.map aB from rfl,zav,aqa];rfl
def x_(v:Vo):wX (bp v)=wX v:=by unfold wX;rw[amC]
def Og{v:Vo}(h:n8 v):n8 (bp v):=by
 refine⟨h.1,λa ha=>?_,by show(v.st.l.map aB).length<=_;rw[zav];exact h.2.2⟩;obtain⟨b,hb,rfl⟩:=List.mem_map.1 (show a∈v.st.l.map aB from ha);exact h.2.1 b hb
def art(d:Dk)(a:At)(s:Sp):A4 d (aB a) s=A4 d a s:=FB
def axh(d:Dk)(a:At)(s:Sp):Ib d (aB a) s=Ib d a s:=FB
def axg(d:Dk)(a:At)(s:Sp):D2 d (aB a) s=D2 d a s:=FB
def arx(d:Dk)(a:At)(p n:Int):xN d (aB a) p n=xN d a p n:=FB
def atb(d:Dk)(a:At)(p n:Int):H2 d (aB a) p n=H2 d a p n:=FB
def avB(v:Vo)(s:Sp):vf (bp v) s=vf v s:=by
 unfold vf;rw[show(bp v).st.l.length=v.st.l.length from zav _];split
 ·rfl
 ·rename_i h;rw[R2 v s.i (zcY.1 h),show(bp v).d=v.d from rfl,atb,arx,art]
def arB(v:Vo)(d:Dk)(i:Nat)(a:At):bp (rl (bp v) d i a)=bp (rl v d i a):=by
 unfold bp rl;simp only[show ∀l:List At,(Sl.sl l).l=l from λ_=>rfl,List.map_set,List.map_map];rfl
def aur(v:Vo)(s:Sp):bp (YN (bp v) s)=bp (YN v s):=by
 unfold YN;rw[show(bp v).st.l.length=v.st.l.length from zav _];split
 ·exact vE v
 ·rename_i h;rw[R2 v s.i (zcY.1 h),show(bp v).d=v.d from rfl,art,axh,axg];split
  ·exact vE v
  ·split
   ·exact vE v
   ·exact arB _ _ _ _
def UM:∀(l:List Sp) (v:Vo),Kh (bp v) l=Kh v l/\bp (Jv (bp v) l)=bp (Jv v l)
 |[],v=>⟨rfl,vE v⟩
 |s::r,v=>by
  obtain⟨h1,h2⟩:=UM r (YN (bp v) s);obtain⟨h3,h4⟩:=UM r (YN v s);rw[aur]at h1 h2;constructor
  ·show vf (bp v) s::Kh (YN (bp v) s) r=vf v s::Kh (YN v s) r;rw[avB,<-h1,h3]
  ·show bp (Jv (YN (bp v) s) r)=bp (Jv (YN v s) r);rw[<-h2,h4]
def agk(l:List Sp):Prop:=(¬(12<l.length/\l.length<=40)∧¬42<l.length)∧∀s∈l,s.dat.length<=3000
def TV(ps:List PV)(p:Prop):Prop:=∃s:Sl Sp,ps=[Im s]/\p=agk s.l
set_option maxHeartbeats 2000000 in
def ahp:MT (ay []) Io (bF TV):=by
 rintro _ K ⟨_,⟨s,rfl,rfl⟩,hK⟩;have gJ:(s.l.map Sp.pv).length=s.l.length:=zav _;by_cases hc:¬(12<s.l.length/\s.l.length<=40)∧¬42<s.l.length
 case neg=>
  have hn:¬agk s.l:=λh=>hc h.1
  (repeat'((conv=>whnf);first|refine KP ?_|refine au ab ?_|refine de (λ_=>?_) (λ_=>?_)|refine dq λ_=>?_|fail))<;>try(conv=>whnf)
  all_goals first
   |(exfalso;omega)
   |exact⟨.pv (.bool false),rfl,trivial,hK false (by simp only[hn,zcn])⟩
 (repeat'((conv=>whnf);first|refine KP ?_|refine aw ab ?_|refine de (λ_=>?_) (λ_=>?_)|refine dq λ_=>?_|fail))<;>try(conv=>whnf)
 all_goals try(exfalso;omega)
 all_goals
  refine⟨λm env σ=>∃n:Nat,(n+m=s.l.length∧∀j a,j<n->s.l[j]?=some a->a.dat.length<=3000)/\σ=[]/\env=[(0,.pv (Im s)),eN 3 n],s.l.length,⟨0,⟨ab,λj a h=>ab⟩,rfl,rfl⟩,?_⟩;rintro m env σ ⟨n,⟨hn,tT⟩,rfl,rfl⟩;by_cases aU:n<s.l.length
  ·obtain⟨a,ha⟩:∃a,s.l[n]?=some a:=⟨_,zah aU⟩
   have qH:Im s=.sl 7 (s.l.map Sp.pv):=Sl.zN ha;have vt:=nS (f:=Sp.pv) ha;rw[qH];by_cases hf:a.dat.length<=3000
   ·(repeat'((conv=>whnf);first|refine au ab ?_|refine⟨_,⟨ab,vt⟩,?_⟩|refine aw ab ?_|refine bj ab ?_|refine dq λ_=>?_|fail))<;>try(conv=>whnf)
    refine⟨m-1,ab,n+1,⟨ab,λj b hj hb=>?_⟩,rfl,rfl⟩;rcases Nat.lt_or_eq_of_le (Nat.le_of_lt_succ hj)with h1|h1
    ·exact tT j b h1 hb
    ·subst h1;rw[ha]at hb;cases hb;exact hf
   ·have hn:¬agk s.l:=λh=>hf (h.2 a (zag ha))
    (repeat'((conv=>whnf);first|refine au ab ?_|refine⟨_,⟨ab,vt⟩,?_⟩|refine dq λ_=>?_|fail))<;>try(conv=>whnf)
    exact⟨.pv (.bool false),rfl,trivial,hK false (by simp only[hn,zcn])⟩
  ·have hy:agk s.l:=⟨hc,λa ha=>by
    obtain⟨j,hj⟩:=jk.1 ha;exact tT j a (by have:=eT hj;omega) hj⟩
   (repeat'((conv=>whnf);first|refine KP ?_|refine aw ab ?_|refine dq λ_=>?_|fail))<;>try(conv=>whnf)
   exact⟨.pv (.bool true),rfl,trivial,hK true (by simp only[hy])⟩
noncomputable def aox(l:List Sp):Int:=if l.length<=40 then(BE 0 l).2 else 8
def akI(ps:List PV)(x:PV):Prop:=∃s:Sl Sp,ps=[Im s]/\s.l.length<=1000000/\x=pI (aox s.l)
def ax7{l:List Sp}{n:Nat}{s:Sp}(i:Int)(h:l[n]?=some s):(BE i (l.drop n)).2=if EB s.k≠0 then EB s.k else(BE (i+1) (l.drop (n+1))).2:=by
 rw[drop_cons h];show(if EB s.k≠0 then(i,EB s.k)else BE (i+1) _).2=_;split<;>rfl
set_option maxHeartbeats 2000000 in
def aot:MT (ay [(32,bF bG)]) Ln (ah akI):=by
 rintro _ K ⟨_,⟨s,rfl,hs,rfl⟩,hK⟩;have gJ:(s.l.map Sp.pv).length=s.l.length:=zav _;unfold aox at hK;by_cases hl:s.l.length<=40
 case neg=>
  rw[if_neg hl]at hK
  (repeat'((conv=>whnf);first|refine KP ?_|refine au ab ?_|refine dq λ_=>?_|fail))<;>try(conv=>whnf)
  exact⟨.pv (pI 8),rfl,trivial,hK⟩
 rw[if_pos hl]at hK
 (repeat'((conv=>whnf);first|refine KP ?_|refine aw ab ?_|refine dq λ_=>?_|fail))<;>try(conv=>whnf)
 refine⟨λm env σ=>∃n:Nat,(n+m=s.l.length/\(BE 0 s.l).2=(BE n (s.l.drop n)).2)/\σ=[]/\env=[(0,.pv (Im s)),eN 3 n],s.l.length,⟨0,⟨ab,rfl⟩,rfl,rfl⟩,?_⟩;rintro m env σ ⟨n,⟨hn,hg⟩,rfl,rfl⟩;by_cases aU:n<s.l.length
 ·obtain⟨a,ha⟩:∃a,s.l[n]?=some a:=⟨_,zah aU⟩
  have qH:Im s=.sl 7 (s.l.map Sp.pv):=Sl.zN ha;have vt:=nS (f:=Sp.pv) ha;rw[ax7 n ha]at hg;have hek:EB a.k=if 0<=a.k/\a.k<=4 then 0 else 15:=by unfold EB;rfl
  rw[qH];by_cases hk:0<=a.k/\a.k<=4
  ·rw[if_pos hk]at hek;rw[hek,if_neg (λh=>h rfl)]at hg
   (repeat'((conv=>whnf);first|refine au ab ?_|refine⟨_,⟨ab,vt⟩,?_⟩|refine⟨_,⟨_,_,_,rfl,rfl⟩,?_⟩|refine bj ab ?_|refine aN ?_|refine dq λ_=>?_|fail))<;>try(conv=>whnf)
   exact⟨m-1,ab,n+1,⟨ab,by rw[Int.natCast_add];exact hg⟩,rfl,rfl⟩
  ·rw[if_neg hk]at hek;rw[hek,if_pos ao]at hg;rw[hg]at hK
   (repeat'((conv=>whnf);first|refine au ab ?_|refine⟨_,⟨ab,vt⟩,?_⟩|refine⟨_,⟨_,_,_,rfl,rfl⟩,?_⟩|refine aw hk ?_|refine bP ?_|refine dq λ_=>?_|fail))<;>try(conv=>whnf)
   exact⟨.pv (pI 15),rfl,trivial,hK⟩
 ·(repeat'((conv=>whnf);first|refine KP ?_|refine aw ab ?_|refine dq λ_=>?_|fail))<;>try(conv=>whnf)
  rw[hg,List.drop_of_length_le ab]at hK;exact⟨.pv (pI 0),rfl,trivial,hK⟩
def azx{v:Vo}{s:Sl Sp}(h:wX v=0)(he:aox s.l=0):ID (bp v) (.sl s.l)=0/\Sr (bp v) (.sl s.l)=Kh v s.l/\SV (bp v) (.sl s.l)=bp (Jv v s.l):=by
 obtain⟨b1,b2⟩:=UM s.l v;have hl:(Sl.sl s.l).l=s.l:=rfl;have e:ID (bp v) (.sl s.l)=0:=by
  unfold ID;rw[x_,if_neg (λg=>g h),hl];exact he
 refine⟨e,?_,?_⟩
 ·unfold Sr;rw[if_neg (λg=>g e)];exact b1
 ·unfold SV;rw[if_neg (λg=>g e)];exact b2
def afx(ps:List PV)(x:PV):Prop:=∃(v:Vo) (s:Sl Sp),ps=[v.pv,Im s]/\x=pB true
abbrev aAz:List CT:=[.int .i64,.str,.int .i64,.int .i64,.bool,.str,.int .i64,.sl true [.int .i64,.int .i64],.int .i64,.int .i64,.int .i64]
abbrev cVo:Bool×List CT:=(true,[.str,.str,.sl true [.int .i64,.str,.int .i64,.int .i64,.bool,.str,.int .i64,.sl true [.int .i64,.int .i64],.int .i64,.int .i64,.int .i64]])
def ajp{y:PV}(h:∃zs,y=.agg zs/\ou [.str,.str,.sl true aAz] zs):∃v:Vo,y=v.pv:=by
 obtain⟨zs,rfl,h⟩:=h;simp only[ou]at h;obtain⟨_,_,rfl,hb,_,_,rfl,hm,_,_,rfl,hs,rfl⟩:=h;simp only[O1]at hb hm hs;obtain⟨b,rfl,_⟩:=hb;obtain⟨m,rfl,_⟩:=hm;obtain⟨aC,rfl,_,he⟩:=hs;obtain⟨l,rfl,_⟩:=awZ (g:=At.pv) (q:=λ_=>True) λz hz=>by
  obtain⟨a,ha⟩:=auD ((he z hz).1 trivial);exact⟨a,ha,trivial⟩
 exact⟨⟨⟨b,m⟩,.sl l⟩,rfl⟩
abbrev aAj:Bool×List CT:=(false,[.sl true [.int .i64,.int .i64,.int .i64,.int .i64,.str,.int .i64,.int .i64]])
def aw0{y:PV}(h:∃zs,y=.agg zs/\ou [.int .i64,.int .i64,.int .i64,.int .i64,.str,.int .i64,.int .i64] zs):∃s:Sp,y=s.pv:=by
 obtain⟨zs,rfl,h⟩:=h;simp only[ou,O1]at h;obtain⟨_,_,rfl,⟨k,rfl,_⟩,_,_,rfl,⟨i,rfl,_⟩,_,_,rfl,⟨p,rfl,_⟩,_,_,rfl,⟨n,rfl,_⟩,_,_,rfl,⟨d,rfl,_⟩,_,_,rfl,⟨a,rfl,_⟩,_,_,rfl,⟨b,rfl,_⟩,rfl⟩:=h;exact⟨⟨k,i,p,n,d,⟨a,b⟩⟩,rfl⟩
def aw3:∀xs,xS [cVo,aAj] xs->(ah afx).run xs λr=>r=.pv (.bool true):=λxs h=>by
 simp only[xS]at h;obtain⟨y,_,rfl,h1,_,u,_,rfl,_,h3,rfl⟩:=h;obtain⟨v,rfl⟩:=ajp (h1 trivial);have h3:=h3 trivial;simp only[ou]at h3;obtain⟨_,_,e3,h3,rfl⟩:=h3;cases e3;simp only[O1]at h3;obtain⟨aC,rfl,_,he⟩:=h3;obtain⟨l,rfl,_⟩:=awZ (g:=Sp.pv) (q:=λ_=>True) λz hz=>by
  obtain⟨a,ha⟩:=aw0 ((he z hz).1 trivial);exact⟨a,ha,trivial⟩
 exact⟨_,⟨v,.sl l,rfl,rfl⟩,rfl⟩
def aAt(h1:bU bb 273 (ah Pt))(h2:bU bb 309 (sB anV)):∀k,bU bb 303 (sB (aoh k)):=by
 intro k
 induction k with
 |zero=>
  refine⟨λe=>cz,λe=>cz,λ_ _ _ _ _ e=>cz,λ_ _ _ _ _ _ _ _ h=>(show False from h).elim,?_⟩;rintro w ok di σ0 eR xs vs K _ PD l9 ⟨ap,f,N,a,m,b,c,near,_,_,hp,_⟩;exfalso;omega
 |succ k ih=>
  exact nE.rJ mixed (aaB h1 (aaB h2 (aaB ih aq))) (by rintro _ _ _ ⟨_,_,_,_,_,_,_,_,rfl,_⟩;rfl) (apq k)
def dQ(lone:Bool)(R:List PV->RV->Prop):ajo (c8 lone R):=⟨λe=>cz,λ_ _ h=>h,rfl⟩
def apT:ajo BX:=by
 refine⟨λ_=>⟨rfl,λps K h=>?_⟩,λ_ _ h=>h,rfl⟩;obtain⟨a,b,rfl,h1,h2⟩:=h;by_cases ha:a=0
 ·exact⟨pI b,h2 ha,λK' h=>⟨a,b,rfl,λh'=>absurd ha h',λ_=>h⟩⟩
 ·exact⟨pI a,h1 ha,λK' h=>⟨a,b,rfl,λ_=>h,λh'=>absurd h' ha⟩⟩
def SN:MT (ay []) RZ (ah gB):=kS
def rQ:bU bb 293 (ah jj):=Qi.sound mixed aq (ax _) (by rintro _ _ ⟨_,⟨_,rfl,_⟩,_⟩;rfl) I0
def th:bU bb 276 (ah jj):=Wl.sound mixed (aaB rQ aq) (ax _) (by rintro _ _ ⟨_,⟨_,rfl,_⟩,_⟩;rfl) No
def fJ:bU bb 260 (ah rU):=Ul.sound mixed (aaB th aq) (ax _) (by rintro _ _ ⟨_,⟨_,rfl,_⟩,_⟩;rfl) Ki
def ja:bU bb 295 (ah fF):=Ov.sound mixed (aaB fJ aq) (ax _) (by rintro _ _ ⟨_,⟨_,rfl,_⟩,_⟩;rfl) Hr
def rP:bU bb 294 (ah jl):=Q7.sound mixed aq (ax _) (by rintro _ _ ⟨_,⟨_,_,_,rfl,_⟩,_⟩;rfl) IT
def eZ:bU bb 239 (ah l5):=Rh.sound mixed aq (ax _) (by rintro _ _ ⟨_,⟨_,_,rfl,_⟩,_⟩;rfl) IX
def kL:bU bb 238 (ah qZ):=Tz.sound mixed aq (ax _) (by rintro _ _ ⟨_,⟨_,rfl,_⟩,_⟩;rfl) JC
def ca:bU bb 263 (ah cm):=Sh.sound mixed aq (ax _) (by rintro _ _ ⟨_,⟨_,rfl,_⟩,_⟩;rfl) I5
def c7:bU bb 261 (ah dW):=WK.sound mixed (aaB ca aq) (ax _) (by rintro _ _ ⟨_,⟨_,rfl,_⟩,_⟩;rfl) MP
def gN:bU bb 307 (ah iS):=Kr.sound mixed (aaB ja aq) (ax _) (by rintro _ _ ⟨_,⟨_,_,rfl,_⟩,_⟩;rfl) Er
def nh:bU bb 308 (ah kY):=IK.sound mixed (aaB gN aq) (ax _) (by rintro _ _ ⟨_,⟨_,_,_,rfl,_⟩,_⟩;rfl) CI
def lr:bU bb 286 (ah mP):=Gc.sound mixed aq (ax _) (by rintro _ _ ⟨_,⟨_,_,rfl,_⟩,_⟩;rfl) Ah
def tA:bU bb 298 (ah afR):=VU.sound mixed aq (ax _) (by rintro _ _ ⟨_,⟨_,rfl,_⟩,_⟩;rfl) alL
def k7:bU bb 284 (ah amI):=VY.sound mixed (aaB tA aq) (ax _) (by rintro _ _ ⟨_,⟨_,_,rfl,_⟩,_⟩;rfl) amt
def yZ:bU bb 188 (sB ase):=IM.rJ mixed aq (by rintro _ _ _ ⟨_,rfl,_⟩;rfl) aqs
def sG:bU bb 282 (ah HG):=I6.sound mixed (aaB ca (aaB fJ (aaB tA aq))) (ax _) (by rintro _ _ ⟨_,⟨_,_,rfl,_⟩,_⟩;rfl) T8
def vD:bU bb 277 (ah wY):=MA.sound mixed (aaB ca (aaB eZ (aaB kL (aaB rP (aaB ja (aaB c7 aq)))))) (ax _) (by rintro _ _ ⟨_,⟨_,_,rfl,_⟩,_⟩;rfl) Zl
def q8:bU bb 262 oZ:=GU.sound mixed (aaB vD (aaB c7 aq)) (azL _ _) (by rintro _ _ ⟨_,rfl,_⟩;rfl) Qo
def vG:bU bb 241 tf:=M3.sound mixed (aaB ca aq) (azL _ _) (by rintro _ _ ⟨_,rfl,_⟩;rfl) Y2
def pF:bU bb 259 (ah P5):=Si.sound mixed aq (ax _) (by rintro _ _ ⟨_,⟨_,rfl,_⟩,_⟩;rfl) ae4
def Aq:bU bb 237 abr:=RH.sound mixed (aaB pF (aaB eZ aq)) (azL _ _) (by rintro _ _ ⟨_,_,rfl,_⟩;rfl) afO
def yC:bU bb 240 S4:=QZ.sound mixed (aaB fJ (aaB pF (aaB c7 (aaB q8 aq)))) (azL _ _) (by rintro _ _ ⟨_,rfl,_⟩;rfl) afI
def we:bU bb 97 (ah Xs):=Qc.sound mixed aq (ax _) (by rintro _ _ ⟨_,⟨_,rfl,_⟩,_⟩;rfl) akb
def mA:bU bb 242 (ah GS):=MR.sound mixed aq (ax _) (by rintro _ _ ⟨_,⟨_,rfl,_⟩,_⟩;rfl) YU
def uP:bU bb 170 (ah lz):=Iz.sound mixed aq (ax _) (by rintro _ _ ⟨_,⟨_,_,_,rfl,_⟩,_⟩;rfl) M7
def ej:bU bb 172 (ah jw):=Vz.sound mixed aq (ax _) (by rintro _ _ ⟨_,⟨_,_,rfl,_⟩,_⟩;rfl) Nc
def vS:bU bb 171 (ah ae6):=acL.sound mixed aq (ax _) (by rintro _ _ ⟨_,⟨_,rfl,_⟩,_⟩;rfl) amE
def nU:bU bb 125 (ah HN):=JV.sound mixed (aaB uP (aaB vS (aaB ej aq))) (ax _) (by rintro _ _ ⟨_,⟨_,_,rfl,_⟩,_⟩;rfl) PQ
def lq:bU bb 170 (bF bG):=Iz.sound mixed aq (b_ _) (by rintro _ _ ⟨_,⟨_,_,_,rfl,_⟩,_⟩;rfl) acU
def bw:bU bb 32 (bF bG):=DQ.sound mixed aq (b_ _) (by rintro _ _ ⟨_,⟨_,_,_,rfl,_⟩,_⟩;rfl) acX
def rZ:bU bb 175 (ah awJ):=Pr.sound mixed aq (ax _) (by rintro _ _ ⟨_,⟨_,_,_,rfl,_⟩,_⟩;rfl) as7
def wg:bU bb 173 afd:=acs.sound mixed (aaB nU aq) (azL _ _) (by rintro _ _ ⟨_,_,rfl,_⟩;rfl) alR
def ir:bU bb 290 (bF Af):=BK.sound mixed (aaB rZ aq) (b_ _) (by rintro _ _ ⟨_,⟨_,_,_,_,rfl,_⟩,_⟩;rfl) TS
def yz:bU bb 289 amN:=LK.sound mixed (aaB ir aq) (azL _ _) (by rintro _ _ ⟨_,_,_,rfl,_⟩;rfl) akQ
def kx:bU bb 271 FQ:=Ga.sound mixed (aaB yz (aaB ir aq)) (azL _ _) (by rintro _ _ ⟨_,_,_,rfl,_⟩;rfl) ade
def dN:bU bb 174 BX:=Yw.sound mixed aq apT (by rintro _ _ ⟨_,_,rfl,_⟩;rfl) agS
def tO:bU bb 126 XF:=X7.sound mixed (aaB wg (aaB dN (aaB ej (aaB lq (aaB rZ aq))))) (azL _ _) (by rintro _ _ ⟨_,_,_,rfl,_⟩;rfl) ahs
def Gl:bU bb 182 agu:=ZZ.sound mixed (aaB lq (aaB vS aq)) (azL _ _) (by rintro _ _ ⟨_,rfl,_⟩;rfl) aip
def vC:bU bb 201 JN:=Pg.sound mixed (aaB Gl aq) (azL _ _) (by rintro _ _ ⟨_,rfl,_⟩;rfl) V4
def s8:bU bb 227 Sn:=DK.sound mixed aq (azL _ _) (by rintro _ _ ⟨_,_,rfl,_⟩;rfl) agM
def ua:bU bb 195 ah2:=Ac.sound mixed (aaB s8 aq) (azL _ _) (by rintro _ _ ⟨_,_,rfl,_⟩;rfl) VP
def En:bU bb 181 (ah afu):=VK.sound mixed aq (ax _) (by rintro _ _ ⟨_,⟨_,rfl,_⟩,_⟩;rfl) ahJ
def yA:bU bb 128 (ah Ts):=Q_.sound mixed (aaB En aq) (ax _) (by rintro _ _ ⟨_,⟨_,_,rfl,_⟩,_⟩;rfl) adf
def Pj:bU bb 274 (ah aB_):=afq.sound mixed aq (ax _) (by rintro _ _ ⟨_,⟨_,rfl,_⟩,_⟩;rfl) ar9
def vZ:bU bb 275 (ah afn):=adp.sound mixed aq (ax _) (by rintro _ _ ⟨_,⟨_,_,rfl,_⟩,_⟩;rfl) amx
def jE:bU bb 273 (ah Pt):=KN.sound mixed (aaB Pj (aaB yA (aaB vZ aq))) (ax _) (by rintro _ _ ⟨_,⟨_,_,_,_,rfl,_⟩,_⟩;rfl) ak8
def jV:bU bb 310 (sB akV):=nw.rJ mixed aq (by rintro _ _ _ ⟨_,_,_,_,_,_,_,_,rfl,_⟩;rfl) al5
def lp:bU bb 309 (sB anV):=oL.rJ mixed (aaB jV aq) (by rintro _ _ _ ⟨_,_,_,_,_,_,_,_,rfl,_⟩;rfl) ap8
def jg:bU bb 302 (sB ats):=lx.rJ mixed (aaB jE aq) (by rintro _ _ _ ⟨_,_,_,_,_,_,_,rfl,_⟩;rfl) apR
def z7:bU bb 269 My:=Uy.sound mixed (aaB wg (aaB dN (aaB ej (aaB lq aq)))) (azL _ _) (by rintro _ _ ⟨_,_,_,_,rfl,_⟩;rfl) acD
def fG:bU bb 301 (bF FZ):=Gh.sound mixed aq (b_ _) (by rintro _ _ ⟨_,⟨_,_,rfl,_⟩,_⟩;rfl) adq
def fD:bU bb 147 aaU:=iO.sound mixed (aaB fG aq) (azL _ _) (by rintro _ _ ⟨_,_,rfl,_⟩;rfl) afY
def fB:bU bb 108 (sB abe):=iL.rJ mixed (aaB fD (aaB fG aq)) (by rintro _ _ _ ⟨_,_,_,rfl,_⟩;rfl) agA
def y7:bU bb 288 amb:=K8.sound mixed (aaB kx (aaB fB (aaB fG aq))) (azL _ _) (by rintro _ _ ⟨_,_,_,rfl,_⟩;rfl) akS
def yu:bU bb 270 ae0:=LH.sound mixed (aaB y7 (aaB vZ aq)) (azL _ _) (by rintro _ _ ⟨_,_,_,_,rfl,_⟩;rfl) amJ
def kB:bU bb 148 (ah gB):=QM.sound mixed aq (ax _) (by rintro _ _ ⟨_,⟨_,rfl,_⟩,_⟩;rfl) kS
def Hz:bU bb 243 (ah gB):=adw.sound mixed aq (ax _) (by rintro _ _ ⟨_,⟨_,rfl,_⟩,_⟩;rfl) Qv
def fA:bU bb 149 (ah dG):=OP.sound mixed aq (ax _) (by rintro _ _ ⟨_,⟨_,_,rfl,_⟩,_⟩;rfl) jP
def D9:bU bb 244 (ah dG):=ZC.sound mixed aq (ax _) (by rintro _ _ ⟨_,⟨_,_,rfl,_⟩,_⟩;rfl) OQ
def jo:bU bb 229 (ah dG):=ac9.sound mixed aq (ax _) (by rintro _ _ ⟨_,⟨_,_,rfl,_⟩,_⟩;rfl) RG
def oK:bU bb 152 (bF bG):=OM.sound mixed aq (b_ _) (by rintro _ _ ⟨_,⟨_,_,_,rfl,_⟩,_⟩;rfl) uL
def nr:bU bb 230 (bF bG):=acA.sound mixed aq (b_ _) (by rintro _ _ ⟨_,⟨_,_,_,rfl,_⟩,_⟩;rfl) Sd
def fT:bU bb 233 (bF BJ):=acP.sound mixed aq (b_ _) (by rintro _ _ ⟨_,⟨_,rfl,_⟩,_⟩;rfl) ae1
def Ae:bU bb 246 (ah Ph):=Wh.sound mixed (aaB fT (aaB nr (aaB jo aq))) (ax _) (by rintro _ _ ⟨_,⟨_,rfl,_⟩,_⟩;rfl) Yf
def vV:bU bb 247 (bF Ab):=agd.sound mixed (aaB fT aq) (b_ _) (by rintro _ _ ⟨_,⟨_,_,rfl,_⟩,_⟩;rfl) akf
def sE:bU bb 248 (sB ag6):=Th.rJ mixed (aaB fT aq) (by rintro _ _ _ ⟨_,_,_,rfl,_⟩;rfl) al1
def jr:bU bb 197 (ah iu):=ac8.sound mixed aq (ax _) (by rintro _ _ ⟨_,⟨_,rfl,_⟩,_⟩;rfl) agW
def tE:bU bb 208 (c8 true aae):=TO.sound mixed (aaB Ae (aaB vV (aaB sE (aaB jr (aaB jo aq))))) (dQ _ _) (by rintro _ _ ⟨_,⟨_,rfl,_⟩,_⟩;rfl) Wc
def vk:bU bb 83 (bF YX):=alj.sound mixed aq (b_ _) (by rintro _ _ ⟨_,⟨_,_,rfl,_⟩,_⟩;rfl) aqO
def FP:bU bb 249 (ah aaw):=acK.sound mixed (aaB nr aq) (ax _) (by rintro _ _ ⟨_,⟨_,rfl,_⟩,_⟩;rfl) afr
def FM:bU bb 250 (c8 true Z0):=adl.sound mixed aq (dQ _ _) (by rintro _ _ ⟨_,⟨_,_,rfl,_⟩,_⟩;rfl) agJ
def lu:bU bb 196 (ah wB):=aaM.sound mixed (aaB tE aq) (ax _) (by rintro _ _ ⟨_,⟨_,rfl,_⟩,_⟩;rfl) ac2
def vL:bU bb 210 (c8 true G7):=QA.sound mixed (aaB lu (aaB fT (aaB FP (aaB FM aq)))) (dQ _ _) (by rintro _ _ ⟨_,⟨_,rfl,_⟩,_⟩;rfl) Uu
def nF:bU bb 281 (bF AM):=uY.sound mixed aq (b_ _) (by rintro _ _ ⟨_,⟨_,_,rfl,_⟩,_⟩;rfl) Uk
def wF:bU bb 266 (bF AM):=MN.sound mixed (aaB nF aq) (b_ _) (by rintro _ _ ⟨_,⟨_,_,rfl,_⟩,_⟩;rfl) Wt
def ka:bU bb 209 (ah xr):=Js.sound mixed aq (ax _) (by rintro _ _ ⟨_,⟨_,rfl,_⟩,_⟩;rfl) Ro
def tU:bU bb 153 (ah E9):=EF.sound mixed (aaB fA (aaB kB aq)) (ax _) (by rintro _ _ ⟨_,⟨_,rfl,_⟩,_⟩;rfl) afP
def FN:bU bb 213 (sB agl):=Wz.rJ mixed aq (by rintro _ _ _ ⟨_,_,_,_,rfl,_⟩;rfl) als
def Ai:bU bb 211 (ah Tj):=TG.sound mixed aq (ax _) (by rintro _ _ ⟨_,⟨_,_,rfl,_⟩,_⟩;rfl) acG
def wN:bU bb 212 (ah Uo):=MJ.sound mixed aq (ax _) (by rintro _ _ ⟨_,⟨_,_,rfl,_⟩,_⟩;rfl) adm
def Ak:bU bb 155 (ah Tp):=MZ.sound mixed (aaB vL (aaB Ai (aaB wN (aaB FN (aaB ka aq))))) (ax _) (by rintro _ _ ⟨_,⟨_,rfl,_⟩,_⟩;rfl) ac6
def bY:bU bb 111 (ah gB):=agP.sound mixed aq (ax _) (by rintro _ _ ⟨_,⟨_,rfl,_⟩,_⟩;rfl) Pc
def bL:bU bb 113 (ah dG):=VM.sound mixed aq (ax _) (by rintro _ _ ⟨_,⟨_,_,rfl,_⟩,_⟩;rfl) MW
def ri:bU bb 193 (bF bG):=VT.sound mixed aq (b_ _) (by rintro _ _ ⟨_,⟨_,_,_,rfl,_⟩,_⟩;rfl) MU
def dw:bU bb 115 (bF GM):=VF.sound mixed aq (b_ _) (by rintro _ _ ⟨_,⟨_,rfl,_⟩,_⟩;rfl) ML
def d_:bU bb 124 (ah bA):=MV.sound mixed aq (ax _) (by rintro _ _ ⟨_,⟨_,rfl,_⟩,_⟩;rfl) Gg
def rm:bU bb 218 (ah K4):=WM.sound mixed aq (ax _) (by rintro _ _ ⟨_,⟨_,_,rfl,_⟩,_⟩;rfl) Nf
def fh:bU bb 156 (bF wR):=Qq.sound mixed (aaB ri aq) (b_ _) (by rintro _ _ ⟨_,⟨_,rfl,_⟩,_⟩;rfl) IW
def kz:bU bb 220 (bF K7):=Eh.sound mixed aq (b_ _) (by rintro _ _ ⟨_,⟨_,rfl,_⟩,_⟩;rfl) IV
def cS:bU bb 179 (bF oA):=yF.sound mixed aq (b_ _) (by rintro _ _ ⟨_,⟨_,rfl,_⟩,_⟩;rfl) CC
def fI:bU bb 143 (ah AN):=Fk.sound mixed aq (ax _) (by rintro _ _ ⟨_,⟨_,_,rfl,_⟩,_⟩;rfl) JG
def lS:bU bb 204 (ah QP):=HP.sound mixed (aaB fI aq) (ax _) (by rintro _ _ ⟨_,⟨_,_,rfl,_⟩,_⟩;rfl) MB
def lf:bU bb 194 (ah Uc):=acJ.sound mixed (aaB dw aq) (ax _) (by rintro _ _ ⟨_,⟨_,rfl,_⟩,_⟩;rfl) Rp
def gz:bU bb 161 (bF adT):=MO.sound mixed (aaB dw aq) (b_ _) (by rintro _ _ ⟨_,⟨_,_,rfl,_⟩,_⟩;rfl) Tu
def qA:bU bb 163 (ah anj):=Nr.sound mixed aq (ax _) (by rintro _ _ ⟨_,⟨_,rfl,_⟩,_⟩;rfl) TX
def mR:bU bb 159 (ah WX):=IJ.sound mixed aq (ax _) (by rintro _ _ ⟨_,⟨_,rfl,_⟩,_⟩;rfl) OF
def lR:bU bb 162 (bF Mb):=IP.sound mixed aq (b_ _) (by rintro _ _ ⟨_,⟨_,_,_,rfl,_⟩,_⟩;rfl) Kn
def wA:bU bb 169 (bF aaO):=Kz.sound mixed aq (b_ _) (by rintro _ _ ⟨_,⟨_,_,_,_,rfl,_⟩,_⟩;rfl) M0
def jb:bU bb 114 (c8 false dL):=QY.sound mixed aq (dQ _ _) (by rintro _ _ ⟨_,⟨_,rfl,_⟩,_⟩;rfl) IQ
def CA:bU bb 216 (c8 true aaA):=VH.sound mixed (aaB dw aq) (dQ _ _) (by rintro _ _ ⟨_,⟨_,rfl,_⟩,_⟩;rfl) Nl
def lN:bU bb 219 (ah Sx):=GF.sound mixed aq (ax _) (by rintro _ _ ⟨_,⟨_,_,rfl,_⟩,_⟩;rfl) agq
def qh:bU bb 252 (bF Ku):=CG.sound mixed (aaB lN aq) (b_ _) (by rintro _ _ ⟨_,⟨_,_,rfl,_⟩,_⟩;rfl) VQ
def fV:bU bb 217 (bF uy):=yM.sound mixed aq (b_ _) (by rintro _ _ ⟨_,⟨_,_,rfl,_⟩,_⟩;rfl) Pp
def qX:bU bb 133 (ah Tm):=Cq.sound mixed (aaB fV aq) (ax _) (by rintro _ _ ⟨_,⟨_,_,rfl,_⟩,_⟩;rfl) adk
def nH:bU bb 88 (bF Hj):=ya.sound mixed (aaB qX aq) (b_ _) (by rintro _ _ ⟨_,⟨_,_,rfl,_⟩,_⟩;rfl) SU
def jn:bU bb 142 (c8 true xj):=Zs.sound mixed (aaB d_ (aaB tO aq)) (dQ _ _) (by rintro _ _ ⟨_,⟨_,rfl,_⟩,_⟩;rfl) ajH
def jt:bU bb 144 (ah Mn):=aa6.sound mixed (aaB vC aq) (ax _) (by rintro _ _ ⟨_,⟨_,rfl,_⟩,_⟩;rfl) ajC
def qC:bU bb 177 (ah Lb):=CD.sound mixed (aaB d_ (aaB nH (aaB fV (aaB dw (aaB tO aq))))) (ax _) (by rintro _ _ ⟨_,⟨_,rfl,_⟩,_⟩;rfl) V_
def mq:bU bb 67 (ah dm):=Pw.sound mixed (aaB bL (aaB d_ (aaB nU (aaB bY aq)))) (ax _) (by rintro _ _ ⟨_,⟨_,rfl,_⟩,_⟩;rfl) Wy
def gM:bU bb 166 (ah Fj):=Hn.sound mixed aq (ax _) (by rintro _ _ ⟨_,⟨_,_,rfl,_⟩,_⟩;rfl) ae8
def CU:bU bb 160 (bF ayd):=MD.sound mixed (aaB gz (aaB lR (aaB qA aq))) (b_ _) (by rintro _ _ ⟨_,⟨_,_,_,_,rfl,_⟩,_⟩;rfl) arI
def CJ:bU bb 164 (bF aw5):=M1.sound mixed (aaB gz (aaB lR (aaB qA aq))) (b_ _) (by rintro _ _ ⟨_,⟨_,_,rfl,_⟩,_⟩;rfl) asD
def Ec:bU bb 168 (bF axY):=OY.sound mixed (aaB gz (aaB wA aq)) (b_ _) (by rintro _ _ ⟨_,⟨_,_,_,_,_,rfl,_⟩,_⟩;rfl) arR
def gC:bU bb 135 (c8 true YI):=jS.sound mixed aq (dQ _ _) (by rintro _ _ ⟨_,⟨_,rfl,_⟩,_⟩;rfl) aga
def eP:bU bb 195 (bF Ji):=Ac.sound mixed (aaB s8 aq) (b_ _) (by rintro _ _ ⟨_,⟨_,_,rfl,_⟩,_⟩;rfl) T6
def sY:bU bb 140 (ah Mk):=EH.sound mixed (aaB d_ (aaB ri (aaB bL (aaB bY (aaB jn (aaB lf (aaB eP aq))))))) (ax _) (by rintro _ _ ⟨_,⟨_,_,_,rfl,_⟩,_⟩;rfl) acp
def GA:bU bb 256 (sB arH):=Wn.rJ mixed (aaB vV aq) (by rintro _ _ _ ⟨_,_,rfl,_⟩;rfl) aqm
def y6:bU bb 231 (sB abp):=Pu.rJ mixed (aaB GA aq) (by rintro _ _ _ ⟨_,_,_,rfl,_⟩;rfl) agx
def Nn:bU bb 200 (c8 true YT):=ail.sound mixed (aaB fT aq) (dQ _ _) (by rintro _ _ ⟨_,⟨_,_,_,rfl,_⟩,_⟩;rfl) alA
def yp:bU bb 116 (c8 true Hv):=VZ.sound mixed aq (dQ _ _) (by rintro _ _ ⟨_,⟨_,rfl,_⟩,_⟩;rfl) Tv
def bo:bU bb 55 (c8 false dK):=Jn.sound mixed (aaB yp aq) (dQ _ _) (by rintro _ _ ⟨_,⟨_,rfl,_⟩,_⟩;rfl) acO
def nN:bU bb 18 (bF jW):=V8.sound mixed aq (b_ _) (by rintro _ _ ⟨_,⟨_,_,rfl,_⟩,_⟩;rfl) T0
def jy:bU bb 66 (ah gB):=ahj.sound mixed aq (ax _) (by rintro _ _ ⟨_,⟨_,rfl,_⟩,_⟩;rfl) Y1
def dj:bU bb 68 (ah dG):=agB.sound mixed aq (ax _) (by rintro _ _ ⟨_,⟨_,_,rfl,_⟩,_⟩;rfl) YD
def dT:bU bb 92 (bF bG):=af0.sound mixed aq (b_ _) (by rintro _ _ ⟨_,⟨_,_,_,rfl,_⟩,_⟩;rfl) YM
def fU:bU bb 86 (ah bA):=acy.sound mixed aq (ax _) (by rintro _ _ ⟨_,⟨_,rfl,_⟩,_⟩;rfl) SM
def AA:bU bb 69 (c8 true UL):=aj1.sound mixed (aaB fU (aaB tO aq)) (dQ _ _) (by rintro _ _ ⟨_,⟨_,rfl,_⟩,_⟩;rfl) ac3
def y5:bU bb 73 (sB afc):=ahn.rJ mixed aq (by rintro _ _ _ ⟨_,_,_,rfl,_⟩;rfl) amG
def oy:bU bb 75 (c8 true HB):=Q5.sound mixed (aaB AA (aaB y5 aq)) (dQ _ _) (by rintro _ _ ⟨_,⟨_,rfl,_⟩,_⟩;rfl) ajZ
def Vg:bU bb 78 (ah ajs):=anc.sound mixed aq (ax _) (by rintro _ _ ⟨_,⟨_,rfl,_⟩,_⟩;rfl) aoW
def pg:bU bb 64 (c8 true H7):=QO.sound mixed aq (dQ _ _) (by rintro _ _ ⟨_,⟨_,_,_,rfl,_⟩,_⟩;rfl) afX
def yY:bU bb 77 (bF amX):=acz.sound mixed aq (b_ _) (by rintro _ _ ⟨_,⟨_,rfl,_⟩,_⟩;rfl) agR
def D1:bU bb 103 (bF ajL):=SK.sound mixed (aaB dT aq) (b_ _) (by rintro _ _ ⟨_,⟨_,_,rfl,_⟩,_⟩;rfl) XI
def DU:bU bb 76 (c8 true aeM):=VX.sound mixed (aaB oy (aaB yY (aaB D1 aq))) (dQ _ _) (by rintro _ _ ⟨_,⟨_,_,_,rfl,_⟩,_⟩;rfl) akP
def bx:bU bb 134 (c8 false Np):=iH.sound mixed aq (dQ _ _) (by rintro _ _ ⟨_,⟨_,rfl,_⟩,_⟩;rfl) ajh
def mQ:bU bb 100 (c8 false GC):=VD.sound mixed (aaB bx aq) (dQ _ _) (by rintro _ _ ⟨_,⟨_,_,_,_,rfl,_⟩,_⟩;rfl) amd
def iQ:bU bb 90 (c8 false Ks):=Xz.sound mixed (aaB bx (aaB gC aq)) (dQ _ _) (by rintro _ _ ⟨_,⟨_,rfl,_⟩,_⟩;rfl) aoy
def vT:bU bb 118 (ah ald):=V0.sound mixed (aaB dT (aaB dj aq)) (ax _) (by rintro _ _ ⟨_,⟨_,_,rfl,_⟩,_⟩;rfl) arh
def pP:bU bb 117 (c8 false aeD):=wC.sound mixed (aaB vT aq) (dQ _ _) (by rintro _ _ ⟨_,⟨_,rfl,_⟩,_⟩;rfl) akY
def sJ:bU bb 53 (c8 true BU):=aj2.sound mixed aq (dQ _ _) (by rintro _ _ ⟨_,⟨_,rfl,_⟩,_⟩;rfl) akp
def Pq:bU bb 81 (ah aeN):=ahe.sound mixed (aaB sJ (aaB vk aq)) (ax _) (by rintro _ _ ⟨_,⟨_,rfl,_⟩,_⟩;rfl) alF
def Q6:bU bb 46 (bF aeY):=akr.sound mixed aq (b_ _) (by rintro _ _ ⟨_,⟨_,_,rfl,_⟩,_⟩;rfl) amT
def zV:bU bb 65 (c8 false aa7):=QD.sound mixed (aaB bo aq) (dQ _ _) (by rintro _ _ ⟨_,⟨_,rfl,_⟩,_⟩;rfl) aky
def eO:bU bb 15 (c8 false qM):=aj6.sound mixed (aaB zV aq) (dQ _ _) (by rintro _ _ ⟨_,⟨_,rfl,_⟩,_⟩;rfl) alu
def GI:bU bb 59 (c8 true ab9):=abS.sound mixed aq (dQ _ _) (by rintro _ _ ⟨_,⟨_,rfl,_⟩,_⟩;rfl) akF
def vv:bU bb 183 (sB aps):=VC.rJ mixed aq (by rintro _ _ _ ⟨_,_,_,_,_,rfl,_⟩;rfl) arj
def G0:bU bb 130 adt:=ac7.sound mixed (aaB wg (aaB Gl (aaB rZ (aaB vv aq)))) (azL _ _) (by rintro _ _ ⟨_,_,_,rfl,_⟩;rfl) ag2
def yS:bU bb 80 (ah alV):=acw.sound mixed (aaB yA aq) (ax _) (by rintro _ _ ⟨_,⟨_,_,rfl,_⟩,_⟩;rfl) aq_
def iK:bU bb 79 aoV:=mC.sound mixed (aaB yS aq) (azL _ _) (by rintro _ _ ⟨_,_,rfl,_⟩;rfl) ao1
def sR:bU bb 13 (bF Wr):=amU.sound mixed aq (b_ _) (by rintro _ _ ⟨_,⟨_,rfl,_⟩,_⟩;rfl) aqF
def xK:bU bb 226 XZ:=Ni.sound mixed (aaB lq (aaB ua aq)) (azL _ _) (by rintro _ _ ⟨_,_,_,rfl,_⟩;rfl) agy
def GQ:bU bb 190 (sB aov):=Wf.rJ mixed (aaB xK (aaB rZ (aaB vv aq))) (by rintro _ _ _ ⟨_,_,_,_,_,rfl,_⟩;rfl) aoG
def Dp:bU bb 136 Ye:=acn.sound mixed (aaB wg (aaB GQ aq)) (azL _ _) (by rintro _ _ ⟨_,_,_,_,rfl,_⟩;rfl) agw
def Hf:bU bb 93 (c8 true Pf):=ad7.sound mixed (aaB Dp aq) (dQ _ _) (by rintro _ _ ⟨_,⟨_,_,_,rfl,_⟩,_⟩;rfl) ag1
def Oa:bU bb 62 (c8 false akG):=afS.sound mixed (aaB we aq) (dQ _ _) (by rintro _ _ ⟨_,⟨rfl,_⟩,_⟩;rfl) an0
def Bz:bU bb 57 (bF TV):=X4.sound mixed aq (b_ _) (by rintro _ _ ⟨_,⟨_,rfl,_⟩,_⟩;rfl) ahp
def KR:bU bb 60 (ah akI):=adz.sound mixed (aaB bw aq) (ax _) (by rintro _ _ ⟨_,⟨_,rfl,_⟩,_⟩;rfl) aot
def vU:bU bb 228 (ah gB):=afb.sound mixed aq (ax _) (by rintro _ _ ⟨_,⟨_,rfl,_⟩,_⟩;rfl) SN
def ey:bU bb 306 yg:=agN (aaB gN (aaB nh aq))
def pQ:bU bb 131 (ah Lo):=aqk
def iq:bU bb 224 (sB C4):=af2
def td:bU bb 189 (sB ZR):=aqS
def mH:bU bb 297 (ah qc):=af6
def jJ:bU bb 258 L7:=alX aq
def kn:bU bb 303 (sB ae_):=aAt jE lp 100000
def qk:bU bb 206 (c8 true Xi):=aus
def vB:bU bb 235 aeV:=Hi.sound mixed (aaB jJ aq) (azL _ _) (by rintro _ _ ⟨_,rfl,_⟩;rfl) ahK
def tX:bU bb 257 auV:=Bs.sound mixed (aaB jJ aq) (azL _ _) (by rintro _ _ ⟨_,rfl,_⟩;rfl) VJ
def vM:bU bb 234 Ti:=Km.sound mixed (aaB tX aq) (azL _ _) (by rintro _ _ ⟨_,rfl,_⟩;rfl) acY
def kJ:bU bb 300 Mu:=EO.sound mixed (aaB ey aq) (azL _ _) (by rintro _ _ ⟨_,_,rfl,_⟩;rfl) acI
def rB:bU bb 305 (ah O4):=DS.sound mixed (aaB kJ (aaB ey aq)) (ax _) (by rintro _ _ ⟨_,⟨_,_,rfl,_⟩,_⟩;rfl) Zb
def sZ:bU bb 287 (ah T2):=EU.sound mixed (aaB kJ (aaB ey aq)) (ax _) (by rintro _ _ ⟨_,⟨_,_,_,rfl,_⟩,_⟩;rfl) acM
def yQ:bU bb 299 (ah ak1):=J6.sound mixed (aaB rB aq) (ax _) (by rintro _ _ ⟨_,⟨_,_,_,rfl,_⟩,_⟩;rfl) alW
def wG:bU bb 285 aff:=IN.sound mixed (aaB yQ aq) (azL _ _) (by rintro _ _ ⟨_,rfl,_⟩;rfl) akd
def sU:bU bb 268 Um:=Ez.sound mixed (aaB wG (aaB lr (aaB sZ (aaB c7 aq)))) (azL _ _) (by rintro _ _ ⟨_,rfl,_⟩;rfl) ac1
def pn:bU bb 283 (sB J0):=Ap.rJ mixed (aaB iq aq) (by rintro _ _ _ ⟨_,rfl,_⟩;rfl) Wg
def m_:bU bb 187 (sB DT):=yq.rJ mixed (aaB iq aq) (by rintro _ _ _ ⟨_,rfl,_⟩;rfl) PW
def CH:bU bb 267 afy:=S5.sound mixed (aaB ca (aaB sG (aaB c7 (aaB pn (aaB m_ (aaB yZ (aaB td (aaB k7 aq)))))))) (azL _ _) (by rintro _ _ ⟨_,rfl,_⟩;rfl) ahS
def rj:bU bb 236 (ah Xj):=TY.sound mixed (aaB pQ aq) (ax _) (by rintro _ _ ⟨_,⟨_,rfl,_⟩,_⟩;rfl) aiO
def vK:bU bb 251 Hp:=MS.sound mixed (aaB rj (aaB sU (aaB CH (aaB mA aq)))) (azL _ _) (by rintro _ _ ⟨_,rfl,_⟩;rfl) aag
def mB:bU bb 203 By:=I4.sound mixed (aaB rj (aaB Aq (aaB eZ (aaB kL (aaB yC (aaB vG (aaB mA aq))))))) (azL _ _) (by rintro _ _ ⟨_,rfl,_⟩;rfl) To
def ll:bU bb 291 (sB arM):=oJ.rJ mixed (aaB jg (aaB kn aq)) (by rintro _ _ _ ⟨_,_,_,_,_,rfl,_⟩;rfl) aqN
def eW:bU bb 272 (sB QR):=gU.rJ mixed (aaB ll aq) (by rintro _ _ _ ⟨_,_,_,_,rfl,_⟩;rfl) afN
def wO:bU bb 253 K3:=R1.sound mixed (aaB z7 (aaB yu (aaB kx (aaB eW (aaB jE (aaB dN (aaB ej aq))))))) (azL _ _) (by rintro _ _ ⟨_,_,_,_,rfl,_⟩;rfl) V2
def uO:bU bb 280 (ah qc):=MC.sound mixed (aaB mH aq) (ax _) (by rintro _ _ ⟨_,⟨_,_,rfl,_⟩,_⟩;rfl) Wb
def zi:bU bb 265 (bF L8):=Nk.sound mixed (aaB uO aq) (b_ _) (by rintro _ _ ⟨_,⟨_,rfl,_⟩,_⟩;rfl) RU
def vN:bU bb 279 (bF O9):=M6.sound mixed (aaB zi aq) (b_ _) (by rintro _ _ ⟨_,⟨_,rfl,_⟩,_⟩;rfl) RS
def oh:bU bb 296 (ah HK):=zj.sound mixed (aaB vN aq) (ax _) (by rintro _ _ ⟨_,⟨_,rfl,_⟩,_⟩;rfl) Un
def lv:bU bb 278 (bF yH):=vI.sound mixed (aaB oh aq) (b_ _) (by rintro _ _ ⟨_,⟨_,rfl,_⟩,_⟩;rfl) Nq
def yv:bU bb 264 (bF OW):=S9.sound mixed (aaB lv aq) (b_ _) (by rintro _ _ ⟨_,⟨_,rfl,_⟩,_⟩;rfl) ZY
def B9:bU bb 245 (bF Uw):=V3.sound mixed (aaB yv (aaB wF aq)) (b_ _) (by rintro _ _ ⟨_,⟨_,rfl,_⟩,_⟩;rfl) adg
def B0:bU bb 207 (ah LY):=Sg.sound mixed (aaB D9 (aaB B9 (aaB Hz aq))) (ax _) (by rintro _ _ ⟨_,⟨_,rfl,_⟩,_⟩;rfl) VR
def yD:bU bb 150 (bF EV):=O8.sound mixed (aaB qk aq) (b_ _) (by rintro _ _ ⟨_,⟨_,rfl,_⟩,_⟩;rfl) ae5
def vJ:bU bb 151 (ah Ps):=MX.sound mixed (aaB B0 (aaB fA aq)) (ax _) (by rintro _ _ ⟨_,⟨_,rfl,_⟩,_⟩;rfl) Z7
def wm:bU bb 154 (ah Fa):=KZ.sound mixed (aaB qk (aaB fA (aaB kB (aaB oK (aaB tE (aaB ka aq)))))) (ax _) (by rintro _ _ ⟨_,⟨_,rfl,_⟩,_⟩;rfl) afi
def dO:bU bb 112 (ah nC):=Bp.sound mixed (aaB yD (aaB fA (aaB vJ (aaB oK (aaB kB (aaB tU (aaB wm (aaB Ak aq)))))))) (ax _) (by rintro _ _ ⟨_,⟨_,rfl,_⟩,_⟩;rfl) JJ
def iI:bU bb 165 (ah EI):=Zn.sound mixed (aaB pQ aq) (ax _) (by rintro _ _ ⟨_,⟨_,rfl,_⟩,_⟩;rfl) zQ
def ij:bU bb 157 (ah Bf):=WH.sound mixed (aaB iI aq) (ax _) (by rintro _ _ ⟨_,⟨_,_,rfl,_⟩,_⟩;rfl) Na
def iB:bU bb 202 P8:=IL.sound mixed (aaB vB (aaB vM aq)) (azL _ _) (by rintro _ _ ⟨_,rfl,_⟩;rfl) aiX
def wS:bU bb 205 (ah agE):=IS.sound mixed (aaB ij aq) (ax _) (by rintro _ _ ⟨_,⟨_,_,rfl,_⟩,_⟩;rfl) ahL
def cw:bU bb 145 (ah tN):=Fx.sound mixed (aaB cS (aaB iB (aaB lS (aaB mB (aaB wS (aaB iI (aaB fI aq))))))) (ax _) (by rintro _ _ ⟨_,⟨_,rfl,_⟩,_⟩;rfl) acW
def rN:bU bb 178 (ah OX):=Ei.sound mixed (aaB lf (aaB cS (aaB rm (aaB iB (aaB lN (aaB kz (aaB bL aq))))))) (ax _) (by rintro _ _ ⟨_,⟨_,rfl,_⟩,_⟩;rfl) abw
def mw:bU bb 176 (ah Dy):=OK.sound mixed (aaB dO (aaB bL (aaB bY aq))) (ax _) (by rintro _ _ ⟨_,⟨_,rfl,_⟩,_⟩;rfl) VO
def rA:bU bb 180 (ah OG):=DR.sound mixed (aaB iB (aaB lS (aaB mB (aaB lf (aaB iI aq))))) (ax _) (by rintro _ _ ⟨_,⟨_,rfl,_⟩,_⟩;rfl) abH
def cY:bU bb 127 xt:=acu.sound mixed (aaB mq (aaB mw (aaB bY (aaB jb (aaB qC (aaB rN (aaB cS (aaB rA aq)))))))) (azL _ _) (by rintro _ _ ⟨_,_,rfl,_⟩;rfl) ajq
def sf:bU bb 72 (ah tQ):=Kp.sound mixed (aaB cY aq) (ax _) (by rintro _ _ ⟨_,⟨_,_,rfl,_⟩,_⟩;rfl) Q4
def gZ:bU bb 102 (c8 true fi):=Pe.sound mixed (aaB cY (aaB cw aq)) (dQ _ _) (by rintro _ _ ⟨_,⟨_,_,rfl,_⟩,_⟩;rfl) VN
def rr:bU bb 120 (c8 true oN):=VS.sound mixed (aaB cY (aaB fh (aaB bL (aaB bY (aaB cw aq))))) (dQ _ _) (by rintro _ _ ⟨_,⟨_,_,_,_,rfl,_⟩,_⟩;rfl) afM
def uz:bU bb 214 (c8 true RC):=He.sound mixed (aaB cS (aaB ij (aaB vK (aaB rm (aaB kz (aaB CU (aaB CJ (aaB Ec aq)))))))) (dQ _ _) (by rintro _ _ ⟨_,⟨_,_,_,_,_,rfl,_⟩,_⟩;rfl) agp
def u_:bU bb 215 (sB Zp):=Hw.rJ mixed (aaB gz (aaB dw (aaB qh (aaB jt (aaB wO (aaB jb aq)))))) (by rintro _ _ _ ⟨_,_,_,_,rfl,_⟩;rfl) agC
def oM:bU bb 167 (c8 false T_):=K_.sound mixed (aaB uz (aaB jn (aaB u_ (aaB CA (aaB lf (aaB dO (aaB jt aq))))))) (dQ _ _) (by rintro _ _ ⟨_,⟨_,_,_,_,_,rfl,_⟩,_⟩;rfl) ak9
def kH:bU bb 158 (c8 false Ay):=FU.sound mixed (aaB gM (aaB oM aq)) (dQ _ _) (by rintro _ _ ⟨_,⟨_,_,_,_,_,rfl,_⟩,_⟩;rfl) ack
def aaC:bU bb 121 (c8 false fm):=Tr.sound mixed (aaB cY (aaB fh (aaB bL (aaB bY (aaB gC (aaB cw (aaB ij (aaB mR (aaB kH aq))))))))) (dQ _ _) (by rintro _ _ ⟨_,⟨_,_,_,_,rfl,_⟩,_⟩;rfl) adi
def gk:bU bb 122 (c8 false ko):=Us.sound mixed (aaB cY (aaB fh (aaB bL (aaB bY (aaB cw (aaB ij (aaB mR (aaB kH aq)))))))) (dQ _ _) (by rintro _ _ ⟨_,⟨_,_,_,rfl,_⟩,_⟩;rfl) V6
def CR:bU bb 123 (c8 false Ss):=WL.sound mixed (aaB cY (aaB fh (aaB bL (aaB bY (aaB cw (aaB iI (aaB gM (aaB oM aq)))))))) (dQ _ _) (by rintro _ _ ⟨_,⟨_,_,_,_,rfl,_⟩,_⟩;rfl) Zw
def El:bU bb 232 (sB ak4):=SW.rJ mixed (aaB sE (aaB jo (aaB jr (aaB vU aq)))) (by rintro _ _ _ ⟨_,rfl,_⟩;rfl) al3
def Kg:bU bb 199 (c8 true Xb):=aiQ.sound mixed (aaB y6 (aaB El aq)) (dQ _ _) (by rintro _ _ ⟨_,⟨_,rfl,_⟩,_⟩;rfl) ai7
def ym:bU bb 198 (ah Dz):=Ud.sound mixed (aaB lu (aaB nr (aaB jo (aaB jr (aaB vU aq))))) (ax _) (by rintro _ _ ⟨_,⟨_,_,_,rfl,_⟩,_⟩;rfl) VV
def Ad:bU bb 141 (c8 true Hs):=VE.sound mixed (aaB lu (aaB jr (aaB ym (aaB Nn (aaB Kg aq))))) (dQ _ _) (by rintro _ _ ⟨_,⟨_,_,_,rfl,_⟩,_⟩;rfl) aao
def EY:bU bb 101 (c8 false W9):=ZH.sound mixed (aaB cY (aaB sY (aaB Ad (aaB dO (aaB jn (aaB fI (aaB jt aq))))))) (dQ _ _) (by rintro _ _ ⟨_,⟨_,_,_,_,rfl,_⟩,_⟩;rfl) aj8
def sa:bU bb 71 (sB ajO):=OH.rJ mixed (aaB sf (aaB y5 (aaB dj aq))) (by rintro _ _ _ ⟨_,_,_,_,_,rfl,_⟩;rfl) aoC
def qg:bU bb 70 (sB akk):=wI.rJ mixed (aaB sa aq) (by rintro _ _ _ ⟨_,_,_,_,rfl,_⟩;rfl) anm
def uc:bU bb 20 (c8 true aco):=Vm.sound mixed (aaB mq (aaB dj (aaB jy (aaB AA (aaB sa (aaB qg aq)))))) (dQ _ _) (by rintro _ _ ⟨_,⟨_,rfl,_⟩,_⟩;rfl) abN
def eF:bU bb 74 (c8 false q6):=ajc.sound mixed (aaB uc aq) (dQ _ _) (by rintro _ _ ⟨_,⟨_,rfl,_⟩,_⟩;rfl) acR
def DE:bU bb 63 (c8 false ZQ):=X0.sound mixed (aaB eF (aaB dT (aaB dj (aaB jy aq)))) (dQ _ _) (by rintro _ _ ⟨_,⟨_,_,rfl,_⟩,_⟩;rfl) adu
def rC:bU bb 99 (c8 false Lq):=Ri.sound mixed (aaB dT (aaB EY (aaB mQ aq))) (dQ _ _) (by rintro _ _ ⟨_,⟨_,_,rfl,_⟩,_⟩;rfl) akA
def Dn:bU bb 119 (c8 false afk):=Wa.sound mixed (aaB dT (aaB rr (aaB aaC (aaB gk (aaB CR (aaB EY (aaB mQ aq))))))) (dQ _ _) (by rintro _ _ ⟨_,⟨_,_,rfl,_⟩,_⟩;rfl) am3
def xT:bU bb 23 (c8 true H4):=ahl.sound mixed (aaB mq (aaB bo (aaB sf (aaB Pq aq)))) (dQ _ _) (by rintro _ _ ⟨_,⟨_,rfl,_⟩,_⟩;rfl) ahd
def tw:bU bb 14 (c8 false A8):=aci.sound mixed (aaB DE (aaB pg aq)) (dQ _ _) (by rintro _ _ ⟨_,⟨_,_,rfl,_⟩,_⟩;rfl) agD
def Du:bU bb 58 (c8 false Oe):=ac_.sound mixed (aaB eF (aaB dj (aaB jy (aaB vT (aaB pP (aaB Dn (aaB iQ aq))))))) (dQ _ _) (by rintro _ _ ⟨_,⟨_,_,rfl,_⟩,_⟩;rfl) agm
def Jg:bU bb 85 (c8 false TM):=adZ.sound mixed (aaB eF (aaB dT (aaB dj (aaB jy (aaB iQ (aaB fU (aaB G0 (aaB pQ aq)))))))) (dQ _ _) (by rintro _ _ ⟨_,⟨_,_,_,_,rfl,_⟩,_⟩;rfl) ag_
def DD:bU bb 27 (c8 false IE):=acQ.sound mixed (aaB fU (aaB Jg aq)) (dQ _ _) (by rintro _ _ ⟨_,⟨_,_,rfl,_⟩,_⟩;rfl) afw
def wk:bU bb 22 (c8 true HW):=aef.sound mixed (aaB eF (aaB yY (aaB DU (aaB Vg (aaB yS (aaB iK (aaB pg aq))))))) (dQ _ _) (by rintro _ _ ⟨_,⟨_,rfl,_⟩,_⟩;rfl) ah1
def ox:bU bb 16 (ah OA):=abG.sound mixed (aaB xT aq) (ax _) (by rintro _ _ ⟨_,⟨_,rfl,_⟩,_⟩;rfl) aow
def DV:bU bb 42 (c8 false N7):=acv.sound mixed (aaB eF (aaB rC (aaB mQ (aaB fU (aaB Hf (aaB iQ aq)))))) (dQ _ _) (by rintro _ _ ⟨_,⟨_,_,rfl,_⟩,_⟩;rfl) af5
def KV:bU bb 45 (c8 true akH):=acH.sound mixed (aaB bo (aaB gZ aq)) (dQ _ _) (by rintro _ _ ⟨_,⟨_,rfl,_⟩,_⟩;rfl) aou
def nW:bU bb 12 (ah KL):=ahh.sound mixed (aaB Oa (aaB wk (aaB tw (aaB DV (aaB DD (aaB nN aq)))))) (ax _) (by rintro _ _ ⟨_,⟨rfl,_⟩,_⟩;rfl) an8
end Go.Dv.Try
