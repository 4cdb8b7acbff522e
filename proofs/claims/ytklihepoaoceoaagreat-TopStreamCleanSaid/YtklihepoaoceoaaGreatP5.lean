/- Own work: parts of the proof, shortened and laid together by a tool of our own. -/
import Derived.Test.YtklihepoaoceoaaGreatP4
import Derived.KernelRfl
set_option linter.defProp false
set_option linter.unusedSimpArgs false
set_option linter.unusedVariables false
open List renaming getElem?_eq_getElem→zah, mem_of_getElem?→zag, length_append→zad, getElem?_eq_some_iff→zaa, getElem?_eq_none→zaK, take_of_length_le→za1, length_map→zav, length_take→zal, getElem?_append_left→zaq, mem_range→zbm, getElem?_take_of_lt→zdj, getElem?_append_right→zak, take_length→zc7, mem_map→zaX, getElem?_drop→zaB, getElem?_map→za9, length_pos_iff→zcb, take_add_one→zc2, length_drop→zax, mem_iff_getElem?→zaE, ext_getElem?→zba, mem_singleton→zdg, length_cons→zam, length_dropLast→zdB, flatMap_cons→zan, mem_cons→zaw, pairwise_iff_getElem→zdC, mem_of_mem_take→zaL, getElem?_range→zbD, flatMap_map→zdD, map_append→zbu, range_succ→zdk, flatMap_def→zdE, foldl_cons→zbg, mem_append→zaA, getLast?_eq_some_getLast→zdF, foldl_append→zdG, dropLast_concat_getLast→zdH, length_singleton→zbS, flatMap_append→zaz, map_congr_left→zbC, getLast?_eq_getElem?→zda, append_nil→zbf, length_set→za0, map_set→zdI, drop_eq_nil_of_le→zcj, mem_flatten→zdK, not_mem_nil→zb9, pairwise_flatMap→zdL, mem_of_getLast?→zdp, map_drop→zdN, map_cons→zat, getElem?_set→zaS, map_nil→zcy, flatMap_nil→zdO, getElem_mem→zdw, getElem?_replicate→zcA, length_nil→zaY, nil_append→zaZ, getElem?_set_self→zbQ, filter_eq_nil_iff→zdQ, getElem?_dropLast→zdR, mem_of_mem_drop→zby, getLast?_concat→zdT, dropLast_concat→zdU, filter_eq_self→zbW, filter_append→zb0, pairwise_map→zdW, append_assoc→zaj, nodup_range→zbL, mem_flatMap→zbz, filter_cons→zb3, mem_filter→zbn, drop_take→zdA, drop_zero→zdn, foldl_nil→zdX
open Option renaming getD_some→zbA, map_some→zb4
open Bool renaming and_eq_true→zaU, not_eq_true'→zbs, or_eq_true→zbE, eq_iff_iff→zaN, false_eq_true→zcf, and_eq_false_iff→zdS
open And renaming intro→zc1
open Int renaming toNat_natCast→zaC, le_refl→zdP
open Nat renaming le_refl→zai, mul_succ→zdJ, le_trans→zay, lt_trichotomy→zbJ, mul_comm→zdM, lt_or_eq_of_le→zc4, le_of_lt_succ→zc5, lt_irrefl→zdV, add_sub_cancel→zch
open Decidable renaming not_not→zc3
namespace Go.Dv.Try
open Go Go.Dv
def aiz(l:List Rn):Prop:=l.Pairwise (λa b=>∀i,¬(fR a i=true/\fR b i=true))
def ajm{s:List UInt8}{n:Int}{r:Rn}(hn:0<=n)(h:aAF (nG s n) r):(0<=r.s/\1<=r.n/\r.s+r.n<=n)∧∀i,fR r i=true->bH s i=0:=by
 obtain⟨e,he,h1,h2,h3⟩:=h;have g:=(kI (jf s 0) n.toNat).1 e he;refine⟨ab,λi hi=>?_⟩;have g2:=apD (jf s 0) n.toNat i;have:aiC (nG s n) i=true:=by
  unfold aiC;refine List.any_eq_true.2 ⟨e,he,?_⟩;unfold fR at hi ⊢;simp only[decide_eq_true_eq]at hi ⊢;omega
 unfold nG at this;rw[this]at g2;simp only[Bool.true_eq,zaU,decide_eq_true_eq,jf]at g2;omega
def aqj(s:List UInt8)(n:Int):aiz (nG s n):=by
 refine(ajV (jf s 0) n.toNat).1.imp λh i hi=>?_
 simp only[fR,decide_eq_true_eq]at hi;omega
def alQ{l m:List Rn}(h:l.Perm m)(hl:aiz l):aiz m:=by
 refine(h.pairwise_iff λ{a b} rE i hi=>rE i ⟨hi.2,hi.1⟩).1 hl
structure Gat(s:List UInt8)(n c:Int)(l:List Rn):Prop where
 rn:∀r∈l,(0<=r.s/\1<=r.n/\r.s+r.n<=n)∧∀i,fR r i=true->bH s i=0
 ap:aiz l
 sum:bI l=c
 len:l.length<=(nG s n).length
def auT{s:List UInt8}{n c near:Int}(hb:nu s n=0)(hc:1<=c/\c<=4096)(hn:0<=near/\near<=4095):IZ s n c near=0:=by
 unfold IZ ac0;rw[if_neg ab,if_pos ⟨hc,hn⟩]
def asy{s:List UInt8}{n c:Int}{r:Rn}(h:r∈rh c (nG s n)):r∈nG s n/\c<=r.n:=by
 obtain⟨h1,h2⟩:=zbn.1 h;refine⟨h1,?_⟩;simp only[small,zbs,decide_eq_false_iff_not]at h2;omega
def asI{s:List UInt8}{n c near:Int}(hb:nu s n=0)(hc:1<=c/\c<=4096)(hn:0<=near/\near<=4095)(h0:Fy s n c near=0):Gat s n c (Ju s n c near):=by
 have ha:=auT hb hc hn;have x3:=(iR hb).1;unfold Fy at h0;unfold Ju;rw[if_neg ab]at h0 ⊢;cases ho:Sw s n c near with
 |some x=>
  simp only;have hx:∃r∈rh c (nG s n),x=wv near c r:=by
   rcases axy (rh c (nG s n)) none x ho with h|h
   ·cases h
   ·exact h
  obtain⟨r,hr,rfl⟩:=hx;obtain⟨h1,h2⟩:=asy hr;have mE:=asJ (near:=near) h2;have cb:1<=(nG s n).length:=zcb.2 (List.ne_nil_of_mem h1);refine⟨λq hq=>?_,?_,?_,?_⟩
  ·rw[zdg]at hq;subst hq;exact ajm x3 ⟨r,h1,aH,aH,aH⟩
  ·unfold aiz;simp
  ·simp[bI]
  ·simpa using cb
 |none=>
  rw[ho]at h0;simp only at h0 ⊢;rw[if_pos h0];have hS:=YV near (nG s n);generalize UO near (nG s n)=S at*;have Gq:∀e∈S,1<=e.n:=λe he=>by
   have:=(kI (jf s 0) n.toNat).1 e (hS.1.mem_iff.1 he);omega
  have hz:qa c S=0:=by
   unfold I2 at h0;split at h0
   ·cases h0
   ·rename_i g;exact K6
  refine⟨λq hq=>?_,?_,?_,?_⟩
  ·obtain⟨e,he,h1,h2,h3⟩:=ahA ab Gq hq;exact ajm x3 ⟨e,hS.1.mem_iff.1 he,ab,ab,ab⟩
  ·exact amp ab Gq (alQ hS.1.symm (aqj s n))
  ·rw[atJ,hz];omega
  ·have:=aix (S:=S) (c:=c);have:=hS.1.length_eq;omega
def apj{l m:List Rn}(h:l.Perm m):bI l=bI m:=by
 induction h with
 |nil=>rfl
 |cons x _ ih=>rw[gS,gS,ih]
 |swap x y l=>simp only[gS];omega
 |trans _ _ h1 h2=>rw[h1,h2]
def axo{s:List UInt8}{n c near:Int}(hb:nu s n=0)(hc:1<=c/\c<=4096)(hn:0<=near/\near<=4095)(h0:Fy s n c near≠0):
 (Fy s n c near=16/\bI (nG s n)<c)\/(Fy s n c near=8/\64<(nG s n).length):=by
 have ha:=auT hb hc hn;unfold Fy at h0 ⊢;rw[if_neg ab]at h0 ⊢;cases ho:Sw s n c near with
 |some x=>rw[ho]at h0;exact absurd rfl h0
 |none=>
  rw[ho]at h0;simp only at h0 ⊢;have hS:=YV near (nG s n);generalize UO near (nG s n)=S at*;have Gq:∀e∈S,0<=e.n:=λe he=>by
   have:=(kI (jf s 0) n.toNat).1 e (hS.1.mem_iff.1 he);omega
  have aHt:bI (nG s n)=bI S:=by
   exact(apj hS.1).symm
  by_cases hz:qa c S=0
  ·rw[hz]at h0 ⊢;have hl:=aix (S:=S) (c:=c);have:=hS.1.length_eq;by_cases iG:(kA c S).length<=64
   ·rw[afW iG]at h0;exact absurd rfl h0
   ·rw[O3 iG];exact .inr ⟨rfl,ab⟩
  ·rw[ad9 hz];refine .inl ⟨rfl,?_⟩;by_cases aU:bI S<c
   ·omega
   ·exact absurd (ale ab ab Gq) hz
def ag0{s:List UInt8}{n c:Int}{l:List Rn}(h:Gat s n c l):((az l).length:Int)=c/\(∀x∈az l,(0<=x/\x<n)/\bH s x.toNat=0)/\(az l).Nodup:=by
 have SF:∀x,x∈az l→∃r∈l,r.s<=x/\x<r.s+r.n:=λx hx=>by
  obtain⟨r,hr,i,hi,rfl⟩:=aia hx;have:=(h.rn r hr).1;rw[if_neg ab];exact⟨r,hr,ab,ab⟩
 refine⟨by rw[xA λr hr=>by have:=(h.rn r hr).1;omega];exact h.sum,λx hx=>?_,?_⟩
 ·obtain⟨r,hr,h1,h2⟩:=SF x hx;have g:=h.rn r hr;exact⟨ab,g.2 _ (by simp only[fR,decide_eq_true_eq];omega)⟩
 ·unfold az List.Nodup;refine zdL.2 ⟨λr hr=>?_,?_⟩
  ·have g:=(h.rn r hr).1;unfold iV;rw[zdW];refine List.Pairwise.imp ?_ zbL;intro i j zk cb;rw[if_neg ab,if_neg ab]at cb;omega
  ·refine List.Pairwise.imp_of_mem ?_ h.ap;intro p q hp hq hpq x hx y hy he;subst he;have gp:=(h.rn p hp).1;have gq:=(h.rn q hq).1;unfold iV at hx hy;rw[zaX]at hx hy;obtain⟨i,hi,rfl⟩:=hx;obtain⟨j,hj,he⟩:=hy;rw[if_neg (show ¬p.s= -1 by omega),if_neg (show ¬q.s= -1 by omega)]at he;have hi:=zbm.1 hi;have hj:=zbm.1 hj;refine hpq (p.s+i).toNat ⟨?_,?_⟩<;>simp only[fR,decide_eq_true_eq]<;>omega
def jz(ps:List (List UInt8))(i:Nat):Bool:=decide (ps[i]?.getD []≠[])
def nD(ps:List (List UInt8))(pl:List Int)(i:Nat):Int:=if jz ps i=true then pl[i]?.getD (-1)else-1
def G8(ps:List (List UInt8))(pl:List Int)(i:Nat):Bool:=jz ps i&&decide (nD ps pl i= -1)
def vF(ps:List (List UInt8))(pl:List Int):Nat->Nat
 |0=>0
 |n+1=>vF ps pl n+if G8 ps pl n=true then 1 else 0
def UZ(ps:List (List UInt8))(pl:List Int):Nat->Int
 |0=>0
 |n+1=>if nD ps pl n= -1 then UZ ps pl n else nD ps pl n
def Qg(ps:List (List UInt8))(pl:List Int):List Int:=cQ (nD ps pl) ps.length
def u6(pl k1:List Int)(b:Nat->Bool)(c:Nat):Bool:=if (c:Int)∈pl then decide ((c:Int)∈k1)else b c
def CQ(ps:List (List UInt8))(pl fr:List Int)(i:Nat):Int:=if G8 ps pl i=true then fr[vF ps pl i]?.getD 0 else nD ps pl i
def ZJ(fr:List Int)(b:Nat->Bool)(c:Nat):Bool:=b c||decide ((c:Int)∈fr)
def agH(ps:List (List UInt8))(pl:List Int):∀n,vF ps pl n<=n
 |0=>zai 0
 |n+1=>by
  have:=agH ps pl n;unfold vF;split<;>omega
def xP(ps:List (List UInt8))(pl:List Int)(n:Nat):vF ps pl (n+1)=vF ps pl n+if G8 ps pl n=true then 1 else 0:=rfl
def asw(ps:List (List UInt8))(pl:List Int)(n:Nat):UZ ps pl (n+1)=if nD ps pl n= -1 then UZ ps pl n else nD ps pl n:=rfl
def RP(ps:List (List UInt8))(pl:List Int){n m:Nat}(h:n<=m):vF ps pl n<=vF ps pl m:=by
 induction h with
 |refl=>exact zai _
 |step _ ih=>rw[xP];omega
def Dr{ps:List (List UInt8)}{pl:List Int}{i:Nat}(h:nD ps pl i≠ -1):nD ps pl i∈pl:=by
 unfold nD at h ⊢;split at h
 ·rename_i g;rw[if_pos g];cases hp:pl[i]? with
  |none=>rw[hp]at h;exact kN
  |some a=>rw[zbA];exact zag hp
 ·exact kN
def aok{ps:List (List UInt8)}{pl:List Int}{m:Int}(h:∀a∈pl,-1<=a/\a<m)(hm:0<=m):∀n,0<=UZ ps pl n/\UZ ps pl n<=m
 |0=>⟨zdP _,hm⟩
 |n+1=>by
  show 0<=(if nD ps pl n= -1 then UZ ps pl n else nD ps pl n)/\(if nD ps pl n= -1 then UZ ps pl n else nD ps pl n)<=m;split
  ·exact aok h hm n
  ·rename_i g;have:=h _ (Dr g);omega
abbrev Yq(ps:List (List UInt8)):dC:=.row 9 1 true (strs ps)
abbrev rk(b:Nat->Bool)(n:Nat):dC:=.row 4 1 true ((cQ b n).map pB)
abbrev Lv(l:List Int):dC:=.row 3 1 true (l.map pI)
def lT(ps:List (List UInt8))(pl:List Int):Nat:=vF ps pl ps.length
def sq(ps:List (List UInt8))(pl:List Int)(b:Nat->Bool):Nat->Bool:=u6 pl (Qg ps pl) b
def ae(ps:List (List UInt8))(pl:List Int)(b:Nat->Bool)(n:Nat):Int:=Fy (mG (cQ (sq ps pl b) n)) n (lT ps pl) (UZ ps pl ps.length)
def qv(ps:List (List UInt8))(pl:List Int)(b:Nat->Bool)(n:Nat):List Int:=az (Ju (mG (cQ (sq ps pl b) n)) n (lT ps pl) (UZ ps pl ps.length))
def w_(ps:List (List UInt8))(pl:List Int)(b:Nat->Bool)(n:Nat):Int:=if lT ps pl=0 then 0 else ae ps pl b n
def pN(ps:List (List UInt8))(pl:List Int)(b:Nat->Bool)(n:Nat):List Int:=if lT ps pl=0 then[]else qv ps pl b n
def DF{l:List Bool}(h:l.length<=4096):nu (mG l) l.length=0∧∀i,bH (mG l) i=if i<l.length then mS (l[i]?.getD false)else 0:=
 ⟨asp (λ_=>Jj _) h,λi=>KI (λ_=>Jj _) _ i⟩
def Zp(xs:List AV)(σ:aF)(K:AV->aF->Prop):Prop:=∃(s:St) (ps:List (List UInt8)) (b:Nat->Bool) (n:Nat),
 xs=[.pv (sP s),.own 0,.own 1]/\σ=[Yq ps,rk b n]/\(ps.length<=1000/\s.pl.length<=1000/\n<=1000∧∀a∈s.pl,-1<=a/\a<n)/\
 (w_ ps s.pl b n=0->K (.tup [.own 2,.pv (pI 0)]) [Yq ps,rk (ZJ (pN ps s.pl b n) (sq ps s.pl b)) n,Lv (cQ (CQ ps s.pl (pN ps s.pl b n)) ps.length)])/\
 (w_ ps s.pl b n≠0->K (.tup [.own 2,.pv (pI (w_ ps s.pl b n))]) [Yq ps,rk (sq ps s.pl b) n,Lv []])
set_option maxHeartbeats 2000000 in
def agC:gO (ay [(104,bF adT),(60,bF GM),(233,bF Ku),(61,ah Mn),(234,K3),(133,c8 false dL)]) uf (sB Zp):=by
 rintro _ _ K ⟨s,ps,b,n,rfl,rfl,⟨h1,h2,h3,h4⟩,Gt,xy⟩;have fp:(strs ps).length=ps.length:=zav _
 (repeat'((conv=>whnf);first|refine ez λ_=>?_|fail))<;>try(conv=>whnf)
 refine⟨λm env σ=>∃i:Nat,i+m=ps.length/\σ=[Yq ps,rk b n,Lv (cQ (nD ps s.pl) i)]/\env=[(0,.pv (sP s)),(1,.own 0),(2,.own 1),(8,.own 2),eN 9 (vF ps s.pl i),eN 10 (UZ ps s.pl i),(21,.own 0),eN 22 ps.length,eN 23 i],ps.length,⟨0,ab,rfl,by rw[fp];rfl⟩,?_⟩;rintro m env σ ⟨i,hi,rfl,rfl⟩;have AQ:=agH ps s.pl i;by_cases aU:i<ps.length
 ·obtain⟨p,hp⟩:∃p,ps[i]?=some p:=⟨_,zah aU⟩
  have cb:jz ps i=decide (p≠[]):=X8;have hc:=xP ps s.pl i;have hr:=asw ps s.pl i;have ht:cQ (nD ps s.pl) (i+1)=cQ (nD ps s.pl) i++[nD ps s.pl i]:=Lt;by_cases IH:p=[]
  ·subst IH;have sQ:nD ps s.pl i= -1:=by unfold nD;rw[cb];rfl
   have fq:G8 ps s.pl i=false:=by unfold G8;rw[cb];rfl
   rw[fq,if_neg ao]at hc;rw[sQ]at hr ht;rw[if_pos rfl]at hr;clear Gt xy;generalize hT:cQ (nD ps s.pl) i=T at*;have hTl:T.length=i:=by rw[<-hT];exact ck
   have aCL:(T.map pI).length=T.length:=zav _
   (repeat'((conv=>whnf);first|refine zc1 (by(rw[fp];omega)) ?_|refine zc1 aa4 ?_|refine aw (p:=([]:List UInt8)≠[]) (by simp;first|done|fail) ?_|refine bj ab ?_|refine au ab ?_|refine uM aA ?_|refine bT ?_|fail))<;>try(conv=>whnf)
   refine⟨m-1,ab,i+1,ab,by rw[ht];simp,?_⟩;rw[hc,hr];rfl
  by_cases had:∃a,s.pl[i]?=some a/\a≠ -1
  ·obtain⟨a,ha,aDL⟩:=had;have sQ:nD ps s.pl i=a:=by unfold nD;rw[cb,if_pos (by simpa using IH),ha];rfl
   have fq:G8 ps s.pl i=false:=by unfold G8;rw[sQ];simp[aDL]
   rw[fq,if_neg ao]at hc;rw[sQ]at hr ht;rw[if_neg aDL]at hr;clear Gt xy;generalize hT:cQ (nD ps s.pl) i=T at*;have hTl:T.length=i:=by rw[<-hT];exact ck
   have aCL:(T.map pI).length=T.length:=zav _
   (repeat'((conv=>whnf);first|refine zc1 (by(rw[fp];omega)) ?_|refine⟨_,⟨s,i,rfl,ab,rfl⟩,?_⟩|refine au ⟨a,ha,aDL⟩ ?_|refine zc1 aa4 ?_|refine au (p:=p≠[]) IH ?_|(refine fe ?_;first|refine bj ab ?_|refine au ab ?_|refine aw ab ?_|refine iY aA ?_|refine uM aA ?_|refine bT ?_|refine⟨_,⟨_,rfl,rfl⟩,?_⟩|fail)))<;>try(conv=>whnf)
   refine⟨m-1,ab,i+1,ab,by rw[ht];simp,?_⟩;rw[hc,hr];rfl
  ·have sQ:nD ps s.pl i= -1:=by
    unfold nD;split
    ·cases hq:s.pl[i]? with
     |none=>rfl
     |some a=>
      by_cases ha:a= -1
      ·subst ha;rfl
      ·exact absurd ⟨a,hq,ha⟩ had
    ·rfl
   have fq:G8 ps s.pl i=true:=by unfold G8;rw[cb,sQ];simp[IH]
   rw[fq,if_pos rfl]at hc;rw[sQ]at hr ht;rw[if_pos rfl]at hr;clear Gt xy;generalize hT:cQ (nD ps s.pl) i=T at*;have hTl:T.length=i:=by rw[<-hT];exact ck
   have aCL:(T.map pI).length=T.length:=zav _
   (repeat'((conv=>whnf);first|refine zc1 (by(rw[fp];omega)) ?_|refine⟨_,⟨s,i,rfl,ab,rfl⟩,?_⟩|refine aw had ?_|refine zc1 aa4 ?_|refine au (p:=p≠[]) IH ?_|(refine fe ?_;first|refine bj ab ?_|refine au ab ?_|refine uM aA ?_|refine bT ?_|refine⟨_,⟨_,rfl,rfl⟩,?_⟩|fail)))<;>try(conv=>whnf)
   refine⟨m-1,ab,i+1,ab,by rw[ht];simp,?_⟩;rw[hc,hr];rfl
 ·have hi:i=ps.length:=by omega
  subst hi;have SH:cQ (nD ps s.pl) ps.length=Qg ps s.pl:=rfl;have aPQ:(Qg ps s.pl).length=ps.length:=ck;rw[SH];have aPR:∀x∈Qg ps s.pl,-1<=x/\x<n:=λx hx=>by
   obtain⟨k,hk⟩:=jk.1 hx;obtain⟨_,rfl⟩:=ajb hk;by_cases h:nD ps s.pl k= -1
   ·rw[h];omega
   ·exact h4 _ (Dr h)
  have aHu:vF ps s.pl ps.length=lT ps s.pl:=rfl;have xk:=aok (ps:=ps) h4 ab ps.length;have t_:sq ps s.pl b=u6 s.pl (Qg ps s.pl) b:=rfl;rw[aHu];rw[aHu]at AQ
  (repeat'((conv=>whnf);first|refine aw ab ?_|refine ez λ_=>?_|fail))<;>try(conv=>whnf)
  refine⟨λm env σ=>∃j:Nat,j+m=s.pl.length/\σ=[Yq ps,rk (u6 (s.pl.take j) (Qg ps s.pl) b) n,Lv (Qg ps s.pl)]/\env=[(1,.own 0),(2,.own 1),(8,.own 2),eN 9 (lT ps s.pl),eN 10 (UZ ps s.pl ps.length),(59,.pv (rI s.pl)),eN 60 s.pl.length,eN 61 j],s.pl.length,⟨0,ab,rfl,rfl⟩,?_⟩;rintro m env σ ⟨j,hj,rfl,rfl⟩;by_cases aU:j<s.pl.length
  ·obtain⟨a,ha⟩:∃a,s.pl[j]?=some a:=⟨_,zah aU⟩
   have Y3:=h4 a (zag ha);have kv:∀x,x∈s.pl.take (j+1)↔x∈s.pl.take j\/x=a:=λx=>by rw[zc2,ha];simp
   clear Gt xy;by_cases h0:a= -1
   ·subst h0;have hb:cQ (u6 (s.pl.take (j+1)) (Qg ps s.pl) b) n=cQ (u6 (s.pl.take j) (Qg ps s.pl) b) n:=kT λc hc=>by
     unfold u6;have:((c:Int)∈s.pl.take (j+1))↔((c:Int)∈s.pl.take j):=⟨λh=>((kv _).1 h).elim id (λh=>ab),λh=>(kv _).2 (.inl h)⟩
     simp only[this]
    (repeat'(refine iM ?_;first|refine bj ab ?_|refine aN ?_|refine au ab ?_|refine iY aA ?_|refine⟨_,⟨_,rfl,rfl⟩,?_⟩|fail))<;>try(conv=>whnf)
    exact⟨m-1,ab,j+1,ab,by simp only[rk];rw[hb],rfl⟩
   ·have fM:∀r:Bool,(r=true↔a∈Qg ps s.pl)->((cQ (u6 (s.pl.take j) (Qg ps s.pl) b) n).map pB).set a.toNat (pB r)=(cQ (u6 (s.pl.take (j+1)) (Qg ps s.pl) b) n).map pB:=λr hr=>by
     rw[<-zdI,oq];congr 1;refine kT λc hc=>?_
     unfold u6;by_cases Mq:c=a.toNat
     ·have:(c:Int)=a:=by omega
      rw[if_pos Mq,if_pos (by rw[kv];exact .inr this),this];cases r<;>simp_all
     ·rw[if_neg Mq];have:((c:Int)∈s.pl.take (j+1))↔((c:Int)∈s.pl.take j):=⟨λh=>((kv _).1 h).elim id (λh=>ab),λh=>(kv _).2 (.inl h)⟩
      simp only[this]
    (repeat'((conv=>whnf);first|refine⟨_,⟨Qg ps s.pl,a,rfl,ab,rfl⟩,?_⟩|(refine fe ?_;first|refine bj ab ?_|refine bP ?_|refine au ab ?_|refine aw ab ?_|refine de (λ_=>?_) (λ_=>?_)|refine iY aA ?_|refine Vx ab ?_|refine Ug ab ?_|refine bT ?_|refine⟨_,⟨_,rfl,rfl⟩,?_⟩|fail)))<;>try(conv=>whnf)
    ·rename_i x;exact⟨m-1,ab,j+1,ab,by simp only[rk];rw[<-fM true (by simp[x])],rfl⟩
    ·rename_i x;exact⟨m-1,ab,j+1,ab,by simp only[rk];rw[<-fM false (by simp[x])],rfl⟩
  have hj:j=s.pl.length:=ab;subst hj;rw[zc7,<-t_];by_cases oB:lT ps s.pl=0
  ·have hK:=Gt (by unfold w_;rw[if_pos oB]);clear Gt xy;have hN:pN ps s.pl b n=[]:=by unfold pN;rw[if_pos oB]
   have h3:cQ (ZJ [] (sq ps s.pl b)) n=cQ (sq ps s.pl b) n:=kT λc _=>by simp[ZJ]
   have h5:cQ (CQ ps s.pl []) ps.length=Qg ps s.pl:=kT λi hi=>by
    unfold CQ;rw[if_neg];intro h;have h6:=RP ps s.pl (show i+1<=ps.length by omega);rw[xP,if_pos h]at h6;have:vF ps s.pl ps.length=0:=oB;omega
   simp only[rk]at hK;rw[hN,h3,h5]at hK
   (repeat'((conv=>whnf);first|refine au ab ?_|refine aw ab ?_|fail))<;>try(conv=>whnf)
   exact hK
  have hlT:(cQ (sq ps s.pl b) n).length=n:=ck;have Vv:=DF (l:=cQ (sq ps s.pl b) n) ab;rw[hlT]at Vv;have XJ:(mG (cQ (sq ps s.pl b) n)).length<=100000:=by
   have:=iR Vv.1;unfold sx at this;omega
  have hE:w_ ps s.pl b n=ae ps s.pl b n:=by unfold w_;rw[if_neg oB]
  have hL:pN ps s.pl b n=qv ps s.pl b n:=by unfold pN;rw[if_neg oB]
  rw[hE,hL]at Gt;rw[hE]at xy;have MK:qv ps s.pl b n=az (Ju (mG (cQ (sq ps s.pl b) n)) n (lT ps s.pl) (UZ ps s.pl ps.length)):=rfl;have Ao:ae ps s.pl b n=Fy (mG (cQ (sq ps s.pl b) n)) n (lT ps s.pl) (UZ ps s.pl ps.length):=rfl;have hng:UZ ps s.pl ps.length<=4095:=ab;have aDM:ae ps s.pl b n=0->Gat (mG (cQ (sq ps s.pl b) n)) n (lT ps s.pl) (Ju (mG (cQ (sq ps s.pl b) n)) n (lT ps s.pl) (UZ ps s.pl ps.length)):=λh=>asI Vv.1 ab ab h
  by_cases he:ae ps s.pl b n=0
  ·have hg:=aDM he;have hK:=Gt he;clear Gt xy aDM;have s7:=ag0 hg;rw[<-MK]at s7;have akC:dL [PV.sl 2 ((Ju (mG (cQ (sq ps s.pl b) n)) n (lT ps s.pl) (UZ ps s.pl ps.length)).map Rn.pv)] (.pv (rI (qv ps s.pl b n))):=by
    refine⟨.sl (Ju (mG (cQ (sq ps s.pl b) n)) n (lT ps s.pl) (UZ ps s.pl ps.length)),rfl,⟨?_,λr hr=>?_⟩,rfl⟩
    ·have h1:=La (l:=Ju (mG (cQ (sq ps s.pl b) n)) n (lT ps s.pl) (UZ ps s.pl ps.length)) λr hr=>by have:=(hg.rn r hr).1;exact⟨ab,ab⟩
     have h2:(Ju (mG (cQ (sq ps s.pl b) n)) n (lT ps s.pl) (UZ ps s.pl ps.length)).length<=bI (Ju (mG (cQ (sq ps s.pl b) n)) n (lT ps s.pl) (UZ ps s.pl ps.length)):=by
      have:∀l:List Rn,(∀r∈l,1<=r.n)->(l.length:Int)<=bI l:=by
       intro l
       induction l with
       |nil=>intro _;simp[bI]
       |cons r l ih=>
        intro h;rw[gS,zam];have:=ih λq hq=>h q kF
        have:=h r aj;omega
      exact this _ λr hr=>(hg.rn r hr).1.2.1
     rw[hg.sum]at h2;show(Ju _ _ _ _).length<=1000;omega
    ·have:=(hg.rn r hr).1;exact⟨ab,ab⟩
   have Ao:Fy (mG (cQ (sq ps s.pl b) n)) n (lT ps s.pl) (UZ ps s.pl ps.length)=0:=he
   (repeat'((conv=>whnf);first|refine aw ab ?_|refine⟨_,⟨cQ (sq ps s.pl b) n,rfl,ab,rfl⟩,?_⟩|refine⟨_,n,_,_,rfl,XJ,?_⟩|refine⟨_,akC,?_⟩|refine ez λ_=>?_|refine bT ?_|fail))<;>try(conv=>whnf)
   generalize hF:qv ps s.pl b n=F at*;have aHv:cQ (ZJ (F.take 0) (sq ps s.pl b)) n=cQ (sq ps s.pl b) n:=kT λc _=>by simp[ZJ]
   have aDN:cQ (λj=>if j<0 then CQ ps s.pl F j else nD ps s.pl j) ps.length=Qg ps s.pl:=kT λc _=>aj
   refine⟨λm env σ=>∃i:Nat,i+m=ps.length/\σ=[Yq ps,rk (ZJ (F.take (vF ps s.pl i)) (sq ps s.pl b)) n,Lv (cQ (λj=>if j<i then CQ ps s.pl F j else nD ps s.pl j) ps.length)]/\env=[(2,.own 1),(8,.own 2),(18,.pv (rI (F.drop (vF ps s.pl i)))),(94,.own 0),eN 95 ps.length,eN 96 i],ps.length,⟨0,ab,?_,by rw[fp];rfl⟩,?_⟩
   ·simp only[rk,Lv];rw[show vF ps s.pl 0=0 from rfl,aHv,aDN]
   rintro m env σ ⟨i,hi,rfl,rfl⟩;by_cases aU:i<ps.length
   ·obtain⟨p,hp⟩:∃p,ps[i]?=some p:=⟨_,zah aU⟩
    have cb:jz ps i=decide (p≠[]):=X8;have hc:=xP ps s.pl i;have aNc:vF ps s.pl (i+1)<=lT ps s.pl:=RP ps s.pl (show i+1<=ps.length by omega);clear hK;cases fq:G8 ps s.pl i with
    |true=>
     rw[fq,if_pos rfl]at hc;have mE:vF ps s.pl i<F.length:=ab;obtain⟨x,hx⟩:∃x,F[vF ps s.pl i]?=some x:=⟨_,zah mE⟩
     have Xu:=(s7.2.1 x (zag hx)).1;have SL:CQ ps s.pl F i=x:=by unfold CQ;rw[if_pos fq,hx];rfl
     have ayF:=fq;unfold G8 at ayF;simp only[zaU,decide_eq_true_eq]at ayF;have IH:p≠[]:=by have:=ayF.1;rw[cb]at this;simpa using this
     have hd:F.drop (vF ps s.pl i)=x::F.drop (vF ps s.pl i+1):=by
      rw[List.drop_eq_getElem_cons mE];congr 1;rw[zah mE]at hx;exact Option.some.inj hx
     have kv:∀y,y∈F.take (vF ps s.pl (i+1))↔y∈F.take (vF ps s.pl i)\/y=x:=λy=>by rw[hc,zc2,hx];simp
     have aHw:((cQ (λj=>if j<i then CQ ps s.pl F j else nD ps s.pl j) ps.length).map pI).set i (pI x)=(cQ (λj=>if j<i+1 then CQ ps s.pl F j else nD ps s.pl j) ps.length).map pI:=by
      rw[<-zdI,oq];congr 1;refine kT λj hj=>?_
      by_cases h:j=i
      ·subst h;rw[if_pos rfl,if_pos ab,SL]
      ·rw[if_neg h];by_cases h2:j<i
       ·rw[if_pos h2,if_pos ab]
       ·rw[if_neg h2,if_neg ab]
     have aHx:((cQ (ZJ (F.take (vF ps s.pl i)) (sq ps s.pl b)) n).map pB).set x.toNat (pB true)=(cQ (ZJ (F.take (vF ps s.pl (i+1))) (sq ps s.pl b)) n).map pB:=by
      rw[<-zdI,oq];congr 1;refine kT λc hc=>?_
      unfold ZJ;by_cases h:c=x.toNat
      ·have:(c:Int)=x:=by omega
       rw[if_pos h,this];simp[kv]
      ·rw[if_neg h];have:((c:Int)∈F.take (vF ps s.pl (i+1)))↔((c:Int)∈F.take (vF ps s.pl i)):=⟨λh=>((kv _).1 h).elim id (λh=>ab),λh=>(kv _).2 (.inl h)⟩
       simp only[this]
     have aDO:(λj=>if j<i then CQ ps s.pl F j else nD ps s.pl j) i= -1:=by simp only[zdV,if_false];exact ayF.2
     have aHy:((cQ (λj=>if j<i then CQ ps s.pl F j else nD ps s.pl j) ps.length).map pI).length=ps.length:=by rw[zav,ck]
     have hgT:((cQ (λj=>if j<i then CQ ps s.pl F j else nD ps s.pl j) ps.length).map pI)[i]?=some (pI (-1)):=by rw[za9,bO aU];exact congrArg (λz=>some (pI z)) aDO
     (repeat'((conv=>whnf);first|rw[hd]|refine⟨pI x,⟨ab,rfl⟩,?_⟩|refine⟨pI x,zbQ P3,?_⟩|(refine fe ?_;first|refine bj ab ?_|refine au ab ?_|refine au aA ?_|refine uM aA ?_|refine Vx ab ?_|refine Ug ab ?_|refine Q3 ab ?_|refine bT ?_|refine⟨_,⟨_,rfl,rfl⟩,?_⟩|refine zc1 cu ?_|fail)))<;>try(conv=>whnf)
     refine⟨m-1,ab,i+1,ab,?_,?_⟩
     ·simp only[rk,Lv];rw[<-aHw,<-aHx];simp
     ·have e2:AV.pv (PV.sl 1 (cut (1:Int).toNat ((x::F.drop (vF ps s.pl i+1)).map pI).length ((x::F.drop (vF ps s.pl i+1)).map pI)))=.pv (rI (F.drop (vF ps s.pl (i+1)))):=by
       have:=aFl (x::F.drop (vF ps s.pl i+1)) 1;rw[hc];simpa using this
      simp only[<-e2];rfl
    |false=>
     rw[fq,if_neg ao]at hc;have hc:vF ps s.pl (i+1)=vF ps s.pl i:=hc;have SL:CQ ps s.pl F i=nD ps s.pl i:=by unfold CQ;rw[fq];rfl
     have hT:cQ (λj=>if j<i+1 then CQ ps s.pl F j else nD ps s.pl j) ps.length=cQ (λj=>if j<i then CQ ps s.pl F j else nD ps s.pl j) ps.length:=kT λj hj=>by
      by_cases h:j=i
      ·subst h;rw[if_pos ab,if_neg ab,SL]
      ·by_cases h2:j<i
       ·rw[if_pos h2,if_pos ab]
       ·rw[if_neg h2,if_neg ab]
     have aDO:(λj=>if j<i then CQ ps s.pl F j else nD ps s.pl j) i=nD ps s.pl i:=by simp only[zdV,if_false]
     have aHy:((cQ (λj=>if j<i then CQ ps s.pl F j else nD ps s.pl j) ps.length).map pI).length=ps.length:=by rw[zav,ck]
     have hgT:((cQ (λj=>if j<i then CQ ps s.pl F j else nD ps s.pl j) ps.length).map pI)[((i:Nat):Int).toNat]?=some (pI (nD ps s.pl i)):=by rw[zaC,za9,bO aU];exact congrArg (λz=>some (pI z)) aDO
     unfold G8 at fq;have Ue:¬(p≠[]/\nD ps s.pl i= -1):=λh=>by rw[cb,h.2]at fq;simp[h.1]at fq
     by_cases IH:p=[]
     ·subst IH
      (repeat'((conv=>whnf);first|refine aw (p:=([]:List UInt8)≠[]) (by simp;first|done|fail) ?_|refine bj ab ?_|refine au ab ?_|refine uM aA ?_|refine Q3 ab ?_|fail))<;>try(conv=>whnf)
      refine⟨m-1,ab,i+1,ab,?_,?_⟩
      ·simp only[rk,Lv];rw[hT,hc]
      ·rw[hc];rfl
     ·have SH:¬nD ps s.pl i= -1:=λh=>Ue ⟨IH,h⟩
      (repeat'((conv=>whnf);first|refine au (p:=p≠[]) IH ?_|refine⟨_,hgT,?_⟩|refine aw SH ?_|(refine fe ?_;first|refine bj ab ?_|refine au ab ?_|refine uM aA ?_|refine Ug ab ?_|refine Q3 ab ?_|refine⟨_,⟨_,rfl,rfl⟩,?_⟩|fail)))<;>try(conv=>whnf)
      refine⟨m-1,ab,i+1,ab,?_,?_⟩
      ·simp only[rk,Lv];rw[hT,hc]
      ·rw[hc];rfl
   ·have hi:i=ps.length:=by omega
    subst hi;have hcF:vF ps s.pl ps.length=F.length:=by have:=s7.1;show lT ps s.pl=_;omega
    have hT:cQ (λj=>if j<ps.length then CQ ps s.pl F j else nD ps s.pl j) ps.length=cQ (CQ ps s.pl F) ps.length:=kT λj hj=>if_pos hj
    rw[hcF,za1 (zai _),List.drop_of_length_le (zai _)];simp only[rk,Lv]at hK ⊢;rw[hT]
    (repeat'((conv=>whnf);first|refine aw ab ?_|fail))<;>try(conv=>whnf)
    exact hK
  ·have hK:=xy he;clear Gt xy aDM;have Ao:Fy (mG (cQ (sq ps s.pl b) n)) n (lT ps s.pl) (UZ ps s.pl ps.length)≠0:=he
   (repeat'((conv=>whnf);first|refine aw ab ?_|refine⟨_,⟨cQ (sq ps s.pl b) n,rfl,ab,rfl⟩,?_⟩|refine⟨_,n,_,_,rfl,XJ,?_⟩|refine au ab ?_|refine ez λ_=>?_|refine bT ?_|fail))<;>try(conv=>whnf)
   exact hK
def MF(B:List UInt8)(k:Nat)(p:List UInt8):List UInt8:=B.take (256*k)++p++B.drop (256*k+256)
def Yb{B p:List UInt8}{k:Nat}(h:(k+1)*256<=B.length)(hp:p.length=256):(MF B k p).length=B.length:=by
 unfold MF;simp[hp];omega
def WA(B:List UInt8)(ps:List (List UInt8))(P:Nat->Int):Nat->List UInt8
 |0=>B
 |i+1=>if jz ps i=true then MF (WA B ps P i) (P i).toNat (ps[i]?.getD [])else WA B ps P i
def TJ(B:List UInt8)(ps:List (List UInt8))(P:Nat->Int)(i:Nat):WA B ps P (i+1)=if jz ps i=true then MF (WA B ps P i) (P i).toNat (ps[i]?.getD [])else WA B ps P i:=rfl
def aBE(ps:List (List UInt8)):Prop:=∀p∈ps,p=[]\/p.length=256
def RJ{ps:List (List UInt8)}{i:Nat}:jz ps i=true↔∃p,ps[i]?=some p/\p≠[]:=by
 unfold jz;cases h:ps[i]? with
 |none=>simp
 |some p=>simp
def RW{B:List UInt8}{ps:List (List UInt8)}{P:Nat->Int}(hp:aBE ps)(hP:∀i,jz ps i=true->0<=P i/\(P i+1)*256<=B.length):∀i,(WA B ps P i).length=B.length
 |0=>rfl
 |i+1=>by
  rw[TJ];have ih:=RW (B:=B) hp hP i;split
  ·rename_i h;have h1:=hP i h;obtain⟨p,h2,h3⟩:=RJ.1 h;rw[Yb ab (by rw[h2];exact(hp p (zag h2)).resolve_left h3),ih]
  ·exact ih
def auv(s:St)(C:List UInt8)(dt:Nat->Prop):aBE (aQ s C dt):=by
 intro p hp;unfold aQ at hp;split at hp
 ·unfold qy at hp;rw[zbz]at hp;obtain⟨k,_,hp⟩:=hp;unfold HU at hp;rw[zaX]at hp;obtain⟨i,_,rfl⟩:=hp;have:=(Dx (AF C k)).2.2.1;generalize j_ (wa C k)=q at*;by_cases h:i*256<q.length
  ·right;rw[zal,zax];omega
  ·left;rw[zcj ab];rfl
 ·rw[zaX]at hp;obtain⟨i,_,rfl⟩:=hp;unfold dv;split
  ·exact .inl rfl
  ·right;exact BB eI
def sK(s:St)(C:List UInt8)(dt:Nat->Prop):(aQ s C dt).length=if s.a.fl%2=1 then 16*((C.length+4095)/4096)else(C.length+255)/256:=by
 unfold aQ;split
 ·exact afF _ _
 ·simp
def df(d:Dk)(c:Nat):Bool:=decide (bH d.mp c=1)
def W_(d:Dk):qf d=cQ (df d) d.n:=rfl
noncomputable def Be(s:St)(C:List UInt8)(dt:Nat->Prop):Nat->Int:=CQ (aQ s C dt) s.pl (pN (aQ s C dt) s.pl (df s.d) s.d.n)
noncomputable def Cz(s:St)(C:List UInt8)(dt:Nat->Prop):List Int:=cQ (Be s C dt) (aQ s C dt).length
noncomputable def Gv(s:St)(C:List UInt8)(v:Int)(dt:Nat->Prop):At:=
 ⟨s.a.ty,s.a.nm,s.a.id,s.a.fl,false,[],0,.sl (nS (Cz s C dt)),bt (Cz s C dt)*256,C.length,v⟩
noncomputable def Md(s:St)(C:List UInt8)(v:Int)(dt:Nat->Prop):Int:=
 if w_ (aQ s C dt) s.pl (df s.d) s.d.n≠0 then w_ (aQ s C dt) s.pl (df s.d) s.d.n
 else if 64<(nS (Cz s C dt)).length\/gu (Gv s C v dt)≠0 then 8 else 0
noncomputable def XY(s:St)(C:List UInt8)(dt:Nat->Prop):Dk:=
 ⟨WA s.d.a_ (aQ s C dt) (Be s C dt) (aQ s C dt).length,mG (cQ (ZJ (pN (aQ s C dt) s.pl (df s.d) s.d.n) (sq (aQ s C dt) s.pl (df s.d))) s.d.n)⟩
def zD:Dk:=⟨[],[]⟩
structure adA(s:St):Prop where
 a_:s.d.a_.length<=200000
 mp:s.d.mp.length<=1000000
 n:s.d.n<=512
 bm:nu s.d.mp s.d.n=0
 fl:0<=s.a.fl/\s.a.fl<=7
 len:s.pl.length<=128
 pl:MH s.d.a_ s.pl
 nm:s.a.nm.length<=1000000
def X6{s:St}(h:adA s):∀a∈s.pl,-1<=a/\a<s.d.n:=λa ha=>by
 rcases h.pl a ha with h|h
 ·omega
 ·unfold Dk.n;omega
def auh{s:St}(h:adA s){ps:List (List UInt8)}(hl:ps.length<=1000)(hm:lT ps s.pl≠0)(he:ae ps s.pl (df s.d) s.d.n=0):
 Gat (mG (cQ (sq ps s.pl (df s.d)) s.d.n)) s.d.n (lT ps s.pl) (Ju (mG (cQ (sq ps s.pl (df s.d)) s.d.n)) s.d.n (lT ps s.pl) (UZ ps s.pl ps.length)):=by
 have hn:=h.n;have Vv:=DF (l:=cQ (sq ps s.pl (df s.d)) s.d.n) kD;rw[ck]at Vv;have xk:=aok (ps:=ps) (X6 h) ab ps.length;have:=agH ps s.pl ps.length;have aLa:lT ps s.pl=vF ps s.pl ps.length:=rfl;exact asI Vv.1 ab ab he
def auU{s:St}(h:adA s){ps:List (List UInt8)}(hl:ps.length<=1000)(he:w_ ps s.pl (df s.d) s.d.n=0){i:Nat}(hi:i<ps.length)(hn:jz ps i=true):
 0<=CQ ps s.pl (pN ps s.pl (df s.d) s.d.n) i/\CQ ps s.pl (pN ps s.pl (df s.d) s.d.n) i<s.d.n:=by
 unfold CQ;split
 ·rename_i hm;have h1:vF ps s.pl (i+1)<=lT ps s.pl:=RP ps s.pl ab;rw[xP,if_pos hm]at h1;unfold w_ at he;unfold pN;rw[if_neg ab]at he ⊢;have hg:=ag0 (auh h hl ab he);have hlen:vF ps s.pl i<(qv ps s.pl (df s.d) s.d.n).length:=by unfold qv;omega
  have hx:(qv ps s.pl (df s.d) s.d.n)[vF ps s.pl i]?=some ((qv ps s.pl (df s.d) s.d.n)[vF ps s.pl i]):=zah hlen;rw[hx,zbA];exact(hg.2.1 _ (zag hx)).1
 ·rename_i hm;have cb:nD ps s.pl i≠ -1:=by
   intro e;unfold G8 at hm;rw[hn,e]at hm;exact hm ao
  have h1:=X6 h _ (Dr cb);omega
def anB{Q p:List UInt8}{k:Int}(hk:0<=k/\(k+1)*256<=Q.length)(hp:p.length=256):
 (Q.map aL).take (k*256).toNat++(p.map aL).take ((Q.map aL).length-(k*256).toNat)++(Q.map aL).drop ((k*256).toNat+min (p.map aL).length ((Q.map aL).length-(k*256).toNat))=(MF Q k.toNat p).map aL:=by
 unfold MF;rw[zav,zav,hp,show(k*256).toNat=256*k.toNat by omega,show min 256 (Q.length-256*k.toNat)=256 by omega,
  za1 (l:=p.map aL) oP,zbu,zbu,List.map_take,zdN]
def T_(ps:List PV)(r:RV):Prop:=∃(s:St) (C:List UInt8) (v:Int) (c:PV) (dt:Nat->Prop),ps=[sP s,yJ C v c]/\(adA s/\C.length<=32768/\aly s c dt)/\
 r=.tup [.pv (if Md s C v dt=0 then XY s C dt else zD).pv,.pv (if Md s C v dt=0 then Gv s C v dt else zA).pv,.pv (pI (Md s C v dt))]
set_option maxHeartbeats 1000000 in
def ak9:MT (ay [(175,c8 true RC),(59,c8 true xj),(176,sB Zp),(177,c8 true aaA),(178,ah Uc),(131,ah nC),(61,ah Mn)]) x4 (c8 false T_):=by
 rintro _ K ⟨_,⟨s,C,v,c,dt,rfl,⟨h,h2,h3⟩,rfl⟩,hK⟩;have qG:=sK s C dt;have IH:(aQ s C dt).length<=200:=Su;have LQ:=auv s C dt;have hb:=X6 h;have avW:=λ(he:w_ (aQ s C dt) s.pl (df s.d) s.d.n=0) i hi hn=>auU h (ps:=aQ s C dt) ab he (i:=i) hi hn
 have cP:RC [sP s,yJ C v c] (.fresh 9 1 (strs (aQ s C dt))):=⟨s,C,v,c,dt,rfl,⟨ab,h3,h.fl,by have:=h.len;omega⟩,rfl⟩
 have ab6:xj [s.d.pv] (.fresh 4 1 ((qf s.d).map pB)):=⟨s.d,rfl,⟨by have:=h.a_;omega,h.mp,h.bm⟩,rfl⟩
 rw[W_]at ab6;have xm:Md s C v dt=if w_ (aQ s C dt) s.pl (df s.d) s.d.n≠0 then w_ (aQ s C dt) s.pl (df s.d) s.d.n else if 64<(nS (Cz s C dt)).length\/gu (Gv s C v dt)≠0 then 8 else 0:=rfl
 have MM:Cz s C dt=cQ (Be s C dt) (aQ s C dt).length:=rfl;have Zd:Be s C dt=CQ (aQ s C dt) s.pl (pN (aQ s C dt) s.pl (df s.d) s.d.n):=rfl;have hAd:Gv s C v dt=⟨s.a.ty,s.a.nm,s.a.id,s.a.fl,false,[],0,.sl (nS (Cz s C dt)),bt (Cz s C dt)*256,C.length,v⟩:=rfl;have hDd:XY s C dt=⟨WA s.d.a_ (aQ s C dt) (Be s C dt) (aQ s C dt).length,mG (cQ (ZJ (pN (aQ s C dt) s.pl (df s.d) s.d.n) (sq (aQ s C dt) s.pl (df s.d))) s.d.n)⟩:=rfl;generalize Md s C v dt=E at*;generalize Gv s C v dt=A at*;generalize XY s C dt=D at*;generalize Cz s C dt=L at*;rw[<-Zd]at avW;have aLc:∀i,Be s C dt i≠ -1\/Be s C dt i= -1:=λi=>ab
 generalize Be s C dt=P at*
 (repeat'((conv=>whnf);first|refine⟨_,cP,?_⟩|refine⟨_,ab6,?_⟩|fail))<;>try(conv=>whnf)
 clear cP ab6;generalize fp:aQ s C dt=ps at*;refine⟨s,ps,df s.d,s.d.n,rfl,rfl,⟨ab,by have:=h.len;omega,by have:=h.n;omega,hb⟩,λhe=>?_,λhe=>?_⟩
 ·rw[he,if_neg ao]at xm;have avW:=avW he;rw[<-Zd,<-MM];have hLl:L.length=ps.length:=by rw[MM];exact ck
  have hLb:∀a∈L,-1<=a/\a<=1000000:=λa ha=>by
   obtain⟨k,hk⟩:=jk.1 ha;rw[MM]at hk;obtain⟨SH,rfl⟩:=ajb hk;have hn:=h.n;cases cb:jz ps k with
   |true=>have:=avW k SH cb;omega
   |false=>
    rw[Zd];unfold CQ G8 nD;rw[cb];simp
  have Vr:=oG L;generalize ZJ (pN ps s.pl (df s.d) s.d.n) (sq ps s.pl (df s.d))=b at*;have avX:nC [A.pv] (pI (gu A)):=⟨A,rfl,by rw[hAd];exact h.nm,rfl⟩
  have hA1:A.pv=.agg [pI s.a.ty,.str s.a.nm,pI s.a.id,pI s.a.fl,pB false,.str [],pI 0,.sl 2 ((nS L).map Rn.pv),pI (bt L*256),pI C.length,pI v]:=by rw[hAd];rfl
  rw[hA1]at avX;have mW:=h.a_
  (repeat'((conv=>whnf);first|refine⟨_,⟨L,rfl,⟨ab,hLb⟩,rfl⟩,?_⟩|refine⟨_,⟨L,rfl,ab,rfl⟩,?_⟩|refine⟨_,avX,?_⟩|refine bj ab ?_|refine aw ab ?_|refine de (λ_=>?_) (λ_=>?_)|refine ez λ_=>?_|refine bT ?_|refine wz ?_|fail))<;>try(conv=>whnf)
  ·rename_i x;have x:64<(nS L).length:=ab;rw[if_pos (.inl x)]at xm;rw[xm,if_neg ao,if_neg ao]at hK;exact iN
  ·rename_i x;rw[if_pos (.inr x)]at xm;rw[xm,if_neg ao,if_neg ao]at hK;exact iN
  rename_i x0 x1 _;have x0:¬64<(nS L).length:=ab;rw[if_neg (λh=>h.elim x0 x1)]at xm;rw[xm,if_pos rfl,if_pos rfl]at hK;clear avX Vr hLb;have azP:∀i,jz ps i=true->0<=P i/\(P i+1)*256<=s.d.a_.length:=λi hi=>by
   obtain⟨p,hp,_⟩:=RJ.1 hi;have:=avW i (eT hp) hi;unfold Dk.n at this;omega
  have aHz:=RW (B:=s.d.a_) (P:=P) LQ azP;have qH:(strs ps).length=ps.length:=zav _;refine⟨λm env σ=>∃i:Nat,i+m=ps.length/\
   σ=[.box 23 [.pv (.str []),.pv (.str [])],.box 31 [.pv (pI 0),.pv (.str []),.pv (pI 0),.pv (pI 0),.pv (pB false),.pv (.str []),.pv (pI 0),.pv (.nil 2),.pv (pI 0),.pv (pI 0),.pv (pI 0)],rk b s.d.n,Lv L,
    .box 31 [.pv (pI s.a.ty),.pv (.str s.a.nm),.pv (pI s.a.id),.pv (pI s.a.fl),.pv (pB false),.pv (.str []),.pv (pI 0),.own 7,.pv (pI (bt L*256)),.pv (pI C.length),.pv (pI v)],
    .row 5 1 false ((WA s.d.a_ ps P i).map aL),Yq ps,.row 103 2 true ((nS L).map Rn.pv)]/\
   env=[(4,.ref 0 0 0),(5,.ref 1 0 0),(8,.own 2),(9,.own 3),(11,.ref 4 0 0),(12,.own 5),(83,.own 6),eN 84 (strs ps).length,eN 85 i],ps.length,⟨0,ab,rfl,rfl⟩,?_⟩
  rintro m env σ ⟨i,hi,rfl,rfl⟩;have aNh:=aHz i;by_cases aU:i<ps.length
  ·obtain⟨p,hp⟩:∃p,ps[i]?=some p:=⟨_,zah aU⟩
   have cb:jz ps i=decide (p≠[]):=X8;have hT:=TJ s.d.a_ ps P i;rw[hp,zbA]at hT;clear hK aHz;by_cases IH:p=[]
   ·subst IH;rw[cb,if_neg ao]at hT
    (repeat'((conv=>whnf);first|refine aw (p:=([]:List UInt8)≠[]) (by simp;first|done|fail) ?_|refine bj ab ?_|refine au ab ?_|refine uM aA ?_|refine Q3 ab ?_|fail))<;>try(conv=>whnf)
    exact⟨m-1,ab,i+1,ab,by rw[hT],rfl⟩
   ·have hnt:jz ps i=true:=by rw[cb];simpa using IH
    rw[hnt,if_pos rfl]at hT;have hPi:=azP i hnt;have aHA:=(LQ p (zag hp)).resolve_left IH;have hgL:(L.map pI)[((i:Nat):Int).toNat]?=some (pI (P i)):=by
     rw[zaC,za9,MM,bO aU];rfl
    generalize hQ:WA s.d.a_ ps P i=Q at*;have Zi:(Q.map aL).length=Q.length:=zav _
    (repeat'((conv=>whnf);first|refine au (p:=p≠[]) IH ?_|refine⟨_,hgL,?_⟩|refine Or.inr ?_|refine zc1 (by rw[Zi];omega) ?_|refine bj ab ?_|refine au ab ?_|refine uM aA ?_|refine Q3 ab ?_|fail))<;>try(conv=>whnf)
    have ly:=anB (Q:=Q) (p:=p) (k:=P i) ab aHA;exact⟨m-1,ab,i+1,ab,by rw[hT,<-ly],rfl⟩
  ·have hi:i=ps.length:=by omega
   subst hi;rw[hDd]at hK;rw[hA1]at hK
   (repeat'((conv=>whnf);first|refine⟨_,⟨cQ b s.d.n,rfl,by rw[ck];have:=h.n;omega,rfl⟩,?_⟩|refine aw ab ?_|refine yR ?_|refine bT ?_|fail))<;>try(conv=>whnf)
   exact⟨[.pv (Dk.mk _ _).pv,.pv (.agg [_,_,_,_,_,_,_,_,_,_,_]),.pv (pI _)],⟨rfl,rfl,rfl,trivial⟩,trivial,hK⟩
 ·rw[if_pos he]at xm;rw[xm,if_neg he,if_neg he]at hK
  (repeat'((conv=>whnf);first|refine au he ?_|refine bT ?_|fail))<;>try(conv=>whnf)
  exact iN
def YI(ps:List PV)(r:RV):Prop:=∃s:Rs,ps=[qF s]/\s.l.length<=1000000/\r=.fresh 103 2 (s.l.map Rn.pv)
def aga:MT (ay []) eu (c8 true YI):=by
 rintro _ K ⟨_,⟨s,rfl,h,rfl⟩,hK⟩;cases s with
 |nil=>
  (conv=>whnf)
  exact⟨.fresh _ _ _,⟨rfl,rfl,rfl,rfl⟩,(λ_ h=>bV),hK⟩
 |sl l=>
  refine λr hr=>?_
  cases r with
  |true=>
   have hl:l=[]:=by
    cases l with
    |nil=>rfl
    |cons x l=>exact absurd (hr aj) ao
   subst hl
   (conv=>whnf)
   exact⟨.fresh _ _ _,⟨rfl,rfl,rfl,rfl⟩,(λ_ h=>bV),hK⟩
  |false=>
   have h:l.length<=1000000:=h;have gJ:(l.map Rn.pv).length=l.length:=zav _
   (repeat'((conv=>whnf);first|refine zc1 aH ?_|refine bT ?_|fail))<;>try(conv=>whnf)
   exact vj
noncomputable def cg(s:St)(C:List UInt8)(v:Int)(dt:Nat->Prop):Int:=if s.a.rs=true/\C.length<=200 then 0 else Md s C v dt
noncomputable def lQ(s:St)(C:List UInt8)(v:Int)(dt:Nat->Prop):Dk:=if s.a.rs=true/\C.length<=200 then s.d else if Md s C v dt=0 then XY s C dt else zD
noncomputable def jK(s:St)(C:List UInt8)(v:Int)(dt:Nat->Prop):At:=if s.a.rs=true/\C.length<=200 then Hx s.a C else if Md s C v dt=0 then Gv s C v dt else zA
def Ay(ps:List PV)(r:RV):Prop:=∃(s:St) (C:List UInt8) (v:Int) (c:PV) (dt:Nat->Prop),ps=[sP s,yJ C v c]/\(adA s/\C.length<=32768/\aly s c dt)/\
 r=.tup [.pv (lQ s C v dt).pv,.pv (jK s C v dt).pv,.pv (pI (cg s C v dt))]
def ack:MT (ay [(62,ah Fj),(123,c8 false T_)]) tz (c8 false Ay):=by
 rintro _ K ⟨_,⟨s,C,v,c,dt,rfl,⟨h,h2,h3⟩,rfl⟩,hK⟩;have cP:T_ [sP s,yJ C v c] _:=⟨s,C,v,c,dt,rfl,⟨h,h2,h3⟩,rfl⟩
 unfold cg lQ jK at hK;cases c_:s.a.rs with
 |true=>
  by_cases hl:C.length<=200
  ·rw[if_pos ⟨c_,hl⟩,if_pos ⟨c_,hl⟩,if_pos ⟨c_,hl⟩]at hK
   (repeat'((conv=>whnf);first|refine oQ ?_|refine tW c_ ?_|(refine fe ?_;first|refine au ab ?_|refine⟨_,⟨_,_,rfl,rfl⟩,?_⟩|fail)))<;>try(conv=>whnf)
   exact⟨[.pv s.d.pv,.pv (Hx s.a C).pv,.pv (pI _)],⟨rfl,rfl,rfl,trivial⟩,trivial,hK⟩
  ·have hn:¬(s.a.rs=true/\C.length<=200):=λh=>hl h.2
   rw[if_neg hn,if_neg hn,if_neg hn]at hK
   (repeat'((conv=>whnf);first|refine tW c_ ?_|refine⟨_,cP,?_⟩|refine aw ab ?_|refine bT ?_|fail))<;>try(conv=>whnf)
   exact KW
 |false=>
  have hn:¬(s.a.rs=true/\C.length<=200):=λh=>by rw[c_]at h;exact absurd h.1 ao
  rw[if_neg hn,if_neg hn,if_neg hn]at hK
  (repeat'((conv=>whnf);first|refine qT c_ ?_|refine⟨_,cP,?_⟩|refine bT ?_|fail))<;>try(conv=>whnf)
  exact KW
def wU(d:Dk):Prop:=d.a_.length<=200000/\d.mp.length<=1000000
def pR{d:Dk}(h:wU d):fH d:=⟨by have:=h.1;omega,h.2⟩
def atF.st{d:Dk}{a:At}(h:atF d a)(hd:wU d)(hn:a.nm.length<=1000000):adA (ar d a):=
 ⟨hd.1,hd.2,h.nb,h.bm,⟨h.fl.1,by show a.fl<=7;have:=h.fl.2;omega⟩,h.len,h.pl,hn⟩
def bW(C:List UInt8)(p:Nat)(aa:List UInt8):List UInt8:=(mF C (p+aa.length)).take p++aa++(mF C (p+aa.length)).drop (p+aa.length)
noncomputable def yE(d:Dk)(a:At)(p:Int)(aa:List UInt8):Int:=if aK d a≠0 then aK d a else if ¬iU p then 2 else if 32768-p<aa.length then 8 else 0
noncomputable def AO(d:Dk)(a:At)(p:Int)(aa:List UInt8):Int:=
 if yE d a p aa≠0 then yE d a p aa else if aa=[]then 0
 else cg (ar d a) (bW (aV (ar d a)) p.toNat aa) (max (cG a) (p+aa.length)) (b8 (ar d a) p (p+aa.length))
noncomputable def zM(d:Dk)(a:At)(p:Int)(aa:List UInt8):Dk:=
 if yE d a p aa≠0 then zD else if aa=[]then d
 else lQ (ar d a) (bW (aV (ar d a)) p.toNat aa) (max (cG a) (p+aa.length)) (b8 (ar d a) p (p+aa.length))
noncomputable def yV(d:Dk)(a:At)(p:Int)(aa:List UInt8):At:=
 if yE d a p aa≠0 then zA else if aa=[]then{ a with rn:=.sl a.rn.l }
 else jK (ar d a) (bW (aV (ar d a)) p.toNat aa) (max (cG a) (p+aa.length)) (b8 (ar d a) p (p+aa.length))
def ZM{e:Int}{l:List Int}(h:e≠0):bQ (0::e::l)≠0:=by simp[bQ,h]
def z0:¬(0:Int)≠0:=ao
def z2:(2:Int)≠0:=ao
def z8:(8:Int)≠0:=ao
def n0:([]:List UInt8)=[]:=rfl
def xx(C:List UInt8)(p:Nat)(aa:List UInt8):(bW C p aa).length=max C.length (p+aa.length):=by
 have:(mF C (p+aa.length)).length=max C.length (p+aa.length):=by unfold mF;rw[zad,aW];omega
 unfold bW;simp only[zad,zal,zax,this];omega
def fm(ps:List PV)(r:RV):Prop:=∃(d:Dk) (a:At) (p:Int) (aa:List UInt8),ps=[d.pv,a.pv,pI p,.str aa]/\(wU d/\a.nm.length<=1000000/\a.rn.l.length<=1000000/\aa.length<=1000000)/\
 r=.tup [.pv (zM d a p aa).pv,.pv (yV d a p aa).pv,.pv (pI (AO d a p aa))]
set_option maxHeartbeats 1000000 in
def adi:MT (ay [(58,xt),(98,bF wR),(97,ah dG),(96,ah gB),(99,c8 true YI),(94,ah tN),(100,ah Bf),(102,ah WX),(101,c8 false Ay)]) Fi (c8 false fm):=by
 rintro _ K ⟨_,⟨d,a,p,aa,rfl,⟨h1,h2,h3,h4⟩,rfl⟩,hK⟩;refine⟨d,a,rfl,⟨pR h1,h2⟩,λh=>?_,λh v hv=>?_⟩
 ·have sM:=(bc h).1;have mE:=Jh sM;have cP:=J5 sM (pR h1);have fM:=sM.st h1 h2;by_cases Ax:0<=p/\p<=32768
  ·by_cases xp:(aa.length:Int)<=32768-p
   ·have he:yE d a p aa=0:=by unfold yE iU;rw[if_neg (λe=>e h),if_neg (λe=>e Ax),if_neg ab]
    unfold AO zM yV at hK;rw[he,if_neg z0,if_neg z0,if_neg z0]at hK;by_cases cO:aa=[]
    ·subst cO;rw[if_pos n0,if_pos n0,if_pos n0]at hK
     (repeat'((conv=>whnf);first|refine au Ax ?_|refine oQ ?_|refine au (p:=([]:List UInt8)=[]) rfl ?_|refine⟨_,⟨a.rn,rfl,h3,rfl⟩,?_⟩|(refine fe ?_;first|refine bj ab ?_|refine au ab ?_|refine aw ao ?_|refine⟨_,⟨_,rfl,rfl⟩,?_⟩|refine⟨_,⟨_,_,rfl,rfl⟩,?_⟩|refine⟨_,⟨[_,_,_],rfl,rfl⟩,?_⟩|fail)))<;>try(conv=>whnf)
     exact⟨[.pv d.pv,.pv (At.pv { a with rn:=.sl a.rn.l }),.pv (pI _)],⟨rfl,rfl,rfl,trivial⟩,trivial,hK⟩
    ·rw[if_neg cO,if_neg cO,if_neg cO]at hK;have UH:Ay [sP (ar d a),yJ (bW (aV (ar d a)) p.toNat aa) (max (cG a) (p+aa.length)) (.clo 103 [.cptr (sP (ar d a)),.cptr (rV p (p+aa.length))])] _:=
      ⟨ar d a,_,_,_,_,rfl,⟨fM,by rw[xx];omega,.write p (p+aa.length)⟩,rfl⟩
     have avY:aV (ar d a)++ai (p+aa.length-(aV (ar d a)).length).toNat=mF (aV (ar d a)) (p.toNat+aa.length):=by
      unfold mF;congr 2;omega
     unfold bW at hK UH;have ml:(mF (aV (ar d a)) (p.toNat+aa.length)).length<=32768/\p.toNat+aa.length<=(mF (aV (ar d a)) (p.toNat+aa.length)).length:=by
      unfold mF;rw[zad,aW];omega
     generalize aV (ar d a)=C0 at*;generalize mF C0 (p.toNat+aa.length)=Z at*;have Oi:cut 0 p.toNat Z=Z.take p.toNat:=Gm;have Cw:cut (p+aa.length).toNat Z.length Z=Z.drop (p.toNat+aa.length):=by unfold cut;rw[zc7];congr 1;omega
     have pj:(Z.take p.toNat).length<=32768:=eI;have cH:(Z.drop (p.toNat+aa.length)).length<=32768:=ef
     (repeat'((conv=>whnf);first|refine au Ax ?_|refine oQ ?_|refine aw cO ?_|refine⟨_,cP,?_⟩|rw[avY]|rw[Oi]|rw[Cw]|refine zc1 (by(simp only[zad];omega)) ?_|refine⟨_,UH,?_⟩|(refine fe ?_;first|refine bj ab ?_|refine au ab ?_|refine aw ao ?_|refine fQ ?_|refine⟨_,⟨_,rfl,rfl⟩,?_⟩|refine⟨_,⟨_,_,rfl,rfl⟩,?_⟩|refine⟨_,⟨_,_,rfl,cZ,rfl⟩,?_⟩|refine wz ?_|refine⟨_,⟨[_,_,_],rfl,rfl⟩,?_⟩|fail)))<;>try(conv=>whnf)
     exact KW
   ·have he:yE d a p aa=8:=by unfold yE iU;rw[if_neg (λe=>e h),if_neg (λe=>e Ax),if_pos ab]
    unfold AO zM yV at hK;rw[he,if_pos z8,if_pos z8,if_pos z8]at hK
    (repeat'((conv=>whnf);first|refine au Ax ?_|(refine fe ?_;first|refine bj ab ?_|refine aw ab ?_|refine au ao ?_|refine bT ?_|refine⟨_,⟨_,rfl,rfl⟩,?_⟩|refine⟨_,⟨_,_,rfl,rfl⟩,?_⟩|refine⟨_,⟨[_,_,_],rfl,rfl⟩,?_⟩|fail)))<;>try(conv=>whnf)
    exact iN
  ·have he:yE d a p aa=2:=by unfold yE iU;rw[if_neg (λe=>e h),if_pos Ax]
   unfold AO zM yV at hK;rw[he,if_pos z2,if_pos z2,if_pos z2]at hK
   (repeat'((conv=>whnf);first|refine aw Ax ?_|refine au (ZM ao) ?_|refine λx _=>?_|(refine fe ?_;first|refine bT ?_|refine⟨_,⟨_,rfl,rfl⟩,?_⟩|refine⟨_,⟨_,_,rfl,rfl⟩,?_⟩|refine⟨_,⟨[_,_,_],rfl,rfl⟩,?_⟩|fail)))<;>try(conv=>whnf)
   exact iN
 ·have he:yE d a p aa=aK d a:=by unfold yE;rw[if_pos h]
  unfold AO zM yV at hK;rw[he,if_pos h,if_pos h,if_pos h]at hK;clear he;rcases hv with rfl|rfl
  ·(repeat'((conv=>whnf);first|refine au K1 ?_|refine λx _=>?_|(refine fe ?_;first|refine bT ?_|refine⟨_,⟨_,rfl,rfl⟩,?_⟩|refine⟨_,⟨_,_,rfl,rfl⟩,?_⟩|refine⟨_,⟨[_,_,_],rfl,rfl⟩,?_⟩|fail)))<;>try(conv=>whnf)
   rw[q9 h];exact iN
  ·(repeat'((conv=>whnf);first|refine au K1 ?_|refine λx _=>?_|(refine fe ?_;first|refine bT ?_|refine⟨_,⟨_,rfl,rfl⟩,?_⟩|refine⟨_,⟨_,_,rfl,rfl⟩,?_⟩|refine⟨_,⟨[_,_,_],rfl,rfl⟩,?_⟩|fail)))<;>try(conv=>whnf)
   rw[q9 h];exact iN
def M9(C:List UInt8)(n:Nat):List UInt8:=(mF C n).take n
def Ag(C:List UInt8)(n:Nat):(M9 C n).length=n:=by
 unfold M9 mF;rw[zal,zad,aW];omega
noncomputable def D8(d:Dk)(a:At)(n:Int):Int:=if aK d a≠0 then aK d a else if ¬iU n then 2 else 0
noncomputable def Jb(d:Dk)(a:At)(n:Int):Int:=if D8 d a n≠0 then D8 d a n else cg (ar d a) (M9 (aV (ar d a)) n.toNat) (min (cG a) n) (Yk (ar d a))
noncomputable def Jf(d:Dk)(a:At)(n:Int):Dk:=if D8 d a n≠0 then zD else lQ (ar d a) (M9 (aV (ar d a)) n.toNat) (min (cG a) n) (Yk (ar d a))
noncomputable def LA(d:Dk)(a:At)(n:Int):At:=if D8 d a n≠0 then zA else jK (ar d a) (M9 (aV (ar d a)) n.toNat) (min (cG a) n) (Yk (ar d a))
def ko(ps:List PV)(r:RV):Prop:=∃(d:Dk) (a:At) (n:Int),ps=[d.pv,a.pv,pI n]/\(wU d/\a.nm.length<=1000000)/\
 r=.tup [.pv (Jf d a n).pv,.pv (LA d a n).pv,.pv (pI (Jb d a n))]
set_option maxHeartbeats 1000000 in
def V6:MT (ay [(58,xt),(98,bF wR),(97,ah dG),(96,ah gB),(94,ah tN),(100,ah Bf),(102,ah WX),(101,c8 false Ay)]) Gb (c8 false ko):=by
 rintro _ K ⟨_,⟨d,a,n,rfl,⟨h1,h2⟩,rfl⟩,hK⟩;refine⟨d,a,rfl,⟨pR h1,h2⟩,λh=>?_,λh v hv=>?_⟩
 ·have sM:=(bc h).1;have mE:=Jh sM;have cP:=J5 sM (pR h1);have fM:=sM.st h1 h2;by_cases Ax:0<=n/\n<=32768
  ·have he:D8 d a n=0:=by unfold D8 iU;rw[if_neg (λe=>e h),if_neg (λe=>e Ax)]
   unfold Jb Jf LA at hK;rw[he,if_neg z0,if_neg z0,if_neg z0]at hK;have UH:Ay [sP (ar d a),yJ (M9 (aV (ar d a)) n.toNat) (min (cG a) n) (.clo 121 [.cptr (sP (ar d a))])] _:=
    ⟨ar d a,_,_,_,_,rfl,⟨fM,by rw[Ag];omega,.size⟩,rfl⟩
   have avY:aV (ar d a)++ai (n-(aV (ar d a)).length).toNat=mF (aV (ar d a)) n.toNat:=by
    unfold mF;congr 2;omega
   unfold M9 at hK UH;have ml:(mF (aV (ar d a)) n.toNat).length<=32768/\n.toNat<=(mF (aV (ar d a)) n.toNat).length:=by
    unfold mF;rw[zad,aW];omega
   generalize aV (ar d a)=C0 at*;generalize mF C0 n.toNat=Z at*;have Oi:cut 0 n.toNat Z=Z.take n.toNat:=Gm
   (repeat'((conv=>whnf);first|refine au Ax ?_|refine oQ ?_|refine⟨_,cP,?_⟩|rw[avY]|rw[Oi]|refine⟨_,UH,?_⟩|(refine fe ?_;first|refine aw ao ?_|refine I8 ?_|refine⟨_,⟨_,rfl,rfl⟩,?_⟩|refine⟨_,⟨_,_,rfl,rfl⟩,?_⟩|refine⟨_,⟨_,_,rfl,cZ,rfl⟩,?_⟩|refine wz ?_|refine⟨_,⟨[_,_],rfl,rfl⟩,?_⟩|fail)))<;>try(conv=>whnf)
   exact KW
  ·have he:D8 d a n=2:=by unfold D8 iU;rw[if_neg (λe=>e h),if_pos Ax]
   unfold Jb Jf LA at hK;rw[he,if_pos z2,if_pos z2,if_pos z2]at hK
   (repeat'((conv=>whnf);first|refine aw Ax ?_|(refine fe ?_;first|refine au ao ?_|refine bT ?_|refine⟨_,⟨_,rfl,rfl⟩,?_⟩|refine⟨_,⟨_,_,rfl,rfl⟩,?_⟩|refine⟨_,⟨[_,_],rfl,rfl⟩,?_⟩|fail)))<;>try(conv=>whnf)
   exact iN
 ·have he:D8 d a n=aK d a:=by unfold D8;rw[if_pos h]
  unfold Jb Jf LA at hK;rw[he,if_pos h,if_pos h,if_pos h]at hK;clear he;rcases hv with rfl|rfl
  all_goals
   (repeat'((conv=>whnf);first|refine au K1 ?_|refine λx _=>?_|(refine fe ?_;first|refine bT ?_|refine⟨_,⟨_,rfl,rfl⟩,?_⟩|refine⟨_,⟨_,_,rfl,rfl⟩,?_⟩|refine⟨_,⟨[_,_],rfl,rfl⟩,?_⟩|fail)))<;>try(conv=>whnf)
   rw[q9 h];exact iN
def sD(C:List UInt8)(f t:Nat):List UInt8:=C.take f++ai (t-f)++C.drop t
def dz(C:List UInt8)(p:Int):Int:=min p C.length
def dX(C:List UInt8)(p n:Int):Int:=min C.length (dz C p+n)
noncomputable def KF(d:Dk)(a:At)(p n:Int):Int:=if aK d a≠0 then aK d a else if ¬(iU p/\iU n)then 2 else 0
noncomputable def QC(d:Dk)(a:At)(p n:Int):List UInt8:=sD (aV (ar d a)) (dz (aV (ar d a)) p).toNat (dX (aV (ar d a)) p n).toNat
noncomputable def ju(d:Dk)(a:At)(p n:Int):Nat->Prop:=yN (ar d a) (dz (aV (ar d a)) p) (dX (aV (ar d a)) p n) (QC d a p n).length
noncomputable def jm(d:Dk)(a:At)(p n:Int):Int:=if KF d a p n≠0 then KF d a p n else if a.rs=true then 0 else Md (ar d a) (QC d a p n) a.vd (ju d a p n)
noncomputable def jU(d:Dk)(a:At)(p n:Int):Dk:=if KF d a p n≠0 then zD else if a.rs=true then d else if Md (ar d a) (QC d a p n) a.vd (ju d a p n)=0 then XY (ar d a) (QC d a p n) (ju d a p n)else zD
noncomputable def js(d:Dk)(a:At)(p n:Int):At:=if KF d a p n≠0 then zA else if a.rs=true then Hx a (QC d a p n)else if Md (ar d a) (QC d a p n) a.vd (ju d a p n)=0 then Gv (ar d a) (QC d a p n) a.vd (ju d a p n)else zA
def Xa{C:List UInt8}{f t:Nat}(h:f<=t/\t<=C.length):(sD C f t).length=C.length:=by
 unfold sD;simp only[zad,zal,zax,aW];omega
def Ss(ps:List PV)(r:RV):Prop:=∃(d:Dk) (a:At) (p n:Int),ps=[d.pv,a.pv,pI p,pI n]/\(wU d/\a.nm.length<=1000000)/\
 r=.tup [.pv (jU d a p n).pv,.pv (js d a p n).pv,.pv (pI (jm d a p n))]
set_option maxHeartbeats 1000000 in
def Zw:MT (ay [(58,xt),(98,bF wR),(97,ah dG),(96,ah gB),(94,ah tN),(122,ah EI),(62,ah Fj),(123,c8 false T_)]) Ir (c8 false Ss):=by
 rintro _ K ⟨_,⟨d,a,p,n,rfl,⟨h1,h2⟩,rfl⟩,hK⟩;refine⟨d,a,rfl,⟨pR h1,h2⟩,λh=>?_,λh v hv=>?_⟩
 ·have sM:=(bc h).1;have mE:=Jh sM;have cP:=J5 sM (pR h1);have fM:=sM.st h1 h2;by_cases Ax:(0<=p/\p<=32768)/\(0<=n/\n<=32768)
  ·have he:KF d a p n=0:=by unfold KF iU;rw[if_neg (λe=>e h),if_neg (λe=>e Ax)]
   obtain⟨hp,hn⟩:=Ax;unfold jm jU js at hK;rw[he,if_neg z0,if_neg z0,if_neg z0]at hK;have hN:QC d a p n=sD (aV (ar d a)) (dz (aV (ar d a)) p).toNat (dX (aV (ar d a)) p n).toNat:=rfl;have hQ:ju d a p n=yN (ar d a) (dz (aV (ar d a)) p) (dX (aV (ar d a)) p n) (QC d a p n).length:=rfl;have eK:(QC d a p n).length=(aV (ar d a)).length:=by rw[hN];exact Xa (by unfold dX dz;omega)
   have PA:T_ [sP (ar d a),yJ (QC d a p n) a.vd (.clo 124 [.cptr (sP (ar d a)),.cptr (rV (dz (aV (ar d a)) p) (dX (aV (ar d a)) p n)),.cptr (.str (QC d a p n))])] _:=
    ⟨ar d a,_,_,_,_,rfl,⟨fM,ab,.zero (dz (aV (ar d a)) p) (dX (aV (ar d a)) p n) (QC d a p n)⟩,rfl⟩
   rw[<-hQ]at PA;generalize ju d a p n=Qd at*;unfold dz dX dz sD at*;generalize QC d a p n=N at*;generalize aV (ar d a)=C0 at*;have Oi:cut 0 (min p (C0.length:Int)).toNat C0=C0.take (min p (C0.length:Int)).toNat:=Gm;have Cw:cut (min (C0.length:Int) (min p (C0.length:Int)+n)).toNat C0.length C0=C0.drop (min (C0.length:Int) (min p (C0.length:Int)+n)).toNat:=by unfold cut;rw[zc7]
   have hNc:C0.take (min p (C0.length:Int)).toNat++ai (min (C0.length:Int) (min p (C0.length:Int)+n)-min p (C0.length:Int)).toNat++C0.drop (min (C0.length:Int) (min p (C0.length:Int)+n)).toNat=N:=by
    rw[hN];congr 3;omega
   cases c_:a.rs with
   |true=>
    rw[if_pos c_,if_pos c_,if_pos c_]at hK
    (repeat'((conv=>whnf);first|refine au hp ?_|refine au hn ?_|refine oQ ?_|refine⟨_,cP,?_⟩|rw[Oi]|rw[Cw]|refine zc1 ah6 ?_|rw[hNc]|refine tW c_ ?_|refine⟨_,⟨ar d a,N,rfl,rfl⟩,?_⟩|(refine fe ?_;first|refine bj ab ?_|refine aw ao ?_|refine I8 ?_|refine⟨_,⟨_,rfl,rfl⟩,?_⟩|refine⟨_,⟨_,_,rfl,rfl⟩,?_⟩|refine⟨_,⟨_,rfl,cZ,rfl⟩,?_⟩|refine wz ?_|refine⟨_,⟨[_,_],rfl,rfl⟩,?_⟩|fail)))<;>try(conv=>whnf)
    exact⟨[.pv d.pv,.pv (Hx a N).pv,.pv (pI _)],⟨rfl,rfl,rfl,trivial⟩,trivial,hK⟩
   |false=>
    have xk:¬a.rs=true:=qD;rw[if_neg xk,if_neg xk,if_neg xk]at hK
    (repeat'((conv=>whnf);first|refine au hp ?_|refine au hn ?_|refine oQ ?_|refine⟨_,cP,?_⟩|rw[Oi]|rw[Cw]|refine zc1 ah6 ?_|rw[hNc]|refine qT c_ ?_|refine⟨_,PA,?_⟩|(refine fe ?_;first|refine bj ab ?_|refine aw ao ?_|refine I8 ?_|refine⟨_,⟨_,rfl,rfl⟩,?_⟩|refine⟨_,⟨_,_,rfl,rfl⟩,?_⟩|refine⟨_,⟨_,rfl,cZ,rfl⟩,?_⟩|refine wz ?_|refine⟨_,⟨[_,_],rfl,rfl⟩,?_⟩|fail)))<;>try(conv=>whnf)
    exact KW
  ·have he:KF d a p n=2:=by unfold KF iU;rw[if_neg (λe=>e h),if_pos Ax]
   unfold jm jU js at hK;rw[he,if_pos z2,if_pos z2,if_pos z2]at hK;by_cases hp:0<=p/\p<=32768
   ·have hn:¬(0<=n/\n<=32768):=λhn=>Ax ⟨hp,hn⟩
    (repeat'((conv=>whnf);first|refine au hp ?_|refine aw hn ?_|(refine fe ?_;first|refine au ao ?_|refine bT ?_|refine⟨_,⟨_,rfl,rfl⟩,?_⟩|refine⟨_,⟨_,_,rfl,rfl⟩,?_⟩|refine⟨_,⟨[_,_],rfl,rfl⟩,?_⟩|fail)))<;>try(conv=>whnf)
    exact iN
   ·(repeat'((conv=>whnf);first|refine aw hp ?_|(refine fe ?_;first|refine au ao ?_|refine bT ?_|refine⟨_,⟨_,rfl,rfl⟩,?_⟩|refine⟨_,⟨_,_,rfl,rfl⟩,?_⟩|refine⟨_,⟨[_,_],rfl,rfl⟩,?_⟩|fail)))<;>try(conv=>whnf)
    exact iN
 ·have he:KF d a p n=aK d a:=by unfold KF;rw[if_pos h]
  unfold jm jU js at hK;rw[he,if_pos h,if_pos h,if_pos h]at hK;clear he;rcases hv with rfl|rfl
  all_goals
   (repeat'((conv=>whnf);first|refine au K1 ?_|(refine fe ?_;first|refine de (λ_=>?_) (λ_=>?_)|refine bT ?_|refine⟨_,⟨_,rfl,rfl⟩,?_⟩|refine⟨_,⟨_,_,rfl,rfl⟩,?_⟩|refine⟨_,⟨[_,_],rfl,rfl⟩,?_⟩|fail)))<;>try(conv=>whnf)
   all_goals
    rw[q9 h];exact iN
def gP(d:Dk)(pl:List Int)(c:Nat):Bool:=df d c&&!decide ((c:Int)∈pl)
noncomputable def frE(d:Dk)(a:At):Int:=aK d a
noncomputable def NA(d:Dk)(a:At):Dk:=open Classical in if aK d a≠0 then zD else⟨d.a_,mG (cQ (gP d (az a.rn.l)) d.n)⟩
noncomputable def l6(d:Dk)(a:At):At:=open Classical in if aK d a≠0 then zA else Hx a []
def WZ(ps:List PV)(r:RV):Prop:=∃(d:Dk) (a:At),ps=[d.pv,a.pv]/\(wU d/\a.nm.length<=1000000)/\
 r=.tup [.pv (NA d a).pv,.pv (l6 d a).pv,.pv (pI (frE d a))]
def ajp:MT (ay [(58,xt),(59,c8 true xj),(60,bF GM),(61,ah Mn),(62,ah Fj)]) JZ (c8 false WZ):=by
 rintro _ K ⟨_,⟨d,a,rfl,⟨h1,h2⟩,rfl⟩,hK⟩;refine⟨d,a,rfl,⟨pR h1,h2⟩,λh=>?_,λh v hv=>?_⟩
 ·have sM:=(bc h).1;have hb:=X6 (sM.st h1 h2);have hb:∀x∈az a.rn.l,-1<=x/\x<d.n:=hb;have Ee:=sM.len;have kr:=sM.nb;unfold frE NA l6 at hK;have x3:¬aK d a≠0:=λe=>e h
  rw[if_neg x3,if_neg x3,h]at hK;have ab6:xj [d.pv] (.fresh 4 1 ((cQ (df d) d.n).map pB)):=⟨d,rfl,⟨by have:=h1.1;omega,h1.2,sM.bm⟩,by rw[<-W_]⟩
  (repeat'((conv=>whnf);first|refine⟨_,ab6,?_⟩|refine aw ab ?_|refine ez λ_=>?_|fail))<;>try(conv=>whnf)
  have qG:(ar d a).pl=az a.rn.l:=rfl;generalize AU:az a.rn.l=PL at*;have pe:gP d PL=λc=>df d c&&!decide ((c:Int)∈PL.take PL.length):=by rw[zc7];rfl
  rw[pe]at hK;refine⟨λm env σ=>∃n:Nat,n+m=PL.length/\σ=[.box 23 [.pv (.str d.a_),.pv (.str d.mp)],.box 23 [.pv (.str []),.pv (.str [])],.box 31 [.pv (pI 0),.pv (.str []),.pv (pI 0),.pv (pI 0),.pv (pB false),.pv (.str []),.pv (pI 0),.pv (.nil 2),.pv (pI 0),.pv (pI 0),.pv (pI 0)],rk (λc=>df d c&&!decide ((c:Int)∈PL.take n)) d.n]/\
   env=[(2,.ref 0 0 0),(4,.ref 1 0 0),(5,.ref 2 0 0),(7,.pv (sP (ar d a))),(9,.own 3),(28,.pv (rI PL)),eN 29 PL.length,eN 30 n],PL.length,⟨0,ab,?_,?_⟩,?_⟩
  ·simp only[rk];rw[show cQ (λc=>df d c&&!decide ((c:Int)∈PL.take 0)) d.n=cQ (df d) d.n from kT λc _=>aj]
  ·rw[qG];rfl
  rintro m env σ ⟨n,hn,rfl,rfl⟩;by_cases aU:n<PL.length
  ·obtain⟨x,hx⟩:∃x,PL[n]?=some x:=⟨_,zah aU⟩
   have Xu:=hb x (zag hx);have kv:∀y,y∈PL.take (n+1)↔y∈PL.take n\/y=x:=λy=>by rw[zc2,hx];simp
   clear hK;by_cases h0:x= -1
   ·subst h0;have hT:cQ (λc=>df d c&&!decide ((c:Int)∈PL.take (n+1))) d.n=cQ (λc=>df d c&&!decide ((c:Int)∈PL.take n)) d.n:=kT λc _=>by
     have:((c:Int)∈PL.take (n+1))↔((c:Int)∈PL.take n):=⟨λh=>((kv _).1 h).elim id (λh=>ab),λh=>(kv _).2 (.inl h)⟩
     simp only[this]
    (repeat'(refine iM ?_;first|refine bj ab ?_|refine aN ?_|refine au ab ?_|refine iY aA ?_|refine⟨_,⟨_,rfl,rfl⟩,?_⟩|fail))<;>try(conv=>whnf)
    exact⟨m-1,ab,n+1,ab,by simp only[rk];rw[hT],rfl⟩
   ·have hT:((cQ (λc=>df d c&&!decide ((c:Int)∈PL.take n)) d.n).map pB).set x.toNat (pB false)=(cQ (λc=>df d c&&!decide ((c:Int)∈PL.take (n+1))) d.n).map pB:=by
     rw[<-zdI,oq];congr 1;refine kT λc hc=>?_
     by_cases h:c=x.toNat
     ·have:(c:Int)=x:=by omega
      rw[if_pos h,this];simp[kv]
     ·rw[if_neg h];have:((c:Int)∈PL.take (n+1))↔((c:Int)∈PL.take n):=⟨λh=>((kv _).1 h).elim id (λh=>ab),λh=>(kv _).2 (.inl h)⟩
      simp only[this]
    (repeat'(refine iM ?_;first|refine bj ab ?_|refine bP ?_|refine au ab ?_|refine aw ab ?_|refine iY aA ?_|refine Vx ab ?_|refine Ug ab ?_|refine bT ?_|refine⟨_,⟨_,rfl,rfl⟩,?_⟩|fail))<;>try(conv=>whnf)
    exact⟨m-1,ab,n+1,ab,by simp only[rk];rw[<-hT],rfl⟩
  ·have hn:n=PL.length:=by omega
   subst hn;have aLw:Fj [sP (ar d a),.str []] (Hx a []).pv:=⟨ar d a,[],rfl,rfl⟩
   (repeat'((conv=>whnf);first|refine oQ ?_|refine⟨_,⟨cQ (λc=>df d c&&!decide ((c:Int)∈PL.take PL.length)) d.n,rfl,kD,rfl⟩,?_⟩|refine⟨_,aLw,?_⟩|refine aw ab ?_|fail))<;>try(conv=>whnf)
   exact⟨[.pv (.agg [_,_]),.pv (Hx a []).pv,.pv (pI _)],⟨rfl,rfl,rfl,trivial⟩,trivial,hK⟩
 ·have he:aK d a≠0:=h;unfold frE NA l6 at hK;rw[if_pos h,if_pos h]at hK;rcases hv with rfl|rfl
  all_goals
   (repeat'((conv=>whnf);first|refine au h ?_|refine bT ?_|fail))<;>try(conv=>whnf)
   exact iN
def Jc(pl:List Int)(i:Nat):Bool:=decide (pl[i]?.getD (-1)≠ -1)
def r8{s:Rs}(h:dU s.l=0):dL [qF s] (.pv (rI (az s.l))):=by
 have gr:=bZ h;exact⟨s,rfl,⟨ab,λr hr=>abM⟩,rfl⟩
def ED{l:List Rn}(h:dU l=0):(az l).length<=4096∧∀x∈az l,-1<=x/\x<=511:=by
 have g:=bZ h;have h1:=xA (l:=l) λr hr=>by have:=rG (g.2.2.2 r hr);omega
 exact⟨ab,arU g.2.2.2⟩
def Ji(ps:List PV)(p:Prop):Prop:=∃(l:List Bool) (v:Bool),ps=[.sl 1 (l.map pB),pB v]/\l.length<=1000000/\p=(v∈l)
def T6:MT (ay [(237,Sn)]) jO (bF Ji):=by
 rintro args K ⟨_,⟨l,v,h1,h2,rfl⟩,hK⟩;exact VP args K ⟨l,v,h1,h2,hK⟩
def Pv(s:St)(p:Int)(tr:Rn):Prop:=0<=p/\(0<=tr.s/\tr.s<=s.d.n-1)/\(1<=tr.n/\tr.n<=s.d.n-tr.s)
instance (s:St) (p:Int) (tr:Rn):Decidable (Pv s p tr):=by unfold Pv;infer_instance
def SJ(s:St)(p:Int)(tr:Rn):Int:=
 if s.a.rs=true then 20 else if ¬Pv s p tr then 2 else if (s.pl.length:Int)-tr.n<p then 37
 else if (bt ((s.pl.drop p.toNat).take tr.n.toNat):Int)≠tr.n then 3 else if true∈((cQ (df s.d) s.d.n).drop tr.s.toNat).take tr.n.toNat then 18 else 0
def Mk(ps:List PV)(x:PV):Prop:=∃(s:St) (p:Int) (tr:Rn),ps=[sP s,pI p,tr.pv]/\adA s/\x=pI (SJ s p tr)
def LX{α β:Type}(f:α->β)(l:List α){a n:Nat}:cut a (a+n) (l.map f)=((l.drop a).take n).map f:=by
 unfold cut;rw[zdA,show a+n-a=n by omega,List.map_take,zdN]
set_option maxHeartbeats 1000000 in
def acp:MT (ay [(138,ah bA),(160,bF bG),(97,ah dG),(96,ah gB),(59,c8 true xj),(178,ah Uc),(184,bF Ji)]) tx (ah Mk):=by
 rintro _ K ⟨_,⟨s,p,tr,rfl,h,rfl⟩,hK⟩;have mW:=h.a_;have kr:=h.n;have Ee:=h.len;have ab6:xj [s.d.pv] (.fresh 4 1 ((cQ (df s.d) s.d.n).map pB)):=⟨s.d,rfl,⟨ab,h.mp,h.bm⟩,by rw[<-W_]⟩
 have XJ:(s.pl.map pI).length=s.pl.length:=zav _;by_cases c_:s.a.rs=true
 ·have he:SJ s p tr=20:=by unfold SJ;rw[if_pos c_]
  rw[he]at hK
  (repeat'((conv=>whnf);first|refine⟨_,⟨s.d,rfl,ab,rfl⟩,?_⟩|refine aw (p:=s.a.rs=false) qD ?_|refine au (by rw[q9 ao];decide) ?_|(refine fe ?_;first|refine bj ab ?_|refine de (λ_=>?_) (λ_=>?_)|refine bT ?_|refine⟨_,⟨_,_,rfl,rfl⟩,?_⟩|refine⟨_,⟨_,_,_,rfl,rfl⟩,?_⟩|refine⟨_,⟨[_,_],rfl,rfl⟩,?_⟩|fail)))<;>try(conv=>whnf)
  all_goals exact aG
 have aDY:s.a.rs=false:=by simpa using c_
 by_cases di:Pv s p tr
 ·have UF:=di;unfold Pv at di;by_cases adL:(s.pl.length:Int)-tr.n<p
  ·have he:SJ s p tr=37:=by unfold SJ;rw[if_neg c_,if_neg (λe=>e UF),if_pos adL]
   rw[he]at hK
   (repeat'((conv=>whnf);first|refine⟨_,⟨s.d,rfl,ab,rfl⟩,?_⟩|refine au (p:=s.a.rs=false) aDY ?_|refine oQ ?_|refine au xI ?_|(refine fe ?_;first|refine bj ab ?_|refine au ab ?_|refine aw ao ?_|refine⟨_,⟨_,_,rfl,rfl⟩,?_⟩|refine⟨_,⟨_,_,_,rfl,rfl⟩,?_⟩|refine⟨_,⟨[_,_],rfl,rfl⟩,?_⟩|fail)))<;>try(conv=>whnf)
   all_goals exact aG
  ·have HR:cut p.toNat (p+tr.n).toNat (s.pl.map pI)=((s.pl.drop p.toNat).take tr.n.toNat).map pI:=by
    rw[show(p+tr.n).toNat=p.toNat+tr.n.toNat by omega,LX]
   have aoI:cut tr.s.toNat (tr.s+tr.n).toNat ((cQ (df s.d) s.d.n).map pB)=(((cQ (df s.d) s.d.n).drop tr.s.toNat).take tr.n.toNat).map pB:=by
    rw[show(tr.s+tr.n).toNat=tr.s.toNat+tr.n.toNat by omega,LX]
   have he:SJ s p tr=if (bt ((s.pl.drop p.toNat).take tr.n.toNat):Int)≠tr.n then 3 else if true∈((cQ (df s.d) s.d.n).drop tr.s.toNat).take tr.n.toNat then 18 else 0:=by
    unfold SJ;rw[if_neg c_,if_neg (λe=>e UF),if_neg adL]
   rw[he]at hK;have Gn:((cQ (df s.d) s.d.n).map pB).length=s.d.n:=by rw[zav,ck]
   have hu:=oG ((s.pl.drop p.toNat).take tr.n.toNat);rw[zal]at hu;have aQy:(((cQ (df s.d) s.d.n).drop tr.s.toNat).take tr.n.toNat).length<=1000:=eI;have hUl:((s.pl.drop p.toNat).take tr.n.toNat).length<=1000:=Rb;generalize ((cQ (df s.d) s.d.n).drop tr.s.toNat).take tr.n.toNat=B2 at*;generalize (s.pl.drop p.toNat).take tr.n.toNat=U at*;generalize (cQ (df s.d) s.d.n).map pB=BR at*;clear he
   (repeat'((conv=>whnf);first|refine⟨_,⟨s.d,rfl,ab,rfl⟩,?_⟩|refine au (p:=s.a.rs=false) aDY ?_|refine aw xI ?_|refine⟨_,ab6,?_⟩|refine oQ ?_|rw[HR]|refine⟨_,⟨U,rfl,ab,rfl⟩,?_⟩|(refine fe ?_;first|refine bj ab ?_|refine au ab ?_|refine aw ao ?_|refine de (λ_=>?_) (λ_=>?_)|refine⟨_,⟨_,_,rfl,rfl⟩,?_⟩|refine⟨_,⟨_,_,_,rfl,rfl⟩,?_⟩|refine wz ?_|refine⟨_,⟨[_,_],rfl,rfl⟩,?_⟩|fail)))<;>try(conv=>whnf)
   ·rename_i hx;refine Or.inl ?_
    (conv=>whnf)
    refine wz ?_
    (conv=>whnf)
    refine wz ?_
    (conv=>whnf)
    rw[aoI];refine⟨_,⟨B2,true,rfl,ab,rfl⟩,?_⟩
    (conv=>whnf)
    refine de (λhb=>?_) (λhb=>?_)
    ·(conv=>whnf)
     refine aN ?_
     (conv=>whnf)
     refine⟨_,⟨false,18,rfl,rfl⟩,?_⟩
     (conv=>whnf)
     refine bT ?_
     (conv=>whnf)
     refine⟨_,⟨[_,_],rfl,rfl⟩,?_⟩
     (conv=>whnf)
     refine oQ ?_
     (conv=>whnf)
     exact⟨.pv (pI _),bu (by rw[if_neg (λe=>e hx),if_pos hb];rfl),trivial,hK⟩
    ·(conv=>whnf)
     refine bP ?_
     (conv=>whnf)
     refine⟨_,⟨true,18,rfl,rfl⟩,?_⟩
     (conv=>whnf)
     refine bT ?_
     (conv=>whnf)
     refine⟨_,⟨[_,_],rfl,rfl⟩,?_⟩
     (conv=>whnf)
     refine oQ ?_
     (conv=>whnf)
     exact⟨.pv (pI _),bu (by rw[if_neg (λe=>e hx),if_neg hb];rfl),trivial,hK⟩
   ·rename_i hx;refine Or.inl ?_
    (conv=>whnf)
    refine wz ?_
    (conv=>whnf)
    refine wz ?_
    (conv=>whnf)
    rw[aoI];refine⟨_,⟨B2,true,rfl,ab,rfl⟩,?_⟩
    (conv=>whnf)
    refine de (λhb=>?_) (λhb=>?_)
    ·(conv=>whnf)
     refine aN ?_
     (conv=>whnf)
     refine⟨_,⟨false,18,rfl,rfl⟩,?_⟩
     (conv=>whnf)
     refine bT ?_
     (conv=>whnf)
     refine⟨_,⟨[_,_],rfl,rfl⟩,?_⟩
     (conv=>whnf)
     refine oQ ?_
     (conv=>whnf)
     exact⟨.pv (pI _),bu (by rw[if_pos hx];rfl),trivial,hK⟩
    ·(conv=>whnf)
     refine bP ?_
     (conv=>whnf)
     refine⟨_,⟨true,18,rfl,rfl⟩,?_⟩
     (conv=>whnf)
     refine bT ?_
     (conv=>whnf)
     refine⟨_,⟨[_,_],rfl,rfl⟩,?_⟩
     (conv=>whnf)
     refine oQ ?_
     (conv=>whnf)
     exact⟨.pv (pI _),bu (by rw[if_pos hx];rfl),trivial,hK⟩
 ·have he:SJ s p tr=2:=by unfold SJ;rw[if_neg c_,if_pos di]
  rw[he]at hK;unfold Pv at di
  (repeat'((conv=>whnf);first|refine⟨_,⟨s.d,rfl,ab,rfl⟩,?_⟩|refine au (p:=s.a.rs=false) aDY ?_|(refine fe ?_;first|refine bj ab ?_|refine aw ab ?_|refine au ao ?_|refine de (λ_=>?_) (λ_=>?_)|refine bT ?_|refine⟨_,⟨_,_,rfl,rfl⟩,?_⟩|refine⟨_,⟨_,_,_,rfl,rfl⟩,?_⟩|refine⟨_,⟨[_,_],rfl,rfl⟩,?_⟩|fail)))<;>try(conv=>whnf)
  all_goals exact aG
instance (a b:Rn):Decidable (iy a b):=by unfold iy;infer_instance
def y4(acc:List Rn)(r:Rn):List Rn:=
 match acc.getLast? with
 |some q=>if iy q r then acc.dropLast++[⟨q.s,q.n+r.n⟩]else acc++[r]
 |none=>[r]
def du(acc:List Rn):aF:=match acc with
 |[]=>[.box 260 [.pv (.nil 2)]]
 |acc=>[.box 260 [.own 1],.row 103 2 true (acc.map Rn.pv)]
def lZ(acc:List Rn):aF:=[.box 260 [.own 2],.dead,.row 103 2 true (acc.map Rn.pv)]
def jd{acc:List Rn}(h:acc≠[]):du acc=[.box 260 [.own 1],.row 103 2 true (acc.map Rn.pv)]:=by
 cases acc with
 |nil=>exact kN
 |cons _ _=>rfl
def xl(acc:List Rn)(r:Rn):y4 acc r≠[]:=by
 unfold y4;split
 ·split<;>simp
 ·simp
def yX(r:Rn):Prop:= -1000000000<=r.s/\r.s<=1000000000/\ -1000000000<=r.n/\r.n<=1000000000
def arH(xs:List AV)(σ:aF)(K:AV->aF->Prop):Prop:=∃(acc:List Rn) (r:Rn),xs=[.ref 0 0 0,.pv r.pv]/\(acc.length<=100000/\yX r∧∀q∈acc,yX q)/\σ=du acc/\K (.tup []) (du (y4 acc r))/\(acc≠[]->K (.tup []) (lZ (y4 acc r)))
def aqm:gO (ay [(278,bF Ab)]) Ie (sB arH):=by
 rintro _ _ K ⟨acc,r,rfl,⟨h1,h2,h3⟩,rfl,hK,xy⟩;unfold yX at h2;cases UB:acc.getLast? with
 |none=>
  have:acc=[]:=Ka;subst this
  (repeat'((conv=>whnf);first|refine oQ ?_|refine zc1 (by simp;first|done|fail) ?_|refine aw ao ?_|refine ez λ_=>?_|fail))<;>try(conv=>whnf)
  exact hK
 |some q=>
  have cb:acc≠[]:=aaF;have Gq:0<acc.length:=zcb.2 cb;have hg:acc[((acc.length:Int)-1).toNat]?=some q:=by
   rw[<-UB,zda];congr 1;omega
  have hq:=h3 q (zdp UB);unfold yX at hq;have BW:y4 acc r=if iy q r then acc.dropLast++[(⟨q.s,q.n+r.n⟩:Rn)]else acc++[r]:=by
   unfold y4;rw[UB]
  have LO:(acc.map Rn.pv).set ((acc.length:Int)-1).toNat (PV.agg [pI q.s,pI (q.n+r.n)])=(acc.dropLast++[(⟨q.s,q.n+r.n⟩:Rn)]).map Rn.pv:=by
   rw[show((acc.length:Int)-1).toNat=acc.length-1 by omega];have e:acc.dropLast++[q]=acc:=by
    have e1:=zdH cb;rw[zdF cb]at UB;rw[<-Option.some.inj UB];exact e1
   have e2:acc.length-1=(acc.dropLast.map Rn.pv).length:=aj;have e3:acc.map Rn.pv=acc.dropLast.map Rn.pv++[q.pv]:=by
    conv=>lhs;rw[<-e]
    rw[zbu];rfl
   rw[e2,e3,List.set_append_right _ _ (zai _),Nat.sub_self,zbu];rfl
  have gJ:(acc.map Rn.pv).length=acc.length:=zav _;rw[jd (xl acc r),BW]at hK;have xy:=xy cb;unfold lZ at xy;rw[BW]at xy;rw[jd cb]
  (repeat'((conv=>whnf);first|refine oQ ?_|refine⟨_,⟨q,r,rfl,⟨by unfold I3;omega,by unfold I3;omega⟩,rfl⟩,?_⟩|refine bj ab ?_|refine au ab ?_|refine de (λ_=>?_) (λ_=>?_)|refine ez λ_=>?_|refine uM aA ?_|refine Q3 ab ?_|refine zc1 cu ?_|fail))<;>try(conv=>whnf)
  ·rename_i hj;rw[if_pos hj,<-LO]at hK;exact hK
  ·rename_i hj;rw[if_neg hj,zbu]at xy;exact xy
def h_(acc l:List Rn):List Rn:=l.foldl y4 acc
def FJ{acc l:List Rn}{n:Nat}{r:Rn}(h:l[n]?=some r):h_ acc (l.take (n+1))=y4 (h_ acc (l.take n)) r:=by
 unfold h_;rw[zc2,h];simp
def au1(acc:List Rn)(r:Rn):(y4 acc r).length<=acc.length+1:=by
 unfold y4;split
 ·split
  ·simp
  ·simp
 ·simp
def X3(acc:List Rn):∀l:List Rn,(h_ acc l).length<=acc.length+l.length:=by
 intro l
 induction l generalizing acc with
 |nil=>simp[h_]
 |cons r l ih=>
  have:=ih (y4 acc r);have:=au1 acc r;simp only[h_,zbg,zam]at*;omega
def FE(l m:List Rn):bI (l++m)=bI l+bI m:=by simp[bI]
def asZ{P:Rn->Prop}{acc:List Rn}{r:Rn}(h:∀q∈acc,P q)(hr:P r)(hj:∀q∈acc,iy q r->P ⟨q.s,q.n+r.n⟩):∀q∈y4 acc r,P q:=by
 intro q hq;unfold y4 at hq;split at hq
 ·rename_i x hx;have hm:=zdp hx;split at hq
  ·rename_i Gx;rcases zaA.1 hq with h1|h1
   ·exact h q (List.dropLast_subset _ h1)
   ·rw[zdg.1 h1];exact hj x hm Gx
  ·rcases zaA.1 hq with h1|h1
   ·exact h q h1
   ·rw[zdg.1 h1];exact hr
 ·rw[zdg.1 hq];exact hr
def HY(r:Rn):Prop:=1<=r.n/\r.n<=4096/\(r.s= -1\/(0<=r.s/\r.s+r.n<=512))
def nV(k:Int)(r:Rn):Prop:=1<=r.n/\r.n<=k/\(r.s= -1\/(0<=r.s/\r.s+r.n<=512))
def aCF{acc:List Rn}{r:Rn}{k:Int}(h:∀q∈acc,nV k q)(hr:HY r)(hk:0<=k):∀q∈y4 acc r,nV (k+r.n) q:=by
 unfold HY at hr;refine asZ (λq hq=>?_) ?_ λq hq hj=>?_
 ·have:=h q hq;unfold nV at*;omega
 ·unfold nV;omega
 ·have:=h q hq;unfold iy at hj;unfold nV at*;simp only;omega
def au4{l:List Rn}:∀{acc:List Rn} {k:Int},(∀q∈acc,nV k q)->0<=k->(∀r∈l,HY r)→∀q∈h_ acc l,nV (k+bI l) q:=by
 induction l with
 |nil=>intro acc k h _ _;simpa[h_,bI]using h
 |cons r l ih=>
  intro acc k h hk hl;have hr:=hl r aj;have:=ih (acc:=y4 acc r) (k:=k+r.n) (aCF h hr hk) (by unfold HY at hr;omega) λq hq=>hl q kF
  rw[gS];have e:k+(r.n+bI l)=k+r.n+bI l:=ab;rw[e];exact this
def abp(xs:List AV)(σ:aF)(K:AV->aF->Prop):Prop:=∃(acc l:List Rn) (k:Int),xs=[.ref 0 0 0,.pv (.sl 2 (l.map Rn.pv))]/\(acc.length<=1000/\l.length<=1000/\(0<=k/\k<=100000)/\(∀q∈acc,nV k q)∧∀q∈l,HY q)/\σ=du acc/\K (.tup []) (du (h_ acc l))/\(acc≠[]->K (.tup []) (lZ (h_ acc l)))
set_option maxHeartbeats 1000000 in
def agx:gO (ay [(280,sB arH)]) BA (sB abp):=by
 rintro _ _ K ⟨acc,l,k,rfl,⟨h1,h2,h3,h4,h5⟩,rfl,hK,xy⟩;have gJ:(l.map Rn.pv).length=l.length:=zav _;have aHt:∀n:Nat,0<=bI (l.take n)/\bI (l.take n)<=4096*n:=λn=>by
  induction n with
  |zero=>simp[bI]
  |succ n ih=>
   by_cases aU:n<l.length
   ·have hx:l[n]?=some l[n]:=zah aU;have:=h5 _ (zag hx);unfold HY at this;rw[zc2,hx,FE];simp only[Option.toList_some,bI,zat,zcy,List.sum_cons,List.sum_nil]at*;omega
   ·rw[za1 ab]at ih ⊢;omega
 have hC:∀n:Nat,n<=l.length→∀q∈h_ acc (l.take n),yX q:=λn hn q hq=>by
  have:=au4 h4 h3.1 (λr hr=>h5 r (zaL hr)) q hq;have:=aHt n;unfold nV at*;unfold yX;omega
 have hL:∀n:Nat,(h_ acc (l.take n)).length<=2000:=λn=>by
  have:=X3 acc (l.take n);rw[zal]at this;omega
 have hR:∀r∈l,yX r:=λr hr=>by
  have:=h5 r hr;unfold HY at this;unfold yX;omega
 by_cases cb:acc=[]
 ·subst cb
  (repeat'((conv=>whnf);first|refine ez λ_=>?_|fail))<;>try(conv=>whnf)
  refine⟨λm env σ=>∃n:Nat,n+m=l.length/\σ=du (h_ [] (l.take n))/\env=[(0,.ref 0 0 0),(6,.pv (.sl 2 (l.map Rn.pv))),eN 7 l.length,eN 8 n],l.length,⟨0,ab,rfl,rfl⟩,?_⟩;rintro m env σ ⟨n,hn,rfl,rfl⟩;by_cases aU:n<l.length
  ·obtain⟨r,hr⟩:∃r,l[n]?=some r:=⟨_,zah aU⟩
   have hT:=FJ (acc:=[]) hr;have MQ:=hC n ab;have hLn:=hL n;have zL:=hR r (zag hr);clear hK xy hC hL;generalize hA:h_ [] (l.take n)=A at*;by_cases PG:A=[]
   ·rw[PG,show du []=[.box 260 [.pv (.nil 2)]]from rfl];rw[PG]at hT;have zH:du (y4 [] r)=[.box 260 [.own 1],.row 103 2 true ([r].map Rn.pv)]:=rfl;have hT3:du (h_ [] (l.take (n+1)))=[.box 260 [.own 1],.row 103 2 true ([r].map Rn.pv)]:=rY
    (repeat'((conv=>whnf);first|refine au ab ?_|refine iY aA ?_|refine bT ?_|fail))<;>try(conv=>whnf)
    refine⟨[],r,rfl,⟨aj,zL,λq hq=>by cases hq⟩,rfl,?_,λh=>absurd rfl h⟩;rw[zH]
    (repeat'((conv=>whnf);first|refine bj ab ?_|fail))<;>try(conv=>whnf)
    exact Z1
   ·rw[jd PG];have hT3:du (h_ [] (l.take (n+1)))=du (y4 A r):=by rw[hT]
    rw[jd (xl A r)]at hT3
    (repeat'((conv=>whnf);first|refine au ab ?_|refine iY aA ?_|refine bT ?_|fail))<;>try(conv=>whnf)
    refine⟨A,r,rfl,⟨ab,zL,MQ⟩,(jd PG).symm,?_,λ_=>?_⟩
    ·rw[jd (xl A r)]
     (repeat'((conv=>whnf);first|refine bj ab ?_|fail))<;>try(conv=>whnf)
     exact Z1
    ·unfold lZ
     (repeat'((conv=>whnf);first|refine bj ab ?_|fail))<;>try(conv=>whnf)
     exact Z1
  ·have hn:n=l.length:=by omega
   subst hn;rw[zc7];by_cases PG:h_ [] l=[]
   ·rw[PG]at hK ⊢
    (repeat'((conv=>whnf);first|refine aw ab ?_|fail))<;>try(conv=>whnf)
    exact hK
   ·rw[jd PG]at hK ⊢
    (repeat'((conv=>whnf);first|refine aw ab ?_|fail))<;>try(conv=>whnf)
    exact hK
 ·rw[jd cb];have cM:∀n:Nat,h_ acc (l.take n)≠[]:=λn=>by
   cases n with
   |zero=>simpa[h_]using cb
   |succ n=>
    by_cases aU:n<l.length
    ·rw[FJ (zah aU)];exact xl _ _
    ·cases cH:l.getLast? with
     |none=>
      have:l=[]:=by simpa using cH
      subst this;simpa[h_]using cb
     |some q=>
      have eK:l≠[]:=by intro e;subst e;cases cH
      rw[za1 ab,<-zc7 (l:=l),show l.length=l.length-1+1 by have:=zcb.2 eK;omega,
       FJ (zah (by have:=zcb.2 eK;omega))]
      exact xl _ _
  have xy:=xy cb
  (repeat'((conv=>whnf);first|refine ez λ_=>?_|fail))<;>try(conv=>whnf)
  refine⟨λm env σ=>∃n:Nat,n+m=l.length/\(σ=du (h_ acc (l.take n))\/σ=lZ (h_ acc (l.take n)))/\env=[(0,.ref 0 0 0),(6,.pv (.sl 2 (l.map Rn.pv))),eN 7 l.length,eN 8 n],l.length,⟨0,ab,.inl (jd cb).symm,rfl⟩,?_⟩;rintro m env σ ⟨n,hn,hσ,rfl⟩;by_cases aU:n<l.length
  ·obtain⟨r,hr⟩:∃r,l[n]?=some r:=⟨_,zah aU⟩
   have hT:=FJ (acc:=acc) hr;have MQ:=hC n ab;have hLn:=hL n;have PG:=cM n;have zL:=hR r (zag hr);clear hK xy hC hL;generalize hA:h_ acc (l.take n)=A at*;have hT3:du (h_ acc (l.take (n+1)))=du (y4 A r):=by rw[hT]
   have hT4:lZ (h_ acc (l.take (n+1)))=lZ (y4 A r):=by rw[hT]
   rw[jd (xl A r)]at hT3;unfold lZ at hT4;rw[jd PG]at hσ;rcases hσ with rfl|rfl
   ·(repeat'((conv=>whnf);first|refine au ab ?_|refine iY aA ?_|refine bT ?_|fail))<;>try(conv=>whnf)
    refine⟨A,r,rfl,⟨ab,zL,MQ⟩,(jd PG).symm,?_,λ_=>?_⟩
    ·rw[jd (xl A r)]
     (repeat'((conv=>whnf);first|refine bj ab ?_|fail))<;>try(conv=>whnf)
     exact⟨m-1,ab,n+1,ab,.inl hT3.symm,rfl⟩
    ·unfold lZ
     (repeat'((conv=>whnf);first|refine bj ab ?_|fail))<;>try(conv=>whnf)
     exact ZU
   ·unfold lZ
    (repeat'((conv=>whnf);first|refine au ab ?_|refine iY aA ?_|refine bT ?_|fail))<;>try(conv=>whnf)
    refine⟨A,r,rfl,⟨ab,zL,MQ⟩,(jd PG).symm,?_,λ_=>?_⟩
    ·rw[jd (xl A r)]
     (repeat'((conv=>whnf);first|refine bj ab ?_|fail))<;>try(conv=>whnf)
     exact ZU
    ·unfold lZ
     (repeat'((conv=>whnf);first|refine bj ab ?_|fail))<;>try(conv=>whnf)
     exact ZU
  ·have hn:n=l.length:=by omega
   subst hn;rw[zc7]at hσ;have PG:=cM l.length;rw[zc7]at PG;rw[jd PG]at hσ hK;rcases hσ with rfl|rfl
   ·(repeat'((conv=>whnf);first|refine aw ab ?_|fail))<;>try(conv=>whnf)
    exact hK
   ·unfold lZ at*
    (repeat'((conv=>whnf);first|refine aw ab ?_|fail))<;>try(conv=>whnf)
    exact xy
def BF(l:List Rn)(n:Nat):Prop:=∀k,k<n→∀r,l[k]?=some r→∀c,c<512->r.has c=true->Bc l k c=false
def asv{l:List Rn}{n:Nat}{x:Rn}(hx:l[n]?=some x):BF l (n+1)↔BF l n∧∀c,c<512->x.has c=true->Bc l n c=false:=by
 unfold BF;constructor
 ·intro h;exact⟨λk hk=>h k ab,λc hc hh=>h n ab x hx c hc hh⟩
 ·rintro⟨h1,h2⟩ k hk r hr;rcases zc4 (zc5 hk)with h|h
  ·exact h1 k h r hr
  ·subst h;rw[hx]at hr;cases hr;exact h2
noncomputable def ny(l:List Rn):Int:=open Classical in if ¬BF l l.length then 23 else if bI l<=4096/\l.length<=64 then 0 else 8
def ak4(xs:List AV)(σ:aF)(K:AV->aF->Prop):Prop:=∃acc:List Rn,xs=[.ref 0 0 0]/\(acc≠[]/\acc.length<=1000∧∀q∈acc,jZ q)/\σ=du acc/\(ny acc=0->K (.tup [.own 1,.pv (pI 0)]) (du acc))/\(ny acc≠0->K (.tup [.own 2,.pv (pI (ny acc))]) (du acc++[.row 103 2 true []]))
set_option maxHeartbeats 1000000 in
def al3:gO (ay [(279,sB ag6),(240,ah dG),(186,ah iu),(239,ah gB)]) EG (sB ak4):=by
 rintro _ _ K ⟨acc,rfl,⟨h0,h1,h2⟩,rfl,Gt,xy⟩;have gJ:(acc.map Rn.pv).length=acc.length:=zav _;rw[jd h0]at Gt xy ⊢;have hS:yP acc:=⟨h1,λr hr=>by have:=rG (h2 r hr);omega⟩
 (repeat'((conv=>whnf);first|refine ez λ_=>?_|fail))<;>try(conv=>whnf)
 refine⟨λm env σ=>∃(n:Nat) (fr:Bool) (L:List Bool),(n+m=acc.length/\mc L (Bc acc n)/\(fr=true↔BF acc n))/\σ=[.box 260 [.own 1],.row 103 2 true (acc.map Rn.pv),Yi L]/\env=[(0,.ref 0 0 0),(4,.ref 2 0 0),(5,.pv (pB fr)),(12,.own 1),eN 13 acc.length,eN 14 n],acc.length,⟨0,true,List.replicate 512 false,⟨ab,aF7 _,by simp[BF]⟩,by unfold Yi;rw[List.map_replicate],rfl⟩,?_⟩;rintro m env σ ⟨n,fr,L,⟨hn,hL,pe⟩,rfl,rfl⟩;by_cases aU:n<acc.length
 ·obtain⟨x,hx⟩:∃x,acc[n]?=some x:=⟨_,zah aU⟩
  have SI:=h2 x (zag hx);have D_:=asv hx;clear Gt xy
  (repeat'((conv=>whnf);first|refine⟨x,_,L,rfl,⟨SI,hL⟩,rfl,λok L' di y3=>?_⟩|refine au ab ?_|refine uM aA ?_|refine Q3 ab ?_|refine bT ?_|fail))<;>try(conv=>whnf)
  have MK:=y3.congr λc _=>(KY hx).symm
  cases ok with
  |true=>
   (repeat'((conv=>whnf);first|refine bj ab ?_|fail))<;>try(conv=>whnf)
   exact⟨m-1,ab,n+1,fr,L',⟨ab,MK,by rw[pe,D_];exact⟨λh=>⟨h,di.1 rfl⟩,λh=>h.1⟩⟩,rfl,rfl⟩
  |false=>
   (repeat'((conv=>whnf);first|refine bj ab ?_|fail))<;>try(conv=>whnf)
   exact⟨m-1,ab,n+1,false,L',⟨ab,MK,by rw[D_];exact Iff.intro (λh=>bV) (λh=>di.2 h.2)⟩,rfl,rfl⟩
 ·have hn:n=acc.length:=by omega
  subst hn;have hE:ny acc=if fr=true then(if bI acc<=4096/\acc.length<=64 then 0 else 8)else 23:=by
   unfold ny;cases fr with
   |true=>rw[if_neg (λe=>e (pe.1 rfl)),if_pos rfl]
   |false=>rw[if_pos (λe=>by have:=pe.2 e;cases this),if_neg ao]
  have qH:iu [.sl 2 (acc.map Rn.pv)] (pI (bI acc)):=⟨.sl acc,rfl,hS,rfl⟩
  cases fr with
  |true=>
   rw[if_pos rfl]at hE
   (repeat'((conv=>whnf);first|refine oQ ?_|refine⟨_,qH,?_⟩|(refine fe ?_;first|refine aw ab ?_|refine au ao ?_|refine aw ao ?_|refine de (λ_=>?_) (λ_=>?_)|refine⟨_,⟨_,_,rfl,rfl⟩,?_⟩|refine⟨_,⟨[_,_],rfl,rfl⟩,?_⟩|fail)))<;>try(conv=>whnf)
   ·exact Gt (by rw[hE,if_pos ab])
   all_goals
    have Ao:ny acc=8:=by rw[hE,if_neg ab]
    have:=xy (by rw[Ao];decide);rw[Ao]at this;exact this
  |false=>
   rw[if_neg ao]at hE;have:=xy (by rw[hE];decide);rw[hE]at this
   (repeat'((conv=>whnf);first|refine oQ ?_|refine⟨_,qH,?_⟩|(refine fe ?_;first|refine aw ab ?_|refine au ao ?_|refine de (λ_=>?_) (λ_=>?_)|refine⟨_,⟨_,_,rfl,rfl⟩,?_⟩|refine⟨_,⟨[_,_],rfl,rfl⟩,?_⟩|fail)))<;>try(conv=>whnf)
   all_goals exact this
def ee(st:List Rn×Int×Int)(r:Rn):List Rn×Int×Int:=
 (st.1++(if min st.2.2 (r.n-min st.2.1 r.n)=0 then[]else[⟨if r.s= -1 then-1 else r.s+min st.2.1 r.n,min st.2.2 (r.n-min st.2.1 r.n)⟩]),
   st.2.1-min st.2.1 r.n,st.2.2-min st.2.2 (r.n-min st.2.1 r.n))
def NB(l:List Rn)(f n:Int):List Rn×Int×Int:=l.foldl ee ([],f,n)
def ajG{l:List Rn}{f n:Int}{k:Nat}{r:Rn}(h:l[k]?=some r):NB (l.take (k+1)) f n=ee (NB (l.take k) f n) r:=by
 unfold NB;rw[zc2,h];simp
def aze{l:List Rn}{f n:Int}(hf:0<=f/\0<=n)(hl:∀r∈l,jZ r):∀k,((NB (l.take k) f n).1.length<=k/\(0<=(NB (l.take k) f n).2.1/\(NB (l.take k) f n).2.1<=f)/\0<=(NB (l.take k) f n).2.2/\(NB (l.take k) f n).2.2<=n)∧∀q∈(NB (l.take k) f n).1,HY q:=by
 intro k
 induction k with
 |zero=>simp[NB];omega
 |succ k ih=>
  by_cases aU:k<l.length
  ·have hx:l[k]?=some l[k]:=zah aU;have hr:=rG (hl _ (zag hx));rw[ajG hx];generalize l[k]=r at*;generalize NB (l.take k) f n=st at*;obtain⟨out,f',n'⟩:=st;simp only at ih;obtain⟨⟨i1,i2,i3⟩,i4⟩:=ih;unfold ee;simp only;refine⟨⟨?_,ab,ab⟩,λq hq=>?_⟩
   ·rw[zad];split<;>simp<;>omega
   ·rcases zaA.1 hq with h|h
    ·exact i4 q h
    ·split at h
     ·cases h
     ·rw[zdg]at h;subst h;unfold HY;simp only;split<;>omega
  ·rw[za1 ab]at ih ⊢;refine⟨⟨ab,ih.1.2⟩,ih.2⟩
def YT(ps:List PV)(r:RV):Prop:=∃(s:Rs) (f n:Int),ps=[qF s,pI f,pI n]/\((0<=f/\f<=100000)/\(0<=n/\n<=100000)/\s.l.length<=1000∧∀r∈s.l,jZ r)/\r=.fresh 103 2 ((NB s.l f n).1.map Rn.pv)
set_option maxHeartbeats 1000000 in
def alA:MT (ay [(244,bF BJ)]) Va (c8 true YT):=by
 rintro _ K ⟨_,⟨s,f,n,rfl,⟨h1,h2,h3,h4⟩,rfl⟩,hK⟩
 (repeat'((conv=>whnf);first|refine KP ?_|refine ez λ_=>?_|fail))<;>try(conv=>whnf)
 refine⟨λm env σ=>∃k:Nat,k+m=s.l.length/\σ=[.row 103 2 true ((NB (s.l.take k) f n).1.map Rn.pv)]/\env=[eN 1 (NB (s.l.take k) f n).2.1,eN 2 (NB (s.l.take k) f n).2.2,(7,.own 0),(13,.pv (qF s)),eN 14 s.l.length,eN 15 k],s.l.length,⟨0,ab,rfl,rfl⟩,?_⟩;rintro m env σ ⟨k,hk,rfl,rfl⟩;obtain⟨⟨b1,b2,b3⟩,_⟩:=aze (f:=f) (n:=n) ⟨ab,ab⟩ h4 k;by_cases aU:k<s.l.length
 ·obtain⟨x,hx⟩:∃x,s.l[k]?=some x:=⟨_,zah aU⟩
  have hT:=ajG (f:=f) (n:=n) hx;have hr:=rG (h4 _ (zag hx));clear hK;generalize NB (s.l.take k) f n=st at*;unfold ee at hT;generalize st.1=out at*;generalize st.2.1=f' at*;generalize st.2.2=n' at*;have sS:(out.map Rn.pv).length=out.length:=zav _
  (repeat'((conv=>whnf);first|refine Ek hx ?_|(refine fe ?_;first|refine bj ab ?_|refine aN ?_|refine bP ?_|refine au ab ?_|refine de (λ_=>?_) (λ_=>?_)|refine I8 ?_|refine bT ?_|refine⟨_,⟨_,rfl,rfl⟩,?_⟩|refine zc1 cu ?_|fail)))<;>try(conv=>whnf)
  ·rename_i h0;exact⟨m-1,ab,k+1,ab,by rw[hT];simp only[if_pos h0];rw[zbf],rY⟩
  ·rename_i h0 hh;rw[if_neg h0,if_pos hh]at hT;exact⟨m-1,ab,k+1,ab,by rw[hT];simp[Rn.pv],rY⟩
  ·rename_i h0 hh;rw[if_neg h0,if_neg hh]at hT;exact⟨m-1,ab,k+1,ab,by rw[hT];simp[Rn.pv],rY⟩
 ·(repeat'((conv=>whnf);first|refine aw ab ?_|fail))<;>try(conv=>whnf)
  rw[za1 ab];exact vj
abbrev Pa(l:List Rn):PV:=.sl 2 (l.map Rn.pv)
def auy(acc l m:List Rn):h_ acc (l++m)=h_ (h_ acc l) m:=by simp[h_]
def aBo{q:Rn}{k:Int}(h:nV k q)(hk:k<=4096):jZ q:=by
 unfold nV at h;unfold jZ;split<;>omega
def agZ{l:List Rn}(h:∀r∈l,HY r):0<=bI l:=by
 induction l with
 |nil=>simp[bI]
 |cons r l ih=>
  rw[gS];have:=ih λq hq=>h q kF
  have h1:=h r aj;unfold HY at h1;omega
def AH{ls:List (List Rn)}{k:Nat}{l:List Rn}(h:ls[k]?=some l):(ls.take (k+1)).flatten=(ls.take k).flatten++l:=by
 rw[zc2,h];simp
def atf{ls:List (List Rn)}(h:∀l∈ls,∀r∈l,HY r)(k:Nat):0<=bI (ls.take k).flatten/\bI (ls.take k).flatten<=bI ls.flatten:=by
 have e:ls.flatten=(ls.take k).flatten++(ls.drop k).flatten:=by rw[<-List.flatten_append,List.take_append_drop]
 have h1:0<=bI (ls.take k).flatten:=agZ λr hr=>by
  obtain⟨l,hl,vu⟩:=zdK.1 hr;exact h l (zaL hl) r vu
 have h2:0<=bI (ls.drop k).flatten:=agZ λr hr=>by
  obtain⟨l,hl,vu⟩:=zdK.1 hr;exact h l (zby hl) r vu
 rw[e,FE];omega
def axF{l:List Rn}(h:∀r∈l,HY r):(l.length:Int)<=bI l:=by
 induction l with
 |nil=>simp[bI]
 |cons r l ih=>
  rw[gS,zam];have:=ih λq hq=>h q kF
  have h1:=h r aj;unfold HY at h1;omega
def aoi:∀(l:List Rn) {A:List Rn},A≠[]->h_ A l≠[]
 |[],_,h=>h
 |r::l,A,_=>aoi l (xl A r)
noncomputable def U4(J:List Rn):List Rn:=open Classical in if ny J=0 then J else[]
def Xb(ps:List PV)(r:RV):Prop:=∃ls:List (List Rn),ps=[.sl 1 (ls.map Pa)]/\(ls.length<=4/\(∀l∈ls,l.length<=200∧∀r∈l,HY r)/\bI ls.flatten<=4096/\ls.flatten≠[])/\
 r=.tup [.fresh 103 2 ((U4 (h_ [] ls.flatten)).map Rn.pv),.pv (pI (ny (h_ [] ls.flatten)))]
set_option maxHeartbeats 1000000 in
def ai7:MT (ay [(242,sB abp),(243,sB ak4)]) U_ (c8 true Xb):=by
 rintro _ K ⟨_,⟨ls,rfl,⟨h1,h2,h3,h4⟩,rfl⟩,hK⟩;have hW:∀l∈ls,∀r∈l,HY r:=λl hl=>(h2 l hl).2
 have hF:∀k,∀r∈(ls.take k).flatten,HY r:=λk r hr=>by
  obtain⟨l,hl,vu⟩:=zdK.1 hr;exact hW l (zaL hl) r vu
 have hJ:∀k,∀q∈h_ [] (ls.take k).flatten,nV (bI (ls.take k).flatten) q:=λk q hq=>by
  have:=au4 (acc:=[]) (k:=0) (λ_ h=>bV) ab (hF k) q hq;simpa using this
 have cb:h_ [] ls.flatten≠[]:=by
  cases UB:ls.flatten.getLast? with
  |none=>exact absurd Ka h4
  |some q=>
   have hp:=zcb.2 h4;rw[<-zc7 (l:=ls.flatten),show ls.flatten.length=ls.flatten.length-1+1 by omega,FJ (zah ab)];exact xl _ _
 have da:h_ [] ls.flatten≠[]->(h_ [] ls.flatten).length<=5000:=λ_=>by
  have:=X3 [] ls.flatten;have:=axF (l:=ls.flatten) λr hr=>by
   obtain⟨l,hl,vu⟩:=zdK.1 hr;exact hW l hl r vu
  simp at*;omega
 have SL:∀k,(ls.take k).flatten.length<=200*k:=λk=>by
  induction k with
  |zero=>simp
  |succ k ih=>
   by_cases aU:k<ls.length
   ·have hx:ls[k]?=some ls[k]:=zah aU;rw[AH hx,zad];have:=(h2 _ (zag hx)).1;omega
   ·rw[za1 ab]at ih ⊢;omega
 have mE:∀k,(h_ [] (ls.take k).flatten).length<=200*k:=λk=>by
  have:=X3 [] (ls.take k).flatten;have:=SL k;simp at*;omega
 have gJ:(ls.map Pa).length=ls.length:=zav _
 (repeat'((conv=>whnf);first|refine ez λ_=>?_|fail))<;>try(conv=>whnf)
 refine⟨λm env σ=>∃k:Nat,k+m=ls.length/\σ=du (h_ [] (ls.take k).flatten)/\env=[(4,.ref 0 0 0),(7,.pv (.sl 1 (ls.map Pa))),eN 8 ls.length,eN 9 k],ls.length,⟨0,ab,rfl,rfl⟩,?_⟩;rintro m env σ ⟨k,hk,rfl,rfl⟩;have hs:=atf hW k;by_cases aU:k<ls.length
 ·obtain⟨l,hl⟩:∃l,ls[k]?=some l:=⟨_,zah aU⟩
  have hlw:=h2 l (zag hl);have hT:h_ [] (ls.take (k+1)).flatten=h_ (h_ [] (ls.take k).flatten) l:=by rw[AH hl,auy]
  have MY:=hJ k;have aHT:=mE k;clear hK;generalize h_ [] (ls.take k).flatten=A at*;by_cases hA:A=[]
  ·subst hA;rw[show du []=[.box 260 [.pv (.nil 2)]]from rfl]
   (repeat'((conv=>whnf);first|refine au ab ?_|refine iY aA ?_|fail))<;>try(conv=>whnf)
   refine⟨[],l,0,rfl,⟨aj,ab,ab,(λq hq=>by cases hq),hlw.2⟩,rfl,?_,λh=>absurd rfl h⟩;by_cases hB:h_ [] l=[]
   ·rw[hB]at hT ⊢;rw[show du []=[.box 260 [.pv (.nil 2)]]from rfl]
    (repeat'((conv=>whnf);first|refine bj ab ?_|fail))<;>try(conv=>whnf)
    exact⟨m-1,ab,k+1,ab,rY,rfl⟩
   ·rw[jd hB]
    (repeat'((conv=>whnf);first|refine bj ab ?_|fail))<;>try(conv=>whnf)
    exact Y0
  ·rw[jd hA]
   (repeat'((conv=>whnf);first|refine au ab ?_|refine iY aA ?_|fail))<;>try(conv=>whnf)
   have hB:h_ A l≠[]:=aoi l hA;refine⟨A,l,bI (ls.take k).flatten,rfl,⟨ab,ab,ab,MY,hlw.2⟩,(jd hA).symm,?_,λ_=>?_⟩
   ·rw[jd hB]
    (repeat'((conv=>whnf);first|refine bj ab ?_|fail))<;>try(conv=>whnf)
    exact Y0
   ·unfold lZ
    (repeat'((conv=>whnf);first|refine bj ab ?_|fail))<;>try(conv=>whnf)
    exact Y0
 ·have hk:k=ls.length:=by omega
  subst hk;have MY:=hJ ls.length;have aHT:=mE ls.length;rw[zc7]at MY aHT ⊢;unfold U4 at hK;generalize h_ [] ls.flatten=A at*;rw[jd cb]
  (repeat'((conv=>whnf);first|refine aw ab ?_|fail))<;>try(conv=>whnf)
  refine⟨A,rfl,⟨cb,ab,λq hq=>aBo (MY q hq) h3⟩,(jd cb).symm,λhe=>?_,λhe=>?_⟩
  ·rw[he,if_pos rfl]at hK;rw[jd cb]
   (conv=>whnf)
   exact abO
  ·rw[if_neg he]at hK;rw[jd cb]
   (conv=>whnf)
   exact abm
def asn{r:Rn}(h:jZ r):HY r:=by
 unfold jZ at h;unfold HY;split at h<;>omega
def ay7{l:List Rn}{f n:Int}(hf:0<=f/\0<=n)(hl:∀r∈l,jZ r):(NB l f n).1.length<=l.length∧∀q∈(NB l f n).1,HY q:=by
 have:=aze hf hl l.length;rw[zc7]at this;exact⟨this.1.1,this.2⟩
def anl{l:List Rn}(hl:∀r∈l,jZ r):∀(out:List Rn) (f n:Int),0<=f->0<=n->bI (l.foldl ee (out,f,n)).1=bI out+min n (max 0 (bI l-f)):=by
 induction l with
 |nil=>intro out f n h1 h2;simp[bI];omega
 |cons r l ih=>
  intro out f n h1 h2;have hr:=rG (hl r aj);have z_:0<=bI l:=agZ λq hq=>asn (hl q kF)
  rw[zbg,gS];have:=ih (λq hq=>hl q kF) (ee (out,f,n) r).1 (ee (out,f,n) r).2.1 (ee (out,f,n) r).2.2;have e:ee (out,f,n) r=((ee (out,f,n) r).1,(ee (out,f,n) r).2.1,(ee (out,f,n) r).2.2):=rfl;rw[e,this (by unfold ee;simp only;omega) (by unfold ee;simp only;omega)];unfold ee;simp only;rw[FE];split
  ·simp[bI]at*;omega
  ·simp[bI]at*;omega
def fO(l:List Rn)(p:Int)(tr:Rn):List Rn:=(NB l 0 p).1++[tr]++(NB l (p+tr.n) (bI l)).1
noncomputable def nn(l:List Rn)(p:Int)(tr:Rn):Int:=ny (h_ [] (fO l p tr))
def Hs(ps:List PV)(r:RV):Prop:=∃(s:Rs) (p:Int) (tr:Rn),ps=[qF s,pI p,Pa [tr]]/\(dU s.l=0/\dU [tr]=0/\0<=p/\p+tr.n<=bI s.l)/\
 r=.tup [.fresh 103 2 ((U4 (h_ [] (fO s.l p tr))).map Rn.pv),.pv (pI (nn s.l p tr))]
def Dz(ps:List PV)(x:PV):Prop:=∃(s:Rs) (p:Int) (tr:Rn),ps=[qF s,pI p,Pa [tr],pI tr.n]/\(dU s.l=0/\dU [tr]=0/\0<=p/\p+tr.n<=bI s.l)/\x=pI 0
def VV:MT (ay [(185,ah wB),(241,bF bG),(240,ah dG),(186,ah iu),(239,ah gB)]) EL (ah Dz):=by
 rintro _ K ⟨_,⟨s,p,tr,rfl,⟨h1,h2,h3,h4⟩,rfl⟩,hK⟩;have hb:=TT h1;have hr:=rG ((bZ h2).2.2.2 tr aj);have aDZ:wB [.sl 1 [qF s,Pa [tr]]] (pI 0):=⟨[s,.sl [tr]],rfl,aj,bu (by show(0:Int)=bQ [dU s.l,dU [tr]];rw[h1,h2];rfl)⟩
 have hlen:iu [qF s] (pI (bI s.l)):=⟨s,rfl,GB h1,rfl⟩
 (repeat'((conv=>whnf);first|refine zc1 (show ahB 1 [qF s,Pa [tr]]=true by cases s<;>rfl) ?_|refine⟨_,aDZ,?_⟩|refine⟨_,hlen,?_⟩|(refine fe ?_;first|refine bj ab ?_|refine au ab ?_|refine bT ?_|refine⟨_,⟨_,_,rfl,rfl⟩,?_⟩|refine⟨_,⟨_,_,_,rfl,rfl⟩,?_⟩|refine⟨_,⟨[_,_,_],rfl,rfl⟩,?_⟩|fail)))<;>try(conv=>whnf)
 exact aG
set_option maxHeartbeats 1000000 in
def aao:MT (ay [(185,ah wB),(186,ah iu),(187,ah Dz),(189,c8 true YT),(188,c8 true Xb)]) H9 (c8 true Hs):=by
 rintro _ K ⟨_,⟨s,p,tr,rfl,⟨h1,h2,h3,h4⟩,rfl⟩,hK⟩;have hb:=TT h1;have gr:=bZ h1;have M5:=(bZ h2).2.2.2 tr aj;have hr:=rG M5;have aDZ:wB [.sl 1 [Pa [tr]]] (pI 0):=⟨[.sl [tr]],rfl,aj,bu (by show(0:Int)=bQ [dU [tr]];rw[h2];rfl)⟩
 have aU:iu [Pa [tr]] (pI tr.n):=⟨.sl [tr],rfl,GB h2,bu (by simp[bI,Sl.l])⟩
 have hlen:iu [qF s] (pI (bI s.l)):=⟨s,rfl,GB h1,rfl⟩
 have UH:Dz [qF s,pI p,Pa [tr],pI tr.n] (pI 0):=⟨s,p,tr,rfl,⟨h1,h2,h3,h4⟩,rfl⟩
 have XN:YT [qF s,pI 0,pI p] (.fresh 103 2 ((NB s.l 0 p).1.map Rn.pv)):=⟨s,0,p,rfl,⟨ab,ab,ab,gr.2.2.2⟩,rfl⟩
 have eQ:YT [qF s,pI (p+tr.n),pI (bI s.l)] (.fresh 103 2 ((NB s.l (p+tr.n) (bI s.l)).1.map Rn.pv)):=⟨s,p+tr.n,bI s.l,rfl,⟨ab,ab,ab,gr.2.2.2⟩,rfl⟩
 have Vt:=ay7 (f:=0) (n:=p) ⟨ab,ab⟩ gr.2.2.2;have WT:=ay7 (f:=p+tr.n) (n:=bI s.l) ⟨ab,ab⟩ gr.2.2.2;have lX:=anl gr.2.2.2 [] 0 p ab ab;have ZI:=anl gr.2.2.2 [] (p+tr.n) (bI s.l) ab ab;have PA:Xb [.sl 1 [Pa (NB s.l 0 p).1,Pa [tr],Pa (NB s.l (p+tr.n) (bI s.l)).1]] (.tup [.fresh 103 2 ((U4 (h_ [] (fO s.l p tr))).map Rn.pv),.pv (pI (nn s.l p tr))]):=by
  have e:[(NB s.l 0 p).1,[tr],(NB s.l (p+tr.n) (bI s.l)).1].flatten=fO s.l p tr:=by simp[fO]
  refine⟨[(NB s.l 0 p).1,[tr],(NB s.l (p+tr.n) (bI s.l)).1],rfl,⟨aj,?_,?_,?_⟩,?_⟩
  ·intro l hl;simp only[zaw,zb9,or_false]at hl;rcases hl with rfl|rfl|rfl
   ·exact⟨ab,Vt.2⟩
   ·exact⟨aj,λr hr=>by rw[zdg]at hr;subst hr;exact asn M5⟩
   ·exact⟨ab,WT.2⟩
  ·rw[e];unfold fO;rw[FE,FE];unfold NB;rw[lX,ZI];simp only[bI,zat,zcy,List.sum_cons,List.sum_nil]at*;omega
  ·rw[e];unfold fO;simp
  ·rw[e];rfl
 generalize (NB s.l 0 p).1=P1 at*;generalize (NB s.l (p+tr.n) (bI s.l)).1=P2 at*
 (repeat'((conv=>whnf);first|refine⟨_,aDZ,?_⟩|refine⟨_,aU,?_⟩|refine⟨_,UH,?_⟩|refine⟨_,hlen,?_⟩|refine⟨_,XN,?_⟩|refine⟨_,eQ,?_⟩|refine⟨_,PA,?_⟩|refine bj ab ?_|refine au ab ?_|refine aw ab ?_|refine bT ?_|fail))<;>try(conv=>whnf)
 exact abO
def qx(a:At)(p:Int)(tr:Rn):At:={ a with rn:=.sl (h_ [] (fO a.rn.l p tr)) }
def J2(B:List UInt8)(pl:List Int)(p:Int)(tr:Rn):Nat->List UInt8
 |0=>B
 |k+1=>MF (J2 B pl p tr k) (tr.s+k).toNat (eU B (pl[p.toNat+k]?.getD 0).toNat)
def ON(b:Nat->Bool)(pl:List Int)(p:Int)(tr:Rn):Nat->Nat->Bool
 |0=>b
 |k+1=>λc=>if c=(tr.s+k).toNat then true else if c=(pl[p.toNat+k]?.getD 0).toNat then false else ON b pl p tr k c
noncomputable def dJ(d:Dk)(a:At)(p:Int)(tr:Rn):Int:=
 if aK d a≠0 then aK d a else if SJ (ar d a) p tr≠0 then SJ (ar d a) p tr else if nn a.rn.l p tr≠0 then 8 else if gu (qx a p tr)≠0 then 8 else 0
noncomputable def jM(d:Dk)(a:At)(p:Int)(tr:Rn):Dk:=if dJ d a p tr≠0 then zD else⟨J2 d.a_ (az a.rn.l) p tr tr.n.toNat,mG (cQ (ON (df d) (az a.rn.l) p tr tr.n.toNat) d.n)⟩
noncomputable def jG(d:Dk)(a:At)(p:Int)(tr:Rn):At:=if dJ d a p tr≠0 then zA else qx a p tr
def ape{r:Rn}(h:jZ r):dU [r]=0:=by
 have hb:=rG h;have h0:∀k,k<[r].length->Wx [r] k=0:=λk hk=>by
  have:k=0:=by simpa using hk
  subst this;exact KD (x:=r) rfl h (λ_ h=>ab) (by rintro⟨k,hk,_⟩;omega)
 unfold dU;rw[Mo aj h0,if_pos (by simp[bI];omega)]
def aak:∀{l:List Int},bt l=l.length→∀x∈l,x≠ -1
 |[],_=>λ_ h=>by cases h
 |a::l,h=>by
  have hl:=oG l;unfold bt at h hl;rw[zb3]at h;split at h
  ·rename_i ha;intro x hx;rcases zaw.1 hx with rfl|hx
   ·simpa using ha
   ·exact aak (by unfold bt;simpa using h) x hx
  ·rw[zam]at h;omega
structure aJG(s:St)(p:Int)(tr:Rn):Prop where
 ok:Pv s p tr
 rs:s.a.rs=false
 len:p+tr.n<=s.pl.length
 from_:∀k:Nat,(k:Int)<tr.n→∃x,s.pl[p.toNat+k]?=some x/\x≠ -1
 free:∀c:Nat,tr.s<=c->(c:Int)<tr.s+tr.n->df s.d c=false
def Up{s:St}{p:Int}{tr:Rn}(h:SJ s p tr=0):aJG s p tr:=by
 unfold SJ at h;split at h
 ·cases h
 rename_i h1;split at h
 ·cases h
 rename_i h2;have h2:=zc3.1 h2;split at h
 ·cases h
 rename_i h3;split at h
 ·cases h
 rename_i h4;have h4:=zc3.1 h4;split at h
 ·cases h
 rename_i h5;have pr:=h2;unfold Pv at pr;have hlen:((s.pl.drop p.toNat).take tr.n.toNat).length=tr.n.toNat:=Rb;refine⟨h2,xO,ab,λk hk=>?_,λc h6 h7=>?_⟩
 ·have hx:s.pl[p.toNat+k]?=some (s.pl[p.toNat+k]'ab):=zah ab;refine⟨_,hx,aak (l:=(s.pl.drop p.toNat).take tr.n.toNat) ab _ ?_⟩;refine zag (i:=k) ?_;rw[zdj ab,zaB];exact hx
 ·cases hb:df s.d c with
  |false=>rfl
  |true=>
   refine absurd ?_ h5;refine zag (i:=c-tr.s.toNat) ?_;rw[zdj ab,zaB,show tr.s.toNat+(c-tr.s.toNat)=c by omega,bO ab,hb]
def Xk{B:List UInt8}{pl:List Int}{p:Int}{tr:Rn}(h:∀k:Nat,(k:Int)<tr.n->0<=tr.s+k/\(tr.s+k+1)*256<=B.length/\((pl[p.toNat+k]?.getD 0).toNat+1)*256<=B.length):∀k:Nat,(k:Int)<=tr.n->(J2 B pl p tr k).length=B.length
 |0,_=>rfl
 |k+1,hk=>by
  have ih:=Xk (B:=B) h k ab;have hh:=h k ab;unfold J2;rw[Yb ab (gI hh.2.2),ih]
def W9(ps:List PV)(r:RV):Prop:=∃(d:Dk) (a:At) (p:Int) (tr:Rn),ps=[d.pv,a.pv,pI p,tr.pv]/\(wU d/\a.nm.length<=1000000)/\
 r=.tup [.pv (jM d a p tr).pv,.pv (jG d a p tr).pv,.pv (pI (dJ d a p tr))]
set_option maxHeartbeats 2000000 in
def aj8:MT (ay [(58,xt),(129,ah Mk),(130,c8 true Hs),(131,ah nC),(59,c8 true xj),(132,ah AN),(61,ah Mn)]) JW (c8 false W9):=by
 rintro _ K ⟨_,⟨d,a,p,tr,rfl,⟨h1,h2⟩,rfl⟩,hK⟩;refine⟨d,a,rfl,⟨pR h1,h2⟩,λh=>?_,λh v hv=>?_⟩
 ·have sM:=(bc h).1;have fM:=sM.st h1 h2;have lM:Mk [sP (ar d a),pI p,tr.pv] (pI (SJ (ar d a) p tr)):=⟨ar d a,p,tr,rfl,fM,rfl⟩
  by_cases hm:SJ (ar d a) p tr=0
  ·have mo:=Up hm;have di:=mo.ok;unfold Pv at di;have kr:d.n<=512:=sM.nb;have WW:(ar d a).d=d:=rfl;rw[WW]at di;have M8:256*d.n<=d.a_.length:=so;have mW:d.a_.length<=200000:=h1.1;have qG:(ar d a).pl=az a.rn.l:=rfl;have ab8:=mo.from_;have jB:=X6 fM;rw[qG]at ab8 jB;rw[WW]at jB;obtain⟨N,hN⟩:∃N,N=d.n:=⟨_,rfl⟩
   obtain⟨BL,A9⟩:∃BL,BL=d.a_.length:=⟨_,rfl⟩
   rw[<-hN]at di kr M8 jB;rw[<-A9]at M8 mW;have M5:jZ tr:=by clear h hm;unfold jZ;split<;>omega
   have aLB:=xA (l:=a.rn.l) λr hr=>by have:=rG ((bZ sM.rn).2.2.2 r hr);omega
   have hlen:p+tr.n<=bI a.rn.l:=by have h3:=mo.len;rw[qG]at h3;omega
   have ui:Hs [qF a.rn,pI p,Pa [tr]] _:=⟨a.rn,p,tr,rfl,⟨sM.rn,ape M5,ab,hlen⟩,rfl⟩
   have hpb:p<=128:=by have h3:=mo.len;have h4:=sM.len;rw[qG]at h3;omega
   clear aLB hlen;have pe:∀k:Nat,(k:Int)<tr.n→∃x:Nat,(az a.rn.l)[p.toNat+k]?=some (x:Int)/\256*(x+1)<=BL/\x<N:=λk hk=>by
    clear h hm;obtain⟨x,hx,cb⟩:=ab8 k hk;have:=jB x (zag hx);refine⟨x.toNat,by rw[hx];congr 1;omega,ab,ab⟩
   have yh:=Xk (B:=d.a_) (pl:=az a.rn.l) (p:=p) (tr:=tr) λk hk=>by
    clear h hm;obtain⟨x,hx,vR,mV⟩:=pe k hk;rw[hx,zbA,<-A9];exact⟨ab,ab,by rw[zaC,zdM];exact vR⟩
   rw[<-A9]at yh;by_cases hr:nn a.rn.l p tr=0
   ·have PA:U4 (h_ [] (fO a.rn.l p tr))=h_ [] (fO a.rn.l p tr):=by unfold U4;rw[if_pos (show ny _=0 from hr)]
    rw[PA]at ui;have hAA:(qx a p tr).pv=.agg [pI a.ty,.str a.nm,pI a.id,pI a.fl,pB a.rs,.str a.vl,pI a.ft,Pa (h_ [] (fO a.rn.l p tr)),pI a.al,pI a.sz,pI a.vd]:=rfl;have IF:nC [(qx a p tr).pv] (pI (gu (qx a p tr))):=⟨qx a p tr,rfl,h2,rfl⟩
    by_cases ha:gu (qx a p tr)=0
    ·have he:dJ d a p tr=0:=by unfold dJ;rw[if_neg (λe=>e h),if_neg (λe=>e hm),if_neg (λe=>e hr),if_neg (λe=>e ha)]
     unfold jM jG at hK;rw[he,if_neg z0,if_neg z0]at hK;have ab6:xj [d.pv] (.fresh 4 1 ((cQ (df d) d.n).map pB)):=⟨d,rfl,⟨by have:=h1.1;omega,h1.2,sM.bm⟩,by rw[<-W_]⟩
     rw[<-hN]at ab6 hK;rw[hAA]at IF hK;generalize h_ [] (fO a.rn.l p tr)=J at*;generalize gu (qx a p tr)=AE at*;have mE:∀x:Nat,256*(x+1)<=BL->AN [sP (ar d a),pI x] (.str (eU d.a_ x)):=λx hx=>⟨ar d a,x,rfl,⟨by rw[A9,zdM]at hx;exact hx,by show d.a_.length<=_;omega⟩,rfl⟩
     (repeat'((conv=>whnf);first|refine⟨_,lM,?_⟩|refine⟨_,ui,?_⟩|refine⟨_,IF,?_⟩|refine⟨_,ab6,?_⟩|refine zc1 (show d.a_.length<=_ by rw[<-A9];omega) ?_|refine au ab ?_|refine aw ab ?_|refine bT ?_|fail))<;>try(conv=>whnf)
     refine⟨λm env σ=>∃k:Nat,(k:Int)+m=tr.n/\
      σ=[.box 31 [.pv (pI a.ty),.pv (.str a.nm),.pv (pI a.id),.pv (pI a.fl),.pv (pB a.rs),.pv (.str a.vl),.pv (pI a.ft),.own 6,.pv (pI a.al),.pv (pI a.sz),.pv (pI a.vd)],.box 103 [.pv (pI tr.s),.pv (pI tr.n)],
       .box 23 [.pv (.str []),.pv (.str [])],.box 31 [.pv (pI 0),.pv (.str []),.pv (pI 0),.pv (pI 0),.pv (pB false),.pv (.str []),.pv (pI 0),.pv (.nil 2),.pv (pI 0),.pv (pI 0),.pv (pI 0)],
       rk (ON (df d) (az a.rn.l) p tr k) N,.row 5 1 false ((J2 d.a_ (az a.rn.l) p tr k).map aL),.row 103 2 true (J.map Rn.pv)]/\
      env=[eN 2 p,(5,.ref 0 0 0),(7,.ref 1 0 0),(8,.ref 2 0 0),(9,.ref 3 0 0),(11,.pv (sP (ar d a))),(14,.own 4),(15,.own 5),eN 61 tr.n,eN 62 k],tr.n.toNat,⟨0,ab,rfl,rfl⟩,?_⟩
     rintro m env σ ⟨k,hk,rfl,rfl⟩;clear h hm hr he ha;by_cases aU:(k:Int)<tr.n
     ·obtain⟨x,hx,vR,mV⟩:=pe k aU;have HJ:=yh k ab;have hgx:(az a.rn.l)[(p+(k:Int)).toNat]?=some (x:Int):=abb;have hBk:J2 d.a_ (az a.rn.l) p tr (k+1)=MF (J2 d.a_ (az a.rn.l) p tr k) (tr.s+k).toNat (eU d.a_ x):=by
       show MF _ _ (eU d.a_ ((az a.rn.l)[p.toNat+k]?.getD 0).toNat)=_;rw[hx];rfl
      have hFk:(((cQ (ON (df d) (az a.rn.l) p tr k) N).map pB).set ((x:Int)).toNat (pB false)).set (tr.s+(k:Int)).toNat (pB true)=(cQ (ON (df d) (az a.rn.l) p tr (k+1)) N).map pB:=by
       rw[<-zdI,<-zdI,oq,oq];congr 1;refine kT λc hc=>?_
       show _=if c=(tr.s+k).toNat then true else if c=((az a.rn.l)[p.toNat+k]?.getD 0).toNat then false else ON (df d) (az a.rn.l) p tr k c
       rw[hx];rfl
      have ly:=anB (Q:=J2 d.a_ (az a.rn.l) p tr k) (p:=eU d.a_ x) (k:=tr.s+k) ab (gI (by rw[<-A9,zdM];exact vR));have aLC:=mE x vR;have uu:=gI (B:=d.a_) (n:=x) (by rw[<-A9,zdM];exact vR);clear hK lM ui IF ab6 mE jB pe yh ab8;have Zi:((J2 d.a_ (az a.rn.l) p tr k).map aL).length=BL:=by rw[zav];exact HJ
      have hy:∃y:Bool,(((cQ (ON (df d) (az a.rn.l) p tr k) N).map pB).set ((x:Int)).toNat (pB false))[(tr.s+(k:Int)).toNat]?=some (pB y):=by
       by_cases he:((x:Int)).toNat=(tr.s+(k:Int)).toNat
       ·exact⟨false,by rw[<-he,zbQ P3]⟩
       ·exact⟨_,by rw[List.getElem?_set_ne he,za9,bO ab];rfl⟩
      obtain⟨y,hy⟩:=hy;have aHU:(((cQ (ON (df d) (az a.rn.l) p tr k) N).map pB).set ((x:Int)).toNat (pB false)).length=N:=by rw[za0,zav,ck]
      simp only[rk];clear hN A9;generalize J2 d.a_ (az a.rn.l) p tr k=Q at*;generalize ON (df d) (az a.rn.l) p tr k=F at*
      (repeat'((conv=>whnf);first|refine oQ ?_|refine⟨_,aLC,?_⟩|refine Or.inr ?_|refine zc1 (by rw[Zi];omega) ?_|refine zc1 (by rw[aHU];omega) ?_|refine⟨_,hy,?_⟩|refine bj ab ?_|refine au ab ?_|refine anF ab aA ?_|refine Vx ab ?_|refine Ug ab ?_|fail))<;>try(conv=>whnf)
      exact⟨m-1,ab,k+1,ab,by rw[hBk,<-ly,<-hFk],rfl⟩
     ·have hk:k=tr.n.toNat:=by omega
      subst hk
      (repeat'((conv=>whnf);first|refine oQ ?_|refine⟨_,⟨cQ (ON (df d) (az a.rn.l) p tr tr.n.toNat) N,rfl,kD,rfl⟩,?_⟩|refine aw ab ?_|refine yR ?_|fail))<;>try(conv=>whnf)
      exact⟨[.pv (.agg [_,_]),.pv (.agg [_,_,_,_,_,_,_,_,_,_,_]),.pv (pI _)],⟨rfl,rfl,rfl,trivial⟩,trivial,hK⟩
    ·have he:dJ d a p tr=8:=by unfold dJ;rw[if_neg (λe=>e h),if_neg (λe=>e hm),if_neg (λe=>e hr),if_pos ha]
     unfold jM jG at hK;rw[he,if_pos z8,if_pos z8]at hK;rw[hAA]at IF
     (repeat'((conv=>whnf);first|refine⟨_,lM,?_⟩|refine⟨_,ui,?_⟩|refine⟨_,IF,?_⟩|refine au ab ?_|refine aw ab ?_|refine bT ?_|fail))<;>try(conv=>whnf)
     exact iN
   ·have he:dJ d a p tr=8:=by unfold dJ;rw[if_neg (λe=>e h),if_neg (λe=>e hm),if_pos hr]
    unfold jM jG at hK;rw[he,if_pos z8,if_pos z8]at hK
    (repeat'((conv=>whnf);first|refine⟨_,lM,?_⟩|refine⟨_,ui,?_⟩|refine au ab ?_|refine aw ab ?_|refine bT ?_|fail))<;>try(conv=>whnf)
    exact iN
  ·have he:dJ d a p tr=SJ (ar d a) p tr:=by unfold dJ;rw[if_neg (λe=>e h),if_pos hm]
   unfold jM jG at hK;rw[he,if_pos hm,if_pos hm]at hK
   (repeat'((conv=>whnf);first|refine⟨_,lM,?_⟩|refine au ab ?_|refine bT ?_|fail))<;>try(conv=>whnf)
   exact iN
 ·have he:dJ d a p tr=aK d a:=by unfold dJ;rw[if_pos h]
  unfold jM jG at hK;rw[he,if_pos h,if_pos h]at hK;rcases hv with rfl|rfl
  all_goals
   (repeat'((conv=>whnf);first|refine aw (p:=aK d a=0) h ?_|refine au h ?_|refine bT ?_|fail))<;>try(conv=>whnf)
   exact iN
def aen(a b:List Int):bt (a++b)=bt a+bt b:=by unfold bt;rw[zb0,zad]
def ax1{r:Rn}(h:jZ r):(bt (iV r):Int)=if r.s= -1 then 0 else r.n:=by
 have hb:=rG h;unfold iV bt;rw[List.filter_map,zav];by_cases hs:r.s= -1
 ·rw[if_pos hs,zdQ.2]
  ·simp
  ·intro i _;simp[hs]
 ·rw[if_neg hs,zbW.2]
  ·rw[List.length_range];omega
  ·intro i _;have:¬(r.s+(i:Int)= -1):=ab;simp[hs,this]
def Xz(ps:List PV)(x:PV):Prop:=∃s:Rs,ps=[qF s]/\(s.l.length<=1000∧∀r∈s.l,jZ r)/\x=pI (bt (az s.l))
def aj9:MT (ay []) Dn (ah Xz):=by
 rintro _ K ⟨_,⟨s,rfl,⟨h1,h2⟩,rfl⟩,hK⟩;refine⟨λm env σ=>∃n:Nat,n+m=s.l.length/\σ=[]/\env=[(0,.pv (qF s)),eN 3 (bt (az (s.l.take n))),eN 4 n],s.l.length,⟨0,ab,rfl,rfl⟩,?_⟩;rintro m env σ ⟨n,hn,rfl,rfl⟩;have hb:(az (s.l.take n)).length<=4096*(s.l.take n).length:=La λr hr=>by have:=rG (h2 r (zaL hr));exact⟨ab,ab⟩
 have hu:=oG (az (s.l.take n));rw[zal]at hb;by_cases aU:n<s.l.length
 ·obtain⟨a,ha⟩:∃a,s.l[n]?=some a:=⟨_,zah aU⟩
  have hp:=h2 a (zag ha);have hpb:=rG hp;have hT:(bt (az (s.l.take (n+1))):Int)=bt (az (s.l.take n))+if a.s= -1 then 0 else a.n:=by
   rw[zc2,ha,<-ax1 hp];simp[az,aen]
  clear hK;generalize bt (az (s.l.take n))=U at*
  (repeat'((conv=>whnf);first|refine KP ?_|refine Ek ha ?_|refine bj ab ?_|refine au ab ?_|refine de (λ_=>?_) (λ_=>?_)|refine ez λ_=>?_|fail))<;>try(conv=>whnf)
  ·rename_i hh;rw[if_neg hh]at hT;exact Bq
  ·rename_i hh;have hh:=zc3.1 hh;rw[if_pos hh]at hT;exact⟨m-1,ab,n+1,ab,rfl,by rw[hT,Int.add_zero];rfl⟩
 ·(repeat'((conv=>whnf);first|refine KP ?_|refine aw ab ?_|refine ez λ_=>?_|fail))<;>try(conv=>whnf)
  rw[za1 ab];exact aG
def Mp(ps:List PV)(p:Prop):Prop:=∃s:List UInt8,ps=[.str s]/\s.length<=1000000/\p=(s=ai s.length)
def Zt:MT (ay []) AZ (bF Mp):=by
 rintro args K ⟨_,⟨s,h1,h2,rfl⟩,hK⟩;exact N0 args K ⟨_,⟨s,h1,h2,rfl⟩,hK _ aj⟩
def Oq{l:List Int}:bt l=0↔∀x∈l,x= -1:=by
 unfold bt;rw[List.length_eq_zero_iff,zdQ];exact⟨λh x hx=>by simpa using h x hx,λh x hx=>by simpa using h x hx⟩
def TQ{B:List UInt8}{l:List Int}(h:MH B l):dF B l=[]↔bt l=0:=by
 rw[Oq];unfold dF;rw[List.flatMap_eq_nil_iff];refine⟨λhh x hx=>?_,λhh x hx=>?_⟩
 ·have:=hh x hx;unfold tS at this;rcases h x hx with h1|h1
  ·exact h1
  ·rw[if_neg ab]at this;have h2:=gI (B:=B) (n:=x.toNat) ab;rw[this]at h2;cases h2
 ·unfold tS;rw[if_pos (hh x hx)]
def amg:b9 []=(ai 4096,0):=by
 unfold b9;rw[if_neg aj,if_pos aj]
def apI{B:List UInt8}{vd:Int}{i:Nat}{c:List Int}(h:MH B c):
 xC B vd i c=if dF B c=[]then 0 else if (b9 (dF B c)).2≠0 then(b9 (dF B c)).2
  else if (b9 (dF B c)).1=ai (b9 (dF B c)).1.length∨¬(b9 (dF B c)).1.drop (mZ vd i)=ai ((b9 (dF B c)).1.drop (mZ vd i)).length then 19 else 0:=by
 have IF:mZ vd i<=4096:=by unfold mZ;omega
 unfold xC;by_cases hs:dF B c=[]
 ·have hu:=(TQ h).1 hs;rw[if_pos hs,hs,amg];simp only[ne_eq,not_true_eq_false,if_false,hu,zdV,false_and,false_or];rw[if_neg];intro e;apply e;unfold ai;rw[List.drop_replicate]
 ·have hu:0<bt c:=by
   rcases Nat.eq_zero_or_pos (bt c)with h1|h1
   ·exact absurd ((TQ h).2 h1) hs
   ·exact h1
  rw[if_neg hs];by_cases he:(b9 (dF B c)).2≠0
  ·rw[if_pos he,if_pos he]
  ·rw[if_neg he,if_neg he];have hl:=HC (zc3.1 he);rw[zax,hl];simp[hu]
def Dc(ps:List PV)(x:PV):Prop:=∃(d:Dk) (a:At) (i:Nat),ps=[d.pv,a.pv,pI i]/\(fH d/\dU a.rn.l=0/\MH d.a_ (az a.rn.l)/\16*i+16<=(az a.rn.l).length/\(0<=a.vd/\a.vd<=2000000))/\x=pI (xC d.a_ a.vd i (bq (az a.rn.l) i))
def Wf:MT (ay [(39,c8 false dL),(47,ah wX),(46,By),(115,bF Mp)]) Ib (ah Dc):=by
 rintro _ K ⟨_,⟨d,a,i,rfl,⟨h1,h2,h3,h4,h5⟩,rfl⟩,hK⟩;have PF:=r8 h2;have IH:=(ED h2).1;have AQ:MH d.a_ (bq (az a.rn.l) i):=λx hx=>h3 x ahM
 have mE:(bq (az a.rn.l) i).length=16:=by rw[yb];omega
 have HR:cut ((i:Int)*16).toNat (((i:Int)+1)*16).toNat ((az a.rn.l).map pI)=(bq (az a.rn.l) i).map pI:=by
  rw[show((i:Int)*16).toNat=16*i by omega,show(((i:Int)+1)*16).toNat=16*i+16 by omega,LX];rfl
 have XJ:((az a.rn.l).map pI).length=(az a.rn.l).length:=zav _;rw[apI AQ]at hK;have qH:=AJ d.a_ (bq (az a.rn.l) i);have IF:(max 0 (min 4096 (a.vd-(i:Int)*4096))).toNat=mZ a.vd i:=by unfold mZ;omega
 have aPX:mZ a.vd i<=4096:=by unfold mZ;omega
 generalize An:bq (az a.rn.l) i=c at*;generalize hss:dF d.a_ c=S at*;have xf:=L2 S;have aDP:=HC (s:=S);generalize Nd:b9 S=U at*;have fM:wX [d.pv,rI c] (.str S):=⟨d,c,rfl,⟨h1.1,ab,AQ⟩,by rw[hss]⟩
 obtain⟨own,e⟩:=U;simp only at hK xf aDP;by_cases hS:S=[]
 ·rw[if_pos hS]at hK
  (repeat'((conv=>whnf);first|refine⟨_,PF,?_⟩|refine zc1 xI ?_|rw[HR]|refine⟨_,fM,?_⟩|refine au (p:=S=[]) hS ?_|refine bj ab ?_|refine wz ?_|fail))<;>try(conv=>whnf)
  exact aG
 rw[if_neg hS]at hK;by_cases he:e≠0
 ·rw[if_pos he]at hK
  (repeat'((conv=>whnf);first|refine⟨_,PF,?_⟩|refine zc1 xI ?_|rw[HR]|refine⟨_,fM,?_⟩|refine aw (p:=S=[]) hS ?_|rw[Nd]|refine au he ?_|(refine fe ?_;first|refine bj ab ?_|refine⟨_,rfl,cZ,?_⟩|refine wz ?_|fail)))<;>try(conv=>whnf)
  exact aG
 rw[if_neg he]at hK;have aDP:=aDP (zc3.1 he);rw[<-IF]at hK;have WQ:cut (max 0 (min 4096 (a.vd-(i:Int)*4096))).toNat own.length own=own.drop (max 0 (min 4096 (a.vd-(i:Int)*4096))).toNat:=SZ _ _;have Aj:(own.drop (max 0 (min 4096 (a.vd-(i:Int)*4096))).toNat).length<=4096:=ef;by_cases hz:own=ai own.length
 ·rw[if_pos (.inl hz)]at hK
  (repeat'((conv=>whnf);first|refine⟨_,PF,?_⟩|refine zc1 xI ?_|rw[HR]|refine⟨_,fM,?_⟩|refine aw (p:=S=[]) hS ?_|rw[Nd]|refine aw he ?_|refine⟨_,⟨own,rfl,ab,rfl⟩,?_⟩|refine au hz ?_|(refine fe ?_;first|refine bj ab ?_|refine fQ ?_|refine I8 ?_|refine⟨_,rfl,cZ,?_⟩|refine wz ?_|fail)))<;>try(conv=>whnf)
  exact aG
 by_cases eJ:own.drop (max 0 (min 4096 (a.vd-(i:Int)*4096))).toNat=ai (own.drop (max 0 (min 4096 (a.vd-(i:Int)*4096))).toNat).length
 ·rw[if_neg (λh=>h.elim hz (λh=>h eJ))]at hK
  (repeat'((conv=>whnf);first|refine⟨_,PF,?_⟩|refine zc1 xI ?_|rw[HR]|refine⟨_,fM,?_⟩|refine aw (p:=S=[]) hS ?_|rw[Nd]|refine aw he ?_|refine⟨_,⟨own,rfl,ab,rfl⟩,?_⟩|refine aw hz ?_|rw[WQ]|refine⟨_,⟨own.drop (max 0 (min 4096 (a.vd-(i:Int)*4096))).toNat,rfl,ab,rfl⟩,?_⟩|refine au eJ ?_|(refine fe ?_;first|refine bj ab ?_|refine aN ?_|refine fQ ?_|refine I8 ?_|refine⟨_,rfl,cZ,?_⟩|refine wz ?_|refine zc1 cu ?_|fail)))<;>try(conv=>whnf)
  exact aG
 ·rw[if_pos (.inr eJ)]at hK
  (repeat'((conv=>whnf);first|refine⟨_,PF,?_⟩|refine zc1 xI ?_|rw[HR]|refine⟨_,fM,?_⟩|refine aw (p:=S=[]) hS ?_|rw[Nd]|refine aw he ?_|refine⟨_,⟨own,rfl,ab,rfl⟩,?_⟩|refine aw hz ?_|rw[WQ]|refine⟨_,⟨own.drop (max 0 (min 4096 (a.vd-(i:Int)*4096))).toNat,rfl,ab,rfl⟩,?_⟩|refine aw eJ ?_|(refine fe ?_;first|refine bj ab ?_|refine bP ?_|refine fQ ?_|refine I8 ?_|refine⟨_,rfl,cZ,?_⟩|refine wz ?_|refine zc1 cu ?_|fail)))<;>try(conv=>whnf)
  exact aG
def Y4(c:List Int):mh c↔∀i,i+1<c.length->c[i]?=some (-1)->c[i+1]?=some (-1):=by
 unfold mh;rcases Az (p:=λy=>y=(-1:Int)) c with⟨h1,h2⟩|⟨k,x,h1,h2,h3,h4⟩
 ·rw[h1];refine⟨λ_ i _ hi=>absurd rfl (h2 _ (zag hi)),λ_=>.inl ao⟩
 ·rw[h1,Oq];simp only[zaC];have hk:=eT h2;constructor
  ·rintro(h|h)
   ·omega
   ·intro i hi ud;have hik:k<=i:=by
     by_cases aU:i<k
     ·exact absurd rfl (h4 i aU _ ud)
     ·omega
    have hx:c[i+1]?=some c[i+1]:=zah hi;rw[hx];congr 1;refine h _ (zag (i:=i+1-k) ?_);rw[zaB,show k+(i+1-k)=i+1 by omega];exact hx
  ·intro h;have all:∀n,k+n<c.length->c[k+n]?=some (-1):=by
    intro n
    induction n with
    |zero=>intro _;rw[Nat.add_zero,h2,h3]
    |succ n ih=>intro hn;exact h (k+n) ab (ih ab)
   refine .inr λy hy=>?_
   obtain⟨n,hn⟩:=jk.1 hy;rw[zaB]at hn;have:=all n (eT hn);rw[hn]at this;exact Option.some.inj this
def JE{α:Type}(l:List α){k i:Nat}(hi:i<16):(bq l k)[i]?=l[16*k+i]?:=by
 unfold bq;rw[zdj hi,zaB]
def p_{α:Type}(l:List α){k:Nat}(hk:k<eE l.length):(chunks l)[k]?=some (bq l k):=by
 unfold chunks;rw[za9,zbD hk];rfl
def ah7{pl:List Int}(h16:pl.length%16=0):(∀c∈chunks pl,mh c)↔∀i,1<=i->i<pl.length->i%16≠0->pl[i-1]?=some (-1)->pl[i]?=some (-1):=by
 constructor
 ·intro h i hi iX hm hp;have hk:i/16<eE pl.length:=FO;have hc:=(Y4 _).1 (h _ (zag (p_ pl hk))) (i%16-1) (by rw[yb];omega)
   (by rw[JE _ ab,show 16*(i/16)+(i%16-1)=i-1 by omega];exact hp)
  rw[JE _ ab,show 16*(i/16)+(i%16-1+1)=i by omega]at hc;exact hc
 ·intro h c hc;obtain⟨k,hk⟩:=jk.1 hc;have Eo:k<eE pl.length:=by have:=eT hk;simpa[chunks]using this
  rw[p_ pl Eo]at hk;have hk:=Option.some.inj hk;subst hk;rw[Y4];intro i hi hp;rw[yb]at hi;rw[JE _ ab]at hp ⊢;exact h (16*k+(i+1)) ab ab ab (by rw[show 16*k+(i+1)-1=16*k+i by omega];exact hp)
def ZQ(a:At)(pl:List Int):Prop:=a.al=256*(bt pl:Int)/\(pl.length:Int)=aqF a a.sz∧¬(a.fl=0/\bt pl≠pl.length)
def apP{a:At}{pl:List Int}(hf:0<=a.fl/\a.fl<=2):lJ a pl↔ZQ a pl/\(a.fl%2=1→∀i,1<=i->i<pl.length->i%16≠0->pl[i-1]?=some (-1)->pl[i]?=some (-1)):=by
 unfold lJ ZQ aqF;by_cases hc:a.fl%2=1
 ·rw[if_pos hc,if_pos hc];constructor
  ·rintro⟨h1,h2,h3⟩;exact⟨⟨ab,ab,ab⟩,λ_=>(ah7 ab).1 h3⟩
  ·rintro⟨⟨h1,h2,h3⟩,h4⟩;exact⟨ab,ab,(ah7 ab).2 (h4 hc)⟩
 ·rw[if_neg hc,if_neg hc];constructor
  ·rintro⟨h1,h2,h3⟩;exact⟨⟨ab,h2,ab⟩,λh=>absurd h hc⟩
  ·rintro⟨⟨h1,h2,h3⟩,_⟩;exact⟨ab,h2,ab⟩
def aa7{l:List Int}{P:Int->Prop}{n:Nat}{x:Int}(h0:∀j,j<n→∀y,l[j]?=some y→¬P y)(hx:l[n]?=some x)(cb:¬P x):∀j,j<n+1→∀y,l[j]?=some y→¬P y:=by
 intro j hj y hy;rcases zc4 (zc5 hj)with h1|h1
 ·exact h0 j h1 y hy
 ·subst h1;rw[hx]at hy;cases hy;exact cb
def ad7{a:At}{out:List UInt8}(h:0<=a.vd/\a.vd<=a.sz)(hl:a.vd<=out.length):nA a out=out.take a.vd.toNat++ai (a.sz-a.vd).toNat:=by
 unfold nA mF;rw[zal,za1]
 ·congr 2;omega
 ·rw[zad,zal,aW];omega
def aqL{B:List UInt8}{pl:List Int}{k:Nat}(hk:k<eE pl.length):ow B ((chunks pl).take (k+1))=ow B ((chunks pl).take k)++(b9 (dF B (bq pl k))).1:=by
 rw[zc2,p_ pl hk];simp[ow]
def adV{B:List UInt8}:∀{cs:List (List Int)},(∀c∈cs,(b9 (dF B c)).2=0)->(ow B cs).length=4096*cs.length
 |[],_=>by simp[ow]
 |c::cs,h=>by
  have ih:=adV (B:=B) λx hx=>h x (List.mem_cons_of_mem c hx)
  have:=HC (h c aj);simp only[ow,zan,zad,zam]at*;omega
def ata{B:List UInt8}{vd:Int}{cs:List (List Int)}(h:qw B vd cs=0):∀c∈cs,(b9 (dF B c)).2=0:=by
 intro c hc;obtain⟨k,hk⟩:=jk.1 hc;have:=AG.1 h k (eT hk);rw[hk,zbA]at this;unfold xC at this;split at this
 ·rename_i g;exact absurd this g
 ·rename_i g;exact K6
def anU(ps:List PV)(r:RV):Prop:=∃s:List UInt8,ps=[.str s]/\s.length<=5000/\r=.tup [.pv (.str (b9 s).1),.pv (pI (b9 s).2)]
def Tg:MT (ay [(48,ah Xs),(116,L3),(117,ah qK),(118,Qb),(119,tf),(115,ah Mc)]) Cc (c8 true anU):=by
 rintro args K ⟨_,⟨s,h1,h2,rfl⟩,hK⟩;exact H7 args K ⟨s,h1,h2,hK⟩
def dj(ps:List PV)(x:PV):Prop:=∃(d:Dk) (a:At),ps=[d.pv,a.pv]/\(fH d/\aK d a=0)/\x=.str (aV (ar d a))
set_option maxHeartbeats 2000000 in
def Wk:MT (ay [(39,c8 false dL),(38,bF uJ),(47,ah wX),(46,c8 true anU),(48,ah fK),(49,ah iQ)]) ID (ah dj):=by
 rintro _ K ⟨_,⟨d,a,rfl,⟨h1,h2⟩,rfl⟩,hK⟩;obtain⟨sM,xk⟩:=bc h2;unfold aV at hK;have e1:(ar d a).a=a:=rfl;have e2:(ar d a).d=d:=rfl;have e3:(ar d a).pl=az a.rn.l:=rfl;rw[e1,e2,e3]at hK;cases c_:a.rs with
 |true=>
  rw[if_pos c_]at hK
  (repeat'((conv=>whnf);first|refine tW c_ ?_|fail))<;>try(conv=>whnf)
  exact bM
 |false=>
  rw[if_neg qD]at hK;obtain⟨g1,g2,g3⟩:=xk c_;have PF:=r8 sM.rn;have qG:=sM.pl;have Ee:=sM.len;have SL:=sM.fl;obtain⟨_,n2,n3⟩:=sM.num;have hvd:=((Ms (lE sM.str).1).ot c_).2.2.2.2.2.2;have mW:=h1.1;have am1:uJ [a.pv,pI 1] (a.fl/1%2=1):=⟨a,1,rfl,⟨ab,.inl rfl⟩,rfl⟩
  clear h2 xk sM;by_cases hc:a.fl%2=1
  ·rw[if_pos hc]at hK;have yB:=g2.2;rw[if_pos hc]at yB;have g3:=g3 hc;have aLd:(ow d.a_ (chunks (az a.rn.l))).length=4096*(chunks (az a.rn.l)).length:=adV (ata g3);have mE:=om (az a.rn.l);rw[ad7 ab (by rw[aLd];omega)]at hK;clear g1 g2 g3;generalize AU:az a.rn.l=PL at*
   (repeat'((conv=>whnf);first|refine qT c_ ?_|refine⟨_,PF,?_⟩|fail))<;>try(conv=>whnf)
   refine⟨λm env σ=>∃n:Nat,n+m=PL.length/\
    σ=[.box 23 [.pv (.str d.a_),.pv (.str d.mp)],.box 31 [.pv (pI a.ty),.pv (.str a.nm),.pv (pI a.id),.pv (pI a.fl),.pv (pB a.rs),.pv (.str a.vl),.pv (pI a.ft),.pv (qF a.rn),.pv (pI a.al),.pv (pI a.sz),.pv (pI a.vd)]]/\
    env=[(2,.ref 0 0 0),(3,.ref 1 0 0),(5,.pv (rI PL)),(6,.pv (.str (ow d.a_ ((chunks PL).take ((n+15)/16))))),eN 7 n],PL.length,⟨0,ab,rfl,rfl⟩,?_⟩
   rintro m env σ ⟨n,hn,rfl,rfl⟩;have Vr:=ajz d.a_ ((chunks PL).take ((n+15)/16));rw[zal]at Vr;by_cases aU:n<PL.length
   ·by_cases hm:n%16=0
    ·have hk:n/16<eE PL.length:=by unfold eE;omega
     have hT:=aqL (B:=d.a_) hk;rw[show(n+15)/16=n/16 by omega]at Vr ⊢;have AQ:MH d.a_ (bq PL (n/16)):=λx hx=>qG x ahM
     have aP1:(bq PL (n/16)).length=16:=by rw[yb];omega
     have HR:cut (n:Int).toNat ((n:Int)+16).toNat (PL.map pI)=(bq PL (n/16)).map pI:=by
      rw[show((n:Int)+16).toNat=(n:Int).toNat+16 by omega,LX];unfold bq;rw[show(n:Int).toNat=16*(n/16) by omega]
     have XJ:(PL.map pI).length=PL.length:=zav _;have qH:=AJ d.a_ (bq PL (n/16));have fM:wX [d.pv,rI (bq PL (n/16))] (.str (dF d.a_ (bq PL (n/16)))):=⟨d,_,rfl,⟨mW,ab,AQ⟩,rfl⟩
     have pd:anU [.str (dF d.a_ (bq PL (n/16)))] (.tup [.pv (.str (b9 (dF d.a_ (bq PL (n/16)))).1),.pv (pI (b9 (dF d.a_ (bq PL (n/16)))).2)]):=⟨_,rfl,ab,rfl⟩
     have xf:=L2 (dF d.a_ (bq PL (n/16)));clear hK;generalize bq PL (n/16)=c at*;generalize dF d.a_ c=S at*;generalize b9 S=U at*;obtain⟨own,e⟩:=U;have xf:own.length<=4096:=xf;have hTT:ow d.a_ ((chunks PL).take ((n+1+15)/16))=ow d.a_ ((chunks PL).take (n/16))++own:=by
      rw[show(n+1+15)/16=n/16+1 by omega];exact hT
     generalize ow d.a_ ((chunks PL).take (n/16))=A at*
     (repeat'((conv=>whnf);first|refine oQ ?_|refine⟨_,am1,?_⟩|refine zc1 xI ?_|rw[HR]|refine⟨_,fM,?_⟩|refine⟨_,pd,?_⟩|refine bj ab ?_|refine au ab ?_|refine lW ab ?_|refine ez λ_=>?_|refine wz ?_|fail))<;>try(conv=>whnf)
     exact⟨m-1,ab,n+1,ab,rfl,by rw[hTT];rfl⟩
    ·clear hK
     (repeat'((conv=>whnf);first|refine⟨_,am1,?_⟩|refine bj ab ?_|refine au ab ?_|refine aw ab ?_|refine lW ab ?_|refine ez λ_=>?_|fail))<;>try(conv=>whnf)
     exact⟨m-1,ab,n+1,ab,rfl,by rw[show(n+1+15)/16=(n+15)/16 by omega];rfl⟩
   ·have hn:n=PL.length:=by omega
    subst hn;rw[za1 ab]at Vr ⊢;have Ja:a.vd<=(ow d.a_ (chunks PL)).length:=ab;generalize ow d.a_ (chunks PL)=R at*;have PE:cut 0 a.vd.toNat R=R.take a.vd.toNat:=Gm;have xi:fK [pI (a.sz-a.vd)] (.str (ai (a.sz-a.vd).toNat)):=⟨a.sz-a.vd,rfl,ab,rfl⟩
    (repeat'((conv=>whnf);first|refine oQ ?_|rw[PE]|refine⟨_,xi,?_⟩|refine zc1 (by(rw[zal,aW];omega)) ?_|refine bj ab ?_|refine aw ab ?_|refine ez λ_=>?_|refine wz ?_|fail))<;>try(conv=>whnf)
    exact bM
  ·rw[if_neg hc]at hK;have yB:=g2.2;rw[if_neg hc]at yB;rw[ad7 ab (by rw[YO qG];omega)]at hK;clear g1 g2 g3;generalize AU:az a.rn.l=PL at*
   (repeat'((conv=>whnf);first|refine qT c_ ?_|refine⟨_,PF,?_⟩|fail))<;>try(conv=>whnf)
   refine⟨λm env σ=>∃n:Nat,n+m=PL.length/\
    σ=[.box 23 [.pv (.str d.a_),.pv (.str d.mp)],.box 31 [.pv (pI a.ty),.pv (.str a.nm),.pv (pI a.id),.pv (pI a.fl),.pv (pB a.rs),.pv (.str a.vl),.pv (pI a.ft),.pv (qF a.rn),.pv (pI a.al),.pv (pI a.sz),.pv (pI a.vd)]]/\
    env=[(2,.ref 0 0 0),(3,.ref 1 0 0),(5,.pv (rI PL)),(6,.pv (.str (rz d.a_ (PL.take n)))),eN 7 n],PL.length,⟨0,ab,rfl,rfl⟩,?_⟩
   rintro m env σ ⟨n,hn,rfl,rfl⟩;have vu:=YO (B:=d.a_) (l:=PL.take n) (λx hx=>qG x (zaL hx));rw[zal]at vu;by_cases aU:n<PL.length
   ·obtain⟨c,WS⟩:∃c,PL[n]?=some c:=⟨_,zah aU⟩
    have hT:rz d.a_ (PL.take (n+1))=rz d.a_ (PL.take n)++(if c= -1 then ai 256 else eU d.a_ c.toNat):=by
     rw[zc2,WS];simp[rz]
    have An:=qG c (zag WS);clear hK;by_cases h0:c= -1
    ·subst h0;rw[if_pos rfl]at hT
     (repeat'((conv=>whnf);first|refine⟨_,am1,?_⟩|refine zc1 aiY ?_|(refine fe ?_;first|refine bj ab ?_|refine au ab ?_|refine aw ab ?_|refine ez λ_=>?_|refine iY aA ?_|refine⟨_,⟨_,rfl,cZ,rfl⟩,?_⟩|fail)))<;>try(conv=>whnf)
     exact Bq
    ·obtain⟨k,rfl⟩:∃k:Nat,c=k:=⟨c.toNat,ab⟩
     have mE:(eU d.a_ k).length=256:=gI ab;rw[if_neg h0]at hT
     (repeat'((conv=>whnf);first|refine oQ ?_|refine⟨_,am1,?_⟩|refine⟨_,⟨d,k,rfl,ab,rfl⟩,?_⟩|refine zc1 (by rw[vu,mE];omega) ?_|refine bj ab ?_|refine au ab ?_|refine aw ab ?_|refine ez λ_=>?_|refine iY aA ?_|fail))<;>try(conv=>whnf)
     exact Bq
   ·have hn:n=PL.length:=by omega
    subst hn;rw[zc7]at vu ⊢;generalize rz d.a_ PL=R at*;have PE:cut 0 a.vd.toNat R=R.take a.vd.toNat:=Gm;have xi:fK [pI (a.sz-a.vd)] (.str (ai (a.sz-a.vd).toNat)):=⟨a.sz-a.vd,rfl,ab,rfl⟩
    (repeat'((conv=>whnf);first|refine oQ ?_|rw[PE]|refine⟨_,xi,?_⟩|refine zc1 (by(rw[zal,aW];omega)) ?_|refine bj ab ?_|refine aw ab ?_|refine ez λ_=>?_|refine wz ?_|fail))<;>try(conv=>whnf)
    exact bM
def Hv(ps:List PV)(r:RV):Prop:=∃s:Rs,ps=[qF s]/\s.l.length<=1000000/\r=.fresh 103 2 (s.l.map Rn.pv)
def Tv:MT (ay []) Ih (c8 true Hv):=by
 rintro _ K ⟨_,⟨s,rfl,hs,rfl⟩,hK⟩;have gJ:(s.l.map Rn.pv).length=s.l.length:=zav _
 (repeat'((conv=>whnf);first|refine KP ?_|refine bT ?_|refine zc1 cu ?_|fail))<;>try(conv=>whnf)
 exact vj
def aB(a:At):At:={ a with rn:=.sl a.rn.l }
def dK(ps:List PV)(r:RV):Prop:=∃a:At,ps=[a.pv]/\a.rn.l.length<=1000000/\r=.pv (aB a).pv
def acO:MT (ay [(45,c8 true Hv)]) yk (c8 false dK):=by
 rintro _ K ⟨_,⟨a,rfl,hs,rfl⟩,hK⟩
 (repeat'((conv=>whnf);first|refine⟨_,⟨a.rn,rfl,hs,rfl⟩,?_⟩|refine bT ?_|fail))<;>try(conv=>whnf)
 exact⟨.pv (aB a).pv,rfl,trivial,hK⟩
def We(s:List UInt8)(p:Nat)(b:List UInt8):List UInt8:=s.take p++b++s.drop (p+b.length)
def Yn{s:List UInt8}{p:Nat}{b:List UInt8}(h:p+b.length<=s.length):(We s p b).length=s.length:=by
 unfold We;simp only[zad,zal,zax];omega
def Dp(ps:List PV)(x:PV):Prop:=∃(s:List UInt8) (p:Int) (b:List UInt8),ps=[.str s,pI p,.str b]/\(0<=p/\p+b.length<=s.length/\s.length<=1000000)/\x=.str (We s p.toNat b)
def aie:MT (ay []) R_ (ah Dp):=by
 rintro _ K ⟨_,⟨s,p,b,rfl,⟨h1,h2,h3⟩,rfl⟩,hK⟩;have Oi:cut 0 p.toNat s=s.take p.toNat:=Gm;have Cw:cut (p+b.length).toNat s.length s=s.drop (p.toNat+b.length):=by unfold cut;rw[zc7];congr 1;omega
 (repeat'((conv=>whnf);first|refine oQ ?_|rw[Oi]|rw[Cw]|refine zc1 (by(simp only[zad,zal,zax];omega)) ?_|refine bj ab ?_|refine wz ?_|fail))<;>try(conv=>whnf)
 exact bM
def az3(s:List UInt8)(n:Nat):List UInt8:=s.take n++ai (n-min s.length n)
def ax0(s:List UInt8)(n:Nat):az3 s n=M9 s n:=by
 unfold az3 M9 mF;by_cases h:n<=s.length
 ·rw[show n-min s.length n=0 by omega,show n-s.length=0 by omega];simp[ai]
 ·rw[show min s.length n=s.length by omega,za1 ab,za1];rw[zad,aW];omega
def AI(ps:List PV)(x:PV):Prop:=∃(s:List UInt8) (n:Int),ps=[.str s,pI n]/\(s.length<=100000/\0<=n/\n<=100000)/\x=.str (M9 s n.toNat)
def adE:MT (ay [(48,ah fK)]) NW (ah AI):=by
 rintro _ K ⟨_,⟨s,n,rfl,⟨h1,h2,h3⟩,rfl⟩,hK⟩;have Oi:cut 0 (min (s.length:Int) n).toNat s=s.take n.toNat:=by
  unfold cut;rw[zdn];by_cases h:n.toNat<=s.length
  ·congr 1;omega
  ·rw[za1 ab,za1 ab]
 have xi:fK [pI (n-min (s.length:Int) n)] (.str (ai (n.toNat-min s.length n.toNat))):=⟨n-min (s.length:Int) n,rfl,ab,by congr 2;omega⟩
 rw[<-ax0]at hK;unfold az3 at hK
 (repeat'((conv=>whnf);first|refine oQ ?_|rw[Oi]|refine⟨_,xi,?_⟩|refine zc1 (by(simp only[zal,aW];omega)) ?_|refine bj ab ?_|refine I8 ?_|refine wz ?_|fail))<;>try(conv=>whnf)
 exact bM
def yr(C:List UInt8)(p:Nat)(aa:List UInt8):List UInt8:=if aa=[]then C else We (M9 C (max C.length (p+aa.length))) p aa
def Mi(ps:List PV)(x:PV):Prop:=∃(s:List UInt8) (p:Int) (aa:List UInt8),ps=[.str s,pI p,.str aa]/\(s.length<=50000/\0<=p/\p+aa.length<=50000)/\x=.str (yr s p.toNat aa)
def acH:MT (ay [(52,ah AI),(120,ah Dp)]) IA (ah Mi):=by
 rintro _ K ⟨_,⟨s,p,aa,rfl,⟨h1,h2,h3⟩,rfl⟩,hK⟩;unfold yr at hK;by_cases hd:aa=[]
 ·rw[if_pos hd]at hK
  (repeat'((conv=>whnf);first|refine au (p:=aa=[]) hd ?_|fail))<;>try(conv=>whnf)
  exact bM
 ·rw[if_neg hd]at hK;have mD:AI [.str s,pI (max (s.length:Int) (p+aa.length))] (.str (M9 s (max s.length (p.toNat+aa.length)))):=⟨s,_,rfl,ab,by congr 2;omega⟩
  have xw:Dp [.str (M9 s (max s.length (p.toNat+aa.length))),pI p,.str aa] (.str (We (M9 s (max s.length (p.toNat+aa.length))) p.toNat aa)):=⟨_,p,aa,rfl,by rw[Ag];omega,rfl⟩
  (repeat'((conv=>whnf);first|refine aw (p:=aa=[]) hd ?_|refine⟨_,mD,?_⟩|refine⟨_,xw,?_⟩|refine bj ab ?_|refine fQ ?_|fail))<;>try(conv=>whnf)
  exact bM
def PY(C:List UInt8)(p n:Int):List UInt8:=We C (min p C.length).toNat (ai (min (p+n) C.length-min p C.length).toNat)
def Hg(ps:List PV)(x:PV):Prop:=∃(s:List UInt8) (p n:Int),ps=[.str s,pI p,pI n]/\(s.length<=100000/\(0<=p/\p<=100000)/\0<=n/\n<=100000)/\x=.str (PY s p n)
def acn:MT (ay [(48,ah fK),(120,ah Dp)]) K5 (ah Hg):=by
 rintro _ K ⟨_,⟨s,p,n,rfl,⟨h1,h2,h3⟩,rfl⟩,hK⟩;have xi:fK [pI (min (p+n) (s.length:Int)-min p (s.length:Int))] (.str (ai (min (p+n) (s.length:Int)-min p (s.length:Int)).toNat)):=⟨_,rfl,ab,rfl⟩
 have xw:Dp [.str s,pI (min p (s.length:Int)),.str (ai (min (p+n) (s.length:Int)-min p (s.length:Int)).toNat)] (.str (PY s p n)):=⟨_,_,_,rfl,by rw[aW];omega,rfl⟩
 (repeat'((conv=>whnf);first|refine⟨_,xi,?_⟩|refine⟨_,xw,?_⟩|refine bj ab ?_|refine I8 ?_|fail))<;>try(conv=>whnf)
 exact bM
def tV(pl:List Int):List Int:=pl.filter λx=>decide (x≠ -1)
def atd{pl:List Int}{x:Int}:x∈tV pl↔x∈pl/\x≠ -1:=by unfold tV;rw[zbn];simp
def Lc(pl:List Int):(tV pl).length=bt pl:=rfl
def QH(ps:List PV)(r:RV):Prop:=∃a:At,ps=[a.pv]/\dU a.rn.l=0/\r=.pv (rI (tV (az a.rn.l)))
def ao1:MT (ay [(39,c8 false dL)]) U9 (c8 false QH):=by
 rintro _ K ⟨_,⟨a,rfl,h,rfl⟩,hK⟩;have PF:=r8 h;have IH:=(ED h).1;generalize az a.rn.l=PL at*
 (repeat'((conv=>whnf);first|refine⟨_,PF,?_⟩|fail))<;>try(conv=>whnf)
 refine⟨λm env σ=>∃n:Nat,n+m=PL.length/\σ=[.row 3 1 true ((tV (PL.take n)).map pI)]/\env=[(3,.own 0),(4,.pv (rI PL)),eN 5 n],PL.length,⟨0,ab,rfl,rfl⟩,?_⟩;rintro m env σ ⟨n,hn,rfl,rfl⟩;have Vr:=oG (PL.take n);rw[<-Lc,zal]at Vr;by_cases aU:n<PL.length
 ·obtain⟨x,hx⟩:∃x,PL[n]?=some x:=⟨_,zah aU⟩
  have hT:tV (PL.take (n+1))=tV (PL.take n)++if x= -1 then[]else[x]:=by
   unfold tV;rw[zc2,hx,zb0];by_cases h0:x= -1<;>simp[h0]
  clear hK;generalize tV (PL.take n)=O at*;have sS:(O.map pI).length=O.length:=zav _;by_cases h0:x= -1
  ·rw[if_pos h0,zbf]at hT
   (repeat'((conv=>whnf);first|refine aw (p:=x≠ -1) (λe=>e h0) ?_|refine bj ab ?_|refine au ab ?_|refine ez λ_=>?_|refine iY aA ?_|fail))<;>try(conv=>whnf)
   exact⟨m-1,ab,n+1,ab,by rw[hT],rfl⟩
  ·rw[if_neg h0]at hT
   (repeat'((conv=>whnf);first|refine au (p:=x≠ -1) h0 ?_|refine bj ab ?_|refine au ab ?_|refine ez λ_=>?_|refine iY aA ?_|refine bT ?_|refine zc1 cu ?_|fail))<;>try(conv=>whnf)
   exact⟨m-1,ab,n+1,ab,by rw[hT];simp,rfl⟩
 ·(repeat'((conv=>whnf);first|refine aw ab ?_|refine ez λ_=>?_|fail))<;>try(conv=>whnf)
  rw[za1 ab];exact abL
def DO(ps:List PV)(x:PV):Prop:=∃d:Dk,ps=[d.pv]/\(fH d/\d.n<=8*d.mp.length)/\x=pI ((d.n:Int)-oF d.mp d.n)
def Bj(s:List UInt8):∀n,oF s n<=n
 |0=>zai 0
 |n+1=>by
  have:=Bj s n;have h2:=mK s n;unfold oF;omega
def akU:MT (ay [(7,ah bA),(57,ah Hu)]) Q5 (ah DO):=by
 rintro _ K ⟨_,⟨d,rfl,⟨h1,h2⟩,rfl⟩,hK⟩;have Nt:bA [d.pv] (pI d.n):=⟨d,rfl,h1.1,rfl⟩
 have cM:Hu [.str d.mp,pI d.n] (pI (oF d.mp d.n)):=⟨d.mp,d.n,rfl,⟨h2,h1.2⟩,rfl⟩
 have hc:=Bj d.mp d.n;have hn:d.n<=1000000:=by unfold Dk.n;have:=h1.1;omega
 generalize d.n=N at*
 (repeat'((conv=>whnf);first|refine oQ ?_|refine⟨_,Nt,?_⟩|refine⟨_,cM,?_⟩|refine bj ab ?_|fail))<;>try(conv=>whnf)
 exact aG
def E0(d e:Dk)(A B:List Int)(c:Nat):Prop:=
 ((c:Int)∉A/\(c:Int)∉B->bH e.mp c=bH d.mp c/\eU d.a_ c=eU e.a_ c)/\((c:Int)∈A/\(c:Int)∉B->bH e.mp c=0)/\((c:Int)∈B->bH e.mp c=1)/\((c:Int)∈B/\(c:Int)∉A->bH d.mp c=0)
def adv(d e:Dk)(a b:At):Prop:=(d.a_.length=e.a_.length/\gm e=0)∧∀c,c<d.n->E0 d e (tV (az a.rn.l)) (tV (az b.rn.l)) c
def aa8(ps:List PV)(p:Prop):Prop:=∃(d e:Dk) (a b:At),ps=[d.pv,e.pv,a.pv,b.pv]/\(fH d/\fH e/\gm d=0/\dU a.rn.l=0/\dU b.rn.l=0)/\p=adv d e a b
set_option maxHeartbeats 4000000 in
def agr:MT (ay [(6,ah dm),(16,c8 false QH),(7,ah bA),(44,bF YX),(40,ah qM),(49,ah iQ)]) Kk (bF aa8):=by
 rintro _ K ⟨_,⟨d,e,a,b,rfl,⟨h1,h2,h3,h4,h5⟩,rfl⟩,hK⟩;have hde:dm [e.pv] (pI (gm e)):=⟨e,rfl,⟨h2.1,h2.2⟩,rfl⟩
 have yes:adv d e a b->K (.pv (.bool true)):=λh=>hK true uQ
 have no:¬adv d e a b->K (.pv (.bool false)):=λh=>hK false uQ
 clear hK;by_cases hl:d.a_.length=e.a_.length
 case neg=>
  (repeat'((conv=>whnf);first|refine au (p:=(d.a_.length:Int)≠e.a_.length) ab ?_|fail))<;>try(conv=>whnf)
  exact⟨.pv (.bool _),rfl,trivial,no λh=>hl h.1.1⟩
 by_cases he:gm e=0
 case neg=>
  (repeat'((conv=>whnf);first|refine aw (p:=(d.a_.length:Int)≠e.a_.length) ab ?_|refine⟨_,hde,?_⟩|refine au he ?_|fail))<;>try(conv=>whnf)
  exact⟨.pv (.bool _),rfl,trivial,no λh=>he h.1.2⟩
 have hoa:QH [a.pv] (.pv (rI (tV (az a.rn.l)))):=⟨a,rfl,h4,rfl⟩
 have hob:QH [b.pv] (.pv (rI (tV (az b.rn.l)))):=⟨b,rfl,h5,rfl⟩
 have la:=(ED h4).1;have lb:=(ED h5).1;have la2:=oG (az a.rn.l);have lb2:=oG (az b.rn.l);rw[<-Lc]at la2 lb2;have hP:adv d e a b↔∀c,c<d.n->E0 d e (tV (az a.rn.l)) (tV (az b.rn.l)) c:=⟨λh=>h.2,λh=>⟨⟨hl,he⟩,h⟩⟩
 rw[hP]at yes no;rw[he]at hde;clear hP;obtain⟨_,_,q6,_,_⟩:=iR (rX h3).2.2;obtain⟨_,_,q7,_,_⟩:=iR (rX he).2.2;have hen:e.n=d.n:=by unfold Dk.n;rw[hl]
 have Nt:bA [d.pv] (pI d.n):=⟨d,rfl,h1.1,rfl⟩
 have o_:∀c:Nat,c<d.n->qM [.str d.mp,pI c] (pI (bH d.mp c)):=λc hc=>⟨d.mp,c,rfl,⟨ab,h1.2⟩,rfl⟩
 have Ke:∀c:Nat,c<d.n->qM [.str e.mp,pI c] (pI (bH e.mp c)):=λc hc=>⟨e.mp,c,rfl,⟨by rw[hen]at q7;omega,h2.2⟩,rfl⟩
 have WQ:∀c:Nat,c<d.n->iQ [d.pv,pI c] (.str (eU d.a_ c)):=λc hc=>⟨d,c,rfl,⟨Se,h1.1⟩,rfl⟩
 have hce:∀c:Nat,c<d.n->iQ [e.pv,pI c] (.str (eU e.a_ c)):=λc hc=>⟨e,c,rfl,⟨by rw[<-hen]at hc;unfold Dk.n at hc;omega,h2.1⟩,rfl⟩
 have hnB:d.n<=512:=(rX h3).2.1;clear q6 q7 h1 h2 h3 h4 h5
 (repeat'((conv=>whnf);first|refine aw (p:=(d.a_.length:Int)≠e.a_.length) ab ?_|refine⟨_,hde,?_⟩|refine aw (p:=(0:Int)≠0) z0 ?_|refine oQ ?_|refine⟨_,hoa,?_⟩|refine⟨_,hob,?_⟩|fail))<;>try(conv=>whnf)
 generalize tV (az a.rn.l)=A at*;generalize tV (az b.rn.l)=B at*;obtain⟨N,hN⟩:∃N,N=d.n:=⟨_,rfl⟩
 rw[<-hN]at yes no Nt o_ Ke WQ hce hnB;refine⟨λm env σ=>∃n:Nat,(n+m=N∧∀c,c<n->E0 d e A B c)/\σ=[.box 23 [.pv (.str d.a_),.pv (.str d.mp)],.box 23 [.pv (.str e.a_),.pv (.str e.mp)]]/\
  env=[(4,.ref 0 0 0),(5,.ref 1 0 0),(9,.pv (rI A)),(10,.pv (rI B)),eN 11 n],N,⟨0,⟨ab,λc hc=>ab⟩,rfl,rfl⟩,?_⟩
 rintro m env σ ⟨n,⟨hn,h0⟩,rfl,rfl⟩;by_cases aU:n<N
 ·have o_:=o_ n aU;have Ke:=Ke n aU;have WQ:=WQ n aU;have hce:=hce n aU;have hqa:YX [rI A,pI n] ((n:Int)∈A):=⟨A,n,rfl,ab,rfl⟩
  have hqb:YX [rI B,pI n] ((n:Int)∈B):=⟨B,n,rfl,ab,rfl⟩
  have fM:E0 d e A B n→∀c,c<n+1->E0 d e A B c:=λh c hc=>by
   rcases zc4 (zc5 hc)with h1|h1
   ·exact h0 c h1
   ·rw[h1];exact h
  have no:¬E0 d e A B n->K (.pv (.bool false)):=λh=>no λhh=>h (hh n aU)
  have b1:=mK d.mp n;have b2:=mK e.mp n;clear yes h0 la la2 lb lb2 hde hoa hob hl hN hen;by_cases ha:(n:Int)∈A
  ·by_cases hb:(n:Int)∈B
   ·have aki:E0 d e A B n↔bH e.mp n=1:=by unfold E0;simp[ha,hb]
    (repeat'((conv=>whnf);first|refine⟨_,Nt,?_⟩|refine⟨_,hqa,?_⟩|refine⟨_,hqb,?_⟩|refine au ha ?_|refine au hb ?_|refine oQ ?_|refine⟨_,o_,?_⟩|refine⟨_,Ke,?_⟩|refine bj ab ?_|refine aN ?_|refine au ab ?_|refine de (λ_=>?_) (λ_=>?_)|fail))<;>try(conv=>whnf)
    all_goals first
     |exact Qu
     |exact QG
     |exact RT
     |exact ZO
   ·have aki:E0 d e A B n↔bH e.mp n=0:=by unfold E0;simp[ha,hb]
    (repeat'((conv=>whnf);first|refine⟨_,Nt,?_⟩|refine⟨_,hqa,?_⟩|refine⟨_,hqb,?_⟩|refine au ha ?_|refine aw hb ?_|refine oQ ?_|refine⟨_,o_,?_⟩|refine⟨_,Ke,?_⟩|refine bj ab ?_|refine aN ?_|refine bP ?_|refine au ab ?_|refine de (λ_=>?_) (λ_=>?_)|fail))<;>try(conv=>whnf)
    all_goals first
     |exact Qu
     |exact QG
     |exact RT
     |exact ZO
  ·by_cases hb:(n:Int)∈B
   ·have aki:E0 d e A B n↔bH e.mp n=1/\bH d.mp n=0:=by unfold E0;simp[ha,hb]
    (repeat'((conv=>whnf);first|refine⟨_,Nt,?_⟩|refine⟨_,hqa,?_⟩|refine⟨_,hqb,?_⟩|refine aw ha ?_|refine au hb ?_|refine oQ ?_|refine⟨_,o_,?_⟩|refine⟨_,Ke,?_⟩|refine bj ab ?_|refine aN ?_|refine bP ?_|refine au ab ?_|refine de (λ_=>?_) (λ_=>?_)|fail))<;>try(conv=>whnf)
    all_goals first
     |exact Qu
     |exact QG
     |exact RT
     |exact ZO
   ·have aki:E0 d e A B n↔bH e.mp n=bH d.mp n/\eU d.a_ n=eU e.a_ n:=by unfold E0;simp[ha,hb]
    (repeat'((conv=>whnf);first|refine⟨_,Nt,?_⟩|refine⟨_,hqa,?_⟩|refine⟨_,hqb,?_⟩|refine aw ha ?_|refine aw hb ?_|refine oQ ?_|refine⟨_,o_,?_⟩|refine⟨_,Ke,?_⟩|refine⟨_,WQ,?_⟩|refine⟨_,hce,?_⟩|refine bj ab ?_|refine bP ?_|refine au ab ?_|refine de (λ_=>?_) (λ_=>?_)|fail))<;>try(conv=>whnf)
    all_goals first
     |exact Qu
     |exact QG
     |exact RT
     |exact⟨m-1,ab,n+1,⟨ab,fM (aki.mpr ⟨ab,Classical.not_not.mp aA⟩)⟩,rfl,rfl⟩
 ·have hn:n=N:=by omega
  subst hn
  (repeat'((conv=>whnf);first|refine⟨_,Nt,?_⟩|refine aw ab ?_|fail))<;>try(conv=>whnf)
  exact⟨.pv (.bool _),rfl,trivial,yes h0⟩
def RF(l:List Bool):Nat:=l.countP id
def QT(a:At)(f t:Int)(i:Nat):Bool:=(if a.rs=true then decide ((i:Int)*256<a.vl.length)else Jc (az a.rn.l) i)||(decide (f<t)&&decide ((i:Int)*256<t)&&decide (f<((i:Int)+1)*256))
def nJ(a:At)(f t sz:Int):List Bool:=(List.range (Iy sz 256).toNat).map (QT a f t)
def au6(acc:List Rn)(a:Int):y4 acc ⟨a,1⟩=qV acc a:=by
 unfold y4 qV;cases acc.getLast? with
 |none=>rfl
 |some q=>
  have:iy q ⟨a,1⟩↔((a= -1/\q.s= -1)\/(a≠ -1/\q.s≠ -1/\q.s+q.n=a)):=by unfold iy;simp only;omega
  simp only[this]
def C8(pl:List Int)(p:Int)(tr:Rn):Nat->List Int
 |0=>pl
 |k+1=>(C8 pl p tr k).set (p+k).toNat (tr.s+k)
def Xy(pl:List Int)(p:Int)(tr:Rn):∀k,(C8 pl p tr k).length=pl.length
 |0=>rfl
 |k+1=>by rw[C8,za0];exact Xy pl p tr k
def Yu{l:List Int}:bt l=l.length↔∀x∈l,x≠ -1:=by
 refine⟨λh=>aak h,λh=>?_⟩;unfold bt;rw[zbW.2 λx hx=>by simpa using h x hx]
def Il(a:At)(p:Int)(tr:Rn):At:={ a with rn:=.sl (nS (C8 (az a.rn.l) p tr tr.n.toNat)) }
noncomputable def fE(d:Dk)(a:At)(p:Int)(tr:Rn):Int:=
 if SJ (ar d a) p tr≠0 then SJ (ar d a) p tr else if 64<(nS (C8 (az a.rn.l) p tr tr.n.toNat)).length\/gu (Il a p tr)≠0 then 8 else 0
def cX(l:List Int)(pl:List Int)(p:Int)(tr:Rn):Nat->List Int
 |0=>l
 |k+1=>((cX l pl p tr k).set (tr.s+k).toNat 1).set (pl[p.toNat+k]?.getD 0).toNat 0
def RQ(l pl:List Int)(p:Int)(tr:Rn):∀k,(cX l pl p tr k).length=l.length
 |0=>rfl
 |k+1=>by rw[cX,za0,za0];exact RQ l pl p tr k
def Lz(d:Dk)(a:At)(p:Int)(tr:Rn):Dk:=⟨J2 d.a_ (az a.rn.l) p tr tr.n.toNat,VA (λi=>((cX (sj d.mp d.n) (az a.rn.l) p tr tr.n.toNat)[i]?.getD 0).toNat) d.n⟩
def SK:Dk:=⟨ai (16384:Int).toNat,255::ai 7⟩
def agU(ps:List PV)(r:RV):Prop:=ps=[]/\r=.pv SK.pv
def TL:MT (ay [(48,ah fK)]) Sk (c8 false agU):=by
 rintro _ K ⟨_,⟨rfl,rfl⟩,hK⟩;have h1:fK [pI 16384] (.str (ai (16384:Int).toNat)):=⟨16384,rfl,ab,rfl⟩
 have h2:fK [pI 7] (.str (ai 7)):=⟨7,rfl,ab,rfl⟩
 unfold SK at hK;generalize ai (16384:Int).toNat=Z at*
 (repeat'((conv=>whnf);first|refine⟨_,h1,?_⟩|refine⟨_,h2,?_⟩|refine zc1 (by simp[aW];first|done|fail) ?_|fail))<;>try(conv=>whnf)
 exact⟨.pv (Dk.pv ⟨Z,255::ai 7⟩),rfl,trivial,hK⟩
def aiK(a:Int):iV ⟨a,1⟩=[a]:=by
 unfold iV;simp only[show(1:Int).toNat=1 from rfl,List.range_one,zat,zcy];split
 ·rename_i h;rw[h]
 ·simp
def aqA{q:Rn}{a:Int}(hq:0<=q.n)(h:(a= -1/\q.s= -1)\/(a≠ -1/\q.s≠ -1/\q.s+q.n=a)):iV ⟨q.s,q.n+1⟩=iV q++[a]:=by
 unfold iV;simp only;rw[show(q.n+1).toNat=q.n.toNat+1 by omega,zdk,zbu];congr 1;simp only[zat,zcy];split
 ·rw[show a= -1 by omega]
 ·rw[show q.s+((q.n.toNat:Nat):Int)=a by omega]
def Ff(a b:List Rn):az (a++b)=az a++az b:=by unfold az;rw[zaz]
def EN(r:Rn):az [r]=iV r:=by simp[az]
def ao0{acc:List Rn}{a:Int}(h:∀r∈acc,0<=r.n):az (qV acc a)=az acc++[a]:=by
 unfold qV;cases hl:acc.getLast? with
 |none=>
  have:acc=[]:=Lu;subst this;simp only[EN,aiK];rfl
 |some q=>
  simp only;have cb:acc≠[]:=by intro e;subst e;cases hl
  have e:acc.dropLast++[q]=acc:=by
   have e1:=zdH cb;rw[zdF cb]at hl;rw[<-Option.some.inj hl];exact e1
  split
  ·rename_i hj;rw[Ff,EN,aqA (h q (zdp hl)) hj,<-zaj];congr 1;rw[<-EN,<-Ff,e]
  ·rw[Ff,EN,aiK]
def ZB{l:List Int}(h:∀a∈l,-1<=a/\a<=1000000):az (nS l)=l:=by
 have:∀n,n<=l.length->az (nS (l.take n))=l.take n:=by
  intro n
  induction n with
  |zero=>intro _;simp[nS,az]
  |succ n ih=>
   intro hn;have ha:l[n]?=some l[n]:=zah ab;rw[Fh ha,ao0 (λr hr=>by have:=((agT h n).2 r hr).1.1;omega),ih ab,zc2,ha];rfl
 have:=this l.length (zai _);rwa[zc7]at this
def yw(l:List Int):Prop:=l.Pairwise λa b=>a≠ -1->a≠b
def XD{l:List Int}(h:yw l){i j:Nat}{x:Int}(hi:l[i]?=some x)(hj:l[j]?=some x)(hx:x≠ -1):i=j:=by
 unfold yw at h;rw[zdC]at h;obtain⟨ud,j9⟩:=zaa.1 hi;obtain⟨oX,Gx⟩:=zaa.1 hj;rcases zbJ i j with aU|heq|aU
 ·exact absurd (by rw[j9,Gx]) (h i j ud oX aU (by rw[j9];exact hx))
 ·exact heq
 ·exact absurd (by rw[j9,Gx]) (h j i oX ud aU (by rw[Gx];exact hx))
def Xt{l:List Int}(h:∀(i j:Nat) (x:Int),l[i]?=some x->l[j]?=some x->x≠ -1->i=j):yw l:=by
 unfold yw;rw[zdC];intro i j hi hj zk hx e;have:=h i j l[i] (zah hi) (by rw[zah hj,e]) hx;omega
def asW{l:List Rn}{k:Nat}{r:Rn}(h:l[k]?=some r)(h0:Wx l k=0){j:Nat}{q:Rn}(hj:j<k)(hq:l[j]?=some q):¬pE q r:=by
 intro hs;have hr:=Jr h h0;unfold Wx at h0;rw[h]at h0;simp only[hr,not_true_eq_false,if_false]at h0;split at h0
 ·cases h0
 ·rw[if_pos ⟨j,hj,q,hq,hs⟩]at h0;cases h0
def ain{r:Rn}{x:Int}(h:x∈iV r)(hx:x≠ -1):r.s≠ -1/\r.s<=x/\x<r.s+r.n:=by
 unfold iV at h;obtain⟨i,hi,rfl⟩:=zaX.1 h;have:=zbm.1 hi;split at hx
 ·exact absurd rfl hx
 ·rename_i hs;rw[if_neg hs];omega
def as4(r:Rn):yw (iV r):=by
 unfold yw iV;rw[zdW];refine List.Pairwise.imp ?_ zbL;intro i j zk h1 h2;by_cases hs:r.s= -1
 ·rw[if_pos hs]at h1;exact h1 rfl
 ·rw[if_neg hs,if_neg hs]at h2;omega
def u0{l:List Rn}(h:dU l=0):yw (az l):=by
 have g:=bZ h;unfold az yw;refine zdL.2 ⟨λr _=>as4 r,?_⟩;rw[zdC];intro i j hi hj zk x hx y hy I_ zn;have hs:=asW (zah hj) (g.2.1 j hj) zk (zah hi);have h1:=ain hx I_;have h2:=ain hy (by rw[<-zn];exact I_);exact hs ⟨h1.1,h2.1,ab,ab⟩
def ai1{ps:List (List UInt8)}{pl:List Int}{k:Nat}:∀{n:Nat},k<vF ps pl n→∃i,i<n/\G8 ps pl i=true/\vF ps pl i=k
 |0,h=>by cases h
 |n+1,h=>by
  by_cases h1:k<vF ps pl n
  ·obtain⟨i,h2,h3⟩:=ai1 h1;exact⟨i,ab,h3⟩
  ·rw[xP]at h;split at h
   ·rename_i hm;exact⟨n,ab,hm,ab⟩
   ·omega
def ae2{ps:List (List UInt8)}{pl:List Int}{i j:Nat}(h:i<j)(hm:G8 ps pl i=true):vF ps pl i<vF ps pl j:=by
 have h1:vF ps pl (i+1)<=vF ps pl j:=RP ps pl ab;rw[xP,if_pos hm]at h1;omega
structure axB(s:St)(ps:List (List UInt8))(P:Nat->Int)(b3:Nat->Bool):Prop where
 no:∀i,jz ps i=false->P i= -1
 yes:∀i,i<ps.length->jz ps i=true->0<=P i/\P i<s.d.n
 inj:∀i j,i<ps.length->j<ps.length->jz ps i=true->P i=P j->i=j
 bit:∀c,c<s.d.n->(b3 c=true↔(∃i,i<ps.length/\jz ps i=true/\P i=c)\/((c:Int)∉s.pl/\df s.d c=true))
 free:∀i,i<ps.length->jz ps i=true->P i∉s.pl->df s.d (P i).toNat=false
def ay6{s:St}(h:adA s){ps:List (List UInt8)}(hl:ps.length<=1000)(he:w_ ps s.pl (df s.d) s.d.n=0):
 (pN ps s.pl (df s.d) s.d.n).length=lT ps s.pl/\(pN ps s.pl (df s.d) s.d.n).Nodup∧∀x∈pN ps s.pl (df s.d) s.d.n,(0<=x/\x<s.d.n)/\sq ps s.pl (df s.d) x.toNat=false:=by
 unfold pN;by_cases hm:lT ps s.pl=0
 ·rw[if_pos hm];simp[hm]
 ·rw[if_neg hm];unfold w_ at he;rw[if_neg hm]at he;have hg:=ag0 (auh h hl hm he);have Vv:=DF (l:=cQ (sq ps s.pl (df s.d)) s.d.n) (by rw[ck];have:=h.n;omega);refine⟨by unfold qv;have:=hg.1;omega,hg.2.2,λx hx=>?_⟩;have g:=hg.2.1 x hx;refine⟨g.1,?_⟩;have g2:=g.2;rw[Vv.2,if_pos kD,bO ab,zbA]at g2;cases hb:sq ps s.pl (df s.d) x.toNat with
  |false=>rfl
  |true=>rw[hb]at g2;exact absurd g2 ao
def Xd{ps:List (List UInt8)}{pl:List Int}{i:Nat}:nD ps pl i≠ -1↔jz ps i=true/\pl[i]?.getD (-1)≠ -1:=by
 unfold nD;by_cases h:jz ps i=true
 ·rw[if_pos h];simp[h]
 ·rw[if_neg h];simp[h]
def SD{ps:List (List UInt8)}{pl:List Int}{i:Nat}(h:nD ps pl i≠ -1):pl[i]?=some (nD ps pl i):=by
 obtain⟨h1,h2⟩:=Xd.1 h;unfold nD;rw[if_pos h1];cases hp:pl[i]? with
 |none=>rw[hp]at h2;exact absurd rfl h2
 |some x=>rfl
def TA{ps:List (List UInt8)}{pl:List Int}{i:Nat}(h:jz ps i=true):G8 ps pl i=true↔nD ps pl i= -1:=by
 unfold G8;rw[h];simp
def atl{s:St}(h:adA s)(hd:yw s.pl){ps:List (List UInt8)}(hl:ps.length<=1000)(he:w_ ps s.pl (df s.d) s.d.n=0):
 axB s ps (CQ ps s.pl (pN ps s.pl (df s.d) s.d.n)) (ZJ (pN ps s.pl (df s.d) s.d.n) (sq ps s.pl (df s.d))):=by
 have CX:=λi hi hn=>auU h hl he (i:=i) hi hn
 obtain⟨f1,f2,f3⟩:=ay6 h hl he;generalize pN ps s.pl (df s.d) s.d.n=fr at*;have sQ:∀i,nD ps s.pl i≠ -1->CQ ps s.pl fr i=nD ps s.pl i:=λi hk=>by
  unfold CQ;rw[if_neg];intro hm;exact hk ((TA (Xd.1 hk).1).1 hm)
 have SH:∀c:Int,c≠ -1->(c∈Qg ps s.pl↔∃i,i<ps.length/\nD ps s.pl i=c):=λc hc=>by
  unfold Qg;rw[zaE];constructor
  ·rintro⟨i,hi⟩;have aU:i<ps.length:=by have:=(zaa.1 hi).1;rwa[ck]at this
   rw[bO aU]at hi;exact⟨i,aU,Option.some.inj hi⟩
  ·rintro⟨i,hi,e⟩;exact⟨i,by rw[bO hi,e]⟩
 have t_:∀c:Nat,sq ps s.pl (df s.d) c=if (c:Int)∈s.pl then decide ((c:Int)∈Qg ps s.pl)else df s.d c:=λc=>rfl
 have fq:∀i,G8 ps s.pl i=true->CQ ps s.pl fr i=fr[vF ps s.pl i]?.getD 0:=λi hm=>by unfold CQ;rw[if_pos hm]
 have pe:∀i,i<ps.length->G8 ps s.pl i=true->fr[vF ps s.pl i]?=some (CQ ps s.pl fr i):=λi hi hm=>by
  have hc:vF ps s.pl i<fr.length:=by rw[f1];exact ae2 hi hm
  have hx:fr[vF ps s.pl i]?=some fr[vF ps s.pl i]:=zah hc;rw[fq i hm,hx,zbA]
 refine⟨λi hi=>?_,CX,λi j hi hj hn e=>?_,λc hc=>?_,λi hi hn hnp=>?_⟩
 ·unfold CQ G8 nD;rw[hi];simp
 ·have hnj:jz ps j=true:=by
   by_cases g:jz ps j=true
   ·exact g
   ·have:CQ ps s.pl fr j= -1:=by unfold CQ G8 nD;simp[g]
    have:=(CX i hi hn).1;omega
  by_cases ki:nD ps s.pl i= -1
  ·have mi:=(TA hn).2 ki;by_cases kj:nD ps s.pl j= -1
   ·have mj:=(TA hnj).2 kj;have gi:=pe i hi mi;have gj:=pe j hj mj;rw[<-e]at gj;have heq:vF ps s.pl i=vF ps s.pl j:=by
     have h1:=(zaa.1 gi)
     have h2:=(zaa.1 gj)
     obtain⟨gT,ph⟩:=h1;obtain⟨h21,h22⟩:=h2;have f2:=zdC.1 f2;rcases zbJ (vF ps s.pl i) (vF ps s.pl j)with aU|he|aU
     ·exact absurd (by rw[ph,h22]) (f2 _ _ gT h21 aU)
     ·exact he
     ·exact absurd (by rw[ph,h22]) (f2 _ _ h21 gT aU)
    rcases zbJ i j with aU|he|aU
    ·have:=ae2 aU mi;omega
    ·exact he
    ·have:=ae2 aU mj;omega
   ·exfalso;have g:=(f3 _ (zag (pe i hi mi))).2;rw[e,sQ j kj,t_]at g;have nd:=CX j hj hnj;rw[sQ j kj]at nd;have av0:((nD ps s.pl j).toNat:Int)=nD ps s.pl j:=ab;rw[av0,if_pos (Dr kj)]at g;rw[decide_eq_true ((SH _ kj).2 ⟨j,hj,rfl⟩)]at g;cases g
  ·by_cases kj:nD ps s.pl j= -1
   ·exfalso;have mj:=(TA hnj).2 kj;have g:=(f3 _ (zag (pe j hj mj))).2;rw[<-e,sQ i ki,t_]at g;have jB:=CX i hi hn;rw[sQ i ki]at jB;have av0:((nD ps s.pl i).toNat:Int)=nD ps s.pl i:=ab;rw[av0,if_pos (Dr ki)]at g;rw[decide_eq_true ((SH _ ki).2 ⟨i,hi,rfl⟩)]at g;cases g
   ·rw[sQ i ki,sQ j kj]at e;have gi:=SD ki;have gj:=SD kj;rw[<-e]at gj;exact XD hd gi gj ki
 ·unfold ZJ;rw[zbE,decide_eq_true_eq,t_];constructor
  ·rintro(g|g)
   ·by_cases hp:(c:Int)∈s.pl
    ·rw[if_pos hp,decide_eq_true_eq,SH _ ab]at g;obtain⟨i,hi,e⟩:=g;have hk:nD ps s.pl i≠ -1:=ab;exact .inl ⟨i,hi,(Xd.1 hk).1,by rw[sQ i hk,e]⟩
    ·rw[if_neg hp]at g;exact .inr ⟨hp,g⟩
   ·obtain⟨k,hk⟩:=zaE.1 g;have AP:k<vF ps s.pl ps.length:=by
     have:=(zaa.1 hk).1;rw[f1]at this;exact this
    obtain⟨i,hi,hm,e⟩:=ai1 AP;have g2:=pe i hi hm;rw[e,hk]at g2;refine .inl ⟨i,hi,?_,(Option.some.inj g2).symm⟩;unfold G8 at hm;exact(zaU _ _▸hm).1
  ·rintro(⟨i,hi,hn,e⟩|⟨hp,hb⟩)
   ·by_cases ki:nD ps s.pl i= -1
    ·right;have:=zag (pe i hi ((TA hn).2 ki));rwa[e]at this
    ·left;rw[sQ i ki]at e;have hm:=Dr ki;rw[e]at hm ki;rw[if_pos hm,decide_eq_true_eq,SH _ ki];exact⟨i,hi,e⟩
   ·left;rw[if_neg hp,hb]
 ·have ki:nD ps s.pl i= -1:=Classical.byContradiction λhk=>hnp (by rw[sQ i hk];exact Dr hk)
  have g:=(f3 _ (zag (pe i hi ((TA hn).2 ki)))).2;have hy:=CX i hi hn;rw[t_,show((CQ ps s.pl fr i).toNat:Int)=CQ ps s.pl fr i by omega,if_neg hnp]at g;exact g
def axK(B:List UInt8)(k:Nat):eU B k=(B.drop (256*k)).take 256:=by
 unfold eU cut;rw[zdA];congr 1
 ·omega
 ·congr 1;omega
def aaH{B:List UInt8}{k i:Nat}(hi:i<256):(eU B k)[i]?=B[256*k+i]?:=by
 rw[axK,zdj hi,zaB]
def asH{B p:List UInt8}{k:Nat}(h:256*(k+1)<=B.length)(hp:p.length=256)(j:Nat):(MF B k p)[j]?=if 256*k<=j/\j<256*k+256 then p[j-256*k]? else B[j]?:=by
 unfold MF;have h1:(B.take (256*k)).length=256*k:=eI;have h2:(B.take (256*k)++p).length=256*k+256:=by rw[zad,h1,hp]
 by_cases g:j<256*k+256
 ·rw[zaq ab];by_cases g2:256*k<=j
  ·rw[if_pos ⟨g2,g⟩,zak ab,h1]
  ·rw[if_neg ab,zaq ab,zdj ab]
 ·rw[if_neg ab,zak ab,h2,zaB,show 256*k+256+(j-(256*k+256))=j by omega]
def anf{a b:List UInt8}(ha:a.length=256)(hb:b.length=256)(h:∀i:Nat,i<256->a[i]?=b[i]?):a=b:=by
 refine zba λi=>?_
 by_cases hi:i<256
 ·exact h i hi
 ·rw[zaK ab,zaK ab]
def ahQ{B p:List UInt8}{k c:Nat}(h:256*(k+1)<=B.length)(hp:p.length=256)(hc:256*(c+1)<=B.length):eU (MF B k p) c=if c=k then p else eU B c:=by
 have hl:(MF B k p).length=B.length:=Yb ab hp;refine anf (gI ab) (by split;exact hp;exact gI ab) λi hi=>?_
 rw[aaH hi,asH h hp];by_cases hck:c=k
 ·rw[if_pos hck,if_pos ab,hck,show 256*k+i-256*k=i by omega]
 ·rw[if_neg hck,if_neg ab,aaH hi]
def aec{B:List UInt8}{ps:List (List UInt8)}{P:Nat->Int}(hp:aBE ps)(hP:∀i,jz ps i=true->0<=P i/\(P i+1)*256<=B.length)
 (aDS:∀i j,jz ps i=true->jz ps j=true->P i=P j->i=j) {c:Nat} (hc:256*(c+1)<=B.length):∀n,
 (∀i,i<n->jz ps i=true->P i=c->eU (WA B ps P n) c=ps[i]?.getD [])/\((∀i,i<n->jz ps i=true->P i≠c)->eU (WA B ps P n) c=eU B c)
 |0=>⟨λi hi=>ab,λ_=>rfl⟩
 |n+1=>by
  obtain⟨za,zb⟩:=aec hp hP aDS hc n;have hl:=RW (B:=B) hp hP n;rw[TJ];by_cases hn:jz ps n=true
  ·rw[if_pos hn];have h1:=hP n hn;obtain⟨p,h2,h3⟩:=RJ.1 hn;have h4:(ps[n]?.getD []).length=256:=by rw[h2];exact(hp p (zag h2)).resolve_left h3
   rw[ahQ ab h4 ab];constructor
   ·intro i hi hni e;by_cases jB:i=n
    ·subst jB;rw[if_pos ab]
    ·have:¬P i=P n:=λh=>jB (aDS i n hni hn h)
     rw[if_neg ab];exact za i ab hni e
   ·intro h;rw[if_neg (by have:=h n ab hn;omega)];exact zb λi hi=>h i ab
  ·rw[if_neg hn];constructor
   ·intro i hi hni e;by_cases jB:i=n
    ·subst jB;exact absurd hni hn
    ·exact za i ab hni e
   ·intro h;exact zb λi hi=>h i ab
def wD{ps:List (List UInt8)}{i:Nat}(h:jz ps i=true):i<ps.length:=by
 obtain⟨p,h2,_⟩:=RJ.1 h;exact(zaa.1 h2).1
structure Bu(s:St)(ps:List (List UInt8))(P:Nat->Int)(D:Dk):Prop where
 len:D.a_.length=s.d.a_.length
 kW:∀i,jz ps i=true->eU D.a_ (P i).toNat=ps[i]?.getD []
 aBv:∀c,c<s.d.n->(∀i,jz ps i=true->P i≠c)->eU D.a_ c=eU s.d.a_ c
 bm:nu D.mp s.d.n=0
 bit:∀c,c<s.d.n->(bH D.mp c=1↔(∃i,i<ps.length/\jz ps i=true/\P i=c)\/((c:Int)∉s.pl/\bH s.d.mp c=1))
def aCI{s:St}(h:adA s){C:List UInt8}{dt:Nat->Prop}(hl:(aQ s C dt).length<=1000)(hp:axB s (aQ s C dt) (Be s C dt) (ZJ (pN (aQ s C dt) s.pl (df s.d) s.d.n) (sq (aQ s C dt) s.pl (df s.d)))):
 Bu s (aQ s C dt) (Be s C dt) (XY s C dt):=by
 have LQ:=auv s C dt;have hn:=h.n;have hP:∀i,jz (aQ s C dt) i=true->0<=Be s C dt i/\(Be s C dt i+1)*256<=s.d.a_.length:=λi hi=>by
  have:=hp.yes i (wD hi) hi;unfold Dk.n at this;omega
 have aDS:∀i j,jz (aQ s C dt) i=true->jz (aQ s C dt) j=true->Be s C dt i=Be s C dt j->i=j:=λi j hi hj e=>hp.inj i j (wD hi) (wD hj) hi e
 have mE:=λ(c:Nat) (hc:256*(c+1)<=s.d.a_.length)=>aec LQ hP aDS hc (aQ s C dt).length
 have Vv:=DF (l:=cQ (ZJ (pN (aQ s C dt) s.pl (df s.d) s.d.n) (sq (aQ s C dt) s.pl (df s.d))) s.d.n) kD;rw[ck]at Vv;refine⟨RW LQ hP _,λi hi=>?_,λc hc hm=>?_,Vv.1,λc hc=>?_⟩
 ·have h1:=hP i hi;exact(mE (Be s C dt i).toNat ab).1 i (wD hi) hi ab
 ·exact(mE c Se).2 λi _ hi=>hm i hi
 ·show bH (mG _) c=1↔_;rw[Vv.2,if_pos hc,bO hc,zbA];have hb:=hp.bit c hc;have e:mS (ZJ (pN (aQ s C dt) s.pl (df s.d) s.d.n) (sq (aQ s C dt) s.pl (df s.d)) c)=1↔ZJ (pN (aQ s C dt) s.pl (df s.d) s.d.n) (sq (aQ s C dt) s.pl (df s.d)) c=true:=by
   cases ZJ (pN (aQ s C dt) s.pl (df s.d) s.d.n) (sq (aQ s C dt) s.pl (df s.d)) c<;>simp[mS]
  rw[e,hb];unfold df;rw[decide_eq_true_eq]
def ta(C:List UInt8)(i:Nat):UInt8:=C[i]?.getD 0
def LW{n i:Nat}(h:i<n):(ai n)[i]?=some 0:=by
 unfold ai;rw[zcA,if_pos h]
def KE{l:List UInt8}{n i:Nat}(h:l.length<=n)(hi:i<n):(mF l n)[i]?=some (ta l i):=by
 unfold mF ta;by_cases g:i<l.length
 ·rw[zaq g,zah g];rfl
 ·rw[zak ab,LW ab,zaK ab];rfl
def Bi{a b:List UInt8}{n:Nat}(ha:a.length=n)(hb:b.length=n)(h:∀i:Nat,i<n->a[i]?=b[i]?):a=b:=by
 refine zba λi=>?_
 by_cases hi:i<n
 ·exact h i hi
 ·rw[zaK ab,zaK ab]
def ahO(m:Nat)(C:List UInt8)(i:Nat):List UInt8:=mF ((C.drop (m*i)).take m) m
def Z6(m:Nat)(C:List UInt8)(i:Nat):(ahO m C i).length=m:=BB eI
def YP{m:Nat}{C:List UInt8}{i j:Nat}(h:j<m):(ahO m C i)[j]?=some (ta C (m*i+j)):=by
 unfold ahO;rw[KE eI h];unfold ta;rw[zdj h,zaB]
def ahz{m:Nat}(f:Nat->List UInt8)(h:∀i,(f i).length=m)(n:Nat):((List.range n).flatMap f).length=m*n:=by
 induction n with
 |zero=>simp
 |succ n ih=>
  rw[zdk,zaz,zad,ih];simp only[zan,zdO,zbf,h,zdJ]
def am8{m:Nat}{C:List UInt8}{n:Nat}(h:C.length<=m*n):(List.range n).flatMap (ahO m C)=mF C (m*n):=by
 have key:∀k i:Nat,i<m*k->((List.range k).flatMap (ahO m C))[i]?=some (ta C i):=by
  intro k
  induction k with
  |zero=>intro i hi;simp at hi
  |succ k ih=>
   intro i hi;have hl:=ahz (ahO m C) (Z6 m C) k;rw[zdk,zaz];simp only[zan,zdO,zbf];by_cases g:i<m*k
   ·rw[zaq ab];exact ih i g
   ·rw[zdJ]at hi;rw[zak ab,hl,YP ab,show m*k+(i-m*k)=i by omega]
 refine Bi (ahz _ (Z6 m C) n) (BB h) λi hi=>?_
 rw[key n i hi,KE h hi]
def alm{a:At}{out C:List UInt8}(hs:a.sz=C.length)(hv:0<=a.vd/\a.vd<=C.length)(ho:∀i:Nat,(i:Int)<a.vd->out[i]?=some (ta C i))(hz:∀i:Nat,a.vd<=i->ta C i=0):nA a out=C:=by
 have hl:=OO a out;have sS:a.vd.toNat<=out.length:=by
  by_cases h:a.vd.toNat=0
  ·omega
  ·have:=(zaa.1 (ho (a.vd.toNat-1) ab)).1;omega
 have htl:(out.take a.vd.toNat).length=a.vd.toNat:=eI;refine Bi (n:=C.length) (by rw[hl];omega) rfl λi hi=>?_
 unfold nA;rw[zdj ab,KE ab ab];have hc:C[i]?=some (ta C i):=by unfold ta;rw[zah hi];rfl
 rw[hc];congr 1;by_cases g:(i:Int)<a.vd
 ·have h1:=ho i g;show(out.take a.vd.toNat)[i]?.getD 0=ta C i;rw[zdj ab,h1];rfl
 ·have h1:=hz i ab;rw[h1];show(out.take a.vd.toNat)[i]?.getD 0=0;rw[zaK ab];rfl
section
structure GZ(s:St)(C:List UInt8)(v:Int)(dt:Nat->Prop):Prop where
 len:C.length<=32768
 vb:0<=v/\v<=C.length
 z:∀i:Nat,v<=i->ta C i=0
 sp:s.a.fl/2%2=1→∀i,¬dt i→∀j,j<256->ta C (256*i+j)=0
def aue{m:Nat}{C:List UInt8}{i:Nat}(h:∀j,j<m->ta C (m*i+j)=0):ahO m C i=ai m:=
 Bi (Z6 m C i) (aW m) λj hj=>by rw[YP hj,h j hj,LW hj]
def Mr{α β:Type}{l:List α}{f g:α->List β}(h:∀x∈l,f x=g x):l.flatMap f=l.flatMap g:=by
 induction l with
 |nil=>rfl
 |cons a l ih=>rw[zan,zan,h a aj,ih λx hx=>h x iP]
def Xn{s:St}{C:List UInt8}{dt:Nat->Prop}(hc:¬s.a.fl%2=1){i:Nat}(hi:i<(C.length+255)/256):(aQ s C dt)[i]?=some (dv (s.a.fl/2%2=1) dt C i):=by
 unfold aQ;rw[if_neg hc,za9,zbD hi];rfl
def aAU{s:St}{C:List UInt8}{v:Int}{dt:Nat->Prop}{D:Dk}{P:Nat->Int}(hc:¬s.a.fl%2=1)(h:GZ s C v dt)(tT:∀i,jz (aQ s C dt) i=false->P i= -1)
 (CX:∀i,jz (aQ s C dt) i=true->0<=P i) (hd:Bu s (aQ s C dt) P D):rz D.a_ (cQ P (aQ s C dt).length)=mF C (256*((C.length+255)/256)):=by
 have hl:(aQ s C dt).length=(C.length+255)/256:=by rw[sK,if_neg hc]
 rw[<-am8 (m:=256) (C:=C) ab,hl];unfold rz cQ;rw[zdD];refine Mr λi hi=>?_
 have hi:=zbm.1 hi;have hp:=Xn (dt:=dt) hc hi;by_cases hn:jz (aQ s C dt) i=true
 ·have h1:=CX i hn;rw[if_neg ab,hd.kW i hn,hp,zbA];unfold dv;split
  ·rename_i g;obtain⟨p,h2,h3⟩:=RJ.1 hn;rw[hp]at h2;unfold dv at h2;rw[if_pos g]at h2;exact absurd (Option.some.inj h2).symm h3
  ·rfl
 ·have hn:jz (aQ s C dt) i=false:=by simpa using hn
  rw[if_pos (tT i hn)];refine(aue λj hj=>?_).symm;have um:dv (s.a.fl/2%2=1) dt C i=[]:=by
   unfold jz at hn;rw[hp]at hn;simpa using hn
  unfold dv at um;split at um
  ·rename_i g;exact h.sp g.1 i g.2 j hj
  ·have h5:=congrArg List.length um;rw[BB eI]at h5;cases h5
def XG{C:List UInt8}{k j:Nat}(hj:j<16):∀{n:Nat},k<n->(qy C n)[16*k+j]?=some (((j_ (wa C k)).drop (j*256)).take 256)
 |0,h=>by cases h
 |n+1,h=>by
  have hl:=afF C n;rw[aaN];by_cases g:k<n
  ·rw[zaq ab];exact XG hj g
  ·have:k=n:=by omega
   subst this;rw[zak ab,hl,show 16*k+j-16*k=j by omega];unfold HU;rw[za9,zbD hj];rfl
def aqD(Q:List UInt8)(n:Nat):(List.range n).flatMap (λj=>(Q.drop (j*256)).take 256)=Q.take (256*n):=by
 induction n with
 |zero=>simp
 |succ n ih=>
  rw[zdk,zaz,ih,zdJ,List.take_add];simp only[zan,zdO,zbf];rw[zdM n 256]
def adN{P:Nat->Int}{n k:Nat}(h:k<n):bq (cQ P (16*n)) k=(List.range 16).map λj=>P (16*k+j):=by
 refine zba λi=>?_
 unfold bq;by_cases hi:i<16
 ·rw[zdj hi,zaB,bO ab,za9,zbD hi];rfl
 ·rw[zaK eI,zaK aH]
def Y9(n:Nat):eE (16*n)=n:=FO
def aqv(C:List UInt8)(k:Nat):wa C k=ahO 4096 C k:=rfl
section
variable {s:St} {C:List UInt8} {v:Int} {dt:Nat->Prop} {D:Dk} {P:Nat->Int}
def aa9(hc:s.a.fl%2=1):aQ s C dt=qy C ((C.length+4095)/4096):=by unfold aQ;rw[if_pos hc]
def aop(hc:s.a.fl%2=1)(tT:∀i,jz (aQ s C dt) i=false->P i= -1)(CX:∀i,jz (aQ s C dt) i=true->0<=P i)(hd:Bu s (aQ s C dt) P D){k:Nat}(hk:k<(C.length+4095)/4096):
 dF D.a_ (bq (cQ P (16*((C.length+4095)/4096))) k)=j_ (wa C k):=by
 rw[adN hk];unfold dF;rw[zdD];have e:j_ (wa C k)=(List.range 16).flatMap (λj=>((j_ (wa C k)).drop (j*256)).take 256):=by
  rw[aqD,za1 (ai9 (AF C k))]
 conv=>rhs;rw[e]
 refine Mr λj hj=>?_
 have hj:=zbm.1 hj;have hp:(aQ s C dt)[16*k+j]?=some (((j_ (wa C k)).drop (j*256)).take 256):=by rw[aa9 hc];exact XG hj hk
 unfold tS;by_cases hn:jz (aQ s C dt) (16*k+j)=true
 ·have h1:=CX _ hn;rw[if_neg ab,hd.kW _ hn,hp];rfl
 ·have hn:jz (aQ s C dt) (16*k+j)=false:=by simpa using hn
  rw[if_pos (tT _ hn)];unfold jz at hn;rw[hp]at hn;have h2:((j_ (wa C k)).drop (j*256)).take 256=[]:=by simpa using hn
  exact h2.symm
def aCE(hc:s.a.fl%2=1)(tT:∀i,jz (aQ s C dt) i=false->P i= -1)(CX:∀i,jz (aQ s C dt) i=true->0<=P i)(hd:Bu s (aQ s C dt) P D):
 ow D.a_ (chunks (cQ P (aQ s C dt).length))=mF C (4096*((C.length+4095)/4096)):=by
 have hl:(aQ s C dt).length=16*((C.length+4095)/4096):=QS;rw[<-am8 (m:=4096) (C:=C) ab,hl];unfold ow chunks;rw[zdD,ck,Y9];refine Mr λk hk=>?_
 rw[aop hc tT CX hd (zbm.1 hk),(Dx (AF C k)).1];rfl
def aBR(h:GZ s C v dt)(tT:∀i,jz (aQ s C dt) i=false->P i= -1)(CX:∀i,jz (aQ s C dt) i=true->0<=P i)(hd:Bu s (aQ s C dt) P D){a:At}(hf:a.fl=s.a.fl)(hs:a.sz=C.length)(hv:a.vd=v):
 nA a (if a.fl%2=1 then ow D.a_ (chunks (cQ P (aQ s C dt).length))else rz D.a_ (cQ P (aQ s C dt).length))=C:=by
 have hb:=h.vb;refine alm hs (by rw[hv];exact hb) (λi hi=>?_) λi hi=>h.z i ab
 rw[hv]at hi;split
 ·rename_i g;rw[aCE ab tT CX hd];exact KE ab ab
 ·rename_i g;rw[aAU ab h tT CX hd];exact KE ab ab
end
end
section
def ajP{l:List Int}(h:∀x∈l,x=0):bQ l=0:=by
 induction l with
 |nil=>rfl
 |cons a l ih=>
  have ha:=h a aj;subst ha;simp only[bQ,if_true];exact ih λx hx=>h x iP
def aqQ{f:Nat->Int}{n:Nat}(h:∀i,i<n->f i=0):TE f n=0:=by
 unfold TE;refine ajP λx hx=>?_
 obtain⟨i,hi,rfl⟩:=zaX.1 hx;exact h i (zbm.1 hi)
def apC{u:List UInt8}(h:u=ai u.length):j_ u=[]:=by unfold j_;rw[if_pos h]
def aiN{l:List Int}{k:Nat}{x:Int}(h:x∈bq l k):x∈l:=by
 unfold bq at h;exact zby (zaL h)
section
variable {s:St} {C:List UInt8} {v:Int} {dt:Nat->Prop} {D:Dk} {P:Nat->Int}
def asb(hc:s.a.fl%2=1)(h:GZ s C v dt)(tT:∀i,jz (aQ s C dt) i=false->P i= -1)(CX:∀i,jz (aQ s C dt) i=true->0<=P i)(hd:Bu s (aQ s C dt) P D)(qG:MH D.a_ (cQ P (aQ s C dt).length)):
 qw D.a_ v (chunks (cQ P (aQ s C dt).length))=0:=by
 have hl:(aQ s C dt).length=16*((C.length+4095)/4096):=QS;have mE:=om (cQ P (aQ s C dt).length);rw[ck]at mE;unfold qw;refine aqQ λk hk=>?_
 have AP:k<(C.length+4095)/4096:=ab;rw[p_ _ (by rw[ck];unfold eE;omega),zbA];have fM:dF D.a_ (bq (cQ P (aQ s C dt).length) k)=j_ (wa C k):=by rw[hl];exact aop hc tT CX hd AP
 have xf:=(Dx (AF C k)).1;have Vr:=AF C k;unfold xC;rw[fM,xf,if_neg aj,if_neg];rintro(⟨g1,g2⟩|g)
 ·have h0:dF D.a_ (bq (cQ P (aQ s C dt).length) k)=[]:=by
   rw[fM];exact apC (by rw[Vr];exact g2)
  rw[TQ λx hx=>qG x (aiN hx)]at h0;omega
 ·refine g ?_;have hu:mZ v k<=4096:=by unfold mZ;omega
  refine Bi (n:=4096-mZ v k) (by rw[zax,Vr]) (aW _) λj hj=>?_
  rw[zaB,aqv,YP ab,LW hj];congr 1;exact h.z _ (by unfold mZ at hj ⊢;omega)
def axc(hc:s.a.fl%2=1)(tT:∀i,jz (aQ s C dt) i=false->P i= -1)(CX:∀i,jz (aQ s C dt) i=true->0<=P i):∀c∈chunks (cQ P (aQ s C dt).length),mh c:=by
 have hl:(aQ s C dt).length=16*((C.length+4095)/4096):=QS;intro c AQ;unfold chunks at AQ;rw[ck]at AQ;obtain⟨k,hk,rfl⟩:=zaX.1 AQ;have hk:=zbm.1 hk;rw[hl,Y9]at hk;rw[hl,adN hk];unfold mh;rcases Az (p:=λy:Int=>y= -1) ((List.range 16).map λj=>P (16*k+j))with⟨h1,_⟩|⟨i,x,h1,h2,h3,_⟩
 ·left;rw[h1];decide
 ·right;rw[h1,zaC,Oq];have hi:i<16:=by have:=(zaa.1 h2).1;simpa using this
  rw[za9,zbD hi]at h2;have hPi:P (16*k+i)= -1:=by rw[<-h3];exact Option.some.inj h2
  have Gr:∀j,j<16->(aQ s C dt)[16*k+j]?=some (((j_ (wa C k)).drop (j*256)).take 256):=λj hj=>by rw[aa9 hc];exact XG hj hk
  have z_:jz (aQ s C dt) (16*k+i)=false:=by
   cases hn:jz (aQ s C dt) (16*k+i)with
   |false=>rfl
   |true=>have:=CX _ hn;omega
  have hlen:(j_ (wa C k)).length<=i*256:=by
   unfold jz at z_;rw[Gr i hi]at z_;have h2:((j_ (wa C k)).drop (i*256)).take 256=[]:=by simpa using z_
   have h3:=congrArg List.length h2;rw[zal,zax]at h3;simp only[zaY]at h3;omega
  intro y hy;obtain⟨j,hj⟩:=zaE.1 hy;rw[zaB]at hj;have aHH:i+j<16:=by have:=(zaa.1 hj).1;simpa using this
  rw[za9,zbD aHH]at hj;rw[<-Option.some.inj hj];refine tT _ ?_;unfold jz;rw[Gr (i+j) aHH,zbA,zcj (zay hlen (Nat.mul_le_mul_right 256 (Nat.le_add_right i j)))];simp
end
end
structure asc(s:St)(C:List UInt8)(v:Int)(dt:Nat->Prop):Prop where
 op:aK (XY s C dt) (Gv s C v dt)=0
 fN:aV (ar (XY s C dt) (Gv s C v dt))=C
 plc:az (Gv s C v dt).rn.l=Cz s C dt
 pl:axB s (aQ s C dt) (Be s C dt) (ZJ (pN (aQ s C dt) s.pl (df s.d) s.d.n) (sq (aQ s C dt) s.pl (df s.d)))
 dk:Bu s (aQ s C dt) (Be s C dt) (XY s C dt)
def Xo{d:Dk}{a:At}{C:List UInt8}{v:Int}{dt:Nat->Prop}(h0:aK d a=0)(hd:wU d)(hn:a.nm.length<=1000000)(hc:GZ (ar d a) C v dt)(he:Md (ar d a) C v dt=0):asc (ar d a) C v dt:=by
 obtain⟨ok,_⟩:=bc h0;have st:=ok.st hd hn;have Es:yw (ar d a).pl:=u0 ok.rn;obtain⟨d1,d2,d3⟩:=rX ok.dk;obtain⟨s1,s2,s3,s4,s5⟩:=lE ok.str;generalize hs:ar d a=s at*;have HO:s.a=a:=by rw[<-hs];rfl
 have WW:s.d=d:=by rw[<-hs];rfl
 unfold Md at he;split at he
 ·rename_i g;exact absurd he g
 rename_i HL;have HL:=zc3.1 HL;split at he
 ·cases he
 rename_i qN;have he3:¬64<(nS (Cz s C dt)).length:=λh=>qN (.inl h)
 have he4:gu (Gv s C v dt)=0:=zc3.1 λh=>qN (.inr h)
 have qG:=sK s C dt;have mE:=hc.len;have IH:(aQ s C dt).length<=200:=Su;have pl:axB s (aQ s C dt) (Be s C dt) (ZJ (pN (aQ s C dt) s.pl (df s.d) s.d.n) (sq (aQ s C dt) s.pl (df s.d))):=atl st Es (ps:=aQ s C dt) ab HL;have dk:=aCI st ab pl;have CX:∀i,jz (aQ s C dt) i=true->0<=Be s C dt i:=λi hi=>(pl.yes i (wD hi) hi).1
 have tT:∀i,jz (aQ s C dt) i=false->Be s C dt i= -1:=pl.no;have rK:s.d.n<=512:=st.n;have hb:∀x∈Cz s C dt,x= -1\/(0<=x/\x<s.d.n):=λx hx=>by
  obtain⟨i,hi,rfl⟩:=zaX.1 hx;cases g:jz (aQ s C dt) i with
  |false=>exact .inl (tT i g)
  |true=>exact .inr (pl.yes i (zbm.1 hi) g)
 have akC:az (Gv s C v dt).rn.l=Cz s C dt:=ZB λx hx=>by rcases hb x hx with h|h<;>omega
 have hDn:(XY s C dt).n=s.d.n:=by unfold Dk.n;rw[dk.len]
 have aLi:MH (XY s C dt).a_ (Cz s C dt):=λx hx=>by
  rcases hb x hx with h|h
  ·exact .inl h
  ·right;rw[dk.len];unfold Dk.n at h;omega
 have aHJ:(Cz s C dt).length=(aQ s C dt).length:=ck;have SL:(Gv s C v dt).fl=s.a.fl:=rfl;refine⟨?_,?_,akC,pl,dk⟩
 ·unfold aK;have hdE:gm (XY s C dt)=0:=by
   unfold gm;rw[hDn,dk.len,WW,if_neg ab,if_neg ab];have:=dk.bm;rwa[WW]at this
  have hsE:oT (Gv s C v dt)=0:=by
   unfold oT;rw[he4,if_neg aj,if_neg,if_neg,if_neg]
   ·show ¬32768<(C.length:Int);omega
   ·show ¬(0:Int)≠0;simp
   ·show ¬(s.a.ty≠128\/4<=s.a.fl\/s.a.fl=3);rw[HO];omega
  have rH:pG (XY s C dt) (Cz s C dt)=0:=by
   unfold pG;rw[if_neg,if_neg]
   ·rintro⟨x,hx,h1,h2⟩;obtain⟨i,hi,rfl⟩:=zaX.1 hx;have hi:=zbm.1 hi;cases g:jz (aQ s C dt) i with
    |false=>exact h1 (tT i g)
    |true=>
     have hy:=pl.yes i hi g;have uq:=(dk.bit (Be s C dt i).toNat ab).2 (.inl ⟨i,hi,g,ab⟩);rw[uq]at h2;cases h2
   ·rintro⟨x,hx,h1⟩;rw[hDn]at h1;rcases hb x hx with h|h<;>omega
  have yB:lJ (Gv s C v dt) (Cz s C dt):=by
   refine⟨rfl,?_⟩;rw[SL,aHJ,qG];show if s.a.fl%2=1 then(((if s.a.fl%2=1 then 16*((C.length+4095)/4096)else(C.length+255)/256:Nat):Int)=((C.length:Int)+4095)/4096*16∧∀c∈chunks (Cz s C dt),mh c)else(((if s.a.fl%2=1 then 16*((C.length+4095)/4096)else(C.length+255)/256:Nat):Int)=((C.length:Int)+255)/256/\(s.a.fl/2%2=1\/bt (Cz s C dt)=(if s.a.fl%2=1 then 16*((C.length+4095)/4096)else(C.length+255)/256:Nat)));split
   ·rename_i g;exact⟨ab,axc g tT CX⟩
   ·rename_i g;refine⟨ab,?_⟩;by_cases g2:s.a.fl/2%2=1
    ·exact .inl g2
    ·right;rw[<-if_neg g (t:=16*((C.length+4095)/4096)) (e:=(C.length+255)/256),<-qG,<-aHJ,Yu];intro x hx e;obtain⟨i,hi,hxi⟩:=zaX.1 hx;have hi:=zbm.1 hi;have cb:jz (aQ s C dt) i=true:=by
      have hp:=Xn (dt:=dt) g (i:=i) (by rw[qG,if_neg g]at hi;exact hi);unfold jz;rw[hp,zbA,decide_eq_true_eq];unfold dv;rw[if_neg (λh=>g2 h.1)];intro Nv;have h5:=congrArg List.length Nv;rw[BB eI]at h5;cases h5
     have:=CX i cb;omega
  rw[hdE,hsE,if_neg aj,if_neg aj,if_neg (by show ¬false=true;simp),akC,rH,if_neg aj];unfold iW;rw[if_pos yB,if_neg aj];split
  ·rename_i g;exact asb (v:=v) (by rw[<-SL];exact g) hc tT CX dk aLi
  ·rfl
 ·unfold aV;rw[if_neg (by show ¬false=true;simp)];show nA (Gv s C v dt) (if (Gv s C v dt).fl%2=1 then ow (XY s C dt).a_ (chunks (az (Gv s C v dt).rn.l))else rz (XY s C dt).a_ (az (Gv s C v dt).rn.l))=C;rw[akC];exact aBR (v:=v) hc tT CX dk rfl rfl rfl
def Dl{l:List Int}{c:Nat}:(c:Int)∈tV l↔(c:Int)∈l:=by
 rw[atd];exact⟨λh=>h.1,λh=>⟨h,ab⟩⟩
def atm{d:Dk}{a:At}{C:List UInt8}{v:Int}{dt:Nat->Prop}(hm:asc (ar d a) C v dt):adv d (XY (ar d a) C dt) a (Gv (ar d a) C v dt):=by
 have lO:=hm.dk;have qG:=hm.pl;have sM:=(bc hm.op).1.dk;refine⟨⟨lO.len.symm,sM⟩,λc hc=>?_⟩;rw[hm.plc];have hB:(c:Int)∈tV (Cz (ar d a) C dt)↔∃i,i<(aQ (ar d a) C dt).length/\jz (aQ (ar d a) C dt) i=true/\Be (ar d a) C dt i=c:=by
  rw[Dl];constructor
  ·intro h;obtain⟨i,hi,e⟩:=zaX.1 h;refine⟨i,zbm.1 hi,?_,e⟩;cases g:jz (aQ (ar d a) C dt) i with
   |true=>rfl
   |false=>have:=qG.no i g;omega
  ·rintro⟨i,hi,_,e⟩;exact zaX.2 ⟨i,zbm.2 hi,e⟩
 have hA:(c:Int)∈tV (az a.rn.l)↔(c:Int)∈(ar d a).pl:=Dl;have pD:=lO.bit c hc;have b1:=mK (XY (ar d a) C dt).mp c;have b2:=mK d.mp c;have WW:(ar d a).d=d:=rfl;rw[WW]at pD;unfold E0;rw[hA,hB];refine⟨λ⟨g1,g2⟩=>⟨?_,?_⟩,λ⟨g1,g2⟩=>?_,λg=>pD.2 (.inl g),λ⟨⟨i,h1,h2,h3⟩,g2⟩=>?_⟩
 ·by_cases g:bH d.mp c=1
  ·rw[pD.2 (.inr ⟨g1,g⟩),g]
  ·have:¬bH (XY (ar d a) C dt).mp c=1:=λh=>by
    rcases pD.1 h with h|h
    ·exact g2 h
    ·exact g h.2
   omega
 ·exact(lO.aBv c hc λi hi e=>g2 ⟨i,wD hi,hi,e⟩).symm
 ·have:¬bH (XY (ar d a) C dt).mp c=1:=λh=>by
   rcases pD.1 h with h|h
   ·exact g2 h
   ·exact h.1 g1
  omega
 ·have hf:=qG.free i h1 h2 (by rw[h3];exact g2);rw[h3,zaC]at hf;unfold df at hf;have hf:=of_decide_eq_false hf;rw[WW]at hf;omega
def gy(p:Nat->Bool):Nat->Nat
 |0=>0
 |n+1=>gy p n+if p n=true then 1 else 0
def ak5(p:Nat->Bool):∀n,gy p n<=n
 |0=>zai 0
 |n+1=>by
  have:=ak5 p n;show gy p n+(if p n=true then 1 else 0)<=n+1;split<;>omega
def cJ(p:Nat->Bool)(n:Nat):gy p (n+1)=gy p n+if p n=true then 1 else 0:=rfl
def jq{p q:Nat->Bool}:∀{n:Nat},(∀i,i<n->p i=q i)->gy p n=gy q n
 |0,_=>rfl
 |n+1,h=>by rw[cJ,cJ,jq (n:=n) λi hi=>h i ab,h n ab]
def Ed{p q:Nat->Bool}:∀{n:Nat},(∀i,i<n→¬(p i=true/\q i=true))->gy (λi=>p i||q i) n=gy p n+gy q n
 |0,_=>rfl
 |n+1,h=>by
  have ih:=Ed (n:=n) λi hi=>h i ab
  have h1:=h n ab;rw[cJ,cJ,cJ,ih];cases hp:p n<;>cases hq:q n<;>simp_all<;>omega
def xh{k:Nat}:∀{n:Nat},gy (λi=>decide (i=k)) n=if k<n then 1 else 0
 |0=>rfl
 |n+1=>by
  rw[cJ,xh (n:=n)];by_cases h:n=k
  ·subst h;simp
  ·have e:(if decide (n=k)=true then 1 else 0)=0:=by simp[h]
   rw[e,Nat.add_zero];by_cases g:k<n
   ·rw[if_pos g,if_pos ab]
   ·rw[if_neg g,if_neg ab]
def Mt{n:Nat}:∀{l:List Int},yw l->(∀x∈l,x= -1\/(0<=x/\x<n))->gy (λc=>decide ((c:Int)∈l)) n=bt l
 |[],_,_=>by
  have:∀m,gy (λc=>decide ((c:Int)∈([]:List Int))) m=0:=λm=>by
   induction m with
   |zero=>rfl
   |succ m ih=>rw[cJ,ih];simp
  rw[this];rfl
 |a::l,hd,hb=>by
  have ih:=Mt (n:=n) (l:=l) (List.Pairwise.of_cons hd) λx hx=>hb x iP
  have hu:bt (a::l)=(if a= -1 then 0 else 1)+bt l:=by
   unfold bt;rw[zb3];by_cases h:a= -1
   ·simp[h]
   ·simp[h];omega
  rw[hu];by_cases h:a= -1
  ·rw[if_pos h,Nat.zero_add,<-ih];refine jq λc _=>?_
   rw[zaN,decide_eq_true_eq,decide_eq_true_eq,zaw];exact⟨λg=>g.resolve_left ab,.inr⟩
  ·have hr:=(hb a aj).resolve_left h;rw[if_neg h,<-ih];have h1:=Ed (p:=λc=>decide (c=a.toNat)) (q:=λc=>decide ((c:Int)∈l)) (n:=n) λc _=>by
    rw[decide_eq_true_eq,decide_eq_true_eq];rintro⟨e,hm⟩;exact(List.pairwise_cons.1 hd).1 _ hm h ab
   rw[xh,if_pos ab]at h1;rw[<-h1];refine jq λc _=>?_
   rw[zaN,decide_eq_true_eq,zbE,decide_eq_true_eq,decide_eq_true_eq,zaw];exact⟨λg=>g.imp (λe=>ab) id,λg=>g.imp (λe=>ab) id⟩
def aoK(ps:List (List UInt8)):Nat:=gy (jz ps) ps.length
def nk(ps:List (List UInt8))(pl:List Int)(i:Nat):Bool:=decide (nD ps pl i≠ -1)
def YH(ps:List (List UInt8))(pl:List Int):∀n,vF ps pl n=gy (G8 ps pl) n
 |0=>rfl
 |n+1=>by rw[xP,cJ,YH ps pl n]
def atx(ps:List (List UInt8))(pl:List Int):aoK ps=lT ps pl+gy (nk ps pl) ps.length:=by
 have h1:lT ps pl=gy (G8 ps pl) ps.length:=YH ps pl _;rw[h1,<-Ed]
 ·refine jq λi _=>?_
  unfold G8 nk;by_cases h:jz ps i=true
  ·rw[h];by_cases g:nD ps pl i= -1<;>simp[g]
  ·have g:nD ps pl i= -1:=by unfold nD;rw[if_neg h]
   rw[g];simp[h]
 ·rintro i _ ⟨h1,h2⟩;unfold G8 at h1;unfold nk at h2;simp only[zaU,decide_eq_true_eq]at h1 h2;exact h2 h1.2
def aaJ(f:Nat->Int):∀n,bt (cQ f n)=gy (λi=>decide (f i≠ -1)) n
 |0=>rfl
 |n+1=>by
  have:cQ f (n+1)=cQ f n++[f n]:=by unfold cQ;rw[zdk];simp
  rw[this,aen,aaJ f n,cJ];congr 1;unfold bt;by_cases h:f n= -1<;>simp[h]
def az9{ps:List (List UInt8)}{pl:List Int}(h:yw pl):yw (Qg ps pl):=by
 refine Xt λi j x hi hj hx=>?_
 unfold Qg at hi hj;have iX:i<ps.length:=by have:=(zaa.1 hi).1;rwa[ck]at this
 have HQ:j<ps.length:=by have:=(zaa.1 hj).1;rwa[ck]at this
 rw[bO iX]at hi;rw[bO HQ]at hj;have hi:=Option.some.inj hi;have hj:=Option.some.inj hj;have gi:=SD (ps:=ps) (pl:=pl) (i:=i) (by rw[hi];exact hx);have gj:=SD (ps:=ps) (pl:=pl) (i:=j) (by rw[hj];exact hx);rw[hi]at gi;rw[hj]at gj;exact XD h gi gj hx
def amh{ps:List (List UInt8)}{pl:List Int}{x:Int}(h:x∈Qg ps pl)(hx:x≠ -1):x∈pl:=by
 obtain⟨i,_,rfl⟩:=zaX.1 h;exact Dr hx
def aBZ{ps:List (List UInt8)}{pl:List Int}{b:Nat->Bool}{n:Nat}(hd:yw pl)(hb:∀x∈pl,x= -1\/(0<=x/\x<n))(hu:∀c:Nat,(c:Int)∈pl->b c=true):
 gy (sq ps pl b) n+bt pl=gy (nk ps pl) ps.length+gy b n:=by
 have h1:=Mt (n:=n) hd hb;have h2:=Mt (n:=n) (az9 (ps:=ps) hd) λx hx=>by
  by_cases g:x= -1
  ·exact .inl g
  ·exact hb x (amh hx g)
 have h3:bt (Qg ps pl)=gy (nk ps pl) ps.length:=aaJ _ _;rw[h3]at h2;have h4:=Ed (p:=λc=>decide ((c:Int)∈pl)) (q:=λc=>b c&&!decide ((c:Int)∈pl)) (n:=n) λc _=>by simp only[decide_eq_true_eq,zaU,zbs,decide_eq_false_iff_not];exact λg=>g.2.2 g.1
 have h5:=Ed (p:=λc=>decide ((c:Int)∈Qg ps pl)) (q:=λc=>b c&&!decide ((c:Int)∈pl)) (n:=n) λc _=>by
  rintro⟨g1,g2⟩;simp only[decide_eq_true_eq,zaU,zbs,decide_eq_false_iff_not]at g1 g2;exact g2.2 (amh g1 ab)
 have e1:gy b n=gy (λc=>decide ((c:Int)∈pl)||(b c&&!decide ((c:Int)∈pl))) n:=jq λc _=>by
  by_cases g:(c:Int)∈pl
  ·rw[hu c g];simp[g]
  ·simp[g]
 have e2:gy (sq ps pl b) n=gy (λc=>decide ((c:Int)∈Qg ps pl)||(b c&&!decide ((c:Int)∈pl))) n:=jq λc _=>by
  show(if (c:Int)∈pl then decide ((c:Int)∈Qg ps pl)else b c)=_;by_cases g:(c:Int)∈pl
  ·simp[g]
  ·have:(c:Int)∉Qg ps pl:=λh=>g (amh h ab)
   simp[g,this]
 omega
def vp(s:List UInt8):∀n,oF s n=gy (λc=>decide (bH s c=1)) n
 |0=>rfl
 |n+1=>by
  have hb:=mK s n;rw[cJ,<-vp s n];show oF s n+bH s n=_;by_cases h:bH s n=1
  ·simp[h]
  ·have:bH s n=0:=by omega
   simp[this]
def QX{d:Dk}{a:At}(h:aK d a=0){c:Nat}(hc:(c:Int)∈az a.rn.l):bH d.mp c=1:=by
 obtain⟨ok,ho⟩:=bc h;cases c_:a.rs with
 |true=>
  rw[(ok.res c_).1]at hc;cases hc
 |false=>
  have hp:=(ho c_).1;unfold pG at hp;split at hp
  ·cases hp
  split at hp
  ·cases hp
  rename_i _ g;have hb:=mK d.mp c;by_cases h0:bH d.mp c=0
  ·exact absurd ⟨_,hc,ab,by rw[zaC];exact h0⟩ g
  ·omega
def abK{d:Dk}{a:At}(h0:aK d a=0)(hd:wU d)(hn:a.nm.length<=1000000){ps:List (List UInt8)}(hl:ps.length<=1000)(he:w_ ps (az a.rn.l) (df d) d.n≠0):
 (w_ ps (az a.rn.l) (df d) d.n=16/\d.n-oF d.mp d.n+bt (az a.rn.l)<aoK ps)\/
 (w_ ps (az a.rn.l) (df d) d.n=8/\64<(nG (mG (cQ (sq ps (az a.rn.l) (df d)) d.n)) d.n).length):=by
 obtain⟨ok,_⟩:=bc h0;have st:=ok.st hd hn;have Es:yw (az a.rn.l):=u0 ok.rn;have hb:=X6 st;have rK:=st.n;have Cy:(ar d a).pl=az a.rn.l:=rfl;have WW:(ar d a).d=d:=rfl;rw[Cy]at hb;rw[WW]at hb rK;have eh:∀c:Nat,(c:Int)∈az a.rn.l->df d c=true:=λc hc=>by
  unfold df;rw[QX h0 hc];rfl
 have aQf:=aBZ (ps:=ps) (n:=d.n) Es (λx hx=>by have:=hb x hx;omega) eh;have jF:gy (df d) d.n=oF d.mp d.n:=(vp d.mp d.n).symm;have cb:=atx ps (az a.rn.l);have Vv:=DF (l:=cQ (sq ps (az a.rn.l) (df d)) d.n) kD;rw[ck]at Vv;have xk:=aok (ps:=ps) hb ab ps.length;have AQ:=agH ps (az a.rn.l) ps.length;have aLa:lT ps (az a.rn.l)=vF ps (az a.rn.l) ps.length:=rfl;unfold w_ at he ⊢;by_cases hm:lT ps (az a.rn.l)=0
 ·rw[if_pos hm]at he;exact absurd rfl he
 rw[if_neg hm]at he ⊢;rcases axo Vv.1 (c:=lT ps (az a.rn.l)) (near:=UZ ps (az a.rn.l) ps.length) ab ab he with⟨g1,g2⟩|⟨g1,g2⟩
 ·refine .inl ⟨g1,?_⟩;rw[ax3 ab]at g2;have cM:oF (mG (cQ (sq ps (az a.rn.l) (df d)) d.n)) d.n=gy (sq ps (az a.rn.l) (df d)) d.n:=by
   rw[vp];refine jq λc hc=>?_
   rw[Vv.2,if_pos hc,bO hc,zbA];cases sq ps (az a.rn.l) (df d) c<;>simp[mS]
  rw[zaC,cM]at g2;have hle:=ak5 (sq ps (az a.rn.l) (df d)) d.n;have aJQ:=Bj d.mp d.n;omega
 ·exact .inr ⟨g1,g2⟩
def zC(x y:Int):Prop:=(x= -1/\y= -1)\/(x≠ -1/\y≠ -1/\x+1=y)
instance (x y:Int):Decidable (zC x y):=by unfold zC;infer_instance
def bR(L:Nat->Int)(i:Nat):Bool:=decide (i=0∨¬zC (L (i-1)) (L i))
def Lt{α:Type}(f:Nat->α)(n:Nat):cQ f (n+1)=cQ f n++[f n]:=by unfold cQ;rw[zdk];simp
def aw_(l:List Int)(a:Int):nS (l++[a])=qV (nS l) a:=by unfold nS;rw[zdG];rfl
def Xc{L:Nat->Int}(h:∀i,-1<=L i):∀n,(nS (cQ L n)).length=gy (bR L) n/\(0<n→∃r,(nS (cQ L n)).getLast?=some r/\1<=r.n/\ -1<=r.s/\((r.s= -1/\L (n-1)= -1)\/(r.s≠ -1/\L (n-1)=r.s+r.n-1)))
 |0=>⟨rfl,λh=>ab⟩
 |n+1=>by
  obtain⟨za,zb⟩:=Xc h n;have hLn:=h n;rw[Lt,aw_,cJ,<-za,zch];unfold qV;by_cases hn:n=0
  ·subst hn;have e:nS (cQ L 0)=[]:=rfl;rw[e];refine⟨rfl,λ_=>⟨⟨L 0,1⟩,rfl,zdP 1,hLn,?_⟩⟩;by_cases g:L 0= -1
   ·exact .inl ⟨g,g⟩
   ·exact .inr ⟨g,by show L 0=L 0+1-1;omega⟩
  ·obtain⟨r,h1,h2,h3,h4⟩:=zb ab;rw[h1];simp only;have cb:nS (cQ L n)≠[]:=by intro e;rw[e]at h1;cases h1
   have Gq:=zcb.2 cb;have hj:((L n= -1/\r.s= -1)\/(L n≠ -1/\r.s≠ -1/\r.s+r.n=L n))↔zC (L (n-1)) (L n):=by
    unfold zC;omega
   by_cases hjj:zC (L (n-1)) (L n)
   ·have hs:bR L n=false:=by unfold bR;simp[hn,hjj]
    rw[if_pos (hj.2 hjj),hs];refine⟨by rw[zad,zdB];simp;omega,λ_=>⟨⟨r.s,r.n+1⟩,aj,by show 1<=r.n+1;omega,h3,?_⟩⟩;have h5:=hj.2 hjj;show(r.s= -1/\L n= -1)\/(r.s≠ -1/\L n=r.s+(r.n+1)-1);omega
   ·have hs:bR L n=true:=by unfold bR;simp[hjj]
    rw[if_neg λg=>hjj (hj.1 g),hs];refine⟨by rw[zad];rfl,λ_=>⟨⟨L n,1⟩,aj,zdP 1,hLn,?_⟩⟩;by_cases g:L n= -1
    ·exact .inl ⟨g,g⟩
    ·exact .inr ⟨g,by show L n=L n+1-1;omega⟩
def Tq(r:Rn)(i:Nat):Int:=if r.s= -1 then(-1:Int)else r.s+(i:Int)
def LC(r:Rn):iV r=cQ (Tq r) r.n.toNat:=rfl
def ahI{acc:List Rn}{r:Rn}(hs: -1<=r.s):∀k:Nat,((cQ (Tq r) (k+1)).foldl qV acc).length<=acc.length+1∧∃q,((cQ (Tq r) (k+1)).foldl qV acc).getLast?=some q/\((q.s= -1/\r.s= -1)\/(q.s≠ -1/\r.s≠ -1/\q.s+q.n=r.s+(k:Int)+1))
 |0=>by
  have e:(cQ (Tq r) 1).foldl qV acc=qV acc (Tq r 0):=rfl;rw[e];have hl:=abJ acc (Tq r 0);refine⟨hl,?_⟩;unfold qV;cases UB:acc.getLast? with
  |none=>
   refine⟨⟨Tq r 0,1⟩,rfl,?_⟩;simp only[Tq];by_cases g:r.s= -1
   ·rw[if_pos g];exact .inl ⟨rfl,g⟩
   ·rw[if_neg g];right;omega
  |some q=>
   simp only;split
   ·rename_i hj;refine⟨⟨q.s,q.n+1⟩,aj,?_⟩;simp only[Tq]at hj ⊢;by_cases g:r.s= -1
    ·rw[if_pos g]at hj;exact .inl ⟨ab,g⟩
    ·rw[if_neg g]at hj;right;omega
   ·refine⟨⟨Tq r 0,1⟩,aj,?_⟩;simp only[Tq];by_cases g:r.s= -1
    ·rw[if_pos g];exact .inl ⟨rfl,g⟩
    ·rw[if_neg g];right;omega
 |k+1=>by
  obtain⟨h1,q,h2,h3⟩:=ahI (acc:=acc) hs k;rw[Lt,zdG];simp only[zbg,zdX];generalize (cQ (Tq r) (k+1)).foldl qV acc=A at*;have cb:A≠[]:=by intro e;rw[e]at h2;cases h2
  have Gq:=zcb.2 cb;have hj:(Tq r (k+1)= -1/\q.s= -1)\/(Tq r (k+1)≠ -1/\q.s≠ -1/\q.s+q.n=Tq r (k+1)):=by
   unfold Tq;by_cases g:r.s= -1
   ·rw[if_pos g];left;exact⟨rfl,ab⟩
   ·rw[if_neg g];right;omega
  unfold qV;rw[h2];simp only;rw[if_pos hj];refine⟨by rw[zad,zdB,zbS];omega,⟨q.s,q.n+1⟩,aj,?_⟩;show(q.s= -1/\r.s= -1)\/(q.s≠ -1/\r.s≠ -1/\q.s+(q.n+1)=r.s+((k+1:Nat):Int)+1);omega
def apv{l:List Rn}(h:∀r∈l,-1<=r.s):∀acc:List Rn,((az l).foldl qV acc).length<=acc.length+l.length:=by
 induction l with
 |nil=>intro acc;simp[az]
 |cons r l ih=>
  intro acc;have e:az (r::l)=iV r++az l:=by simp[az]
  rw[e,zdG];have h1:=ih (λq hq=>h q kF) ((iV r).foldl qV acc);have h2:((iV r).foldl qV acc).length<=acc.length+1:=by
   rw[LC];cases hk:r.n.toNat with
   |zero=>show acc.length<=_;omega
   |succ k=>exact(ahI (h r aj) k).1
  rw[zam];omega
def XP{l:List Rn}(h:∀r∈l,-1<=r.s):(nS (az l)).length<=l.length:=by
 have:=apv h [];simpa[nS]using this
def Xp(p:Nat->Bool)(i:Nat):Bool:=p i&&(decide (i=0)||!p (i-1))
def TW(p:Nat->Bool):∀n,(bh p n).length=gy (Xp p) n
 |0=>rfl
 |n+1=>by
  have ih:=TW p n;have di:=(kI p n).2.2;rw[cJ,<-ih];show(if p n then zh (bh p n) n else bh p n).length=_;by_cases hp:p n=true
  ·rw[if_pos hp];by_cases hq:0<n/\p (n-1)=true
   ·obtain⟨a,r,h1,h2⟩:=di.2 hq;have hx:Xp p n=false:=by unfold Xp;rw[hq.2];simp;intro _;omega
    rw[h1,xz,if_pos h2,hx];simp
   ·have hx:Xp p n=true:=by
     unfold Xp;rw[hp];by_cases h0:n=0
     ·simp[h0]
     ·have:p (n-1)=false:=by
       cases g:p (n-1)with
       |false=>rfl
       |true=>exact absurd ⟨ab,g⟩ hq
      simp[this]
    rw[hx,XO]
    ·simp
    ·intro r hr e;have cb:bh p n≠[]:=by intro h;rw[h]at hr;simp at hr
     have hl:(bh p n).getLast?=some r:=by rw[zda];exact hr
     refine hq (di.1 ⟨(bh p n).dropLast,r,?_,e⟩);have e1:=zdH cb;rw[zdF cb]at hl;rw[<-Option.some.inj hl];exact e1.symm
  ·have hx:Xp p n=false:=by unfold Xp;simp[hp]
   rw[if_neg hp,hx];rfl
def sk{p q:Nat->Bool}:∀{n:Nat},(∀i,i<n->p i=true->q i=true)->gy p n<=gy q n
 |0,_=>zai 0
 |n+1,h=>by
  have ih:=sk (n:=n) λi hi=>h i ab
  have h1:=h n ab;rw[cJ,cJ];cases hp:p n<;>cases hq:q n<;>simp_all<;>omega
def tK{p q:Nat->Bool}:∀{n:Nat},gy (λi=>p i||q i) n<=gy p n+gy q n
 |0=>zai 0
 |n+1=>by
  have ih:=tK (p:=p) (q:=q) (n:=n);rw[cJ,cJ,cJ];cases hp:p n<;>cases hq:q n<;>simp<;>omega
def aFN(p q:Nat->Bool)(n:Nat):gy (Xp λi=>p i||q i) n<=gy (Xp p) n+gy (Xp q) n:=by
 refine zay (sk (q:=λi=>Xp p i||Xp q i) λi _ h=>?_) tK;unfold Xp at h ⊢;cases hp:p i<;>cases hq:q i<;>cases XN:p (i-1)<;>cases j0:q (i-1)<;>by_cases h0:i=0<;>simp_all
section
def yU(b:Bool):Nat:=if b=true then 1 else 0
section
variable (O P:Nat->Int) (ne:Nat->Bool)
def n_(i:Nat):Bool:=ne i&&decide (O i= -1)
def jX(i:Nat):Bool:=!ne i&&decide (O i≠ -1)
def qi(i:Nat):Bool:=decide (¬zC (O (i-1)) (O i))
def ve(i:Nat):Bool:=decide (¬zC (P (i-1)) (P i))&&!(n_ O ne (i-1)&&n_ O ne i)
def k_(i:Nat):Bool:=jX O ne i&&!(jX O ne (i-1)&&decide (zC (O (i-1)) (O i)))
end
def aA4{O P:Nat->Int}{ne:Nat->Bool}{i:Nat}(tT:∀i,ne i=false->P i= -1)(hk:∀i,ne i=true->O i≠ -1->P i=O i)
 (h:ne (i-1)=ne i\/(qi O i=true/\jX O ne i=false)):yU (ve O P ne i)+yU (k_ O ne i)<=yU (qi O i):=by
 have h1:=tT (i-1);have h2:=tT i;have h3:=hk (i-1);have h4:=hk i;unfold ve k_ qi jX n_ yU at*;generalize P (i-1)=p at*;generalize P i=q at*;generalize O (i-1)=x at*;generalize O i=y at*;cases hn:ne i<;>cases hm:ne (i-1)<;>by_cases hx:x= -1<;>by_cases hy:y= -1<;>simp_all[zC];all_goals(split<;>simp_all<;>omega)
def aFJ{O:Nat->Int}{ne:Nat->Bool}{M n:Nat}{F:Nat->Bool}(hb:∀i,i<M->O i= -1\/(0<=O i/\O i<n))(hi:∀i j,i<M->j<M->O i≠ -1->O i=O j->i=j)
 (hF:∀c,F c=true↔∃i,i<M/\jX O ne i=true/\O i=c):gy (Xp F) n<=gy (k_ O ne) M:=by
 have xq:∀i,jX O ne i=true->O i≠ -1:=λi h=>by
  unfold jX at h;simp only[zaU,decide_eq_true_eq]at h;exact h.2
 have eH:∀i,k_ O ne i=true->jX O ne i=true:=λi h=>by
  unfold k_ at h;exact(zaU _ _▸h).1
 have hd:yw (cQ (λi=>if k_ O ne i=true then O i else-1) M):=Xt λi j x h1 h2 hx=>by
  have iX:i<M:=by have:=(zaa.1 h1).1;rwa[ck]at this
  have HQ:j<M:=by have:=(zaa.1 h2).1;rwa[ck]at this
  rw[bO iX]at h1;rw[bO HQ]at h2;have h1:=Option.some.inj h1;have h2:=Option.some.inj h2;split at h1
  ·split at h2
   ·exact hi i j iX HQ ab ab
   ·omega
  ·omega
 have hm:=Mt (n:=n) hd λx hx=>by
  obtain⟨i,iX,rfl⟩:=zaX.1 hx;split
  ·exact hb i (zbm.1 iX)
  ·exact .inl rfl
 rw[aaJ]at hm;have e:gy (λi=>decide ((if k_ O ne i=true then O i else-1)≠ -1)) M=gy (k_ O ne) M:=jq λi _=>by
  cases h:k_ O ne i with
  |true=>simp[xq i (eH i h)]
  |false=>simp
 rw[e]at hm;rw[<-hm];refine sk λc _ hc=>?_
 unfold Xp at hc;simp only[zaU,zbE,decide_eq_true_eq,zbs]at hc;obtain⟨h1,h2⟩:=hc;obtain⟨i,iX,h3,h4⟩:=(hF c).1 h1;rw[decide_eq_true_eq];refine zaX.2 ⟨i,zbm.2 iX,?_⟩;by_cases g:k_ O ne i=true
 ·rw[if_pos g];exact h4
 ·exfalso;unfold k_ at g;rw[h3]at g;simp only[Bool.true_and,zbs,Bool.not_eq_false,zaU,decide_eq_true_eq]at g;obtain⟨g1,g2⟩:=g;have g3:=xq _ g1;unfold zC at g2;have ud:i-1<M:=ab;have hbb:=hb (i-1) ud;have:F (c-1)=true:=(hF (c-1)).2 ⟨i-1,ud,g1,ab⟩;rcases h2 with h2|h2
  ·omega
  ·rw[this]at h2;cases h2
end
def nv(P:Nat->Int)(m:Nat->Bool)(i:Nat):Bool:=decide (0<i)&&(m (i-1)&&m i)&&decide (¬zC (P (i-1)) (P i))
def azl{P G:Nat->Int}{m:Nat->Bool}(h:∀i,m i=true->P i=G (gy m i)):∀n,gy (nv P m) n<=gy (λk=>decide (0<k)&&decide (¬zC (G (k-1)) (G k))) (gy m n)
 |0=>zai 0
 |n+1=>by
  have ih:=azl h n;rw[cJ,cJ];cases hm:m n with
  |false=>
   have:nv P m n=false:=by unfold nv;rw[hm];simp
   rw[this];simpa using ih
  |true=>
   rw[if_pos rfl,cJ];cases hf:nv P m n with
   |false=>simp only[zcf,if_false];omega
   |true=>
    unfold nv at hf;simp only[zaU,decide_eq_true_eq]at hf;obtain⟨⟨h1,h2,h3⟩,h4⟩:=hf;have e:gy m n=gy m (n-1)+1:=by
     have:=cJ m (n-1);rw[show n-1+1=n by omega,if_pos h2]at this;exact this
    have g1:=h n hm;have g2:=h (n-1) h2;have hx:(decide (0<gy m n)&&decide (¬zC (G (gy m n-1)) (G (gy m n))))=true:=by
     rw[zaU,decide_eq_true_eq,decide_eq_true_eq];refine⟨ab,?_⟩;rw[show gy m n-1=gy m (n-1) by omega,<-g1,<-g2];exact h4
    rw[if_pos rfl,if_pos hx];omega
def ajr{nb fb ob ct:Nat->Bool}:∀{M:Nat},(∀i,i<M->ct i=false->yU (nb i)+yU (fb i)<=yU (ob i))->gy nb M+gy fb M<=gy (λi=>ob i&&!ct i) M+2*gy ct M
 |0,_=>zai 0
 |M+1,h=>by
  have ih:=ajr (M:=M) λi hi=>h i ab
  have h1:=h M ab;unfold yU at h1;rw[cJ,cJ,cJ,cJ];cases hc:ct M with
  |false=>
   have h1:=h1 hc;simp only[Bool.not_false,Bool.and_true,zcf,if_false];omega
  |true=>
   simp only[Bool.not_true,Bool.and_false,zcf,if_false,if_true];split<;>split<;>omega
def CP(l:List Rn):Prop:=∀(i:Nat) (q r:Rn),l[i]?=some q->l[i+1]?=some r→¬iy q r
def awX{acc:List Rn}{a:Int}(h:CP acc):CP (qV acc a):=by
 unfold qV;cases hl:acc.getLast? with
 |none=>
  intro i q r h1 h2;simp at h2
 |some q=>
  simp only;have cb:acc≠[]:=by intro e;subst e;cases hl
  have Gq:=zcb.2 cb;have Vu:acc[acc.length-1]?=some q:=by rw[<-zda];exact hl
  split
  ·intro i x y h1 h2 hj;have hi:=(zaa.1 h2).1;rw[zad,zdB,zbS]at hi;rw[zaq (by rw[zdB];omega),zdR,if_pos ab]at h1;by_cases g:i+1<acc.length-1
   ·rw[zaq (by rw[zdB];omega),zdR,if_pos ab]at h2;exact h i x y h1 h2 hj
   ·rw[zak (by rw[zdB];omega),zdB,show i+1-(acc.length-1)=0 by omega]at h2;have h2:=Option.some.inj h2;subst h2;refine h i x q h1 ?_ hj;rw[show i+1=acc.length-1 by omega];exact Vu
  ·rename_i hn;intro i x y h1 h2 hj;have hi:=(zaa.1 h2).1;rw[zad,zbS]at hi;rw[zaq ab]at h1;by_cases g:i+1<acc.length
   ·rw[zaq ab]at h2;exact h i x y h1 h2 hj
   ·rw[zak ab,show i+1-acc.length=0 by omega]at h2;have h2:=Option.some.inj h2;subst h2;rw[show i=acc.length-1 by omega,Vu]at h1;have h1:=Option.some.inj h1;subst h1;unfold iy at hj;simp only at hj;omega
def aBW(l:List Int):CP (nS l):=by
 have:∀n,n<=l.length->CP (nS (l.take n)):=by
  intro n
  induction n with
  |zero=>intro _ i q r h1 _;simp[nS]at h1
  |succ n ih=>
   intro hn;have ha:l[n]?=some l[n]:=zah ab;rw[Fh ha];exact awX (ih ab)
 have:=this l.length (zai _);rwa[zc7]at this
def agi{r:Rn}{x:Int}(hs:r.s≠ -1)(h:r.s<=x/\x<r.s+r.n):x∈iV r:=by
 unfold iV;refine zaX.2 ⟨(x-r.s).toNat,zbm.2 ab,?_⟩;rw[if_neg hs];omega
def apJ{l:List Int}(hb:∀x∈l,x= -1\/(0<=x/\x<512))(hd:yw l)(hl:l.length<=4096)(hn:(nS l).length<=64):dU (nS l)=0:=by
 have t_:∀a∈l,-1<=a/\a<=1000000:=λa ha=>by rcases hb a ha with h|h<;>omega
 have hp:=ZB t_;have hq:=(agT t_ l.length).2;rw[zc7]at hq;have HF:=aBW l;have AW:=hd;rw[<-hp]at AW;unfold yw az at AW;have AW:=(zdL.1 AW).2;rw[zdC]at AW;have SF:∀r∈nS l,∀x∈iV r,x∈l:=λr hr x hx=>by
  rw[<-hp];exact zbz.2 ⟨r,hr,hx⟩
 have di:∀r∈nS l,jZ r:=λr hr=>by
  have h1:=hq r hr;have h2:=h1.1;have h3:=h1.2;unfold jZ;split
  ·omega
  ·rename_i hs;have a1:=hb _ (SF r hr _ (agi (x:=r.s) hs ab));have a2:=hb _ (SF r hr _ (agi (x:=r.s+r.n-1) hs ab));omega
 have h0:∀k,k<(nS l).length->Wx (nS l) k=0:=λk hk=>by
  unfold Wx;have hg:(nS l)[k]?=some (nS l)[k]:=zah hk;rw[hg];simp only;rw[if_neg (λh=>h (di _ (zdw hk))),if_neg,if_neg]
  ·rintro⟨j,hj,q,hjq,hs⟩;have HQ:j<(nS l).length:=ab;have e:(nS l)[j]=q:=by
    have:=zah HQ;rw[hjq]at this;exact(Option.some.inj this).symm
   subst e;unfold pE at hs;obtain⟨s1,s2,s3,s4⟩:=hs;have b1:=(hq _ (zdw HQ))
   have b2:=(hq _ (zdw hk))
   have n1:=b1.1;have n2:=b2.1;have m1:=b1.2;have m2:=b2.2;have:=AW j k HQ hk hj (max (nS l)[j].s (nS l)[k].s) (agi s1 ab) (max (nS l)[j].s (nS l)[k].s) (agi s2 ab) ab;exact this rfl
  ·rintro⟨h1,q,h2,h3⟩;exact HF (k-1) q (nS l)[k] h2 (by rw[show k-1+1=k by omega];exact hg) h3
 unfold dU;rw[Mo hn h0];have hs:=xA (l:=nS l) (λr hr=>by have:=(hq r hr).1;omega);rw[hp]at hs;show(if bI (nS l)<=4096 then(0:Int)else 8)=0;rw[if_pos ab]
def al6{a:At}(hr:a.rs=false):(T5 a).length=Tk a:=by
 have h1:=i_ (uH a+a.nm.length);have h2:=i_ (l8 a+(N8 a).length);have e1:l8 a=B5 (uH a+a.nm.length):=rfl;have e2:Tk a=B5 (l8 a+(N8 a).length):=rfl;have hh:uH a=40:=by unfold uH;rw[hr];rfl
 have hf:(aso a).length=40:=by
  unfold aso atW;rw[hr];simp only[zad,gL,bE,zcf,if_false]
 unfold T5;rw[zad,zad,zad,zad,hf,bE,bE];omega
def al_{s:St}{C:List UInt8}{v:Int}{dt:Nat->Prop}(hs:gu s.a=0)(ht:s.a.ty=128)(hC:C.length<=32768)(hv:0<=v/\v<=C.length)
 (hb:∀x∈Cz s C dt,x= -1\/(0<=x/\x<512)) (hd:yw (Cz s C dt)) (hl:(Cz s C dt).length<=128) (hn:(nS (Cz s C dt)).length<=64):gu (Gv s C v dt)=0:=by
 have h0:TI s.a=0:=by
  unfold gu at hs;split at hs
  ·rename_i g;exact absurd hs g
  ·rename_i g;exact K6
 have ok:=acN.of h0;have hr:=apJ hb hd ab hn;have hrk:=bZ hr;have hu:bt (Cz s C dt)<=128:=zay (List.length_filter_le _ _) hl;have hk:Iv (Gv s C v dt)=0:=by
  show GG (Gv s C v dt)=0;unfold GG;have e1:(Gv s C v dt).rn.l=nS (Cz s C dt):=rfl;rw[e1,hr,if_neg,if_neg,if_neg,if_neg,if_neg,if_neg,if_neg,if_neg,if_neg]
  ·show ¬((C.length:Int)<v);omega
  ·refine λh=>h ?_
   show(0<=((bt (Cz s C dt):Nat):Int)*256/\((bt (Cz s C dt):Nat):Int)*256<=1048576)/\(0<=(C.length:Int)/\(C.length:Int)<=1048576)/\(0<=v/\v<=1048576);omega
  ·show ¬((0:Int)<0/\_);omega
  ·show ¬(4096<0+bI (nS (Cz s C dt)));omega
  ·show ¬((0:Int)<0/\_);omega
  ·simp
  ·show ¬ ¬((0:Int)<=0/\(0:Int)<=4096);omega
  ·show ¬([]:List UInt8)≠[];simp
  ·show ¬s.a.ty∈VG;rw[ht];decide
 have hw:(T5 (Gv s C v dt)).length<=440:=by
  rw[al6 rfl];have h1:=i_ (40+s.a.nm.length);have o_:(N8 (Gv s C v dt)).length<=321:=by
   show(qL (nS (Cz s C dt))).length<=321;unfold qL;have:=JP (nS (Cz s C dt)) _ (zai _);rw[zad,zbS];omega
  have kp:=ok.DL;have e1:l8 (Gv s C v dt)=B5 (40+s.a.nm.length):=rfl;have h2:=i_ (l8 (Gv s C v dt)+(N8 (Gv s C v dt)).length);show B5 (l8 (Gv s C v dt)+(N8 (Gv s C v dt)).length)<=440;omega
 unfold gu;rw[if_neg,if_neg ab];refine λh=>h ?_
 unfold TI;rw[if_neg,if_neg,if_neg,hk]
 ·exact λh=>h ok.BN
 ·exact λh=>h ok.nm
 ·exact λh=>h ok.S3
def Xe(p:Nat->Bool)(a:Nat):∀b,gy p (a+b)=gy p a+gy (λj=>p (a+j)) b
 |0=>rfl
 |b+1=>by rw[<-Nat.add_assoc,cJ,cJ,Xe p a b];omega
def arQ(p:Nat->Bool){a n:Nat}(h:a<=n):gy p a<=gy p n:=by
 rw[show n=a+(n-a) by omega,Xe];omega
def Bn{p:Nat->Bool}:∀{n:Nat},(∀i,i<n->p i=false)->gy p n=0
 |0,_=>rfl
 |n+1,h=>by rw[cJ,Bn (n:=n) λi hi=>h i ab,h n ab];rfl
def am_{p:Nat->Bool}{a n:Nat}(h:∀i,a<=i->p i=false)(ha:a<=n):gy p n=gy p a:=by
 rw[show n=a+(n-a) by omega,Xe,Bn (n:=n-a) λi _=>h _ ab];rfl
def XW(n:Nat):∀cs:List Nat,gy (λi=>decide (i∈cs)) n<=cs.length
 |[]=>by rw[Bn λi _=>aj];omega
 |c::cs=>by
  have ih:=XW n cs;have h1:=tK (p:=λi=>decide (i=c)) (q:=λi=>decide (i∈cs)) (n:=n);have h2:=xh (k:=c) (n:=n);have e:gy (λi=>decide (i∈c::cs)) n=gy (λi=>decide (i=c)||decide (i∈cs)) n:=jq λi _=>by
   rw[zaN,decide_eq_true_eq,zbE,decide_eq_true_eq,decide_eq_true_eq,zaw]
  rw[e,zam];have h3:(if c<n then 1 else 0)<=1:=Bt;omega
def af_(c:Nat->Nat):∀n,gy (λi=>decide (i%16=c (i/16))) (16*n)<=n
 |0=>zai 0
 |n+1=>by
  have ih:=af_ c n;rw[zdJ,Xe];have e:gy (λj=>decide ((16*n+j)%16=c ((16*n+j)/16))) 16=gy (λj=>decide (j=c n)) 16:=jq λj hj=>by
   rw[show(16*n+j)%16=j by omega,show(16*n+j)/16=n by omega]
  rw[e,xh];split<;>omega
def NZ(s:St)(i:Nat):Int:=s.pl[i]?.getD (-1)
def afa{s:St}{i:Nat}:OS s i↔NZ s i≠ -1:=by
 unfold OS NZ;cases h:s.pl[i]? with
 |none=>simp
 |some a=>simp
def ahC(s:St)(dt:Nat->Prop):Prop:=s.a.fl/2%2=1→∃cs:List Nat,cs.length<=4∧∀i,1<=i->i∉cs->(dt (i-1)↔dt i)\/((OS s (i-1)↔dt (i-1))/\(OS s i↔dt i))
def ahu(C:List UInt8)(k:Nat):Nat:=if k<(C.length+4095)/4096 then((j_ (wa C k)).length+255)/256 else 0
def anv{s:St}{C:List UInt8}{dt:Nat->Prop}(hc:s.a.fl%2=1){k j:Nat}(hj:j<16):jz (aQ s C dt) (16*k+j)=decide (j<ahu C k):=by
 have hl:(aQ s C dt).length=16*((C.length+4095)/4096):=QS;unfold jz ahu;by_cases hk:k<(C.length+4095)/4096
 ·rw[if_pos hk,aa9 hc,XG hj hk,zbA,zaN,decide_eq_true_eq,decide_eq_true_eq];rw[<-zcb,zal,zax];omega
 ·rw[if_neg hk,zaK ab];simp
def Pb{s:St}{C:List UInt8}{dt:Nat->Prop}(hc:¬s.a.fl%2=1){i:Nat}:jz (aQ s C dt) i=true↔i<(C.length+255)/256/\(s.a.fl/2%2=1->dt i):=by
 have hl:(aQ s C dt).length=(C.length+255)/256:=by rw[sK,if_neg hc]
 constructor
 ·intro h;have hi:=wD h;rw[hl]at hi;refine⟨hi,λhs=>Classical.byContradiction λhd=>?_⟩;unfold jz at h;rw[Xn hc hi,zbA]at h;unfold dv at h;rw[if_pos ⟨hs,hd⟩]at h;simp at h
 ·rintro⟨hi,hs⟩;unfold jz;rw[Xn hc hi,zbA,decide_eq_true_eq];unfold dv;rw[if_neg λh=>h.2 (hs h.1)];intro e;have h5:=congrArg List.length e;rw[BB eI]at h5;cases h5
def zU(_:Nat):Nat:=0
def Rx{a b:Bool}(h:a=true↔b=true):a=b:=by cases a<;>cases b<;>simp_all
def aAB{s:St}{C:List UInt8}{dt:Nat->Prop}(hC:C.length<=32768)(PE:ahC s dt):∃ct:Nat->Bool,ct 0=true/\gy ct 128<=16/\
 ∀i,i<128->ct i=false->jz (aQ s C dt) (i-1)=jz (aQ s C dt) i\/(qi (NZ s) i=true/\jX (NZ s) (jz (aQ s C dt)) i=false):=by
 by_cases hc:s.a.fl%2=1
 ·refine⟨λi=>decide (i%16=zU (i/16))||decide (i%16=ahu C (i/16)),rfl,?_,λi hi hf=>.inl ?_⟩
  ·have h1:=af_ zU 8;have h2:=af_ (ahu C) 8;have h3:=tK (p:=λi=>decide (i%16=zU (i/16))) (q:=λi=>decide (i%16=ahu C (i/16))) (n:=128);have e:16*8=128:=rfl;rw[e]at h1 h2;omega
  ·simp only[Bool.or_eq_false_iff,decide_eq_false_iff_not]at hf;have hz:i%16≠0:=hf.1;have e1:i=16*(i/16)+i%16:=ab;have e2:i-1=16*(i/16)+(i%16-1):=ab;have g1:=anv (C:=C) (dt:=dt) hc (k:=i/16) (j:=i%16) ab;have g2:=anv (C:=C) (dt:=dt) hc (k:=i/16) (j:=i%16-1) ab;rw[<-e1]at g1;rw[<-e2]at g2;rw[g1,g2];have:=hf.2;rw[zaN,decide_eq_true_eq,decide_eq_true_eq];omega
 ·by_cases hs:s.a.fl/2%2=1
  ·obtain⟨cs,mE,sH⟩:=PE hs;refine⟨λi=>decide (i∈0::(C.length+255)/256::cs),aj,?_,λi hi hf=>?_⟩
   ·have:=XW 128 (0::(C.length+255)/256::cs);simp only[zam]at this;omega
   ·simp only[decide_eq_false_iff_not,zaw,not_or]at hf;obtain⟨f1,f2,f3⟩:=hf;have g1:=Pb (C:=C) (dt:=dt) hc (i:=i);have g2:=Pb (C:=C) (dt:=dt) hc (i:=i-1);by_cases hn:i<(C.length+255)/256
    ·rcases sH i ab f3 with h|⟨h1,h2⟩
     ·left;refine Rx ?_;rw[g1,g2];exact⟨λg=>⟨hn,λhs=>h.1 (g.2 hs)⟩,λg=>⟨ab,λhs=>h.2 (g.2 hs)⟩⟩
     ·by_cases hd:dt (i-1)↔dt i
      ·left;refine Rx ?_;rw[g1,g2];exact⟨λg=>⟨hn,λhs=>hd.1 (g.2 hs)⟩,λg=>⟨ab,λhs=>hd.2 (g.2 hs)⟩⟩
      ·right;rw[afa]at h1 h2;constructor
       ·unfold qi zC;rw[decide_eq_true_eq];rintro(⟨j1,j2⟩|⟨j1,j2,_⟩)
        ·exact hd ⟨λg=>absurd j1 (h1.2 g),λg=>absurd j2 (h2.2 g)⟩
        ·exact hd ⟨λ_=>h2.1 j2,λ_=>h1.1 j1⟩
       ·unfold jX;rw[zdS];by_cases g:dt i
        ·left;rw[g1.2 ⟨hn,λ_=>g⟩];rfl
        ·right;rw[decide_eq_false_iff_not];exact λg3=>g (h2.1 g3)
    ·left;refine Rx ?_;rw[g1,g2];exact⟨λg=>absurd g.1 ab,λg=>absurd g.1 hn⟩
  ·refine⟨λi=>decide (i∈[0,(C.length+255)/256]),aj,?_,λi hi hf=>.inl ?_⟩
   ·have:=XW 128 [0,(C.length+255)/256];simp only[zam,zaY]at this;omega
   ·simp only[decide_eq_false_iff_not,zaw,not_or]at hf;obtain⟨f1,f2,f3⟩:=hf;refine Rx ?_;rw[Pb hc,Pb hc];exact⟨λg=>⟨ab,λh=>absurd h hs⟩,λg=>⟨ab,λh=>absurd h hs⟩⟩
def ax8{O P:Nat->Int}{ne ct:Nat->Bool}(tT:∀i,ne i=false->P i= -1)(hk:∀i,ne i=true->O i≠ -1->P i=O i)
 (PE:gy ct 128<=16) (HR:∀i,i<128->ct i=false->ne (i-1)=ne i\/(qi O i=true/\jX O ne i=false)) (hob:gy (λi=>qi O i&&!ct i) 128<=16):
 gy (ve O P ne) 128+gy (k_ O ne) 128<=48:=by
 have:=ajr (nb:=ve O P ne) (fb:=k_ O ne) (ob:=qi O) (ct:=ct) (M:=128) λi hi hc=>aA4 tT hk (HR i hi hc)
 omega
def aAx{O P:Nat->Int}{ne:Nat->Bool}{n:Nat}(hn:n<=128):gy (bR P) n<=1+gy (ve O P ne) 128+gy (nv P (n_ O ne)) 128:=by
 have h1:=arQ (bR P) hn;have h2:gy (bR P) 128<=gy (λi=>decide (i=0)||(ve O P ne i||nv P (n_ O ne) i)) 128:=sk λi _ h=>by
  unfold bR at h;rw[decide_eq_true_eq]at h;by_cases h0:i=0
  ·simp[h0]
  ·have hj:=h.resolve_left h0;unfold ve nv;cases n_ O ne (i-1)<;>cases n_ O ne i<;>simp[h0,hj]<;>omega
 have h3:=tK (p:=λi=>decide (i=0)) (q:=λi=>ve O P ne i||nv P (n_ O ne) i) (n:=128);have h4:=tK (p:=ve O P ne) (q:=nv P (n_ O ne)) (n:=128);have h5:=xh (k:=0) (n:=128);rw[if_pos ab]at h5;omega
def aBe{l:List Int}{ct:Nat->Bool}(h0:ct 0=true)(hl:l.length<=128)(hb:∀x∈l,-1<=x):gy (λi=>qi (λi:Nat=>l[i]?.getD (-1)) i&&!ct i) 128<=(nS l).length:=by
 have hO:∀i,-1<=(λi:Nat=>l[i]?.getD (-1)) i:=λi=>by
  show-1<=l[i]?.getD (-1);cases h:l[i]? with
  |none=>simp
  |some a=>exact hb a (zag h)
 have ht:cQ (λi:Nat=>l[i]?.getD (-1)) l.length=l:=by
  refine zba λi=>?_
  by_cases hi:i<l.length
  ·rw[bO hi,zah hi];rfl
  ·rw[zaK kD,zaK ab]
 have hr:=(Xc hO l.length).1;rw[ht]at hr;rw[hr];have adL:∀i,l.length<=i->(λi:Nat=>l[i]?.getD (-1)) i= -1:=λi hi=>by
  show l[i]?.getD (-1)= -1;rw[zaK hi];rfl
 generalize hOO:(λi:Nat=>l[i]?.getD (-1))=O at*;have h1:gy (λi=>qi O i&&!ct i) 128<=gy (λi=>(decide (0<i)&&(decide (i<l.length)&&bR O i))||(decide (i=l.length)&&decide (0<l.length))) 128:=sk λi hi h=>by
  simp only[zaU,zbs]at h;have hi0:i≠0:=by rintro rfl;rw[h0]at h;cases h.2
  have h2:=h.1;unfold qi at h2;rw[decide_eq_true_eq]at h2;by_cases g:i<l.length
  ·have:bR O i=true:=by unfold bR;rw[decide_eq_true_eq];exact .inr h2
   simp[g,this];omega
  ·by_cases g2:i=l.length
   ·simp[g2];omega
   ·exfalso;refine h2 (.inl ⟨adL _ ab,adL _ ab⟩)
 refine zay h1 (zay tK ?_);by_cases hp:0<l.length
 ·have h2:gy (λi=>decide (0<i)&&(decide (i<l.length)&&bR O i)) 128=gy (λi=>decide (0<i)&&(decide (i<l.length)&&bR O i)) l.length:=am_ (λi hi=>by
   have:¬i<l.length:=ab;simp[this]) hl
  have h3:gy (λi=>decide (i=l.length)&&decide (0<l.length)) 128<=1:=by
   have h4:=xh (k:=l.length) (n:=128);have h5:gy (λi=>decide (i=l.length)&&decide (0<l.length)) 128<=gy (λi=>decide (i=l.length)) 128:=sk λi _ h=>(zaU _ _▸h).1
   have h6:(if l.length<128 then 1 else 0)<=1:=Bt;omega
  have h4:=Ed (p:=λi=>decide (i=0)) (q:=λi=>decide (0<i)&&(decide (i<l.length)&&bR O i)) (n:=l.length) λi _ h=>by
   simp only[decide_eq_true_eq,zaU]at h;omega
  have h5:gy (λi=>decide (i=0)||(decide (0<i)&&(decide (i<l.length)&&bR O i))) l.length<=gy (bR O) l.length:=sk λi hi h=>by
   simp only[decide_eq_true_eq,zaU,zbE]at h;rcases h with h|h
   ·unfold bR;simp[h]
   ·exact h.2.2
  have h6:=xh (k:=0) (n:=l.length);rw[if_pos hp]at h6;omega
 ·have h2:gy (λi=>decide (0<i)&&(decide (i<l.length)&&bR O i)) 128=0:=Bn λi _=>by
   have:¬i<l.length:=ab;simp[this]
  have h3:gy (λi=>decide (i=l.length)&&decide (0<l.length)) 128=0:=Bn λi _=>by simp[hp]
  omega
def afh(s:List UInt8)(n:Nat):(nG s n).length=gy (Xp (jf s 0)) n:=by unfold nG;rw[TW,zaC]
def asN{p q:Nat->Bool}{n:Nat}(h:∀i,i<n->p i=q i):gy (Xp p) n=gy (Xp q) n:=jq λi hi=>by
 unfold Xp;rw[h i hi];by_cases h0:i=0
 ·simp[h0]
 ·rw[h (i-1) ab]
def aGe(ps:List (List UInt8))(s:St):n_ (NZ s) (jz ps)=G8 ps s.pl:=by
 funext i;unfold n_ G8 nD NZ;cases h:jz ps i<;>simp
noncomputable def fdF(O:Nat->Int)(ne:Nat->Bool)(c:Nat):Bool:= @decide (∃i,i<128/\jX O ne i=true/\O i=(c:Int)) (Classical.propDecidable _)
def anI(O:Nat->Int)(ne:Nat->Bool)(c:Nat):fdF O ne c=true↔∃i,i<128/\jX O ne i=true/\O i=(c:Int):=by
 unfold fdF;exact @decide_eq_true_iff _ (Classical.propDecidable _)
def aCf{d:Dk}{a:At}(h0:aK d a=0)(hd:wU d)(hn:a.nm.length<=1000000){ps:List (List UInt8)}(hl:ps.length<=128):
 (nG (mG (cQ (sq ps (az a.rn.l) (df d)) d.n)) d.n).length<=(nG d.mp d.n).length+gy (k_ (NZ (ar d a)) (jz ps)) 128:=by
 obtain⟨ok,_⟩:=bc h0;have st:=ok.st hd hn;have Es:yw (az a.rn.l):=u0 ok.rn;have hb:=X6 st;have rK:=st.n;have hlen:=st.len;have Cy:(ar d a).pl=az a.rn.l:=rfl;have WW:(ar d a).d=d:=rfl;rw[Cy]at hb hlen;rw[WW]at hb rK;have Vv:=DF (l:=cQ (sq ps (az a.rn.l) (df d)) d.n) kD;rw[ck]at Vv;rw[afh,afh];have hF:=anI (NZ (ar d a)) (jz ps);have hbO:∀i,i<128->NZ (ar d a) i= -1\/(0<=NZ (ar d a) i/\NZ (ar d a) i<d.n):=λi _=>by
  unfold NZ;rw[Cy];cases hp:(az a.rn.l)[i]? with
  |none=>exact .inl rfl
  |some x=>have:=hb x (zag hp);simp only[zbA];omega
 have hiO:∀i j,i<128->j<128->NZ (ar d a) i≠ -1->NZ (ar d a) i=NZ (ar d a) j->i=j:=λi j _ _ h1 h2=>by
  unfold NZ at h1 h2;rw[Cy]at h1 h2;cases hp:(az a.rn.l)[i]? with
  |none=>rw[hp]at h1;exact absurd rfl h1
  |some x=>
   rw[hp,zbA]at h1 h2;cases hq:(az a.rn.l)[j]? with
   |none=>rw[hq]at h2;exact absurd h2 h1
   |some y=>
    rw[hq,zbA]at h2;subst h2;exact XD Es hp hq h1
 have h1:=aFJ (M:=128) (n:=d.n) (ne:=jz ps) hbO hiO hF;have h2:=aFN (jf d.mp 0) (fdF (NZ (ar d a)) (jz ps)) d.n;have e:gy (Xp (jf (mG (cQ (sq ps (az a.rn.l) (df d)) d.n)) 0)) d.n=gy (Xp λi=>jf d.mp 0 i||fdF (NZ (ar d a)) (jz ps) i) d.n:=asN λc hc=>by
  rw[zaN,zbE,anI];have hx:∀s:List UInt8,jf s 0 c=true↔bH s c=0:=λs=>by
   unfold jf;have:=mK s c;simp;try omega
  rw[hx,hx,Vv.2,if_pos hc,bO hc,zbA];have hbn:mS (sq ps (az a.rn.l) (df d) c)=0↔sq ps (az a.rn.l) (df d) c=false:=by cases sq ps (az a.rn.l) (df d) c<;>simp[mS]
  rw[hbn];show(if (c:Int)∈az a.rn.l then decide ((c:Int)∈Qg ps (az a.rn.l))else df d c)=false↔_;have SH:(c:Int)∈Qg ps (az a.rn.l)↔∃i,i<ps.length/\nD ps (az a.rn.l) i=c:=by
   unfold Qg;constructor
   ·intro h;obtain⟨i,hi,e⟩:=zaX.1 h;exact⟨i,zbm.1 hi,e⟩
   ·rintro⟨i,hi,e⟩;exact zaX.2 ⟨i,zbm.2 hi,e⟩
  by_cases hp:(c:Int)∈az a.rn.l
  ·rw[if_pos hp,decide_eq_false_iff_not,SH];obtain⟨j,hj⟩:=zaE.1 hp;have HQ:j<128:=by have:=(zaa.1 hj).1;omega
   have hOj:NZ (ar d a) j=c:=by unfold NZ;rw[Cy,hj];rfl
   constructor
   ·intro h;right;refine⟨j,HQ,?_,hOj⟩;unfold jX;rw[zaU,decide_eq_true_eq,hOj];refine⟨?_,ab⟩;cases hn:jz ps j with
    |false=>rfl
    |true=>
     refine absurd ⟨j,wD hn,?_⟩ h;unfold nD;rw[if_pos hn,hj];rfl
   ·rintro(h|⟨i,hi,h3,h4⟩)
    ·have:=QX h0 hp;omega
    ·rintro⟨k,hk,LL⟩;have sQ:=SD (ps:=ps) (pl:=az a.rn.l) (i:=k) ab;rw[LL]at sQ;have hnk:=(Xd.1 (show nD ps (az a.rn.l) k≠ -1 by omega)).1;have zk:i=k:=by
      have h5:NZ (ar d a) k=c:=by unfold NZ;rw[Cy,sQ];rfl
      refine hiO i k hi ?_ ab ab;have:=(zaa.1 sQ).1;omega
     subst zk;unfold jX at h3;rw[hnk]at h3;simp at h3
  ·rw[if_neg hp];unfold df;rw[decide_eq_false_iff_not];have Gn:=mK d.mp c;constructor
   ·intro h;left;omega
   ·rintro(h|⟨i,hi,h3,h4⟩)
    ·omega
    ·exfalso;refine hp ?_;unfold NZ at h4;rw[Cy]at h4;cases hq:(az a.rn.l)[i]? with
     |none=>rw[hq]at h4;simp at h4
     |some x=>
      rw[hq,zbA]at h4;rw[<-h4];exact zag hq
 omega
def auH{d:Dk}{a:At}{C:List UInt8}{v:Int}{dt:Nat->Prop}(h0:aK d a=0)(hd:wU d)(hn:a.nm.length<=1000000)(hc:GZ (ar d a) C v dt)(PE:ahC (ar d a) dt)
 (hr:a.rn.l.length<=16) (hx:(nG d.mp d.n).length<=16):Md (ar d a) C v dt≠8:=by
 obtain⟨ok,_⟩:=bc h0;have st:=ok.st hd hn;have Es:yw (az a.rn.l):=u0 ok.rn;have hb:=X6 st;have rK:=st.n;have hlen:=st.len;obtain⟨s1,s2,s3,s4,s5⟩:=lE ok.str;have hC:=hc.len;have hv:=hc.vb;have qG:=sK (ar d a) C dt;have IH:(aQ (ar d a) C dt).length<=128:=Su;have Cy:(ar d a).pl=az a.rn.l:=rfl;have WW:(ar d a).d=d:=rfl;obtain⟨ct,c0,c1,c2⟩:=aAB hC PE;have hO:(λi=>(az a.rn.l)[i]?.getD (-1))=NZ (ar d a):=rfl;have hob:=aBe (l:=az a.rn.l) c0 (by rw[Cy]at hlen;exact hlen) (λx hx=>(hb x hx).1);have HH:=XP (l:=a.rn.l) λr hr=>by
  have:=(bZ ok.rn).2.2.2 r hr;unfold jZ at this;split at this<;>omega
 rw[hO]at hob;have aQi:=aCf h0 hd hn IH;have av2:=abK h0 hd hn (ps:=aQ (ar d a) C dt) ab;have tT:∀i,jz (aQ (ar d a) C dt) i=false->Be (ar d a) C dt i= -1:=λi hi=>by
  unfold Be CQ G8 nD;rw[hi];simp
 have hk:∀i,jz (aQ (ar d a) C dt) i=true->NZ (ar d a) i≠ -1->Be (ar d a) C dt i=NZ (ar d a) i:=λi hi h1=>by
  unfold Be CQ G8 nD;unfold NZ at h1 ⊢;rw[hi];simp[h1]
 have hbs:=ax8 (O:=NZ (ar d a)) (P:=Be (ar d a) C dt) tT hk c1 c2 ab;have hX:(nG (mG (cQ (sq (aQ (ar d a) C dt) (az a.rn.l) (df d)) d.n)) d.n).length<=64:=ab;have um:∀e,w_ (aQ (ar d a) C dt) (ar d a).pl (df (ar d a).d) (ar d a).d.n=e->e≠0->e=16:=λe he cb=>by
  subst he;rcases av2 cb with h|h
  ·exact h.1
  ·omega
 unfold Md;split
 ·rename_i g;rw[um _ rfl g];decide
 rename_i g;have g:=zc3.1 g;have fM:=aAx (O:=NZ (ar d a)) (P:=Be (ar d a) C dt) (ne:=jz (aQ (ar d a) C dt)) IH;have pl:=atl st Es (ps:=aQ (ar d a) C dt) ab g;have hP:∀i,-1<=Be (ar d a) C dt i:=λi=>by
  cases h:jz (aQ (ar d a) C dt) i with
  |false=>rw[tT i h];exact zdP _
  |true=>have:=(pl.yes i (wD h) h).1;unfold Be;omega
 have vu:=(Xc hP (aQ (ar d a) C dt).length).1;have hff:gy (nv (Be (ar d a) C dt) (n_ (NZ (ar d a)) (jz (aQ (ar d a) C dt)))) 128<=15+gy (k_ (NZ (ar d a)) (jz (aQ (ar d a) C dt))) 128:=by
  rw[aGe];by_cases hm:lT (aQ (ar d a) C dt) (ar d a).pl=0
  ·rw[Bn]
   ·omega
   ·intro i hi;have:G8 (aQ (ar d a) C dt) (ar d a).pl i=false:=by
     cases h:G8 (aQ (ar d a) C dt) (ar d a).pl i with
     |false=>rfl
     |true=>
      have cb:jz (aQ (ar d a) C dt) i=true:=by unfold G8 at h;exact(zaU _ _▸h).1
      have:=ae2 (wD cb) h;unfold lT at hm;omega
    unfold nv;rw[this];simp
  ·have xH:=g;unfold w_ at xH;rw[if_neg hm]at xH;have gt:=auh st (ps:=aQ (ar d a) C dt) ab hm xH;have bB:=gt.len;have n9:=XP (l:=Ju (mG (cQ (sq (aQ (ar d a) C dt) (ar d a).pl (df (ar d a).d)) (ar d a).d.n)) (ar d a).d.n (lT (aQ (ar d a) C dt) (ar d a).pl) (UZ (aQ (ar d a) C dt) (ar d a).pl (aQ (ar d a) C dt).length)) λr hr=>by have:=(gt.rn r hr).1;omega
   have pe:=ay6 st (ps:=aQ (ar d a) C dt) ab g;have zG:pN (aQ (ar d a) C dt) (ar d a).pl (df (ar d a).d) (ar d a).d.n=az (Ju (mG (cQ (sq (aQ (ar d a) C dt) (ar d a).pl (df (ar d a).d)) (ar d a).d.n)) (ar d a).d.n (lT (aQ (ar d a) C dt) (ar d a).pl) (UZ (aQ (ar d a) C dt) (ar d a).pl (aQ (ar d a) C dt).length)):=by unfold pN qv;rw[if_neg hm]
   have h1:=azl (P:=Be (ar d a) C dt) (G:=λk=>(pN (aQ (ar d a) C dt) (ar d a).pl (df (ar d a).d) (ar d a).d.n)[k]?.getD 0) (m:=G8 (aQ (ar d a) C dt) (ar d a).pl) (λi hi=>by
    show CQ _ _ _ i=_;unfold CQ;rw[if_pos hi,YH]) 128
   have AQ:gy (G8 (aQ (ar d a) C dt) (ar d a).pl) 128=lT (aQ (ar d a) C dt) (ar d a).pl:=by
    unfold lT;rw[YH];refine am_ (λi hi=>?_) IH;unfold G8;cases h:jz (aQ (ar d a) C dt) i with
    |false=>rfl
    |true=>have:=wD h;omega
   rw[<-zG]at n9;rw[Cy,WW]at bB n9 pe h1;rw[Cy]at AQ;generalize pN (aQ (ar d a) C dt) (az a.rn.l) (df d) d.n=fr at*;rw[AQ]at h1;have ht:cQ (λk:Nat=>fr[k]?.getD 0) fr.length=fr:=by
    refine zba λi=>?_
    by_cases hi:i<fr.length
    ·rw[bO hi,zah hi];rfl
    ·rw[zaK kD,zaK ab]
   have hGb:∀k,-1<=(λk:Nat=>fr[k]?.getD 0) k:=λk=>by
    show-1<=fr[k]?.getD 0;cases h:fr[k]? with
    |none=>simp
    |some x=>have:=(pe.2.2 x (zag h)).1;simp only[zbA];omega
   have hrf:=(Xc hGb fr.length).1;rw[ht,pe.1]at hrf;have h5:=Ed (p:=λi=>decide (i=0)) (q:=λk=>decide (0<k)&&decide (¬zC (fr[k-1]?.getD 0) (fr[k]?.getD 0))) (n:=lT (aQ (ar d a) C dt) (az a.rn.l)) λi _ h=>by
    simp only[decide_eq_true_eq,zaU]at h;omega
   have h6:=xh (k:=0) (n:=lT (aQ (ar d a) C dt) (az a.rn.l));rw[Cy]at hm;rw[if_pos ab]at h6;have h7:gy (λi=>decide (i=0)||(decide (0<i)&&decide (¬zC (fr[i-1]?.getD 0) (fr[i]?.getD 0)))) (lT (aQ (ar d a) C dt) (az a.rn.l))<=gy (bR λk:Nat=>fr[k]?.getD 0) (lT (aQ (ar d a) C dt) (az a.rn.l)):=sk λi hi h=>by
    unfold bR;simp only[decide_eq_true_eq,zaU,zbE]at h ⊢;exact h.imp id λg=>g.2
   rw[Cy];omega
 have hru:(nS (Cz (ar d a) C dt)).length<=64:=by
  show(nS (cQ (Be (ar d a) C dt) (aQ (ar d a) C dt).length)).length<=64;omega
 have IF:gu (Gv (ar d a) C v dt)=0:=by
  refine al_ s1 ?_ hC hv (λx hx=>?_) ?_ (by show(cQ _ _).length<=128;rw[ck];exact IH) hru
  ·show a.ty=128;omega
  ·obtain⟨i,hi,rfl⟩:=zaX.1 hx;cases h:jz (aQ (ar d a) C dt) i with
   |false=>exact .inl (tT i h)
   |true=>
    have:=pl.yes i (wD h) h;right;unfold Be;rw[WW]at this rK;rw[WW];omega
  ·refine Xt λi j x hi hj hxx=>?_
   have iX:i<(aQ (ar d a) C dt).length:=by have:=(zaa.1 hi).1;rwa[show(Cz (ar d a) C dt).length=(aQ (ar d a) C dt).length from ck]at this
   have HQ:j<(aQ (ar d a) C dt).length:=by have:=(zaa.1 hj).1;rwa[show(Cz (ar d a) C dt).length=(aQ (ar d a) C dt).length from ck]at this
   unfold Cz at hi hj;rw[bO iX]at hi;rw[bO HQ]at hj;have hi:=Option.some.inj hi;have hj:=Option.some.inj hj;refine pl.inj i j iX HQ ?_ (by show Be (ar d a) C dt i=Be (ar d a) C dt j;omega);cases h:jz (aQ (ar d a) C dt) i with
   |true=>rfl
   |false=>have:=tT i h;omega
 rw[if_neg]
 ·decide
 ·rintro(h|h)
  ·omega
  ·exact h IF
def GX(a b:List UInt8)(i:Nat):ta (a++b) i=if i<a.length then ta a i else ta b (i-a.length):=by
 unfold ta;split
 ·rw[zaq aA]
 ·rw[zak ab]
def L1(n i:Nat):ta (ai n) i=0:=by
 unfold ta ai;rw[zcA];split<;>rfl
def sC(l:List UInt8)(n i:Nat):ta (l.take n) i=if i<n then ta l i else 0:=by
 unfold ta;split
 ·rw[zdj aA]
 ·rw[zaK eI];rfl
def Fs(l:List UInt8)(n i:Nat):ta (l.drop n) i=ta l (n+i):=by
 unfold ta;rw[zaB]
def Sq{l:List UInt8}{i:Nat}(h:l.length<=i):ta l i=0:=by
 unfold ta;rw[zaK h];rfl
def Xx(l:List UInt8)(n i:Nat):ta (mF l n) i=ta l i:=by
 unfold mF;rw[GX,L1];split
 ·rfl
 ·rw[Sq ab]
def Mv{a b:List UInt8}(h:a.length=b.length)(g:∀i,i<a.length->ta a i=ta b i):a=b:=by
 refine Bi rfl h.symm λi hi=>?_
 have:=g i hi;unfold ta at this;rw[zah hi,zah (show i<b.length by omega)]at this ⊢;simpa using this
def Py{C aa:List UInt8}{p:Nat}(i:Nat):ta (bW C p aa) i=if p<=i/\i<p+aa.length then ta aa (i-p)else ta C i:=by
 have hl:p+aa.length<=(mF C (p+aa.length)).length:=by unfold mF;rw[zad,aW];omega
 unfold bW;rw[GX,GX,zad,zal,show min p (mF C (p+aa.length)).length=p by omega,sC,Fs];by_cases h1:i<p
 ·rw[if_pos ab,if_pos h1,if_pos h1,if_neg ab,Xx]
 ·by_cases h2:i<p+aa.length
  ·rw[if_pos h2,if_neg h1,if_pos ⟨ab,h2⟩]
  ·rw[if_neg h2,if_neg ab,show p+aa.length+(i-(p+aa.length))=i by omega,Xx]
def Uv{C:List UInt8}{n:Nat}(i:Nat):ta (M9 C n) i=if i<n then ta C i else 0:=by
 unfold M9;rw[sC,Xx]
def auk{C:List UInt8}{f t:Nat}(h:f<=t/\t<=C.length)(i:Nat):ta (sD C f t) i=if f<=i/\i<t then 0 else ta C i:=by
 unfold sD;rw[GX,GX,zad,zal,aW,show min f C.length=f by omega,sC,L1,Fs];by_cases h1:i<f
 ·rw[if_pos ab,if_pos h1,if_pos h1,if_neg ab]
 ·by_cases h2:i<t
  ·rw[if_pos ab,if_neg h1,if_pos ⟨ab,h2⟩]
  ·rw[if_neg ab,if_neg ab,show t+(i-(f+(t-f)))=i by omega]
def aqc{a:At}{out:List UInt8}(h:0<=a.vd/\a.vd<=a.sz)(i:Nat):ta (nA a out) i=if (i:Int)<a.vd then ta out i else 0:=by
 unfold nA;rw[sC,Xx,sC];by_cases g:(i:Int)<a.vd
 ·rw[if_pos ab,if_pos ab,if_pos g]
 ·rw[if_neg g,if_neg (show ¬i<a.vd.toNat by omega)];split<;>rfl
def flat_get{α β:Type}{f:α->List β}{m:Nat}:∀{l:List α},(∀x∈l,(f x).length=m)→∀{i j:Nat},j<m->(l.flatMap f)[m*i+j]?=(l[i]?).bind λx=>(f x)[j]?
 |[],_,i,j,_=>by simp
 |x::l,h,0,j,hj=>by
  have hx:=h x aj;rw[zan,zaq ab];simp
 |x::l,h,i+1,j,hj=>by
  have hx:=h x aj;have ih:=flat_get (λy hy=>h y pT) (i:=i) hj (l:=l) (f:=f);have e:m*(i+1)+j-m=m*i+j:=by rw[zdJ];omega
  rw[zan,zak (by rw[zdJ];omega),hx,e,ih];simp
def auF{B:List UInt8}{l:List Int}(h:MH B l){i j:Nat}(hj:j<256)(hh:l[i]?.getD (-1)= -1):ta (rz B l) (256*i+j)=0:=by
 have hf:∀x∈l,(if x= -1 then ai 256 else eU B x.toNat).length=256:=λx hx=>by
  split
  ·exact aW 256
  ·rcases h x hx with g|g
   ·omega
   ·exact gI ab
 unfold ta rz;rw[flat_get hf hj];cases g:l[i]? with
 |none=>rfl
 |some x=>
  rw[g,zbA]at hh;rw[Option.bind_some,if_pos hh,LW hj];rfl
structure ajj(d:Dk)(a:At):Prop where
 sz:((aV (ar d a)).length:Int)=if a.rs=true then(a.vl.length:Int)else a.sz
 vd:0<=cG a/\cG a<=(aV (ar d a)).length
 z:∀i:Nat,cG a<=i->ta (aV (ar d a)) i=0
 hole:a.fl%2≠1→∀i,¬OS (ar d a) i→¬kG 0 a.vl.length i→∀j,j<256->ta (aV (ar d a)) (256*i+j)=0
 len:(aV (ar d a)).length<=32768
 fl:0<=a.fl/\a.fl<=2
def AD{a:At}(h:gu a=0):acN a:=by
 refine acN.of ?_;unfold gu at h;split at h
 ·rename_i g;exact sF
 ·rename_i g;exact K6
def qo{d:Dk}{a:At}(h0:aK d a=0):ajj d a:=by
 obtain⟨ok,_⟩:=bc h0;obtain⟨s1,_⟩:=lE ok.str;have xu:=AD s1;have hl:=Jh ok;have Ja:cG a=if a.rs=true then(a.vl.length:Int)else a.vd:=rfl;cases c_:a.rs with
 |true=>
  have hc:aV (ar d a)=a.vl:=by unfold aV;rw[if_pos (show(ar d a).a.rs=true from c_)];rfl
  rw[c_,if_pos rfl]at Ja;refine⟨by rw[hc,if_pos c_],by rw[hc];omega,λi hi=>?_,λ_ i _ h2 j hj=>?_,hl,ok.fl⟩
  ·rw[hc];exact Sq ab
  ·rw[hc];refine Sq ?_;unfold kG at h2;omega
 |false=>
  have hc:aV (ar d a)=nA a (if a.fl%2=1 then ow d.a_ (chunks (az a.rn.l))else rz d.a_ (az a.rn.l)):=by unfold aV;rw[if_neg (show ¬(ar d a).a.rs=true from λh=>ai8)];rfl
  obtain⟨_,o2,_,_,_,o6,o7⟩:=xu.ot c_;have hsv:=o6.2;rw[c_,if_neg ao]at Ja;have hlen:=OO a (if a.fl%2=1 then ow d.a_ (chunks (az a.rn.l))else rz d.a_ (az a.rn.l));have hz:=aqc (a:=a) (out:=if a.fl%2=1 then ow d.a_ (chunks (az a.rn.l))else rz d.a_ (az a.rn.l)) ⟨ab,o7⟩;have mE:(aV (ar d a)).length=a.sz.toNat:=by rw[hc];exact hlen
  refine⟨by rw[if_neg qD];omega,ab,λi hi=>?_,λhf i h1 _ j hj=>?_,hl,ok.fl⟩
  ·rw[hc,hz,if_neg ab]
  ·rw[hc,hz,if_neg hf];rw[afa]at h1;have h1:=zc3.1 h1;rw[auF ok.pl hj h1];split<;>rfl
def noT{f t:Int}{i j:Nat}(h:¬kG f t i)(hj:j<256):¬(f<=256*(i:Int)+j/\256*(i:Int)+j<t):=by
 unfold kG at h;omega
def aoc{d:Dk}{a:At}{p:Int}{aa:List UInt8}(hc:ajj d a)(hp:0<=p)(hl:p+aa.length<=32768):GZ (ar d a) (bW (aV (ar d a)) p.toNat aa) (max (cG a) (p+aa.length)) (b8 (ar d a) p (p+aa.length)):=by
 have h1:=hc.vd;have h2:=hc.len;have SL:=hc.fl;refine⟨by rw[xx];omega,by rw[xx];omega,λi hi=>?_,λhs i hn j hj=>?_⟩
 ·rw[Py,if_neg ab];exact hc.z i ab
 ·unfold b8 at hn;simp only[not_or]at hn;obtain⟨n1,n2,n3⟩:=hn;have:=noT n2 hj;rw[Py,if_neg ab];have e:(ar d a).a=a:=rfl;rw[e]at hs;exact hc.hole ab i n1 n3 j hj
def anp{d:Dk}{a:At}{n:Int}(hc:ajj d a)(hn:0<=n/\n<=32768):GZ (ar d a) (M9 (aV (ar d a)) n.toNat) (min (cG a) n) (Yk (ar d a)):=by
 have h1:=hc.vd;have h2:=hc.len;have SL:=hc.fl;refine⟨by rw[Ag];omega,by rw[Ag];omega,λi hi=>?_,λhs i hn j hj=>?_⟩
 ·rw[Uv];split
  ·exact hc.z i ab
  ·rfl
 ·unfold Yk at hn;simp only[not_or]at hn;have e:(ar d a).a=a:=rfl;rw[e]at hs;rw[Uv,hc.hole ab i hn.1 hn.2 j hj];split<;>rfl
def ay1{d:Dk}{a:At}{p n:Int}(hp:0<=p)(hn:0<=n):(dz (aV (ar d a)) p).toNat<=(dX (aV (ar d a)) p n).toNat/\(dX (aV (ar d a)) p n).toNat<=(aV (ar d a)).length/\0<=dz (aV (ar d a)) p/\0<=dX (aV (ar d a)) p n:=by
 unfold dX dz;omega
def aFf{d:Dk}{a:At}{p n:Int}(hc:ajj d a)(c_:a.rs=false)(hp:0<=p)(hn:0<=n)(Ja:a.vl=[]):GZ (ar d a) (QC d a p n) a.vd (ju d a p n):=by
 have h1:=hc.vd;have h2:=hc.len;have SL:=hc.fl;obtain⟨f1,f2,f3,f4⟩:=ay1 (d:=d) (a:=a) hp hn;have hl:(QC d a p n).length=(aV (ar d a)).length:=Xa ⟨f1,f2⟩;have hv:cG a=a.vd:=by unfold cG;rw[c_];rfl
 have hz:=auk (C:=aV (ar d a)) ⟨f1,f2⟩;refine⟨ab,ab,λi hi=>?_,λhs i uj j hj=>?_⟩
 ·show ta (sD _ _ _) i=0;rw[hz];split
  ·rfl
  ·exact hc.z i ab
 ·have e:(ar d a).a=a:=rfl;rw[e]at hs;show ta (sD _ _ _) _=0;rw[hz];split
  ·rfl
  ·rename_i g;by_cases hd:OS (ar d a) i
   ·have hcv:Cj (dz (aV (ar d a)) p) (dX (aV (ar d a)) p n) i (QC d a p n).length:=Classical.byContradiction λhcv=>uj ⟨hd,hcv⟩
    unfold Cj at hcv;rw[hl]at hcv;exact Sq ab
   ·refine hc.hole ab i hd ?_ j hj;rw[Ja];unfold kG;show ¬((0:Int)<min 0 _/\_);omega
def Yg{P:Nat->Prop}{lo hi:Nat}(h:∀i,P i↔(lo<=i/\i<hi)){i:Nat}(h0:1<=i)(h1:i≠lo)(h2:i≠hi):P (i-1)↔P i:=by
 rw[h,h];omega
def T4{f t:Int}(hf:0<=f)(ht:0<=t)(i:Nat):kG f t i↔(((f/256).toNat<=i/\i<(if f<t then((t+255)/256).toNat else 0))):=by
 unfold kG;split<;>omega
def aEU{d:Dk}{a:At}{f t:Int}(hf:0<=f)(ht:0<=t):ahC (ar d a) (b8 (ar d a) f t):=by
 intro _;refine⟨[(f/256).toNat,if f<t then((t+255)/256).toNat else 0,((0:Int)/256).toNat,if (0:Int)<a.vl.length then(((a.vl.length:Int)+255)/256).toNat else 0],aj,λi h1 hi=>?_⟩;simp only[zaw,zb9,or_false,not_or]at hi;obtain⟨n1,n2,n3,n4⟩:=hi;have g1:=Yg (T4 hf ht) h1 n1 n2;have g2:=Yg (T4 (f:=0) (t:=a.vl.length) ab ab) h1 n3 n4;have e:(ar d a).a.vl=a.vl:=rfl;unfold b8;rw[e];by_cases q:kG f t i\/kG 0 a.vl.length i
 ·left;have q2:kG f t (i-1:Nat)\/kG 0 a.vl.length (i-1:Nat):=q.imp g1.2 g2.2;exact⟨λ_=>.inr q,λ_=>.inr q2⟩
 ·right;have q2:¬(kG f t (i-1:Nat)\/kG 0 a.vl.length (i-1:Nat)):=λh=>q (h.imp g1.1 g2.1)
  exact⟨⟨.inl,λh=>h.resolve_right q2⟩,⟨.inl,λh=>h.resolve_right q⟩⟩
def aFF{d:Dk}{a:At}:ahC (ar d a) (Yk (ar d a)):=by
 intro _;refine⟨[((0:Int)/256).toNat,if (0:Int)<a.vl.length then(((a.vl.length:Int)+255)/256).toNat else 0],aj,λi h1 hi=>?_⟩;simp only[zaw,zb9,or_false,not_or]at hi;obtain⟨n3,n4⟩:=hi;have g2:=Yg (T4 (f:=0) (t:=a.vl.length) ab ab) h1 n3 n4;have e:(ar d a).a.vl=a.vl:=rfl;unfold Yk;rw[e];by_cases q:kG 0 a.vl.length i
 ·exact .inl ⟨λ_=>.inr q,λ_=>.inr (g2.2 q)⟩
 ·exact .inr ⟨⟨.inl,λh=>h.resolve_right λg=>q (g2.1 g)⟩,⟨.inl,λh=>h.resolve_right q⟩⟩
def aeI{f t e:Int}(hf:0<=f)(ht:0<=t)(i:Nat):Cj f t i e↔((((f+255)/256).toNat<=i/\(e<=t\/i<(t/256).toNat))):=by
 unfold Cj;omega
def aFj{d:Dk}{a:At}{f t:Int}{n:Nat}(hf:0<=f)(ht:0<=t):ahC (ar d a) (yN (ar d a) f t n):=by
 intro _;refine⟨[((f+255)/256).toNat,(t/256).toNat],aj,λi h1 hi=>?_⟩;simp only[zaw,zb9,or_false,not_or]at hi;obtain⟨n1,n2⟩:=hi;have g:Cj f t (i-1:Nat) n↔Cj f t i n:=by
  rw[aeI hf ht,aeI hf ht];omega
 unfold yN;by_cases q:Cj f t i n
 ·exact .inl ⟨λh=>absurd (g.2 q) h.2,λh=>absurd q h.2⟩
 ·exact .inr ⟨⟨λh=>⟨h,λh2=>q (g.1 h2)⟩,λh=>h.1⟩,⟨λh=>⟨h,q⟩,λh=>h.1⟩⟩
section
structure rL(d e:Dk)(a b:At)(C:List UInt8)(v:Int)(rs:Bool):Prop where
 op:aK e b=0
 su:adv d e a b
 fN:aV (ar e b)=C
 rs:b.rs=rs
 vd:b.rs=false->b.vd=v
 ty:b.ty=a.ty
 nm:b.nm=a.nm
 id:b.id=a.id
 fl:b.fl=a.fl
def Ny(d:Dk)(a:At)(e k:Int):Prop:=(e=8/\(16<a.rn.l.length\/16<(nG d.mp d.n).length))\/(e=16/\(d.n:Int)-oF d.mp d.n+(tV (az a.rn.l)).length<k)
def Ns(a:At)(n:Int)(l:List Bool):Int:=if a.fl%2=1 then 16*((n+4095)/4096)else if a.fl/2%2=1 then RF l else(n+255)/256
def Yt{a:At}(hr:a.rs=true):(T5 a).length=B5 (B5 (24+a.nm.length)+a.vl.length):=by
 have h1:=i_ (24+a.nm.length);have h2:=i_ (B5 (24+a.nm.length)+a.vl.length);have e3:uH a=24:=by unfold uH;rw[hr];rfl
 have e1:l8 a=B5 (24+a.nm.length):=by unfold l8;rw[e3]
 have e4:N8 a=a.vl:=by unfold N8;rw[hr];rfl
 have e2:Tk a=B5 (B5 (24+a.nm.length)+a.vl.length):=by unfold Tk;rw[e1,e4]
 have hf:(aso a).length=24:=by
  unfold aso atW;rw[hr];simp only[zad,gL,if_true]
 unfold T5;rw[zad,zad,zad,zad,hf,bE,bE,e2,e1,e3,e4];omega
def awG{a:At}{C:List UInt8}(h:gu a=0)(hC:C.length<=200\/(a.rs=true/\C.length=a.vl.length)):gu (Hx a C)=0:=by
 have ok:=AD h;have hl:C.length<=400:=by
  rcases hC with h|⟨h1,h2⟩
  ·omega
  ·have:=(ok.rs h1).2.2;omega
 have hk:Iv (Hx a C)=0:=by
  show Hy (Hx a C)=0;unfold Hy;rw[if_neg,if_neg]
  ·show ¬400<C.length;omega
  ·exact λh=>h ⟨rfl,rfl,rfl,rfl,rfl⟩
 have hw:(T5 (Hx a C)).length<=440:=by
  rw[Yt rfl];show B5 (B5 (24+a.nm.length)+C.length)<=440;rcases hC with g|⟨g1,g2⟩
  ·have h1:=i_ (24+a.nm.length);have h2:=i_ (B5 (24+a.nm.length)+C.length);have hn:=ok.DL;omega
  ·rw[g2,<-Yt g1];unfold gu at h;split at h
   ·rename_i q;exact absurd h q
   split at h
   ·cases h
   ·omega
 unfold gu;rw[if_neg,if_neg ab];refine λh=>h ?_
 unfold TI;rw[if_neg,if_neg,if_neg,hk]
 ·exact λh=>h ok.BN
 ·exact λh=>h ok.nm
 ·exact λh=>h ok.S3
def aiu{d e:Dk}{a:At}{C:List UInt8}(h0:aK d a=0)(he:gm e=0)(hC:C.length<=200\/(a.rs=true/\C.length=a.vl.length)):aK e (Hx a C)=0:=by
 obtain⟨ok,_⟩:=bc h0;obtain⟨s1,s2,s3,s4,s5⟩:=lE ok.str;have hs:oT (Hx a C)=0:=by
  unfold oT;rw[awG s1 hC,if_neg aj,if_neg,if_neg,if_neg]
  ·show ¬32768<(0:Int);omega
  ·show ¬(0:Int)≠0;simp
  ·show ¬(a.ty≠128\/4<=a.fl\/a.fl=3);omega
 unfold aK;rw[he,hs,if_neg aj,if_neg aj];rfl
def aeo{d:Dk}{a:At}{C:List UInt8}{v:Int}(h0:aK d a=0)(hr:a.rs=true)(hC:C.length<=200\/(a.rs=true/\C.length=a.vl.length)):rL d d a (Hx a C) C v true:=by
 obtain⟨ok,_⟩:=bc h0;have lF:=(ok.res hr).1;refine⟨aiu h0 ok.dk hC,⟨⟨rfl,ok.dk⟩,λc hc=>?_⟩,rfl,rfl,(λh=>bV),rfl,rfl,rfl,rfl⟩;rw[lF];show E0 d d (tV (az [])) (tV (az [])) c;have e:tV (az [])=[]:=rfl;rw[e];unfold E0;refine⟨λ_=>⟨rfl,rfl⟩,λh=>?_,λh=>?_,λh=>?_⟩
 ·exact absurd h.1 aj
 ·exact absurd h aj
 ·exact absurd h.1 aj
section
variable {d:Dk} {a:At} {C:List UInt8} {v:Int} {dt:Nat->Prop}
def aiI(h0:aK d a=0)(hd:wU d)(hn:a.nm.length<=1000000)(hc:GZ (ar d a) C v dt)(he:Md (ar d a) C v dt=0):rL d (XY (ar d a) C dt) a (Gv (ar d a) C v dt) C v false:=by
 have hm:=Xo h0 hd hn hc he;exact⟨hm.op,atm hm,hm.fN,rfl,λ_=>rfl,rfl,rfl,rfl,rfl⟩
def akg(h0:aK d a=0)(hd:wU d)(hn:a.nm.length<=1000000)(hc:GZ (ar d a) C v dt)(he:cg (ar d a) C v dt=0):
 rL d (lQ (ar d a) C v dt) a (jK (ar d a) C v dt) C v (decide (a.rs=true/\C.length<=200)):=by
 have e1:(ar d a).a=a:=rfl;have e2:(ar d a).d=d:=rfl;unfold cg at he;unfold lQ jK;rw[e1]at he ⊢;by_cases h:a.rs=true/\C.length<=200
 ·rw[if_pos h,if_pos h,decide_eq_true h,e2];exact aeo h0 h.1 (.inl h.2)
 ·rw[if_neg h]at he;rw[if_neg h,if_neg h,decide_eq_false h,if_pos he,if_pos he];exact aiI h0 hd hn hc he
def atg(h0:aK d a=0)(hd:wU d)(hn:a.nm.length<=1000000)(hc:GZ (ar d a) C v dt)(PE:ahC (ar d a) dt)(he:Md (ar d a) C v dt≠0){k:Int}(hk:(aoK (aQ (ar d a) C dt):Int)<=k):Ny d a (Md (ar d a) C v dt) k:=by
 have qG:=sK (ar d a) C dt;have mE:=hc.len;have IH:(aQ (ar d a) C dt).length<=1000:=Su;have xp:Md (ar d a) C v dt=8->16<a.rn.l.length\/16<(nG d.mp d.n).length:=λh=>by
  by_cases g:a.rn.l.length<=16/\(nG d.mp d.n).length<=16
  ·exact absurd h (auH h0 hd hn hc PE g.1 g.2)
  ·omega
 have hfu:=abK h0 hd hn IH;by_cases h8:Md (ar d a) C v dt=8
 ·exact .inl ⟨h8,xp h8⟩
 ·right;unfold Md at he h8 ⊢;split at he
  ·rename_i g;rw[if_pos g]at h8 ⊢;rcases hfu g with⟨g1,g2⟩|⟨g1,g2⟩
   ·refine⟨g1,?_⟩;rw[Lc];have:=Bj d.mp d.n;omega
   ·exact absurd g1 h8
  ·rename_i g;rw[if_neg g]at h8;split at he
   ·rename_i g2;rw[if_pos g2]at h8;exact absurd rfl h8
   ·exact absurd rfl he
def auO(h0:aK d a=0)(hd:wU d)(hn:a.nm.length<=1000000)(hc:GZ (ar d a) C v dt)(PE:ahC (ar d a) dt)(he:cg (ar d a) C v dt≠0){k:Int}(hk:(aoK (aQ (ar d a) C dt):Int)<=k):
 ¬(a.rs=true/\C.length<=200)/\Ny d a (cg (ar d a) C v dt) k/\lQ (ar d a) C v dt=zD/\jK (ar d a) C v dt=zA:=by
 have e1:(ar d a).a=a:=rfl;unfold cg at he ⊢;unfold lQ jK;rw[e1]at he ⊢;split at he
 ·exact absurd rfl he
 ·rename_i h;rw[if_neg h,if_neg h,if_neg h,if_neg he,if_neg he];exact⟨h,atg h0 hd hn hc PE he hk,rfl,rfl⟩
def ar0(f:Nat->Bool)(n:Nat):RF ((List.range n).map f)=gy f n:=by
 induction n with
 |zero=>rfl
 |succ n ih=>
  rw[zdk,zbu,cJ,<-ih];unfold RF;rw[List.countP_append];congr 1;simp[List.countP_cons]
def F9(n:Int):Iy n 256=(n+255)/256:=Cl
def akW{l:List Bool}(hl:a.fl%2≠1->a.fl/2%2=1→∃f,l=(List.range ((C.length+255)/256)).map f∧∀i,i<(C.length+255)/256->dt i->f i=true):(aoK (aQ (ar d a) C dt):Int)<=Ns a C.length l:=by
 have qG:=sK (ar d a) C dt;have e1:(ar d a).a=a:=rfl;rw[e1]at qG;have h1:=ak5 (jz (aQ (ar d a) C dt)) (aQ (ar d a) C dt).length;unfold Ns aoK;by_cases h:a.fl%2=1
 ·rw[if_pos h]at qG ⊢;omega
 ·rw[if_neg h]at qG ⊢;split
  ·rename_i g;obtain⟨f,rfl,hf⟩:=hl h g;rw[ar0,qG];have:=sk (p:=jz (aQ (ar d a) C dt)) (q:=f) (n:=(C.length+255)/256) λi hi cb=>hf i hi (((Pb (C:=C) (dt:=dt) (s:=ar d a) h).1 cb).2 g)
   omega
  ·omega
def Y7(h0:aK d a=0)(hd:wU d)(hn:a.nm.length<=1000000)(hc:GZ (ar d a) C v dt)(he:Md (ar d a) C v dt=0)(h1:¬a.fl%2=1)(h2:a.fl/2%2=1){f:Nat->Bool}(hf:∀i,i<(C.length+255)/256->(f i=true↔dt i)):
 (az (Gv (ar d a) C v dt).rn.l).map (λx=>decide (x≠ -1))=(List.range ((C.length+255)/256)).map f:=by
 have hm:=Xo h0 hd hn hc he;have qG:=sK (ar d a) C dt;have e1:(ar d a).a=a:=rfl;rw[e1,if_neg h1]at qG;rw[hm.plc];unfold Cz cQ;rw[qG,List.map_map];refine zbC λi hi=>?_
 have hi:=zbm.1 hi;have hr:=Pb (C:=C) (dt:=dt) (s:=ar d a) h1 (i:=i);show decide (Be (ar d a) C dt i≠ -1)=f i;rw[zaN,decide_eq_true_eq,hf i hi];constructor
 ·intro g;cases cb:jz (aQ (ar d a) C dt) i with
  |false=>exact absurd (hm.pl.no i cb) g
  |true=>exact(hr.1 cb).2 h2
 ·intro g;have:=hm.pl.yes i ab (hr.2 ⟨hi,λ_=>g⟩);show Be _ _ _ i≠ -1;omega
end
def Rr(a:At)(f t:Int)(n:Nat):nJ a f t n=(List.range ((n+255)/256)).map (QT a f t):=by
 unfold nJ;rw[F9,show(((n:Int)+255)/256).toNat=(n+255)/256 by omega]
def af8{d:Dk}{a:At}{i:Nat}:Jc (az a.rn.l) i=true↔OS (ar d a) i:=by
 rw[afa];unfold Jc NZ;show _↔(az a.rn.l)[i]?.getD (-1)≠ -1;cases (az a.rn.l)[i]?<;>simp
def aua{d:Dk}{a:At}(h0:aK d a=0){f t:Int}(n7:f<t)(i:Nat):QT a f t i=true↔b8 (ar d a) f t i:=by
 obtain⟨ok,_⟩:=bc h0;obtain⟨s1,_⟩:=lE ok.str;have xu:=AD s1;unfold QT b8 kG;rw[zbE,zaU,zaU,decide_eq_true_eq,decide_eq_true_eq,decide_eq_true_eq];have e:(ar d a).a.vl=a.vl:=rfl;rw[e];cases c_:a.rs with
 |true=>
  have hh:¬OS (ar d a) i:=by
   rw[<-af8,(ok.res c_).1];unfold Jc;simp[az]
  rw[if_pos rfl,decide_eq_true_eq];constructor
  ·rintro(g|g)
   ·right;right;omega
   ·right;left;omega
  ·rintro(g|g|g)
   ·exact absurd g hh
   ·right;omega
   ·left;omega
 |false=>
  have hv:=(xu.ot c_).2.1;rw[if_neg ao,af8 (d:=d),hv];show _↔_\/_\/((0:Int)<min 0 _/\_);constructor
  ·rintro(g|g)
   ·exact .inl g
   ·right;left;omega
  ·rintro(g|g|g)
   ·exact .inl g
   ·right;omega
   ·omega
def afJ{d:Dk}{a:At}(h0:aK d a=0)(i:Nat):QT a 0 0 i=true↔Yk (ar d a) i:=by
 obtain⟨ok,_⟩:=bc h0;obtain⟨s1,_⟩:=lE ok.str;have xu:=AD s1;unfold QT Yk kG;rw[zbE,zaU,zaU,decide_eq_true_eq,decide_eq_true_eq,decide_eq_true_eq];have e:(ar d a).a.vl=a.vl:=rfl;rw[e];cases c_:a.rs with
 |true=>
  have hh:¬OS (ar d a) i:=by
   rw[<-af8,(ok.res c_).1];unfold Jc;simp[az]
  rw[if_pos rfl,decide_eq_true_eq];constructor
  ·rintro(g|g)
   ·right;omega
   ·omega
  ·rintro(g|g)
   ·exact absurd g hh
   ·left;omega
 |false=>
  have hv:=(xu.ot c_).2.1;rw[if_neg ao,af8 (d:=d),hv];show _↔_\/((0:Int)<min 0 _/\_);constructor
  ·rintro(g|g)
   ·exact .inl g
   ·omega
  ·rintro(g|g)
   ·exact .inl g
   ·omega
end
def anN{s b:List UInt8}{p:Nat}(h:p+b.length<=s.length)(i:Nat):ta (We s p b) i=if p<=i/\i<p+b.length then ta b (i-p)else ta s i:=by
 unfold We;rw[GX,GX,zad,zal,show min p s.length=p by omega,sC,Fs];by_cases h1:i<p
 ·rw[if_pos ab,if_pos h1,if_pos h1,if_neg ab]
 ·by_cases h2:i<p+b.length
  ·rw[if_pos h2,if_neg h1,if_pos ⟨ab,h2⟩]
  ·rw[if_neg h2,if_neg ab,show p+b.length+(i-(p+b.length))=i by omega]
def Hq{C aa:List UInt8}{p:Nat}(h:aa≠[]):yr C p aa=bW C p aa:=by
 have hd:=zcb.2 h;have hl:(M9 C (max C.length (p+aa.length))).length=max C.length (p+aa.length):=Ag _ _;unfold yr;rw[if_neg h];refine Mv (by rw[Yn ab,hl,xx]) λi hi=>?_
 rw[anN ab,Py,Uv];rw[Yn ab,hl]at hi;rw[if_pos hi]
def aAy{C:List UInt8}{p n:Int}(hp:0<=p)(hn:0<=n):PY C p n=sD C (dz C p).toNat (dX C p n).toNat:=by
 have hz:(ai (min (p+n) (C.length:Int)-min p (C.length:Int)).toNat).length=(min (p+n) (C.length:Int)-min p (C.length:Int)).toNat:=aW _;have n7:(dz C p).toNat<=(dX C p n).toNat/\(dX C p n).toNat<=C.length:=by unfold dX dz;omega
 unfold PY;refine Mv (by rw[Yn ab,Xa n7]) λi hi=>?_
 rw[anN ab,auk n7,hz,L1];unfold dX dz;by_cases h:(min p (C.length:Int)).toNat<=i/\i<(min p (C.length:Int)).toNat+(min (p+n) (C.length:Int)-min p (C.length:Int)).toNat
 ·rw[if_pos h,if_pos ab]
 ·rw[if_neg h,if_neg ab]
def cf(a:At):Int:=if a.rs=true then a.vl.length else a.sz
def xV{d:Dk}{a:At}(hc:ajj d a):((aV (ar d a)).length:Int)=cf a:=hc.sz
def aah{d:Dk}{a:At}(h0:aK d a=0):(a.fl/2%2=1→¬a.fl%2=1):=by
 obtain⟨ok,_⟩:=bc h0;have:=ok.fl;omega
structure WrL(d:Dk)(a:At)(p:Int)(aa:List UInt8):Prop where
 ok:AO d a p aa=0->rL d (zM d a p aa) a (yV d a p aa) (yr (aV (ar d a)) p.toNat aa) (max (cG a) (p+aa.length)) (decide (a.rs=true/\max (cf a) (p+aa.length)<=200))/\
  (¬(a.rs=true/\max (cf a) (p+aa.length)<=200)->a.fl/2%2=1->(az (yV d a p aa).rn.l).map (λx=>decide (x≠ -1))=nJ a p (p+aa.length) (max (cf a) (p+aa.length)))
 er:AO d a p aa≠0→¬(a.rs=true/\max (cf a) (p+aa.length)<=200)/\zM d a p aa=zD/\yV d a p aa=zA/\Ny d a (AO d a p aa) (Ns a (max (cf a) (p+aa.length)) (nJ a p (p+aa.length) (max (cf a) (p+aa.length))))
def Uz{d:Dk}{a:At}{p:Int}{aa:List UInt8}(h0:aK d a=0)(hd:wU d)(hn:a.nm.length<=1000000)(hp:0<=p)(hl:p+aa.length<=32768)(cb:aa≠[]):WrL d a p aa:=by
 have hc:=qo h0;have Gq:=zcb.2 cb;have UH:=aoc hc hp hl;have PE:=aEU (d:=d) (a:=a) (f:=p) (t:=p+aa.length) hp ab;have Gy:yE d a p aa=0:=ZF;have hE:AO d a p aa=cg (ar d a) (bW (aV (ar d a)) p.toNat aa) (max (cG a) (p+aa.length)) (b8 (ar d a) p (p+aa.length)):=by unfold AO;rw[Gy,if_neg z0,if_neg cb]
 have hD:zM d a p aa=lQ (ar d a) (bW (aV (ar d a)) p.toNat aa) (max (cG a) (p+aa.length)) (b8 (ar d a) p (p+aa.length)):=by unfold zM;rw[Gy,if_neg z0,if_neg cb]
 have hA:yV d a p aa=jK (ar d a) (bW (aV (ar d a)) p.toNat aa) (max (cG a) (p+aa.length)) (b8 (ar d a) p (p+aa.length)):=by unfold yV;rw[Gy,if_neg z0,if_neg cb]
 have hlen:=xx (aV (ar d a)) p.toNat aa;have mD:=xV hc;have hS:((bW (aV (ar d a)) p.toNat aa).length:Int)=max (cf a) (p+aa.length):=ab;have zl:(a.rs=true/\(bW (aV (ar d a)) p.toNat aa).length<=200)↔(a.rs=true/\max (cf a) (p+aa.length)<=200):=by
  rw[<-hS];exact and_congr_right λ_=>ab
 have qY:=aah h0;refine⟨λhe=>?_,λhe=>?_⟩
 ·rw[hE]at he;rw[hD,hA,Hq cb];refine⟨?_,λhr hs=>?_⟩
  ·have:=akg h0 hd hn UH he;rwa[decide_eq_decide.2 zl]at this
  ·have e1:(ar d a).a=a:=rfl;have CW:=λh=>hr (zl.1 h)
   have qN:Md (ar d a) (bW (aV (ar d a)) p.toNat aa) (max (cG a) (p+aa.length)) (b8 (ar d a) p (p+aa.length))=0:=by
    unfold cg at he;rwa[e1,if_neg CW]at he
   unfold jK;rw[e1,if_neg CW,if_pos qN,<-hS,Rr];exact Y7 h0 hd hn UH qN (qY hs) hs λi _=>aua h0 ab i
 ·rw[hE]at he;rw[hD,hA,hE,<-hS];have hk:=akW (d:=d) (a:=a) (C:=bW (aV (ar d a)) p.toNat aa) (dt:=b8 (ar d a) p (p+aa.length)) (l:=nJ a p (p+aa.length) ((bW (aV (ar d a)) p.toNat aa).length:Nat)) λg1 g2=>⟨_,Rr _ _ _ _,λi _ h=>(aua h0 ab i).2 h⟩
  obtain⟨r1,r2,r3,r4⟩:=auO h0 hd hn UH PE he hk;exact⟨λh=>r1 ⟨h.1,ab⟩,r3,r4,r2⟩
structure SzL(d:Dk)(a:At)(n:Int):Prop where
 ok:Jb d a n=0->rL d (Jf d a n) a (LA d a n) (M9 (aV (ar d a)) n.toNat) (min (cG a) n) (decide (a.rs=true/\n<=200))/\
  (¬(a.rs=true/\n<=200)->a.fl/2%2=1->(az (LA d a n).rn.l).map (λx=>decide (x≠ -1))=nJ a 0 0 n)
 er:Jb d a n≠0→¬(a.rs=true/\n<=200)/\Jf d a n=zD/\LA d a n=zA/\Ny d a (Jb d a n) (Ns a n (nJ a 0 0 n))
def af3{d:Dk}{a:At}{n:Int}(h0:aK d a=0)(hd:wU d)(hn:a.nm.length<=1000000)(hp:0<=n/\n<=32768):SzL d a n:=by
 have hc:=qo h0;have UH:=anp hc hp;have PE:=aFF (d:=d) (a:=a);have Gy:D8 d a n=0:=Z9;have hE:Jb d a n=cg (ar d a) (M9 (aV (ar d a)) n.toNat) (min (cG a) n) (Yk (ar d a)):=by unfold Jb;rw[Gy,if_neg z0]
 have hD:Jf d a n=lQ (ar d a) (M9 (aV (ar d a)) n.toNat) (min (cG a) n) (Yk (ar d a)):=by unfold Jf;rw[Gy,if_neg z0]
 have hA:LA d a n=jK (ar d a) (M9 (aV (ar d a)) n.toNat) (min (cG a) n) (Yk (ar d a)):=by unfold LA;rw[Gy,if_neg z0]
 have hlen:=Ag (aV (ar d a)) n.toNat;have hS:((M9 (aV (ar d a)) n.toNat).length:Int)=n:=ab;have zl:(a.rs=true/\(M9 (aV (ar d a)) n.toNat).length<=200)↔(a.rs=true/\n<=200):=and_congr_right λ_=>ab
 have qY:=aah h0;refine⟨λhe=>?_,λhe=>?_⟩
 ·rw[hE]at he;rw[hD,hA];refine⟨?_,λhr hs=>?_⟩
  ·have:=akg h0 hd hn UH he;rwa[decide_eq_decide.2 zl]at this
  ·have e1:(ar d a).a=a:=rfl;have CW:=λh=>hr (zl.1 h)
   have qN:Md (ar d a) (M9 (aV (ar d a)) n.toNat) (min (cG a) n) (Yk (ar d a))=0:=by
    unfold cg at he;rwa[e1,if_neg CW]at he
   unfold jK;rw[e1,if_neg CW,if_pos qN];have h5:=Y7 h0 hd hn UH qN (qY hs) hs (f:=QT a 0 0) λi _=>afJ h0 i
   rw[h5,<-Rr,hS]
 ·rw[hE]at he;rw[hD,hA,hE];have hk:=akW (d:=d) (a:=a) (C:=M9 (aV (ar d a)) n.toNat) (dt:=Yk (ar d a)) (l:=nJ a 0 0 ((M9 (aV (ar d a)) n.toNat).length:Nat)) λg1 g2=>⟨_,Rr _ _ _ _,λi _ h=>(afJ h0 i).2 h⟩
  rw[hS]at hk;obtain⟨r1,r2,r3,r4⟩:=auO h0 hd hn UH PE he hk;exact⟨λh=>r1 ⟨h.1,ab⟩,r3,r4,r2⟩
def ax9{d:Dk}{a:At}{C:List UInt8}{v:Int}{dt:Nat->Prop}(h0:aK d a=0)(hd:wU d)(hn:a.nm.length<=1000000)(c_:a.rs=false)(h1:¬a.fl%2=1)(h2:¬a.fl/2%2=1)(UH:GZ (ar d a) C v dt)(hC:(C.length:Int)=a.sz):Md (ar d a) C v dt=0:=by
 obtain⟨ok,oo⟩:=bc h0;obtain⟨_,yB,_⟩:=oo c_;obtain⟨s1,s2,s3,s4,s5⟩:=lE ok.str;have st:=ok.st hd hn;have Es:yw (az a.rn.l):=u0 ok.rn;have hb:=X6 st;have rK:=st.n;have hlen:=st.len;have Cy:(ar d a).pl=az a.rn.l:=rfl;have e1:(ar d a).a=a:=rfl;have WW:(ar d a).d=d:=rfl;rw[Cy]at hb hlen;rw[WW]at hb rK;unfold lJ at yB;rw[if_neg h1]at yB;obtain⟨_,hl,hu⟩:=yB;have hu:=Yu.1 (hu.resolve_left h2);have qG:=sK (ar d a) C dt;rw[e1,if_neg h1]at qG;have hpp:(aQ (ar d a) C dt).length=(az a.rn.l).length:=by rw[qG];omega
 have cb:∀i,jz (aQ (ar d a) C dt) i=true↔i<(az a.rn.l).length:=λi=>by
  rw[Pb (by rw[e1];exact h1),<-hpp,qG];exact⟨λg=>g.1,λg=>⟨g,λh=>absurd h h2⟩⟩
 have sQ:∀i,i<(az a.rn.l).length->(az a.rn.l)[i]?=some (nD (aQ (ar d a) C dt) (az a.rn.l) i)/\nD (aQ (ar d a) C dt) (az a.rn.l) i≠ -1:=λi hi=>by
  have hx:(az a.rn.l)[i]?=some (az a.rn.l)[i]:=zah hi;unfold nD;rw[if_pos ((cb i).2 hi),hx,zbA];exact⟨rfl,hu _ (zag hx)⟩
 have fq:∀i,G8 (aQ (ar d a) C dt) (az a.rn.l) i=false:=λi=>by
  unfold G8;cases h:jz (aQ (ar d a) C dt) i with
  |false=>rfl
  |true=>simp[(sQ i ((cb i).1 h)).2]
 have hmi:lT (aQ (ar d a) C dt) (az a.rn.l)=0:=by
  unfold lT;rw[YH];exact Bn λi _=>fq i
 have hL:Cz (ar d a) C dt=az a.rn.l:=by
  unfold Cz;refine zba λi=>?_
  by_cases hi:i<(az a.rn.l).length
  ·rw[bO ab];unfold Be CQ;rw[Cy,fq i,if_neg ao];exact(sQ i hi).1.symm
  ·rw[zaK kD,zaK ab]
 have HH:=XP (l:=a.rn.l) λr hr=>by
  have:=(bZ ok.rn).2.2.2 r hr;unfold jZ at this;split at this<;>omega
 have iG:=(bZ ok.rn).1;have hv:=UH.vb;have IF:gu (Gv (ar d a) C v dt)=0:=by
  refine al_ s1 s2 UH.len hv (λx hx=>?_) (by rw[hL];exact Es) (by rw[hL];exact hlen) (by rw[hL];omega);rw[hL]at hx;have:=hb x hx;omega
 unfold Md;rw[if_neg,if_neg]
 ·rw[hL];rintro(g|g)
  ·omega
  ·exact g IF
 ·unfold w_;rw[Cy,if_pos hmi];exact λh=>h rfl
def zrL(a:At)(p n:Int):List Bool:=(List.range (((cf a).toNat+255)/256)).map λi=>QT a 0 0 i&&!(decide (p<=(i:Int)*256)&&decide (min (((i:Int)+1)*256) (cf a)<=p+n))
structure ZrL(d:Dk)(a:At)(p n:Int):Prop where
 ok:jm d a p n=0->rL d (jU d a p n) a (js d a p n) (PY (aV (ar d a)) p n) (cG a) a.rs/\
  (a.rs=false->a.fl/2%2=1->(az (js d a p n).rn.l).map (λx=>decide (x≠ -1))=zrL a p n)
 er:jm d a p n≠0->(a.rs=false/\(a.fl%2=1\/a.fl/2%2=1))/\jU d a p n=zD/\js d a p n=zA/\Ny d a (jm d a p n) (Ns a (cf a) (nJ a 0 0 (cf a)))
def aCh{d:Dk}{a:At}{p n:Int}(h0:aK d a=0)(hd:wU d)(hn:a.nm.length<=1000000)(hp:0<=p/\p<=32768)(Cw:0<=n/\n<=32768):ZrL d a p n:=by
 have hc:=qo h0;obtain⟨ok,oo⟩:=bc h0;obtain⟨s1,_⟩:=lE ok.str;have xu:=AD s1;obtain⟨f1,f2,f3,f4⟩:=ay1 (d:=d) (a:=a) hp.1 Cw.1;have Gy:KF d a p n=0:=by unfold KF iU;rw[if_neg (λe=>e h0),if_neg (λe=>e ab)]
 have hE:jm d a p n=if a.rs=true then 0 else Md (ar d a) (QC d a p n) a.vd (ju d a p n):=by unfold jm;rw[Gy,if_neg z0]
 have hD:jU d a p n=if a.rs=true then d else if Md (ar d a) (QC d a p n) a.vd (ju d a p n)=0 then XY (ar d a) (QC d a p n) (ju d a p n)else zD:=by unfold jU;rw[Gy,if_neg z0]
 have hA:js d a p n=if a.rs=true then Hx a (QC d a p n)else if Md (ar d a) (QC d a p n) a.vd (ju d a p n)=0 then Gv (ar d a) (QC d a p n) a.vd (ju d a p n)else zA:=by unfold js;rw[Gy,if_neg z0]
 have hlen:(QC d a p n).length=(aV (ar d a)).length:=Xa ⟨f1,f2⟩;have mD:=xV hc;have hN:QC d a p n=PY (aV (ar d a)) p n:=(aAy hp.1 Cw.1).symm;have qY:=aah h0;cases c_:a.rs with
 |true=>
  rw[c_,if_pos rfl]at hE hD hA;refine⟨λ_=>⟨?_,λh=>by rw[c_]at h;cases h⟩,λhe=>absurd hE he⟩;rw[hD,hA,<-hN,c_];refine aeo h0 c_ (.inr ⟨c_,?_⟩);have h5:cf a=a.vl.length:=by unfold cf;rw[c_];rfl
  omega
 |false=>
  rw[c_,if_neg ao]at hE hD hA;have Ja:=(xu.ot c_).2.1;have UH:=aFf (d:=d) (a:=a) hc c_ hp.1 Cw.1 Ja;have PE:ahC (ar d a) (ju d a p n):=aFj f3 f4;have hv:cG a=a.vd:=by unfold cG;rw[c_];rfl
  have hS:((QC d a p n).length:Int)=cf a:=ab;refine⟨λhe=>?_,λhe=>?_⟩
  ·rw[hE]at he;rw[if_pos he]at hD hA;rw[hD,hA,<-hN,hv,c_];refine⟨aiI h0 hd hn UH he,λ_ hs=>?_⟩;have h5:=Y7 h0 hd hn UH he (qY hs) hs (f:=λi=>QT a 0 0 i&&!(decide (p<=(i:Int)*256)&&decide (min (((i:Int)+1)*256) (cf a)<=p+n))) λi hi=>by
    rw[zaU,afJ h0,zbs,zdS,decide_eq_false_iff_not,decide_eq_false_iff_not];unfold ju yN Yk Cj;have e:(ar d a).a.vl=a.vl:=rfl;rw[e,Ja];have e2:¬kG 0 (([]:List UInt8).length:Nat) i:=by unfold kG;simp only[zaY];omega
    have hsi:256*(i:Int)<cf a:=ab;unfold dz dX;unfold dz;constructor
    ·rintro⟨g1|g1,g2⟩
     ·refine⟨g1,?_⟩;omega
     ·exact absurd g1 e2
    ·rintro⟨g1,g2⟩;refine⟨.inl g1,?_⟩;omega
   rw[h5];unfold zrL;rw[show((QC d a p n).length+255)/256=((cf a).toNat+255)/256 by omega]
  ·rw[hE]at he;rw[if_neg he]at hD hA;rw[hD,hA,hE];have hk:=akW (d:=d) (a:=a) (C:=QC d a p n) (dt:=ju d a p n) (l:=nJ a 0 0 ((QC d a p n).length:Nat)) λg1 g2=>⟨_,Rr _ _ _ _,λi _ h=>(afJ h0 i).2 (.inl h.1)⟩
   rw[hS]at hk;refine⟨⟨c_,?_⟩,rfl,rfl,atg h0 hd hn UH PE he hk⟩;refine Classical.byContradiction λqG=>?_
   have HO:cf a=a.sz:=by unfold cf;rw[c_];rfl
   exact he (ax9 h0 hd hn c_ (λh=>qG (.inl h)) (λh=>qG (.inr h)) UH ab)
structure FrL(d:Dk)(a:At):Prop where
 e:frE d a=0
 snd:rL d (NA d a) a (l6 d a) [] 0 true
 fre:(NA d a).n=d.n/\oF (NA d a).mp d.n+bt (az a.rn.l)=oF d.mp d.n
def aBU{d:Dk}{a:At}(h0:aK d a=0)(hd:wU d)(hn:a.nm.length<=1000000):FrL d a:=by
 obtain⟨ok,oo⟩:=bc h0;have st:=ok.st hd hn;have Es:yw (az a.rn.l):=u0 ok.rn;have hb:=X6 st;have rK:=st.n;have Cy:(ar d a).pl=az a.rn.l:=rfl;have WW:(ar d a).d=d:=rfl;rw[Cy]at hb;rw[WW]at hb rK;obtain⟨d1,d2,d3⟩:=rX ok.dk;have x3:¬aK d a≠0:=λe=>e h0
 have Vv:=DF (l:=cQ (gP d (az a.rn.l)) d.n) kD;rw[ck]at Vv;have hD:NA d a=⟨d.a_,mG (cQ (gP d (az a.rn.l)) d.n)⟩:=by unfold NA;rw[if_neg x3]
 have hA:l6 d a=Hx a []:=by unfold l6;rw[if_neg x3]
 have lO:gm (NA d a)=0:=by
  rw[hD];have e:(⟨d.a_,mG (cQ (gP d (az a.rn.l)) d.n)⟩:Dk).n=d.n:=rfl;unfold gm;rw[e];show(if d.a_.length%256≠0 then(10:Int)else if 512<d.n then 2 else nu (mG (cQ (gP d (az a.rn.l)) d.n)) d.n)=0;rw[Vv.1,if_neg ab,if_neg ab]
 have pD:∀c,c<d.n->bH (NA d a).mp c=mS (gP d (az a.rn.l) c):=λc hc=>by
  rw[hD];show bH (mG _) c=_;rw[Vv.2,if_pos hc,bO hc,zbA]
 refine⟨h0,⟨by rw[hA];exact aiu h0 lO (.inl aj),⟨⟨by rw[hD],lO⟩,λc hc=>?_⟩,EX,EX,(by rw[hA];intro h;cases h),EX,EX,EX,EX⟩,by rw[hD];rfl,?_⟩
 ·have e:tV (az (l6 d a).rn.l)=[]:=by rw[hA];rfl
  rw[e];unfold E0;have hf:gP d (az a.rn.l) c=true↔bH d.mp c=1/\(c:Int)∉az a.rn.l:=by
   unfold gP df;simp
  have Gn:=mK d.mp c;refine⟨λ⟨g1,_⟩=>⟨?_,by rw[hD]⟩,λ⟨g1,_⟩=>?_,λh=>absurd h aj,λh=>absurd h.1 aj⟩
  ·rw[pD c hc];rw[Dl]at g1;cases h:gP d (az a.rn.l) c with
   |true=>rw[(hf.1 h).1];rfl
   |false=>
    have:¬bH d.mp c=1:=λg=>by rw[hf.2 ⟨g,g1⟩]at h;cases h
    have h5:mS false=0:=rfl;omega
  ·rw[pD c hc];rw[Dl]at g1;cases h:gP d (az a.rn.l) c with
   |true=>exact absurd g1 (hf.1 h).2
   |false=>rfl
 ·have h1:=Mt (n:=d.n) Es λx hx=>by have:=hb x hx;omega
  have h2:=Ed (p:=gP d (az a.rn.l)) (q:=λc=>decide ((c:Int)∈az a.rn.l)) (n:=d.n) λc _=>by
   unfold gP;simp only[zaU,zbs,decide_eq_false_iff_not,decide_eq_true_eq];exact λg=>g.1.2 g.2
  have h3:gy (df d) d.n=gy (λc=>gP d (az a.rn.l) c||decide ((c:Int)∈az a.rn.l)) d.n:=jq λc _=>by
   unfold gP;by_cases g:(c:Int)∈az a.rn.l
   ·have:=QX h0 g;have hb:df d c=true:=by unfold df;rw[this];rfl
    simp[g,hb]
   ·simp[g]
  have h4:oF (NA d a).mp d.n=gy (gP d (az a.rn.l)) d.n:=by
   rw[vp];refine jq λc hc=>?_
   rw[pD c hc];cases gP d (az a.rn.l) c<;>simp[mS]
  have h5:gy (df d) d.n=oF d.mp d.n:=(vp d.mp d.n).symm;omega
def CM(ps:List PV)(x:PV):Prop:=ps=[]/\x=pB true
def kU(d:Dk)(a:At):aK d (aB a)=aK d a:=FB
def Hm(d:Dk)(a:At):aV (ar d (aB a))=aV (ar d a):=FB
def xT{d e:Dk}{a b:At}{C:List UInt8}{v:Int}{rs:Bool}(h:rL d e a b C v rs)(hd:wU d):fH e/\wU e/\e.mp.length<=100/\dU b.rn.l=0/\b.rn.l.length<=1000000:=by
 have ok:=(bc h.op).1;obtain⟨b1,b2,b3,b4,_⟩:=iR ok.bm;have:=ok.nb;have hl:=h.su.1.1;have h1:=hd.1;have XJ:e.mp.length<=100:=by unfold sx at b4;omega
 have:=(bZ ok.rn).1;exact⟨⟨ab,ab⟩,⟨ab,ab⟩,XJ,ok.rn,ab⟩
def auD{y:PV}(h:∃zs,y=.agg zs/\ou [.int .i64,.str,.int .i64,.int .i64,.bool,.str,.int .i64,.sl true [.int .i64,.int .i64],.int .i64,.int .i64,.int .i64] zs):∃a:At,y=a.pv:=by
 obtain⟨zs,rfl,h⟩:=h;simp only[ou,O1]at h;obtain⟨_,_,rfl,⟨ty,rfl,_⟩,_,_,rfl,⟨nm,rfl,_⟩,_,_,rfl,⟨id,rfl,_⟩,_,_,rfl,⟨fl,rfl,_⟩,_,_,rfl,⟨rs,rfl⟩,_,_,rfl,⟨vl,rfl,_⟩,_,_,rfl,⟨ft,rfl,_⟩,_,_,rfl,⟨aC,rfl,_,he⟩,_,_,rfl,⟨al,rfl,_⟩,_,_,rfl,⟨sz,rfl,_⟩,_,_,rfl,⟨vd,rfl,_⟩,rfl⟩:=h;obtain⟨l,rfl,_⟩:=awZ (g:=Rn.pv) (q:=λ_=>True) λz hz=>by
  obtain⟨zs,rfl,y,ys,rfl,⟨a,rfl,_⟩,y2,ys2,rfl,⟨b,rfl,_⟩,rfl⟩:=(he z hz).1 trivial;exact⟨⟨a,b⟩,rfl,trivial⟩
 exact⟨⟨ty,nm,id,fl,rs,vl,ft,.sl l,al,sz,vd⟩,rfl⟩
abbrev vt:Bool×List CT:=(true,[.str,.str])
def anL(p:Nat->Bool):∀n,2*gy (Xp p) n<=n+(if 0<n/\p (n-1)=true then 1 else 0)
 |0=>by simp[gy]
 |n+1=>by
  have ih:=anL p n;rw[cJ,zch];unfold Xp at ih ⊢;by_cases hp:p n=true
  ·rw[if_pos (show 0<n+1/\p n=true from⟨ab,hp⟩),hp];by_cases h0:n=0
   ·subst h0;simp[gy]
   ·cases hq:p (n-1)with
    |true=>
     rw[hq,if_pos ⟨ab,rfl⟩]at ih;simp[h0];omega
    |false=>
     rw[hq,if_neg aj]at ih;simp;omega
  ·have hp:p n=false:=by simpa using hp
   rw[hp,if_neg aj];have:(if 0<n/\p (n-1)=true then 1 else 0)<=1:=Bt;simp;omega
def arN(s:List UInt8)(n:Nat):(nG s n).length<=(n+1)/2:=by
 rw[afh];have:=anL (jf s 0) n;have h2:(if 0<n/\jf s 0 (n-1)=true then 1 else 0)<=1:=Bt;omega
def aAg(l:List Int):(nS l).length<=l.length:=by
 have:∀n,n<=l.length->(nS (l.take n)).length<=n:=by
  intro n
  induction n with
  |zero=>intro _;simp[nS]
  |succ n ih=>
   intro hn;rw[Fh (zah (show n<l.length by omega))];have:=abJ (nS (l.take n)) l[n];have:=ih ab;omega
 have:=this l.length (zai _);rwa[zc7]at this
def ajE{d:Dk}{a:At}{C:List UInt8}{v:Int}{dt:Nat->Prop}(h0:aK d a=0)(hd:wU d)(hn:a.nm.length<=1000000)(hc:GZ (ar d a) C v dt)(h1:d.n<=120)(h2:(aQ (ar d a) C dt).length<=64):cg (ar d a) C v dt≠8:=by
 obtain⟨ok,_⟩:=bc h0;have st:=ok.st hd hn;have Es:yw (az a.rn.l):=u0 ok.rn;obtain⟨s1,s2,s3,s4,s5⟩:=lE ok.str;have WW:(ar d a).d=d:=rfl;have av2:=abK h0 hd hn (ps:=aQ (ar d a) C dt) ab;have hx:=arN (mG (cQ (sq (aQ (ar d a) C dt) (az a.rn.l) (df d)) d.n)) d.n;unfold cg;split
 ·decide
 unfold Md;split
 ·rename_i g;rcases av2 g with h|h
  ·rw[show(ar d a).pl=az a.rn.l from rfl,WW,h.1];decide
  ·omega
 rename_i g;have g:=zc3.1 g;have bJ:(Cz (ar d a) C dt).length=(aQ (ar d a) C dt).length:=ck;have HH:=aAg (Cz (ar d a) C dt);have pl:=atl st Es (ps:=aQ (ar d a) C dt) ab g;have tT:∀i,jz (aQ (ar d a) C dt) i=false->Be (ar d a) C dt i= -1:=pl.no;have IF:gu (Gv (ar d a) C v dt)=0:=by
  refine al_ s1 s2 hc.len hc.vb (λx hx=>?_) ?_ ab ab
  ·obtain⟨i,hi,rfl⟩:=zaX.1 hx;cases h:jz (aQ (ar d a) C dt) i with
   |false=>exact .inl (tT i h)
   |true=>
    have:=pl.yes i (wD h) h;right;unfold Be;rw[WW]at this;rw[WW];omega
  ·refine Xt λi j x hi hj hxx=>?_
   have iX:i<(aQ (ar d a) C dt).length:=aaX;have HQ:j<(aQ (ar d a) C dt).length:=by have:=(zaa.1 hj).1;omega
   unfold Cz at hi hj;rw[bO iX]at hi;rw[bO HQ]at hj;have hi:=Option.some.inj hi;have hj:=Option.some.inj hj;refine pl.inj i j iX HQ ?_ (by show Be (ar d a) C dt i=Be (ar d a) C dt j;omega);cases h:jz (aQ (ar d a) C dt) i with
   |true=>rfl
   |false=>have:=tT i h;omega
 rw[if_neg]
 ·decide
 ·rintro(h|h)
  ·omega
  ·exact h IF
def asl{d:Dk}{a:At}{p:Int}{aa:List UInt8}(h0:aK d a=0)(hd:wU d)(hn:a.nm.length<=1000000)(hp:0<=p)(hl:p+aa.length<=16384)(hs:cf a<=16384)(cb:aa≠[])(hf:¬a.fl%2=1)(h1:d.n<=120)
 (hr:Ns a (max (cf a) (p+aa.length)) (nJ a p (p+aa.length) (max (cf a) (p+aa.length)))<=(d.n:Int)-oF d.mp d.n):AO d a p aa=0:=by
 refine Classical.byContradiction λhe=>?_
 have hc:=qo h0;have UH:=aoc hc hp (show p+aa.length<=32768 by omega);have hw:=(Uz h0 hd hn hp ab cb).er he;have Gy:yE d a p aa=0:=ZF;have hE:AO d a p aa=cg (ar d a) (bW (aV (ar d a)) p.toNat aa) (max (cG a) (p+aa.length)) (b8 (ar d a) p (p+aa.length)):=by unfold AO;rw[Gy,if_neg z0,if_neg cb]
 have mD:=xV hc;have qG:=sK (ar d a) (bW (aV (ar d a)) p.toNat aa) (b8 (ar d a) p (p+aa.length));rw[show(ar d a).a=a from rfl,if_neg hf,xx]at qG;have h8:=ajE h0 hd hn UH h1 ab;rw[<-hE]at h8;rcases hw.2.2.2 with h|h
 ·exact h8 h.1
 ·omega
def aGj{d:Dk}{a:At}{n:Int}(h0:aK d a=0)(hd:wU d)(hn:a.nm.length<=1000000)(hp:0<=n/\n<=16384)(hf:¬a.fl%2=1)(h1:d.n<=120)
 (hr:Ns a n (nJ a 0 0 n)<=(d.n:Int)-oF d.mp d.n):Jb d a n=0:=by
 refine Classical.byContradiction λhe=>?_
 have hc:=qo h0;have UH:=anp hc (show 0<=n/\n<=32768 by omega);have hw:=(af3 h0 hd hn ab).er he;have Gy:D8 d a n=0:=Z9;have hE:Jb d a n=cg (ar d a) (M9 (aV (ar d a)) n.toNat) (min (cG a) n) (Yk (ar d a)):=by unfold Jb;rw[Gy,if_neg z0]
 have qG:=sK (ar d a) (M9 (aV (ar d a)) n.toNat) (Yk (ar d a));rw[show(ar d a).a=a from rfl,if_neg hf,Ag]at qG;have h8:=ajE h0 hd hn UH h1 ab;rw[<-hE]at h8;rcases hw.2.2.2 with h|h
 ·exact h8 h.1
 ·omega
def an0{d e:Dk}{a b:At}(ho:adv d e a b)(hb:aK e b=0):oF e.mp d.n<=oF d.mp d.n+bt (az b.rn.l):=by
 obtain⟨ok,_⟩:=bc hb;have Es:yw (az b.rn.l):=u0 ok.rn;have hn:e.n=d.n:=by unfold Dk.n;rw[ho.1.1]
 have hm:=Mt (n:=d.n) Es λx hx=>by
  rcases ok.pl x hx with h|h
  ·exact .inl h
  ·right;unfold Dk.n at hn ⊢;omega
 rw[vp,vp,<-hm];refine zay (sk (q:=λc=>decide (bH d.mp c=1)||decide ((c:Int)∈az b.rn.l)) λc hc h=>?_) tK;have h:=of_decide_eq_true h;rw[zbE,decide_eq_true_eq,decide_eq_true_eq];have:=ho.2 c hc;unfold E0 at this;rw[Dl,Dl]at this;by_cases g:(c:Int)∈az b.rn.l
 ·exact .inr g
 ·left;by_cases g2:(c:Int)∈az a.rn.l
  ·have:=this.2.1 ⟨g2,g⟩;omega
  ·have:=(this.1 ⟨g2,g⟩).1;omega
def OC{d:Dk}{a:At}(h0:aK d a=0)(c_:a.rs=false)(hf:¬a.fl%2=1):((az a.rn.l).length:Int)=(a.sz+255)/256/\a.al=bt (az a.rn.l)*256/\(¬a.fl/2%2=1->bt (az a.rn.l)=(az a.rn.l).length)/\bI a.rn.l=(az a.rn.l).length:=by
 obtain⟨ok,oo⟩:=bc h0;obtain⟨_,yB,_⟩:=oo c_;unfold lJ at yB;rw[if_neg hf]at yB;have hs:=xA (l:=a.rn.l) λr hr=>by have:=rG ((bZ ok.rn).2.2.2 r hr);omega
 exact⟨yB.2.1,yB.1,λh=>yB.2.2.resolve_left h,hs.symm⟩
def anc{d:Dk}{a:At}(h0:aK d a=0):yP a.rn.l:=by
 have h:=bZ (bc h0).1.rn;exact agj ab h.2.1
section
def S6(C:List UInt8)(p:Nat):yr C p []=C:=by unfold yr;rw[if_pos rfl]
def atK{d e:Dk}{b:At}(h:aK e b=0)(hl:d.a_.length=e.a_.length)(hd:wU d):wU e:=by
 have ok:=(bc h).1;obtain⟨b1,b2,b3,b4,_⟩:=iR ok.bm;have:=ok.nb;have h1:=hd.1;exact⟨ab,by unfold sx at b4;omega⟩
section
variable {d e:Dk} {a:At} {C:List UInt8} {v:Int} {dt:Nat->Prop}
end
end
structure acV(d e:Dk)(a:At):Prop where
 len:e.a_.length=d.a_.length
 dk:gm e=0
 bit:∀c:Nat,(c:Int)∈az a.rn.l->bH e.mp c=1
 cl:∀c:Nat,(c:Int)∈az a.rn.l->eU e.a_ c=eU d.a_ c
def PS{d e:Dk}{a:At}(h:acV d e a)(h0:aK d a=0):aK e a=0/\aV (ar e a)=aV (ar d a):=by
 obtain⟨ok,oo⟩:=bc h0;have hn:e.n=d.n:=by unfold Dk.n;rw[h.len]
 have mE:∀x∈az a.rn.l,x≠ -1->eU e.a_ x.toNat=eU d.a_ x.toNat:=λx hx h1=>by
  have hb:=(ok.pl x hx).resolve_left h1;exact h.cl _ (by rw[show((x.toNat:Nat):Int)=x by omega];exact hx)
 have sL:(az a.rn.l).map (tS e.a_)=(az a.rn.l).map (tS d.a_):=zbC λx hx=>by
  unfold tS;split
  ·rfl
  ·rename_i g;exact mE x hx g
 have aDV:rz e.a_ (az a.rn.l)=rz d.a_ (az a.rn.l):=by
  unfold rz;refine Mr λx hx=>?_
  split
  ·rfl
  ·rename_i g;exact mE x hx g
 have fM:∀k,dF e.a_ (bq (az a.rn.l) k)=dF d.a_ (bq (az a.rn.l) k):=λk=>by
  unfold dF;rw[zdE,zdE,<-pZ,<-pZ,sL]
 have aDW:ow e.a_ (chunks (az a.rn.l))=ow d.a_ (chunks (az a.rn.l)):=by
  unfold ow chunks;rw[zdD,zdD];exact Mr λk _=>by rw[fM]
 have aDX:∀v,qw e.a_ v (chunks (az a.rn.l))=qw d.a_ v (chunks (az a.rn.l)):=λv=>by
  unfold qw TE;congr 1;refine zbC λk hk=>?_
  have hk:=zbm.1 hk;rw[om]at hk;rw[p_ _ FO,zbA];unfold xC;rw[fM]
 constructor
 ·by_cases c_:a.rs=true
  ·unfold aK;rw[h.dk,ok.str,if_neg aj,if_neg aj,if_pos c_]
  ·have c_:a.rs=false:=by simpa using c_
   obtain⟨o1,o2,o3⟩:=oo c_;have hp:pG e (az a.rn.l)=0:=by
    unfold pG;rw[hn,if_neg,if_neg]
    ·rintro⟨x,hx,h1,h2⟩;have hb:=(ok.pl x hx).resolve_left h1;have:=h.bit x.toNat (by rw[show((x.toNat:Nat):Int)=x by omega];exact hx);omega
    ·rintro⟨x,hx,h1⟩;rcases ok.pl x hx with h2|h2
     ·omega
     ·unfold Dk.n at h1;omega
   unfold aK;rw[h.dk,ok.str,if_neg aj,if_neg aj,if_neg qD,hp,if_neg aj];unfold iW;rw[if_pos o2,if_neg aj];split
   ·rename_i g;rw[aDX];exact o3 g
   ·rfl
 ·unfold aV;show(if a.rs=true then a.vl else nA a (if a.fl%2=1 then ow e.a_ (chunks (az a.rn.l))else rz e.a_ (az a.rn.l)))=(if a.rs=true then a.vl else nA a (if a.fl%2=1 then ow d.a_ (chunks (az a.rn.l))else rz d.a_ (az a.rn.l)))
  rw[aDW,aDV]
def apS(a b:At):Prop:=∀c:Nat,(c:Int)∈az a.rn.l->(c:Int)∉az b.rn.l
def beside{d e:Dk}{a b o:At}(h:adv d e a b)(h0:aK d o=0)(ha:apS o a):acV d e o/\apS o b:=by
 obtain⟨ok,_⟩:=bc h0;have hb:∀c:Nat,(c:Int)∈az o.rn.l->c<d.n/\bH d.mp c=1:=λc hc=>by
  refine⟨?_,QX h0 hc⟩;rcases ok.pl _ hc with h1|h1
  ·omega
  ·unfold Dk.n;omega
 have hk:∀c:Nat,(c:Int)∈az o.rn.l->(c:Int)∉az b.rn.l/\bH e.mp c=1/\eU e.a_ c=eU d.a_ c:=λc hc=>by
  obtain⟨h1,h2⟩:=hb c hc;have Cd:=ha c hc;have ho:=h.2 c h1;unfold E0 at ho;rw[Dl,Dl]at ho;have kr:(c:Int)∉az b.rn.l:=λg=>by have:=ho.2.2.2 ⟨g,Cd⟩;omega
  have:=ho.1 ⟨Cd,kr⟩;exact⟨kr,ab,this.2.symm⟩
 exact⟨⟨h.1.1.symm,h.1.2,λc hc=>(hk c hc).2.1,λc hc=>(hk c hc).2.2⟩,λc hc=>(hk c hc).1⟩
def Q1{d e:Dk}{a b:At}(ho:adv d e a b)(h0:aK d a=0)(h1:aK e b=0):oF e.mp d.n+bt (az a.rn.l)=oF d.mp d.n+bt (az b.rn.l):=by
 obtain⟨ok,_⟩:=bc h0;obtain⟨ok1,_⟩:=bc h1;have hn:e.n=d.n:=by unfold Dk.n;rw[ho.1.1]
 have ma:=Mt (n:=d.n) (u0 ok.rn) λx hx=>by
  rcases ok.pl x hx with h|h
  ·exact .inl h
  ·right;unfold Dk.n;omega
 have mb:=Mt (n:=d.n) (u0 ok1.rn) λx hx=>by
  rcases ok1.pl x hx with h|h
  ·exact .inl h
  ·right;unfold Dk.n at hn ⊢;omega
 have key:∀c,c<d.n->((bH e.mp c=1↔(c:Int)∈az b.rn.l\/(bH d.mp c=1/\(c:Int)∉az a.rn.l))∧¬((c:Int)∈az b.rn.l/\bH d.mp c=1/\(c:Int)∉az a.rn.l)):=λc hc=>by
  have:=ho.2 c hc;unfold E0 at this;rw[Dl,Dl]at this;obtain⟨t1,t2,t3,t4⟩:=this;by_cases g1:(c:Int)∈az a.rn.l<;>by_cases g2:(c:Int)∈az b.rn.l
  ·exact⟨⟨λ_=>.inl g2,λ_=>t3 g2⟩,λh=>h.2.2 g1⟩
  ·have:=t2 ⟨g1,g2⟩;exact⟨⟨λh=>ab,λh=>by rcases h with h|h;exact absurd h g2;exact absurd g1 h.2⟩,λh=>h.2.2 g1⟩
  ·have:=t4 ⟨g2,g1⟩;exact⟨⟨λ_=>.inl g2,λ_=>t3 g2⟩,λh=>ab⟩
  ·have:=t1 ⟨g1,g2⟩;exact⟨⟨λh=>.inr ⟨ab,g1⟩,λh=>by rcases h with h|h;exact absurd h g2;omega⟩,λh=>g2 h.1⟩
 have c1:=Ed (p:=λc=>decide ((c:Int)∈az b.rn.l)) (q:=λc=>decide (bH d.mp c=1)&&!decide ((c:Int)∈az a.rn.l)) (n:=d.n) λc hc=>by
  simp only[decide_eq_true_eq,zaU,zbs,decide_eq_false_iff_not];exact λh=>(key c hc).2 ⟨h.1,h.2.1,h.2.2⟩
 have c2:=Ed (p:=λc=>decide ((c:Int)∈az a.rn.l)) (q:=λc=>decide (bH d.mp c=1)&&!decide ((c:Int)∈az a.rn.l)) (n:=d.n) λc hc=>by
  simp only[decide_eq_true_eq,zaU,zbs,decide_eq_false_iff_not];exact λh=>h.2.2 h.1
 have e1:gy (λc=>decide (bH e.mp c=1)) d.n=gy (λc=>decide ((c:Int)∈az b.rn.l)||(decide (bH d.mp c=1)&&!decide ((c:Int)∈az a.rn.l))) d.n:=jq λc hc=>by
  rw[zaN,decide_eq_true_eq,(key c hc).1];simp
 have e2:gy (λc=>decide (bH d.mp c=1)) d.n=gy (λc=>decide ((c:Int)∈az a.rn.l)||(decide (bH d.mp c=1)&&!decide ((c:Int)∈az a.rn.l))) d.n:=jq λc hc=>by
  rw[zaN,decide_eq_true_eq,zbE,zaU,decide_eq_true_eq,decide_eq_true_eq,zbs,decide_eq_false_iff_not];by_cases g:(c:Int)∈az a.rn.l
  ·exact⟨λ_=>.inl g,λ_=>QX h0 g⟩
  ·exact⟨λh=>.inr ⟨h,g⟩,λh=>by rcases h with h|h;exact sF;exact h.1⟩
 rw[vp,vp];omega
def HA(s:List UInt8)(n c near:Int):Int:=if IZ s n c near≠0 then 0 else aww (Sw s n c near)
def Ml(s:List UInt8)(n c near:Int):Int:=if IZ s n c near≠0 then IZ s n c near else if (Sw s n c near).isSome then 0 else 16
def CY(ps:List PV)(r:RV):Prop:=∃(s:List UInt8) (n c near:Int),ps=[.str s,pI n,.agg [pI c,pI near]]/\s.length<=100000/\r=.tup [.pv (pI (HA s n c near)),.pv (pI (Ml s n c near))]
def Hf:MT (ay [(126,My),(127,ae0),(128,ah jw)]) vf (c8 true CY):=by
 rintro _ K ⟨_,⟨s,n,c,near,rfl,hs,rfl⟩,hK⟩;unfold HA Ml Sw at hK;by_cases he:IZ s n c near=0
 ·obtain⟨h0,h7,h8⟩:=axI he;obtain⟨h1,h2,h3,h4,h5⟩:=iR h0;simp only[he,ne_eq,not_true_eq_false,if_false]at hK
  (repeat'((conv=>whnf);(fail_if_success first|apply gRA|apply gRB|apply gRC);first|refine aw ab ?_|refine bT ?_|refine⟨_,⟨_,_,rfl,rfl⟩,?_⟩|refine⟨_,_,_,_,rfl,cU,?_⟩|fail))<;>try(conv=>whnf)
  generalize Ix near c (rh c (bh (jf s 0) n.toNat))=b at*;cases b<;>(refine⟨_,?_,?_,hK⟩<;>repeat'(first|exact rfl|exact trivial|exact bD _|exact dn _|exact cr|refine⟨?_,?_⟩))
 ·rw[if_pos he,if_pos he]at hK
  (repeat'((conv=>whnf);(fail_if_success first|apply gRA|apply gRB|apply gRC);first|refine au ab ?_|refine bT ?_|refine⟨_,_,_,_,rfl,cU,?_⟩|fail))<;>try(conv=>whnf)
  (refine⟨_,?_,?_,hK⟩<;>repeat'(first|exact rfl|exact trivial|exact bD _|exact dn _|exact cr|refine⟨?_,?_⟩))
def ajv{acc:List Rn}{r:Rn}(hs: -1<=r.s):∀k:Nat,(cQ (Tq r) (k+1)).foldl qV acc=y4 acc ⟨r.s,(k:Int)+1⟩
 |0=>by
  show qV acc (Tq r 0)=y4 acc ⟨r.s,((0:Nat):Int)+1⟩;have e:Tq r 0=r.s:=by
   unfold Tq;split
   ·rename_i h;exact h.symm
   ·simp
  rw[e,<-au6];rfl
 |k+1=>by
  rw[Lt,zdG,ajv hs k];simp only[zbg,zdX];unfold y4;cases hl:acc.getLast? with
  |none=>
   simp only;unfold qV;simp only[List.getLast?_singleton,List.dropLast_singleton,zaZ];rw[if_pos]
   ·show[(⟨r.s,(k:Int)+1+1⟩:Rn)]=[⟨r.s,((k+1:Nat):Int)+1⟩]
    congr 2
   ·unfold Tq;by_cases g:r.s= -1
    ·rw[if_pos g];exact .inl ⟨rfl,g⟩
    ·rw[if_neg g];right;omega
  |some q=>
   simp only;have hj:iy q ⟨r.s,(k:Int)+1⟩↔iy q ⟨r.s,((k+1:Nat):Int)+1⟩:=Iff.rfl;by_cases g:iy q ⟨r.s,(k:Int)+1⟩
   ·rw[if_pos g,if_pos (hj.1 g)];unfold qV;rw[zdT];simp only[zdU];unfold iy at g;simp only at g;rw[if_pos]
    ·congr 2;show(⟨q.s,q.n+((k:Int)+1)+1⟩:Rn)=⟨q.s,q.n+(((k+1:Nat):Int)+1)⟩
     congr 1;omega
    ·unfold Tq;by_cases g2:r.s= -1
     ·rw[if_pos g2];left;exact⟨rfl,g.1.2 g2⟩
     ·rw[if_neg g2];have:=g.2.resolve_left (λh=>g2 (g.1.1 h));have h3:q.s≠ -1:=λh=>g2 (g.1.1 h)
      right;omega
   ·rw[if_neg g,if_neg (λh=>g (hj.2 h))];unfold qV;rw[zdT];simp only[zdU];rw[if_pos]
    ·rfl
    ·unfold Tq;by_cases g2:r.s= -1
     ·rw[if_pos g2];exact .inl ⟨rfl,g2⟩
     ·rw[if_neg g2];right;omega
def atO{L:List Rn}(h:∀r∈L,1<=r.n/\ -1<=r.s):∀acc:List Rn,h_ acc L=(az L).foldl qV acc:=by
 induction L with
 |nil=>intro acc;rfl
 |cons r L ih=>
  intro acc;have hr:=h r aj;have e:az (r::L)=iV r++az L:=by simp[az]
  rw[e,zdG];show h_ (y4 acc r) L=_;rw[ih λq hq=>h q kF];congr 1;obtain⟨k,hk⟩:∃k:Nat,r.n.toNat=k+1:=⟨r.n.toNat-1,ab⟩
  rw[LC,hk,ajv hr.2];congr 1;show r=⟨r.s,(k:Int)+1⟩
  cases r;simp only at hk hr ⊢;congr 1;omega
def asS{α:Type}(f:Nat->α)(n c:Nat):(cQ f n).drop c=cQ (λi=>f (c+i)) (n-c):=by
 refine zba λi=>?_
 rw[zaB];by_cases h:c+i<n
 ·rw[bO h,bO ab]
 ·rw[zaK kD,zaK kD]
def arY{α:Type}(f:Nat->α)(n c:Nat):(cQ f n).take c=cQ f (min c n):=by
 refine zba λi=>?_
 by_cases h:i<min c n
 ·rw[zdj ab,bO ab,bO h]
 ·rw[zaK (by rw[zal,ck];omega),zaK kD]
def at2{r:Rn}{c t:Int}(hr:1<=r.n/\ -1<=r.s)(hc:0<=c)(ht:0<=t/\t<=r.n-c):az (if t=0 then[]else[⟨if r.s= -1 then-1 else r.s+c,t⟩])=((iV r).drop c.toNat).take t.toNat:=by
 by_cases h:t=0
 ·subst h;simp[az]
 ·rw[if_neg h,EN,LC,LC,asS,arY,show min t.toNat (r.n.toNat-c.toNat)=t.toNat by omega];show cQ (Tq ⟨if r.s= -1 then-1 else r.s+c,t⟩) t.toNat=_;congr 1;funext i;unfold Tq;by_cases g:r.s= -1
  ·simp only[if_pos g,if_true]
  ·simp only[if_neg g];rw[if_neg ab];omega
def anb{l:List Rn}(h:∀r∈l,1<=r.n/\ -1<=r.s):∀(out:List Rn) (f n:Int),0<=f->0<=n->az (l.foldl ee (out,f,n)).1=az out++((az l).drop f.toNat).take n.toNat:=by
 induction l with
 |nil=>intro out f n _ _;simp[az]
 |cons r l ih=>
  intro out f n hf hn;have hr:=h r aj;have hlen:(iV r).length=r.n.toNat:=EK r;have e:az (r::l)=iV r++az l:=by simp[az]
  have es:ee (out,f,n) r=(out++(if min n (r.n-min f r.n)=0 then[]else[⟨if r.s= -1 then-1 else r.s+min f r.n,min n (r.n-min f r.n)⟩]),f-min f r.n,n-min n (r.n-min f r.n)):=rfl;rw[zbg,e,es];rw[ih (λq hq=>h q kF) _ _ _ ab ab,Ff,at2 hr ab ab,List.drop_append,List.take_append,zax,hlen,zaj];congr 1;by_cases h1:f<=r.n
  ·rw[show min f r.n=f by omega];by_cases h2:n<=r.n-f
   ·rw[show min n (r.n-f)=n by omega,show(f-f).toNat=f.toNat-r.n.toNat by omega,show(n-n).toNat=n.toNat-(r.n.toNat-f.toNat) by omega]
   ·rw[show min n (r.n-f)=r.n-f by omega,show(f-f).toNat=f.toNat-r.n.toNat by omega,show(n-(r.n-f)).toNat=n.toNat-(r.n.toNat-f.toNat) by omega];congr 1;rw[za1 (by rw[zax,hlen];omega),za1 (by rw[zax,hlen];omega)]
  ·rw[show min f r.n=r.n by omega,show min n (r.n-r.n)=0 by omega,show(f-r.n).toNat=f.toNat-r.n.toNat by omega,show(n-0).toNat=n.toNat-(r.n.toNat-f.toNat) by omega];congr 1;rw[zcj (show(iV r).length<=f.toNat by omega)];simp
def Sz{pl:List Int}{p:Int}{tr:Rn}(hp:0<=p):∀{k:Nat},p+k<=pl.length→∀i:Nat,(C8 pl p tr k)[i]?=if p.toNat<=i/\i<p.toNat+k then some (tr.s+((i-p.toNat:Nat):Int))else pl[i]?
 |0,_,i=>by rw[if_neg ab];rfl
 |k+1,h,i=>by
  have ih:=Sz (pl:=pl) (tr:=tr) hp (k:=k) ab i;have hl:=Xy pl p tr k;show((C8 pl p tr k).set (p+k).toNat (tr.s+k))[i]?=_;rw[zaS,ih,hl];by_cases g:(p+(k:Int)).toNat=i
  ·rw[if_pos g,if_pos (show(p+(k:Int)).toNat<pl.length by omega),if_pos (show p.toNat<=i/\i<p.toNat+(k+1) by omega)];congr 1;omega
  ·rw[if_neg g];by_cases g2:p.toNat<=i/\i<p.toNat+k
   ·rw[if_pos g2,if_pos ab]
   ·rw[if_neg g2,if_neg ab]
def aAr{l:List Rn}{p:Int}{tr:Rn}(h:∀r∈l,1<=r.n/\ -1<=r.s)(hp:0<=p)(ht:1<=tr.n/\0<=tr.s)(hl:p+tr.n<=(az l).length):az (fO l p tr)=C8 (az l) p tr tr.n.toNat:=by
 have hs:=xA (l:=l) λr hr=>by have:=h r hr;omega
 unfold fO NB;rw[Ff,Ff,EN,anb h [] 0 p ab hp,anb h [] (p+tr.n) (bI l) ab ab];have e:az []=[]:=rfl;rw[e,zaZ,zaZ,show(0:Int).toNat=0 from rfl,zdn,za1 (l:=(az l).drop (p+tr.n).toNat) ef,LC];refine zba λi=>?_
 rw[Sz hp ab];have l1:((az l).take p.toNat).length=p.toNat:=eI;have l2:(cQ (Tq tr) tr.n.toNat).length=tr.n.toNat:=ck;by_cases h1:i<p.toNat
 ·rw[if_neg ab,zaq (by rw[zad];omega),zaq ab,zdj h1]
 ·by_cases h2:i<p.toNat+tr.n.toNat
  ·rw[if_pos ab,zaq (by rw[zad];omega),zak ab,l1,bO ab];unfold Tq;rw[if_neg ab]
  ·rw[if_neg ab,zak (by rw[zad];omega),zad,l1,l2,zaB];congr 1;omega
def aAs{l:List Rn}{p:Int}{tr:Rn}(h:∀r∈l,1<=r.n/\ -1<=r.s)(hp:0<=p)(ht:1<=tr.n/\0<=tr.s)(hl:p+tr.n<=(az l).length):h_ [] (fO l p tr)=nS (C8 (az l) p tr tr.n.toNat):=by
 have hW:∀r∈fO l p tr,1<=r.n/\ -1<=r.s:=λr hr=>by
  have part:∀(l:List Rn),(∀r∈l,1<=r.n/\ -1<=r.s)→∀(out:List Rn) (f n:Int),0<=f->0<=n->(∀r∈out,1<=r.n/\ -1<=r.s)→∀r∈(l.foldl ee (out,f,n)).1,1<=r.n/\ -1<=r.s:=by
   intro l
   induction l with
   |nil=>intro _ out f n _ _ ho r hr;exact ho r hr
   |cons q l ih=>
    intro hl out f n hf hn ho r hr;have hq:=hl q aj;have es:ee (out,f,n) q=(out++(if min n (q.n-min f q.n)=0 then[]else[⟨if q.s= -1 then-1 else q.s+min f q.n,min n (q.n-min f q.n)⟩]),f-min f q.n,n-min n (q.n-min f q.n)):=rfl;rw[zbg,es]at hr;refine ih (λx hx=>hl x iP) _ _ _ ab ab (λx hx=>?_) r hr;rcases zaA.1 hx with hx|hx
    ·exact ho x hx
    ·split at hx
     ·cases hx
     ·rw[zdg.1 hx];refine⟨by show 1<=min n (q.n-min f q.n);omega,?_⟩;show-1<=if q.s= -1 then-1 else q.s+min f q.n
      split<;>omega
  unfold fO at hr;rcases zaA.1 hr with hr|hr
  ·rcases zaA.1 hr with hr|hr
   ·exact part l h [] 0 p ab hp (λ_ h=>bV) r hr
   ·rw[zdg.1 hr];omega
  ·have hs:=xA (l:=l) λr hr=>by have:=h r hr;omega
   exact part l h [] (p+tr.n) (bI l) ab ab (λ_ h=>bV) r hr
 rw[atO hW,aAr h hp ht hl];rfl
def aE_{J:List Rn}(h:dU J=0):ny J=0:=by
 obtain⟨h1,h2,h3,h4⟩:=bZ h;have hd:BF J J.length:=by
  intro k hk r hr c hc hh;have hn:=(Fq (l:=J) (n:=k) (λj hj=>h2 j ab) (Jr hr (h2 k hk)))
  have xc:¬ ∃j,j<k∧∃q,J[j]?=some q/\pE q r:=by
   rintro⟨j,hj,q,hq,hs⟩;exact asW hr (h2 k hk) hj hq hs
  have:=zc3.1 (λaLE=>xc (hn.2 aLE));exact this c hc hh
 unfold ny;rw[if_neg (λg=>g hd),if_pos ⟨h3,h1⟩]
def azk{d:Dk}{a:At}{p:Int}{tr:Rn}(h0:aK d a=0):dJ d a p tr=fE d a p tr/\(SJ (ar d a) p tr=0->qx a p tr=Il a p tr):=by
 have ok:=(bc h0).1;have hr:∀r∈a.rn.l,1<=r.n/\ -1<=r.s:=λr hr=>by
  have:=(bZ ok.rn).2.2.2 r hr;unfold jZ at this;split at this<;>omega
 have hA:SJ (ar d a) p tr=0->qx a p tr=Il a p tr:=λh=>by
  have mo:=Up h;have hk:=mo.ok;unfold Pv at hk;have hl:=mo.len;unfold qx Il;rw[aAs hr hk.1 ⟨hk.2.2.1,hk.2.1.1⟩ hl]
 refine⟨?_,hA⟩;unfold dJ fE;rw[if_neg (λh=>h h0)];split
 ·rfl
 ·rename_i h;have h:=zc3.1 h;have hA:=hA h;have hJ:h_ [] (fO a.rn.l p tr)=nS (C8 (az a.rn.l) p tr tr.n.toNat):=by
   have:=congrArg (λx:At=>x.rn.l) hA;exact this
  have mo:=Up h;unfold nn;rw[hA,hJ];by_cases ha:gu (Il a p tr)=0
  ·have xu:=AD ha;have c_:(Il a p tr).rs=false:=mo.rs;have ji:dU (nS (C8 (az a.rn.l) p tr tr.n.toNat))=0:=(xu.ot c_).2.2.2.1;have iG:=(bZ ji).1;rw[aE_ ji,if_neg (λh=>h rfl),if_neg (λh=>h ha),if_neg];rintro(g|g)
   ·omega
   ·exact g ha
  ·rw[if_pos (show 64<(nS (C8 (az a.rn.l) p tr tr.n.toNat)).length\/gu (Il a p tr)≠0 from .inr ha)];split<;>rfl
def aut{f:Nat->Bool}{a b n:Nat}(ha:f a=false)(hb:f b=true)(han:a<n)(hbn:b<n):gy (λc=>if c=a then true else if c=b then false else f c) n=gy f n:=by
 have h1:=Ed (p:=λc=>f c&&!decide (c=b)) (q:=λc=>decide (c=b)) (n:=n) λc _=>by
  rintro⟨g1,g2⟩;simp only[zaU,zbs,decide_eq_false_iff_not,decide_eq_true_eq]at g1 g2;exact g1.2 g2
 have h2:=Ed (p:=λc=>f c&&!decide (c=b)) (q:=λc=>decide (c=a)) (n:=n) λc _=>by
  rintro⟨g1,g2⟩;simp only[zaU,zbs,decide_eq_false_iff_not,decide_eq_true_eq]at g1 g2;rw[g2,ha]at g1;cases g1.1
 rw[xh,if_pos hbn]at h1;rw[xh,if_pos han]at h2;have e1:gy f n=gy (λc=>(f c&&!decide (c=b))||decide (c=b)) n:=jq λc _=>by
  by_cases g:c=b
  ·subst g;simp[hb]
  ·simp[g]
 have e2:gy (λc=>if c=a then true else if c=b then false else f c) n=gy (λc=>(f c&&!decide (c=b))||decide (c=a)) n:=jq λc _=>by
  by_cases g:c=a
  ·simp[g]
  ·by_cases g2:c=b
   ·simp[g,g2]
   ·simp[g,g2]
 omega
def Mf{l:List Int}:bt l=RF (l.map λx=>decide (x≠ -1)):=by
 unfold bt RF;rw[List.countP_map,List.countP_eq_length_filter];congr 1
def amB{c c':List Int}(h:c.map (λx=>decide (x≠ -1))=c'.map (λx=>decide (x≠ -1)))(hp:mh c):mh c':=by
 have hg:∀i:Nat,(c[i]?).map (λx=>decide (x≠ -1))=(c'[i]?).map (λx=>decide (x≠ -1)):=λi=>by
  rw[<-za9,<-za9,h]
 unfold mh at hp ⊢;rcases Az (p:=λy:Int=>y= -1) c' with⟨h1,_⟩|⟨i,x,h1,h2,h3,h4⟩
 ·left;rw[h1];decide
 ·right;rw[h1,zaC];have nt:=hg i;rw[h2]at nt;rcases Az (p:=λy:Int=>y= -1) c with⟨g1,g2⟩|⟨j,y,g1,g2,g3,g4⟩
  ·exfalso;cases hc:c[i]? with
   |none=>rw[hc]at nt;simp at nt
   |some z=>
    rw[hc]at nt;have:=g2 z (zag hc);simp only[zb4,Option.some.injEq]at nt;rw[h3]at nt;simp[this]at nt
  ·have zk:j=i:=by
    rcases zbJ i j with aU|he|aU
    ·exfalso;cases hc:c[i]? with
     |none=>rw[hc]at nt;simp at nt
     |some z=>
      rw[hc]at nt;have:=g4 i aU z hc;simp only[zb4,Option.some.injEq]at nt;rw[h3]at nt;simp[this]at nt
    ·exact he.symm
    ·exfalso;have Rt:=hg j;rw[g2]at Rt;cases hc:c'[j]? with
     |none=>rw[hc]at Rt;simp at Rt
     |some z=>
      rw[hc]at Rt;have:=h4 j aU z hc;simp only[zb4,Option.some.injEq]at Rt;rw[g3]at Rt;simp[this]at Rt
   subst zk;rw[g1,zaC]at hp;have hp:=hp.resolve_left ab;rw[Mf,zdN,<-h,<-zdN,<-Mf];exact hp
def alH{B B':List UInt8}{l l':List Int}(h:l'.map (tS B')=l.map (tS B))(k:Nat):dF B' (bq l' k)=dF B (bq l k):=by
 unfold dF;rw[zdE,zdE,<-pZ,<-pZ,h]
structure MvL(d:Dk)(a:At)(p:Int)(tr:Rn):Prop where
 D:jM d a p tr=Lz d a p tr
 A:jG d a p tr=Il a p tr
 op:aK (Lz d a p tr) (Il a p tr)=0
 fN:aV (ar (Lz d a p tr) (Il a p tr))=aV (ar d a)
 n:(Lz d a p tr).n=d.n
 gy:oF (Lz d a p tr).mp d.n=oF d.mp d.n
 su:adv d (Lz d a p tr) a (Il a p tr)
 len:(Lz d a p tr).a_.length=d.a_.length
def aBQ{d:Dk}{a:At}{p:Int}{tr:Rn}(h0:aK d a=0)(hd:wU d)(hn:a.nm.length<=1000000)(he:dJ d a p tr=0):MvL d a p tr:=by
 obtain⟨ok,oo⟩:=bc h0;have st:=ok.st hd hn;have Es:yw (az a.rn.l):=u0 ok.rn;obtain⟨e1,e2⟩:=azk (p:=p) (tr:=tr) h0;have hx:fE d a p tr=0:=by rw[<-e1];exact he
 have hm:SJ (ar d a) p tr=0:=by
  unfold fE at hx;split at hx
  ·exact hx
  ·rename_i g;exact K6
 have IF:gu (Il a p tr)=0:=by
  unfold fE at hx;rw[if_neg (λh=>h hm)]at hx;split at hx
  ·cases hx
  ·rename_i g;exact zc3.1 λh=>g (.inr h)
 have e2:=e2 hm;have mo:=Up hm;have hk:=mo.ok;unfold Pv at hk;have WW:(ar d a).d=d:=rfl;have Cy:(ar d a).pl=az a.rn.l:=rfl;have hlen:=mo.len;have ab8:=mo.from_;have aoA:=mo.free;have c_:a.rs=false:=mo.rs;rw[WW]at hk aoA;rw[Cy]at hlen ab8;have hb:=X6 st;rw[Cy,WW]at hb;have rK:d.n<=512:=ok.nb;obtain⟨d1,d2,d3⟩:=rX ok.dk;obtain⟨s1,s2,s3,s4,s5⟩:=lE ok.str;obtain⟨aQC,yB,pd⟩:=oo c_;have eh:=λc hc=>QX (d:=d) (a:=a) h0 (c:=c) hc
 generalize hP:az a.rn.l=pl at*;obtain⟨T,hT⟩:∃T:Nat,tr.s=T:=⟨tr.s.toNat,ab⟩
 obtain⟨N,hN⟩:∃N:Nat,tr.n=N:=⟨tr.n.toNat,ab⟩
 obtain⟨q,hq⟩:∃q:Nat,p=q:=⟨p.toNat,ab⟩
 have rD:p.toNat=q:=ab;have hNn:tr.n.toNat=N:=ab;have hTN:T+N<=d.n:=ab;have hqN:q+N<=pl.length:=ab;rw[rD]at ab8;have pe:∀k,k<N→∃x:Nat,pl[q+k]?=some (x:Int)/\x<d.n/\df d x=true:=λk hkN=>by
  obtain⟨x,I_,vR⟩:=ab8 k ab;have h3:=hb x (zag I_);refine⟨x.toNat,by rw[I_];congr 1;omega,ab,?_⟩;have:=eh x.toNat (by rw[show((x.toNat:Nat):Int)=x by omega];exact zag I_);unfold df;rw[this];rfl
 have nj:∀c,T<=c->c<T+N->df d c=false:=λc h1 h2=>aoA c ab ab
 have fu:∀i j (x:Int),pl[i]?=some x->pl[j]?=some x->x≠ -1->i=j:=λi j x h1 h2 h3=>XD Es h1 h2 h3
 have lM:∀k,k<=N→∀c,ON (df d) pl p tr k c=true↔(T<=c/\c<T+k)\/(df d c=true∧¬ ∃j,j<k/\pl[q+j]?=some (c:Int)):=by
  intro k
  induction k with
  |zero=>
   intro _ c;show df d c=true↔_;exact⟨λh=>.inr ⟨h,by rintro⟨j,hj,_⟩;omega⟩,λh=>by rcases h with h|h;omega;exact h.1⟩
  |succ k ih=>
   intro SH c;have ih:=ih ab c;obtain⟨x,I_,vR,mV⟩:=pe k ab;show(if c=(tr.s+(k:Int)).toNat then true else if c=(pl[p.toNat+k]?.getD 0).toNat then false else ON (df d) pl p tr k c)=true↔_;rw[rD,I_,zbA,zaC,show(tr.s+(k:Int)).toNat=T+k by omega];by_cases g1:c=T+k
   ·rw[if_pos g1];exact⟨λ_=>.inl ab,λ_=>rfl⟩
   ·rw[if_neg g1];by_cases g2:c=x
    ·rw[if_pos g2];constructor
     ·intro h;cases h
     ·rintro(h|⟨_,h⟩)
      ·have:=nj c ab ab;rw[g2,mV]at this;cases this
      ·exact absurd ⟨k,ab,by rw[I_,g2]⟩ h
    ·rw[if_neg g2,ih];constructor
     ·rintro(h|⟨h1,h2⟩)
      ·exact .inl ab
      ·refine .inr ⟨h1,?_⟩;rintro⟨j,hj,Gx⟩;by_cases hjk:j=k
       ·subst hjk;rw[I_]at Gx;have:=Option.some.inj Gx;omega
       ·exact h2 ⟨j,ab,Gx⟩
     ·rintro(h|⟨h1,h2⟩)
      ·exact .inl ab
      ·exact .inr ⟨h1,λ⟨j,hj,Gx⟩=>h2 ⟨j,ab,Gx⟩⟩
 have Gn:=L9 d.mp d.n;have Vv:∀k,k<=N→∀c,c<d.n->((cX (sj d.mp d.n) pl p tr k)[c]?.getD 0).toNat=mS (ON (df d) pl p tr k c):=by
  intro k
  induction k with
  |zero=>
   intro _ c hc;show((sj d.mp d.n)[c]?.getD 0).toNat=mS (df d c);rw[ael hc,zbA,zaC];have:=mK d.mp c;unfold df mS;by_cases g:bH d.mp c=1
   ·rw[g];rfl
   ·rw[show bH d.mp c=0 by omega];rfl
  |succ k ih=>
   intro SH c hc;have ih:=ih ab c hc;obtain⟨x,I_,vR,mV⟩:=pe k ab;have cb:x≠T+k:=λh=>by
    have:=nj (T+k) ab ab;rw[<-h,mV]at this;cases this
   show((((cX (sj d.mp d.n) pl p tr k).set (tr.s+(k:Int)).toNat 1).set (pl[p.toNat+k]?.getD 0).toNat 0)[c]?.getD 0).toNat=mS (if c=(tr.s+(k:Int)).toNat then true else if c=(pl[p.toNat+k]?.getD 0).toNat then false else ON (df d) pl p tr k c);rw[rD,I_,zbA,zaC,show(tr.s+(k:Int)).toNat=T+k by omega,zaS,za0,RQ,Gn,zaS,RQ,Gn];by_cases g1:c=T+k
   ·subst g1;rw[if_neg ab,if_pos rfl,if_pos ab,if_pos rfl];rfl
   ·by_cases g2:c=x
    ·subst g2;rw[if_pos rfl,if_pos ab,if_neg g1,if_pos rfl];rfl
    ·rw[if_neg (λh=>g2 h.symm),if_neg (λh=>g1 h.symm),if_neg g1,if_neg g2];exact ih
 have av4:=DF (l:=cQ (ON (df d) pl p tr N) d.n) kD;rw[ck]at av4;have Rf:VA (λi=>((cX (sj d.mp d.n) pl p tr N)[i]?.getD 0).toNat) d.n=mG (cQ (ON (df d) pl p tr N) d.n):=by
  unfold mG;rw[ck];refine ak_ (λi=>?_) (λi=>Jj _) λi hi=>?_
  ·by_cases hi:i<d.n
   ·rw[Vv N (zai _) i hi];exact Jj _
   ·rw[zaK (by rw[RQ,Gn];omega)];simp
  ·rw[bO hi,zbA];exact Vv N (zai _) i hi
 have uS:Lz d a p tr=⟨J2 d.a_ pl p tr N,mG (cQ (ON (df d) pl p tr N) d.n)⟩:=by
  unfold Lz;rw[hP,hNn,Rf]
 have aLt:256*d.n<=d.a_.length:=so;have yh:∀k,k<=N->(J2 d.a_ pl p tr k).length=d.a_.length:=λk hkN=>Xk (λj hj=>by
  obtain⟨x,I_,vR,_⟩:=pe j ab;rw[rD,I_,zbA,zaC];exact⟨ab,ab,ab⟩) k ab
 have mE:∀k,k<=N→∀c,c<d.n->eU (J2 d.a_ pl p tr k) c=if T<=c/\c<T+k then eU d.a_ (pl[q+(c-T)]?.getD 0).toNat else eU d.a_ c:=by
  intro k
  induction k with
  |zero=>intro _ c _;rw[if_neg ab];rfl
  |succ k ih=>
   intro SH c hc;have ih:=ih ab c hc;obtain⟨x,I_,vR,mV⟩:=pe k ab;have hl:=yh k ab;show eU (MF (J2 d.a_ pl p tr k) (tr.s+(k:Int)).toNat (eU d.a_ (pl[p.toNat+k]?.getD 0).toNat)) c=_;rw[rD,I_,zbA,zaC,show(tr.s+(k:Int)).toNat=T+k by omega,ahQ ab (gI ab) ab,ih];by_cases g:c=T+k
   ·rw[if_pos g,if_pos ab,g,show T+k-T=k by omega,I_,zbA,zaC]
   ·rw[if_neg g];by_cases g2:T<=c/\c<T+k
    ·rw[if_pos g2,if_pos ab]
    ·rw[if_neg g2,if_neg ab]
 have aD1:=mE N (zai _);have aD2:az (Il a p tr).rn.l=C8 pl p tr N:=by
  show az (nS (C8 (az a.rn.l) p tr tr.n.toNat))=_;rw[hP,hNn];refine ZB λx hx=>?_
  obtain⟨i,hi⟩:=zaE.1 hx;rw[Sz ab ab]at hi;split at hi
  ·have:=Option.some.inj hi;omega
  ·have:=hb x (zag hi);omega
 have aD3:∀i,i<pl.length→∃x x':Int,pl[i]?=some x/\(C8 pl p tr N)[i]?=some x'/\((x= -1/\x'= -1)\/(x≠ -1/\(0<=x'/\x'<d.n)/\ON (df d) pl p tr N x'.toNat=true/\eU (J2 d.a_ pl p tr N) x'.toNat=eU d.a_ x.toNat)):=λi hi=>by
  have hg:=Sz (tr:=tr) (pl:=pl) (p:=p) ab (k:=N) ab i;rw[rD]at hg;by_cases g:q<=i/\i<q+N
  ·rw[if_pos g]at hg;obtain⟨x,I_,vR,mV⟩:=pe (i-q) ab;rw[show q+(i-q)=i by omega]at I_;refine⟨x,_,I_,hg,.inr ⟨ab,ab,(lM N (zai _) _).2 (.inl ab),?_⟩⟩;rw[aD1 _ ab,if_pos ab,show q+((tr.s+((i-q:Nat):Int)).toNat-T)=i by omega,I_,zbA]
  ·rw[if_neg g]at hg;have hx:pl[i]?=some pl[i]:=zah hi;rw[hx]at hg;have s9:=hb _ (zag hx);refine⟨_,_,hx,hg,?_⟩;by_cases h1:pl[i]= -1
   ·exact .inl ⟨h1,h1⟩
   ·have uq:df d pl[i].toNat=true:=by
     have:=eh pl[i].toNat (by rw[show((pl[i].toNat:Nat):Int)=pl[i] by omega];exact zag hx);unfold df;rw[this];rfl
    have hnt:¬(T<=pl[i].toNat/\pl[i].toNat<T+N):=λh=>by
     rw[nj _ h.1 h.2]at uq;cases uq
    refine .inr ⟨h1,ab,(lM N (zai _) _).2 (.inr ⟨uq,?_⟩),?_⟩
    ·rintro⟨j,hj,Gx⟩;rw[show((pl[i].toNat:Nat):Int)=pl[i] by omega]at Gx;have:=fu _ _ _ hx Gx h1;omega
    ·rw[aD1 _ ab,if_neg hnt]
 have AY:=Xy pl p tr N;have aD4:∀{β:Type} (f g:Int->β),f (-1)=g (-1)->(∀x x':Int,x≠ -1->0<=x'->eU (J2 d.a_ pl p tr N) x'.toNat=eU d.a_ x.toNat->f x'=g x)->(C8 pl p tr N).map f=pl.map g:=λf g h1 h2=>by
  refine zba λi=>?_
  rw[za9,za9];by_cases hi:i<pl.length
  ·obtain⟨x,x',g1,g2,g3⟩:=aD3 i hi;rw[g1,g2];simp only[zb4];congr 1;rcases g3 with⟨rfl,rfl⟩|⟨g3,g4,g5,g6⟩
   ·exact h1
   ·exact h2 x x' g3 g4.1 g6
  ·rw[zaK ab,zaK ab];rfl
 have mY:(C8 pl p tr N).map (λx=>decide (x≠ -1))=pl.map (λx=>decide (x≠ -1)):=aD4 _ _ rfl λx x' h1 h2 _=>by
  rw[zaN,decide_eq_true_eq,decide_eq_true_eq];exact⟨λ_=>h1,λ_=>ab⟩
 have sL:(C8 pl p tr N).map (tS (J2 d.a_ pl p tr N))=pl.map (tS d.a_):=aD4 _ _ rfl λx x' h1 h2 h3=>by
  unfold tS;rw[if_neg ab,if_neg h1,h3]
 have hm3:(C8 pl p tr N).map (λn=>if n= -1 then ai 256 else eU (J2 d.a_ pl p tr N) n.toNat)=pl.map (λn=>if n= -1 then ai 256 else eU d.a_ n.toNat):=aD4 _ _ rfl λx x' h1 h2 h3=>by
  rw[if_neg ab,if_neg h1,h3]
 have aDV:rz (J2 d.a_ pl p tr N) (C8 pl p tr N)=rz d.a_ pl:=by
  unfold rz;rw[zdE,zdE,hm3]
 have aHX:bt (C8 pl p tr N)=bt pl:=by rw[Mf,Mf,mY]
 have aHY:∀k,(bq (C8 pl p tr N) k).map (λx=>decide (x≠ -1))=(bq pl k).map (λx=>decide (x≠ -1)):=λk=>by rw[<-pZ,<-pZ,mY]
 have fM:=alH sL;have huc:∀k,bt (bq (C8 pl p tr N) k)=bt (bq pl k):=λk=>by rw[Mf,Mf,aHY]
 have aDW:ow (J2 d.a_ pl p tr N) (chunks (C8 pl p tr N))=ow d.a_ (chunks pl):=by
  unfold ow chunks;rw[zdD,zdD,AY];exact Mr λk _=>by rw[fM]
 have aDX:∀v,qw (J2 d.a_ pl p tr N) v (chunks (C8 pl p tr N))=qw d.a_ v (chunks pl):=λv=>by
  unfold qw;rw[om,om,AY];unfold TE;congr 1;refine zbC λk hk=>?_
  have hk:=zbm.1 hk;rw[p_ _ (by rw[AY];unfold eE;omega),p_ _ FO,zbA,zbA];unfold xC;rw[fM,huc]
 have hDn:(Lz d a p tr).n=d.n:=by
  rw[uS];show(J2 d.a_ pl p tr N).length/256=d.a_.length/256;rw[yh N (zai _)]
 have pD:∀c,c<d.n->bH (Lz d a p tr).mp c=mS (ON (df d) pl p tr N c):=λc hc=>by
  rw[uS];show bH (mG _) c=_;rw[av4.2,if_pos hc,bO hc,zbA]
 have lO:gm (Lz d a p tr)=0:=by
  unfold gm;rw[hDn];have e:(Lz d a p tr).a_.length=d.a_.length:=by rw[uS];exact yh N (zai _)
  rw[e,if_neg ab,if_neg ab,uS];exact av4.1
 have SF:∀c:Nat,(c:Int)∈C8 pl p tr N↔(T<=c/\c<T+N)\/((c:Int)∈pl∧¬ ∃j,j<N/\pl[q+j]?=some (c:Int)):=λc=>by
  have hg:=λi=>Sz (tr:=tr) (pl:=pl) (p:=p) ab (k:=N) ab i
  rw[rD]at hg;constructor
  ·intro h;obtain⟨i,hi⟩:=zaE.1 h;rw[hg i]at hi;split at hi
   ·have:=Option.some.inj hi;left;omega
   ·rename_i g;refine .inr ⟨zag hi,?_⟩;rintro⟨j,hj,Gx⟩;have:=fu _ _ _ hi Gx ab;omega
  ·rintro(h|⟨h1,h2⟩)
   ·refine zag (i:=q+(c-T)) ?_;rw[hg,if_pos ab];congr 1;omega
   ·obtain⟨i,hi⟩:=zaE.1 h1;refine zag (i:=i) ?_;rw[hg,if_neg,hi];intro g;exact h2 ⟨i-q,ab,by rw[show q+(i-q)=i by omega];exact hi⟩
 have aLG:jM d a p tr=Lz d a p tr:=by
  unfold jM;rw[if_neg (λh=>h he),uS,hP,hNn]
 have aLH:jG d a p tr=Il a p tr:=by
  unfold jG;rw[if_neg (λh=>h he),e2]
 refine⟨aLG,aLH,?_,?_,hDn,?_,⟨⟨by rw[uS];exact(yh N (zai _)).symm,lO⟩,λc hc=>?_⟩,by rw[uS];exact yh N (zai _)⟩
 ·have hsE:oT (Il a p tr)=0:=by
   unfold oT;rw[IF,if_neg aj,if_neg,if_neg,if_neg]
   ·show ¬32768<a.sz;omega
   ·show ¬a.ft≠0;omega
   ·show ¬(a.ty≠128\/4<=a.fl\/a.fl=3);omega
  have rH:pG (Lz d a p tr) (C8 pl p tr N)=0:=by
   unfold pG;rw[hDn,if_neg,if_neg]
   ·rintro⟨x,hx,h1,h2⟩;obtain⟨i,hi⟩:=zaE.1 hx;have iX:i<pl.length:=aaX;obtain⟨y,x',g1,g2,g3⟩:=aD3 i iX;rw[hi]at g2;have g2:=Option.some.inj g2;subst g2;rcases g3 with⟨_,g3⟩|⟨_,g4,g5,_⟩
    ·exact h1 g3
    ·rw[pD _ ab,g5]at h2;cases h2
   ·rintro⟨x,hx,h1⟩;obtain⟨i,hi⟩:=zaE.1 hx;have iX:i<pl.length:=aaX;obtain⟨y,x',g1,g2,g3⟩:=aD3 i iX;rw[hi]at g2;have g2:=Option.some.inj g2;subst g2;rcases g3 with⟨_,g3⟩|⟨_,g4,g5,_⟩<;>omega
  have aLI:lJ (Il a p tr) (C8 pl p tr N):=by
   have arb:=yB;unfold lJ at arb ⊢;rw[aHX,AY];show a.al=_/\if a.fl%2=1 then _/\_ else _
   refine⟨arb.1,?_⟩;have am2:=arb.2;by_cases hf:a.fl%2=1
   ·rw[if_pos hf]at am2 ⊢;refine⟨am2.1,λc hc=>?_⟩;unfold chunks at hc;obtain⟨k,SH,rfl⟩:=zaX.1 hc;rw[AY]at SH;exact amB (aHY k).symm (am2.2 _ (by unfold chunks;exact zaX.2 ⟨k,SH,rfl⟩))
   ·rw[if_neg hf]at am2 ⊢;exact am2
  unfold aK;rw[lO,hsE,if_neg aj,if_neg aj,if_neg (show ¬(Il a p tr).rs=true from λh=>by rw[show(Il a p tr).rs=a.rs from rfl,c_]at h;cases h),aD2,rH,if_neg aj];unfold iW;rw[if_pos aLI,if_neg aj];split
  ·rename_i g;rw[uS];show qw (J2 d.a_ pl p tr N) a.vd _=0;rw[aDX];exact pd g
  ·rfl
 ·unfold aV;rw[if_neg (show ¬(ar (Lz d a p tr) (Il a p tr)).a.rs=true from λh=>by rw[show(ar (Lz d a p tr) (Il a p tr)).a.rs=a.rs from rfl,c_]at h;cases h),if_neg (show ¬(ar d a).a.rs=true from λh=>ai8)];show nA a (if a.fl%2=1 then ow (Lz d a p tr).a_ (chunks (az (Il a p tr).rn.l))else rz (Lz d a p tr).a_ (az (Il a p tr).rn.l))=nA a (if a.fl%2=1 then ow d.a_ (chunks (az a.rn.l))else rz d.a_ (az a.rn.l));rw[aD2,hP,uS];show nA a (if a.fl%2=1 then ow (J2 d.a_ pl p tr N) _ else rz (J2 d.a_ pl p tr N) _)=_;rw[aDW,aDV]
 ·have hc:∀k,k<=N->gy (ON (df d) pl p tr k) d.n=gy (df d) d.n:=by
   intro k
   induction k with
   |zero=>intro _;rfl
   |succ k ih=>
    intro SH;obtain⟨x,I_,vR,mV⟩:=pe k ab;have hf:ON (df d) pl p tr (k+1)=λc=>if c=T+k then true else if c=x then false else ON (df d) pl p tr k c:=by
     funext c;show(if c=(tr.s+(k:Int)).toNat then true else if c=(pl[p.toNat+k]?.getD 0).toNat then false else ON (df d) pl p tr k c)=_;rw[rD,I_,zbA,zaC,show(tr.s+(k:Int)).toNat=T+k by omega]
    rw[hf,aut _ _ ab vR,ih ab]
    ·cases h:ON (df d) pl p tr k (T+k)with
     |false=>rfl
     |true=>
      rcases(lM k ab _).1 h with h|h
      ·omega
      ·rw[nj (T+k) ab ab]at h;cases h.1
    ·refine(lM k ab _).2 (.inr ⟨mV,?_⟩);rintro⟨j,hj,Gx⟩;have:=fu _ _ _ I_ Gx ab;omega
  rw[vp,vp];have e3:gy (λc=>decide (bH (Lz d a p tr).mp c=1)) d.n=gy (ON (df d) pl p tr N) d.n:=jq λc hc=>by
   rw[pD c hc];cases ON (df d) pl p tr N c<;>simp[mS]
  rw[e3,hc N (zai _)];rfl
 ·unfold E0;rw[Dl,Dl,aD2,hP,SF];have hmc:=lM N (zai _) c;have hbc:=pD c hc;have cq:df d c=true↔bH d.mp c=1:=by unfold df;simp
  have aHU:=mK d.mp c;have ht:mS true=1:=rfl;have hf:mS false=0:=rfl;refine⟨λ⟨g1,g2⟩=>⟨?_,?_⟩,λ⟨g1,g2⟩=>?_,λg=>?_,λ⟨g1,g2⟩=>?_⟩
  ·rw[hbc];have hnt:¬(T<=c/\c<T+N):=λh=>g2 (.inl h)
   by_cases CV:df d c=true
   ·rw[hmc.2 (.inr ⟨CV,λ⟨j,_,hj⟩=>g1 (zag hj)⟩),ht,cq.1 CV]
   ·have:ON (df d) pl p tr N c=false:=by
     cases h:ON (df d) pl p tr N c with
     |false=>rfl
     |true=>
      rcases hmc.1 h with h|h
      ·exact absurd h hnt
      ·exact absurd h.1 CV
    rw[this,hf];have:¬bH d.mp c=1:=λh=>CV (cq.2 h)
    omega
  ·rw[uS];show eU d.a_ c=eU (J2 d.a_ pl p tr N) c;rw[aD1 c hc,if_neg λh=>g2 (.inl h)]
  ·rw[hbc];have:ON (df d) pl p tr N c=false:=by
    cases h:ON (df d) pl p tr N c with
    |false=>rfl
    |true=>
     rcases hmc.1 h with h|h
     ·exact absurd (.inl h) g2
     ·exact absurd (.inr ⟨g1,h.2⟩) g2
   rw[this,hf]
  ·rw[hbc];have:ON (df d) pl p tr N c=true:=by
    rcases g with h|⟨h1,h2⟩
    ·exact hmc.2 (.inl h)
    ·exact hmc.2 (.inr ⟨cq.2 (eh c h1),h2⟩)
   rw[this,ht]
  ·rcases g1 with h|⟨h1,_⟩
   ·have:=nj c h.1 h.2;have:¬bH d.mp c=1:=λh=>by rw[cq.2 h]at this;cases this
    omega
   ·exact absurd h1 g2
end Go.Dv.Try
