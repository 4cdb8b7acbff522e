/- Own work: parts of the proof, shortened and laid together by a tool of our own. -/
import Derived.Test.YtklihepoaoceoaaGreatP4
import Derived.KernelRfl
set_option linter.defProp false
set_option linter.unusedSimpArgs false
set_option linter.unusedVariables false
open List renaming getElem?_eq_getElem→zah, mem_of_getElem?→zag, getElem?_eq_some_iff→zaa, length_map→zaw, getElem?_map→zaD, length_append→zad, mem_iff_getElem?→zaG, take_of_length_le→za1, mem_range→zbp, mem_map→zaX, getElem?_eq_none→zaM, take_add_one→zcM, ext_getElem?→zbb, getElem?_append_right→zak, drop_of_length_le→zdt, eq_nil_or_concat→zdu, concat_eq_append→zdv, pairwise_iff_getElem→zdw, getElem?_take_of_lt→zcV, length_set→za0, getElem?_drop→zaB, getElem?_append_left→zar, append_assoc→zaj, mem_flatMap→zbB, length_take→zal, mem_or_eq_of_mem_set→zdx, range_succ→zc9, append_nil→zbg, getElem?_range→zbD, flatMap_map→zdy, take_length→zcP, pairwise_flatMap→zdz, mem_cons→zax, getElem?_set→zaR, length_cons→zap, flatMap_def→zdA, flatMap_append→zaz, map_congr_left→zbG, foldl_append→zdB, set_append_right→zdb, drop_eq_getElem_cons→zcf, map_append→zaY, filter_append→zbV, drop_eq_nil_of_le→zb7, getElem?_set_self→zbO, length_singleton→za2, length_filter_le→zda, take_append_drop→zaF, nil_append→zaZ, map_set→zcW, dropLast_concat_getLast→zc2, length_range'→zdC, flatMap_cons→zan, getElem_mem→zdn, length_drop→zay, not_mem_nil→zb6, foldl_cons→zbi, mem_append→zaA, getElem?_dropLast→zdD, drop_zero→zdc, length_replicate→zaq, length_dropLast→zdE, getLast?_concat→zdF, dropLast_concat→zdG, length_pos_iff→zb9, filter_eq_self→zbT, pairwise_map→zdI, getElem_set→zdK, length_nil→zbh, nodup_cons→zdL, mem_filter→zbq
open Int renaming toNat_natCast→zaC, le_refl→zdJ
open Option renaming getD_some→zbE, map_some→zb1
open And renaming intro→zcv
open Nat renaming le_refl→zai, le_trans→zam, lt_trichotomy→zbJ, mul_succ→zdH, sub_self→zcc
open Bool renaming and_eq_true→zaT, not_eq_true'→zbv, or_eq_true→zbF, eq_iff_iff→zaN
open Decidable renaming not_not→zcN
set_option maxHeartbeats 16000000
noncomputable section
namespace Go.Dv.Try
open Go Go.Dv
def ab_(a:Int):jd ⟨a,1⟩=[a]:=by
 unfold jd
 grind
def ajX{q:Rn}{a:Int}(hq:0<=q.n)(h:(a= -1/\q.s= -1)\/(a≠ -1/\q.s≠ -1/\q.s+q.n=a)):jd ⟨q.s,q.n+1⟩=jd q++[a]:=by
 unfold jd;rw[show(q.n+1).toNat=q.n.toNat+1 by omega,zc9]
 grind
def zK(a b:UH):aq (a++b)=aq a++aq b:=by unfold aq;simp
def zb(r:Rn):aq [r]=jd r:=by simp[aq]
def ajB{acc:UH}{a:Int}(h:∀r∈acc,0<=r.n):aq (m_ acc a)=aq acc++[a]:=by
 unfold m_;cases hl:acc.getLast? with
 |none=>
  have:acc=[]:=by simp_all
  subst this;simp only[zb,ab_];rfl
 |some q=>
  simp only;have ca:acc≠[]:=au;have e:acc.dropLast++[q]=acc:=by
   have e1:=zc2 ca
   grind
  split
  ·rename_i hj;rw[zK,zb,ajX (h q (List.mem_of_getLast? hl)) hj,<-zaj];rw[<-zb,<-zK,e]
  ·rw[zK,zb,ab_]
def zh{l:OG}(h:∀a∈l,-1<=a/\a<=1000000):aq (gT l)=l:=by
 have:∀n,n<=l.length->aq (gT (l.take n))=l.take n:=by
  intro n
  induction n with
  |zero=>intro _;rfl
  |succ n ih=>
   intro hn;have ha:l[n]?=some l[n]:=zah V;rw[ID ha,ajB (λr J=>by have:=((Y2 h n).2 r J).1.1;omega),ih V,zcM,ha];rfl
 have:=this l.length (zai _)
 grind
def sU(l:OG):Prop:=l.Pairwise λa b=>a≠ -1->a≠b
def H4{l:OG}(h:sU l){i j:Nat}{x:Int}(W:l[i]?=some x)(hj:l[j]?=some x)(T:x≠ -1):i=j:=by
 unfold sU at h;rw[zdw]at h
 grind
def Py{l:OG}(h:∀(i j:Nat) (x:Int),l[i]?=some x->l[j]?=some x->x≠ -1->i=j):sU l:=by
 unfold sU;rw[zdw];intro i j W hj sC T e;have:=h i j l[i] (zah W) au T;omega
def amw{l:UH}{k:Nat}{r:Rn}(h:l[k]?=some r)(h0:Sk l k=0){j:Nat}{q:Rn}(hj:j<k)(hq:l[j]?=some q):¬rp q r:=by
 intro hs;have J:=GI h h0;unfold Sk at h0;rw[h]at h0;simp only[J,not_true_eq_false,if_false]at h0;split at h0
 ·cases h0
 ·rw[if_pos ⟨j,hj,q,hq,hs⟩]at h0;cases h0
def acj{r:Rn}{x:Int}(h:x∈jd r)(T:x≠ -1):r.s≠ -1/\r.s<=x/\x<r.s+r.n:=by
 unfold jd at h
 grind
def ao_(r:Rn):sU (jd r):=by
 unfold sU jd;rw[zdI];refine List.Pairwise.imp ?_ List.nodup_range;omega
def lv{l:UH}(h:dv l=0):sU (aq l):=by
 have g:=bz h;refine zdz.2 ⟨λr _=>ao_ r,?_⟩;rw[zdw];intro i j W hj sC x T y hy sB hxy;have hs:=amw (zah hj) (g.2.1 j hj) sC (zah W);have U:=acj T sB;have H:=acj hy V;exact hs ⟨U.1,H.1,V,V⟩
def aaj{ps:List (P8)}{pl:OG}{k:Nat}:∀{n:Nat},k<qj ps pl n→∃i,i<n/\z6 ps pl i=true/\qj ps pl i=k
 |0,h=>by cases h
 |n+1,h=>by
  by_cases U:k<qj ps pl n
  ·obtain⟨i,H,h3⟩:=aaj U;exact⟨i,V,h3⟩
  ·rw[sq]at h
   grind
def Xt{ps:List (P8)}{pl:OG}{i j:Nat}(h:i<j)(hm:z6 ps pl i=true):qj ps pl i<qj ps pl j:=by
 have U:qj ps pl (i+1)<=qj ps pl j:=Ja ps pl V;rw[sq,if_pos hm]at U;omega
structure as7(s:St)(ps:List (P8))(P:Nat->Int)(b3:Nat->Bool):Prop where
 no:∀i,gB ps i=false->P i= -1
 yes:∀i,i<ps.length->gB ps i=true->0<=P i/\P i<s.d.n
 inj:∀i j,i<ps.length->j<ps.length->gB ps i=true->P i=P j->i=j
 bit:∀c,c<s.d.n->(b3 c=true↔(∃i,i<ps.length/\gB ps i=true/\P i=c)\/((c:Int)∉s.pl/\db s.d c=true))
 free:∀i,i<ps.length->gB ps i=true->P i∉s.pl->db s.d (P i).toNat=false
def auR{s:St}(h:UB s){ps:List (P8)}(hl:ps.length<=1000)(he:wi ps s.pl (db s.d) s.d.n=0):
 (mT ps s.pl (db s.d) s.d.n).length=iT ps s.pl/\(mT ps s.pl (db s.d) s.d.n).Nodup∧∀x∈mT ps s.pl (db s.d) s.d.n,(0<=x/\x<s.d.n)/\n6 ps s.pl (db s.d) x.toNat=false:=by
 unfold mT;by_cases hm:iT ps s.pl=0
 ·simp_all
 ·rw[if_neg hm];unfold wi at he;rw[if_neg hm]at he;have hg:=Y7 (apQ h hl hm he);have Gw:=xi (l:=cJ (n6 ps s.pl (db s.d)) s.d.n) (by rw[b8];have:=h.n;omega);refine⟨by unfold gtL;omega,hg.2.2,λx T=>?_⟩;have g:=hg.2.1 x T;refine⟨g.1,?_⟩;have g2:=g.2;rw[Gw.2,if_pos nd,bw V,zbE]at g2;cases I:n6 ps s.pl (db s.d) x.toNat with
  |false=>rfl
  |true=>rw[I]at g2;exact absurd g2 ai
def Pj{ps:List (P8)}{pl:OG}{i:Nat}:jI ps pl i≠ -1↔gB ps i=true/\pl[i]?.getD (-1)≠ -1:=by
 unfold jI
 grind
def IU{ps:List (P8)}{pl:OG}{i:Nat}(h:jI ps pl i≠ -1):pl[i]?=some (jI ps pl i):=by
 obtain⟨U,H⟩:=Pj.1 h;unfold jI
 grind
def LF{ps:List (P8)}{pl:OG}{i:Nat}(h:gB ps i=true):z6 ps pl i=true↔jI ps pl i= -1:=by
 unfold z6;rw[h];simp
def aur{s:St}(h:UB s)(hd:sU s.pl){ps:List (P8)}(hl:ps.length<=1000)(he:wi ps s.pl (db s.d) s.d.n=0):
 as7 s ps (x7 ps s.pl (mT ps s.pl (db s.d) s.d.n)) (Ut (mT ps s.pl (db s.d) s.d.n) (n6 ps s.pl (db s.d))):=by
 have wM:=λi W hn=>apn h hl he (i:=i) W hn
 obtain⟨f1,f2,f3⟩:=auR h hl he;generalize mT ps s.pl (db s.d) s.d.n=fr at*;have nr:∀i,jI ps s.pl i≠ -1->x7 ps s.pl fr i=jI ps s.pl i:=λi E=>by
  unfold x7;rw[if_neg];intro hm;exact E ((LF (Pj.1 E).1).1 hm)
 have KH:∀c:Int,c≠ -1->(c∈Kd ps s.pl↔∃i,i<ps.length/\jI ps s.pl i=c):=λc F=>by
  unfold Kd;rw[zaG];constructor
  ·rintro⟨i,W⟩;have aM:i<ps.length:=by have:=(zaa.1 W).1;rwa[b8]at this
   rw[bw aM]at W;exact⟨i,aM,Option.some.inj W⟩
  ·rintro⟨i,W,e⟩;exact⟨i,by rw[bw W,e]⟩
 have nj:∀c:Nat,n6 ps s.pl (db s.d) c=if (c:Int)∈s.pl then decide ((c:Int)∈Kd ps s.pl)else db s.d c:=λc=>rfl
 have Us:∀i,z6 ps s.pl i=true->x7 ps s.pl fr i=fr[qj ps s.pl i]?.getD 0:=λi hm=>by unfold x7;rw[if_pos hm]
 have tg:∀i,i<ps.length->z6 ps s.pl i=true->fr[qj ps s.pl i]?=some (x7 ps s.pl fr i):=λi W hm=>by
  have F:qj ps s.pl i<fr.length:=by rw[f1];exact Xt W hm
  have T:fr[qj ps s.pl i]?=some fr[qj ps s.pl i]:=zah F;rw[Us i hm,T,zbE]
 refine⟨λi W=>?_,wM,λi j W hj hn e=>?_,λc F=>?_,λi W hn hnp=>?_⟩
 ·unfold x7 z6 jI;rw[W];simp
 ·have hnj:gB ps j=true:=by
   by_cases g:gB ps j=true
   ·exact g
   ·have:x7 ps s.pl fr j= -1:=by unfold x7 z6 jI;simp[g]
    have:=(wM i W hn).1;omega
  by_cases ki:jI ps s.pl i= -1
  ·have mi:=(LF hn).2 ki;by_cases kj:jI ps s.pl j= -1
   ·have mj:=(LF hnj).2 kj;have gi:=tg i W mi;have gj:=tg j hj mj;rw[<-e]at gj;have heq:qj ps s.pl i=qj ps s.pl j:=by
     have U:=(zaa.1 gi)
     have H:=(zaa.1 gj)
     obtain⟨h11,h12⟩:=U;obtain⟨h21,h22⟩:=H;have f2:=zdw.1 f2;rcases zbJ (qj ps s.pl i) (qj ps s.pl j)with aM|he|aM
     ·exact absurd (by rw[h12,h22]) (f2 _ _ h11 h21 aM)
     ·exact he
     ·exact absurd (by rw[h12,h22]) (f2 _ _ h21 h11 aM)
    rcases zbJ i j with aM|he|aM
    ·have:=Xt aM mi;omega
    ·exact he
    ·have:=Xt aM mj;omega
   ·exfalso;have g:=(f3 _ (zag (tg i W mi))).2;rw[e,nr j kj,nj]at g;have hjn:=wM j hj hnj;rw[nr j kj]at hjn;have aqN:((jI ps s.pl j).toNat:Int)=jI ps s.pl j:=V;rw[aqN,if_pos (xq kj)]at g;rw[decide_eq_true ((KH _ kj).2 ⟨j,hj,rfl⟩)]at g;cases g
  ·by_cases kj:jI ps s.pl j= -1
   ·exfalso;have mj:=(LF hnj).2 kj;have g:=(f3 _ (zag (tg j hj mj))).2;rw[<-e,nr i ki,nj]at g;have MG:=wM i W hn;rw[nr i ki]at MG;have aqN:((jI ps s.pl i).toNat:Int)=jI ps s.pl i:=V;rw[aqN,if_pos (xq ki)]at g;rw[decide_eq_true ((KH _ ki).2 ⟨i,W,rfl⟩)]at g;cases g
   ·rw[nr i ki,nr j kj]at e;have gi:=IU ki;have gj:=IU kj;rw[<-e]at gj;exact H4 hd gi gj ki
 ·unfold Ut;rw[zbF,decide_eq_true_eq,nj];constructor
  ·rintro(g|g)
   ·by_cases hp:(c:Int)∈s.pl
    ·rw[if_pos hp,decide_eq_true_eq,KH _ V]at g;obtain⟨i,W,e⟩:=g;have E:jI ps s.pl i≠ -1:=V;exact .inl ⟨i,W,(Pj.1 E).1,by rw[nr i E,e]⟩
    ·rw[if_neg hp]at g;exact .inr ⟨hp,g⟩
   ·obtain⟨k,E⟩:=zaG.1 g;have xG:k<qj ps s.pl ps.length:=by
     have:=(zaa.1 E).1;rw[f1]at this;exact this
    obtain⟨i,W,hm,e⟩:=aaj xG;have g2:=tg i W hm;rw[e,E]at g2;refine .inl ⟨i,W,?_,(Option.some.inj g2).symm⟩;unfold z6 at hm;exact(zaT _ _▸hm).1
  ·rintro(⟨i,W,hn,e⟩|⟨hp,I⟩)
   ·by_cases ki:jI ps s.pl i= -1
    ·right;have:=zag (tg i W ((LF hn).2 ki));rwa[e]at this
    ·left;rw[nr i ki]at e;have hm:=xq ki;rw[e]at hm ki;rw[if_pos hm,decide_eq_true_eq,KH _ ki];exact⟨i,W,e⟩
   ·left;rw[if_neg hp,I]
 ·have ki:jI ps s.pl i= -1:=Classical.byContradiction λE=>hnp (by rw[nr i E];exact xq E)
  have g:=(f3 _ (zag (tg i W ((LF hn).2 ki)))).2;have hy:=wM i W hn;rw[nj,show((x7 ps s.pl fr i).toNat:Int)=x7 ps s.pl fr i by omega,if_neg hnp]at g;exact g
def AJ(B:P8)(k:Nat):ee B k=(B.drop (256*k)).take 256:=by
 unfold ee cut;rw[List.drop_take]
 grind
def aaL{B:P8}{k i:Nat}(W:i<256):(ee B k)[i]?=B[256*k+i]?:=by
 rw[AJ,zcV W,zaB]
def apv{B p:P8}{k:Nat}(h:256*(k+1)<=B.length)(hp:p.length=256)(j:Nat):(He B k p)[j]?=if 256*k<=j/\j<256*k+256 then p[j-256*k]? else B[j]?:=by
 unfold He
 grind
def asn{a b:P8}(ha:a.length=256)(I:b.length=256)(h:∀i:Nat,i<256->a[i]?=b[i]?):a=b:=by
 refine zbb λi=>?_
 grind
def P6{B p:P8}{k c:Nat}(h:256*(k+1)<=B.length)(hp:p.length=256)(F:256*(c+1)<=B.length):ee (He B k p) c=if c=k then p else ee B c:=by
 have hl:(He B k p).length=B.length:=QB V hp;refine asn (kp V) (by split;exact hp;exact kp V) λi W=>?_
 rw[aaL W,apv h hp];by_cases hck:c=k
 ·grind
 ·rw[if_neg hck,if_neg V,aaL W]
def Wa{B:P8}{ps:List (P8)}{P:Nat->Int}(hp:aw5 ps)(hP:∀i,gB ps i=true->0<=P i/\(P i+1)*256<=B.length)
 (ayh:∀i j,gB ps i=true->gB ps j=true->P i=P j->i=j) {c:Nat} (F:256*(c+1)<=B.length):∀n,
 (∀i,i<n->gB ps i=true->P i=c->ee (N5 B ps P n) c=ps[i]?.getD [])/\((∀i,i<n->gB ps i=true->P i≠c)->ee (N5 B ps P n) c=ee B c)
 |0=>⟨λi W=>V,λ_=>rfl⟩
 |n+1=>by
  obtain⟨ih1,ih2⟩:=Wa hp hP ayh F n;have hl:=H0 (B:=B) hp hP n;rw[LY];by_cases hn:gB ps n=true
  ·rw[if_pos hn];have U:=hP n hn;obtain⟨p,H,h3⟩:=J7.1 hn;have h4:(ps[n]?.getD []).length=256:=by rw[H];exact(hp p (zag H)).resolve_left h3
   rw[P6 V h4 V]
   grind
  grind
def sY{ps:List (P8)}{i:Nat}(h:gB ps i=true):i<ps.length:=by
 obtain⟨p,H,_⟩:=J7.1 h
 grind
structure MkD(s:St)(ps:List (P8))(P:Nat->Int)(D:Dk):Prop where
 len:D.aT.length=s.d.aT.length
 hit:∀i,gB ps i=true->ee D.aT (P i).toNat=ps[i]?.getD []
 aDK:∀c,c<s.d.n->(∀i,gB ps i=true->P i≠c)->ee D.aT c=ee s.d.aT c
 bm:gP D.mp s.d.n=0
 bit:∀c,c<s.d.n->(aU D.mp c=1↔(∃i,i<ps.length/\gB ps i=true/\P i=c)\/((c:Int)∉s.pl/\aU s.d.mp c=1))
def awG{s:St}(h:UB s){C:P8}{dt:Nat->Prop}(hl:(aJ s C dt).length<=1000)(hp:as7 s (aJ s C dt) (Ax s C dt) (Ut (mT (aJ s C dt) s.pl (db s.d) s.d.n) (n6 (aJ s C dt) s.pl (db s.d)))):
 MkD s (aJ s C dt) (Ax s C dt) (FT s C dt):=by
 have HB:=al5 s C dt;have hn:=h.n;have hP:∀i,gB (aJ s C dt) i=true->0<=Ax s C dt i/\(Ax s C dt i+1)*256<=s.d.aT.length:=λi W=>by
  have:=hp.yes i (sY W) W;unfold Dk.n at this;omega
 have ayh:∀i j,gB (aJ s C dt) i=true->gB (aJ s C dt) j=true->Ax s C dt i=Ax s C dt j->i=j:=λi j W hj e=>hp.inj i j (sY W) (sY hj) W e
 have iX:=λ(c:Nat) (F:256*(c+1)<=s.d.aT.length)=>Wa HB hP ayh F (aJ s C dt).length
 have Gw:=xi (l:=cJ (Ut (mT (aJ s C dt) s.pl (db s.d) s.d.n) (n6 (aJ s C dt) s.pl (db s.d))) s.d.n) nd;rw[b8]at Gw;refine⟨H0 HB hP _,λi W=>?_,λc F hm=>?_,Gw.1,λc F=>?_⟩
 ·have U:=hP i W;exact(iX (Ax s C dt i).toNat V).1 i (sY W) W V
 ·exact(iX c (by unfold Dk.n at F;omega)).2 λi _ W=>hm i W
 ·show aU (gm _) c=1↔_;rw[Gw.2,if_pos F,bw F,zbE];have I:=hp.bit c F;have e:jS (Ut (mT (aJ s C dt) s.pl (db s.d) s.d.n) (n6 (aJ s C dt) s.pl (db s.d)) c)=1↔Ut (mT (aJ s C dt) s.pl (db s.d) s.d.n) (n6 (aJ s C dt) s.pl (db s.d)) c=true:=by
   cases Ut (mT (aJ s C dt) s.pl (db s.d) s.d.n) (n6 (aJ s C dt) s.pl (db s.d)) c<;>simp[jS]
  rw[e,I];unfold db
  simp_all
def tx(C:P8)(i:Nat):UInt8:=C[i]?.getD 0
def EH{n i:Nat}(h:i<n):(aC n)[i]?=some 0:=by
 unfold aC
 grind
def CI{l:P8}{n i:Nat}(h:l.length<=n)(W:i<n):(jK l n)[i]?=some (tx l i):=by
 unfold jK tx;by_cases g:i<l.length
 ·grind
 ·rw[zak V,EH V,zaM V];rfl
def vU{a b:P8}{n:Nat}(ha:a.length=n)(I:b.length=n)(h:∀i:Nat,i<n->a[i]?=b[i]?):a=b:=by
 refine zbb λi=>?_
 grind
def abz(m:Nat)(C:P8)(i:Nat):P8:=jK ((C.drop (m*i)).take m) m
def Q2(m:Nat)(C:P8)(i:Nat):(abz m C i).length=m:=vK gA
def Rl{m:Nat}{C:P8}{i j:Nat}(h:j<m):(abz m C i)[j]?=some (tx C (m*i+j)):=by
 unfold abz;rw[CI gA h];unfold tx
 grind
def aan{m:Nat}(f:Nat->P8)(h:∀i,(f i).length=m)(n:Nat):((List.range n).flatMap f).length=m*n:=by
 induction n with
 |zero=>simp
 |succ n ih=>
  rw[zc9,zaz,zad,ih]
  grind
def ah9{m:Nat}{C:P8}{n:Nat}(h:C.length<=m*n):(List.range n).flatMap (abz m C)=jK C (m*n):=by
 have key:∀k i:Nat,i<m*k->((List.range k).flatMap (abz m C))[i]?=some (tx C i):=by
  intro k
  induction k with
  |zero=>omega
  |succ k ih=>
   intro i W;have hl:=aan (abz m C) (Q2 m C) k;rw[zc9,zaz];simp only[zan,List.flatMap_nil,zbg];by_cases g:i<m*k
   ·grind
   ·rw[zdH]at W;rw[zak V,hl,Rl V,show m*k+(i-m*k)=i by omega]
 refine vU (aan _ (Q2 m C) n) (vK h) λi W=>?_
 rw[key n i W,CI h W]
def ae_{a:At}{out C:P8}(hs:a.sz=C.length)(hv:0<=a.vd/\a.vd<=C.length)(ho:∀i:Nat,(i:Int)<a.vd->out[i]?=some (tx C i))(hz:∀i:Nat,a.vd<=i->tx C i=0):jt a out=C:=by
 have hl:=Hg a out;have hol:a.vd.toNat<=out.length:=by
  grind
 have htl:(out.take a.vd.toNat).length=a.vd.toNat:=by simp_all
 refine vU (n:=C.length) V rfl λi W=>?_
 unfold jt;rw[zcV V,CI V V];have F:C[i]?=some (tx C i):=by unfold tx;grind
 rw[F];congr 1;by_cases g:(i:Int)<a.vd
 ·show(out.take a.vd.toNat)[i]?.getD 0=tx C i
  grind
 ·have U:=hz i V;rw[U];show(out.take a.vd.toNat)[i]?.getD 0=0
  grind
section
structure yX(s:St)(C:P8)(v:Int)(dt:Nat->Prop):Prop where
 len:C.length<=32768
 vb:0<=v/\v<=C.length
 z:∀i:Nat,v<=i->tx C i=0
 sp:s.a.fl/2%2=1→∀i,¬dt i→∀j,j<256->tx C (256*i+j)=0
def aoL{m:Nat}{C:P8}{i:Nat}(h:∀j,j<m->tx C (m*i+j)=0):abz m C i=aC m:=
 vU (Q2 m C i) (bB m) λj hj=>by rw[Rl hj,h j hj,EH hj]
def Ey{α β:Type}{l:List α}{f g:α->List β}(h:∀x∈l,f x=g x):l.flatMap f=l.flatMap g:=by
 induction l with
 |nil=>rfl
 |cons a l ih=>grind
def O9{s:St}{C:P8}{dt:Nat->Prop}(F:¬s.a.fl%2=1){i:Nat}(W:i<(C.length+255)/256):(aJ s C dt)[i]?=some (Wt (s.a.fl/2%2=1) dt C i):=by
 unfold aJ
 grind
def awT{s:St}{C:P8}{v:Int}{dt:Nat->Prop}{D:Dk}{P:Nat->Int}(F:¬s.a.fl%2=1)(h:yX s C v dt)(rk:∀i,gB (aJ s C dt) i=false->P i= -1)
 (wM:∀i,gB (aJ s C dt) i=true->0<=P i) (hd:MkD s (aJ s C dt) P D):mJ D.aT (cJ P (aJ s C dt).length)=jK C (256*((C.length+255)/256)):=by
 have hl:(aJ s C dt).length=(C.length+255)/256:=by rw[rv,if_neg F]
 rw[<-ah9 (m:=256) (C:=C) V,hl];unfold mJ cJ;rw[zdy];refine Ey λi W=>?_
 have W:=zbp.1 W;have hp:=O9 (dt:=dt) F W;by_cases hn:gB (aJ s C dt) i=true
 ·have U:=wM i hn;rw[if_neg V,hd.hit i hn,hp,zbE];unfold Wt;split
  ·obtain⟨p,H,h3⟩:=J7.1 hn;rw[hp]at H;unfold Wt at H
   grind
  ·rfl
 ·have hn:gB (aJ s C dt) i=false:=by simpa using hn
  rw[if_pos (rk i hn)];refine(aoL λj hj=>?_).symm;have hpe:Wt (s.a.fl/2%2=1) dt C i=[]:=by
   unfold gB at hn
   simp_all
  unfold Wt at hpe;split at hpe
  ·rename_i g;exact h.sp g.1 i g.2 j hj
  ·have h5:=congrArg List.length hpe;rw[vK gA]at h5;cases h5
def O2{C:P8}{k j:Nat}(hj:j<16):∀{n:Nat},k<n->(pcC C n)[16*k+j]?=some (((gM (qG C k)).drop (j*256)).take 256)
 |0,h=>by cases h
 |n+1,h=>by
  have hl:=Zt C n;rw[Sd];by_cases g:k<n
  ·rw[zar V];exact O2 hj g
  ·unfold Bz
   grind
def aje(Q:P8)(n:Nat):(List.range n).flatMap (λj=>(Q.drop (j*256)).take 256)=Q.take (256*n):=by
 induction n with
 |zero=>simp
 |succ n ih=>
  rw[zc9,zaz,ih,zdH,List.take_add]
  grind
def Xg{P:Nat->Int}{n k:Nat}(h:k<n):cP (cJ P (16*n)) k=(List.range 16).map λj=>P (16*k+j):=by
 refine zbb λi=>?_
 unfold cP;by_cases W:i<16
 ·rw[zcV W,zaB,bw V,zaD,zbD W];rfl
 grind
def Rk(n:Nat):ez (16*n)=n:=KA
def ak6(C:P8)(k:Nat):qG C k=abz 4096 C k:=rfl
section
variable {s:St} {C:P8} {v:Int} {dt:Nat->Prop} {D:Dk} {P:Nat->Int}
def Sv(F:s.a.fl%2=1):aJ s C dt=pcC C ((C.length+4095)/4096):=by unfold aJ;rw[if_pos F]
def ahh(F:s.a.fl%2=1)(rk:∀i,gB (aJ s C dt) i=false->P i= -1)(wM:∀i,gB (aJ s C dt) i=true->0<=P i)(hd:MkD s (aJ s C dt) P D){k:Nat}(E:k<(C.length+4095)/4096):
 fw D.aT (cP (cJ P (16*((C.length+4095)/4096))) k)=gM (qG C k):=by
 rw[Xg E];unfold fw;rw[zdy];have e:gM (qG C k)=(List.range 16).flatMap (λj=>((gM (qG C k)).drop (j*256)).take 256):=by
  rw[aje,za1 (abk (uN C k))]
 conv=>rhs;rw[e]
 refine Ey λj hj=>?_
 have hj:=zbp.1 hj;have hp:(aJ s C dt)[16*k+j]?=some (((gM (qG C k)).drop (j*256)).take 256):=by rw[Sv F];exact O2 hj E
 unfold lU;by_cases hn:gB (aJ s C dt) (16*k+j)=true
 ·have U:=wM _ hn;rw[if_neg V,hd.hit _ hn,hp];rfl
 ·have hn:gB (aJ s C dt) (16*k+j)=false:=by simpa using hn
  unfold gB at hn
  grind
def awC(F:s.a.fl%2=1)(rk:∀i,gB (aJ s C dt) i=false->P i= -1)(wM:∀i,gB (aJ s C dt) i=true->0<=P i)(hd:MkD s (aJ s C dt) P D):
 nt D.aT (chunks (cJ P (aJ s C dt).length))=jK C (4096*((C.length+4095)/4096)):=by
 have hl:(aJ s C dt).length=16*((C.length+4095)/4096):=HQ;rw[<-ah9 (m:=4096) (C:=C) V,hl];unfold nt chunks;rw[zdy,b8,Rk];refine Ey λk E=>?_
 rw[ahh F rk wM hd (zbp.1 E),(xh (uN C k)).1];rfl
def avU(h:yX s C v dt)(rk:∀i,gB (aJ s C dt) i=false->P i= -1)(wM:∀i,gB (aJ s C dt) i=true->0<=P i)(hd:MkD s (aJ s C dt) P D){a:At}(hf:a.fl=s.a.fl)(hs:a.sz=C.length)(hv:a.vd=v):
 jt a (if a.fl%2=1 then nt D.aT (chunks (cJ P (aJ s C dt).length))else mJ D.aT (cJ P (aJ s C dt).length))=C:=by
 have I:=h.vb;refine ae_ hs (by rw[hv];exact I) (λi W=>?_) λi W=>h.z i V
 split
 ·rw[awC V rk wM hd];exact CI V V
 ·rw[awT V h rk wM hd];exact CI V V
end
end
section
def aaP{l:OG}(h:∀x∈l,x=0):aZ l=0:=by
 induction l with
 |nil=>rfl
 |cons a l ih=>
  have ha:=h a ab;simp only[aZ,if_true]
  grind
def ajb{f:Nat->Int}{n:Nat}(h:∀i,i<n->f i=0):Lf f n=0:=by
 refine aaP λx T=>?_
 grind
def aj5{u:P8}(h:u=aC u.length):gM u=[]:=by unfold gM;rw[if_pos h]
def aab{l:OG}{k:Nat}{x:Int}(h:x∈cP l k):x∈l:=by
 unfold cP at h
 grind
section
variable {s:St} {C:P8} {v:Int} {dt:Nat->Prop} {D:Dk} {P:Nat->Int}
def aoY(F:s.a.fl%2=1)(h:yX s C v dt)(rk:∀i,gB (aJ s C dt) i=false->P i= -1)(wM:∀i,gB (aJ s C dt) i=true->0<=P i)(hd:MkD s (aJ s C dt) P D)(qk:RJ D.aT (cJ P (aJ s C dt).length)):
 kg D.aT v (chunks (cJ P (aJ s C dt).length))=0:=by
 have hl:(aJ s C dt).length=16*((C.length+4095)/4096):=HQ;have iX:=jY (cJ P (aJ s C dt).length);rw[b8]at iX;refine ajb λk E=>?_
 have xG:k<(C.length+4095)/4096:=V;rw[qZ _ (by rw[b8];unfold ez;omega),zbE];have fu:fw D.aT (cP (cJ P (aJ s C dt).length) k)=gM (qG C k):=by rw[hl];exact ahh F rk wM hd xG
 have hup:=(xh (uN C k)).1;have VF:=uN C k;unfold BD;rw[fu,hup,if_neg ab,if_neg];rintro(⟨g1,g2⟩|g)
 ·have h0:fw D.aT (cP (cJ P (aJ s C dt).length) k)=[]:=by
   rw[fu];exact aj5 (by rw[VF];exact g2)
  rw[ajI λx T=>qk x (aab T)]at h0;omega
 ·refine g ?_;refine vU (n:=4096-sV v k) (by simp_all) (bB _) λj hj=>?_
  rw[zaB,ak6,Rl V,EH hj];congr 1;exact h.z _ (by unfold sV at hj ⊢;omega)
def asr(F:s.a.fl%2=1)(rk:∀i,gB (aJ s C dt) i=false->P i= -1)(wM:∀i,gB (aJ s C dt) i=true->0<=P i):∀c∈chunks (cJ P (aJ s C dt).length),kK c:=by
 have hl:(aJ s C dt).length=16*((C.length+4095)/4096):=HQ;intro c HM;unfold chunks at HM;rw[b8]at HM;obtain⟨k,E,rfl⟩:=zaX.1 HM;have E:=zbp.1 E;rw[hl,Rk]at E;rw[hl,Xg E];unfold kK;rcases yk (p:=λy:Int=>y= -1) ((List.range 16).map λj=>P (16*k+j))with⟨U,_⟩|⟨i,x,U,H,h3,_⟩
 ·omega
 ·right;rw[U,zaC,Ri];have W:i<16:=au;have tj:∀j,j<16->(aJ s C dt)[16*k+j]?=some (((gM (qG C k)).drop (j*256)).take 256):=λj hj=>by rw[Sv F];exact O2 hj E
  have hnn:gB (aJ s C dt) (16*k+i)=false:=by
   grind
  have hlen:(gM (qG C k)).length<=i*256:=by
   unfold gB at hnn
   simp_all
  intro y hy;obtain⟨j,hj⟩:=zaG.1 hy;rw[zaB]at hj;have aBR:i+j<16:=au;rw[zaD,zbD aBR]at hj;rw[<-Option.some.inj hj];refine rk _ ?_;unfold gB;rw[tj (i+j) aBR,zbE,zb7 (zam hlen (Nat.mul_le_mul_right 256 (Nat.le_add_right i j)))];simp
end
end
structure ams(s:St)(C:P8)(v:Int)(dt:Nat->Prop):Prop where
 op:aI (FT s C dt) (yf s C v dt)=0
 Vt:ba (aj (FT s C dt) (yf s C v dt))=C
 plc:aq (yf s C v dt).rn.l=zX s C dt
 pl:as7 s (aJ s C dt) (Ax s C dt) (Ut (mT (aJ s C dt) s.pl (db s.d) s.d.n) (n6 (aJ s C dt) s.pl (db s.d)))
 dk:MkD s (aJ s C dt) (Ax s C dt) (FT s C dt)
def HW{d:Dk}{a:At}{C:P8}{v:Int}{dt:Nat->Prop}(h0:aI d a=0)(hd:D8 d)(hn:a.nm.length<=1000000)(F:yX (aj d a) C v dt)(he:zW (aj d a) C v dt=0):ams (aj d a) C v dt:=by
 obtain⟨ok,_⟩:=aL h0;have st:=ok.st hd hn;have Ec:sU (aj d a).pl:=lv ok.rn;obtain⟨d1,d2,d3⟩:=df ok.dk;obtain⟨s1,s2,s3,s4,s5⟩:=iV ok.str;generalize hs:aj d a=s at*;have hsa:s.a=a:=by rw[<-hs];rfl
 have PH:s.d=d:=by rw[<-hs];rfl
 unfold zW at he;split at he
 ·omega
 rename_i he1;have he1:=zcN.1 he1;split at he
 ·cases he
 rename_i he2;have he4:iW (yf s C v dt)=0:=zcN.1 λh=>he2 (.inr h)
 have qk:=rv s C dt;have iX:=F.len;have ET:(aJ s C dt).length<=200:=Rx;have pl:as7 s (aJ s C dt) (Ax s C dt) (Ut (mT (aJ s C dt) s.pl (db s.d) s.d.n) (n6 (aJ s C dt) s.pl (db s.d))):=aur st Ec (ps:=aJ s C dt) V he1;have dk:=awG st V pl;have wM:∀i,gB (aJ s C dt) i=true->0<=Ax s C dt i:=λi W=>(pl.yes i (sY W) W).1
 have rk:∀i,gB (aJ s C dt) i=false->Ax s C dt i= -1:=pl.no;have hn5:s.d.n<=512:=st.n;have I:∀x∈zX s C dt,x= -1\/(0<=x/\x<s.d.n):=λx T=>by
  obtain⟨i,W,rfl⟩:=zaX.1 T;cases g:gB (aJ s C dt) i with
  |false=>exact .inl (rk i g)
  |true=>exact .inr (pl.yes i (zbp.1 W) g)
 have aed:aq (yf s C v dt).rn.l=zX s C dt:=zh λx T=>by rcases I x T with h|h<;>omega
 have hDn:(FT s C dt).n=s.d.n:=by unfold Dk.n;rw[dk.len]
 have aFQ:RJ (FT s C dt).aT (zX s C dt):=λx T=>by
  rcases I x T with h|h
  ·exact .inl h
  ·rw[dk.len];unfold Dk.n at h;omega
 have aBT:(zX s C dt).length=(aJ s C dt).length:=b8;have PB:(yf s C v dt).fl=s.a.fl:=rfl;refine⟨?_,?_,aed,pl,dk⟩
 ·unfold aI;have hdE:dj (FT s C dt)=0:=by
   unfold dj;rw[hDn,dk.len,PH,if_neg V,if_neg V];have:=dk.bm;rwa[PH]at this
  have hsE:wx (yf s C v dt)=0:=by
   unfold wx;rw[he4,if_neg ab,if_neg,if_neg,if_neg]
   ·show ¬32768<(C.length:Int);omega
   ·show ¬(0:Int)≠0;simp
   ·show ¬(s.a.ty≠128\/4<=s.a.fl\/s.a.fl=3);rw[hsa];omega
  have hpE:mq (FT s C dt) (zX s C dt)=0:=by
   unfold mq;rw[if_neg,if_neg]
   ·rintro⟨x,T,U,H⟩;obtain⟨i,W,rfl⟩:=zaX.1 T;have W:=zbp.1 W;cases g:gB (aJ s C dt) i with
    |false=>exact U (rk i g)
    |true=>
     have hy:=pl.yes i W g;have hbt:=(dk.bit (Ax s C dt i).toNat V).2 (.inl ⟨i,W,g,V⟩);omega
   grind
  have zy:mf (yf s C v dt) (zX s C dt):=by
   refine⟨rfl,?_⟩;rw[PB,aBT,qk];show if s.a.fl%2=1 then(((if s.a.fl%2=1 then 16*((C.length+4095)/4096)else(C.length+255)/256:Nat):Int)=((C.length:Int)+4095)/4096*16∧∀c∈chunks (zX s C dt),kK c)else(((if s.a.fl%2=1 then 16*((C.length+4095)/4096)else(C.length+255)/256:Nat):Int)=((C.length:Int)+255)/256/\(s.a.fl/2%2=1\/br (zX s C dt)=(if s.a.fl%2=1 then 16*((C.length+4095)/4096)else(C.length+255)/256:Nat)));split
   ·rename_i g;exact⟨V,asr g rk wM⟩
   ·rename_i g;refine⟨V,?_⟩;by_cases g2:s.a.fl/2%2=1
    ·exact .inl g2
    ·right;rw[<-if_neg g (t:=16*((C.length+4095)/4096)) (e:=(C.length+255)/256),<-qk,<-aBT,abW];intro x T e;obtain⟨i,W,hxi⟩:=zaX.1 T;have W:=zbp.1 W;have ca:gB (aJ s C dt) i=true:=by
      have hp:=O9 (dt:=dt) g (i:=i) (by rw[qk,if_neg g]at W;exact W);unfold gB;rw[hp,zbE,decide_eq_true_eq];unfold Wt;rw[if_neg (λh=>g2 h.1)];intro KI;have h5:=congrArg List.length KI;rw[vK gA]at h5;cases h5
     have:=wM i ca;omega
  rw[hdE,hsE,if_neg ab,if_neg ab,if_neg (by show ¬false=true;simp),aed,hpE,if_neg ab];unfold lh;rw[if_pos zy,if_neg ab];split
  ·rename_i g;exact aoY (v:=v) V F rk wM dk aFQ
  ·rfl
 ·show jt (yf s C v dt) (if (yf s C v dt).fl%2=1 then nt (FT s C dt).aT (chunks (aq (yf s C v dt).rn.l))else mJ (FT s C dt).aT (aq (yf s C v dt).rn.l))=C;rw[aed];exact avU (v:=v) F rk wM dk rfl rfl rfl
def ui{l:OG}{c:Nat}:(c:Int)∈NR l↔(c:Int)∈l:=by
 rw[al2];grind
def aoS{d:Dk}{a:At}{C:P8}{v:Int}{dt:Nat->Prop}(hm:ams (aj d a) C v dt):aal d (FT (aj d a) C dt) a (yf (aj d a) C v dt):=by
 have hdk:=hm.dk;have qk:=hm.pl;have pQ:=(aL hm.op).1.dk;refine⟨⟨hdk.len.symm,pQ⟩,λc F=>?_⟩;rw[hm.plc];have hB:(c:Int)∈NR (zX (aj d a) C dt)↔∃i,i<(aJ (aj d a) C dt).length/\gB (aJ (aj d a) C dt) i=true/\Ax (aj d a) C dt i=c:=by
  rw[ui];constructor
  ·intro h;obtain⟨i,W,e⟩:=zaX.1 h;refine⟨i,zbp.1 W,?_,e⟩;cases g:gB (aJ (aj d a) C dt) i with
   |true=>rfl
   |false=>have:=qk.no i g;omega
  ·rintro⟨i,W,_,e⟩;exact zaX.2 ⟨i,zbp.2 W,e⟩
 have hA:(c:Int)∈NR (aq a.rn.l)↔(c:Int)∈(aj d a).pl:=ui;have sD:=hdk.bit c F;have b1:=fV (FT (aj d a) C dt).mp c;have b2:=fV d.mp c;have PH:(aj d a).d=d:=rfl;unfold afx;rw[hA,hB];refine⟨λ⟨g1,g2⟩=>⟨?_,?_⟩,λ⟨g1,g2⟩=>?_,λg=>sD.2 (.inl g),λ⟨⟨i,U,H,h3⟩,g2⟩=>?_⟩
 ·grind
 ·exact(hdk.aDK c F λi W e=>g2 ⟨i,sY W,W,e⟩).symm
 ·grind
 ·have hf:=qk.free i U H (by rw[h3];exact g2);unfold db at hf
  grind
def eJ(p:Nat->Bool):Nat->Nat
 |0=>0
 |n+1=>eJ p n+if p n=true then 1 else 0
def ao8(p:Nat->Bool):∀n,eJ p n<=n
 |0=>zai 0
 |n+1=>by
  have:=ao8 p n;show eJ p n+(if p n=true then 1 else 0)<=n+1;split<;>omega
def bI(p:Nat->Bool)(n:Nat):eJ p (n+1)=eJ p n+if p n=true then 1 else 0:=rfl
def fj{p q:Nat->Bool}:∀{n:Nat},(∀i,i<n->p i=q i)->eJ p n=eJ q n
 |0,_=>rfl
 |n+1,h=>by rw[bI,bI,fj (n:=n) λi W=>h i V,h n V]
def uP{p q:Nat->Bool}:∀{n:Nat},(∀i,i<n→¬(p i=true/\q i=true))->eJ (λi=>p i||q i) n=eJ p n+eJ q n
 |0,_=>rfl
 |n+1,h=>by
  have ih:=uP (n:=n) λi W=>h i V
  rw[bI,bI,bI,ih]
  grind
def rq{k:Nat}:∀{n:Nat},eJ (λi=>decide (i=k)) n=if k<n then 1 else 0
 |0=>rfl
 |n+1=>by
  rw[bI,rq (n:=n)]
  grind
def EN{n:Nat}:∀{l:OG},sU l->(∀x∈l,x= -1\/(0<=x/\x<n))->eJ (λc=>decide ((c:Int)∈l)) n=br l
 |[],_,_=>by
  have:∀m,eJ (λc=>decide ((c:Int)∈([]:OG))) m=0:=λm=>by
   induction m with
   |zero=>rfl
   |succ m ih=>rw[bI,ih];simp
  rw[this];rfl
 |a::l,hd,I=>by
  have ih:=EN (n:=n) (l:=l) (List.Pairwise.of_cons hd) λx T=>I x bP
  have hu:br (a::l)=(if a= -1 then 0 else 1)+br l:=by
   unfold br
   grind
  by_cases h:a= -1
  ·grind
  ·have J:=(I a ab).resolve_left h;have U:=uP (p:=λc=>decide (c=a.toNat)) (q:=λc=>decide ((c:Int)∈l)) (n:=n) λc _=>by
    rw[decide_eq_true_eq,decide_eq_true_eq];rintro⟨e,hm⟩;exact(List.pairwise_cons.1 hd).1 _ hm h V
   rw[rq,if_pos V]at U
   grind
def Zd(ps:List (P8)):Nat:=eJ (gB ps) ps.length
def kpB(ps:List (P8))(pl:OG)(i:Nat):Bool:=decide (jI ps pl i≠ -1)
def Re(ps:List (P8))(pl:OG):∀n,qj ps pl n=eJ (z6 ps pl) n
 |0=>rfl
 |n+1=>by rw[sq,bI,Re ps pl n]
def aoQ(ps:List (P8))(pl:OG):Zd ps=iT ps pl+eJ (kpB ps pl) ps.length:=by
 have U:iT ps pl=eJ (z6 ps pl) ps.length:=Re ps pl _;rw[U,<-uP]
 ·refine fj λi _=>?_
  unfold z6 kpB;by_cases h:gB ps i=true
  ·grind
  ·have g:jI ps pl i= -1:=by unfold jI;rw[if_neg h]
   rw[g];simp[h]
 ·rintro i _ ⟨U,H⟩;unfold z6 at U;unfold kpB at H
  grind
def Ko(f:Nat->Int):∀n,br (cJ f n)=eJ (λi=>decide (f i≠ -1)) n
 |0=>rfl
 |n+1=>by
  have:cJ f (n+1)=cJ f n++[f n]:=by unfold cJ;rw[zc9];simp
  rw[this,akv,Ko f n,bI];unfold br;by_cases h:f n= -1<;>simp[h]
def awo{ps:List (P8)}{pl:OG}(h:sU pl):sU (Kd ps pl):=by
 refine Py λi j x W hj T=>?_
 unfold Kd at W hj;have Xp:i<ps.length:=by have:=(zaa.1 W).1;simp_all
 have xJ:j<ps.length:=by have:=(zaa.1 hj).1;simp_all
 rw[bw Xp]at W;rw[bw xJ]at hj;have W:=Option.some.inj W;have hj:=Option.some.inj hj;have gi:=IU (ps:=ps) (pl:=pl) (i:=i) (by rw[W];exact T);have gj:=IU (ps:=ps) (pl:=pl) (i:=j) (by rw[hj];exact T);rw[W]at gi;rw[hj]at gj;exact H4 h gi gj T
def agr{ps:List (P8)}{pl:OG}{x:Int}(h:x∈Kd ps pl)(T:x≠ -1):x∈pl:=by
 obtain⟨i,_,rfl⟩:=zaX.1 h;exact xq T
def awH{ps:List (P8)}{pl:OG}{b:Nat->Bool}{n:Nat}(hd:sU pl)(I:∀x∈pl,x= -1\/(0<=x/\x<n))(hu:∀c:Nat,(c:Int)∈pl->b c=true):
 eJ (n6 ps pl b) n+br pl=eJ (kpB ps pl) ps.length+eJ b n:=by
 have U:=EN (n:=n) hd I;have H:=EN (n:=n) (awo (ps:=ps) hd) λx T=>by
  by_cases g:x= -1
  ·exact .inl g
  ·exact I x (agr T g)
 have h3:br (Kd ps pl)=eJ (kpB ps pl) ps.length:=Ko _ _;have h4:=uP (p:=λc=>decide ((c:Int)∈pl)) (q:=λc=>b c&&!decide ((c:Int)∈pl)) (n:=n) λc _=>au
 have h5:=uP (p:=λc=>decide ((c:Int)∈Kd ps pl)) (q:=λc=>b c&&!decide ((c:Int)∈pl)) (n:=n) λc _=>by
  rintro⟨g1,g2⟩;simp only[decide_eq_true_eq,zaT,zbv,decide_eq_false_iff_not]at g1 g2;exact g2.2 (agr g1 V)
 have e1:eJ b n=eJ (λc=>decide ((c:Int)∈pl)||(b c&&!decide ((c:Int)∈pl))) n:=fj λc _=>by
  by_cases g:(c:Int)∈pl
  ·simp_all
  ·simp[g]
 have e2:eJ (n6 ps pl b) n=eJ (λc=>decide ((c:Int)∈Kd ps pl)||(b c&&!decide ((c:Int)∈pl))) n:=fj λc _=>by
  show(if (c:Int)∈pl then decide ((c:Int)∈Kd ps pl)else b c)=_;by_cases g:(c:Int)∈pl
  ·simp[g]
  ·have:(c:Int)∉Kd ps pl:=λh=>g (agr h V)
   simp[g,this]
 omega
def oG(s:P8):∀n,iq s n=eJ (λc=>decide (aU s c=1)) n
 |0=>rfl
 |n+1=>by
  have I:=fV s n;rw[bI,<-oG s n];show iq s n+aU s n=_
  grind
def nq{d:Dk}{a:At}(h:aI d a=0){c:Nat}(F:(c:Int)∈aq a.rn.l):aU d.mp c=1:=by
 obtain⟨ok,ho⟩:=aL h;cases fx:a.rs with
 |true=>
  rw[(ok.res fx).1]at F;cases F
 |false=>
  have hp:=(ho fx).1;unfold mq at hp;split at hp
  ·cases hp
  split at hp
  ·cases hp
  have I:=fV d.mp c
  grind
def abN{d:Dk}{a:At}(h0:aI d a=0)(hd:D8 d)(hn:a.nm.length<=1000000){ps:List (P8)}(hl:ps.length<=1000)(he:wi ps (aq a.rn.l) (db d) d.n≠0):
 (wi ps (aq a.rn.l) (db d) d.n=16/\d.n-iq d.mp d.n+br (aq a.rn.l)<Zd ps)\/
 (wi ps (aq a.rn.l) (db d) d.n=8/\64<(k7 (gm (cJ (n6 ps (aq a.rn.l) (db d)) d.n)) d.n).length):=by
 obtain⟨ok,_⟩:=aL h0;have st:=ok.st hd hn;have Ec:sU (aq a.rn.l):=lv ok.rn;have I:=Ze st;have hn5:=st.n;have ye:(aj d a).pl=aq a.rn.l:=rfl;have PH:(aj d a).d=d:=rfl;rw[ye]at I;rw[PH]at I hn5;have cj:∀c:Nat,(c:Int)∈aq a.rn.l->db d c=true:=λc F=>by
  unfold db;rw[nq h0 F];rfl
 have FN:=awH (ps:=ps) (n:=d.n) Ec (λx T=>by have:=I x T;omega) cj;have hc0:eJ (db d) d.n=iq d.mp d.n:=(oG d.mp d.n).symm;have ca:=aoQ ps (aq a.rn.l);have Gw:=xi (l:=cJ (n6 ps (aq a.rn.l) (db d)) d.n) nd;rw[b8]at Gw;have hnr:=aii (ps:=ps) I V ps.length;have HM:=Yr ps (aq a.rn.l) ps.length;have aFI:iT ps (aq a.rn.l)=qj ps (aq a.rn.l) ps.length:=rfl;unfold wi at he ⊢;by_cases hm:iT ps (aq a.rn.l)=0
 ·grind
 rw[if_neg hm]at he ⊢;rcases asp Gw.1 (c:=iT ps (aq a.rn.l)) (near:=M5 ps (aq a.rn.l) ps.length) V V he with⟨g1,g2⟩|⟨g1,g2⟩
 ·refine .inl ⟨g1,?_⟩;rw[ast V]at g2;have hcn:iq (gm (cJ (n6 ps (aq a.rn.l) (db d)) d.n)) d.n=eJ (n6 ps (aq a.rn.l) (db d)) d.n:=by
   rw[oG];refine fj λc F=>?_
   rw[Gw.2,if_pos F,bw F,zbE];cases n6 ps (aq a.rn.l) (db d) c<;>simp[jS]
  rw[zaC,hcn]at g2;have aEd:=Ks d.mp d.n;omega
 ·exact .inr ⟨g1,g2⟩
def rX(x y:Int):Prop:=(x= -1/\y= -1)\/(x≠ -1/\y≠ -1/\x+1=y)
instance (x y:Int):Decidable (rX x y):=by unfold rX;infer_instance
def HF(L:Nat->Int)(i:Nat):Bool:=decide (i=0∨¬rX (L (i-1)) (L i))
def Cf{α:Type}(f:Nat->α)(n:Nat):cJ f (n+1)=cJ f n++[f n]:=by unfold cJ;rw[zc9];simp
def ari(l:OG)(a:Int):gT (l++[a])=m_ (gT l) a:=by unfold gT;simp_all
def Jw{L:Nat->Int}(h:∀i,-1<=L i):∀n,(gT (cJ L n)).length=eJ (HF L) n/\(0<n→∃r,(gT (cJ L n)).getLast?=some r/\1<=r.n/\ -1<=r.s/\((r.s= -1/\L (n-1)= -1)\/(r.s≠ -1/\L (n-1)=r.s+r.n-1)))
 |0=>⟨rfl,λh=>V⟩
 |n+1=>by
  obtain⟨ih1,ih2⟩:=Jw h n;have hLn:=h n;rw[Cf,ari,bI,<-ih1,Nat.add_sub_cancel];unfold m_;by_cases hn:n=0
  ·subst hn;refine⟨rfl,λ_=>⟨⟨L 0,1⟩,rfl,zdJ 1,hLn,?_⟩⟩
   grind
  ·obtain⟨r,U,H,h3,h4⟩:=ih2 V;have hj:((L n= -1/\r.s= -1)\/(L n≠ -1/\r.s≠ -1/\r.s+r.n=L n))↔rX (L (n-1)) (L n):=by
    unfold rX;omega
   by_cases hjj:rX (L (n-1)) (L n)
   ·have hs:HF L n=false:=by unfold HF;simp[hn,hjj]
    grind
   ·have hs:HF L n=true:=by unfold HF;simp[hjj]
    grind
def MY(r:Rn)(i:Nat):Int:=if r.s= -1 then(-1:Int)else r.s+(i:Int)
def DV(r:Rn):jd r=cJ (MY r) r.n.toNat:=rfl
def adr{acc:UH}{r:Rn}(hs: -1<=r.s):∀k:Nat,((cJ (MY r) (k+1)).foldl m_ acc).length<=acc.length+1∧∃q,((cJ (MY r) (k+1)).foldl m_ acc).getLast?=some q/\((q.s= -1/\r.s= -1)\/(q.s≠ -1/\r.s≠ -1/\q.s+q.n=r.s+(k:Int)+1))
 |0=>by
  have e:(cJ (MY r) 1).foldl m_ acc=m_ acc (MY r 0):=rfl;rw[e];have hl:=acy acc (MY r 0);refine⟨hl,?_⟩;unfold m_;cases OL:acc.getLast? with
  |none=>
   refine⟨⟨MY r 0,1⟩,rfl,?_⟩;simp only[MY];omega
  |some q=>
   simp only;split
   ·rename_i hj;refine⟨⟨q.s,q.n+1⟩,ab,?_⟩;simp only[MY]at hj ⊢;omega
   ·refine⟨⟨MY r 0,1⟩,ab,?_⟩;simp only[MY];omega
 |k+1=>by
  obtain⟨U,q,H,h3⟩:=adr (acc:=acc) hs k;rw[Cf,zdB];generalize (cJ (MY r) (k+1)).foldl m_ acc=A at*;have hj:(MY r (k+1)= -1/\q.s= -1)\/(MY r (k+1)≠ -1/\q.s≠ -1/\q.s+q.n=MY r (k+1)):=by
   unfold MY;omega
  unfold m_
  grind
def ai0{l:UH}(h:∀r∈l,-1<=r.s):∀acc:UH,((aq l).foldl m_ acc).length<=acc.length+l.length:=by
 induction l with
 |nil=>simp[aq]
 |cons r l ih=>
  intro acc;have e:aq (r::l)=jd r++aq l:=by simp[aq]
  rw[e,zdB];have U:=ih (λq hq=>h q iJ) ((jd r).foldl m_ acc);have H:((jd r).foldl m_ acc).length<=acc.length+1:=by
   rw[DV];cases E:r.n.toNat with
   |zero=>show acc.length<=_;omega
   |succ k=>exact(adr (h r ab) k).1
  rw[zap];omega
def Kt{l:UH}(h:∀r∈l,-1<=r.s):(gT (aq l)).length<=l.length:=by
 have:=ai0 h [];simpa[gT]using this
def UR(p:Nat->Bool)(i:Nat):Bool:=p i&&(decide (i=0)||!p (i-1))
def Wd(p:Nat->Bool):∀n,(bf p n).length=eJ (UR p) n
 |0=>rfl
 |n+1=>by
  have ih:=Wd p n;have b_:=(jr p n).2.2;rw[bI,<-ih];show(if p n then sE (bf p n) n else bf p n).length=_;by_cases hp:p n=true
  ·rw[if_pos hp];by_cases hq:0<n/\p (n-1)=true
   ·obtain⟨a,r,U,H⟩:=b_.2 hq;have T:UR p n=false:=by unfold UR;rw[hq.2];simp;omega
    rw[U,rG,if_pos H,T];simp
   ·have T:UR p n=true:=by
     unfold UR
     grind
    rw[T,Sj]
    ·simp
    ·intro r J e;have ca:bf p n≠[]:=by intro h;simp_all
     have e1:=zc2 ca
     grind
  ·have T:UR p n=false:=by unfold UR;simp[hp]
   simp_all
def rO{p q:Nat->Bool}:∀{n:Nat},(∀i,i<n->p i=true->q i=true)->eJ p n<=eJ q n
 |0,_=>zai 0
 |n+1,h=>by
  have ih:=rO (n:=n) λi W=>h i V
  rw[bI,bI]
  grind
def q_{p q:Nat->Bool}:∀{n:Nat},eJ (λi=>p i||q i) n<=eJ p n+eJ q n
 |0=>zai 0
 |n+1=>by
  have ih:=q_ (p:=p) (q:=q) (n:=n);rw[bI,bI,bI]
  grind
def aAm(p q:Nat->Bool)(n:Nat):eJ (UR λi=>p i||q i) n<=eJ (UR p) n+eJ (UR q) n:=by
 refine zam (rO (q:=λi=>UR p i||UR q i) λi _ h=>?_) q_;unfold UR at h ⊢
 grind
section
def b2n(b:Bool):Nat:=if b=true then 1 else 0
section
variable (O P:Nat->Int) (ne:Nat->Bool)
def frI(i:Nat):Bool:=ne i&&decide (O i= -1)
def fdI(i:Nat):Bool:=!ne i&&decide (O i≠ -1)
def obI(i:Nat):Bool:=decide (¬rX (O (i-1)) (O i))
def nbI(i:Nat):Bool:=decide (¬rX (P (i-1)) (P i))&&!(frI O ne (i-1)&&frI O ne i)
def fbI(i:Nat):Bool:=fdI O ne i&&!(fdI O ne (i-1)&&decide (rX (O (i-1)) (O i)))
end
def axf{O P:Nat->Int}{ne:Nat->Bool}{i:Nat}(rk:∀i,ne i=false->P i= -1)(E:∀i,ne i=true->O i≠ -1->P i=O i)
 (h:ne (i-1)=ne i\/(obI O i=true/\fdI O ne i=false)):b2n (nbI O P ne i)+b2n (fbI O ne i)<=b2n (obI O i):=by
 have h3:=E (i-1);have h4:=E i;unfold nbI fbI obI fdI frI b2n at*;generalize O (i-1)=x at*;generalize O i=y at*;cases hn:ne i<;>cases hm:ne (i-1)<;>by_cases T:x= -1<;>by_cases hy:y= -1<;>simp_all[rX];all_goals(split<;>simp_all<;>omega)
def azO{O:Nat->Int}{ne:Nat->Bool}{M n:Nat}{hc:Nat->Bool}(I:∀i,i<M->O i= -1\/(0<=O i/\O i<n))(W:∀i j,i<M->j<M->O i≠ -1->O i=O j->i=j)
 (hF:∀c,hc c=true↔∃i,i<M/\fdI O ne i=true/\O i=c):eJ (UR hc) n<=eJ (fbI O ne) M:=by
 have hfd:∀i,fdI O ne i=true->O i≠ -1:=λi h=>by
  unfold fdI at h
  grind
 have hfb:∀i,fbI O ne i=true->fdI O ne i=true:=λi h=>by
  unfold fbI at h
  grind
 have hd:sU (cJ (λi=>if fbI O ne i=true then O i else-1) M):=Py λi j x U H T=>by
  have Xp:i<M:=by have:=(zaa.1 U).1;simp_all
  have xJ:j<M:=by have:=(zaa.1 H).1;simp_all
  rw[bw Xp]at U;rw[bw xJ]at H
  grind
 have hm:=EN (n:=n) hd λx T=>by
  obtain⟨i,Xp,rfl⟩:=zaX.1 T
  grind
 rw[Ko]at hm;have e:eJ (λi=>decide ((if fbI O ne i=true then O i else-1)≠ -1)) M=eJ (fbI O ne) M:=fj λi _=>by
  grind
 rw[e]at hm;rw[<-hm];refine rO λc _ F=>?_
 unfold UR at F;simp only[zaT,zbF,decide_eq_true_eq,zbv]at F;obtain⟨U,H⟩:=F;obtain⟨i,Xp,h3,h4⟩:=(hF c).1 U;rw[decide_eq_true_eq];refine zaX.2 ⟨i,zbp.2 Xp,?_⟩;by_cases g:fbI O ne i=true
 ·simp_all
 ·unfold fbI at g;rw[h3]at g;simp only[Bool.true_and,zbv,Bool.not_eq_false,zaT,decide_eq_true_eq]at g;obtain⟨g1,g2⟩:=g;unfold rX at g2
  grind
end
def ffI(P:Nat->Int)(m:Nat->Bool)(i:Nat):Bool:=decide (0<i)&&(m (i-1)&&m i)&&decide (¬rX (P (i-1)) (P i))
def auC{P G:Nat->Int}{m:Nat->Bool}(h:∀i,m i=true->P i=G (eJ m i)):∀n,eJ (ffI P m) n<=eJ (λk=>decide (0<k)&&decide (¬rX (G (k-1)) (G k))) (eJ m n)
 |0=>zai 0
 |n+1=>by
  have ih:=auC h n;rw[bI,bI];cases hm:m n with
  |false=>
   have:ffI P m n=false:=by unfold ffI;rw[hm];simp
   simp_all
  |true=>
   rw[if_pos rfl,bI];cases hf:ffI P m n with
   |false=>grind
   |true=>
    unfold ffI at hf;have e:eJ m n=eJ m (n-1)+1:=by
     have:=bI m (n-1)
     grind
    grind
def aaM{nb fb ob ct:Nat->Bool}:∀{M:Nat},(∀i,i<M->ct i=false->b2n (nb i)+b2n (fb i)<=b2n (ob i))->eJ nb M+eJ fb M<=eJ (λi=>ob i&&!ct i) M+2*eJ ct M
 |0,_=>zai 0
 |M+1,h=>by
  have ih:=aaM (M:=M) λi W=>h i V
  have U:=h M V;unfold b2n at U;rw[bI,bI,bI,bI]
  grind
def apN(l:UH):Prop:=∀(i:Nat) (q r:Rn),l[i]?=some q->l[i+1]?=some r→¬iw q r
def arX{acc:UH}{a:Int}(h:apN acc):apN (m_ acc a):=by
 unfold m_;cases hl:acc.getLast? with
 |none=>
  intro i q r U H;simp at H
 |some q=>
  simp only;have aiM:acc[acc.length-1]?=some q:=au;split
  ·intro i x y U H hj;have W:=(zaa.1 H).1;rw[zad,zdE,za2]at W;rw[zar (by simp_all),zdD,if_pos V]at U;by_cases g:i+1<acc.length-1
   ·rw[zar (by simp_all),zdD,if_pos V]at H;exact h i x y U H hj
   ·rw[zak (by simp_all),zdE,show i+1-(acc.length-1)=0 by omega]at H;have H:=Option.some.inj H;subst H;refine h i x q U ?_ hj
    grind
  ·intro i x y U H hj;have W:=(zaa.1 H).1;rw[zad,za2]at W;rw[zar V]at U;by_cases g:i+1<acc.length
   ·rw[zar V]at H;exact h i x y U H hj
   ·rw[zak V,show i+1-acc.length=0 by omega]at H;have H:=Option.some.inj H;subst H;rw[show i=acc.length-1 by omega,aiM]at U;unfold iw at hj
    simp_all
def aws(l:OG):apN (gT l):=by
 have:∀n,n<=l.length->apN (gT (l.take n)):=by
  intro n
  induction n with
  |zero=>intro _ i q r U _;simp[gT]at U
  |succ n ih=>
   intro hn;have ha:l[n]?=some l[n]:=zah V;rw[ID ha];exact arX (ih V)
 have:=this l.length (zai _)
 simp_all
def Zf{r:Rn}{x:Int}(hs:r.s≠ -1)(h:r.s<=x/\x<r.s+r.n):x∈jd r:=by
 refine zaX.2 ⟨(x-r.s).toNat,zbp.2 V,?_⟩;omega
def Wo{l:OG}(I:∀x∈l,x= -1\/(0<=x/\x<512))(hd:sU l)(hl:l.length<=4096)(hn:(gT l).length<=64):dv (gT l)=0:=by
 have nj:∀a∈l,-1<=a/\a<=1000000:=λa ha=>by rcases I a ha with h|h<;>omega
 have hp:=zh nj;have hq:=(Y2 nj l.length).2;rw[zcP]at hq;have hap:=aws l;have hpw:=hd;rw[<-hp]at hpw;have hpw:=(zdz.1 hpw).2;rw[zdw]at hpw;have FI:∀r∈gT l,∀x∈jd r,x∈l:=λr J x T=>by
  rw[<-hp];exact zbB.2 ⟨r,J,T⟩
 have b_:∀r∈gT l,ir r:=λr J=>by
  have U:=hq r J;have H:=U.1;have h3:=U.2;unfold ir;split
  ·omega
  ·rename_i hs;have a2:=I _ (FI r J _ (Zf (x:=r.s+r.n-1) hs V));omega
 have h0:∀k,k<(gT l).length->Sk (gT l) k=0:=λk E=>by
  unfold Sk;have hg:(gT l)[k]?=some (gT l)[k]:=zah E;rw[hg];simp only;rw[if_neg (λh=>h (b_ _ (zdn E))),if_neg,if_neg]
  ·rintro⟨j,hj,q,hjq,hs⟩;have xJ:j<(gT l).length:=V;have e:(gT l)[j]=q:=by
    grind
   subst e;obtain⟨s1,s2,s3,s4⟩:=hs;have b1:=(hq _ (zdn xJ))
   have b2:=(hq _ (zdn E))
   have n1:=b1.1;have n2:=b2.1;have:=hpw j k xJ E hj (max (gT l)[j].s (gT l)[k].s) (Zf s1 V) (max (gT l)[j].s (gT l)[k].s) (Zf s2 V) V;exact this rfl
  ·rintro⟨U,q,H,h3⟩;exact hap (k-1) q (gT l)[k] H au h3
 unfold dv;rw[OP hn h0];have hs:=sb (l:=gT l) (λr J=>by have:=(hq r J).1;omega)
 grind
def TW{a:At}(J:a.rs=false):(NJ a).length=Lv a:=by
 have U:=iK (oL a+a.nm.length);have H:=iK (atN a+(y3 a).length);have e1:atN a=EK (oL a+a.nm.length):=rfl;have e2:Lv a=EK (atN a+(y3 a).length):=rfl;have hh:oL a=40:=by unfold oL;rw[J];rfl
 have hf:(apU a).length=40:=by
  unfold apU anC;rw[J];simp only[zad,jZ,bZ,Bool.false_eq_true,if_false]
 unfold NJ;rw[zad,zad,zad,zad,hf,bZ,bZ];omega
def aom{s:St}{C:P8}{v:Int}{dt:Nat->Prop}(hs:iW s.a=0)(ht:s.a.ty=128)(hC:C.length<=32768)(hv:0<=v/\v<=C.length)
 (I:∀x∈zX s C dt,x= -1\/(0<=x/\x<512)) (hd:sU (zX s C dt)) (hl:(zX s C dt).length<=128) (hn:(gT (zX s C dt)).length<=64):iW (yf s C v dt)=0:=by
 have h0:Lz s.a=0:=by
  unfold iW at hs
  grind
 have ok:=YV.of h0;have J:=Wo I hd V hn;have hrk:=bz J;have hu:br (zX s C dt)<=128:=zam (zda _ _) hl;have E:Dx (yf s C v dt)=0:=by
  show xU (yf s C v dt)=0;unfold xU;have e1:(yf s C v dt).rn.l=gT (zX s C dt):=rfl;rw[e1,J,if_neg,if_neg,if_neg,if_neg,if_neg,if_neg,if_neg,if_neg,if_neg]
  ·show ¬((C.length:Int)<v);omega
  ·refine λh=>h ?_
   show(0<=((br (zX s C dt):Nat):Int)*256/\((br (zX s C dt):Nat):Int)*256<=1048576)/\(0<=(C.length:Int)/\(C.length:Int)<=1048576)/\(0<=v/\v<=1048576);omega
  ·show ¬((0:Int)<0/\_);omega
  ·show ¬(4096<0+aF (gT (zX s C dt)));omega
  ·show ¬((0:Int)<0/\_);omega
  ·simp
  ·show ¬ ¬((0:Int)<=0/\(0:Int)<=4096);omega
  ·show ¬([]:P8)≠[];simp
  ·show ¬s.a.ty∈Tv;rw[ht];decide
 have hw:(NJ (yf s C v dt)).length<=440:=by
  rw[TW rfl];have U:=iK (40+s.a.nm.length);have hbd:(y3 (yf s C v dt)).length<=321:=by
   show(rr (gT (zX s C dt))).length<=321;unfold rr;have:=H2 (gT (zX s C dt)) _ (zai _)
   grind
  have hnm:=ok.nmL;have e1:atN (yf s C v dt)=EK (40+s.a.nm.length):=rfl;have H:=iK (atN (yf s C v dt)+(y3 (yf s C v dt)).length);show EK (atN (yf s C v dt)+(y3 (yf s C v dt)).length)<=440;omega
 unfold iW;rw[if_neg,if_neg V];refine λh=>h ?_
 unfold Lz;rw[if_neg,if_neg,if_neg,E]
 ·exact λh=>h ok.idf
 ·exact λh=>h ok.nm
 ·exact λh=>h ok.NB
def OU(p:Nat->Bool)(a:Nat):∀b,eJ p (a+b)=eJ p a+eJ (λj=>p (a+j)) b
 |0=>rfl
 |b+1=>by rw[<-Nat.add_assoc,bI,bI,OU p a b];omega
def anH(p:Nat->Bool){a n:Nat}(h:a<=n):eJ p a<=eJ p n:=by
 rw[show n=a+(n-a) by omega,OU];omega
def yJ{p:Nat->Bool}:∀{n:Nat},(∀i,i<n->p i=false)->eJ p n=0
 |0,_=>rfl
 |n+1,h=>by rw[bI,yJ (n:=n) λi W=>h i V,h n V];rfl
def ahA{p:Nat->Bool}{a n:Nat}(h:∀i,a<=i->p i=false)(ha:a<=n):eJ p n=eJ p a:=by
 rw[show n=a+(n-a) by omega,OU,yJ (n:=n-a) λi _=>h _ V];rfl
def PN(n:Nat):∀cs:QK,eJ (λi=>decide (i∈cs)) n<=cs.length
 |[]=>by rw[yJ λi _=>ab];omega
 |c::cs=>by
  have ih:=PN n cs;have U:=q_ (p:=λi=>decide (i=c)) (q:=λi=>decide (i∈cs)) (n:=n);have H:=rq (k:=c) (n:=n)
  grind
def YG(c:Nat->Nat):∀n,eJ (λi=>decide (i%16=c (i/16))) (16*n)<=n
 |0=>zai 0
 |n+1=>by
  have ih:=YG c n;rw[zdH,OU];have e:eJ (λj=>decide ((16*n+j)%16=c ((16*n+j)/16))) 16=eJ (λj=>decide (j=c n)) 16:=fj λj hj=>by
   grind
  rw[e,rq]
  grind
def Ga(s:St)(i:Nat):Int:=s.pl[i]?.getD (-1)
def ZB{s:St}{i:Nat}:x5 s i↔Ga s i≠ -1:=by
 unfold x5 Ga
 grind
def Ig(s:St)(dt:Nat->Prop):Prop:=s.a.fl/2%2=1→∃cs:QK,cs.length<=4∧∀i,1<=i->i∉cs->(dt (i-1)↔dt i)\/((x5 s (i-1)↔dt (i-1))/\(x5 s i↔dt i))
def adE(C:P8)(k:Nat):Nat:=if k<(C.length+4095)/4096 then((gM (qG C k)).length+255)/256 else 0
def air{s:St}{C:P8}{dt:Nat->Prop}(F:s.a.fl%2=1){k j:Nat}(hj:j<16):gB (aJ s C dt) (16*k+j)=decide (j<adE C k):=by
 have hl:(aJ s C dt).length=16*((C.length+4095)/4096):=HQ;unfold gB adE;by_cases E:k<(C.length+4095)/4096
 ·rw[if_pos E,Sv F,O2 hj E,zbE,zaN,decide_eq_true_eq,decide_eq_true_eq];rw[<-zb9,zal,zay];omega
 grind
def Hb{s:St}{C:P8}{dt:Nat->Prop}(F:¬s.a.fl%2=1){i:Nat}:gB (aJ s C dt) i=true↔i<(C.length+255)/256/\(s.a.fl/2%2=1->dt i):=by
 have hl:(aJ s C dt).length=(C.length+255)/256:=by rw[rv,if_neg F]
 constructor
 ·intro h;have W:=sY h;rw[hl]at W;unfold gB at h;rw[O9 F W]at h;unfold Wt at h
  grind
 ·rintro⟨W,hs⟩;unfold gB;rw[O9 F W,zbE,decide_eq_true_eq];unfold Wt;rw[if_neg λh=>h.2 (hs h.1)];intro e;have h5:=congrArg List.length e;rw[vK au]at h5;cases h5
def zU(_:Nat):Nat:=0
def ao5{a b:Bool}(h:a=true↔b=true):a=b:=au
def aw0{s:St}{C:P8}{dt:Nat->Prop}(hC:C.length<=32768)(PG:Ig s dt):∃ct:Nat->Bool,ct 0=true/\eJ ct 128<=16/\
 ∀i,i<128->ct i=false->gB (aJ s C dt) (i-1)=gB (aJ s C dt) i\/(obI (Ga s) i=true/\fdI (Ga s) (gB (aJ s C dt)) i=false):=by
 by_cases F:s.a.fl%2=1
 ·refine⟨λi=>decide (i%16=zU (i/16))||decide (i%16=adE C (i/16)),rfl,?_,λi W hf=>.inl ?_⟩
  ·have U:=YG zU 8;have H:=YG (adE C) 8;have h3:=q_ (p:=λi=>decide (i%16=zU (i/16))) (q:=λi=>decide (i%16=adE C (i/16))) (n:=128);have e:16*8=128:=rfl;rw[e]at U H;omega
  ·simp only[Bool.or_eq_false_iff,decide_eq_false_iff_not]at hf;have hz:i%16≠0:=hf.1;have e1:i=16*(i/16)+i%16:=V;have e2:i-1=16*(i/16)+(i%16-1):=V;have g1:=air (C:=C) (dt:=dt) F (k:=i/16) (j:=i%16) V;have g2:=air (C:=C) (dt:=dt) F (k:=i/16) (j:=i%16-1) V
   grind
 ·by_cases hs:s.a.fl/2%2=1
  ·obtain⟨cs,iX,nO⟩:=PG hs;refine⟨λi=>decide (i∈0::(C.length+255)/256::cs),ab,?_,λi W hf=>?_⟩
   ·have:=PN 128 (0::(C.length+255)/256::cs);simp only[zap]at this;omega
   ·simp only[decide_eq_false_iff_not,zax,not_or]at hf;obtain⟨f1,f2,f3⟩:=hf;have g1:=Hb (C:=C) (dt:=dt) F (i:=i);have g2:=Hb (C:=C) (dt:=dt) F (i:=i-1);by_cases hn:i<(C.length+255)/256
    ·rcases nO i V f3 with h|⟨U,H⟩
     ·grind
     ·by_cases hd:dt (i-1)↔dt i
      ·grind
      ·right;rw[ZB]at U H;constructor
       ·unfold obI rX
        grind
       ·unfold fdI
        grind
    grind
  ·refine⟨λi=>decide (i∈[0,(C.length+255)/256]),ab,?_,λi W hf=>.inl ?_⟩
   ·have:=PN 128 [0,(C.length+255)/256];simp only[zap,zbh]at this;omega
   ·simp only[decide_eq_false_iff_not,zax,not_or]at hf;obtain⟨f1,f2,f3⟩:=hf;refine ao5 ?_;rw[Hb F,Hb F];exact⟨λg=>⟨V,λh=>absurd h hs⟩,λg=>⟨V,λh=>absurd h hs⟩⟩
def as9{O P:Nat->Int}{ne ct:Nat->Bool}(rk:∀i,ne i=false->P i= -1)(E:∀i,ne i=true->O i≠ -1->P i=O i)
 (PG:eJ ct 128<=16) (HE:∀i,i<128->ct i=false->ne (i-1)=ne i\/(obI O i=true/\fdI O ne i=false)) (hob:eJ (λi=>obI O i&&!ct i) 128<=16):
 eJ (nbI O P ne) 128+eJ (fbI O ne) 128<=48:=by
 have:=aaM (nb:=nbI O P ne) (fb:=fbI O ne) (ob:=obI O) (ct:=ct) (M:=128) λi W F=>axf rk E (HE i W F)
 omega
def axa{O P:Nat->Int}{ne:Nat->Bool}{n:Nat}(hn:n<=128):eJ (HF P) n<=1+eJ (nbI O P ne) 128+eJ (ffI P (frI O ne)) 128:=by
 have U:=anH (HF P) hn;have H:eJ (HF P) 128<=eJ (λi=>decide (i=0)||(nbI O P ne i||ffI P (frI O ne) i)) 128:=rO λi _ h=>by
  unfold HF at h;by_cases h0:i=0
  ·simp[h0]
  ·unfold nbI ffI
   grind
 have h3:=q_ (p:=λi=>decide (i=0)) (q:=λi=>nbI O P ne i||ffI P (frI O ne) i) (n:=128);have h4:=q_ (p:=nbI O P ne) (q:=ffI P (frI O ne)) (n:=128);have h5:=rq (k:=0) (n:=128)
 grind
def awi{l:OG}{ct:Nat->Bool}(h0:ct 0=true)(hl:l.length<=128)(I:∀x∈l,-1<=x):eJ (λi=>obI (λi:Nat=>l[i]?.getD (-1)) i&&!ct i) 128<=(gT l).length:=by
 have hO:∀i,-1<=(λi:Nat=>l[i]?.getD (-1)) i:=λi=>by
  show-1<=l[i]?.getD (-1);cases h:l[i]? with
  |none=>simp
  |some a=>exact I a (zag h)
 have ht:cJ (λi:Nat=>l[i]?.getD (-1)) l.length=l:=by
  refine zbb λi=>?_
  by_cases W:i<l.length
  ·rw[bw W,zah W];rfl
  simp_all
 have J:=(Jw hO l.length).1;rw[ht]at J;rw[J];have VL:∀i,l.length<=i->(λi:Nat=>l[i]?.getD (-1)) i= -1:=λi W=>by
  grind
 generalize hOO:(λi:Nat=>l[i]?.getD (-1))=O at*;have U:eJ (λi=>obI O i&&!ct i) 128<=eJ (λi=>(decide (0<i)&&(decide (i<l.length)&&HF O i))||(decide (i=l.length)&&decide (0<l.length))) 128:=rO λi W h=>by
  simp only[zaT,zbv]at h;have hi0:i≠0:=by rintro rfl;rw[h0]at h;cases h.2
  have H:=h.1;unfold obI at H;rw[decide_eq_true_eq]at H;by_cases g:i<l.length
  ·have:HF O i=true:=by unfold HF;rw[decide_eq_true_eq];exact .inr H
   simp[g,this];omega
  ·by_cases g2:i=l.length
   ·simp[g2];omega
   ·exfalso;refine H (.inl ⟨VL _ V,VL _ V⟩)
 refine zam U (zam q_ ?_);by_cases hp:0<l.length
 ·have H:eJ (λi=>decide (0<i)&&(decide (i<l.length)&&HF O i)) 128=eJ (λi=>decide (0<i)&&(decide (i<l.length)&&HF O i)) l.length:=ahA (λi W=>by
   have:¬i<l.length:=V;simp[this]) hl
  have h3:eJ (λi=>decide (i=l.length)&&decide (0<l.length)) 128<=1:=by
   have h4:=rq (k:=l.length) (n:=128)
   grind
  have h4:=uP (p:=λi=>decide (i=0)) (q:=λi=>decide (0<i)&&(decide (i<l.length)&&HF O i)) (n:=l.length) λi _ h=>by
   grind
  have h5:eJ (λi=>decide (i=0)||(decide (0<i)&&(decide (i<l.length)&&HF O i))) l.length<=eJ (HF O) l.length:=rO λi W h=>by
   simp only[decide_eq_true_eq,zaT,zbF]at h;rcases h with h|h
   ·unfold HF;simp[h]
   ·exact h.2.2
  have h6:=rq (k:=0) (n:=l.length);rw[if_pos hp]at h6;omega
 ·have H:eJ (λi=>decide (0<i)&&(decide (i<l.length)&&HF O i)) 128=0:=yJ λi _=>by
   have:¬i<l.length:=V;simp[this]
  grind
def ag1(s:P8)(n:Nat):(k7 s n).length=eJ (UR (jF s 0)) n:=by unfold k7;rw[Wd,zaC]
def aob{p q:Nat->Bool}{n:Nat}(h:∀i,i<n->p i=q i):eJ (UR p) n=eJ (UR q) n:=fj λi W=>by
 unfold UR
 grind
def azo(ps:List (P8))(s:St):frI (Ga s) (gB ps)=z6 ps s.pl:=by
 unfold frI z6 jI Ga
 grind
def fdF(O:Nat->Int)(ne:Nat->Bool)(c:Nat):Bool:= @decide (∃i,i<128/\fdI O ne i=true/\O i=(c:Int)) (Classical.propDecidable _)
def ahs(O:Nat->Int)(ne:Nat->Bool)(c:Nat):fdF O ne c=true↔∃i,i<128/\fdI O ne i=true/\O i=(c:Int):=by
 unfold fdF;simp
def awE{d:Dk}{a:At}(h0:aI d a=0)(hd:D8 d)(hn:a.nm.length<=1000000){ps:List (P8)}(hl:ps.length<=128):
 (k7 (gm (cJ (n6 ps (aq a.rn.l) (db d)) d.n)) d.n).length<=(k7 d.mp d.n).length+eJ (fbI (Ga (aj d a)) (gB ps)) 128:=by
 obtain⟨ok,_⟩:=aL h0;have st:=ok.st hd hn;have Ec:sU (aq a.rn.l):=lv ok.rn;have I:=Ze st;have hn5:=st.n;have hlen:=st.len;have ye:(aj d a).pl=aq a.rn.l:=rfl;have PH:(aj d a).d=d:=rfl;rw[ye]at I hlen;rw[PH]at I hn5;have Gw:=xi (l:=cJ (n6 ps (aq a.rn.l) (db d)) d.n) nd;rw[b8]at Gw;rw[ag1,ag1];have hF:=ahs (Ga (aj d a)) (gB ps);have hbO:∀i,i<128->Ga (aj d a) i= -1\/(0<=Ga (aj d a) i/\Ga (aj d a) i<d.n):=λi _=>by
  unfold Ga;rw[ye];cases hp:(aq a.rn.l)[i]? with
  |none=>exact .inl rfl
  |some x=>have:=I x (zag hp);simp only[zbE];omega
 have hiO:∀i j,i<128->j<128->Ga (aj d a) i≠ -1->Ga (aj d a) i=Ga (aj d a) j->i=j:=λi j _ _ U H=>by
  unfold Ga at U H;rw[ye]at U H;cases hp:(aq a.rn.l)[i]? with
  |none=>rw[hp]at U;exact absurd rfl U
  |some x=>
   rw[hp,zbE]at U H;cases hq:(aq a.rn.l)[j]? with
   |none=>rw[hq]at H;exact absurd H U
   |some y=>
    rw[hq,zbE]at H;subst H;exact H4 Ec hp hq U
 have U:=azO (M:=128) (n:=d.n) (ne:=gB ps) hbO hiO hF;have H:=aAm (jF d.mp 0) (fdF (Ga (aj d a)) (gB ps)) d.n;have e:eJ (UR (jF (gm (cJ (n6 ps (aq a.rn.l) (db d)) d.n)) 0)) d.n=eJ (UR λi=>jF d.mp 0 i||fdF (Ga (aj d a)) (gB ps) i) d.n:=aob λc F=>by
  rw[zaN,zbF,ahs];have T:∀s:P8,jF s 0 c=true↔aU s c=0:=λs=>by
   unfold jF;have:=fV s c;simp;try omega
  rw[T,T,Gw.2,if_pos F,bw F,zbE];have hbn:jS (n6 ps (aq a.rn.l) (db d) c)=0↔n6 ps (aq a.rn.l) (db d) c=false:=by cases n6 ps (aq a.rn.l) (db d) c<;>simp[jS]
  rw[hbn];show(if (c:Int)∈aq a.rn.l then decide ((c:Int)∈Kd ps (aq a.rn.l))else db d c)=false↔_;have KH:(c:Int)∈Kd ps (aq a.rn.l)↔∃i,i<ps.length/\jI ps (aq a.rn.l) i=c:=by
   unfold Kd;constructor
   ·intro h;obtain⟨i,W,e⟩:=zaX.1 h;exact⟨i,zbp.1 W,e⟩
   ·rintro⟨i,W,e⟩;exact zaX.2 ⟨i,zbp.2 W,e⟩
  by_cases hp:(c:Int)∈aq a.rn.l
  ·rw[if_pos hp,decide_eq_false_iff_not,KH];obtain⟨j,hj⟩:=zaG.1 hp;have xJ:j<128:=by have:=(zaa.1 hj).1;omega
   have hOj:Ga (aj d a) j=c:=by unfold Ga;rw[ye,hj];rfl
   constructor
   ·intro h;right;refine⟨j,xJ,?_,hOj⟩;unfold fdI;rw[zaT,decide_eq_true_eq,hOj];refine⟨?_,V⟩;cases hn:gB ps j with
    |false=>rfl
    |true=>
     refine absurd ⟨j,sY hn,?_⟩ h;unfold jI;rw[if_pos hn,hj];rfl
   ·rintro(h|⟨i,W,h3,h4⟩)
    ·have:=nq h0 hp;omega
    ·rintro⟨k,E,hkc⟩;have nr:=IU (ps:=ps) (pl:=aq a.rn.l) (i:=k) V;rw[hkc]at nr;have hnk:=(Pj.1 (show jI ps (aq a.rn.l) k≠ -1 by omega)).1;have sC:i=k:=by
      have h5:Ga (aj d a) k=c:=by unfold Ga;rw[ye,nr];rfl
      refine hiO i k W ?_ V V;have:=(zaa.1 nr).1;omega
     subst sC;unfold fdI at h3;rw[hnk]at h3;simp at h3
  ·rw[if_neg hp];unfold db;rw[decide_eq_false_iff_not];have A8:=fV d.mp c;constructor
   ·intro h;left;omega
   ·rintro(h|⟨i,W,h3,h4⟩)
    ·omega
    ·exfalso;refine hp ?_;unfold Ga at h4;rw[ye]at h4;cases hq:(aq a.rn.l)[i]? with
     |none=>rw[hq]at h4;simp at h4
     |some x=>
      rw[hq,zbE]at h4;rw[<-h4];exact zag hq
 omega
def amg{d:Dk}{a:At}{C:P8}{v:Int}{dt:Nat->Prop}(h0:aI d a=0)(hd:D8 d)(hn:a.nm.length<=1000000)(F:yX (aj d a) C v dt)(PG:Ig (aj d a) dt)
 (J:a.rn.l.length<=16) (T:(k7 d.mp d.n).length<=16):zW (aj d a) C v dt≠8:=by
 obtain⟨ok,_⟩:=aL h0;have st:=ok.st hd hn;have Ec:sU (aq a.rn.l):=lv ok.rn;have I:=Ze st;have hn5:=st.n;have hlen:=st.len;obtain⟨s1,s2,s3,s4,s5⟩:=iV ok.str;have hC:=F.len;have hv:=F.vb;have qk:=rv (aj d a) C dt;have ET:(aJ (aj d a) C dt).length<=128:=Rx;have ye:(aj d a).pl=aq a.rn.l:=rfl;have PH:(aj d a).d=d:=rfl;obtain⟨ct,c0,c1,c2⟩:=aw0 hC PG;have hO:(λi=>(aq a.rn.l)[i]?.getD (-1))=Ga (aj d a):=rfl;have hob:=awi (l:=aq a.rn.l) c0 (by rw[ye]at hlen;exact hlen) (λx T=>(I x T).1);have hro:=Kt (l:=a.rn.l) λr J=>by
  have:=(bz ok.rn).2.2.2 r J;unfold ir at this;split at this<;>omega
 rw[hO]at hob;have aK7:=awE h0 hd hn ET;have aBW:=abN h0 hd hn (ps:=aJ (aj d a) C dt) V;have rk:∀i,gB (aJ (aj d a) C dt) i=false->Ax (aj d a) C dt i= -1:=λi W=>by
  unfold Ax x7 z6 jI;rw[W];simp
 have E:∀i,gB (aJ (aj d a) C dt) i=true->Ga (aj d a) i≠ -1->Ax (aj d a) C dt i=Ga (aj d a) i:=λi W U=>by
  unfold Ax x7 z6 jI;unfold Ga at U ⊢;rw[W];simp[U]
 have hbs:=as9 (O:=Ga (aj d a)) (P:=Ax (aj d a) C dt) rk E c1 c2 V;have hX:(k7 (gm (cJ (n6 (aJ (aj d a) C dt) (aq a.rn.l) (db d)) d.n)) d.n).length<=64:=V;have hpe:∀e,wi (aJ (aj d a) C dt) (aj d a).pl (db (aj d a).d) (aj d a).d.n=e->e≠0->e=16:=λe he ca=>by
  subst he;rcases aBW ca with h|h
  ·exact h.1
  ·omega
 unfold zW;split
 ·rename_i g;rw[hpe _ rfl g];decide
 rename_i g;have g:=zcN.1 g;have fu:=axa (O:=Ga (aj d a)) (P:=Ax (aj d a) C dt) (ne:=gB (aJ (aj d a) C dt)) ET;have pl:=aur st Ec (ps:=aJ (aj d a) C dt) V g;have hP:∀i,-1<=Ax (aj d a) C dt i:=λi=>by
  cases h:gB (aJ (aj d a) C dt) i with
  |false=>rw[rk i h];exact zdJ _
  |true=>have:=(pl.yes i (sY h) h).1;unfold Ax;omega
 have Xo:=(Jw hP (aJ (aj d a) C dt).length).1;have hff:eJ (ffI (Ax (aj d a) C dt) (frI (Ga (aj d a)) (gB (aJ (aj d a) C dt)))) 128<=15+eJ (fbI (Ga (aj d a)) (gB (aJ (aj d a) C dt))) 128:=by
  rw[azo];by_cases hm:iT (aJ (aj d a) C dt) (aj d a).pl=0
  ·rw[yJ]
   ·omega
   ·intro i W;have:z6 (aJ (aj d a) C dt) (aj d a).pl i=false:=by
     cases h:z6 (aJ (aj d a) C dt) (aj d a).pl i with
     |false=>rfl
     |true=>
      have ca:gB (aJ (aj d a) C dt) i=true:=by unfold z6 at h;exact(zaT _ _▸h).1
      have:=Xt (sY ca) h;unfold iT at hm;omega
    unfold ffI;rw[this];simp
  ·have hgt:=g;unfold wi at hgt;rw[if_neg hm]at hgt;have gt:=apQ st (ps:=aJ (aj d a) C dt) V hm hgt;have hgl:=gt.len;have hgr:=Kt (l:=Df (gm (cJ (n6 (aJ (aj d a) C dt) (aj d a).pl (db (aj d a).d)) (aj d a).d.n)) (aj d a).d.n (iT (aJ (aj d a) C dt) (aj d a).pl) (M5 (aJ (aj d a) C dt) (aj d a).pl (aJ (aj d a) C dt).length)) λr J=>by have:=(gt.rn r J).1;omega
   have tg:=auR st (ps:=aJ (aj d a) C dt) V g;have hnw:mT (aJ (aj d a) C dt) (aj d a).pl (db (aj d a).d) (aj d a).d.n=aq (Df (gm (cJ (n6 (aJ (aj d a) C dt) (aj d a).pl (db (aj d a).d)) (aj d a).d.n)) (aj d a).d.n (iT (aJ (aj d a) C dt) (aj d a).pl) (M5 (aJ (aj d a) C dt) (aj d a).pl (aJ (aj d a) C dt).length)):=by unfold mT gtL;rw[if_neg hm]
   have U:=auC (P:=Ax (aj d a) C dt) (G:=λk=>(mT (aJ (aj d a) C dt) (aj d a).pl (db (aj d a).d) (aj d a).d.n)[k]?.getD 0) (m:=z6 (aJ (aj d a) C dt) (aj d a).pl) (λi W=>by
    show x7 _ _ _ i=_;unfold x7;rw[if_pos W,Re]) 128
   have HM:eJ (z6 (aJ (aj d a) C dt) (aj d a).pl) 128=iT (aJ (aj d a) C dt) (aj d a).pl:=by
    unfold iT;rw[Re];refine ahA (λi W=>?_) ET;unfold z6;cases h:gB (aJ (aj d a) C dt) i with
    |false=>rfl
    |true=>have:=sY h;omega
   rw[<-hnw]at hgr;rw[ye,PH]at hgl hgr tg U;rw[ye]at HM;generalize mT (aJ (aj d a) C dt) (aq a.rn.l) (db d) d.n=fr at*;rw[HM]at U;have ht:cJ (λk:Nat=>fr[k]?.getD 0) fr.length=fr:=by
    refine zbb λi=>?_
    by_cases W:i<fr.length
    ·rw[bw W,zah W];rfl
    ·rw[zaM nd,zaM V]
   have hGb:∀k,-1<=(λk:Nat=>fr[k]?.getD 0) k:=λk=>by
    show-1<=fr[k]?.getD 0;cases h:fr[k]? with
    |none=>simp
    |some x=>have:=(tg.2.2 x (zag h)).1;simp only[zbE];omega
   have hrf:=(Jw hGb fr.length).1;rw[ht,tg.1]at hrf;have h5:=uP (p:=λi=>decide (i=0)) (q:=λk=>decide (0<k)&&decide (¬rX (fr[k-1]?.getD 0) (fr[k]?.getD 0))) (n:=iT (aJ (aj d a) C dt) (aq a.rn.l)) λi _ h=>by
    simp only[decide_eq_true_eq,zaT]at h;omega
   have h6:=rq (k:=0) (n:=iT (aJ (aj d a) C dt) (aq a.rn.l));rw[ye]at hm;rw[if_pos V]at h6;have h7:eJ (λi=>decide (i=0)||(decide (0<i)&&decide (¬rX (fr[i-1]?.getD 0) (fr[i]?.getD 0)))) (iT (aJ (aj d a) C dt) (aq a.rn.l))<=eJ (HF λk:Nat=>fr[k]?.getD 0) (iT (aJ (aj d a) C dt) (aq a.rn.l)):=rO λi W h=>by
    unfold HF;simp only[decide_eq_true_eq,zaT,zbF]at h ⊢;exact h.imp id λg=>g.2
   rw[ye];omega
 have hru:(gT (zX (aj d a) C dt)).length<=64:=by
  show(gT (cJ (Ax (aj d a) C dt) (aJ (aj d a) C dt).length)).length<=64;omega
 have Ea:iW (yf (aj d a) C v dt)=0:=by
  refine aom s1 ?_ hC hv (λx T=>?_) ?_ (by show(cJ _ _).length<=128;rw[b8];exact ET) hru
  ·show a.ty=128;omega
  ·obtain⟨i,W,rfl⟩:=zaX.1 T;cases h:gB (aJ (aj d a) C dt) i with
   |false=>exact .inl (rk i h)
   |true=>
    have:=pl.yes i (sY h) h;right;unfold Ax;rw[PH]at this hn5;rw[PH];omega
  ·refine Py λi j x W hj hxx=>?_
   have Xp:i<(aJ (aj d a) C dt).length:=by have:=(zaa.1 W).1;rwa[show(zX (aj d a) C dt).length=(aJ (aj d a) C dt).length from b8]at this
   have xJ:j<(aJ (aj d a) C dt).length:=by have:=(zaa.1 hj).1;rwa[show(zX (aj d a) C dt).length=(aJ (aj d a) C dt).length from b8]at this
   unfold zX at W hj;rw[bw Xp]at W;rw[bw xJ]at hj;have W:=Option.some.inj W;have hj:=Option.some.inj hj;refine pl.inj i j Xp xJ ?_ (by show Ax (aj d a) C dt i=Ax (aj d a) C dt j;omega);cases h:gB (aJ (aj d a) C dt) i with
   |true=>rfl
   |false=>have:=rk i h;omega
 rw[if_neg]
 ·decide
 ·rintro(h|h)
  ·omega
  ·exact h Ea
def A3(a b:P8)(i:Nat):tx (a++b) i=if i<a.length then tx a i else tx b (i-a.length):=by
 unfold tx
 grind
def K3(n i:Nat):tx (aC n) i=0:=by
 unfold tx aC
 grind
def y4(l:P8)(n i:Nat):tx (l.take n) i=if i<n then tx l i else 0:=by
 unfold tx
 grind
def Rp(l:P8)(n i:Nat):tx (l.drop n) i=tx l (n+i):=by
 unfold tx;simp
def Ps{l:P8}{i:Nat}(h:l.length<=i):tx l i=0:=by
 unfold tx
 grind
def Pp(l:P8)(n i:Nat):tx (jK l n) i=tx l i:=by
 unfold jK;rw[A3,K3];split
 ·rfl
 ·rw[Ps V]
def aha{a b:P8}(h:a.length=b.length)(g:∀i,i<a.length->tx a i=tx b i):a=b:=by
 refine vU rfl h.symm λi W=>?_
 have:=g i W;unfold tx at this
 grind
def afw{C dat:P8}{p:Nat}(i:Nat):tx (ZN C p dat) i=if p<=i/\i<p+dat.length then tx dat (i-p)else tx C i:=by
 have hl:p+dat.length<=(jK C (p+dat.length)).length:=by unfold jK;rw[zad,bB];omega
 unfold ZN;rw[A3,A3,zad,zal,show min p (jK C (p+dat.length)).length=p by omega,y4,Rp];by_cases U:i<p
 ·rw[if_pos V,if_pos U,if_pos U,if_neg V,Pp]
 ·by_cases H:i<p+dat.length
  ·grind
  ·rw[if_neg H,if_neg V,show p+dat.length+(i-(p+dat.length))=i by omega,Pp]
def aeH{C:P8}{n:Nat}(i:Nat):tx (U3 C n) i=if i<n then tx C i else 0:=by
 unfold U3;rw[y4,Pp]
def amH{C:P8}{f t:Nat}(h:f<=t/\t<=C.length)(i:Nat):tx (zrC C f t) i=if f<=i/\i<t then 0 else tx C i:=by
 unfold zrC;rw[A3,A3,zad,bB,y4,K3,Rp]
 grind
def akq{a:At}{out:P8}(h:0<=a.vd/\a.vd<=a.sz)(i:Nat):tx (jt a out) i=if (i:Int)<a.vd then tx out i else 0:=by
 unfold jt;rw[y4,Pp,y4]
 grind
def flat_get{α β:Type}{f:α->List β}{m:Nat}:∀{l:List α},(∀x∈l,(f x).length=m)→∀{i j:Nat},j<m->(l.flatMap f)[m*i+j]?=(l[i]?).bind λx=>(f x)[j]?
 |[],_,i,j,_=>by simp
 |x::l,h,0,j,hj=>by
  grind
 |x::l,h,i+1,j,hj=>by
  have ih:=flat_get (λy hy=>h y pr) (i:=i) hj (l:=l) (f:=f)
  grind
def ani{B:P8}{l:OG}(h:RJ B l){i j:Nat}(hj:j<256)(hh:l[i]?.getD (-1)= -1):tx (mJ B l) (256*i+j)=0:=by
 have hf:∀x∈l,(if x= -1 then aC 256 else ee B x.toNat).length=256:=λx T=>by
  split
  ·exact bB 256
  ·rcases h x T with g|g
   ·omega
   ·exact kp V
 unfold tx mJ;rw[flat_get hf hj];cases g:l[i]? with
 |none=>rfl
 |some x=>
  rw[g,zbE]at hh;rw[Option.bind_some,if_pos hh,EH hj];rfl
structure aby(d:Dk)(a:At):Prop where
 sz:((ba (aj d a)).length:Int)=if a.rs=true then(a.vl.length:Int)else a.sz
 vd:0<=dh a/\dh a<=(ba (aj d a)).length
 z:∀i:Nat,dh a<=i->tx (ba (aj d a)) i=0
 hole:a.fl%2≠1→∀i,¬x5 (aj d a) i→¬mL 0 a.vl.length i→∀j,j<256->tx (ba (aj d a)) (256*i+j)=0
 len:(ba (aj d a)).length<=32768
 fl:0<=a.fl/\a.fl<=2
def kI{a:At}(h:iW a=0):YV a:=by
 refine YV.of ?_;unfold iW at h;omega
def zZ{d:Dk}{a:At}(h0:aI d a=0):aby d a:=by
 obtain⟨ok,_⟩:=aL h0;obtain⟨s1,_⟩:=iV ok.str;have at0:=kI s1;have hl:=Dp ok;have PE:dh a=if a.rs=true then(a.vl.length:Int)else a.vd:=rfl;cases fx:a.rs with
 |true=>
  have F:ba (aj d a)=a.vl:=by unfold ba;rw[if_pos (show(aj d a).a.rs=true from fx)];rfl
  rw[fx,if_pos rfl]at PE;refine⟨au,au,λi W=>?_,λ_ i _ H j hj=>?_,hl,ok.fl⟩
  ·rw[F];exact Ps V
  ·rw[F];refine Ps ?_;unfold mL at H;omega
 |false=>
  have F:ba (aj d a)=jt a (if a.fl%2=1 then nt d.aT (chunks (aq a.rn.l))else mJ d.aT (aq a.rn.l)):=by unfold ba;rw[if_neg (show ¬(aj d a).a.rs=true from λh=>aaT)];rfl
  obtain⟨_,o2,_,_,_,o6,o7⟩:=at0.ot fx;have hsv:=o6.2;rw[fx,if_neg ai]at PE;have hlen:=Hg a (if a.fl%2=1 then nt d.aT (chunks (aq a.rn.l))else mJ d.aT (aq a.rn.l));have hz:=akq (a:=a) (out:=if a.fl%2=1 then nt d.aT (chunks (aq a.rn.l))else mJ d.aT (aq a.rn.l)) ⟨V,o7⟩;have iX:(ba (aj d a)).length=a.sz.toNat:=au;refine⟨au,V,λi W=>?_,λhf i U _ j hj=>?_,hl,ok.fl⟩
  ·grind
  ·rw[F,hz,if_neg hf];rw[ZB]at U;have U:=zcN.1 U;rw[ani ok.pl hj U];simp
def noT{f t:Int}{i j:Nat}(h:¬mL f t i)(hj:j<256):¬(f<=256*(i:Int)+j/\256*(i:Int)+j<t):=by
 unfold mL at h;omega
def apf{d:Dk}{a:At}{p:Int}{dat:P8}(F:aby d a)(hp:0<=p)(hl:p+dat.length<=32768):yX (aj d a) (ZN (ba (aj d a)) p.toNat dat) (max (dh a) (p+dat.length)) (VP (aj d a) p (p+dat.length)):=by
 have U:=F.vd;have H:=F.len;have PB:=F.fl;refine⟨by rw[Jh];omega,by rw[Jh];omega,λi W=>?_,λhs i hn j hj=>?_⟩
 ·rw[afw,if_neg V];exact F.z i V
 ·unfold VP at hn;simp only[not_or]at hn;obtain⟨n1,n2,n3⟩:=hn;have:=noT n2 hj;rw[afw,if_neg V];have e:(aj d a).a=a:=rfl;rw[e]at hs;exact F.hole V i n1 n3 j hj
def am1{d:Dk}{a:At}{n:Int}(F:aby d a)(hn:0<=n/\n<=32768):yX (aj d a) (U3 (ba (aj d a)) n.toNat) (min (dh a) n) (Vh (aj d a)):=by
 have U:=F.vd;have PB:=F.fl;refine⟨by rw[IG];omega,by rw[IG];omega,λi W=>?_,λhs i hn j hj=>?_⟩
 ·rw[aeH];split
  ·exact F.z i V
  ·rfl
 ·unfold Vh at hn;simp only[not_or]at hn;have e:(aj d a).a=a:=rfl;rw[e]at hs;rw[aeH,F.hole V i hn.1 hn.2 j hj];simp
def ahq{d:Dk}{a:At}{p n:Int}(hp:0<=p)(hn:0<=n):(X6 (ba (aj d a)) p).toNat<=(Z2 (ba (aj d a)) p n).toNat/\(Z2 (ba (aj d a)) p n).toNat<=(ba (aj d a)).length/\0<=X6 (ba (aj d a)) p/\0<=Z2 (ba (aj d a)) p n:=by
 unfold Z2 X6;omega
def amD{d:Dk}{a:At}{p n:Int}(F:aby d a)(fx:a.rs=false)(hp:0<=p)(hn:0<=n)(PE:a.vl=[]):yX (aj d a) (HJ d a p n) a.vd (UC d a p n):=by
 have U:=F.vd;have H:=F.len;have PB:=F.fl;obtain⟨f1,f2,f3,f4⟩:=ahq (d:=d) (a:=a) hp hn;have hl:(HJ d a p n).length=(ba (aj d a)).length:=O8 ⟨f1,f2⟩;have hv:dh a=a.vd:=by unfold dh;grind
 have hz:=amH (C:=ba (aj d a)) ⟨f1,f2⟩;refine⟨V,V,λi W=>?_,λhs i hnd j hj=>?_⟩
 ·show tx (zrC _ _ _) i=0;rw[hz];split
  ·rfl
  ·exact F.z i V
 ·have e:(aj d a).a=a:=rfl;rw[e]at hs;show tx (zrC _ _ _) _=0;rw[hz];split
  ·rfl
  ·rename_i g;by_cases hd:x5 (aj d a) i
   ·have hcv:=Classical.byContradiction λhcv=>hnd ⟨hd,hcv⟩
    unfold Au at hcv;exact Ps V
   ·refine F.hole V i hd ?_ j hj;rw[PE];unfold mL
    grind
def RE{P:Nat->Prop}{lo W:Nat}(h:∀i,P i↔(lo<=i/\i<W)){i:Nat}(h0:1<=i)(U:i≠lo)(H:i≠W):P (i-1)↔P i:=by
 grind
def K6{f t:Int}(hf:0<=f)(ht:0<=t)(i:Nat):mL f t i↔(((f/256).toNat<=i/\i<(if f<t then((t+255)/256).toNat else 0))):=by
 unfold mL
 grind
def an9{d:Dk}{a:At}{f t:Int}(hf:0<=f)(ht:0<=t):Ig (aj d a) (VP (aj d a) f t):=by
 intro _;refine⟨[(f/256).toNat,if f<t then((t+255)/256).toNat else 0,((0:Int)/256).toNat,if (0:Int)<a.vl.length then(((a.vl.length:Int)+255)/256).toNat else 0],ab,λi U W=>?_⟩;simp only[zax,zb6,or_false,not_or]at W;obtain⟨n1,n2,n3,n4⟩:=W;have g1:=RE (K6 hf ht) U n1 n2;have g2:=RE (K6 (f:=0) (t:=a.vl.length) V V) U n3 n4;have e:(aj d a).a.vl=a.vl:=rfl;unfold VP
 grind
def apR{d:Dk}{a:At}:Ig (aj d a) (Vh (aj d a)):=by
 intro _;refine⟨[((0:Int)/256).toNat,if (0:Int)<a.vl.length then(((a.vl.length:Int)+255)/256).toNat else 0],ab,λi U W=>?_⟩;simp only[zax,zb6,or_false,not_or]at W;obtain⟨n3,n4⟩:=W;have g2:=RE (K6 (f:=0) (t:=a.vl.length) V V) U n3 n4;have e:(aj d a).a.vl=a.vl:=rfl;unfold Vh
 grind
def Wc{f t e:Int}(hf:0<=f)(ht:0<=t)(i:Nat):Au f t i e↔((((f+255)/256).toNat<=i/\(e<=t\/i<(t/256).toNat))):=by
 unfold Au;omega
def amG{d:Dk}{a:At}{f t:Int}{n:Nat}(hf:0<=f)(ht:0<=t):Ig (aj d a) (zrP (aj d a) f t n):=by
 intro _;refine⟨[((f+255)/256).toNat,(t/256).toNat],ab,λi U W=>?_⟩;simp only[zax,zb6,or_false,not_or]at W;have g:Au f t (i-1:Nat) n↔Au f t i n:=by
  rw[Wc hf ht,Wc hf ht];omega
 unfold zrP
 grind
section
structure AA(d e:Dk)(a b:At)(C:P8)(v:Int)(rs:Bool):Prop where
 op:aI e b=0
 oth:aal d e a b
 Vt:ba (aj e b)=C
 rs:b.rs=rs
 vd:b.rs=false->b.vd=v
 ty:b.ty=a.ty
 nm:b.nm=a.nm
 id:b.id=a.id
 fl:b.fl=a.fl
def Nq(d:Dk)(a:At)(e k:Int):Prop:=(e=8/\(16<a.rn.l.length\/16<(k7 d.mp d.n).length))\/(e=16/\(d.n:Int)-iq d.mp d.n+(NR (aq a.rn.l)).length<k)
def anj(a:At)(n:Int)(l:QE):Int:=if a.fl%2=1 then 16*((n+4095)/4096)else if a.fl/2%2=1 then aoj l else(n+255)/256
def R2{a:At}(J:a.rs=true):(NJ a).length=EK (EK (24+a.nm.length)+a.vl.length):=by
 have U:=iK (24+a.nm.length);have H:=iK (EK (24+a.nm.length)+a.vl.length);have e3:oL a=24:=by unfold oL;rw[J];rfl
 have e1:atN a=EK (24+a.nm.length):=by unfold atN;rw[e3]
 have e4:y3 a=a.vl:=by unfold y3;rw[J];rfl
 have e2:Lv a=EK (EK (24+a.nm.length)+a.vl.length):=by unfold Lv;rw[e1,e4]
 have hf:(apU a).length=24:=by
  unfold apU anC;rw[J];simp only[zad,jZ,if_true]
 unfold NJ;rw[zad,zad,zad,zad,hf,bZ,bZ,e2,e1,e3,e4];omega
def arw{a:At}{C:P8}(h:iW a=0)(hC:C.length<=200\/(a.rs=true/\C.length=a.vl.length)):iW (Hr a C)=0:=by
 have ok:=kI h;have hl:C.length<=400:=by
  rcases hC with h|⟨U,H⟩
  ·omega
  ·have:=(ok.rs U).2.2;omega
 have E:Dx (Hr a C)=0:=by
  show Aq (Hr a C)=0;unfold Aq;rw[if_neg,if_neg]
  ·show ¬400<C.length;omega
  ·exact λh=>h ⟨rfl,rfl,rfl,rfl,rfl⟩
 have hw:(NJ (Hr a C)).length<=440:=by
  rw[R2 rfl];show EK (EK (24+a.nm.length)+C.length)<=440;rcases hC with g|⟨g1,g2⟩
  ·have U:=iK (24+a.nm.length);have H:=iK (EK (24+a.nm.length)+C.length);have hn:=ok.nmL;omega
  ·rw[g2,<-R2 g1];unfold iW at h;split at h
   ·rename_i q;exact absurd h q
   split at h
   ·cases h
   ·omega
 unfold iW;rw[if_neg,if_neg V];refine λh=>h ?_
 unfold Lz;rw[if_neg,if_neg,if_neg,E]
 ·exact λh=>h ok.idf
 ·exact λh=>h ok.nm
 ·exact λh=>h ok.NB
def aoZ{d e:Dk}{a:At}{C:P8}(h0:aI d a=0)(he:dj e=0)(hC:C.length<=200\/(a.rs=true/\C.length=a.vl.length)):aI e (Hr a C)=0:=by
 obtain⟨ok,_⟩:=aL h0;obtain⟨s1,s2,s3,s4,s5⟩:=iV ok.str;have hs:wx (Hr a C)=0:=by
  unfold wx;rw[arw s1 hC,if_neg ab,if_neg,if_neg,if_neg]
  ·show ¬32768<(0:Int);omega
  ·show ¬(0:Int)≠0;simp
  ·show ¬(a.ty≠128\/4<=a.fl\/a.fl=3);omega
 unfold aI;rw[he,hs];rfl
def VV{d:Dk}{a:At}{C:P8}{v:Int}(h0:aI d a=0)(J:a.rs=true)(hC:C.length<=200\/(a.rs=true/\C.length=a.vl.length)):AA d d a (Hr a C) C v true:=by
 obtain⟨ok,_⟩:=aL h0;have hrn:=(ok.res J).1;refine⟨aoZ h0 ok.dk hC,⟨⟨rfl,ok.dk⟩,λc F=>?_⟩,rfl,rfl,(λh=>bc),rfl,rfl,rfl,rfl⟩;rw[hrn];show afx d d (NR (aq [])) (NR (aq [])) c;have e:NR (aq [])=[]:=rfl;rw[e];unfold afx;simp
section
variable {d:Dk} {a:At} {C:P8} {v:Int} {dt:Nat->Prop}
def Qr(h0:aI d a=0)(hd:D8 d)(hn:a.nm.length<=1000000)(F:yX (aj d a) C v dt)(he:zW (aj d a) C v dt=0):AA d (FT (aj d a) C dt) a (yf (aj d a) C v dt) C v false:=by
 have hm:=HW h0 hd hn F he;exact⟨hm.op,aoS hm,hm.Vt,rfl,λ_=>rfl,rfl,rfl,rfl,rfl⟩
def aap(h0:aI d a=0)(hd:D8 d)(hn:a.nm.length<=1000000)(F:yX (aj d a) C v dt)(he:Wg (aj d a) C v dt=0):
 AA d (ZU (aj d a) C v dt) a (chA (aj d a) C v dt) C v (decide (a.rs=true/\C.length<=200)):=by
 have e1:(aj d a).a=a:=rfl;unfold Wg at he;unfold ZU chA;rw[e1]at he ⊢;by_cases h:a.rs=true/\C.length<=200
 ·rw[if_pos h,if_pos h,decide_eq_true h];exact VV h0 h.1 (.inl h.2)
 ·rw[if_neg h]at he;rw[if_neg h,if_neg h,decide_eq_false h,if_pos he,if_pos he];exact Qr h0 hd hn F he
def P4(h0:aI d a=0)(hd:D8 d)(hn:a.nm.length<=1000000)(F:yX (aj d a) C v dt)(PG:Ig (aj d a) dt)(he:zW (aj d a) C v dt≠0){k:Int}(E:(Zd (aJ (aj d a) C dt):Int)<=k):Nq d a (zW (aj d a) C v dt) k:=by
 have qk:=rv (aj d a) C dt;have iX:=F.len;have ET:(aJ (aj d a) C dt).length<=1000:=au;have hlg:zW (aj d a) C v dt=8->16<a.rn.l.length\/16<(k7 d.mp d.n).length:=λh=>by
  by_cases g:a.rn.l.length<=16/\(k7 d.mp d.n).length<=16
  ·exact absurd h (amg h0 hd hn F PG g.1 g.2)
  ·omega
 have hfu:=abN h0 hd hn ET;by_cases h8:zW (aj d a) C v dt=8
 ·exact .inl ⟨h8,hlg h8⟩
 ·right;unfold zW at he h8 ⊢;split at he
  ·rename_i g;rw[if_pos g]at h8 ⊢;rcases hfu g with⟨g1,g2⟩|⟨g1,g2⟩
   ·refine⟨g1,?_⟩;rw[SK];omega
   trivial
  omega
def amQ(h0:aI d a=0)(hd:D8 d)(hn:a.nm.length<=1000000)(F:yX (aj d a) C v dt)(PG:Ig (aj d a) dt)(he:Wg (aj d a) C v dt≠0){k:Int}(E:(Zd (aJ (aj d a) C dt):Int)<=k):
 ¬(a.rs=true/\C.length<=200)/\Nq d a (Wg (aj d a) C v dt) k/\ZU (aj d a) C v dt=zD/\chA (aj d a) C v dt=zA:=by
 unfold Wg at he ⊢;unfold ZU chA;split at he
 ·omega
 ·rename_i h;rw[if_neg h,if_neg h,if_neg h,if_neg he,if_neg he];exact⟨h,P4 h0 hd hn F PG he E,rfl,rfl⟩
def an3(f:Nat->Bool)(n:Nat):aoj ((List.range n).map f)=eJ f n:=by
 induction n with
 |zero=>rfl
 |succ n ih=>
  rw[zc9,bI,<-ih];unfold aoj;simp
def aos(n:Int):amT n 256=(n+255)/256:=by unfold amT;omega
def agf{l:QE}(hl:a.fl%2≠1->a.fl/2%2=1→∃f,l=(List.range ((C.length+255)/256)).map f∧∀i,i<(C.length+255)/256->dt i->f i=true):(Zd (aJ (aj d a) C dt):Int)<=anj a C.length l:=by
 have qk:=rv (aj d a) C dt;have e1:(aj d a).a=a:=rfl;rw[e1]at qk;have U:=ao8 (gB (aJ (aj d a) C dt)) (aJ (aj d a) C dt).length;unfold anj Zd;by_cases h:a.fl%2=1
 ·grind
 ·rw[if_neg h]at qk ⊢;split
  ·rename_i g;obtain⟨f,rfl,hf⟩:=hl h g;rw[an3,qk];have:=rO (p:=gB (aJ (aj d a) C dt)) (q:=f) (n:=(C.length+255)/256) λi W ca=>hf i W (((Hb (C:=C) (dt:=dt) (s:=aj d a) h).1 ca).2 g)
   omega
  ·omega
def RC(h0:aI d a=0)(hd:D8 d)(hn:a.nm.length<=1000000)(F:yX (aj d a) C v dt)(he:zW (aj d a) C v dt=0)(U:¬a.fl%2=1)(H:a.fl/2%2=1){f:Nat->Bool}(hf:∀i,i<(C.length+255)/256->(f i=true↔dt i)):
 (aq (yf (aj d a) C v dt).rn.l).map (λx=>decide (x≠ -1))=(List.range ((C.length+255)/256)).map f:=by
 have hm:=HW h0 hd hn F he;have qk:=rv (aj d a) C dt;have e1:(aj d a).a=a:=rfl;rw[e1,if_neg U]at qk;rw[hm.plc];unfold zX cJ;rw[qk,List.map_map];refine zbG λi W=>?_
 have W:=zbp.1 W;have J:=Hb (C:=C) (dt:=dt) (s:=aj d a) U (i:=i);show decide (Ax (aj d a) C dt i≠ -1)=f i;rw[zaN,decide_eq_true_eq,hf i W];constructor
 ·intro g;cases ca:gB (aJ (aj d a) C dt) i with
  |false=>exact absurd (hm.pl.no i ca) g
  |true=>grind
 ·intro g;have:=hm.pl.yes i V (J.2 ⟨W,λ_=>g⟩);omega
end
def Jl(a:At)(f t:Int)(n:Nat):Vs a f t n=(List.range ((n+255)/256)).map (YM a f t):=by
 unfold Vs;rw[aos,show(((n:Int)+255)/256).toNat=(n+255)/256 by omega]
def Yj{d:Dk}{a:At}{i:Nat}:FY (aq a.rn.l) i=true↔x5 (aj d a) i:=by
 rw[ZB];unfold FY Ga;show _↔(aq a.rn.l)[i]?.getD (-1)≠ -1;simp
def al7{d:Dk}{a:At}(h0:aI d a=0){f t:Int}(hft:f<t)(i:Nat):YM a f t i=true↔VP (aj d a) f t i:=by
 obtain⟨ok,_⟩:=aL h0;obtain⟨s1,_⟩:=iV ok.str;have at0:=kI s1;unfold YM VP mL;rw[zbF,zaT,decide_eq_true_eq];have e:(aj d a).a.vl=a.vl:=rfl;rw[e];cases fx:a.rs with
 |true=>
  have hh:¬x5 (aj d a) i:=by
   rw[<-Yj,(ok.res fx).1];unfold FY;simp[aq]
  grind
 |false=>
  have hv:=(at0.ot fx).2.1;rw[if_neg ai,Yj (d:=d)]
  grind
def Zz{d:Dk}{a:At}(h0:aI d a=0)(i:Nat):YM a 0 0 i=true↔Vh (aj d a) i:=by
 obtain⟨ok,_⟩:=aL h0;obtain⟨s1,_⟩:=iV ok.str;have at0:=kI s1;unfold YM Vh mL;rw[zbF,zaT];have e:(aj d a).a.vl=a.vl:=rfl;cases fx:a.rs with
 |true=>
  have hh:¬x5 (aj d a) i:=by
   rw[<-Yj,(ok.res fx).1];unfold FY;simp[aq]
  grind
 |false=>
  have hv:=(at0.ot fx).2.1;rw[if_neg ai,Yj (d:=d)]
  grind
end
def ahB{s b:P8}{p:Nat}(h:p+b.length<=s.length)(i:Nat):tx (ajO s p b) i=if p<=i/\i<p+b.length then tx b (i-p)else tx s i:=by
 unfold ajO;rw[A3,A3,y4,Rp]
 grind
def aw2{C dat:P8}{p:Nat}(h:dat≠[]):ama C p dat=ZN C p dat:=by
 have hl:(U3 C (max C.length (p+dat.length))).length=max C.length (p+dat.length):=IG _ _;unfold ama;rw[if_neg h];refine aha (by rw[PI V,hl,Jh]) λi W=>?_
 rw[ahB V,afw,aeH];rw[PI V]at W
 grind
def axc{C:P8}{p n:Int}(hp:0<=p)(hn:0<=n):aix C p n=zrC C (X6 C p).toNat (Z2 C p n).toNat:=by
 have hz:(aC (min (p+n) (C.length:Int)-min p (C.length:Int)).toNat).length=(min (p+n) (C.length:Int)-min p (C.length:Int)).toNat:=bB _;have hft:(X6 C p).toNat<=(Z2 C p n).toNat/\(Z2 C p n).toNat<=C.length:=by unfold Z2 X6;omega
 unfold aix;refine aha (by rw[PI V,O8 hft]) λi W=>?_
 rw[ahB V,amH hft,K3];unfold Z2 X6
 grind
def oe(a:At):Int:=if a.rs=true then a.vl.length else a.sz
def adk{d:Dk}{a:At}(F:aby d a):((ba (aj d a)).length:Int)=oe a:=F.sz
def Ty{d:Dk}{a:At}(h0:aI d a=0):(a.fl/2%2=1→¬a.fl%2=1):=by
 obtain⟨ok,_⟩:=aL h0;have:=ok.fl;omega
structure WrL(d:Dk)(a:At)(p:Int)(dat:P8):Prop where
 ok:NX d a p dat=0->AA d (Uo d a p dat) a (QN d a p dat) (ama (ba (aj d a)) p.toNat dat) (max (dh a) (p+dat.length)) (decide (a.rs=true/\max (oe a) (p+dat.length)<=200))/\
  (¬(a.rs=true/\max (oe a) (p+dat.length)<=200)->a.fl/2%2=1->(aq (QN d a p dat).rn.l).map (λx=>decide (x≠ -1))=Vs a p (p+dat.length) (max (oe a) (p+dat.length)))
 er:NX d a p dat≠0→¬(a.rs=true/\max (oe a) (p+dat.length)<=200)/\Uo d a p dat=zD/\QN d a p dat=zA/\Nq d a (NX d a p dat) (anj a (max (oe a) (p+dat.length)) (Vs a p (p+dat.length) (max (oe a) (p+dat.length))))
def aoi{d:Dk}{a:At}{p:Int}{dat:P8}(h0:aI d a=0)(hd:D8 d)(hn:a.nm.length<=1000000)(hp:0<=p)(hl:p+dat.length<=32768)(ca:dat≠[]):WrL d a p dat:=by
 have F:=zZ h0;have zR:=zb9.2 ca;have FM:=apf F hp hl;have PG:=an9 (d:=d) (a:=a) (f:=p) (t:=p+dat.length) hp V;have hE0:sQ d a p dat=0:=by unfold sQ fP;omega
 have hE:NX d a p dat=Wg (aj d a) (ZN (ba (aj d a)) p.toNat dat) (max (dh a) (p+dat.length)) (VP (aj d a) p (p+dat.length)):=by unfold NX;grind
 have hD:Uo d a p dat=ZU (aj d a) (ZN (ba (aj d a)) p.toNat dat) (max (dh a) (p+dat.length)) (VP (aj d a) p (p+dat.length)):=by unfold Uo;grind
 have hA:QN d a p dat=chA (aj d a) (ZN (ba (aj d a)) p.toNat dat) (max (dh a) (p+dat.length)) (VP (aj d a) p (p+dat.length)):=by unfold QN;grind
 have hlen:=Jh (ba (aj d a)) p.toNat dat;have nP:=adk F;have hS:((ZN (ba (aj d a)) p.toNat dat).length:Int)=max (oe a) (p+dat.length):=V;have Uc:(a.rs=true/\(ZN (ba (aj d a)) p.toNat dat).length<=200)↔(a.rs=true/\max (oe a) (p+dat.length)<=200):=by
  grind
 have hf1:=Ty h0;refine⟨λhe=>?_,λhe=>?_⟩
 ·rw[hE]at he;rw[hD,hA,aw2 ca];refine⟨?_,λJ hs=>?_⟩
  ·have:=aap h0 hd hn FM he
   grind
  ·have e1:(aj d a).a=a:=rfl;have tT:=λh=>J (Uc.1 h)
   have he2:zW (aj d a) (ZN (ba (aj d a)) p.toNat dat) (max (dh a) (p+dat.length)) (VP (aj d a) p (p+dat.length))=0:=by
    unfold Wg at he
    grind
   unfold chA;rw[e1,if_neg tT,if_pos he2,<-hS,Jl];exact RC h0 hd hn FM he2 (hf1 hs) hs λi _=>al7 h0 V i
 ·rw[hE]at he;rw[hD,hA,hE,<-hS];have E:=agf (d:=d) (a:=a) (C:=ZN (ba (aj d a)) p.toNat dat) (dt:=VP (aj d a) p (p+dat.length)) (l:=Vs a p (p+dat.length) ((ZN (ba (aj d a)) p.toNat dat).length:Nat)) λg1 g2=>⟨_,Jl _ _ _ _,λi _ h=>(al7 h0 V i).2 h⟩
  obtain⟨r1,r2,r3,r4⟩:=amQ h0 hd hn FM PG he E
  grind
structure SzL(d:Dk)(a:At)(n:Int):Prop where
 ok:VN d a n=0->AA d (szD d a n) a (szA d a n) (U3 (ba (aj d a)) n.toNat) (min (dh a) n) (decide (a.rs=true/\n<=200))/\
  (¬(a.rs=true/\n<=200)->a.fl/2%2=1->(aq (szA d a n).rn.l).map (λx=>decide (x≠ -1))=Vs a 0 0 n)
 er:VN d a n≠0→¬(a.rs=true/\n<=200)/\szD d a n=zD/\szA d a n=zA/\Nq d a (VN d a n) (anj a n (Vs a 0 0 n))
def amS{d:Dk}{a:At}{n:Int}(h0:aI d a=0)(hd:D8 d)(hn:a.nm.length<=1000000)(hp:0<=n/\n<=32768):SzL d a n:=by
 have F:=zZ h0;have FM:=am1 F hp;have PG:=apR (d:=d) (a:=a);have hE0:x9 d a n=0:=by unfold x9 fP;omega
 have hE:VN d a n=Wg (aj d a) (U3 (ba (aj d a)) n.toNat) (min (dh a) n) (Vh (aj d a)):=by unfold VN;omega
 have hD:szD d a n=ZU (aj d a) (U3 (ba (aj d a)) n.toNat) (min (dh a) n) (Vh (aj d a)):=by unfold szD;grind
 have hA:szA d a n=chA (aj d a) (U3 (ba (aj d a)) n.toNat) (min (dh a) n) (Vh (aj d a)):=by unfold szA;grind
 have hlen:=IG (ba (aj d a)) n.toNat;have hS:((U3 (ba (aj d a)) n.toNat).length:Int)=n:=V;have Uc:(a.rs=true/\(U3 (ba (aj d a)) n.toNat).length<=200)↔(a.rs=true/\n<=200):=and_congr_right λ_=>V
 have hf1:=Ty h0;refine⟨λhe=>?_,λhe=>?_⟩
 ·rw[hE]at he;rw[hD,hA];refine⟨?_,λJ hs=>?_⟩
  ·have:=aap h0 hd hn FM he
   grind
  ·have e1:(aj d a).a=a:=rfl;have tT:=λh=>J (Uc.1 h)
   have he2:zW (aj d a) (U3 (ba (aj d a)) n.toNat) (min (dh a) n) (Vh (aj d a))=0:=by
    unfold Wg at he
    grind
   unfold chA;rw[e1,if_neg tT,if_pos he2];have h5:=RC h0 hd hn FM he2 (hf1 hs) hs (f:=YM a 0 0) λi _=>Zz h0 i
   rw[h5,<-Jl,hS]
 ·rw[hE]at he;rw[hD,hA,hE];have E:=agf (d:=d) (a:=a) (C:=U3 (ba (aj d a)) n.toNat) (dt:=Vh (aj d a)) (l:=Vs a 0 0 ((U3 (ba (aj d a)) n.toNat).length:Nat)) λg1 g2=>⟨_,Jl _ _ _ _,λi _ h=>(Zz h0 i).2 h⟩
  rw[hS]at E;obtain⟨r1,r2,r3,r4⟩:=amQ h0 hd hn FM PG he E
  grind
def atA{d:Dk}{a:At}{C:P8}{v:Int}{dt:Nat->Prop}(h0:aI d a=0)(hd:D8 d)(hn:a.nm.length<=1000000)(fx:a.rs=false)(U:¬a.fl%2=1)(H:¬a.fl/2%2=1)(FM:yX (aj d a) C v dt)(hC:(C.length:Int)=a.sz):zW (aj d a) C v dt=0:=by
 obtain⟨ok,oo⟩:=aL h0;obtain⟨_,zy,_⟩:=oo fx;obtain⟨s1,s2,s3,s4,s5⟩:=iV ok.str;have st:=ok.st hd hn;have Ec:sU (aq a.rn.l):=lv ok.rn;have I:=Ze st;have hn5:=st.n;have hlen:=st.len;have ye:(aj d a).pl=aq a.rn.l:=rfl;have e1:(aj d a).a=a:=rfl;have PH:(aj d a).d=d:=rfl;rw[ye]at I hlen;rw[PH]at I hn5;unfold mf at zy;rw[if_neg U]at zy;obtain⟨_,hl,hu⟩:=zy;have hu:=abW.1 (hu.resolve_left H);have qk:=rv (aj d a) C dt;rw[e1,if_neg U]at qk;have hpp:(aJ (aj d a) C dt).length=(aq a.rn.l).length:=by rw[qk];omega
 have ca:∀i,gB (aJ (aj d a) C dt) i=true↔i<(aq a.rn.l).length:=λi=>by
  rw[Hb (by rw[e1];exact U),<-hpp,qk];exact⟨λg=>g.1,λg=>⟨g,λh=>absurd h H⟩⟩
 have nr:∀i,i<(aq a.rn.l).length->(aq a.rn.l)[i]?=some (jI (aJ (aj d a) C dt) (aq a.rn.l) i)/\jI (aJ (aj d a) C dt) (aq a.rn.l) i≠ -1:=λi W=>by
  have T:(aq a.rn.l)[i]?=some (aq a.rn.l)[i]:=zah W;unfold jI;rw[if_pos ((ca i).2 W),T,zbE];exact⟨rfl,hu _ (zag T)⟩
 have Us:∀i,z6 (aJ (aj d a) C dt) (aq a.rn.l) i=false:=λi=>by
  unfold z6;cases h:gB (aJ (aj d a) C dt) i with
  |false=>rfl
  |true=>simp[(nr i ((ca i).1 h)).2]
 have hmi:iT (aJ (aj d a) C dt) (aq a.rn.l)=0:=by
  unfold iT;rw[Re];exact yJ λi _=>Us i
 have hL:zX (aj d a) C dt=aq a.rn.l:=by
  unfold zX;refine zbb λi=>?_
  by_cases W:i<(aq a.rn.l).length
  ·rw[bw V];unfold Ax x7;rw[ye,Us i,if_neg ai];exact(nr i W).1.symm
  ·rw[zaM nd,zaM V]
 have hro:=Kt (l:=a.rn.l) λr J=>by
  have:=(bz ok.rn).2.2.2 r J;unfold ir at this;split at this<;>omega
 have Uj:=(bz ok.rn).1;have hv:=FM.vb;have Ea:iW (yf (aj d a) C v dt)=0:=by
  refine aom s1 s2 FM.len hv (λx T=>?_) (by rw[hL];exact Ec) (by rw[hL];exact hlen) (by rw[hL];omega);rw[hL]at T;have:=I x T;omega
 unfold zW;rw[if_neg,if_neg]
 ·rw[hL];rintro(g|g)
  ·omega
  ·exact g Ea
 ·unfold wi;rw[ye,if_pos hmi];exact λh=>h rfl
def zrL(a:At)(p n:Int):QE:=(List.range (((oe a).toNat+255)/256)).map λi=>YM a 0 0 i&&!(decide (p<=(i:Int)*256)&&decide (min (((i:Int)+1)*256) (oe a)<=p+n))
structure ZrL(d:Dk)(a:At)(p n:Int):Prop where
 ok:WS d a p n=0->AA d (zrD d a p n) a (zrA d a p n) (aix (ba (aj d a)) p n) (dh a) a.rs/\
  (a.rs=false->a.fl/2%2=1->(aq (zrA d a p n).rn.l).map (λx=>decide (x≠ -1))=zrL a p n)
 er:WS d a p n≠0->(a.rs=false/\(a.fl%2=1\/a.fl/2%2=1))/\zrD d a p n=zD/\zrA d a p n=zA/\Nq d a (WS d a p n) (anj a (oe a) (Vs a 0 0 (oe a)))
def aoK{d:Dk}{a:At}{p n:Int}(h0:aI d a=0)(hd:D8 d)(hn:a.nm.length<=1000000)(hp:0<=p/\p<=32768)(HO:0<=n/\n<=32768):ZrL d a p n:=by
 have F:=zZ h0;obtain⟨ok,oo⟩:=aL h0;obtain⟨s1,_⟩:=iV ok.str;have at0:=kI s1;obtain⟨f1,f2,f3,f4⟩:=ahq (d:=d) (a:=a) hp.1 HO.1;have hE0:wJ d a p n=0:=by unfold wJ fP;omega
 have hE:WS d a p n=if a.rs=true then 0 else zW (aj d a) (HJ d a p n) a.vd (UC d a p n):=by unfold WS;omega
 have hD:zrD d a p n=if a.rs=true then d else if zW (aj d a) (HJ d a p n) a.vd (UC d a p n)=0 then FT (aj d a) (HJ d a p n) (UC d a p n)else zD:=by unfold zrD;grind
 have hA:zrA d a p n=if a.rs=true then Hr a (HJ d a p n)else if zW (aj d a) (HJ d a p n) a.vd (UC d a p n)=0 then yf (aj d a) (HJ d a p n) a.vd (UC d a p n)else zA:=by unfold zrA;grind
 have hlen:(HJ d a p n).length=(ba (aj d a)).length:=O8 ⟨f1,f2⟩;have nP:=adk F;have hN:HJ d a p n=aix (ba (aj d a)) p n:=(axc hp.1 HO.1).symm;have hf1:=Ty h0;cases fx:a.rs with
 |true=>
  rw[fx,if_pos rfl]at hE hD hA;refine⟨λ_=>⟨?_,λh=>au⟩,λhe=>absurd hE he⟩;rw[hD,hA,<-hN,fx];refine VV h0 fx (.inr ⟨fx,?_⟩);have h5:oe a=a.vl.length:=by unfold oe;grind
  omega
 |false=>
  rw[fx,if_neg ai]at hE hD hA;have PE:=(at0.ot fx).2.1;have FM:=amD (d:=d) (a:=a) F fx hp.1 HO.1 PE;have PG:Ig (aj d a) (UC d a p n):=amG f3 f4;have hv:dh a=a.vd:=by unfold dh;grind
  have hS:((HJ d a p n).length:Int)=oe a:=V;refine⟨λhe=>?_,λhe=>?_⟩
  ·rw[hE]at he;rw[if_pos he]at hD hA;rw[hD,hA,<-hN,hv,fx];refine⟨Qr h0 hd hn FM he,λ_ hs=>?_⟩;have h5:=RC h0 hd hn FM he (hf1 hs) hs (f:=λi=>YM a 0 0 i&&!(decide (p<=(i:Int)*256)&&decide (min (((i:Int)+1)*256) (oe a)<=p+n))) λi W=>by
    rw[zaT,Zz h0,zbv,Bool.and_eq_false_iff,decide_eq_false_iff_not,decide_eq_false_iff_not];unfold UC zrP Vh Au;have e:(aj d a).a.vl=a.vl:=rfl;rw[e,PE];have e2:¬mL 0 (([]:P8).length:Nat) i:=by unfold mL;grind
    have hsi:256*(i:Int)<oe a:=V;unfold X6 Z2;unfold X6
    grind
   rw[h5];unfold zrL
   grind
  ·rw[hE]at he;rw[if_neg he]at hD hA;rw[hD,hA,hE];have E:=agf (d:=d) (a:=a) (C:=HJ d a p n) (dt:=UC d a p n) (l:=Vs a 0 0 ((HJ d a p n).length:Nat)) λg1 g2=>⟨_,Jl _ _ _ _,λi _ h=>(Zz h0 i).2 (.inl h.1)⟩
   rw[hS]at E;refine⟨⟨fx,?_⟩,rfl,rfl,P4 h0 hd hn FM PG he E⟩;refine Classical.byContradiction λqk=>?_
   have hsa:oe a=a.sz:=by unfold oe;grind
   exact he (atA h0 hd hn fx (λh=>qk (.inl h)) (λh=>qk (.inr h)) FM V)
def adO{acc:UH}{r:Rn}(hs: -1<=r.s):∀k:Nat,(cJ (MY r) (k+1)).foldl m_ acc=sT acc ⟨r.s,(k:Int)+1⟩
 |0=>by
  show m_ acc (MY r 0)=sT acc ⟨r.s,_⟩;have e:MY r 0=r.s:=by
   unfold MY;omega
  rw[e,<-apB];rfl
 |k+1=>by
  rw[Cf,zdB,adO hs k];simp only[zbi,List.foldl_nil];unfold sT;cases hl:acc.getLast? with
  |none=>
   unfold m_;simp only[List.getLast?_singleton,List.dropLast_singleton,zaZ];rw[if_pos]
   ·rfl
   ·unfold MY;omega
  |some q=>
   simp only;have hj:iw q ⟨r.s,(k:Int)+1⟩↔iw q ⟨r.s,((k+1:Nat):Int)+1⟩:=Iff.rfl;by_cases g:iw q ⟨r.s,(k:Int)+1⟩
   ·rw[if_pos g,if_pos (hj.1 g)];unfold m_;rw[zdF];simp only[zdG];unfold iw at g;simp only at g;rw[if_pos]
    ·grind
    ·unfold MY;omega
   ·rw[if_neg g,if_neg (λh=>g (hj.2 h))];unfold m_;rw[zdF];simp only[zdG];rw[if_pos]
    ·rfl
    ·unfold MY;omega
def aog{L:UH}(h:∀r∈L,1<=r.n/\ -1<=r.s):∀acc:UH,eU acc L=(aq L).foldl m_ acc:=by
 induction L with
 |nil=>intro acc;rfl
 |cons r L ih=>
  intro acc;have J:=h r ab;have e:aq (r::L)=jd r++aq L:=dw;rw[e,zdB];show eU (sT acc r) L=_;rw[ih λq hq=>h q iJ];obtain⟨k,E⟩:∃k:Nat,r.n.toNat=k+1:=⟨r.n.toNat-1,V⟩
  rw[DV,E,adO J.2];cases r
  grind
def aoz{α:Type}(f:Nat->α)(n c:Nat):(cJ f n).drop c=cJ (λi=>f (c+i)) (n-c):=by
 refine zbb λi=>?_
 rw[zaB];by_cases h:c+i<n
 ·rw[bw h,bw V]
 ·rw[zaM (by simp_all),zaM nd]
def am5{α:Type}(f:Nat->α)(n c:Nat):(cJ f n).take c=cJ f (min c n):=by
 refine zbb λi=>?_
 by_cases h:i<min c n
 ·rw[zcV V,bw V,bw h]
 simp_all
def anK{r:Rn}{c t:Int}(J:1<=r.n/\ -1<=r.s)(F:0<=c)(ht:0<=t/\t<=r.n-c):aq (if t=0 then[]else[⟨if r.s= -1 then-1 else r.s+c,t⟩])=((jd r).drop c.toNat).take t.toNat:=by
 by_cases h:t=0
 ·subst h;rfl
 ·rw[if_neg h,zb,DV,DV,aoz,am5];unfold MY
  grind
def ahk{l:UH}(h:∀r∈l,1<=r.n/\ -1<=r.s):∀(out:UH) (f n:Int),0<=f->0<=n->aq (l.foldl ZR (out,f,n)).1=aq out++((aq l).drop f.toNat).take n.toNat:=by
 induction l with
 |nil=>intro out f n _ _;simp[aq]
 |cons r l ih=>
  intro out f n hf hn;have J:=h r ab;have hlen:(jd r).length=r.n.toNat:=Jz r;have e:aq (r::l)=jd r++aq l:=dw;have es:ZR (out,f,n) r=(out++(if min n (r.n-min f r.n)=0 then[]else[⟨if r.s= -1 then-1 else r.s+min f r.n,min n (r.n-min f r.n)⟩]),f-min f r.n,n-min n (r.n-min f r.n)):=rfl;rw[zbi,e,es];rw[ih (λq hq=>h q iJ) _ _ _ V V,zK,anK J V V,List.drop_append,List.take_append,zay,hlen,zaj];congr 1;by_cases U:f<=r.n
  ·rw[show min f r.n=f by omega];by_cases H:n<=r.n-f
   ·grind
   ·rw[show min n (r.n-f)=r.n-f by omega,show(f-f).toNat=f.toNat-r.n.toNat by omega,show(n-(r.n-f)).toNat=n.toNat-(r.n.toNat-f.toNat) by omega];congr 1;rw[za1 au,za1 au]
  ·rw[show min f r.n=r.n by omega,show min n (r.n-r.n)=0 by omega,show(f-r.n).toNat=f.toNat-r.n.toNat by omega,show(n-0).toNat=n.toNat-(r.n.toNat-f.toNat) by omega];congr 1;rw[zb7 (show(jd r).length<=f.toNat by omega)];simp
def uq{pl:OG}{p:Int}{tr:Rn}(hp:0<=p):∀{k:Nat},p+k<=pl.length→∀i:Nat,(tB pl p tr k)[i]?=if p.toNat<=i/\i<p.toNat+k then some (tr.s+((i-p.toNat:Nat):Int))else pl[i]?
 |0,_,i=>by rw[if_neg V];rfl
 |k+1,h,i=>by
  have ih:=uq (pl:=pl) (tr:=tr) hp (k:=k) V i;show((tB pl p tr k).set (p+k).toNat (tr.s+k))[i]?=_
  grind
def awp{l:UH}{p:Int}{tr:Rn}(h:∀r∈l,1<=r.n/\ -1<=r.s)(hp:0<=p)(ht:1<=tr.n/\0<=tr.s)(hl:p+tr.n<=(aq l).length):aq (Z1 l p tr)=tB (aq l) p tr tr.n.toNat:=by
 have hs:=sb (l:=l) λr J=>au
 unfold Z1 Gj;rw[zK,zK,zb,ahk h [] 0 p V hp,ahk h [] (p+tr.n) (aF l) V V];have e:aq []=[]:=rfl;rw[e,zaZ,zaZ,show(0:Int).toNat=0 from rfl,zdc,za1 (l:=(aq l).drop (p+tr.n).toNat) au,DV];refine zbb λi=>?_
 rw[uq hp V];have l1:((aq l).take p.toNat).length=p.toNat:=au;have l2:(cJ (MY tr) tr.n.toNat).length=tr.n.toNat:=b8;by_cases U:i<p.toNat
 ·grind
 ·by_cases H:i<p.toNat+tr.n.toNat
  ·rw[if_pos V,zar au,zak V,l1,bw V];unfold MY
   grind
  grind
def awq{l:UH}{p:Int}{tr:Rn}(h:∀r∈l,1<=r.n/\ -1<=r.s)(hp:0<=p)(ht:1<=tr.n/\0<=tr.s)(hl:p+tr.n<=(aq l).length):eU [] (Z1 l p tr)=gT (tB (aq l) p tr tr.n.toNat):=by
 have hW:∀r∈Z1 l p tr,1<=r.n/\ -1<=r.s:=λr J=>by
  have part:∀(l:UH),(∀r∈l,1<=r.n/\ -1<=r.s)→∀(out:UH) (f n:Int),0<=f->0<=n->(∀r∈out,1<=r.n/\ -1<=r.s)→∀r∈(l.foldl ZR (out,f,n)).1,1<=r.n/\ -1<=r.s:=by
   intro l
   induction l with
   |nil=>simp
   |cons q l ih=>
    intro hl out f n hf hn ho r J;have hq:=hl q ab;have es:ZR (out,f,n) q=(out++(if min n (q.n-min f q.n)=0 then[]else[⟨if q.s= -1 then-1 else q.s+min f q.n,min n (q.n-min f q.n)⟩]),f-min f q.n,n-min n (q.n-min f q.n)):=rfl;rw[zbi,es]at J;refine ih (λx T=>hl x bP) _ _ _ V V (λx T=>?_) r J
    grind
  unfold Z1 at J;rcases zaA.1 J with J|J
  ·rcases zaA.1 J with J|J
   ·exact part l h [] 0 p V hp (λ_ h=>bc) r J
   grind
  ·have hs:=sb (l:=l) λr J=>by grind
   exact part l h [] (p+tr.n) (aF l) V V (λ_ h=>bc) r J
 rw[aog hW,awp h hp ht hl];rfl
def azd{hr:UH}(h:dv hr=0):dnE hr=0:=by
 obtain⟨U,H,h3,h4⟩:=bz h;have hd:dnF hr hr.length:=by
  intro k E r J c F hh;have hn:=(zn (l:=hr) (n:=k) (λj hj=>H j V) (GI J (H k E)))
  have hns:¬ ∃j,j<k∧∃q,hr[j]?=some q/\rp q r:=by
   rintro⟨j,hj,q,hq,hs⟩;exact amw J (H k E) hj hq hs
  grind
 unfold dnE
 grind
def ahP{d:Dk}{a:At}{p:Int}{tr:Rn}(h0:aI d a=0):Cc d a p tr=mxE d a p tr/\(MD (aj d a) p tr=0->mvA a p tr=HK a p tr):=by
 have ok:=(aL h0).1;have J:∀r∈a.rn.l,1<=r.n/\ -1<=r.s:=λr J=>by
  have:=(bz ok.rn).2.2.2 r J;unfold ir at this
  grind
 have hA:MD (aj d a) p tr=0->mvA a p tr=HK a p tr:=λh=>by
  have mo:=Ra h;have E:=mo.ok;have hl:=mo.len;unfold mvA HK;rw[awq J E.1 ⟨E.2.2.1,E.2.1.1⟩ hl]
 refine⟨?_,hA⟩;unfold Cc mxE;rw[if_neg (λh=>h h0)];split
 ·rfl
 ·rename_i h;have h:=zcN.1 h;have hA:=hA h;have hJ:eU [] (Z1 a.rn.l p tr)=gT (tB (aq a.rn.l) p tr tr.n.toNat):=by
   have:=congrArg (λx:At=>x.rn.l) hA;exact this
  have mo:=Ra h;unfold rpE;rw[hA,hJ];by_cases ha:iW (HK a p tr)=0
  ·have at0:=kI ha;have fx:=mo.rs;have hrE:dv (gT (tB (aq a.rn.l) p tr tr.n.toNat))=0:=(at0.ot fx).2.2.2.1;have Uj:=(bz hrE).1;rw[azd hrE,if_neg (λh=>h rfl),if_neg (λh=>h ha)];omega
  omega
def apP{f:Nat->Bool}{a b n:Nat}(ha:f a=false)(I:f b=true)(han:a<n)(hbn:b<n):eJ (λc=>if c=a then true else if c=b then false else f c) n=eJ f n:=by
 have U:=uP (p:=λc=>f c&&!decide (c=b)) (q:=λc=>decide (c=b)) (n:=n) λc _=>by
  rintro⟨g1,g2⟩;simp only[zaT,zbv,decide_eq_false_iff_not,decide_eq_true_eq]at g1 g2;exact g1.2 g2
 have H:=uP (p:=λc=>f c&&!decide (c=b)) (q:=λc=>decide (c=a)) (n:=n) λc _=>by
  rintro⟨g1,g2⟩;simp only[zaT,zbv,decide_eq_false_iff_not,decide_eq_true_eq]at g1 g2;rw[g2,ha]at g1;cases g1.1
 rw[rq,if_pos hbn]at U;rw[rq,if_pos han]at H;have e1:eJ f n=eJ (λc=>(f c&&!decide (c=b))||decide (c=b)) n:=fj λc _=>by
  by_cases g:c=b
  ·subst g;simp[I]
  ·simp[g]
 have e2:eJ (λc=>if c=a then true else if c=b then false else f c) n=eJ (λc=>(f c&&!decide (c=b))||decide (c=a)) n:=fj λc _=>by
  by_cases g:c=a
  ·simp[g]
  ·by_cases g2:c=b
   ·simp[g,g2]
   ·simp[g,g2]
 omega
def ED{l:OG}:br l=aoj (l.map λx=>decide (x≠ -1)):=by
 unfold br aoj;rw[List.countP_map,List.countP_eq_length_filter];congr 1
def afK{c c':OG}(h:c.map (λx=>decide (x≠ -1))=c'.map (λx=>decide (x≠ -1)))(hp:kK c):kK c':=by
 have hg:∀i:Nat,(c[i]?).map (λx=>decide (x≠ -1))=(c'[i]?).map (λx=>decide (x≠ -1)):=λi=>by
  rw[<-zaD,<-zaD,h]
 unfold kK at hp ⊢;rcases yk (p:=λy:Int=>y= -1) c' with⟨U,_⟩|⟨i,x,U,H,h3,h4⟩
 ·left;rw[U];decide
 ·right;rw[U,zaC];have hci:=hg i;rw[H]at hci;rcases yk (p:=λy:Int=>y= -1) c with⟨g1,g2⟩|⟨j,y,g1,g2,g3,g4⟩
  ·exfalso;cases F:c[i]? with
   |none=>rw[F]at hci;simp at hci
   |some z=>
    rw[F]at hci;have:=g2 z (zag F);simp only[zb1,Option.some.injEq]at hci;rw[h3]at hci;simp[this]at hci
  ·have sC:j=i:=by
    rcases zbJ i j with aM|he|aM
    ·exfalso;cases F:c[i]? with
     |none=>rw[F]at hci;simp at hci
     |some z=>
      rw[F]at hci;have:=g4 i aM z F;simp only[zb1,Option.some.injEq]at hci;rw[h3]at hci;simp[this]at hci
    ·exact he.symm
    ·exfalso;have hcj:=hg j;rw[g2]at hcj;cases F:c'[j]? with
     |none=>rw[F]at hcj;simp at hcj
     |some z=>
      rw[F]at hcj;have:=h4 j aM z F;simp only[zb1,Option.some.injEq]at hcj;rw[g3]at hcj;simp[this]at hcj
   subst sC;rw[g1,zaC]at hp;have hp:=hp.resolve_left V;rw[ED,List.map_drop,<-h,<-List.map_drop,<-ED];exact hp
def ae4{B B':P8}{l l':OG}(h:l'.map (lU B')=l.map (lU B))(k:Nat):fw B' (cP l' k)=fw B (cP l k):=by
 unfold fw;rw[zdA,zdA,<-fF,<-fF,h]
structure MvL(d:Dk)(a:At)(p:Int)(tr:Rn):Prop where
 D:MW d a p tr=MK d a p tr
 A:Uw d a p tr=HK a p tr
 op:aI (MK d a p tr) (HK a p tr)=0
 Vt:ba (aj (MK d a p tr) (HK a p tr))=ba (aj d a)
 n:(MK d a p tr).n=d.n
 eJ:iq (MK d a p tr).mp d.n=iq d.mp d.n
 oth:aal d (MK d a p tr) a (HK a p tr)
 len:(MK d a p tr).aT.length=d.aT.length
def CU{d:Dk}{a:At}{p:Int}{tr:Rn}(h0:aI d a=0)(hd:D8 d)(hn:a.nm.length<=1000000)(he:Cc d a p tr=0):MvL d a p tr:=by
 obtain⟨ok,oo⟩:=aL h0;have st:=ok.st hd hn;have Ec:sU (aq a.rn.l):=lv ok.rn;obtain⟨e1,e2⟩:=ahP (p:=p) (tr:=tr) h0;have T:mxE d a p tr=0:=by rw[<-e1];exact he
 have hm:MD (aj d a) p tr=0:=by
  unfold mxE at T;split at T
  ·exact T
  ·rename_i g;exact DT
 have Ea:iW (HK a p tr)=0:=by
  unfold mxE at T;rw[if_neg (λh=>h hm)]at T;split at T
  ·cases T
  ·rename_i g;exact zcN.1 λh=>g (.inr h)
 have e2:=e2 hm;have mo:=Ra hm;have E:=mo.ok;unfold L8 at E;have PH:(aj d a).d=d:=rfl;have ye:(aj d a).pl=aq a.rn.l:=rfl;have hlen:=mo.len;have KN:=mo.from_;have KJ:=mo.free;have fx:a.rs=false:=mo.rs;rw[PH]at E KJ;rw[ye]at hlen KN;have I:=Ze st;rw[ye,PH]at I;have hn5:d.n<=512:=ok.nb;obtain⟨d1,d2,d3⟩:=df ok.dk;obtain⟨s1,s2,s3,s4,s5⟩:=iV ok.str;obtain⟨aLa,zy,hun⟩:=oo fx;have cj:=λc F=>nq (d:=d) (a:=a) h0 (c:=c) F
 generalize hP:aq a.rn.l=pl at*;obtain⟨hx,hT⟩:∃hx:Nat,tr.s=hx:=⟨tr.s.toNat,V⟩
 obtain⟨N,hN⟩:∃N:Nat,tr.n=N:=⟨tr.n.toNat,V⟩
 obtain⟨q,hq⟩:∃q:Nat,p=q:=⟨p.toNat,V⟩
 have Z8:p.toNat=q:=V;have hNn:tr.n.toNat=N:=V;have hTN:hx+N<=d.n:=V;have hqN:q+N<=pl.length:=V;rw[Z8]at KN;have tg:∀k,k<N→∃x:Nat,pl[q+k]?=some (x:Int)/\x<d.n/\db d x=true:=λk hkN=>by
  obtain⟨x,sB,A7⟩:=KN k V;have h3:=I x (zag sB);refine⟨x.toNat,by rw[sB];congr 1;omega,V,?_⟩;have:=cj x.toNat (by rw[show((x.toNat:Nat):Int)=x by omega];exact zag sB);unfold db;rw[this];rfl
 have hto:∀c,hx<=c->c<hx+N->db d c=false:=λc U H=>KJ c V V
 have hdj:∀i j (x:Int),pl[i]?=some x->pl[j]?=some x->x≠ -1->i=j:=λi j x U H h3=>H4 Ec U H h3
 have hmv:∀k,k<=N→∀c,AY (db d) pl p tr k c=true↔(hx<=c/\c<hx+k)\/(db d c=true∧¬ ∃j,j<k/\pl[q+j]?=some (c:Int)):=by
  intro k
  induction k with
  |zero=>
   intro _ c;show db d c=true↔_;exact⟨λh=>.inr ⟨h,by rintro⟨j,hj,_⟩;omega⟩,λh=>by rcases h with h|h;omega;exact h.1⟩
  |succ k ih=>
   intro KH c;have ih:=ih V c;obtain⟨x,sB,A7,hx3⟩:=tg k V;show(if c=(tr.s+(k:Int)).toNat then true else if c=(pl[p.toNat+k]?.getD 0).toNat then false else AY (db d) pl p tr k c)=true↔_;rw[Z8,sB,zbE,zaC,show(tr.s+(k:Int)).toNat=hx+k by omega];by_cases g1:c=hx+k
   ·rw[if_pos g1];exact⟨λ_=>.inl V,λ_=>rfl⟩
   ·rw[if_neg g1];by_cases g2:c=x
    ·rw[if_pos g2];constructor
     ·intro h;cases h
     ·rintro(h|⟨_,h⟩)
      ·have:=hto c V V;rw[g2,hx3]at this;cases this
      ·exact absurd ⟨k,V,by rw[sB,g2]⟩ h
    ·rw[if_neg g2,ih];constructor
     ·rintro(h|⟨U,H⟩)
      ·exact .inl V
      ·refine .inr ⟨U,?_⟩;rintro⟨j,hj,Ed⟩;by_cases hjk:j=k
       ·subst hjk;rw[sB]at Ed;have:=Option.some.inj Ed;omega
       ·exact H ⟨j,V,Ed⟩
     ·rintro(h|⟨U,H⟩)
      ·exact .inl V
      ·exact .inr ⟨U,λ⟨j,hj,Ed⟩=>H ⟨j,V,Ed⟩⟩
 have A8:=ai3 d.mp d.n;have Gw:∀k,k<=N→∀c,c<d.n->((mbL (Ji d.mp d.n) pl p tr k)[c]?.getD 0).toNat=jS (AY (db d) pl p tr k c):=by
  intro k
  induction k with
  |zero=>
   intro _ c F;show((Ji d.mp d.n)[c]?.getD 0).toNat=jS (db d c);rw[aj7 F,zbE,zaC];have:=fV d.mp c;unfold db jS;by_cases g:aU d.mp c=1
   ·rw[g];rfl
   ·rw[show aU d.mp c=0 by omega];rfl
  |succ k ih=>
   intro KH c F;have ih:=ih V c F;obtain⟨x,sB,A7,hx3⟩:=tg k V;have ca:x≠hx+k:=λh=>by
    have:=hto (hx+k) V V;rw[<-h,hx3]at this;cases this
   show((((mbL (Ji d.mp d.n) pl p tr k).set (tr.s+(k:Int)).toNat 1).set (pl[p.toNat+k]?.getD 0).toNat 0)[c]?.getD 0).toNat=jS (if c=(tr.s+(k:Int)).toNat then true else if c=(pl[p.toNat+k]?.getD 0).toNat then false else AY (db d) pl p tr k c);rw[Z8,sB,zbE,zaC,show(tr.s+(k:Int)).toNat=hx+k by omega,zaR,za0,Pw,A8,zaR,Pw,A8];by_cases g1:c=hx+k
   ·subst g1;rw[if_neg V,if_pos rfl,if_pos V,if_pos rfl];rfl
   ·by_cases g2:c=x
    ·subst g2;rw[if_pos rfl,if_pos V,if_neg g1,if_pos rfl];rfl
    ·rw[if_neg (λh=>g2 h.symm),if_neg (λh=>g1 h.symm),if_neg g1,if_neg g2];exact ih
 have aqP:=xi (l:=cJ (AY (db d) pl p tr N) d.n) nd;rw[b8]at aqP;have hmp:K9 (λi=>((mbL (Ji d.mp d.n) pl p tr N)[i]?.getD 0).toNat) d.n=gm (cJ (AY (db d) pl p tr N) d.n):=by
  unfold gm;rw[b8];refine afZ (λi=>?_) (λi=>zp _) λi W=>?_
  ·by_cases W:i<d.n
   ·rw[Gw N (zai _) i W];exact zp _
   ·rw[zaM (by rw[Pw,A8];omega)];simp
  ·rw[bw W,zbE];exact Gw N (zai _) i W
 have hDD:MK d a p tr=⟨HG d.aT pl p tr N,gm (cJ (AY (db d) pl p tr N) d.n)⟩:=by
  unfold MK;rw[hP,hNn,hmp]
 have aLc:256*d.n<=d.aT.length:=uX;have hlB:∀k,k<=N->(HG d.aT pl p tr k).length=d.aT.length:=λk hkN=>O6 (λj hj=>by
  obtain⟨x,sB,A7,_⟩:=tg j V;rw[Z8,sB,zbE,zaC];exact⟨V,V,V⟩) k V
 have iX:∀k,k<=N→∀c,c<d.n->ee (HG d.aT pl p tr k) c=if hx<=c/\c<hx+k then ee d.aT (pl[q+(c-hx)]?.getD 0).toNat else ee d.aT c:=by
  intro k
  induction k with
  |zero=>intro _ c _;rw[if_neg V];rfl
  |succ k ih=>
   intro KH c F;have ih:=ih V c F;obtain⟨x,sB,A7,hx3⟩:=tg k V;have hl:=hlB k V;show ee (He (HG d.aT pl p tr k) (tr.s+(k:Int)).toNat (ee d.aT (pl[p.toNat+k]?.getD 0).toNat)) c=_;rw[Z8,sB,zbE,zaC,show(tr.s+(k:Int)).toNat=hx+k by omega,P6 V (kp V) V,ih];by_cases g:c=hx+k
   ·rw[if_pos g,if_pos V,g,show hx+k-hx=k by omega,sB,zbE,zaC]
   ·rw[if_neg g];by_cases g2:hx<=c/\c<hx+k
    ·rw[if_pos g2,if_pos V]
    ·rw[if_neg g2,if_neg V]
 have ayj:=iX N (zai _);have ayk:aq (HK a p tr).rn.l=tB pl p tr N:=by
  show aq (gT (tB (aq a.rn.l) p tr tr.n.toNat))=_;rw[hP,hNn];refine zh λx T=>?_
  obtain⟨i,W⟩:=zaG.1 T;rw[uq V V]at W;split at W
  ·have:=Option.some.inj W;omega
  ·have:=I x (zag W);omega
 have ayl:∀i,i<pl.length→∃x x':Int,pl[i]?=some x/\(tB pl p tr N)[i]?=some x'/\((x= -1/\x'= -1)\/(x≠ -1/\(0<=x'/\x'<d.n)/\AY (db d) pl p tr N x'.toNat=true/\ee (HG d.aT pl p tr N) x'.toNat=ee d.aT x.toNat)):=λi W=>by
  have hg:=uq (tr:=tr) (pl:=pl) (p:=p) V (k:=N) V i;rw[Z8]at hg;by_cases g:q<=i/\i<q+N
  ·rw[if_pos g]at hg;obtain⟨x,sB,A7,hx3⟩:=tg (i-q) V;rw[show q+(i-q)=i by omega]at sB;refine⟨x,_,sB,hg,.inr ⟨V,V,(hmv N (zai _) _).2 (.inl V),?_⟩⟩;rw[ayj _ V,if_pos V,show q+((tr.s+((i-q:Nat):Int)).toNat-hx)=i by omega,sB,zbE]
  ·rw[if_neg g]at hg;have T:pl[i]?=some pl[i]:=zah W;rw[T]at hg;have hbx:=I _ (zag T);refine⟨_,_,T,hg,?_⟩;by_cases U:pl[i]= -1
   ·exact .inl ⟨U,U⟩
   ·have hbt:db d pl[i].toNat=true:=by
     have:=cj pl[i].toNat (by rw[show((pl[i].toNat:Nat):Int)=pl[i] by omega];exact zag T);unfold db;rw[this];rfl
    have hnt:¬(hx<=pl[i].toNat/\pl[i].toNat<hx+N):=λh=>by
     rw[hto _ h.1 h.2]at hbt;cases hbt
    refine .inr ⟨U,V,(hmv N (zai _) _).2 (.inr ⟨hbt,?_⟩),?_⟩
    ·rintro⟨j,hj,Ed⟩;rw[show((pl[i].toNat:Nat):Int)=pl[i] by omega]at Ed;have:=hdj _ _ _ T Ed U;omega
    ·rw[ayj _ V,if_neg hnt]
 have hPl:=Pd pl p tr N;have als:∀{β:Type} (f g:Int->β),f (-1)=g (-1)->(∀x x':Int,x≠ -1->0<=x'->ee (HG d.aT pl p tr N) x'.toNat=ee d.aT x.toNat->f x'=g x)->(tB pl p tr N).map f=pl.map g:=λf g U H=>by
  refine zbb λi=>?_
  rw[zaD,zaD];by_cases W:i<pl.length
  ·obtain⟨x,x',g1,g2,g3⟩:=ayl i W;rw[g1,g2];simp only[zb1];congr 1;rcases g3 with⟨rfl,rfl⟩|⟨g3,g4,g5,g6⟩
   ·exact U
   ·exact H x x' g3 g4.1 g6
  ·rw[zaM V,zaM V];rfl
 have hm1:(tB pl p tr N).map (λx=>decide (x≠ -1))=pl.map (λx=>decide (x≠ -1)):=als _ _ rfl λx x' U H _=>by
  rw[zaN,decide_eq_true_eq,decide_eq_true_eq];exact⟨λ_=>U,λ_=>V⟩
 have hm2:(tB pl p tr N).map (lU (HG d.aT pl p tr N))=pl.map (lU d.aT):=als _ _ rfl λx x' U H h3=>by
  unfold lU;rw[if_neg V,if_neg U,h3]
 have hm3:(tB pl p tr N).map (λn=>if n= -1 then aC 256 else ee (HG d.aT pl p tr N) n.toNat)=pl.map (λn=>if n= -1 then aC 256 else ee d.aT n.toNat):=als _ _ rfl λx x' U H h3=>by
  rw[if_neg V,if_neg U,h3]
 have aym:mJ (HG d.aT pl p tr N) (tB pl p tr N)=mJ d.aT pl:=by
  unfold mJ;rw[zdA,zdA,hm3]
 have aBY:br (tB pl p tr N)=br pl:=by rw[ED,ED,hm1]
 have aBZ:∀k,(cP (tB pl p tr N) k).map (λx=>decide (x≠ -1))=(cP pl k).map (λx=>decide (x≠ -1)):=λk=>by rw[<-fF,<-fF,hm1]
 have fu:=ae4 hm2;have huc:∀k,br (cP (tB pl p tr N) k)=br (cP pl k):=λk=>by rw[ED,ED,aBZ]
 have ayn:nt (HG d.aT pl p tr N) (chunks (tB pl p tr N))=nt d.aT (chunks pl):=by
  unfold nt chunks;rw[zdy,zdy,hPl];exact Ey λk _=>by rw[fu]
 have aqQ:∀v,kg (HG d.aT pl p tr N) v (chunks (tB pl p tr N))=kg d.aT v (chunks pl):=λv=>by
  unfold kg;rw[jY,jY,hPl];unfold Lf;congr 1;refine zbG λk E=>?_
  have E:=zbp.1 E;rw[qZ _ (by rw[hPl];unfold ez;omega),qZ _ KA,zbE,zbE];unfold BD;rw[fu,huc]
 have hDn:(MK d a p tr).n=d.n:=by
  rw[hDD];show(HG d.aT pl p tr N).length/256=d.aT.length/256;rw[hlB N (zai _)]
 have sD:∀c,c<d.n->aU (MK d a p tr).mp c=jS (AY (db d) pl p tr N c):=λc F=>by
  rw[hDD];show aU (gm _) c=_;rw[aqP.2,if_pos F,bw F,zbE]
 have hdk:dj (MK d a p tr)=0:=by
  unfold dj;rw[hDn];have e:(MK d a p tr).aT.length=d.aT.length:=by rw[hDD];exact hlB N (zai _)
  rw[e,if_neg V,if_neg V,hDD];exact aqP.1
 have FI:∀c:Nat,(c:Int)∈tB pl p tr N↔(hx<=c/\c<hx+N)\/((c:Int)∈pl∧¬ ∃j,j<N/\pl[q+j]?=some (c:Int)):=λc=>by
  have hg:=λi=>uq (tr:=tr) (pl:=pl) (p:=p) V (k:=N) V i
  rw[Z8]at hg;constructor
  ·intro h;obtain⟨i,W⟩:=zaG.1 h;rw[hg i]at W;split at W
   ·have:=Option.some.inj W;left;omega
   ·rename_i g;refine .inr ⟨zag W,?_⟩;rintro⟨j,hj,Ed⟩;have:=hdj _ _ _ W Ed V;omega
  ·rintro(h|⟨U,H⟩)
   ·refine zag (i:=q+(c-hx)) ?_;rw[hg,if_pos V];congr 1;omega
   ·obtain⟨i,W⟩:=zaG.1 U;refine zag (i:=i) ?_;rw[hg,if_neg,W];intro g;exact H ⟨i-q,V,by rw[show q+(i-q)=i by omega];exact W⟩
 have aFV:MW d a p tr=MK d a p tr:=by
  unfold MW;rw[if_neg (λh=>h he),hDD,hP,hNn]
 have aFW:Uw d a p tr=HK a p tr:=by
  unfold Uw;rw[if_neg (λh=>h he),e2]
 refine⟨aFV,aFW,?_,?_,hDn,?_,⟨⟨by rw[hDD];exact(hlB N (zai _)).symm,hdk⟩,λc F=>?_⟩,by rw[hDD];exact hlB N (zai _)⟩
 ·have hsE:wx (HK a p tr)=0:=by
   unfold wx;rw[Ea,if_neg ab,if_neg,if_neg,if_neg]
   ·show ¬32768<a.sz;omega
   ·show ¬a.ft≠0;omega
   ·show ¬(a.ty≠128\/4<=a.fl\/a.fl=3);omega
  have hpE:mq (MK d a p tr) (tB pl p tr N)=0:=by
   unfold mq;rw[hDn,if_neg,if_neg]
   ·rintro⟨x,T,U,H⟩;obtain⟨i,W⟩:=zaG.1 T;have Xp:i<pl.length:=by have:=(zaa.1 W).1;omega
    obtain⟨y,x',g1,g2,g3⟩:=ayl i Xp;rw[W]at g2;have g2:=Option.some.inj g2;subst g2;rcases g3 with⟨_,g3⟩|⟨_,g4,g5,_⟩
    ·exact U g3
    ·rw[sD _ V,g5]at H;cases H
   ·rintro⟨x,T,U⟩;obtain⟨i,W⟩:=zaG.1 T;have Xp:i<pl.length:=by have:=(zaa.1 W).1;omega
    obtain⟨y,x',g1,g2,g3⟩:=ayl i Xp;rw[W]at g2;have g2:=Option.some.inj g2;subst g2;rcases g3 with⟨_,g3⟩|⟨_,g4,g5,_⟩<;>omega
  have aFX:mf (HK a p tr) (tB pl p tr N):=by
   have ayo:=zy;unfold mf at ayo ⊢;rw[aBY,hPl];show a.al=_/\if a.fl%2=1 then _/\_ else _
   refine⟨ayo.1,?_⟩;have aqR:=ayo.2;by_cases hf:a.fl%2=1
   ·rw[if_pos hf]at aqR ⊢;refine⟨aqR.1,λc F=>?_⟩;unfold chunks at F;obtain⟨k,KH,rfl⟩:=zaX.1 F;rw[hPl]at KH;exact afK (aBZ k).symm (aqR.2 _ (by unfold chunks;exact zaX.2 ⟨k,KH,rfl⟩))
   ·rw[if_neg hf]at aqR ⊢;exact aqR
  unfold aI;rw[hdk,hsE,if_neg ab,if_neg ab,if_neg (show ¬(HK a p tr).rs=true from λh=>by rw[show(HK a p tr).rs=a.rs from rfl,fx]at h;cases h),ayk,hpE,if_neg ab];unfold lh;rw[if_pos aFX,if_neg ab];split
  ·rename_i g;rw[hDD];show kg (HG d.aT pl p tr N) a.vd _=0;rw[aqQ];exact hun g
  ·rfl
 ·unfold ba;rw[if_neg (show ¬(aj (MK d a p tr) (HK a p tr)).a.rs=true from λh=>by rw[show(aj (MK d a p tr) (HK a p tr)).a.rs=a.rs from rfl,fx]at h;cases h),if_neg (show ¬(aj d a).a.rs=true from λh=>aaT)];show jt a (if a.fl%2=1 then nt (MK d a p tr).aT (chunks (aq (HK a p tr).rn.l))else mJ (MK d a p tr).aT (aq (HK a p tr).rn.l))=jt a (if a.fl%2=1 then nt d.aT (chunks (aq a.rn.l))else mJ d.aT (aq a.rn.l));rw[ayk,hP,hDD];show jt a (if a.fl%2=1 then nt (HG d.aT pl p tr N) _ else mJ (HG d.aT pl p tr N) _)=_;rw[ayn,aym]
 ·have F:∀k,k<=N->eJ (AY (db d) pl p tr k) d.n=eJ (db d) d.n:=by
   intro k
   induction k with
   |zero=>intro _;rfl
   |succ k ih=>
    intro KH;obtain⟨x,sB,A7,hx3⟩:=tg k V;have hf:AY (db d) pl p tr (k+1)=λc=>if c=hx+k then true else if c=x then false else AY (db d) pl p tr k c:=by
     funext c;show(if c=(tr.s+(k:Int)).toNat then true else if c=(pl[p.toNat+k]?.getD 0).toNat then false else AY (db d) pl p tr k c)=_;rw[Z8,sB,zbE,zaC,show(tr.s+(k:Int)).toNat=hx+k by omega]
    rw[hf,apP _ _ V A7,ih V]
    ·cases h:AY (db d) pl p tr k (hx+k)with
     |false=>rfl
     |true=>
      rcases(hmv k V _).1 h with h|h
      ·omega
      ·rw[hto (hx+k) V V]at h;cases h.1
    ·refine(hmv k V _).2 (.inr ⟨hx3,?_⟩);rintro⟨j,hj,Ed⟩;have:=hdj _ _ _ sB Ed V;omega
  rw[oG,oG];have e3:eJ (λc=>decide (aU (MK d a p tr).mp c=1)) d.n=eJ (AY (db d) pl p tr N) d.n:=fj λc F=>by
   rw[sD c F];cases AY (db d) pl p tr N c<;>simp[jS]
  rw[e3,F N (zai _)];rfl
 ·unfold afx;rw[ui,ui,ayk,hP,FI];have hmc:=hmv N (zai _) c;have hbc:=sD c F;have VC:db d c=true↔aU d.mp c=1:=by unfold db;simp
  have aBQ:=fV d.mp c;have ht:jS true=1:=rfl;have hf:jS false=0:=rfl;refine⟨λ⟨g1,g2⟩=>⟨?_,?_⟩,λ⟨g1,g2⟩=>?_,λg=>?_,λ⟨g1,g2⟩=>?_⟩
  ·rw[hbc];have hnt:¬(hx<=c/\c<hx+N):=λh=>g2 (.inl h)
   by_cases xI:db d c=true
   ·rw[hmc.2 (.inr ⟨xI,λ⟨j,_,hj⟩=>g1 (zag hj)⟩),ht,VC.1 xI]
   ·have:AY (db d) pl p tr N c=false:=by
     cases h:AY (db d) pl p tr N c with
     |false=>rfl
     |true=>
      rcases hmc.1 h with h|h
      ·exact absurd h hnt
      ·exact absurd h.1 xI
    rw[this,hf];have:¬aU d.mp c=1:=λh=>xI (VC.2 h)
    omega
  ·rw[hDD];show ee d.aT c=ee (HG d.aT pl p tr N) c;rw[ayj c F,if_neg λh=>g2 (.inl h)]
  ·rw[hbc];have:AY (db d) pl p tr N c=false:=by
    cases h:AY (db d) pl p tr N c with
    |false=>rfl
    |true=>
     rcases hmc.1 h with h|h
     ·exact absurd (.inl h) g2
     ·exact absurd (.inr ⟨g1,h.2⟩) g2
   rw[this,hf]
  ·rw[hbc];have:AY (db d) pl p tr N c=true:=by
    rcases g with h|⟨U,H⟩
    ·exact hmc.2 (.inl h)
    ·exact hmc.2 (.inr ⟨VC.2 (cj c U),H⟩)
   rw[this,ht]
  ·rcases g1 with h|⟨U,_⟩
   ·have:=hto c h.1 h.2;have:¬aU d.mp c=1:=λh=>by rw[VC.2 h]at this;cases this
    omega
   ·exact absurd U g2
def mX{d:Dk}(h:dj d=0):D8 d:=by
 obtain⟨q1,q2,q3⟩:=df h;obtain⟨_,_,b3,b4,_⟩:=lj q3;unfold Dk.n at q2 b4;exact⟨V,by unfold vz at b4;omega⟩
section
def Zr{d e:Dk}{b:At}(h:aI e b=0)(hl:d.aT.length=e.aT.length)(hd:D8 d):D8 e:=by
 have ok:=(aL h).1;obtain⟨b1,b2,b3,b4,_⟩:=lj ok.bm;have U:=hd.1;exact⟨V,by unfold vz at b4;omega⟩
section
variable {d e:Dk} {a:At} {C:P8} {v:Int} {dt:Nat->Prop}
end
end
structure azJ(d e:Dk)(a:At):Prop where
 len:e.aT.length=d.aT.length
 dk:dj e=0
 bit:∀c:Nat,(c:Int)∈aq a.rn.l->aU e.mp c=1
 cl:∀c:Nat,(c:Int)∈aq a.rn.l->ee e.aT c=ee d.aT c
def akK{d e:Dk}{a:At}(h:azJ d e a)(h0:aI d a=0):aI e a=0/\ba (aj e a)=ba (aj d a):=by
 obtain⟨ok,oo⟩:=aL h0;have hn:e.n=d.n:=by unfold Dk.n;rw[h.len]
 have iX:∀x∈aq a.rn.l,x≠ -1->ee e.aT x.toNat=ee d.aT x.toNat:=λx T U=>by
  have I:=(ok.pl x T).resolve_left U;exact h.cl _ au
 have hm2:(aq a.rn.l).map (lU e.aT)=(aq a.rn.l).map (lU d.aT):=zbG λx T=>by
  unfold lU
  grind
 have aym:mJ e.aT (aq a.rn.l)=mJ d.aT (aq a.rn.l):=by
  unfold mJ;refine Ey λx T=>?_
  grind
 have fu:∀k,fw e.aT (cP (aq a.rn.l) k)=fw d.aT (cP (aq a.rn.l) k):=λk=>by
  unfold fw;rw[zdA,zdA,<-fF,<-fF,hm2]
 have ayn:nt e.aT (chunks (aq a.rn.l))=nt d.aT (chunks (aq a.rn.l)):=by
  unfold nt chunks;rw[zdy,zdy]
  grind
 have aqQ:∀v,kg e.aT v (chunks (aq a.rn.l))=kg d.aT v (chunks (aq a.rn.l)):=λv=>by
  unfold kg Lf;congr 1;refine zbG λk E=>?_
  have E:=zbp.1 E;rw[jY]at E;rw[qZ _ az,zbE];unfold BD;rw[fu]
 constructor
 ·by_cases fx:a.rs=true
  ·unfold aI;rw[h.dk,ok.str,if_neg ab,if_neg ab,if_pos fx]
  ·have fx:a.rs=false:=by grind
   obtain⟨o1,o2,o3⟩:=oo fx;have hp:mq e (aq a.rn.l)=0:=by
    unfold mq;rw[hn,if_neg,if_neg]
    ·rintro⟨x,T,U,H⟩;have I:=(ok.pl x T).resolve_left U;have:=h.bit x.toNat au;omega
    ·rintro⟨x,T,U⟩;rcases ok.pl x T with H|H
     ·omega
     ·unfold Dk.n at U;omega
   unfold aI;rw[h.dk,ok.str,if_neg ab,if_neg ab,if_neg V,hp,if_neg ab];unfold lh
   grind
 ·unfold ba;show(if a.rs=true then a.vl else jt a (if a.fl%2=1 then nt e.aT (chunks (aq a.rn.l))else mJ e.aT (aq a.rn.l)))=(if a.rs=true then a.vl else jt a (if a.fl%2=1 then nt d.aT (chunks (aq a.rn.l))else mJ d.aT (aq a.rn.l)))
  grind
def apS(a b:At):Prop:=∀c:Nat,(c:Int)∈aq a.rn.l->(c:Int)∉aq b.rn.l
def beside{d e:Dk}{a b o:At}(h:aal d e a b)(h0:aI d o=0)(ha:apS o a):azJ d e o/\apS o b:=by
 obtain⟨ok,_⟩:=aL h0;have I:∀c:Nat,(c:Int)∈aq o.rn.l->c<d.n/\aU d.mp c=1:=λc F=>by
  refine⟨?_,nq h0 F⟩;rcases ok.pl _ F with U|U
  ·omega
  ·unfold Dk.n;omega
 have E:∀c:Nat,(c:Int)∈aq o.rn.l->(c:Int)∉aq b.rn.l/\aU e.mp c=1/\ee e.aT c=ee d.aT c:=λc F=>by
  obtain⟨U,H⟩:=I c F;have hna:=ha c F;have ho:=h.2 c U;unfold afx at ho;rw[ui,ui]at ho
  grind
 exact⟨⟨h.1.1.symm,h.1.2,λc F=>(E c F).2.1,λc F=>(E c F).2.2⟩,λc F=>(E c F).1⟩
def QI{d e:Dk}{a b:At}(ho:aal d e a b)(h0:aI d a=0)(U:aI e b=0):iq e.mp d.n+br (aq a.rn.l)=iq d.mp d.n+br (aq b.rn.l):=by
 obtain⟨ok,_⟩:=aL h0;obtain⟨ok1,_⟩:=aL U;have hn:e.n=d.n:=by unfold Dk.n;rw[ho.1.1]
 have ma:=EN (n:=d.n) (lv ok.rn) λx T=>by
  rcases ok.pl x T with h|h
  ·omega
  ·right;unfold Dk.n;omega
 have mb:=EN (n:=d.n) (lv ok1.rn) λx T=>by
  rcases ok1.pl x T with h|h
  ·omega
  ·right;unfold Dk.n at hn ⊢;omega
 have key:∀c,c<d.n->((aU e.mp c=1↔(c:Int)∈aq b.rn.l\/(aU d.mp c=1/\(c:Int)∉aq a.rn.l))∧¬((c:Int)∈aq b.rn.l/\aU d.mp c=1/\(c:Int)∉aq a.rn.l)):=λc F=>by
  have:=ho.2 c F;unfold afx at this;rw[ui,ui]at this
  grind
 have c1:=uP (p:=λc=>decide ((c:Int)∈aq b.rn.l)) (q:=λc=>decide (aU d.mp c=1)&&!decide ((c:Int)∈aq a.rn.l)) (n:=d.n) λc F=>by
  grind
 have c2:=uP (p:=λc=>decide ((c:Int)∈aq a.rn.l)) (q:=λc=>decide (aU d.mp c=1)&&!decide ((c:Int)∈aq a.rn.l)) (n:=d.n) λc F=>by
  grind
 have e1:eJ (λc=>decide (aU e.mp c=1)) d.n=eJ (λc=>decide ((c:Int)∈aq b.rn.l)||(decide (aU d.mp c=1)&&!decide ((c:Int)∈aq a.rn.l))) d.n:=fj λc F=>by
  grind
 have e2:eJ (λc=>decide (aU d.mp c=1)) d.n=eJ (λc=>decide ((c:Int)∈aq a.rn.l)||(decide (aU d.mp c=1)&&!decide ((c:Int)∈aq a.rn.l))) d.n:=fj λc F=>by
  rw[zaN,decide_eq_true_eq,zbF,zaT,decide_eq_true_eq,decide_eq_true_eq,zbv];by_cases g:(c:Int)∈aq a.rn.l
  ·exact⟨λ_=>.inl g,λ_=>nq h0 g⟩
  grind
 rw[oG,oG];omega
structure Vo where
 d:Dk
 st:Sl At
def ub(s:Sl At):PV:=Sl.pv At.pv 11 s
def Vo.pv(v:Vo):PV:=.agg [.str v.d.aT,.str v.d.mp,ub v.st]
def Kw:MT (ao []) Gs (ah dn):=fa
def GC:MT (ao []) CX (ah bF):=by
 rintro _ K ⟨_,⟨b,e,rfl,rfl⟩,Y⟩;cases b
 ·(conv=>whnf)
  exact aO
 ·(conv=>whnf)
  exact aO
def Hu:MT (ao []) CY (dU cf):=by
 rintro _ K ⟨_,⟨n,lo,W,rfl,rfl⟩,Y⟩
 (repeat'((conv=>whnf);first|refine dc (λ_=>?_) (λ_=>?_)|fail))
 all_goals exact QR
def DF:MT (ao []) yP (ah bk):=by
 rintro _ K ⟨_,⟨d,rfl,h,rfl⟩,Y⟩
 (repeat'((conv=>whnf);first|refine QUO V ?_|fail))
 exact TT
def my(d:Dk)(t:Rn):Prop:=(0<=t.s/\t.s<=(d.n:Int)-1)/\1<=t.n/\t.n<=(d.n:Int)-t.s
def SF(ps:CK)(p:Prop):Prop:=∃(d:Dk) (t:Rn),ps=[d.pv,t.pv]/\d.aT.length<=1000000/\p=my d t
def Xr:MT (ao [(147,ah bk),(77,dU cf)]) Cj (dU SF):=by
 rintro _ K ⟨_,⟨d,t,rfl,h,rfl⟩,Y⟩;have hn:d.n<=1000000:=uX;have F:bk [d.pv] (pI d.n):=⟨d,rfl,h,rfl⟩
 unfold my at Y;generalize d.n=N at*
 (repeat'((conv=>whnf);first|refine⟨_,F,?_⟩|refine⟨_,⟨_,_,_,rfl,rfl⟩,?_⟩|refine bu V ?_|refine dc (λ_=>?_) (λ_=>?_)|fail))
 all_goals exact QR
def qL(d:Dk)(c:Nat):Int:=if aU d.mp c=1 then-2 else-1
def xx(d:Dk):OG:=(List.range d.n).map (qL d)
def MC(d:Dk):(xx d).length=d.n:=by simp[xx]
def JF(N:Nat)(f:Nat->Int)(n:Nat):OG:=(List.range N).map λc=>if c<n then f c else 0
def Q7(N:Nat)(f:Nat->Int)(n:Nat):(JF N f n).length=N:=by simp[JF]
def aaV(N:Nat)(f:Nat->Int)(n i:Nat):(JF N f n)[i]?=if i<N then some (if i<n then f i else 0)else none:=by
 unfold JF;rw[zaD];by_cases h:i<N
 ·rw[zbD h,if_pos h];rfl
 ·rw[zaM aH,if_neg h];rfl
def ame{N:Nat}{f:Nat->Int}{n:Nat}(h:n<N):(JF N f n).set n (f n)=JF N f (n+1):=by
 refine zbb λi=>?_
 rw[zaR,aaV,aaV,Q7];by_cases W:n=i
 ·subst W;rw[if_pos rfl,if_pos h,if_pos h,if_pos V]
 ·rw[if_neg W];by_cases hl:i<n
  ·rw[if_pos hl,if_pos (show i<n+1 by omega)]
  ·rw[if_neg hl,if_neg (show ¬i<n+1 by omega)]
def apJ(N:Nat)(f:Nat->Int):JF N f N=(List.range N).map f:=zbG λc F=>if_pos (zbp.1 F)
def ajv(N:Nat)(f:Nat->Int):(JF N f 0).map pI=List.replicate N (pI 0):=by
 refine List.ext_getElem (by simp[JF]) λi U H=>?_
 simp[JF]
def H3(ps:CK)(r:RV):Prop:=∃d:Dk,ps=[d.pv]/\(dkB d/\gP d.mp d.n=0)/\r=.fresh 3 1 ((xx d).map pI)
def LD:MT (ao [(147,ah bk),(139,OW)]) Jn (dz true H3):=by
 rintro _ K ⟨_,⟨d,rfl,⟨⟨U,H⟩,h3⟩,rfl⟩,Y⟩;have hn:d.n<=1000000:=uX;have F:bk [d.pv] (pI d.n):=⟨d,rfl,U,rfl⟩
 have hz:=ajv d.n (qL d);have hlN:∀k,((JF d.n (qL d) k).map pI).length=d.n:=λk=>by rw[zaw,Q7]
 (repeat'((conv=>whnf);first|refine⟨_,F,?_⟩|refine cT λ_=>?_|refine HI ?_|fail))
 refine⟨λm env Z=>∃n:Nat,n+m=d.n/\Z=[.box 23 [.pv (.str d.aT),.pv (.str d.mp)],.row 3 1 true ((JF d.n (qL d) n).map pI)]/\env=[(1,.ref 0 0 0),(3,.own 1),eN 11 d.n,eN 12 n],d.n,⟨0,V,?_,?_⟩,?_⟩
 ·rw[hz,zaC]
 ·rfl
 rintro m env Z ⟨n,hnm,rfl,rfl⟩;have hl:=hlN n;by_cases aM:n<d.n
 ·have I:aco d.mp d.n n=aU d.mp n:=by
   unfold aco Ss;rw[h3];simp;intro h;omega
  have ql:=ame (f:=qL d) aM;have hbf:qL d n=if aU d.mp n=1 then-2 else-1:=rfl
  have hG:(JF d.n (qL d) n).length=d.n:=Q7 _ _ _;generalize JF d.n (qL d) n=G at*;have hg:(G.map pI)[(n:Int).toNat]?=some (pI (G[n]'V)):=by
   rw[zaC,zaD,zah V];rfl
  have PA:(G.map pI).set (n:Int).toNat (pI (-1))=(G.set n (-1)).map pI:=by rw[zaC,zcW]
  have FL:((G.set n (-1)).map pI).length=d.n:=by rw[zaw,za0,hG]
  have T9:((G.set n (-1)).map pI)[(n:Int).toNat]?=some (pI (-1)):=by
   rw[zaC,zaD,zbO V];rfl
  have hs3:((G.set n (-1)).map pI).set (n:Int).toNat (pI (-2))=(G.set n (-2)).map pI:=by rw[zaC,<-zcW,List.set_set]
  (conv=>whnf)
  refine ak V ?_
  (conv=>whnf)
  refine zcv ⟨V,V⟩ ?_
  (conv=>whnf)
  refine⟨_,hg,?_⟩;refine⟨rfl,?_⟩;have aFZ:(G.map pI).set (n:Int).toNat (.int .i64 (-1))=(G.set n (-1)).map pI:=PA;have aF0:((G.set n (-1)).map pI).set (n:Int).toNat (.int .i64 (-2))=(G.set n (-2)).map pI:=hs3
  (repeat'((conv=>whnf);first|rw[aFZ]|refine zcv ⟨V,V⟩ ?_|refine⟨_,T9,?_⟩|rw[aF0]|refine⟨_,_,_,rfl,V,?_⟩|refine bu V ?_|refine dc (λ_=>?_) (λ_=>?_)|refine cT λ_=>?_|refine aY ?_|fail))
  ·rename_i x;rw[za0,hG,I]at x;exact⟨m-1,V,n+1,V,by rw[<-ql,hbf,if_pos V],rfl⟩
  ·rename_i x;rw[za0,hG,I]at x;exact⟨m-1,V,n+1,V,by rw[<-ql,hbf,if_neg V],rfl⟩
 ·(repeat'((conv=>whnf);first|refine ar V ?_|fail))
  have:n=d.n:=V;subst this;rw[apJ];exact Td
def KP(o:OG)(i:Int):QK->Option (OG)
 |[]=>some o
 |c::r=>if 0<=o[c]?.getD 0 then none else KP (o.set c i) i r
def U1(r:Rn):QK:=if r.s= -1 then[]else List.range' r.s.toNat r.n.toNat
def qC(l:UH):QK:=l.flatMap U1
def aoR{l:UH}{n:Nat}{r:Rn}(h:l[n]?=some r):qC (l.drop n)=U1 r++qC (l.drop (n+1)):=by
 obtain⟨aM,rfl⟩:=zaa.1 h;rw[zcf aM];unfold qC;rw[zan]
def XW(xs:XP)(Z:ax)(K:AV->ax->Prop):Prop:=∃(o:OG) (a:At) (i:Int),xs=[.own 0,.pv a.pv,.pv (pI i)]/\(a.rn.l.length<=1000/\(∀r∈a.rn.l,r.s= -1\/(0<=r.s/\0<=r.n/\r.s+r.n<=o.length))/\o.length<=1000000)/\Z=[.row 3 1 true (o.map pI)]/\
 (∀o',KP o i (qC a.rn.l)=some o'->K (.pv (pB true)) [.row 3 1 true (o'.map pI)])/\(KP o i (qC a.rn.l)=none→∀o':OG,o'.length=o.length->K (.pv (pB false)) [.row 3 1 true (o'.map pI)])
def adz:OQ (ao []) Gd (lZ XW):=by
 rintro _ _ K ⟨o,a,i,rfl,⟨U,H,h3⟩,rfl,hT,hF⟩;have FJ:(a.rn.l.map Rn.pv).length=a.rn.l.length:=zaw _
 (repeat'((conv=>whnf);first|refine tD ?_|refine cT λ_=>?_|fail))
 refine⟨λm env Z=>∃(n:Nat) (oc:OG),(n+m=a.rn.l.length/\oc.length=o.length/\KP o i (qC a.rn.l)=KP oc i (qC (a.rn.l.drop n)))/\Z=[.row 3 1 true (oc.map pI)]/\env=[(0,.own 0),eN 2 i,(11,.pv (uF a.rn)),eN 12 a.rn.l.length,eN 13 n],a.rn.l.length,⟨0,o,⟨V,rfl,rfl⟩,rfl,rfl⟩,?_⟩;rintro m env Z ⟨n,oc,⟨hn,hoc,hgo⟩,rfl,rfl⟩;by_cases aM:n<a.rn.l.length
 ·obtain⟨r,J⟩:∃r,a.rn.l[n]?=some r:=⟨_,zah aM⟩
  have hrr:=H r (zag J);have hd:=aoR J;have hrn:(a.rn.l.map Rn.pv)[(n:Int).toNat]?=some r.pv:=by rw[zaC,zaD,J];rfl
  have zT:uF a.rn=.sl 2 (a.rn.l.map Rn.pv):=by
   cases h:a.rn with
   |nil=>rw[h]at J;cases J
   |sl l=>rfl
  rw[hd]at hgo;rw[zT];by_cases hs:r.s= -1
  ·(repeat'((conv=>whnf);first|refine ak hs ?_|refine bu V ?_|refine ak V ?_|refine jP az ?_|refine aY ?_|fail))
   rw[show U1 r=[] by unfold U1;rw[if_pos hs]]at hgo;exact⟨m-1,V,n+1,oc,⟨V,hoc,hgo⟩,rfl,rfl⟩
  ·have hcr:U1 r=List.range' r.s.toNat r.n.toNat:=by unfold U1;rw[if_neg hs]
   rw[hcr]at hgo
   (repeat'((conv=>whnf);first|refine ar hs ?_|refine ak V ?_|refine jP az ?_|refine aY ?_|fail))
   refine⟨λm2 env Z=>∃(c:Nat) (oq:OG),((c:Int)+m2=r.s+r.n/\oq.length=o.length/\KP o i (qC a.rn.l)=KP oq i (List.range' c m2++qC (a.rn.l.drop (n+1))))/\Z=[.row 3 1 true (oq.map pI),.box 103 [.pv (pI r.s),.pv (pI r.n)]]/\
    env=[(0,.own 0),eN 2 i,(8,.ref 1 0 0),eN 9 c,(11,.pv (.sl 2 (a.rn.l.map Rn.pv))),eN 12 a.rn.l.length,eN 13 n],r.n.toNat,⟨r.s.toNat,oc,⟨V,hoc,hgo⟩,rfl,?_⟩,?_⟩
   ·rw[show((r.s.toNat:Nat):Int)=r.s by omega]
   rintro m2 env Z ⟨c,oq,⟨F,hoq,hg⟩,rfl,rfl⟩;cases m2 with
   |zero=>
    (repeat'((conv=>whnf);first|refine ar V ?_|refine bu V ?_|fail))
    exact⟨m-1,V,n+1,oq,⟨V,hoq,hg⟩,rfl,rfl⟩
   |succ m2=>
    have iX:c<oq.length:=V;obtain⟨w,hw⟩:∃w,oq[c]?=some w:=⟨_,zah iX⟩
    have hq:(oq.map pI)[(c:Int).toNat]?=some (pI w):=by rw[zaC,zaD,hw];rfl
    have hql:(oq.map pI).length=oq.length:=zaw _;have ql:(oq.map pI).set (c:Int).toNat (pI i)=(oq.set c i).map pI:=by rw[zaC,zcW]
    have NC:KP oq i (List.range' c (m2+1)++qC (a.rn.l.drop (n+1)))=if 0<=w then none else KP (oq.set c i) i (List.range' (c+1) m2++qC (a.rn.l.drop (n+1))):=by
     rw[List.range'_succ,List.cons_append];show(if 0<=oq[c]?.getD 0 then none else _)=_;rw[hw];rfl
    rw[NC]at hg;by_cases hw0:0<=w
    ·rw[if_pos hw0]at hg
     (repeat'((conv=>whnf);first|refine ak V ?_|refine zcv ⟨V,V⟩ ?_|refine⟨_,hq,?_⟩|refine bu V ?_|fail))
     exact hF hg oq hoq
    ·rw[if_neg hw0]at hg
     (repeat'((conv=>whnf);first|refine zcv ⟨V,V⟩ ?_|refine⟨_,hq,?_⟩|refine ar hw0 ?_|refine ak V ?_|refine bu V ?_|refine aY ?_|fail))
     exact⟨m2,V,c+1,oq.set c i,⟨V,by rw[za0,hoq],hg⟩,by rw[<-ql],rfl⟩
 ·(repeat'((conv=>whnf);first|refine ar V ?_|fail))
  refine hT oc ?_;rw[hgo,zdt V];rfl
def wz(d:Dk)(o:OG)(i:Int):UD->Int×Int
 |[]=>(0,0)
 |a::r=>if aI d a≠0 then(i,aI d a)else match KP o i (qC a.rn.l)with
  |none=>(i,13)
  |some o'=>wz d o' (i+1) r
def Pt:∀(cs:QK) {o o':OG} {i:Int},KP o i cs=some o'->o'.length=o.length
 |[],o,o',i,h=>by cases h;rfl
 |c::r,o,o',i,h=>by
  unfold KP at h;split at h
  ·cases h
  ·rw[Pt r h,za0]
def lY{d:Dk}{a:At}(h:aI d a=0):∀r∈a.rn.l,r.s= -1\/(0<=r.s/\0<=r.n/\r.s+r.n<=d.n):=by
 obtain⟨ok,_⟩:=aL h;intro r J;have U:=(bz ok.rn).2.2.2 r J;unfold ir at U;by_cases hs:r.s= -1
 ·exact .inl hs
 rw[if_neg hs]at U;have hm:r.s+((r.n.toNat-1:Nat):Int)∈aq a.rn.l:=by
  unfold aq;rw[zbB];refine⟨r,J,?_⟩;unfold jd;rw[zaX];refine⟨r.n.toNat-1,zbp.2 V,?_⟩;rw[if_neg hs]
 have H:=ok.pl _ hm;right;unfold Dk.n;omega
def boV(d:Dk)(s:Sl At):cK:=.box 49 [.pv (.str d.aT),.pv (.str d.mp),.pv (ub s)]
def aeV(xs:XP)(Z:ax)(K:AV->ax->Prop):Prop:=∃(d:Dk) (s:Sl At) (o:OG) (i:Int) (a:At),xs=[.pv (pI i),.pv a.pv,.ref 0 0 0,.ref 1 0 0]/\(dkB d/\a.nm.length<=1000000/\o.length=d.n)/\Z=[boV d s,.box 42 [.own 2],.row 3 1 true (o.map pI)]/\
 (aI d a≠0->K (.pv (pI (aI d a))) [boV d s,.box 42 [.own 2],.row 3 1 true (o.map pI)])/\
 (aI d a=0->(∀o',KP o i (qC a.rn.l)=some o'->K (.pv (pI 0)) [boV d s,.box 42 [.own 2],.row 3 1 true (o'.map pI)])/\(KP o i (qC a.rn.l)=none→∀o':OG,o'.length=o.length->K (.pv (pI 13)) [boV d s,.box 42 [.own 2],.row 3 1 true (o'.map pI)]))
def aeO:OQ (ao [(71,ah x3),(72,lZ XW),(67,ah bF)]) pD (lZ aeV):=by
 rintro _ _ K ⟨d,s,o,i,a,rfl,⟨U,H,h3⟩,rfl,hE,hG⟩;have F:x3 [d.pv,a.pv] (pI (aI d a)):=⟨d,a,rfl,⟨U,H⟩,rfl⟩
 have hn:d.n<=1000000:=by have:=U.1;unfold Dk.n;omega
 unfold boV at*;by_cases h0:aI d a=0
 case neg=>
  have hE:=hE h0
  (repeat'((conv=>whnf);first|refine⟨_,F,?_⟩|refine ak h0 ?_|fail))
  exact hE
 obtain⟨hT,hF⟩:=hG h0;have hro:=lY h0;have Xo:=(bz (aL h0).1.rn).1;rw[h0]at F
 (repeat'((conv=>whnf);first|refine⟨_,F,?_⟩|refine ar (λh=>h rfl) ?_|fail))
 refine⟨o,a,i,rfl,⟨V,by rw[h3];exact hro,V⟩,rfl,λo' ho=>?_,λho o' hl=>?_⟩
 ·(repeat'(refine fq ?_;first|refine⟨_,⟨_,_,rfl,rfl⟩,?_⟩|fail))
  exact hT o' ho
 ·(repeat'(refine fq ?_;first|refine⟨_,⟨_,_,rfl,rfl⟩,?_⟩|fail))
  exact hF ho o' hl
def asY{d:Dk}{o:OG}{i:Int}{l:UD}{n:Nat}{a:At}(h:l[n]?=some a):wz d o i (l.drop n)=if aI d a≠0 then(i,aI d a)else match KP o i (qC a.rn.l)with
 |none=>(i,13)
 |some o'=>wz d o' (i+1) (l.drop (n+1)):=by
 obtain⟨aM,rfl⟩:=zaa.1 h;rw[zcf aM];rfl
def ahJ(xs:XP)(Z:ax)(K:AV->ax->Prop):Prop:=∃(d:Dk) (s q:Sl At) (o:OG),xs=[.pv (ub s),.clo 70 [.ref 0 0 0,.ref 1 0 0]]/\(dkB d/\(∀a∈s.l,a.nm.length<=1000000)/\o.length=d.n/\s.l.length<=1000000)/\Z=[boV d q,.box 42 [.own 2],.row 3 1 true (o.map pI)]/\
 ∀o':OG,K (.tup [.pv (pI (wz d o 0 s.l).1),.pv (pI (wz d o 0 s.l).2)]) [boV d q,.box 42 [.own 2],.row 3 1 true (o'.map pI)]
def abY:OQ (ao [(70,lZ aeV)]) fU (lZ ahJ):=by
 rintro _ _ K ⟨d,s,q,o,rfl,⟨U,H,h3,h4⟩,rfl,Y⟩;have FJ:(s.l.map At.pv).length=s.l.length:=zaw _
 (repeat'((conv=>whnf);first|refine tD ?_|refine cT λ_=>?_|fail))
 refine⟨λm env Z=>∃(n:Nat) (oc:OG),(n+m=s.l.length/\oc.length=d.n/\wz d o 0 s.l=wz d oc n (s.l.drop n))/\Z=[boV d q,.box 42 [.own 2],.row 3 1 true (oc.map pI)]/\
  env=[(1,.clo 70 [.ref 0 0 0,.ref 1 0 0]),(9,.pv (ub s)),eN 10 s.l.length,eN 11 n],s.l.length,⟨0,o,⟨V,h3,rfl⟩,rfl,rfl⟩,?_⟩
 rintro m env Z ⟨n,oc,⟨hn,hoc,hg⟩,rfl,rfl⟩;by_cases aM:n<s.l.length
 ·obtain⟨a,ha⟩:∃a,s.l[n]?=some a:=⟨_,zah aM⟩
  have zT:ub s=.sl 11 (s.l.map At.pv):=by
   cases s with
   |nil=>cases ha
   |sl l=>rfl
  have hna:=H a (zag ha);rw[asY ha]at hg;rw[zT]
  (repeat'((conv=>whnf);first|refine ak V ?_|refine jP az ?_|refine aY ?_|fail))
  refine⟨d,q,oc,n,a,rfl,⟨U,hna,hoc⟩,rfl,λhE=>?_,λh0=>⟨λo' ho=>?_,λho o' hl=>?_⟩⟩
  ·rw[if_pos hE]at hg;rw[hg]at Y
   (repeat'((conv=>whnf);first|refine ak hE ?_|fail))
   exact Y oc
  ·rw[if_neg (λh=>h h0),ho]at hg
   (repeat'((conv=>whnf);first|refine ar (λh=>h rfl) ?_|refine bu V ?_|fail))
   exact⟨m-1,V,n+1,o',⟨V,(Pt _ ho).trans hoc,Jk⟩,rfl,rfl⟩
  ·rw[if_neg (λh=>h h0),ho]at hg;rw[hg]at Y
   (repeat'((conv=>whnf);first|refine ak ai ?_|fail))
   exact Y o'
 ·(repeat'((conv=>whnf);first|refine ar V ?_|fail))
  rw[zdt V]at hg;rw[hg]at Y;exact Y oc
def Un(v:Vo):Prop:=dkB v.d/\(∀a∈v.st.l,a.nm.length<=1000000)/\v.st.l.length<=1000000
def LC(v:Vo):Int×Int:=if dj v.d≠0 then(0,dj v.d)else if 8<v.st.l.length then(0,8)else wz v.d (xx v.d) 0 v.st.l
def Hk(ps:CK)(r:RV):Prop:=∃v:Vo,ps=[v.pv]/\Un v/\r=.tup [.pv (pI (LC v).1),.pv (pI (LC v).2)]
def JQ:MT (ao [(66,ah xe),(67,ah bF),(65,ah dn),(68,dz true H3),(70,lZ aeV),(69,lZ ahJ)]) tl (dz true Hk):=by
 rintro _ K ⟨_,⟨v,rfl,⟨U,H,h3⟩,rfl⟩,Y⟩;obtain⟨d,s⟩:=v;have hd:xe [d.pv] (pI (dj d)):=⟨d,rfl,U,rfl⟩
 have FJ:(s.l.map At.pv).length=s.l.length:=zaw _;have f1:∀b:Bool,dj d≠0->aZ [dj d,if b=true then 0 else 8]=dj d:=λb h=>D3
 have f2:aZ [0,if true=true then 0 else 8]=0:=ai;have f3:aZ [0,if false=true then 0 else 8]=8:=ai;unfold LC at Y;simp only at H h3 Y;by_cases h0:dj d=0
 case neg=>
  rw[if_pos h0]at Y
  (repeat'((conv=>whnf);first|refine⟨_,hd,?_⟩|refine tD ?_|(refine ak (by rw[f1 _ h0];exact h0) ?_)|(refine ik ?_;first|refine dc (λ_=>?_) (λ_=>?_)|refine aY ?_|refine⟨_,⟨_,_,rfl,rfl⟩,?_⟩|refine⟨_,⟨[_,_],rfl,rfl⟩,?_⟩|fail)))
  ·rw[f1 _ h0];exact⟨[.pv (pI 0),.pv (pI (dj d))],⟨rfl,rfl,trivial⟩,⟨trivial,trivial,trivial⟩,Y⟩
  ·rw[f1 _ h0];exact⟨[.pv (pI 0),.pv (pI (dj d))],⟨rfl,rfl,trivial⟩,⟨trivial,trivial,trivial⟩,Y⟩
 rw[if_neg (λh=>h h0)]at Y;rw[h0]at hd;have I:H3 [d.pv] _:=⟨d,rfl,⟨U,(df h0).2.2⟩,rfl⟩
 clear f1;by_cases hl:8<s.l.length
 ·rw[if_pos hl]at Y;have FL:¬(((s.l.map At.pv).length:Nat):Int)<=8:=V
  (repeat'((conv=>whnf);first|refine⟨_,hd,?_⟩|refine tD ?_|refine ar FL ?_|(refine ak (by rw[f3];decide) ?_)|(refine ik ?_;first|refine aY ?_|refine⟨_,⟨_,_,rfl,rfl⟩,?_⟩|refine⟨_,⟨[_,_],rfl,rfl⟩,?_⟩|fail)))
  rw[f3];exact⟨[.pv (pI 0),.pv (pI 8)],⟨rfl,rfl,trivial⟩,⟨trivial,trivial,trivial⟩,Y⟩
 ·rw[if_neg hl]at Y;have FL:(((s.l.map At.pv).length:Nat):Int)<=8:=V
  (repeat'((conv=>whnf);first|refine⟨_,hd,?_⟩|refine tD ?_|refine ak FL ?_|(refine ar (by rw[f2];decide) ?_)|refine⟨_,I,?_⟩|(refine ik ?_;first|refine aY ?_|refine⟨_,⟨_,_,rfl,rfl⟩,?_⟩|refine⟨_,⟨[_,_],rfl,rfl⟩,?_⟩|fail)))
  refine⟨d,s,s,xx d,rfl,⟨U,H,MC d,h3⟩,rfl,λo'=>?_⟩
  (conv=>whnf)
  exact QY
section
abbrev Av(v:Vo):Int:=(LC v).2
open Classical in
def oiE(v:Vo)(i:Int):Int:=if Av v≠0 then Av v else if 0<=i/\i<=(v.st.l.length:Int)-1 then 0 else 6
open Classical in
def otE(v:Vo)(t:Rn):Int:=if Av v≠0 then Av v else if my v.d t then 0 else 2
def lK{e c:Int}(b:Bool)(h:e≠0):aZ [e,if b=true then 0 else c]=e:=D3
def DL{c:Int}:aZ [0,if true=true then 0 else c]=0:=by simp[aZ]
def wj{c:Int}(h:c≠0):aZ [0,if false=true then 0 else c]=c:=D3
def pt(ps:CK)(r:RV):Prop:=∃v:Vo,ps=[v.pv]/\Un v/\r=.tup [.pv v.pv,.pv (pI (Av v))]
def Lr:MT (ao [(21,dz true Hk)]) KC (dz false pt):=by
 rintro _ K ⟨_,⟨v,rfl,h,rfl⟩,Y⟩;have F:Hk [v.pv] _:=⟨v,rfl,h,rfl⟩
 (repeat'((conv=>whnf);first|refine⟨_,F,?_⟩|refine aY ?_|fail))
 exact wa
def Tn(ps:CK)(r:RV):Prop:=∃(v:Vo) (i:Int),ps=[v.pv,pI i]/\Un v/\r=.tup [.pv v.pv,.pv (pI (oiE v i))]
def Lu:MT (ao [(74,dz false pt),(77,dU cf),(67,ah bF),(65,ah dn)]) vp (dz false Tn):=by
 rintro _ K ⟨_,⟨v,i,rfl,h,rfl⟩,Y⟩;have F:pt [v.pv] _:=⟨v,rfl,h,rfl⟩
 have h3:=h.2.2;have FJ:(v.st.l.map At.pv).length=v.st.l.length:=zaw _;unfold oiE at Y;generalize Av v=hk at*;by_cases he:hk=0
 case neg=>
  rw[if_pos he]at Y
  (repeat'((conv=>whnf);first|refine⟨_,F,?_⟩|refine tD ?_|refine⟨_,⟨_,_,_,rfl,rfl⟩,?_⟩|(refine ik ?_;first|refine bu V ?_|refine dc (λ_=>?_) (λ_=>?_)|refine aY ?_|refine⟨_,⟨_,_,rfl,rfl⟩,?_⟩|refine⟨_,⟨[_,_],rfl,rfl⟩,?_⟩|fail)))
  all_goals
   rw[lK _ he];exact wa
 subst he;rw[if_neg (λh=>h rfl)]at Y;by_cases W:0<=i/\i<=(v.st.l.length:Int)-1
 ·rw[if_pos W]at Y
  (repeat'((conv=>whnf);first|refine⟨_,F,?_⟩|refine tD ?_|refine⟨_,⟨_,_,_,rfl,rfl⟩,?_⟩|refine ak V ?_|(refine ik ?_;first|refine bu V ?_|refine aY ?_|refine⟨_,⟨_,_,rfl,rfl⟩,?_⟩|refine⟨_,⟨[_,_],rfl,rfl⟩,?_⟩|fail)))
  rw[DL];exact wa
 ·rw[if_neg W]at Y
  (repeat'((conv=>whnf);first|refine⟨_,F,?_⟩|refine tD ?_|refine⟨_,⟨_,_,_,rfl,rfl⟩,?_⟩|refine ar V ?_|(refine ik ?_;first|refine bu V ?_|refine aY ?_|refine⟨_,⟨_,_,rfl,rfl⟩,?_⟩|refine⟨_,⟨[_,_],rfl,rfl⟩,?_⟩|fail)))
  rw[wj ai];exact wa
def TV(ps:CK)(r:RV):Prop:=∃(v:Vo) (t:Rn),ps=[v.pv,t.pv]/\Un v/\r=.tup [.pv v.pv,.pv (pI (otE v t))]
def Qm:MT (ao [(74,dz false pt),(205,dU SF),(67,ah bF),(65,ah dn)]) yF (dz false TV):=by
 rintro _ K ⟨_,⟨v,t,rfl,h,rfl⟩,Y⟩;have F:pt [v.pv] _:=⟨v,rfl,h,rfl⟩
 have hp:SF [v.d.pv,t.pv] _:=⟨v.d,t,rfl,h.1.1,rfl⟩
 unfold otE at Y;generalize Av v=hk at*;generalize my v.d t=P at*;by_cases he:hk=0
 case neg=>
  rw[if_pos he]at Y
  (repeat'((conv=>whnf);first|refine⟨_,F,?_⟩|refine⟨_,hp,?_⟩|(refine ik ?_;first|refine dc (λ_=>?_) (λ_=>?_)|refine aY ?_|refine⟨_,⟨_,_,rfl,rfl⟩,?_⟩|refine⟨_,⟨[_,_],rfl,rfl⟩,?_⟩|fail)))
  all_goals
   rw[lK _ he];exact wa
 subst he;rw[if_neg (λh=>h rfl)]at Y;by_cases W:P
 ·rw[if_pos W]at Y
  (repeat'((conv=>whnf);first|refine⟨_,F,?_⟩|refine⟨_,hp,?_⟩|refine ak W ?_|(refine ik ?_;first|refine aY ?_|refine⟨_,⟨_,_,rfl,rfl⟩,?_⟩|refine⟨_,⟨[_,_],rfl,rfl⟩,?_⟩|fail)))
  rw[DL];exact wa
 ·rw[if_neg W]at Y
  (repeat'((conv=>whnf);first|refine⟨_,F,?_⟩|refine⟨_,hp,?_⟩|refine ar W ?_|(refine ik ?_;first|refine aY ?_|refine⟨_,⟨_,_,rfl,rfl⟩,?_⟩|refine⟨_,⟨[_,_],rfl,rfl⟩,?_⟩|fail)))
  rw[wj ai];exact wa
end
def L4(o:OG)(i:Int):UD->OG
 |[]=>o
 |a::r=>L4 ((KP o i (qC a.rn.l)).getD o) (i+1) r
def Pc{d:Dk}{o:OG}{i:Int}{a:At}{r:UD}(h:(wz d o i (a::r)).2=0):aI d a=0∧∃o',KP o i (qC a.rn.l)=some o'/\(wz d o' (i+1) r).2=0:=by
 unfold wz at h;by_cases h0:aI d a=0
 ·rw[if_neg (λg=>g h0)]at h;cases hg:KP o i (qC a.rn.l)with
  |none=>rw[hg]at h;exact absurd (show(13:Int)=0 from h) ai
  |some o'=>rw[hg]at h;exact⟨h0,o',rfl,h⟩
 ·rw[if_pos h0]at h;exact absurd h h0
def drop_cons{α:Type}{l:List α}{n:Nat}{a:α}(h:l[n]?=some a):l.drop n=a::l.drop (n+1):=by
 obtain⟨aM,rfl⟩:=zaa.1 h;exact zcf aM
structure BN(v:Vo):Prop where
 b:Un v
 dk:dj v.d=0
 len:v.st.l.length<=8
 ch:(wz v.d (xx v.d) 0 v.st.l).2=0
def rA{v:Vo}(I:Un v)(h:Av v=0):BN v:=by
 unfold Av LC at h;split at h
 ·rename_i g;exact absurd h g
 ·rename_i g;split at h
  ·exact pf
  ·exact⟨I,zcN.1 g,V,h⟩
def eW(v:Vo):OG:=L4 (xx v.d) 0 v.st.l
def Mr(ps:CK)(r:RV):Prop:=∃v:Vo,ps=[v.pv]/\BN v/\r=.fresh 3 1 ((eW v).map pI)
def ZK:MT (ao [(68,dz true H3),(72,lZ XW)]) qH (dz true Mr):=by
 rintro _ K ⟨_,⟨v,rfl,hv,rfl⟩,Y⟩;obtain⟨d,s⟩:=v;have I:H3 [d.pv] _:=⟨d,rfl,⟨hv.b.1,(df hv.dk).2.2⟩,rfl⟩
 have hn:d.n<=1000000:=by have:=hv.b.1.1;unfold Dk.n;simp only at this;omega
 have FJ:(s.l.map At.pv).length=s.l.length:=zaw _;have hlen:=hv.len;have FM:=hv.ch;unfold eW at Y;simp only at hlen FM Y
 (repeat'((conv=>whnf);first|refine⟨_,I,?_⟩|refine tD ?_|refine cT λ_=>?_|fail))
 refine⟨λm env Z=>∃(n:Nat) (oc:OG),(n+m=s.l.length/\oc.length=d.n/\(wz d oc n (s.l.drop n)).2=0/\L4 (xx d) 0 s.l=L4 oc n (s.l.drop n))/\Z=[.row 3 1 true (oc.map pI)]/\
  env=[(3,.own 0),(12,.pv (ub s)),eN 13 s.l.length,eN 14 n],s.l.length,⟨0,xx d,⟨V,MC d,FM,rfl⟩,rfl,rfl⟩,?_⟩
 rintro m env Z ⟨n,oc,⟨hnm,hoc,F,hg⟩,rfl,rfl⟩;by_cases aM:n<s.l.length
 ·obtain⟨a,ha⟩:∃a,s.l[n]?=some a:=⟨_,zah aM⟩
  have zT:ub s=.sl 11 (s.l.map At.pv):=by
   cases s with
   |nil=>cases ha
   |sl l=>rfl
  rw[drop_cons ha]at F hg;obtain⟨h0,o',ho,KK⟩:=Pc F;have NC:L4 oc n (a::s.l.drop (n+1))=L4 o' (n+1) (s.l.drop (n+1)):=by
   show L4 ((KP oc n (qC a.rn.l)).getD oc) _ _=_;rw[ho];rfl
  rw[NC]at hg;have hro:=lY h0;have Xo:=(bz (aL h0).1.rn).1;rw[zT]
  (repeat'((conv=>whnf);first|refine ak V ?_|refine jP az ?_|refine aY ?_|fail))
  refine⟨oc,a,n,rfl,⟨V,by rw[hoc];exact hro,V⟩,rfl,λo2 ho2=>?_,λrk=>by rw[ho]at rk;cases rk⟩;rw[ho]at ho2;cases ho2
  (repeat'((conv=>whnf);first|refine bu V ?_|fail))
  exact⟨m-1,V,n+1,o',⟨V,(Pt _ ho).trans hoc,by rw[Int.natCast_add];exact KK,Jk⟩,rfl,rfl⟩
 ·(repeat'((conv=>whnf);first|refine ar V ?_|fail))
  rw[zdt V]at hg;rw[hg]at Y;exact Td
def TL(ps:CK)(x:PV):Prop:=∃l:UH,ps=[.sl 2 (l.map Rn.pv)]/\(l.length<=100000∧∀r∈l,0<=r.n/\r.n<=100000)/\x=pI (aF l)
def amj{l:UH}(h:∀r∈l,0<=r.n/\r.n<=100000):0<=aF l/\aF l<=100000*(l.length:Int):=by
 induction l with
 |nil=>decide
 |cons a l ih=>
  have U:=h a ab;have H:=ih λr J=>h r (by simp[J])
  have e:aF (a::l)=a.n+aF l:=dH a l;rw[e,zap];omega
def aeQ:MT (ao []) No (ah TL):=by
 rintro _ K ⟨_,⟨l,rfl,⟨U,H⟩,rfl⟩,Y⟩;have FJ:(l.map Rn.pv).length=l.length:=zaw _
 (repeat'((conv=>whnf);first|refine cT λ_=>?_|fail))
 refine⟨λm env Z=>∃n:Nat,n+m=l.length/\Z=[]/\env=[eN 3 (aF (l.take n)),(6,.pv (.sl 2 (l.map Rn.pv))),eN 7 l.length,eN 8 n],l.length,⟨0,V,rfl,rfl⟩,?_⟩;rintro m env Z ⟨n,hn,rfl,rfl⟩;by_cases aM:n<l.length
 ·obtain⟨r,J⟩:∃r,l[n]?=some r:=⟨_,zah aM⟩
  have lV:=H r (zag J);have hs:=EL J;have I:=amj (l:=l.take n) λr J=>H r (List.mem_of_mem_take J)
  rw[zal]at I;generalize aF (l.take n)=S at*
  (repeat'((conv=>whnf);first|refine ak V ?_|refine bu V ?_|refine jP az ?_|refine aY ?_|fail))
  exact⟨m-1,V,n+1,V,rfl,by rw[hs];rfl⟩
 ·(repeat'((conv=>whnf);first|refine ar V ?_|fail))
  rw[za1 V];exact aO
def pcS(acc:UH)(r:Rn):UH:=if r.s= -1 then acc else match acc.getLast? with
 |some q=>if q.s+q.n=r.s then acc.dropLast++[⟨q.s,q.n+r.n⟩]else acc++[r]
 |none=>acc++[r]
def KO(l:UH):UH:=l.foldl pcS []
def xy(r:Rn):Prop:=0<=r.s/\0<=r.n/\r.s+r.n<=1000000
def HU{r:Rn}(h:r.s≠ -1):pcS [] r=[r]:=by unfold pcS;rw[if_neg h];rfl
def DA{p:UH}{q r:Rn}(h:r.s≠ -1):pcS (p++[q]) r=if q.s+q.n=r.s then p++[⟨q.s,q.n+r.n⟩]else p++[q]++[r]:=by
 unfold pcS
 grind
def aAx{acc:UH}{r:Rn}(h:∀q∈acc,xy q)(J:r.s= -1\/xy r):∀q∈pcS acc r,xy q:=by
 by_cases hs:r.s= -1
 ·unfold pcS;grind
 rcases zdu acc with rfl|⟨p,q,rfl⟩
 ·rw[HU hs];grind
 ·rw[zdv]at h ⊢;rw[DA hs];unfold xy at*
  grind
def TK{l:UH}{n:Nat}{r:Rn}(h:l[n]?=some r):KO (l.take (n+1))=pcS (KO (l.take n)) r:=by
 unfold KO;rw[zcM,h,zdB];rfl
def azP{l:UH}(h:∀r∈l,r.s= -1\/xy r):∀n,(∀q∈KO (l.take n),xy q)/\(KO (l.take n)).length<=n:=by
 intro n
 induction n with
 |zero=>exact⟨λq hq=>absurd hq (by simp[KO]),by simp[KO]⟩
 |succ n ih=>
  by_cases aM:n<l.length
  ·obtain⟨r,J⟩:∃r,l[n]?=some r:=⟨_,zah aM⟩
   rw[TK J];refine⟨aAx ih.1 (h r (zag J)),?_⟩;generalize KO (l.take n)=acc at*;by_cases hs:r.s= -1
   ·unfold pcS;grind
   rcases zdu acc with rfl|⟨p,q,rfl⟩
   ·rw[HU hs];simp
   ·rw[zdv]at ih ⊢;rw[DA hs]
    grind
  ·rw[za1 V];rw[za1 V]at ih
   grind
def L9(ps:CK)(r:RV):Prop:=∃(v:Vo) (i:Int) (a:At),ps=[v.pv,pI i]/\(0<=i/\v.st.l[i.toNat]?=some a/\a.rn.l.length<=100000∧∀r∈a.rn.l,r.s= -1\/xy r)/\r=.fresh 103 2 ((KO a.rn.l).map Rn.pv)
def Rm:MT (ao []) qI (dz true L9):=by
 rintro _ K ⟨_,⟨v,i,a,rfl,⟨h0,ha,U,H⟩,rfl⟩,Y⟩;obtain⟨d,s⟩:=v;simp only at ha;have zT:ub s=.sl 11 (s.l.map At.pv):=by
  cases s with
  |nil=>cases ha
  |sl l=>rfl
 have hga:(s.l.map At.pv)[i.toNat]?=some a.pv:=by rw[zaD,ha];rfl
 have FJ:(a.rn.l.map Rn.pv).length=a.rn.l.length:=zaw _;have hv:Vo.pv ⟨d,s⟩=.agg [.str d.aT,.str d.mp,.sl 11 (s.l.map At.pv)]:=by unfold Vo.pv;rw[zT]
 rw[hv]
 (repeat'((conv=>whnf);first|refine⟨_,⟨h0,hga⟩,?_⟩|refine tD ?_|refine cT λ_=>?_|fail))
 refine⟨λm env Z=>∃n:Nat,n+m=a.rn.l.length/\Z=[.row 103 2 true ((KO (a.rn.l.take n)).map Rn.pv)]/\env=[(5,.own 0),(15,.pv (uF a.rn)),eN 16 a.rn.l.length,eN 17 n],a.rn.l.length,⟨0,V,rfl,rfl⟩,?_⟩;rintro m env Z ⟨n,hn,rfl,rfl⟩;by_cases aM:n<a.rn.l.length
 case neg=>
  (repeat'((conv=>whnf);first|refine ar V ?_|fail))
  rw[za1 V];exact oQ
 obtain⟨r,J⟩:∃r,a.rn.l[n]?=some r:=⟨_,zah aM⟩
 have fx:uF a.rn=.sl 2 (a.rn.l.map Rn.pv):=by
  cases h:a.rn with
  |nil=>rw[h]at J;cases J
  |sl l=>rfl
 have hrr:=H r (zag J);have ht:=TK J;obtain⟨I,A8⟩:=azP H n;generalize KO (a.rn.l.take n)=acc at*;have hal:(acc.map Rn.pv).length=acc.length:=zaw _;rw[fx];by_cases hs:r.s= -1
 ·have e:pcS acc r=acc:=by unfold pcS;rw[if_pos hs]
  (repeat'((conv=>whnf);first|refine ak V ?_|refine bu V ?_|refine cT λ_=>?_|refine jP az ?_|refine aY ?_|fail))
  exact⟨m-1,V,n+1,V,by rw[ht,e],rfl⟩
 have hrr:=hrr.resolve_left hs;unfold xy at hrr;rcases zdu acc with rfl|⟨p,q,rfl⟩
 ·rw[HU hs]at ht
  (repeat'((conv=>whnf);first|refine ak V ?_|refine ar hs ?_|refine zcv lP ?_|refine bu V ?_|refine ar ai ?_|refine cT λ_=>?_|refine jP az ?_|refine aY ?_|fail))
  exact R9
 ·simp only[zdv]at*;rw[DA hs]at ht;have hq:=I q ab;unfold xy at hq;have qk:(p++[q]).length=p.length+1:=ab;have VG:(((p++[q]).length:Int)-1).toNat=p.length:=V;have hgq:((p++[q]).map Rn.pv)[(((p++[q]).length:Int)-1).toNat]?=some q.pv:=by
   rw[VG,zaD,zak (zai _),zcc];rfl
  have hse:∀x:Rn,((p++[q]).map Rn.pv).set (((p++[q]).length:Int)-1).toNat x.pv=(p++[x]).map Rn.pv:=λx=>by
   rw[VG,zaY,zdb _ _ ab];simp
  (repeat'((conv=>whnf);first|refine ak V ?_|refine ar hs ?_|refine zcv ⟨V,V⟩ ?_|refine⟨_,hgq,?_⟩|refine bu V ?_|refine dc (λ_=>?_) (λ_=>?_)|refine cT λ_=>?_|refine jP az ?_|refine aY ?_|refine zcv bJ ?_|fail))
  ·rename_i x;rw[if_pos x]at ht;exact⟨m-1,V,n+1,V,by rw[ht];exact congrArg (λy=>[cK.row 103 2 true y]) (hse ⟨q.s,q.n+r.n⟩),rfl⟩
  ·rename_i x;rw[if_neg x]at ht;exact⟨m-1,V,n+1,V,by rw[ht,zaY (l₂:=[r])];rfl,rfl⟩
section
def frS(acc:UH)(c:Int):UH:=match acc.getLast? with
 |some q=>if q.s+q.n=c then acc.dropLast++[⟨q.s,q.n+1⟩]else acc++[⟨c,1⟩]
 |none=>acc++[⟨c,1⟩]
def Pg(c:Int):frS [] c=[⟨c,1⟩]:=rfl
def CL(p:UH)(q:Rn)(c:Int):frS (p++[q]) c=if q.s+q.n=c then p++[⟨q.s,q.n+1⟩]else p++[q]++[⟨c,1⟩]:=by
 unfold frS;simp
open Classical in
def Db(P:Nat->Prop):Nat->UH
 |0=>[]
 |n+1=>if P n then frS (Db P n) n else Db P n
def Ao{P:Nat->Prop}{n:Nat}(h:P n):Db P (n+1)=frS (Db P n) n:=if_pos h
def uh{P:Nat->Prop}{n:Nat}(h:¬P n):Db P (n+1)=Db P n:=if_neg h
def Nc(P:Nat->Prop)(n:Nat):(∀q∈Db P n,0<=q.s/\1<=q.n/\q.s+q.n<=n)/\(Db P n).length<=n:=by
 induction n with
 |zero=>exact⟨λq hq=>absurd hq (by simp[Db]),by simp[Db]⟩
 |succ n ih=>
  by_cases h:P n
  ·rw[Ao h];generalize Db P n=acc at*;rcases zdu acc with rfl|⟨p,q,rfl⟩
   ·rw[Pg];simp
   ·simp only[zdv]at*;rw[CL]
    grind
  ·rw[uh h]
   grind
inductive awU:PV->(Int->Prop)->Prop where
 |any:awU (.clo 85 []) λ_=>True
 |out (t:Rn) (h:(-1000000<=t.s/\t.s<=1000000)/\(-1000000<=t.n/\t.n<=1000000)):awU (.clo 142 [.cptr t.pv]) λc=>¬(t.s<=c/\c<=t.s+t.n-1)
def ag4(ps:CK)(p:Prop):Prop:=∃c:Int,ps=[pI c]/\p=True
def SR:MT (ao []) zJ (dU ag4):=by
 rintro _ K ⟨_,⟨c,rfl,rfl⟩,Y⟩
 (conv=>whnf)
 exact⟨.pv (.bool _),rfl,trivial,Y _ ab⟩
def Yw(ps:CK)(p:Prop):Prop:=∃(c:Int) (t:Rn),ps=[pI c,.cptr t.pv]/\((-1000000<=t.s/\t.s<=1000000)/\(-1000000<=t.n/\t.n<=1000000))/\p=¬(t.s<=c/\c<=t.s+t.n-1)
def GF:MT (ao [(77,dU cf)]) r_ (dU Yw):=by
 rintro _ K ⟨_,⟨c,t,rfl,h,rfl⟩,Y⟩
 (repeat'((conv=>whnf);first|refine⟨_,⟨_,_,_,rfl,rfl⟩,?_⟩|refine bu V ?_|refine bR ?_|refine ec ?_|refine dc (λ_=>?_) (λ_=>?_)|fail))
 all_goals exact QR
end
def abL:∀(l:UD) (o:OG) (i:Int),(L4 o i l).length=o.length
 |[],o,i=>rfl
 |a::r,o,i=>by
  show(L4 ((KP o i (qC a.rn.l)).getD o) (i+1) r).length=o.length;rw[abL r];cases h:KP o i (qC a.rn.l)with
  |none=>rfl
  |some o'=>exact Pt _ h
def oz(v:Vo):(eW v).length=v.d.n:=by unfold eW;rw[abL,MC]
def LP(v:Vo)(Q:Int->Prop)(c:Nat):Prop:=(eW v)[c]?=some (-1)/\Q c
def JO(ps:CK)(r:RV):Prop:=∃(v:Vo) (hc:PV) (Q:Int->Prop),ps=[v.pv,hc]/\(BN v/\awU hc Q)/\r=.fresh 103 2 ((Db (LP v Q) (eW v).length).map Rn.pv)
def ac9:MT (ao [(152,dz true Mr),(85,dU ag4),(142,dU Yw)]) tN (dz true JO):=by
 rintro _ K ⟨_,⟨v,hc,Q,rfl,⟨hv,hF⟩,rfl⟩,Y⟩;have hw:Mr [v.pv] _:=⟨v,rfl,hv,rfl⟩
 have hlO:(eW v).length<=1000000:=by rw[oz];have:=hv.b.1.1;unfold Dk.n;omega
 have avA:∀n,LP v Q n↔(eW v)[n]?=some (-1)/\Q n:=λn=>Iff.rfl
 generalize LP v Q=P at*;generalize eW v=O at*;have hOl:(O.map pI).length=O.length:=zaw _;rcases hF with _|⟨t,htb⟩
 ·have hq:∀n:Nat,ag4 [pI n] True:=λn=>⟨n,rfl,rfl⟩
  (repeat'((conv=>whnf);first|refine⟨_,hw,?_⟩|refine cT λ_=>?_|fail))
  refine⟨λm env Z=>∃n:Nat,n+m=O.length/\Z=[.row 103 2 true ((Db P n).map Rn.pv),.row 3 1 true (O.map pI)]/\env=[(1,.pv (.clo 85 [])),(5,.own 0),(10,.own 1),eN 11 O.length,eN 12 n],O.length,⟨0,V,rfl,rfl⟩,?_⟩;rintro m env Z ⟨n,hn,rfl,rfl⟩;by_cases aM:n<O.length
  case neg=>
   (repeat'((conv=>whnf);first|refine ar V ?_|fail))
   have:n=O.length:=V;subst this;exact oQ
  obtain⟨x,T⟩:∃x,O[n]?=some x:=⟨_,zah aM⟩
  have hgx:(O.map pI)[(n:Int).toNat]?=some (pI x):=CB;have hPn:P n↔x= -1/\True:=by
   rw[avA];constructor
   ·rintro⟨U,H⟩;rw[T]at U;cases U;exact⟨rfl,H⟩
   ·rintro⟨U,H⟩;subst U;exact⟨T,H⟩
  have Z8:=hq n;obtain⟨I,A8⟩:=Nc P n;by_cases sB:x= -1
  case neg=>
   have ht:=uh (P:=P) (n:=n) λh=>sB (hPn.1 h).1
   generalize Db P n=acc at*
   (repeat'((conv=>whnf);first|refine ak V ?_|refine zcv ⟨V,V⟩ ?_|refine⟨_,hgx,?_⟩|refine bu V ?_|fail))
   exact yQ
  by_cases hQ:True
  case neg=>
   have ht:=uh (P:=P) (n:=n) λh=>hQ (hPn.1 h).2
   generalize Db P n=acc at*
   (repeat'((conv=>whnf);first|refine ak V ?_|refine zcv ⟨V,V⟩ ?_|refine⟨_,hgx,?_⟩|refine ar (λh=>h sB) ?_|refine⟨_,Z8,?_⟩|refine ar hQ ?_|refine bu V ?_|refine ec ?_|fail))
   exact yQ
  have ht:=Ao (P:=P) (n:=n) (hPn.2 ⟨sB,hQ⟩);generalize Db P n=acc at*;rcases zdu acc with rfl|⟨p,q,rfl⟩
  ·rw[Pg]at ht
   (repeat'((conv=>whnf);first|refine ak V ?_|refine zcv ⟨V,V⟩ ?_|refine⟨_,hgx,?_⟩|refine ar (λh=>h sB) ?_|refine⟨_,Z8,?_⟩|refine zcv lP ?_|refine bu V ?_|refine bR ?_|refine ar ai ?_|refine cT λ_=>?_|refine aY ?_|fail))
   exact R9
  ·simp only[zdv]at*;rw[CL]at ht;have hq2:=I q ab;have qk:(p++[q]).length=p.length+1:=ab;have VG:(((p++[q]).length:Int)-1).toNat=p.length:=V;have hal:((p++[q]).map Rn.pv).length=(p++[q]).length:=zaw _;have hgq:((p++[q]).map Rn.pv)[(((p++[q]).length:Int)-1).toNat]?=some q.pv:=by
    rw[VG,zaD,zak (zai _),zcc];rfl
   have hse:∀x:Rn,((p++[q]).map Rn.pv).set (((p++[q]).length:Int)-1).toNat x.pv=(p++[x]).map Rn.pv:=λx=>by
    rw[VG,zaY,zdb _ _ ab];simp
   (repeat'((conv=>whnf);first|refine ak V ?_|refine zcv ⟨V,V⟩ ?_|refine⟨_,hgx,?_⟩|refine ar (λh=>h sB) ?_|refine⟨_,Z8,?_⟩|refine⟨_,hgq,?_⟩|refine bu V ?_|refine bR ?_|refine dc (λ_=>?_) (λ_=>?_)|refine cT λ_=>?_|refine aY ?_|refine zcv bJ ?_|fail))
   ·rename_i y;rw[if_pos y]at ht;exact⟨m-1,V,n+1,V,ado,rfl⟩
   ·rename_i y;rw[if_neg y]at ht;exact⟨m-1,V,n+1,V,aaS,rfl⟩
 ·have hq:∀n:Nat,Yw [pI n,.cptr t.pv] (¬(t.s<=n/\(n:Int)<=t.s+t.n-1)):=λn=>⟨n,t,rfl,htb,rfl⟩
  (repeat'((conv=>whnf);first|refine⟨_,hw,?_⟩|refine cT λ_=>?_|fail))
  refine⟨λm env Z=>∃n:Nat,n+m=O.length/\Z=[.row 103 2 true ((Db P n).map Rn.pv),.row 3 1 true (O.map pI)]/\env=[(1,.pv (.clo 142 [.cptr t.pv])),(5,.own 0),(10,.own 1),eN 11 O.length,eN 12 n],O.length,⟨0,V,rfl,rfl⟩,?_⟩;rintro m env Z ⟨n,hn,rfl,rfl⟩;by_cases aM:n<O.length
  case neg=>
   (repeat'((conv=>whnf);first|refine ar V ?_|fail))
   have:n=O.length:=V;subst this;exact oQ
  obtain⟨x,T⟩:∃x,O[n]?=some x:=⟨_,zah aM⟩
  have hgx:(O.map pI)[(n:Int).toNat]?=some (pI x):=CB;have hPn:P n↔x= -1∧¬(t.s<=n/\(n:Int)<=t.s+t.n-1):=by
   rw[avA];constructor
   ·rintro⟨U,H⟩;rw[T]at U;cases U;exact⟨rfl,H⟩
   ·rintro⟨U,H⟩;subst U;exact⟨T,H⟩
  have Z8:=hq n;obtain⟨I,A8⟩:=Nc P n;by_cases sB:x= -1
  case neg=>
   have ht:=uh (P:=P) (n:=n) λh=>sB (hPn.1 h).1
   generalize Db P n=acc at*
   (repeat'((conv=>whnf);first|refine ak V ?_|refine zcv ⟨V,V⟩ ?_|refine⟨_,hgx,?_⟩|refine bu V ?_|fail))
   exact yQ
  by_cases hQ:¬(t.s<=n/\(n:Int)<=t.s+t.n-1)
  case neg=>
   have ht:=uh (P:=P) (n:=n) λh=>hQ (hPn.1 h).2
   generalize Db P n=acc at*
   (repeat'((conv=>whnf);first|refine ak V ?_|refine zcv ⟨V,V⟩ ?_|refine⟨_,hgx,?_⟩|refine ar (λh=>h sB) ?_|refine⟨_,Z8,?_⟩|refine ar hQ ?_|refine bu V ?_|refine ec ?_|fail))
   exact yQ
  have ht:=Ao (P:=P) (n:=n) (hPn.2 ⟨sB,hQ⟩);generalize Db P n=acc at*;rcases zdu acc with rfl|⟨p,q,rfl⟩
  ·rw[Pg]at ht
   (repeat'((conv=>whnf);first|refine ak V ?_|refine zcv ⟨V,V⟩ ?_|refine⟨_,hgx,?_⟩|refine ar (λh=>h sB) ?_|refine⟨_,Z8,?_⟩|refine zcv lP ?_|refine bu V ?_|refine bR ?_|refine ar ai ?_|refine cT λ_=>?_|refine aY ?_|fail))
   exact R9
  ·simp only[zdv]at*;rw[CL]at ht;have hq2:=I q ab;have qk:(p++[q]).length=p.length+1:=ab;have VG:(((p++[q]).length:Int)-1).toNat=p.length:=V;have hal:((p++[q]).map Rn.pv).length=(p++[q]).length:=zaw _;have hgq:((p++[q]).map Rn.pv)[(((p++[q]).length:Int)-1).toNat]?=some q.pv:=by
    rw[VG,zaD,zak (zai _),zcc];rfl
   have hse:∀x:Rn,((p++[q]).map Rn.pv).set (((p++[q]).length:Int)-1).toNat x.pv=(p++[x]).map Rn.pv:=λx=>by
    rw[VG,zaY,zdb _ _ ab];simp
   (repeat'((conv=>whnf);first|refine ak V ?_|refine zcv ⟨V,V⟩ ?_|refine⟨_,hgx,?_⟩|refine ar (λh=>h sB) ?_|refine⟨_,Z8,?_⟩|refine⟨_,hgq,?_⟩|refine bu V ?_|refine bR ?_|refine dc (λ_=>?_) (λ_=>?_)|refine cT λ_=>?_|refine aY ?_|refine zcv bJ ?_|fail))
   ·rename_i y;rw[if_pos y]at ht;exact⟨m-1,V,n+1,V,ado,rfl⟩
   ·rename_i y;rw[if_neg y]at ht;exact⟨m-1,V,n+1,V,aaS,rfl⟩
section
def Di(ps:CK)(r:RV):Prop:=∃s:Sl At,ps=[ub s]/\s.l.length<=100000/\r=.fresh 31 11 (s.l.map At.pv)
def YC:MT (ao []) bO (dz false Di):=by
 rintro _ K ⟨_,⟨s,rfl,h,rfl⟩,Y⟩;cases s with
 |nil=>
  (conv=>whnf)
  exact JZ
 |sl l=>
  have hl:(l.map At.pv).length<=100000:=by rw[zaw];exact h
  have atE:([]:CK)++l.map At.pv=l.map At.pv:=zaZ _
  (conv=>whnf)
  refine λb I=>?_
  cases b with
  |true=>
   have hl:l=[]:=by
    cases l with
    |nil=>rfl
    |cons x r=>exact absurd (I ab) ai
   subst hl
   (conv=>whnf)
   exact JZ
  |false=>
   (repeat'((conv=>whnf);first|refine zcv (by simp only[zbh,Nat.zero_add];omega) ?_|refine aY ?_|fail))
   exact JZ
def lC(v:Vo)(d:Dk)(i:Nat)(a:At):Vo:=⟨d,.sl (v.st.l.set i a)⟩
def Im(ps:CK)(r:RV):Prop:=∃(v:Vo) (d:Dk) (i:Int) (a:At),ps=[v.pv,d.pv,pI i,a.pv]/\((0<=i/\i.toNat<v.st.l.length)/\v.st.l.length<=100000)/\r=.pv (lC v d i.toNat a).pv
def aaz:MT (ao [(150,dz false Di)]) tq (dz false Im):=by
 rintro _ K ⟨_,⟨v,d,i,a,rfl,⟨⟨U,H⟩,h3⟩,rfl⟩,Y⟩;have F:Di [ub v.st] _:=⟨v.st,rfl,h3,rfl⟩
 have hl:(v.st.l.map At.pv).length=v.st.l.length:=zaw _;obtain⟨b,I⟩:∃b,v.st.l[i.toNat]?=some b:=⟨_,zah H⟩
 have hg:(v.st.l.map At.pv)[i.toNat]?=some b.pv:=Ie;have hs:(v.st.l.map At.pv).set i.toNat a.pv=(v.st.l.set i.toNat a).map At.pv:=by rw[zcW]
 (repeat'((conv=>whnf);first|refine⟨_,F,?_⟩|refine zcv ⟨V,V⟩ ?_|refine⟨_,hg,?_⟩|refine aY ?_|fail))
 have e:(lC v d i.toNat a).pv=.agg [.str d.aT,.str d.mp,.sl 11 ((v.st.l.map At.pv).set i.toNat a.pv)]:=by rw[hs];rfl
 rw[e]at Y;exact rC
structure Mv where
 k:Int
 p:Int
 t:Rn
def Mv.pv(m:Mv):PV:=.agg [pI m.k,pI m.p,pI m.t.s,pI m.t.n]
def G7(s:Sl Mv):PV:=Sl.pv Mv.pv 4 s
def fB(v:Vo)(k:Int):At:=v.st.l[k.toNat]?.getD zA
open Classical in
def jN(v:Vo)(m:Mv):Int:=if ¬(0<=m.k/\m.k<=(v.st.l.length:Int)-1)then 6 else Cc v.d (fB v m.k) m.p m.t
def jm(v:Vo)(m:Mv):Vo:=if jN v m≠0 then v else lC v (MW v.d (fB v m.k) m.p m.t) m.k.toNat (Uw v.d (fB v m.k) m.p m.t)
def voS(v:Vo):Prop:=D8 v.d/\v.st.l.length<=100000∧∀a∈v.st.l,a.nm.length<=1000000
def Rh(ps:CK)(r:RV):Prop:=∃(v:Vo) (m:Mv),ps=[v.pv,m.pv]/\voS v/\r=.tup [.pv (jm v m).pv,.pv (pI (jN v m))]
def Zy:MT (ao [(77,dU cf),(56,dz false IX),(149,dz false Im)]) sr (dz false Rh):=by
 rintro _ K ⟨_,⟨v,m,rfl,⟨U,H,h3⟩,rfl⟩,Y⟩;have hl:(v.st.l.map At.pv).length=v.st.l.length:=zaw _;by_cases E:0<=m.k/\m.k<=(v.st.l.length:Int)-1
 case neg=>
  have e1:jN v m=6:=by unfold jN;rw[if_pos E]
  have e2:jm v m=v:=by unfold jm;rw[e1,if_pos ai]
  rw[e1,e2]at Y
  (repeat'((conv=>whnf);first|refine tD ?_|refine⟨_,⟨_,_,_,rfl,rfl⟩,?_⟩|refine ar V ?_|refine bu V ?_|refine ec ?_|refine cT λ_=>?_|refine aY ?_|fail))
  exact⟨[.pv v.pv,.pv (pI 6)],⟨rfl,rfl,trivial⟩,trivial,Y⟩
 obtain⟨b,I⟩:∃b,v.st.l[m.k.toNat]?=some b:=⟨_,zah V⟩
 have zT:ub v.st=.sl 11 (v.st.l.map At.pv):=by
  cases h:v.st with
  |nil=>rw[h]at I;cases I
  |sl l=>rfl
 have hg:(v.st.l.map At.pv)[m.k.toNat]?=some b.pv:=Ie;have hmo:IX [v.d.pv,b.pv,pI m.p,m.t.pv] _:=⟨v.d,b,m.p,m.t,rfl,⟨U,h3 b (zag I)⟩,rfl⟩
 have e0:fB v m.k=b:=yB;have e1:jN v m=Cc v.d b m.p m.t:=by unfold jN;rw[if_neg (λh=>h E),e0]
 have e2:jm v m=if Cc v.d b m.p m.t≠0 then v else lC v (MW v.d b m.p m.t) m.k.toNat (Uw v.d b m.p m.t):=by unfold jm;rw[e1,e0]
 have hwi:Im [v.pv,(MW v.d b m.p m.t).pv,pI m.k,(Uw v.d b m.p m.t).pv] _:=⟨v,_,m.k,_,rfl,⟨⟨E.1,V⟩,H⟩,rfl⟩
 have hv:v.pv=.agg [.str v.d.aT,.str v.d.mp,.sl 11 (v.st.l.map At.pv)]:=by unfold Vo.pv;rw[zT]
 rw[e1,e2]at Y;rw[hv]at hwi;rw[hv];clear e0 e1 e2;generalize Cc v.d b m.p m.t=hk at*;generalize MW v.d b m.p m.t=D at*;generalize Uw v.d b m.p m.t=A at*;by_cases hE:hk=0
 ·rw[if_neg (λh=>h hE)]at Y
  (repeat'((conv=>whnf);first|refine⟨_,⟨_,_,_,rfl,rfl⟩,?_⟩|refine ak E ?_|refine⟨_,⟨E.1,hg⟩,?_⟩|refine⟨_,hmo,?_⟩|refine ar (λh=>h hE) ?_|refine⟨_,hwi,?_⟩|refine bu V ?_|refine bR ?_|refine cT λ_=>?_|refine aY ?_|fail))
  rw[hE]at Y;exact⟨[.pv (lC v D m.k.toNat A).pv,.pv (pI 0)],⟨rfl,rfl,trivial⟩,trivial,Y⟩
 ·rw[if_pos hE]at Y
  (repeat'((conv=>whnf);first|refine⟨_,⟨_,_,_,rfl,rfl⟩,?_⟩|refine ak E ?_|refine⟨_,⟨E.1,hg⟩,?_⟩|refine⟨_,hmo,?_⟩|refine ak hE ?_|refine bu V ?_|refine bR ?_|refine cT λ_=>?_|refine aY ?_|fail))
  rw[hv]at Y;exact⟨[.pv _,.pv (pI hk)],⟨rfl,rfl,trivial⟩,trivial,Y⟩
abbrev XM:=List Mv
end
def rU{d:Dk}{a:At}{p:Int}{t:Rn}(h:Cc d a p t=0):aI d a=0:=by
 unfold Cc at h;split at h
 ·rename_i g;exact absurd h g
 ·rename_i g;exact DT
def azm{v:Vo}(h:voS v)(m:Mv):voS (jm v m):=by
 by_cases he:jN v m=0
 case neg=>unfold jm;rw[if_pos he];exact h
 have e:jm v m=lC v (MW v.d (fB v m.k) m.p m.t) m.k.toNat (Uw v.d (fB v m.k) m.p m.t):=TA;rw[e];have E:0<=m.k/\m.k<=(v.st.l.length:Int)-1:=by
  apply Classical.byContradiction;intro g;unfold jN at he;rw[if_pos g]at he;exact absurd he ai
 have hm:Cc v.d (fB v m.k) m.p m.t=0:=abg;obtain⟨b,I⟩:∃b,v.st.l[m.k.toNat]?=some b:=⟨_,zah V⟩
 have eb:fB v m.k=b:=yB;rw[eb]at hm ⊢;have hn:=h.2.2 b (zag I);have ml:=CU (rU hm) h.1 hn hm;refine⟨?_,by show(v.st.l.set _ _).length<=_;rw[za0];exact h.2.1,λa ha=>?_⟩
 ·show D8 (MW v.d b m.p m.t);rw[ml.D];exact Zr ml.op ml.len.symm h.1
 ·rcases zdx (show a∈v.st.l.set _ _ from ha)with ha|rfl
  ·exact h.2.2 a ha
  ·rw[ml.A];exact hn
def Ce(v:Vo)(i:Int):XM->Vo×Int×Int
 |[]=>(v,0,0)
 |m::r=>if jN v m≠0 then(v,i,jN v m)else Ce (jm v m) (i+1) r
def boW(v:Vo):cK:=.box 128 [.pv (.str v.d.aT),.pv (.str v.d.mp),.pv (ub v.st)]
def ao9(xs:XP)(Z:ax)(K:AV->ax->Prop):Prop:=∃(v:Vo) (m:Mv) (i:Int),xs=[.pv (pI i),.pv m.pv,.ref 0 0 0]/\voS v/\Z=[boW v]/\K (.pv (pI (jN v m))) [boW (jm v m)]
def akS:OQ (ao [(212,dz false Rh)]) sw (lZ ao9):=by
 rintro _ _ K ⟨v,m,i,rfl,h,rfl,Y⟩;have hm:Rh [v.pv,m.pv] _:=⟨v,m,rfl,h,rfl⟩
 unfold boW at*
 (repeat'((conv=>whnf);first|refine⟨_,hm,?_⟩|refine aY ?_|fail))
 exact Y
def ahT(xs:XP)(Z:ax)(K:AV->ax->Prop):Prop:=∃(v:Vo) (s:Sl Mv),xs=[.pv (G7 s),.clo 211 [.ref 0 0 0]]/\(voS v/\s.l.length<=1000000)/\Z=[boW v]/\K (.tup [.pv (pI (Ce v 0 s.l).2.1),.pv (pI (Ce v 0 s.l).2.2)]) [boW (Ce v 0 s.l).1]
def aai:OQ (ao [(211,lZ ao9)]) fR (lZ ahT):=by
 rintro _ _ K ⟨v,s,rfl,⟨U,H⟩,rfl,Y⟩;have FJ:(s.l.map Mv.pv).length=s.l.length:=zaw _
 (repeat'((conv=>whnf);first|refine tD ?_|refine cT λ_=>?_|fail))
 refine⟨λm env Z=>∃(n:Nat) (w:Vo),(n+m=s.l.length/\voS w/\Ce v 0 s.l=Ce w n (s.l.drop n))/\Z=[boW w]/\
  env=[(1,.clo 211 [.ref 0 0 0]),(9,.pv (G7 s)),eN 10 s.l.length,eN 11 n],s.l.length,⟨0,v,⟨V,U,rfl⟩,rfl,rfl⟩,?_⟩
 rintro m env Z ⟨n,w,⟨hn,hw,hg⟩,rfl,rfl⟩;by_cases aM:n<s.l.length
 ·obtain⟨a,ha⟩:∃a,s.l[n]?=some a:=⟨_,zah aM⟩
  have zT:G7 s=.sl 4 (s.l.map Mv.pv):=by
   cases s with
   |nil=>cases ha
   |sl l=>rfl
  rw[drop_cons ha]at hg;have T9:Ce w n (a::s.l.drop (n+1))=if jN w a≠0 then(w,(n:Int),jN w a)else Ce (jm w a) (n+1) (s.l.drop (n+1)):=rfl;rw[T9]at hg;rw[zT]
  (repeat'((conv=>whnf);first|refine ak V ?_|(refine ik ?_;first|refine bu V ?_|refine dc (λ_=>?_) (λ_=>?_)|refine jP az ?_|refine aY ?_|refine⟨_,_,_,rfl,dg,?_⟩|fail)))
  ·rename_i he;rw[if_pos he]at hg;rw[hg]at Y;have e:jm w a=w:=by unfold jm;rw[if_pos he]
   rw[e];exact Y
  ·rename_i he;rw[if_neg he]at hg;exact⟨m-1,V,n+1,jm w a,⟨V,azm hw a,Jk⟩,rfl,rfl⟩
 ·(repeat'((conv=>whnf);first|refine ar V ?_|fail))
  rw[zdt V]at hg;rw[hg]at Y;exact Y
def aaI(ps:CK)(r:RV):Prop:=∃(v:Vo) (s:Sl Mv),ps=[v.pv,G7 s]/\(voS v/\s.l.length<=1000000)/\r=.tup [.pv (Ce v 0 s.l).1.pv,.pv (pI (Ce v 0 s.l).2.1),.pv (pI (Ce v 0 s.l).2.2)]
def ajW:MT (ao [(211,lZ ao9),(210,lZ ahT)]) wR (dz false aaI):=by
 rintro _ K ⟨_,⟨v,s,rfl,⟨U,H⟩,rfl⟩,Y⟩
 (repeat'(refine fq ?_;first|refine aY ?_|refine⟨_,_,rfl,dg,?_⟩|fail))
 exact⟨[.pv (Ce v 0 s.l).1.pv,.pv (pI _),.pv (pI _)],⟨rfl,rfl,rfl,trivial⟩,trivial,Y⟩
def aV(v:Vo):Vo:=⟨v.d,.sl (v.st.l.map aS)⟩
def HA(ps:CK)(r:RV):Prop:=∃v:Vo,ps=[v.pv]/\(v.st.l.length<=100000∧∀a∈v.st.l,a.rn.l.length<=1000000)/\r=.pv (aV v).pv
def ze(l:UD)(n:Nat):UD:=(l.take n).map aS++l.drop n
def aj6(l:UD)(n:Nat):(ze l n).length=l.length:=by unfold ze;simp;omega
def ak1{l:UD}{n:Nat}{a:At}(h:l[n]?=some a):(ze l n)[n]?=some a:=by
 have aM:=(zaa.1 h).1;unfold ze;rw[zak aH,zaB,<-h];congr 1;simp;omega
def aku{l:UD}{n:Nat}{a:At}(h:l[n]?=some a):(ze l n).set n (aS a)=ze l (n+1):=by
 have aM:=(zaa.1 h).1;unfold ze;rw[zdb _ _ aH,drop_cons h,zcM,h];have e:n-((l.take n).map aS).length=0:=aH;rw[e,List.set_cons_zero];simp
def ae7:MT (ao [(150,dz false Di),(99,dz true Jp)]) vf (dz false HA):=by
 rintro _ K ⟨_,⟨v,rfl,⟨U,H⟩,rfl⟩,Y⟩;have F:Di [ub v.st] _:=⟨v.st,rfl,U,rfl⟩
 have FJ:(v.st.l.map At.pv).length=v.st.l.length:=zaw _
 (repeat'((conv=>whnf);first|refine⟨_,F,?_⟩|refine cT λ_=>?_|refine aY ?_|fail))
 refine⟨λm env Z=>∃n:Nat,n+m=v.st.l.length/\Z=[.box 49 [.pv (.str []),.pv (.str []),.pv (.nil 11)],.box 49 [.pv (.str v.d.aT),.pv (.str v.d.mp),.own 2],.row 31 11 true ((ze v.st.l n).map At.pv)]/\
  env=[(2,.ref 0 0 0),(3,.ref 1 0 0),(14,.own 2),eN 15 v.st.l.length,eN 16 n],v.st.l.length,⟨0,V,by unfold ze;rfl,rfl⟩,?_⟩
 rintro m env Z ⟨n,hn,rfl,rfl⟩;by_cases aM:n<v.st.l.length
 case neg=>
  (repeat'((conv=>whnf);first|refine ar V ?_|refine aY ?_|fail))
  have e:ze v.st.l n=v.st.l.map aS:=by unfold ze;rw[za1 V,zdt V,zbg]
  rw[e];exact⟨.pv (aV v).pv,rfl,trivial,Y⟩
 obtain⟨a,ha⟩:∃a,v.st.l[n]?=some a:=⟨_,zah aM⟩
 have hol:=aj6 v.st.l n;have hg:=ak1 ha;have hs:=aku ha;generalize ze v.st.l n=L at*;have hgn:(L.map At.pv)[(n:Int).toNat]?=some a.pv:=by rw[zaC,zaD,hg];rfl
 have hLl:(L.map At.pv).length=L.length:=zaw _;have hcr:Jp [uF a.rn] _:=⟨a.rn,rfl,H a (zag ha),rfl⟩
 have ql:(L.map At.pv).set (n:Int).toNat (aS a).pv=(ze v.st.l (n+1)).map At.pv:=by rw[zaC,<-zcW,hs]
 (repeat'((conv=>whnf);first|refine ak V ?_|refine zcv ⟨V,V⟩ ?_|refine⟨_,hgn,?_⟩|refine⟨_,hcr,?_⟩|refine bu V ?_|refine aY ?_|fail))
 exact⟨m-1,V,n+1,V,by rw[<-ql];rfl,rfl⟩
def lk(v:Vo)(s:Sl Mv):Int:=if (Ce v 0 s.l).2.2≠0 then(Ce v 0 s.l).2.2 else if s.l.length<=300 then 0 else 8
def AR(ps:CK)(r:RV):Prop:=∃(v:Vo) (s:Sl Mv),ps=[v.pv,G7 s]/\(voS v/\s.l.length<=1000000)/\r=.tup [.pv (if lk v s≠0 then .sl 4 []else G7 s),.pv (pI (lk v s))]
def ab6:MT (ao [(154,dz false aaI),(67,ah bF),(65,ah dn)]) tH (dz false AR):=by
 rintro _ K ⟨_,⟨v,s,rfl,⟨U,H⟩,rfl⟩,Y⟩;have I:aaI [v.pv,G7 s] _:=⟨v,s,rfl,⟨U,H⟩,rfl⟩
 have FJ:(s.l.map Mv.pv).length=s.l.length:=zaw _;unfold lk at Y;generalize (Ce v 0 s.l).2.2=hk at*;by_cases he:hk=0
 case neg=>
  rw[if_pos he,if_pos he]at Y
  (repeat'((conv=>whnf);first|refine⟨_,I,?_⟩|refine tD ?_|(refine ak (by rw[lK _ he];exact he) ?_)|(refine ik ?_;first|refine dc (λ_=>?_) (λ_=>?_)|refine cT λ_=>?_|refine aY ?_|refine⟨_,⟨_,_,rfl,rfl⟩,?_⟩|refine⟨_,⟨[_,_],rfl,rfl⟩,?_⟩|fail)))
  all_goals
   rw[lK _ he];exact⟨[.pv _,.pv (pI _)],⟨rfl,rfl,trivial⟩,trivial,Y⟩
 subst he;simp only[ne_eq,not_true_eq_false,if_false]at Y;by_cases hl:s.l.length<=300
 ·simp only[if_pos hl,not_true_eq_false,if_false]at Y
  (repeat'((conv=>whnf);first|refine⟨_,I,?_⟩|refine tD ?_|refine ak V ?_|(refine ar IP ?_)|(refine ik ?_;first|refine cT λ_=>?_|refine aY ?_|refine⟨_,⟨_,_,rfl,rfl⟩,?_⟩|refine⟨_,⟨[_,_],rfl,rfl⟩,?_⟩|fail)))
  cases s with
  |nil=>exact⟨[.pv (G7 .nil),.pv (pI 0)],⟨Or.inl rfl,rfl,trivial⟩,trivial,Y⟩
  |sl l=>exact⟨[.pv (G7 (.sl l)),.pv (pI 0)],⟨rfl,rfl,trivial⟩,trivial,Y⟩
 ·simp only[if_neg hl,Int.reduceEq,not_false_eq_true,if_true]at Y
  (repeat'((conv=>whnf);first|refine⟨_,I,?_⟩|refine tD ?_|refine ar V ?_|(refine ak C2 ?_)|(refine ik ?_;first|refine cT λ_=>?_|refine aY ?_|refine⟨_,⟨_,_,rfl,rfl⟩,?_⟩|refine⟨_,⟨[_,_],rfl,rfl⟩,?_⟩|fail)))
  rw[wj ai];exact⟨[.pv _,.pv (pI 8)],⟨rfl,rfl,trivial⟩,trivial,Y⟩
def R8{v:Vo}(I:Un v)(h:Av v=0):voS v:=by
 have hv:=rA I h;exact⟨mX hv.dk,by have:=hv.len;omega,I.2.1⟩
def WR(v:Vo)(s:Sl Mv):Vo×Int×Int:=if Av v≠0 then(v,0,Av v)else if s.l.length<=300 then Ce v 0 s.l else(v,0,8)
def KY(ps:CK)(r:RV):Prop:=∃(v:Vo) (s:Sl Mv),ps=[v.pv,G7 s]/\(Un v/\s.l.length<=1000000)/\r=.tup [.pv (WR v s).1.pv,.pv (pI (WR v s).2.1),.pv (pI (WR v s).2.2)]
def Tk:MT (ao [(74,dz false pt),(154,dz false aaI),(67,ah bF),(65,ah dn)]) zd (dz false KY):=by
 rintro _ K ⟨_,⟨v,s,rfl,⟨U,H⟩,rfl⟩,Y⟩;have ho:pt [v.pv] _:=⟨v,rfl,U,rfl⟩
 have FJ:(s.l.map Mv.pv).length=s.l.length:=zaw _;have hvs:=R8 U;unfold WR at Y;generalize Av v=hk at*;by_cases he:hk=0
 case neg=>
  rw[if_pos he]at Y
  (repeat'((conv=>whnf);first|refine⟨_,ho,?_⟩|refine tD ?_|(refine ak (by rw[lK _ he];exact he) ?_)|(refine ik ?_;first|refine dc (λ_=>?_) (λ_=>?_)|refine cT λ_=>?_|refine aY ?_|refine⟨_,⟨_,_,rfl,rfl⟩,?_⟩|refine⟨_,⟨[_,_],rfl,rfl⟩,?_⟩|fail)))
  all_goals
   rw[lK _ he];exact⟨[.pv v.pv,.pv (pI 0),.pv (pI _)],⟨rfl,rfl,rfl,trivial⟩,trivial,Y⟩
 have I:aaI [v.pv,G7 s] _:=⟨v,s,rfl,⟨hvs he,H⟩,rfl⟩
 subst he;rw[if_neg (λh=>h rfl)]at Y;by_cases hl:s.l.length<=300
 ·rw[if_pos hl]at Y
  (repeat'((conv=>whnf);first|refine⟨_,ho,?_⟩|refine tD ?_|refine ak V ?_|(refine ar IP ?_)|refine⟨_,I,?_⟩|(refine ik ?_;first|refine cT λ_=>?_|refine aY ?_|refine⟨_,⟨_,_,rfl,rfl⟩,?_⟩|refine⟨_,⟨[_,_],rfl,rfl⟩,?_⟩|fail)))
  exact⟨[.pv (Ce v 0 s.l).1.pv,.pv (pI _),.pv (pI _)],⟨rfl,rfl,rfl,trivial⟩,trivial,Y⟩
 ·rw[if_neg hl]at Y
  (repeat'((conv=>whnf);first|refine⟨_,ho,?_⟩|refine tD ?_|refine ar V ?_|(refine ak C2 ?_)|(refine ik ?_;first|refine cT λ_=>?_|refine aY ?_|refine⟨_,⟨_,_,rfl,rfl⟩,?_⟩|refine⟨_,⟨[_,_],rfl,rfl⟩,?_⟩|fail)))
  rw[wj ai];exact⟨[.pv v.pv,.pv (pI 0),.pv (pI 8)],⟨rfl,rfl,rfl,trivial⟩,trivial,Y⟩
def acY{d:Dk}:∀{l:UD} {o:OG} {i:Int},(wz d o i l).2=0→∀a∈l,aI d a=0
 |[],_,_,_,a,ha=>absurd ha ab
 |b::l,o,i,h,a,ha=>by
  obtain⟨h0,o',_,H⟩:=Pc h;rcases zax.1 ha with rfl|ha
  ·exact h0
  ·exact acY H a ha
def BN.op{v:Vo}(h:BN v):∀a∈v.st.l,aI v.d a=0:=acY h.ch
def voR(v:Vo):Prop:=voS v∧∀a∈v.st.l,dv a.rn.l=0
def YH{v:Vo}(I:Un v)(h:Av v=0):voR v:=⟨R8 I h,λa ha=>(aL ((rA I h).op a ha)).1.rn⟩
def voR.own{v:Vo}(h:voR v):v.st.l.length<=100000∧∀a∈v.st.l,a.rn.l.length<=1000000:=⟨h.1.2.1,λa ha=>by have:=(bz (h.2 a ha)).1;omega⟩
def azS{v:Vo}(h:voR v)(m:Mv):voR (jm v m):=by
 refine⟨azm h.1 m,?_⟩;by_cases he:jN v m=0
 case neg=>unfold jm;rw[if_pos he];exact h.2
 have e:jm v m=lC v (MW v.d (fB v m.k) m.p m.t) m.k.toNat (Uw v.d (fB v m.k) m.p m.t):=by unfold jm;grind
 rw[e];have E:0<=m.k/\m.k<=(v.st.l.length:Int)-1:=by
  unfold jN at he;omega
 have hm:Cc v.d (fB v m.k) m.p m.t=0:=by unfold jN at he;omega
 obtain⟨b,I⟩:∃b,v.st.l[m.k.toNat]?=some b:=⟨_,zah V⟩
 have eb:fB v m.k=b:=DR;rw[eb]at hm ⊢;have ml:=CU (rU hm) h.1.1 (h.1.2.2 b (zag I)) hm;intro a ha;rcases zdx (show a∈v.st.l.set _ _ from ha)with ha|rfl
 ·exact h.2 a ha
 ·rw[ml.A];exact(aL ml.op).1.rn
def byR{v:Vo}{i:Int}:∀{l:XM},voR v->voR (Ce v i l).1:=by
 intro l
 induction l generalizing v i with
 |nil=>exact λh=>h
 |cons m r ih=>
  intro h;unfold Ce;split
  ·exact h
  ·exact ih (azS h m)
def zVo:Vo:=⟨⟨[],[]⟩,.nil⟩
def mbV(v:Vo)(s:Sl Mv):Vo:=if (WR v s).2.2≠0 then zVo else aV (WR v s).1
def yE(ps:CK)(r:RV):Prop:=∃(v:Vo) (s:Sl Mv),ps=[v.pv,G7 s]/\(Un v/\s.l.length<=1000000)/\r=.tup [.pv (mbV v s).pv,.pv (pI (WR v s).2.2)]
def az0{v:Vo}{s:Sl Mv}(I:Un v)(h:(WR v s).2.2=0):voR (WR v s).1:=by
 unfold WR at*;by_cases he:Av v=0
 case neg=>grind
 rw[if_neg (λg=>g he)]at*;split at h
 ·rename_i g;rw[if_pos g];exact byR (YH I he)
 grind
def Vr:MT (ao [(91,dz false KY),(79,dz false HA)]) Bg (dz false yE):=by
 rintro _ K ⟨_,⟨v,s,rfl,⟨U,H⟩,rfl⟩,Y⟩;have hp:KY [v.pv,G7 s] _:=⟨v,s,rfl,⟨U,H⟩,rfl⟩
 have J:=az0 (s:=s) U;unfold mbV at Y;generalize WR v s=q at*;obtain⟨w,j,hk⟩:=q;by_cases he:hk=0
 case neg=>
  rw[if_pos he]at Y
  (repeat'((conv=>whnf);first|refine⟨_,hp,?_⟩|(refine ak he ?_)|refine aY ?_|fail))
  exact SM
 subst he;rw[if_neg (λh=>h rfl)]at Y;have ho:HA [w.pv] _:=⟨w,rfl,(J rfl).own,rfl⟩
 (repeat'((conv=>whnf);first|refine⟨_,hp,?_⟩|(refine ar (λh=>h rfl) ?_)|refine⟨_,ho,?_⟩|refine aY ?_|fail))
 exact⟨[.pv (aV w).pv,.pv (pI _)],⟨rfl,rfl,trivial⟩,trivial,Y⟩
def BN.rb{v:Vo}(h:BN v){a:At}(ha:a∈v.st.l):a.rn.l.length<=100000∧∀r∈a.rn.l,r.s= -1\/xy r:=by
 have hl:=(bz (aL (h.op a ha)).1.rn).1;have hd:=(df h.dk).2.1;refine⟨V,λr J=>?_⟩;rcases lY (h.op a ha) r J with h|⟨h,h',h''⟩
 ·exact .inl h
 ·exact .inr ⟨h,h',V⟩
structure Sp where
 k:Int
 i:Int
 p:Int
 n:Int
 dat:P8
 t:Rn
def Sp.pv(s:Sp):PV:=.agg [pI s.k,pI s.i,pI s.p,pI s.n,.str s.dat,pI s.t.s,pI s.t.n]
structure An where
 b:P8
 e:Int
def An.pv(x:An):PV:=.agg [.str x.b,pI x.e]
def V4(d:Dk)(a:At)(s:Sp):Int:=if s.k=1 then NX d a s.p s.dat else if s.k=2 then VN d a s.n else if s.k=3 then WS d a s.p s.n else Cc d a s.p s.t
def stD(d:Dk)(a:At)(s:Sp):Dk:=if s.k=1 then Uo d a s.p s.dat else if s.k=2 then szD d a s.n else if s.k=3 then zrD d a s.p s.n else MW d a s.p s.t
def stA(d:Dk)(a:At)(s:Sp):At:=if s.k=1 then QN d a s.p s.dat else if s.k=2 then szA d a s.n else if s.k=3 then zrA d a s.p s.n else Uw d a s.p s.t
def N_(v:Vo)(s:Sp):An:=
 if ¬(0<=s.i/\s.i<=(v.st.l.length:Int)-1)then⟨[],6⟩
 else if s.k=0 then⟨wQ v.d (fB v s.i) s.p s.n,rN v.d (fB v s.i) s.p s.n⟩
 else⟨[],V4 v.d (fB v s.i) s⟩
def B0(v:Vo)(s:Sp):Vo:=
 if ¬(0<=s.i/\s.i<=(v.st.l.length:Int)-1)then v
 else if s.k=0 then v
 else if V4 v.d (fB v s.i) s≠0 then v
 else lC v (stD v.d (fB v s.i) s) s.i.toNat (stA v.d (fB v s.i) s)
def Y5(ps:CK)(r:RV):Prop:=∃(v:Vo) (s:Sp),ps=[v.pv,s.pv]/\(voR v/\s.dat.length<=1000000)/\r=.tup [.pv (N_ v s).pv,.pv (B0 v s).pv]
def acG:MT (ao [(77,dU cf),(35,dz true Q5),(33,dz false Mc),(51,dz false Mx),(53,dz false Rq),(56,dz false IX),(149,dz false Im)]) tk (dz false Y5):=by
 rintro _ K ⟨_,⟨v,s,rfl,⟨h0,aF2⟩,rfl⟩,Y⟩;obtain⟨⟨U,H,h3⟩,h4⟩:=h0;obtain⟨k,i,p,n,dat,t⟩:=s;have hl:(v.st.l.map At.pv).length=v.st.l.length:=zaw _;by_cases E:0<=i/\i<=(v.st.l.length:Int)-1
 case neg=>
  have e1:N_ v ⟨k,i,p,n,dat,t⟩=⟨[],6⟩:=by unfold N_;rw[if_pos E]
  have e2:B0 v ⟨k,i,p,n,dat,t⟩=v:=by unfold B0;rw[if_pos E]
  rw[e1,e2]at Y
  (repeat'((conv=>whnf);first|refine tD ?_|refine⟨_,⟨_,_,_,rfl,rfl⟩,?_⟩|refine ar V ?_|refine bu V ?_|refine ec ?_|refine cT λ_=>?_|refine aY ?_|fail))
  exact⟨[.pv (An.pv ⟨[],6⟩),.pv v.pv],⟨rfl,rfl,trivial⟩,trivial,Y⟩
 obtain⟨b,I⟩:∃b,v.st.l[i.toNat]?=some b:=⟨_,zah V⟩
 have zT:ub v.st=.sl 11 (v.st.l.map At.pv):=by
  cases h:v.st with
  |nil=>rw[h]at I;cases I
  |sl l=>rfl
 have hg:(v.st.l.map At.pv)[i.toNat]?=some b.pv:=Ie;have hbn:=h3 b (zag I);have hbr:b.rn.l.length<=1000000:=by have:=(bz (h4 b (zag I))).1;omega
 have e0:fB v i=b:=yB;have e1:N_ v ⟨k,i,p,n,dat,t⟩=if k=0 then⟨wQ v.d b p n,rN v.d b p n⟩else⟨[],V4 v.d b ⟨k,i,p,n,dat,t⟩⟩:=by unfold N_;rw[if_neg (λh=>h E)];simp only[e0]
 have e2:B0 v ⟨k,i,p,n,dat,t⟩=if k=0 then v else if V4 v.d b ⟨k,i,p,n,dat,t⟩≠0 then v else lC v (stD v.d b ⟨k,i,p,n,dat,t⟩) i.toNat (stA v.d b ⟨k,i,p,n,dat,t⟩):=by unfold B0;rw[if_neg (λh=>h E)];simp only[e0]
 have hv:v.pv=.agg [.str v.d.aT,.str v.d.mp,.sl 11 (v.st.l.map At.pv)]:=by unfold Vo.pv;rw[zT]
 have hwi:∀D A,Im [.agg [.str v.d.aT,.str v.d.mp,.sl 11 (v.st.l.map At.pv)],Dk.pv D,pI i,At.pv A] (.pv (lC v D i.toNat A).pv):=λD A=>⟨v,D,i,A,by rw[hv],⟨⟨E.1,V⟩,H⟩,rfl⟩
 rw[e1,e2]at Y;rw[hv];clear e0 e1 e2;by_cases k0:k=0
 ·have J:Q5 [v.d.pv,b.pv,pI p,pI n] _:=⟨v.d,b,p,n,rfl,⟨DM U,hbn⟩,rfl⟩
  rw[if_pos k0,if_pos k0,hv]at Y
  (repeat'((conv=>whnf);first|refine⟨_,⟨_,_,_,rfl,rfl⟩,?_⟩|refine ak E ?_|refine⟨_,⟨E.1,hg⟩,?_⟩|refine ak k0 ?_|refine⟨_,J,?_⟩|refine bu V ?_|refine bR ?_|refine cT λ_=>?_|refine aY ?_|fail))
  exact⟨[.pv (An.pv ⟨_,_⟩),.pv _],⟨rfl,rfl,trivial⟩,trivial,Y⟩
 rw[if_neg k0,if_neg k0]at Y;unfold V4 stD stA at Y;dsimp only at Y;by_cases k1:k=1
 ·have J:Mc [v.d.pv,b.pv,pI p,.str dat] _:=⟨v.d,b,p,dat,rfl,⟨U,hbn,hbr,aF2⟩,rfl⟩
  simp only[if_pos k1]at Y;generalize NX v.d b p dat=hk at*;generalize Uo v.d b p dat=D at*;generalize QN v.d b p dat=A at*;by_cases hE:hk=0
  ·rw[if_neg (λh=>h hE)]at Y
   (repeat'((conv=>whnf);first|refine⟨_,⟨_,_,_,rfl,rfl⟩,?_⟩|refine ak E ?_|refine⟨_,⟨E.1,hg⟩,?_⟩|refine ar k0 ?_|refine ak k1 ?_|refine⟨_,J,?_⟩|refine ar (λh=>h hE) ?_|refine⟨_,hwi D A,?_⟩|refine bu V ?_|refine bR ?_|refine cT λ_=>?_|refine aY ?_|fail))
   rw[hE]at Y;exact HZ
  ·rw[if_pos hE,hv]at Y
   (repeat'((conv=>whnf);first|refine⟨_,⟨_,_,_,rfl,rfl⟩,?_⟩|refine ak E ?_|refine⟨_,⟨E.1,hg⟩,?_⟩|refine ar k0 ?_|refine ak k1 ?_|refine⟨_,J,?_⟩|refine ak hE ?_|refine bu V ?_|refine bR ?_|refine cT λ_=>?_|refine aY ?_|fail))
   exact Ky
 simp only[if_neg k1]at Y;by_cases k2:k=2
 ·have J:Mx [v.d.pv,b.pv,pI n] _:=⟨v.d,b,n,rfl,⟨U,hbn⟩,rfl⟩
  simp only[if_pos k2]at Y;generalize VN v.d b n=hk at*;generalize szD v.d b n=D at*;generalize szA v.d b n=A at*;by_cases hE:hk=0
  ·rw[if_neg (λh=>h hE)]at Y
   (repeat'((conv=>whnf);first|refine⟨_,⟨_,_,_,rfl,rfl⟩,?_⟩|refine ak E ?_|refine⟨_,⟨E.1,hg⟩,?_⟩|refine ar k0 ?_|refine ar k1 ?_|refine ak k2 ?_|refine⟨_,J,?_⟩|refine ar (λh=>h hE) ?_|refine⟨_,hwi D A,?_⟩|refine bu V ?_|refine bR ?_|refine cT λ_=>?_|refine aY ?_|fail))
   rw[hE]at Y;exact HZ
  ·rw[if_pos hE,hv]at Y
   (repeat'((conv=>whnf);first|refine⟨_,⟨_,_,_,rfl,rfl⟩,?_⟩|refine ak E ?_|refine⟨_,⟨E.1,hg⟩,?_⟩|refine ar k0 ?_|refine ar k1 ?_|refine ak k2 ?_|refine⟨_,J,?_⟩|refine ak hE ?_|refine bu V ?_|refine bR ?_|refine cT λ_=>?_|refine aY ?_|fail))
   exact Ky
 simp only[if_neg k2]at Y;by_cases k3:k=3
 ·have J:Rq [v.d.pv,b.pv,pI p,pI n] _:=⟨v.d,b,p,n,rfl,⟨U,hbn⟩,rfl⟩
  simp only[if_pos k3]at Y;generalize WS v.d b p n=hk at*;generalize zrD v.d b p n=D at*;generalize zrA v.d b p n=A at*;by_cases hE:hk=0
  ·rw[if_neg (λh=>h hE)]at Y
   (repeat'((conv=>whnf);first|refine⟨_,⟨_,_,_,rfl,rfl⟩,?_⟩|refine ak E ?_|refine⟨_,⟨E.1,hg⟩,?_⟩|refine ar k0 ?_|refine ar k1 ?_|refine ar k2 ?_|refine ak k3 ?_|refine⟨_,J,?_⟩|refine ar (λh=>h hE) ?_|refine⟨_,hwi D A,?_⟩|refine bu V ?_|refine bR ?_|refine cT λ_=>?_|refine aY ?_|fail))
   rw[hE]at Y;exact HZ
  ·rw[if_pos hE,hv]at Y
   (repeat'((conv=>whnf);first|refine⟨_,⟨_,_,_,rfl,rfl⟩,?_⟩|refine ak E ?_|refine⟨_,⟨E.1,hg⟩,?_⟩|refine ar k0 ?_|refine ar k1 ?_|refine ar k2 ?_|refine ak k3 ?_|refine⟨_,J,?_⟩|refine ak hE ?_|refine bu V ?_|refine bR ?_|refine cT λ_=>?_|refine aY ?_|fail))
   exact Ky
 simp only[if_neg k3]at Y;have J:IX [v.d.pv,b.pv,pI p,t.pv] _:=⟨v.d,b,p,t,rfl,⟨U,hbn⟩,rfl⟩
 generalize Cc v.d b p t=hk at*;generalize MW v.d b p t=D at*;generalize Uw v.d b p t=A at*;by_cases hE:hk=0
 ·rw[if_neg (λh=>h hE)]at Y
  (repeat'((conv=>whnf);first|refine⟨_,⟨_,_,_,rfl,rfl⟩,?_⟩|refine ak E ?_|refine⟨_,⟨E.1,hg⟩,?_⟩|refine ar k0 ?_|refine ar k1 ?_|refine ar k2 ?_|refine ar k3 ?_|refine⟨_,J,?_⟩|refine ar (λh=>h hE) ?_|refine⟨_,hwi D A,?_⟩|refine bu V ?_|refine bR ?_|refine cT λ_=>?_|refine aY ?_|fail))
  rw[hE]at Y;exact HZ
 ·rw[if_pos hE,hv]at Y
  (repeat'((conv=>whnf);first|refine⟨_,⟨_,_,_,rfl,rfl⟩,?_⟩|refine ak E ?_|refine⟨_,⟨E.1,hg⟩,?_⟩|refine ar k0 ?_|refine ar k1 ?_|refine ar k2 ?_|refine ar k3 ?_|refine⟨_,J,?_⟩|refine ak hE ?_|refine bu V ?_|refine bR ?_|refine cT λ_=>?_|refine aY ?_|fail))
  exact Ky
def vu(s:Sl Sp):PV:=Sl.pv Sp.pv 7 s
def ekE(k:Int):Int:=if 0<=k/\k<=4 then 0 else 15
def ekN(i:Int):List Sp->Int×Int
 |[]=>(0,0)
 |s::r=>if ekE s.k≠0 then(i,ekE s.k)else ekN (i+1) r
def aia(ps:CK)(x:PV):Prop:=∃(i:Int) (s:Sp),ps=[pI i,s.pv]/\True/\x=pI (ekE s.k)
def akF:MT (ao [(77,dU cf),(67,ah bF)]) tL (ah aia):=by
 rintro _ K ⟨_,⟨i,s,rfl,-,rfl⟩,Y⟩;unfold ekE at Y
 (repeat'((conv=>whnf);first|refine⟨_,⟨_,_,_,rfl,rfl⟩,?_⟩|(refine ik ?_;first|refine dc (λ_=>?_) (λ_=>?_)|refine⟨_,⟨_,_,rfl,rfl⟩,?_⟩|fail)))
 ·rename_i E;rw[if_pos E]at Y;exact⟨.pv (pI 0),rfl,trivial,Y⟩
 ·rename_i E;rw[if_neg E]at Y;exact⟨.pv (pI 15),rfl,trivial,Y⟩
def ZI(ps:CK)(r:RV):Prop:=∃s:Sl Sp,ps=[vu s,.clo 76 []]/\s.l.length<=1000000/\r=.tup [.pv (pI (ekN 0 s.l).1),.pv (pI (ekN 0 s.l).2)]
def acM:MT (ao [(76,ah aia)]) fO (dz false ZI):=by
 rintro _ K ⟨_,⟨s,rfl,H,rfl⟩,Y⟩;have FJ:(s.l.map Sp.pv).length=s.l.length:=zaw _
 (repeat'((conv=>whnf);first|refine tD ?_|refine cT λ_=>?_|fail))
 refine⟨λm env Z=>∃n:Nat,(n+m=s.l.length/\ekN 0 s.l=ekN n (s.l.drop n))/\Z=[]/\
  env=[(1,.pv (.clo 76 [])),(9,.pv (vu s)),eN 10 s.l.length,eN 11 n],s.l.length,⟨0,⟨V,rfl⟩,rfl,rfl⟩,?_⟩
 rintro m env Z ⟨n,⟨hn,hg⟩,rfl,rfl⟩;by_cases aM:n<s.l.length
 ·obtain⟨a,ha⟩:∃a,s.l[n]?=some a:=⟨_,zah aM⟩
  have zT:vu s=.sl 7 (s.l.map Sp.pv):=by
   cases s with
   |nil=>cases ha
   |sl l=>rfl
  have hgn:(s.l.map Sp.pv)[(n:Int).toNat]?=some a.pv:=by rw[zaC,zaD,ha];rfl
  rw[drop_cons ha]at hg;have T9:ekN n (a::s.l.drop (n+1))=if ekE a.k≠0 then((n:Int),ekE a.k)else ekN (n+1) (s.l.drop (n+1)):=rfl;rw[T9]at hg;rw[zT];have hf:aia [pI n,a.pv] _:=⟨n,a,rfl,trivial,rfl⟩
  (repeat'((conv=>whnf);first|refine ak V ?_|refine⟨_,⟨V,hgn⟩,?_⟩|refine⟨_,hf,?_⟩|refine bu V ?_|refine dc (λ_=>?_) (λ_=>?_)|refine aY ?_|fail))
  ·rename_i he;rw[if_pos he]at hg;rw[hg]at Y;exact⟨[.pv (pI n),.pv (pI _)],⟨rfl,rfl,trivial⟩,trivial,Y⟩
  ·rename_i he;rw[if_neg he]at hg;exact⟨m-1,V,n+1,⟨V,Jk⟩,rfl,rfl⟩
 ·(repeat'((conv=>whnf);first|refine ar V ?_|fail))
  rw[zdt V]at hg;rw[hg]at Y;exact⟨[.pv (pI _),.pv (pI _)],⟨rfl,rfl,trivial⟩,trivial,Y⟩
structure StL(e:Dk)(b:At):Prop where
 sd:D8 e
 nm:b.nm.length<=1000000
 rn:dv b.rn.l=0
def StL.of{d e:Dk}{a b:At}{C:P8}{v:Int}{rs:Bool}(hd:D8 d)(hn:a.nm.length<=1000000)(h:AA d e a b C v rs):StL e b:=
 ⟨Zr h.op h.oth.1.1 hd,by rw[h.nm];exact hn,(aL h.op).1.rn⟩
def ahC{d:Dk}{a:At}{p:Int}{dat:P8}(h:sQ d a p dat=0):aI d a=0/\fP p/\p+dat.length<=32768:=by
 unfold sQ at h
 grind
def awQ{d:Dk}{a:At}{s:Sp}(hd:D8 d)(hn:a.nm.length<=1000000)(J:dv a.rn.l=0)(h:V4 d a s=0):StL (stD d a s) (stA d a s):=by
 unfold V4 at h;unfold stD stA;by_cases k1:s.k=1
 ·simp only[if_pos k1]at h ⊢;have h0:sQ d a s.p s.dat=0:=by
   unfold NX at h;omega
  obtain⟨g1,g2,g3⟩:=ahC h0;by_cases he:s.dat=[]
  ·have eD:Uo d a s.p s.dat=d:=by unfold Uo;grind
   have eA:QN d a s.p s.dat={ a with rn:=.sl a.rn.l }:=by unfold QN;grind
   rw[eD,eA];exact⟨hd,hn,J⟩
  ·exact .of hd hn ((aoi g1 hd hn g2.1 g3 he).ok h).1
 simp only[if_neg k1]at h ⊢;by_cases k2:s.k=2
 ·simp only[if_pos k2]at h ⊢;have h0:aI d a=0/\fP s.n:=by
   unfold VN x9 at h
   grind
  exact .of hd hn ((amS h0.1 hd hn h0.2).ok h).1
 simp only[if_neg k2]at h ⊢;by_cases k3:s.k=3
 ·simp only[if_pos k3]at h ⊢;have h0:aI d a=0/\fP s.p/\fP s.n:=by
   unfold WS wJ at h
   grind
  exact .of hd hn ((aoK h0.1 hd hn h0.2.1 h0.2.2).ok h).1
 simp only[if_neg k3]at h ⊢;have ml:=CU (rU h) hd hn h;rw[ml.D,ml.A];exact⟨Zr ml.op ml.len.symm hd,hn,(aL ml.op).1.rn⟩
def aD7{v:Vo}(h:voR v)(s:Sp):voR (B0 v s):=by
 unfold B0;split
 ·exact h
 split
 ·exact h
 split
 ·exact h
 rename_i he;have he:=zcN.1 he;obtain⟨b,I⟩:∃b,v.st.l[s.i.toNat]?=some b:=⟨_,zah V⟩
 have eb:fB v s.i=b:=DR;rw[eb]at he ⊢;have hm:=zag I;have sl:=awQ h.1.1 (h.1.2.2 b hm) (h.2 b hm) he;refine⟨⟨sl.sd,by show(v.st.l.set _ _).length<=_;rw[za0];exact h.1.2.1,λa ha=>?_⟩,λa ha=>?_⟩
 ·rcases zdx (show a∈v.st.l.set _ _ from ha)with ha|rfl
  ·exact h.1.2.2 a ha
  ·exact sl.nm
 ·rcases zdx (show a∈v.st.l.set _ _ from ha)with ha|rfl
  ·exact h.2 a ha
  ·exact sl.rn
def mP(v:Vo):List Sp->Vo
 |[]=>v
 |s::r=>mP (B0 v s) r
def qe(v:Vo):List Sp->List An
 |[]=>[]
 |s::r=>N_ v s::qe (B0 v s) r
def rsE(v:Vo)(s:Sl Sp):Int:=if Av v≠0 then Av v else if s.l.length<=40 then(ekN 0 s.l).2 else 8
def rsV(v:Vo)(s:Sl Sp):Vo:=if rsE v s≠0 then zVo else aV (mP v s.l)
def rsA(v:Vo)(s:Sl Sp):List An:=if rsE v s≠0 then[]else qe v s.l
def u4(ps:CK)(r:RV):Prop:=∃(v:Vo) (s:Sl Sp),ps=[v.pv,vu s]/\(Un v/\s.l.length<=1000000∧∀x∈s.l,x.dat.length<=1000000)/\r=.tup [.fresh 70 2 ((rsA v s).map An.pv),.pv (rsV v s).pv,.pv (pI (rsE v s))]
def Qg:MT (ao [(74,dz false pt),(67,ah bF),(65,ah dn),(76,ah aia),(75,dz false ZI),(78,dz false Y5),(79,dz false HA)]) yA (dz false u4):=by
 rintro _ K ⟨_,⟨v,s,rfl,⟨U,H,h3⟩,rfl⟩,Y⟩;have ho:pt [v.pv] _:=⟨v,rfl,U,rfl⟩
 have he:ZI [vu s,.clo 76 []] _:=⟨s,rfl,H,rfl⟩
 have FJ:(s.l.map Sp.pv).length=s.l.length:=zaw _;have hvr:=YH U;unfold rsA rsV rsE at Y;generalize Av v=hk at*;by_cases hE:hk=0
 case neg=>
  simp only[if_pos hE]at Y
  (repeat'((conv=>whnf);first|refine⟨_,ho,?_⟩|refine tD ?_|(refine ar (by rw[lK _ hE];exact hE) ?_)|(refine ak (by rw[lK _ hE];exact hE) ?_)|(refine ik ?_;first|refine dc (λ_=>?_) (λ_=>?_)|refine cT λ_=>?_|refine aY ?_|refine⟨_,⟨_,_,rfl,rfl⟩,?_⟩|refine⟨_,⟨[_,_],rfl,rfl⟩,?_⟩|fail)))
  all_goals
   rw[lK _ hE];exact Qf
 subst hE;simp only[ne_eq,not_true_eq_false,if_false]at Y;by_cases hl:s.l.length<=40
 case neg=>
  simp only[if_neg hl]at Y
  (repeat'((conv=>whnf);first|refine⟨_,ho,?_⟩|refine tD ?_|refine ar V ?_|(refine ar C2 ?_)|(refine ak C2 ?_)|(refine ik ?_;first|refine cT λ_=>?_|refine aY ?_|refine⟨_,⟨_,_,rfl,rfl⟩,?_⟩|refine⟨_,⟨[_,_],rfl,rfl⟩,?_⟩|fail)))
  rw[if_pos ai,if_pos ai]at Y;rw[wj ai];exact Qf
 simp only[if_pos hl]at Y;generalize hek:(ekN 0 s.l).2=E2 at*;by_cases hE:E2=0
 case neg=>
  simp only[if_pos hE]at Y
  (repeat'((conv=>whnf);first|refine⟨_,ho,?_⟩|refine tD ?_|refine ak V ?_|(refine ak (by rw[DL]) ?_)|refine⟨_,he,?_⟩|(refine ik ?_;first|refine cT λ_=>?_|refine aY ?_|refine⟨_,⟨_,_,rfl,rfl⟩,?_⟩|refine⟨_,⟨[_,_],rfl,rfl⟩,?_⟩|fail)))
  exact Qf
 subst hE;simp only[ne_eq,not_true_eq_false,if_false]at Y
 (repeat'((conv=>whnf);first|refine⟨_,ho,?_⟩|refine tD ?_|refine ak V ?_|(refine ak (by rw[DL]) ?_)|refine⟨_,he,?_⟩|(refine ar (λh=>h rfl) ?_)|(refine ik ?_;first|refine cT λ_=>?_|refine aY ?_|refine⟨_,⟨_,_,rfl,rfl⟩,?_⟩|refine⟨_,⟨[_,_],rfl,rfl⟩,?_⟩|fail)))
 have hv:=hvr rfl;refine⟨λm env Z=>∃(n:Nat) (w:Vo) (l:List An),(n+m=s.l.length/\l.length=n/\voR w/\l++qe w (s.l.drop n)=qe v s.l/\mP w (s.l.drop n)=mP v s.l)/\Z=[.box 49 [.pv (.str []),.pv (.str []),.pv (.nil 11)],.box 128 [.pv (.str w.d.aT),.pv (.str w.d.mp),.pv (ub w.st)],.row 70 2 true (l.map An.pv)]/\
  env=[(5,.ref 0 0 0),(7,.ref 1 0 0),(9,.own 2),(36,.pv (vu s)),eN 37 s.l.length,eN 38 n],s.l.length,⟨0,v,[],⟨V,rfl,hv,rfl,rfl⟩,rfl,rfl⟩,?_⟩
 rintro m env Z ⟨n,w,l,⟨hn,hln,hw,hA,hV⟩,rfl,rfl⟩;by_cases aM:n<s.l.length
 case neg=>
  rw[zdt V]at hA hV;have hA2:qe v s.l=l:=by rw[<-hA];exact zbg l
  have hV2:mP v s.l=w:=hV.symm;rw[hA2,hV2]at Y;have cj:HA [w.pv] _:=⟨w,rfl,hw.own,rfl⟩
  (repeat'((conv=>whnf);first|refine ar V ?_|refine⟨_,cj,?_⟩|refine aY ?_|fail))
  exact⟨[.fresh 70 2 (l.map An.pv),.pv (aV w).pv,.pv (pI 0)],⟨⟨rfl,rfl,rfl,rfl⟩,rfl,rfl,trivial⟩,trivial,Y⟩
 obtain⟨x,T⟩:∃x,s.l[n]?=some x:=⟨_,zah aM⟩
 have zT:vu s=.sl 7 (s.l.map Sp.pv):=by
  cases s with
  |nil=>cases T
  |sl l=>rfl
 have hgn:(s.l.map Sp.pv)[(n:Int).toNat]?=some x.pv:=CB;have fu:Y5 [w.pv,x.pv] _:=⟨w,x,rfl,⟨hw,h3 x (zag T)⟩,rfl⟩
 rw[drop_cons T]at hA hV;have hA2:(l++[N_ w x])++qe (B0 w x) (s.l.drop (n+1))=qe v s.l:=by rw[<-hA,zaj];rfl
 rw[zT]
 (repeat'((conv=>whnf);first|refine ak V ?_|refine⟨_,⟨V,hgn⟩,?_⟩|refine⟨_,fu,?_⟩|refine zcv ⟨zO,zO⟩ ?_|refine bu V ?_|refine aY ?_|fail))
 exact⟨m-1,V,n+1,B0 w x,l++[N_ w x],⟨V,by simp[hln],aD7 hw x,hA2,hV⟩,sv,rfl⟩
def asa:∀x:Fin 256,∀k:Fin 8,dB .andNot .u8 (x.val:Int) ((2^k.val:Nat):Int)=(((nF (UInt8.ofNat x.val) k.val 0).toNat:Nat):Int):=by decide+kernel
def asm:∀x:Fin 256,∀k:Fin 8,dB .or .u8 (((nF (UInt8.ofNat x.val) k.val 0).toNat:Nat):Int) ((2^k.val:Nat):Int)=(((nF (UInt8.ofNat x.val) k.val 1).toNat:Nat):Int):=by decide+kernel
def arv(b:UInt8){k:Nat}(h:k<8):dB .andNot .u8 (b.toNat:Int) ((2^k:Nat):Int)=((nF b k 0).toNat:Int):=by
 have:=asa ⟨_,b.toNat_lt⟩ ⟨k,h⟩
 simp_all
def arp(b:UInt8){k:Nat}(h:k<8):dB .or .u8 ((nF b k 0).toNat:Int) ((2^k:Nat):Int)=((nF b k 1).toNat:Int):=by
 have:=asm ⟨_,b.toNat_lt⟩ ⟨k,h⟩
 simp_all
def azj{a:Int}{K:Int->Prop}(h:0<=a/\a<8)(k:K ((2^a.toNat:Nat):Int)):0<=a∧∀r:Int,r=IntKind.u8.wrap (1*2^min a.toNat IntKind.u8.bits)->K r:=by
 have e:IntKind.u8.wrap (1*2^min a.toNat IntKind.u8.bits)=((2^a.toNat:Nat):Int):=by
  have U:a=0\/a=1\/a=2\/a=3\/a=4\/a=5\/a=6\/a=7:=V;rcases U with rfl|rfl|rfl|rfl|rfl|rfl|rfl|rfl<;>decide
 grind
def auo(xs:XP)(Z:ax)(K:AV->ax->Prop):Prop:=
 ∃(ap:Bool) (B:P8) (n i v:Int),xs=[.agg [.own 0,.pv (pI n)],.pv (pI i),.pv (pI v)]/\Z=[.row 5 1 ap (B.map aG)]/\(0<=i/\i<8*B.length/\B.length<=1000000/\0<=v/\v<=1)/\K (.tup []) [.row 5 1 ap ((AF B i.toNat v.toNat).map aG)]
def aj8:OQ (ao []) tK (lZ auo):=by
 rintro _ _ K ⟨ap,B,n,i,v,rfl,rfl,⟨h0,U,H,h3,h4⟩,Y⟩;have e1:(i/8).toNat=i.toNat/8:=V;have e2:(i%8).toNat=i.toNat%8:=V;have hB:∀x,B[(i/8).toNat]?=some x->(B.map aG).set (i/8).toNat (.int .u8 (dB .andNot .u8 (x.toNat:Int) ((2^(i%8).toNat:Nat):Int)))=(AF B i.toNat 0).map aG:=by
  intro x T;rw[e1]at T;unfold AF;rw[e1,e2,arv x V,T];exact iM
 (repeat'(refine fq ?_;first|refine azj V ?_|refine ark ?_|refine dc (λ_=>?_) (λ_=>?_)|refine QUO V ?_|refine REM V ?_|refine ox az ?_|refine UF V ?_|refine aDu V (λ_ _ _=>?_)|refine aY ?_|refine zcv bJ ?_|fail))<;>try(conv=>whnf)
 ·rename_i x T _ hv;have hv:v=1:=V;subst hv;rw[hB x T];have hl:=aoV B i.toNat 0;rw[e1]at T;have h0:(AF B i.toNat 0)[(i/8).toNat]?=some (nF x (i.toNat%8) 0):=by
   unfold AF;rw[e1,T,zbO V];rfl
  (repeat'(refine fq ?_;first|refine ark ?_|refine ox az ?_|refine UF V ?_|refine aY ?_|fail))<;>try(conv=>whnf)
  have e3:((AF B i.toNat 0).map aG).set (i/8).toNat (.int .u8 (dB .or .u8 ((nF x (i.toNat%8) 0).toNat:Int) ((2^(i%8).toNat:Nat):Int)))=(AF B i.toNat 1).map aG:=by
   unfold AF;rw[e1,e2,arp x V,T];rw[show PV.int .u8 ((nF x (i.toNat%8) 1).toNat:Int)=aG (nF x (i.toNat%8) 1)from rfl,iM,List.set_set];rfl
  rw[e3];exact Y
 ·rename_i x T _ hv;have hv:v=0:=V;subst hv;rw[hB x T];exact Y
def anb{n:Int}(h:cM n≠0):cM n=2:=by
 unfold cM at h ⊢;omega
def Rz(s:P8)(n m:Int):Int:=if gP s n≠0 then gP s n else if cM m≠0 then cM m else if Zs (λi=>decide (aU s i=1)) m.toNat (n.toNat-m.toNat)then 18 else 0
def YU(s:P8)(n m:Int):P8:=if Rz s n m=0 then K9 (aU s) m.toNat else[]
def V7:Spec:=AT true false λps K=>∃(s:P8) (n m:Int),ps=[.str s,pI n,pI m]/\(s.length<=1000000)/\K (.tup [.pv (.str (YU s n m)),.pv (pI (Rz s n m))])
def Tr:MT (ao [(179,ZO),(204,YY),(203,ah atB),(253,lZ auo)]) yr V7:=by
 rintro _ K ⟨s,n,tt,rfl,hs,Y⟩;unfold YU Rz at Y;by_cases he:gP s n=0
 case neg=>
  simp only[he,ne_eq,not_false_eq_true,if_true,if_false]at Y
  (repeat'(refine fq ?_;first|refine ak V ?_|refine aY ?_|refine⟨_,_,rfl,bT,?_⟩|fail))<;>try(conv=>whnf)
  (refine⟨_,?_,?_,Y⟩<;>repeat'(first|exact rfl|exact trivial|exact aW _|exact bG _|exact bj|refine⟨?_,?_⟩))
 obtain⟨U,H,h3,h4,h5⟩:=lj he;simp only[he,ne_eq,not_true_eq_false,if_false]at Y
 (repeat'(refine fq ?_;first|refine ar V ?_|refine aY ?_|refine⟨_,_,rfl,bT,?_⟩|refine⟨_,rfl,?_⟩|fail))<;>try(conv=>whnf)
 refine⟨λh=>?_,λh=>?_⟩
 rotate_left
 ·simp only[h,not_false_eq_true,if_true,if_false,anb h]at Y
  (repeat'(refine fq ?_;first|refine ak V ?_|refine aY ?_|fail))<;>try(conv=>whnf)
  (refine⟨_,?_,?_,Y⟩<;>repeat'(first|exact rfl|exact trivial|exact aW _|exact bG _|exact bj|refine⟨?_,?_⟩))
 have ht:=acH h;simp only[h,not_true_eq_false,if_false]at Y
 (repeat'(refine fq ?_;first|refine ar V ?_|refine aY ?_|fail))<;>try(conv=>whnf)
 have hz:(aC (oO tt.toNat)).length=oO tt.toNat:=by simp[aC]
 have hl8:oO tt.toNat<=512/\tt.toNat<=8*oO tt.toNat:=by unfold oO;omega
 refine⟨λm env Z=>∃(i:Nat) (B:P8),(i+m=n/\B.length=oO tt.toNat/\(∀j:Nat,tt<=j->j<i->aU s j=0)∧∀j,aU B j=if j<i then aU s j else 0)/\Z=[.box 173 [.own 2,.pv (pI n)],.box 173 [.own 3,.pv (pI tt)],.row 5 1 false (s.map aG),.row 5 1 false (B.map aG)]/\env=[eN 2 tt,(8,.ref 0 0 0),(10,.ref 1 0 0),eN 29 n,eN 30 i],n.toNat,⟨0,aC (oO tt.toNat),⟨V,hz,λj _ h=>V,λj=>by rw[Hf,if_neg V]⟩,rfl,rfl⟩,?_⟩;rintro m env Z ⟨i,B,⟨W,hB,h0,I⟩,rfl,rfl⟩
 (repeat'(refine fq ?_;first|refine bu V ?_|refine dc (λ_=>?_) (λ_=>?_)|refine BTS ?_|refine⟨_,⟨_,_,_,rfl,bT,rfl⟩,?_⟩|refine⟨_,_,_,_,_,rfl,rfl,bT,?_⟩|fail))<;>try(conv=>whnf)
 ·rename_i _ h0b;have h0b:aU s i=0:=by simpa using h0b
  refine⟨m-1,V,i+1,B,⟨V,hB,λj hj hji=>?_,λj=>?_⟩,rfl,rfl⟩
  ·by_cases h:j=i
   ·rw[h];exact h0b
   ·exact h0 j hj V
  ·rw[I];by_cases h:j=i
   ·subst h;simp[h0b]
   ·by_cases h':j<i
    ·rw[if_pos h',if_pos V]
    ·rw[if_neg h',if_neg V]
 ·rename_i _ h1b hle;have h1b:aU s i=1:=by have:=fV s i;simp at h1b;omega
  have hh:Zs (λi=>decide (aU s i=1)) tt.toNat (n.toNat-tt.toNat)=true:=Tj.2 ⟨i,V,V,by simpa using h1b⟩;rw[if_pos hh]at Y
  (conv=>whnf)
  (refine⟨_,?_,?_,Y⟩<;>repeat'(first|exact rfl|exact trivial|exact aW _|exact bG _|exact bj|refine⟨?_,?_⟩))
 ·rename_i _ h1b hle;have h1b:aU s i=1:=by have:=fV s i;simp at h1b;omega
  refine⟨m-1,V,i+1,AF B i 1,⟨V,by simp[hB],λj hj hji=>h0 j hj V,λj=>?_⟩,rfl,rfl⟩;rw[abb V (zai _),I];by_cases h:j=i
  ·subst h;simp[h1b]
  ·rw[if_neg h];by_cases h':j<i
   ·rw[if_pos h',if_pos V]
   ·rw[if_neg h',if_neg V]
 ·have W:i=n.toNat:=by omega
  subst W;have hh:¬Zs (λi=>decide (aU s i=1)) tt.toNat (n.toNat-tt.toNat)=true:=λhh=>by
   obtain⟨j,h1',h2',h3'⟩:=Tj.1 hh;rw[h0 j V V]at h3';cases h3'
  have e:B=K9 (aU s) tt.toNat:=by
   refine auz (fV s) hB (λj hj=>?_) λj hj _=>?_
   ·rw[I];by_cases h':j<n.toNat
    ·rw[if_pos h']
    ·rw[if_neg h'];by_cases h8:j<8*s.length
     ·exact(h5 j h8 V).symm
     ·unfold aU;rw[zaM V];simp
   ·rw[I];by_cases h':j<n.toNat
    ·rw[if_pos h'];exact h0 j V h'
    ·rw[if_neg h']
  rw[if_neg hh,if_pos rfl,<-e]at Y
  (conv=>whnf)
  (refine⟨_,?_,?_,Y⟩<;>repeat'(first|exact rfl|exact trivial|exact aW _|exact bG _|exact bj|refine⟨?_,?_⟩))
section
open Classical in
def Uz(v:Vo)(c lo W:Int):Int:=if Av v≠0 then Av v else if lo<=c/\c<=W then Rz v.d.mp v.d.n c else 2
def rzB(v:Vo)(c:Int):P8:=v.d.aT.take (min (v.d.n:Int) c*256).toNat++Mw [0] (max 0 (c-v.d.n)*256).toNat
def Y6(v:Vo)(c lo W:Int):Vo:=if Uz v c lo W≠0 then zVo else⟨⟨rzB v c,YU v.d.mp v.d.n c⟩,.sl (v.st.l.map aS)⟩
def yv(ps:CK)(r:RV):Prop:=∃(v:Vo) (c lo W:Int),ps=[v.pv,pI c,pI lo,pI W]/\(Un v/\0<=lo/\(Av v=0->W<=3900))/\r=.tup [.pv (Y6 v c lo W).pv,.pv (pI (Uz v c lo W))]
def KR:∀n,(Mw [0] n).length=n
 |0=>rfl
 |n+1=>by simp[Mw,KR n];try omega
def Vy:MT (ao [(74,dz false pt),(77,dU cf),(67,ah bF),(65,ah dn),(79,dz false HA),(147,ah bk),(207,V7),(174,ah vW)]) Bd (dz false yv):=by
 rintro _ K ⟨_,⟨v,c,lo,W,rfl,⟨U,H,h3⟩,rfl⟩,Y⟩;have ho:pt [v.pv] _:=⟨v,rfl,U,rfl⟩
 have hvr:=YH U;have b_:=rA U;unfold Y6 Uz at Y;generalize Av v=hk at*;by_cases hE:hk=0
 case neg=>
  simp only[if_pos hE]at Y
  (repeat'((conv=>whnf);first|refine⟨_,ho,?_⟩|refine⟨_,⟨_,_,_,rfl,rfl⟩,?_⟩|(refine ak (by rw[lK _ hE];exact hE) ?_)|(refine ik ?_;first|refine dc (λ_=>?_) (λ_=>?_)|refine aY ?_|refine⟨_,⟨_,_,rfl,rfl⟩,?_⟩|refine⟨_,⟨[_,_],rfl,rfl⟩,?_⟩|fail)))
  all_goals
   rw[lK _ hE];exact SM
 subst hE;simp only[ne_eq,not_true_eq_false,if_false]at Y;by_cases F:lo<=c/\c<=W
 case neg=>
  simp only[if_neg F]at Y;rw[if_pos ai]at Y
  (repeat'((conv=>whnf);first|refine⟨_,ho,?_⟩|refine⟨_,⟨_,_,_,rfl,rfl⟩,?_⟩|refine ar F ?_|(refine ak C2 ?_)|(refine ik ?_;first|refine aY ?_|refine⟨_,⟨_,_,rfl,rfl⟩,?_⟩|refine⟨_,⟨[_,_],rfl,rfl⟩,?_⟩|fail)))
  rw[wj ai];exact⟨[.pv zVo.pv,.pv (pI 2)],⟨rfl,rfl,trivial⟩,trivial,Y⟩
 simp only[if_pos F]at Y;have hv:=hvr rfl;have E:=b_ rfl;have h3:=h3 rfl;have cj:HA [v.pv] _:=⟨v,rfl,hv.own,rfl⟩
 obtain⟨d1,d2,d3⟩:=df E.dk;have I:=U.1;have iX:bk [v.d.pv] _:=⟨v.d,rfl,I.1,rfl⟩
 have hn:v.d.n=v.d.aT.length/256:=rfl;unfold rzB at Y;generalize v.d.n=N at*;by_cases hz:Rz v.d.mp N c=0
 case neg=>
  rw[if_pos hz]at Y
  (repeat'((conv=>whnf);first|refine⟨_,ho,?_⟩|refine⟨_,⟨_,_,_,rfl,rfl⟩,?_⟩|refine ak F ?_|(refine ar IP ?_)|refine⟨_,cj,?_⟩|refine⟨_,iX,?_⟩|refine⟨_,_,_,rfl,I.2,?_⟩|refine ak hz ?_|(refine ik ?_;first|refine aY ?_|refine⟨_,⟨_,_,rfl,rfl⟩,?_⟩|refine⟨_,⟨[_,_],rfl,rfl⟩,?_⟩|fail)))
  exact SM
 rw[if_neg (λh=>h hz),hz]at Y;have hrp:vW [.str [0],pI (max 0 (c-N)*256)] _:=⟨[0],_,rfl,⟨V,V,ai⟩,rfl⟩
 have hlen:(((cut 0 (min (N:Int) c*256).toNat v.d.aT).length+(Mw [0] (max 0 (c-N)*256).toNat).length:Nat):Int)<=9223372036854775807:=by
  rw[KR];have:(cut 0 (min (N:Int) c*256).toNat v.d.aT).length<=v.d.aT.length:=by unfold cut;rw[zdc,zal];omega
  have:=I.1;omega
 (repeat'((conv=>whnf);first|refine⟨_,ho,?_⟩|refine⟨_,⟨_,_,_,rfl,rfl⟩,?_⟩|refine ak F ?_|(refine ar IP ?_)|refine⟨_,cj,?_⟩|refine⟨_,iX,?_⟩|refine⟨_,_,_,rfl,I.2,?_⟩|refine ar (λh=>h hz) ?_|refine⟨_,hrp,?_⟩|refine zcv hlen ?_|(refine ik ?_;first|refine bu V ?_|refine MAX ?_|refine U7 ?_|refine aY ?_|refine⟨_,⟨_,_,rfl,rfl⟩,?_⟩|refine HI ?_|refine⟨_,⟨[_,_],rfl,rfl⟩,?_⟩|fail)))
 exact⟨[.pv (Vo.pv ⟨⟨_,_⟩,.sl _⟩),.pv (pI 0)],⟨rfl,rfl,trivial⟩,trivial,Y⟩
def uU(ps:CK)(r:RV):Prop:=∃(v:Vo) (c:Int),ps=[v.pv,pI c]/\Un v/\r=.tup [.pv (Y6 v c 1 v.d.n).pv,.pv (pI (Uz v c 1 v.d.n))]
def SU:MT (ao [(147,ah bk),(146,dz false yv)]) y5 (dz false uU):=by
 rintro _ K ⟨_,⟨v,c,rfl,U,rfl⟩,Y⟩;have iX:bk [v.d.pv] _:=⟨v.d,rfl,U.1.1,rfl⟩
 have J:yv [v.pv,pI c,pI 1,pI v.d.n] _:=⟨v,c,1,v.d.n,rfl,⟨U,V,λh=>by have:=(df (rA U h).dk).2.1;omega⟩,rfl⟩
 (repeat'((conv=>whnf);first|refine⟨_,iX,?_⟩|refine⟨_,J,?_⟩|refine aY ?_|fail))
 exact⟨[.pv (Y6 v c 1 v.d.n).pv,.pv (pI _)],⟨rfl,rfl,trivial⟩,trivial,Y⟩
def L3(ps:CK)(r:RV):Prop:=∃(v:Vo) (c:Int),ps=[v.pv,pI c]/\Un v/\r=.tup [.pv (Y6 v c v.d.n 512).pv,.pv (pI (Uz v c v.d.n 512))]
def Uv:MT (ao [(147,ah bk),(146,dz false yv)]) Bi (dz false L3):=by
 rintro _ K ⟨_,⟨v,c,rfl,U,rfl⟩,Y⟩;have iX:bk [v.d.pv] _:=⟨v.d,rfl,U.1.1,rfl⟩
 have J:yv [v.pv,pI c,pI v.d.n,pI 512] _:=⟨v,c,v.d.n,512,rfl,⟨U,V,λh=>V⟩,rfl⟩
 (repeat'((conv=>whnf);first|refine⟨_,iX,?_⟩|refine⟨_,J,?_⟩|refine aY ?_|fail))
 exact⟨[.pv (Y6 v c v.d.n 512).pv,.pv (pI _)],⟨rfl,rfl,trivial⟩,trivial,Y⟩
end
def aiw(ps:CK)(p:Prop):Prop:=∃(r:Rn) (c:Int),ps=[r.pv,.cptr (pI c)]/\p=(r.n<c)
def ajL:MT (ao []) ow (dU aiw):=by
 rintro _ K ⟨_,⟨r,c,rfl,rfl⟩,Y⟩
 (repeat'(refine fq ?_;first|refine dc (λ_=>?_) (λ_=>?_)|fail))
 all_goals exact h_
def as6(c:Int):PV:=.clo 86 [.cptr (pI c)]
def aa6:Spec:=AT true false λps K=>∃(l:UH) (c:Int),ps=[.sl 2 (l.map Rn.pv),as6 c]/\l.length<=1000000/\
 ((∀r∈l,small c r=false)->K (.pv (pI (-1))))∧∀(i:Nat) (r:Rn),l[i]?=some r->small c r=true->(∀r∈l.take i,small c r=false)->K (.pv (pI i))
def Yp:MT (ao [(86,dU aiw)]) bq aa6:=by
 rintro _ K ⟨l,c,rfl,hl,yd,qO⟩
 (repeat'(refine fq ?_;first|refine cT λ_=>?_|fail))
 refine⟨λm env Z=>∃i:Nat,(i+m=l.length∧∀r∈l.take i,small c r=false)/\Z=[]/\env=[(0,.pv (.sl 2 (l.map Rn.pv))),(1,.pv (as6 c)),eN 7 l.length,eN 8 i],l.length,⟨0,⟨V,λr h=>bc⟩,rfl,rfl⟩,?_⟩;rintro m env Z ⟨i,⟨W,h0⟩,rfl,rfl⟩
 (repeat'(refine fq ?_;first|refine bu V ?_|refine dc (λ_=>?_) (λ_=>?_)|refine agh V (λ_ _=>?_)|refine⟨_,⟨_,_,rfl,rfl⟩,?_⟩|fail))
 ·rename_i r J h;have Y:=qO i r J (by simpa[small]using h) h0
  (refine⟨_,?_,?_,Y⟩<;>repeat'(first|exact rfl|exact trivial|exact aW _|exact bG _|exact bj|refine⟨?_,?_⟩))
 ·rename_i r J h;refine⟨m-1,V,i+1,⟨V,λx T=>?_⟩,rfl,rfl⟩;rw[zcM,J]at T;rcases zaA.1 T with T|T
  ·exact h0 x T
  ·simp at T;subst T;simpa[small]using h
 ·have:i=l.length:=by omega
  subst this;rw[zcP]at h0;have Y:=yd h0
  (refine⟨_,?_,?_,Y⟩<;>repeat'(first|exact rfl|exact trivial|exact aW _|exact bG _|exact bj|refine⟨?_,?_⟩))
def V_(xs:XP)(Z:ax)(K:AV->ax->Prop):Prop:=
 ∃(ap:Bool) (L:UH) (c:Int),xs=[.own 0,.pv (as6 c)]/\Z=[.row 103 2 ap (L.map Rn.pv)]/\L.length<=1000000/\
  (fQ c L=L->K (.own 0) [.row 103 2 ap (L.map Rn.pv)])∧∀(R:UH) (k:Nat),R.take k=fQ c L->k<=R.length->K (.sub 0 2 0 k) [.row 103 2 ap (R.map Rn.pv)]
def Vf:OQ (ao [(151,aa6),(86,dU aiw)]) bl (lZ V_):=by
 rintro _ _ K ⟨ap,L,c,rfl,rfl,hl,yd,qO⟩;refine⟨L,c,rfl,hl,λh=>?_,λi r J hs h0=>?_⟩
 ·(repeat'(refine fq ?_;first|refine ak V ?_|fail))
  refine yd ?_;unfold fQ;rw[zbT];intro r J;rw[h r J];rfl
 ·have W:=fo J
  (repeat'(refine fq ?_;first|refine bu V ?_|refine ar V ?_|fail))
  refine⟨λm env Z=>∃(k j:Nat) (R:UH),(j+m=L.length/\k<j/\R.length=L.length/\R.take k=fQ c (L.take j)/\R.drop j=L.drop j)/\Z=[.row 103 2 ap (R.map Rn.pv)]/\env=[(0,.own 0),(1,.pv (as6 c)),eN 5 k,eN 6 j],L.length-(i+1),⟨i,i+1,L,⟨V,V,rfl,?_,rfl⟩,rfl,rfl⟩,?_⟩
  ·rw[zcM,J,show(some r).toList=[r]from rfl];have e1:fQ c (L.take i)=L.take i:=by
    unfold fQ;rw[zbT];intro x T;rw[h0 x T];rfl
   show _=fQ c (L.take i++[r]);unfold fQ at e1 ⊢;rw[zbV,e1];simp[hs]
  rintro m env Z ⟨k,j,R,⟨hj,hkj,hR,ht,hd⟩,rfl,rfl⟩;have tj:∀x,R[j]?=some x->L[j]?=some x:=by
   intro x T;have U:(R.drop j)[0]?=R[j]?:=IL;have H:(L.drop j)[0]?=L[j]?:=IL;rw[<-H,<-hd,U];exact T
  have hd1:R.drop (j+1)=L.drop (j+1):=aaB
  (repeat'(refine fq ?_;first|refine bu V ?_|refine bR ?_|refine ec ?_|refine dc (λ_=>?_) (λ_=>?_)|refine cT λ_=>?_|refine UF V ?_|refine aze V (λ_ _=>?_)|refine aY ?_|refine⟨_,⟨_,_,rfl,rfl⟩,?_⟩|fail))
  ·rename_i x T hns;have hxL:=tj x T;refine⟨m-1,V,k,j+1,R,⟨V,V,hR,?_,?_⟩,rfl,rfl⟩
   ·rw[ht,zcM (l:=L),hxL];unfold fQ;rw[zbV];have:small c x=true:=IF;simp[this]
   ·exact hd1
  ·rename_i x T hns y hy;have hxL:=tj x T;have e1:(R.map Rn.pv).set (k:Int).toNat (.agg [pI x.s,pI x.n])=(R.set k x).map Rn.pv:=by rw[zaC,<-iM];rfl
   refine⟨m-1,V,k+1,j+1,R.set k x,⟨V,V,by simp[hR],?_,?_⟩,congrArg (λl=>[cK.row _ _ _ l]) e1,rfl⟩
   ·rw[zcM,List.take_set,List.set_eq_of_length_le gA,zbO V,ht,zcM (l:=L),hxL];unfold fQ;rw[zbV];have hsm:small c x=false:=IF;simp[hsm]
   ·rw[List.drop_set_of_lt V];exact hd1
  ·have:j=L.length:=by omega
   subst this;rw[zcP]at ht;refine .inr ?_
   (repeat'(refine fq ?_;first|refine zcv bJ ?_|fail))
   have VH:(cut (k:Int).toNat ((k:Int).toNat+((R.map Rn.pv).length-(k:Int).toNat)) (R.map Rn.pv)).length=R.length-k:=by
    rw[aib DS,zaw,zaC];omega
   have e:((R.map Rn.pv).take (k:Int).toNat++((List.replicate (cut (k:Int).toNat ((k:Int).toNat+((R.map Rn.pv).length-(k:Int).toNat)) (R.map Rn.pv)).length (PV.agg [.int .i64 0,.int .i64 0])).take ((R.map Rn.pv).length-(k:Int).toNat))++
    (R.map Rn.pv).drop ((k:Int).toNat+min (List.replicate (cut (k:Int).toNat ((k:Int).toNat+((R.map Rn.pv).length-(k:Int).toNat)) (R.map Rn.pv)).length (PV.agg [.int .i64 0,.int .i64 0])).length ((R.map Rn.pv).length-(k:Int).toNat)))=(R.take k++List.replicate (R.length-k) (⟨0,0⟩:Rn)).map Rn.pv:=by
    rw[VH,zaq,zaw,zaC,Nat.min_self,zb7 pd,zbg,zaY,<-List.map_take,za1 (l:=List.replicate (R.length-k) (PV.agg [.int .i64 0,.int .i64 0])) (by rw[zaq];omega),List.map_replicate];rfl
   refine .inr ⟨by rw[e];simp;omega,?_⟩;have hh:=qO (R.take k++List.replicate (R.length-k) ⟨0,0⟩) k adD aH;rw[<-e]at hh;exact hh
def ajn(b:Rn):∀(l:UH) (x:Rn),kP b (l++[x])=if x.n<(kP b l).n then x else kP b l:=by
 intro l
 induction l generalizing b with
 |nil=>intro x;rfl
 |cons y l ih=>intro x;exact ih _ x
def apI(b:Rn):∀l:UH,kP b l=b\/kP b l∈l:=by
 intro l
 induction l generalizing b with
 |nil=>exact .inl rfl
 |cons x l ih=>
  rcases ih (if x.n<b.n then x else b)with h|h
  ·unfold kP;rw[h];split
   ·exact .inr ab
   ·exact .inl rfl
  ·exact .inr (by unfold kP;simp[h])
def Ng(ps:CK)(x:PV):Prop:=∃a b:Rn,ps=[a.pv,b.pv]/\True/\x=pI (SH a.n b.n)
def ajS:MT (ao [(153,ah Ez)]) zI (ah Ng):=by
 rintro _ K ⟨_,⟨a,b,rfl,-,rfl⟩,Y⟩;have F:Ez [pI a.n,pI b.n] _:=⟨a.n,b.n,rfl,rfl⟩
 (repeat'((conv=>whnf);first|refine⟨_,F,?_⟩|fail))
 exact aO
def ahn{a b:Int}:SH a b<0↔a<b:=by
 unfold SH;split
 ·simp only[*];decide
 ·split<;>simp only[*]<;>decide
def amh:Spec:=AT true false λps K=>∃(b:Rn) (l:UH),ps=[.sl 2 ((b::l).map Rn.pv),.clo 88 []]/\l.length<=1000000/\K (.pv (kP b l).pv)
def agt:MT (ao [(88,ah Ng)]) cL amh:=by
 rintro _ K ⟨b,l,rfl,hl,Y⟩;have hlen:(b::l).length=l.length+1:=rfl;have FJ:((b::l).map Rn.pv).length=l.length+1:=ab;have hg0:((b::l).map Rn.pv)[(0:Int).toNat]?=some b.pv:=rfl;generalize hP:(b::l).map Rn.pv=P at*
 (repeat'((conv=>whnf);first|refine ar V ?_|refine⟨_,⟨V,hg0⟩,?_⟩|refine cT λ_=>?_|refine aY ?_|fail))
 refine⟨λm env Z=>∃(i:Nat),(i+m=l.length)/\Z=[.box 103 [.pv (pI 0),.pv (pI 0)],.box 103 [.pv (pI (kP b (l.take i)).s),.pv (pI (kP b (l.take i)).n)]]/\env=[(0,.pv (.sl 2 P)),(1,.pv (.clo 88 [])),(4,.ref 0 0 0),(5,.ref 1 0 0),eN 6 ((i+1:Nat):Int)],l.length,⟨0,V,rfl,rfl⟩,?_⟩;rintro m env Z ⟨i,W,rfl,rfl⟩;by_cases aM:i<l.length
 case neg=>
  have:i=l.length:=V;subst this;rw[zcP]
  (repeat'((conv=>whnf);first|refine ar V ?_|refine cT λ_=>?_|refine aY ?_|fail))
  exact⟨.pv (kP b l).pv,rfl,aW [kP b l] (kP b l).pv ab,Y⟩
 obtain⟨y,hy⟩:∃y,l[i]?=some y:=⟨_,zah aM⟩
 have hgn:P[((i+1:Nat):Int).toNat]?=some y.pv:=adH;have e:kP b (l.take (i+1))=if y.n<(kP b (l.take i)).n then y else kP b (l.take i):=by rw[zcM,hy,show(some y).toList=[y]from rfl,ajn]
 generalize kP b (l.take i)=M at*;have hf:Ng [y.pv,M.pv] _:=⟨y,M,rfl,trivial,rfl⟩
 by_cases F:y.n<M.n
 ·rw[if_pos F]at e
  (repeat'((conv=>whnf);first|refine ak V ?_|refine⟨_,⟨V,hgn⟩,?_⟩|refine⟨_,hf,?_⟩|refine ak (ahn.2 F) ?_|refine bu V ?_|refine cT λ_=>?_|refine aY ?_|fail))
  exact IC
 ·rw[if_neg F]at e
  (repeat'((conv=>whnf);first|refine ak V ?_|refine⟨_,⟨V,hgn⟩,?_⟩|refine⟨_,hf,?_⟩|refine ar (λh=>F (ahn.1 h)) ?_|refine bu V ?_|refine cT λ_=>?_|refine aY ?_|fail))
  exact IC
def nH{α:Type}{f:α->PV}{l:List α}{n:Nat}{x:α}(h:l[n]?=some x):(l.map f)[(n:Int).toNat]?=some (f x):=by
 rw[zaC,zaD,h];rfl
def Sl.SW{α:Type}{f:α->PV}{sz:Nat}{s:Sl α}{n:Nat}{x:α}(h:s.l[n]?=some x):s.pv f sz=.sl sz (s.l.map f):=by
 cases s with
 |nil=>cases h
 |sl l=>rfl
def NI(n:Nat):Int:=n
def GY(a:At):QK:=if a.rs=true then[]else qC a.rn.l
def YP(l:QK):CK:=(l.map NI).map pI
def PJ(ps:CK)(r:RV):Prop:=∃a:At,ps=[a.pv]/\(a.rn.l.length<=1000000/\(∀r∈a.rn.l,r.s= -1\/xy r)/\(qC a.rn.l).length<=1000000)/\r=.fresh 3 1 (YP (GY a))
def apq(a:At)(x:PV):cK:=.box 31 [.pv (pI a.ty),.pv (.str a.nm),.pv (pI a.id),.pv (pI a.fl),.pv (pB false),.pv (.str a.vl),.pv (pI a.ft),.pv x,.pv (pI a.al),.pv (pI a.sz),.pv (pI a.vd)]
def apX{l:UH}{n:Nat}{r:Rn}(h:l[n]?=some r):qC (l.take (n+1))=qC (l.take n)++U1 r:=by
 unfold qC;rw[zcM,h,Option.toList_some,zaz,List.flatMap_singleton]
def Nh(l:UH)(n:Nat):(qC (l.take n)).length<=(qC l).length:=by
 have h:qC l=qC (l.take n)++qC (l.drop n):=by unfold qC;rw[<-zaz,zaF]
 rw[h,zad];omega
def Zv(l:QK):(YP l).length=l.length:=by simp[YP]
def ap3(l:QK)(c:Nat):YP (l++[c])=YP l++[pI c]:=by simp[YP,NI]
def YQ:MT (ao []) Kb (dz true PJ):=by
 rintro _ K ⟨_,⟨a,rfl,⟨U,H,h3⟩,rfl⟩,Y⟩;have FJ:(a.rn.l.map Rn.pv).length=a.rn.l.length:=zaw _;cases fx:a.rs with
 |true=>
  have e:GY a=[]:=by unfold GY;rw[if_pos fx]
  rw[e]at Y;have hp:a.pv=.agg [pI a.ty,.str a.nm,pI a.id,pI a.fl,pB true,.str a.vl,pI a.ft,uF a.rn,pI a.al,pI a.sz,pI a.vd]:=by unfold At.pv;rw[fx]
  rw[hp]
  (conv=>whnf)
  refine⟨λm env Z=>Z=[.box 31 [.pv (pI a.ty),.pv (.str a.nm),.pv (pI a.id),.pv (pI a.fl),.pv (pB true),.pv (.str a.vl),.pv (pI a.ft),.pv (uF a.rn),.pv (pI a.al),.pv (pI a.sz),.pv (pI a.vd)],.row 3 1 true []]/\env=[(1,.ref 0 0 0),(3,.own 1),eN 4 0],0,⟨rfl,rfl⟩,?_⟩;rintro m env Z ⟨rfl,rfl⟩
  (repeat'((conv=>whnf);first|refine tD ?_|refine bR ?_|refine dc (λ_=>?_) (λ_=>?_)|refine cT λ_=>?_|fail))
  all_goals exact⟨.fresh _ _ _,⟨rfl,rfl,rfl,rfl⟩,bG [],Y⟩
 |false=>
  have e:GY a=qC a.rn.l:=by unfold GY;rw[if_neg lI]
  rw[e]at Y;have hp:a.pv=.agg [pI a.ty,.str a.nm,pI a.id,pI a.fl,pB false,.str a.vl,pI a.ft,uF a.rn,pI a.al,pI a.sz,pI a.vd]:=by unfold At.pv;rw[fx]
  rw[hp]
  (conv=>whnf)
  refine⟨λm env Z=>∃n:Nat,n+m=a.rn.l.length/\Z=[apq a (uF a.rn),.row 3 1 true (YP (qC (a.rn.l.take n)))]/\env=[(1,.ref 0 0 0),(3,.own 1),eN 4 n],a.rn.l.length,⟨0,V,rfl,rfl⟩,?_⟩;rintro m env Z ⟨n,hn,rfl,rfl⟩;by_cases aM:n<a.rn.l.length
  ·obtain⟨r,J⟩:∃r,a.rn.l[n]?=some r:=⟨_,zah aM⟩
   have hrr:=H r (zag J);have zT:uF a.rn=.sl 2 (a.rn.l.map Rn.pv):=Sl.SW J;have hg:=nH (f:=Rn.pv) J;have ht:=apX J;have htl:=Nh a.rn.l (n+1);have alu:((qC (a.rn.l.take n)).length)<=1000000:=zam (Nh _ _) h3;rw[ht,zad]at htl;unfold apq;rw[zT];by_cases hs:r.s= -1
   ·have hcr:U1 r=[]:=by unfold U1;rw[if_pos hs]
    rw[hcr,zbg]at ht
    (repeat'((conv=>whnf);first|refine ak V ?_|refine ec ?_|refine cT λ_=>?_|fail))
    refine⟨λm2 env Z=>Z=[apq a (.sl 2 (a.rn.l.map Rn.pv)),.row 3 1 true (YP (qC (a.rn.l.take n)))]/\env=[(1,.ref 0 0 0),(3,.own 1),eN 4 n,eN 5 0],0,⟨rfl,rfl⟩,?_⟩;rintro m2 env Z ⟨rfl,rfl⟩
    (repeat'((conv=>whnf);first|refine⟨_,⟨V,hg⟩,?_⟩|refine ar (λh=>h hs) ?_|refine bu V ?_|refine dc (λ_=>?_) (λ_=>?_)|fail))
    all_goals exact yQ
   ·have hcr:U1 r=List.range' r.s.toNat r.n.toNat:=by unfold U1;rw[if_neg hs]
    have hrr:=hrr.resolve_left hs;unfold xy at hrr;rw[hcr,zdC]at htl;rw[hcr]at ht
    (repeat'((conv=>whnf);first|refine ak V ?_|refine ec ?_|refine cT λ_=>?_|fail))
    refine⟨λm2 env Z=>∃k:Nat,(k:Int)+m2=r.n/\Z=[apq a (.sl 2 (a.rn.l.map Rn.pv)),.row 3 1 true (YP (qC (a.rn.l.take n)++List.range' r.s.toNat k))]/\env=[(1,.ref 0 0 0),(3,.own 1),eN 4 n,eN 5 k],r.n.toNat,⟨0,V,by simp[apq],rfl⟩,?_⟩;rintro m2 env Z ⟨k,E,rfl,rfl⟩;have hl:=Zv (qC (a.rn.l.take n)++List.range' r.s.toNat k);rw[zad,zdC]at hl;have hsn:=ap3 (qC (a.rn.l.take n)++List.range' r.s.toNat k) (r.s.toNat+k);rw[zaj,<-List.range'_1_concat]at hsn;cases m2 with
    |zero=>
     have hkn:k=r.n.toNat:=V
     (repeat'((conv=>whnf);first|refine⟨_,⟨V,hg⟩,?_⟩|refine ar V ?_|refine bu V ?_|fail))
     exact⟨m-1,V,n+1,V,by rw[ht,hkn],rfl⟩
    |succ m2=>
     have hv:r.s+(k:Int)=((r.s.toNat+k:Nat):Int):=V
     (repeat'((conv=>whnf);first|refine⟨_,⟨V,hg⟩,?_⟩|refine ak hs ?_|refine ak V ?_|refine zcv ⟨IZ,IZ⟩ ?_|refine bu V ?_|refine aY ?_|fail))
     exact⟨m2,V,k+1,V,by rw[hsn,<-hv];rfl,rfl⟩
  ·(repeat'((conv=>whnf);first|refine tD ?_|refine ar V ?_|refine cT λ_=>?_|fail))
   rw[za1 V];exact Td
def sK(b:Rn):UH->Rn
 |[]=>b
 |x::l=>sK (if b.n<x.n then x else b) l
def akQ(b:Rn):∀(l:UH) (x:Rn),sK b (l++[x])=if (sK b l).n<x.n then x else sK b l:=by
 intro l
 induction l generalizing b with
 |nil=>intro x;rfl
 |cons y l ih=>intro x;exact ih _ x
def anO(b:Rn):∀l:UH,sK b l=b\/sK b l∈l:=by
 intro l
 induction l generalizing b with
 |nil=>exact .inl rfl
 |cons x l ih=>
  rcases ih (if b.n<x.n then x else b)with h|h
  ·unfold sK;grind
  ·exact .inr (by unfold sK;simp[h])
def awY:Spec:=AT true false λps K=>∃(b:Rn) (l:UH),ps=[.sl 2 ((b::l).map Rn.pv),.clo 88 []]/\l.length<=1000000/\K (.pv (sK b l).pv)
def ahl{a b:Int}:0<SH a b↔b<a:=by
 unfold SH;omega
def afy:MT (ao [(88,ah Ng)]) bA awY:=by
 rintro _ K ⟨b,l,rfl,hl,Y⟩;have hlen:(b::l).length=l.length+1:=rfl;have FJ:((b::l).map Rn.pv).length=l.length+1:=ab;have hg0:((b::l).map Rn.pv)[(0:Int).toNat]?=some b.pv:=rfl;generalize hP:(b::l).map Rn.pv=P at*
 (repeat'((conv=>whnf);first|refine ar V ?_|refine⟨_,⟨V,hg0⟩,?_⟩|refine cT λ_=>?_|refine aY ?_|fail))
 refine⟨λm env Z=>∃(i:Nat),(i+m=l.length)/\Z=[.box 103 [.pv (pI 0),.pv (pI 0)],.box 103 [.pv (pI (sK b (l.take i)).s),.pv (pI (sK b (l.take i)).n)]]/\env=[(0,.pv (.sl 2 P)),(1,.pv (.clo 88 [])),(4,.ref 0 0 0),(5,.ref 1 0 0),eN 6 ((i+1:Nat):Int)],l.length,⟨0,V,rfl,rfl⟩,?_⟩;rintro m env Z ⟨i,W,rfl,rfl⟩;by_cases aM:i<l.length
 case neg=>
  have:i=l.length:=V;subst this;rw[zcP]
  (repeat'((conv=>whnf);first|refine ar V ?_|refine cT λ_=>?_|refine aY ?_|fail))
  exact⟨.pv (sK b l).pv,rfl,aW [sK b l] (sK b l).pv ab,Y⟩
 obtain⟨y,hy⟩:∃y,l[i]?=some y:=⟨_,zah aM⟩
 have hgn:P[((i+1:Nat):Int).toNat]?=some y.pv:=adH;have e:sK b (l.take (i+1))=if (sK b (l.take i)).n<y.n then y else sK b (l.take i):=by rw[zcM,hy,show(some y).toList=[y]from rfl,akQ]
 generalize sK b (l.take i)=M at*;have hf:Ng [y.pv,M.pv] _:=⟨y,M,rfl,trivial,rfl⟩
 by_cases F:M.n<y.n
 ·rw[if_pos F]at e
  (repeat'((conv=>whnf);first|refine ak V ?_|refine⟨_,⟨V,hgn⟩,?_⟩|refine⟨_,hf,?_⟩|refine ak (ahl.2 F) ?_|refine bu V ?_|refine cT λ_=>?_|refine aY ?_|fail))
  exact IC
 ·rw[if_neg F]at e
  (repeat'((conv=>whnf);first|refine ak V ?_|refine⟨_,⟨V,hgn⟩,?_⟩|refine⟨_,hf,?_⟩|refine ar (λh=>F (ahl.1 h)) ?_|refine bu V ?_|refine cT λ_=>?_|refine aY ?_|fail))
  exact IC
def Qo{o o':OG}{i:Int}{c:Nat}{r:QK}:KP o i (c::r)=some o'↔o[c]?.getD 0<0/\KP (o.set c i) i r=some o':=by
 have e:KP o i (c::r)=if 0<=o[c]?.getD 0 then none else KP (o.set c i) i r:=rfl
 grind
def aAo{o:OG}{i:Int}{c x:Nat}(h:o[c]?.getD 0<0):(o.set c i)[x]?.getD 0=if x=c then i else o[x]?.getD 0:=by
 grind
def O_{i:Int}:∀{cs:QK} {o o':OG},KP o i cs=some o'→∀x,o'[x]?.getD 0=if x∈cs then i else o[x]?.getD 0
 |[],o,o',h,x=>by cases h;simp
 |c::r,o,o',h,x=>by
  obtain⟨U,H⟩:=Qo.1 h;rw[O_ H x]
  grind
def Pa{i:Int}(W:0<=i):∀{cs:QK} {o:OG},(∃o',KP o i cs=some o')↔cs.Nodup∧∀c∈cs,o[c]?.getD 0<0
 |[],o=>⟨λ_=>⟨.nil,λ_ h=>absurd h ab⟩,λ_=>⟨o,rfl⟩⟩
 |c::r,o=>by
  constructor
  ·rintro⟨o',h⟩;obtain⟨U,H⟩:=Qo.1 h;obtain⟨h3,h4⟩:=(Pa W).1 ⟨o',H⟩
   grind
  ·rintro⟨U,H⟩;obtain⟨h3,h4⟩:=zdL.1 U;have F:=H c ab;obtain⟨o',ho⟩:=(Pa W (cs:=r) (o:=o.set c i)).2 ⟨h4,λx T=>by
    grind⟩
   exact⟨o',Qo.2 ⟨F,ho⟩⟩
def csA(l:UD):QK:=l.flatMap λa=>qC a.rn.l
def S0{d:Dk}:∀{l:UD} {o:OG} {i:Int},0<=i->((wz d o i l).2=0↔(∀a∈l,aI d a=0)/\(csA l).Nodup∧∀c∈csA l,o[c]?.getD 0<0)
 |[],o,i,W=>⟨λ_=>⟨λ_ h=>absurd h ab,.nil,λ_ h=>absurd h (by simp[csA])⟩,λ_=>rfl⟩
 |a::l,o,i,W=>by
  have F:csA (a::l)=qC a.rn.l++csA l:=zan;constructor
  ·intro h;obtain⟨h0,o',ho,H⟩:=Pc h;obtain⟨h3,h4,h5⟩:=(S0 V).1 H;obtain⟨h6,h7⟩:=(Pa W).1 ⟨o',ho⟩;have hg:=O_ ho
   grind
  ·rintro⟨U,H,h3⟩;obtain⟨h4,h5,h6⟩:=List.nodup_append.1 H;obtain⟨o',ho⟩:=(Pa W).2 ⟨h4,λc T=>h3 c (List.mem_append_left _ T)⟩;have hg:=O_ ho;have e:(wz d o i (a::l)).2=(wz d o' (i+1) l).2:=by
    have:=U a ab;simp only[wz,this,ho,ne_eq,not_true_eq_false,if_false]
   rw[e];exact(S0 V).2 ⟨λx T=>U x bP,h5,λc T=>by
    grind⟩
def anX{d:Dk}{c:Nat}:(xx d)[c]?.getD 0<0↔c<d.n:=by
 unfold xx;rw[zaD];by_cases h:c<d.n
 ·rw[zbD h];refine⟨λ_=>h,λ_=>?_⟩;show qL d c<0;unfold qL;omega
 grind
def ahp{v:Vo}:Av v=0↔dj v.d=0/\v.st.l.length<=8/\(∀a∈v.st.l,aI v.d a=0)/\(csA v.st.l).Nodup∧∀c∈csA v.st.l,c<v.d.n:=by
 have F:=S0 (d:=v.d) (l:=v.st.l) (o:=xx v.d) (i:=0) ai;simp only[anX]at F;unfold Av LC
 grind
def Pe{r:Rn}(h:r.s= -1\/0<=r.s){c:Nat}:c∈U1 r↔(c:Int)∈jd r:=by
 unfold U1 jd;rcases h with h|h
 ·grind
 ·rw[if_neg V,List.mem_range'_1];simp only[zaX,zbp];constructor
  ·rintro⟨U,H⟩;refine⟨c-r.s.toNat,V,?_⟩;omega
  omega
def Ai{l:UH}(h:∀r∈l,r.s= -1\/0<=r.s){c:Nat}:c∈qC l↔(c:Int)∈aq l:=by
 unfold qC aq;rw[zbB,zbB];exact⟨λ⟨r,J,F⟩=>⟨r,J,(Pe (h r J)).1 F⟩,λ⟨r,J,F⟩=>⟨r,J,(Pe (h r J)).2 F⟩⟩
def V6{l:UH}(h:∀r∈l,r.s= -1\/0<=r.s)(hd:sU (aq l)):(qC l).Nodup:=by
 obtain⟨_,H⟩:=zdz.1 hd;refine zdz.2 ⟨λr _=>?_,H.imp_of_mem λha I g x T y hy e=>?_⟩
 ·unfold U1;split
  ·simp
  ·exact List.nodup_range'
 ·subst e;exact g x ((Pe (h _ ha)).1 T) x ((Pe (h _ I)).1 hy) V rfl
def bL{v:Vo}:Av v=0↔dj v.d=0/\v.st.l.length<=8/\(∀a∈v.st.l,aI v.d a=0)/\v.st.l.Pairwise apS:=by
 rw[ahp];have J:∀a,aI v.d a=0→∀r∈a.rn.l,r.s= -1\/0<=r.s:=λa h r J=>(lY h r J).imp id (·.1)
 have hn:(∀a∈v.st.l,aI v.d a=0)->((csA v.st.l).Nodup↔v.st.l.Pairwise apS):=λh=>by
  unfold csA List.Nodup;rw[zdz];constructor
  ·rintro⟨_,H⟩;exact H.imp_of_mem λha I g c h3 h4=>g c ((Ai (J _ (h _ ha))).2 h3) c ((Ai (J _ (h _ I))).2 h4) rfl
  ·intro H;refine⟨λa ha=>V6 (J _ (h _ ha)) (lv (aL (h _ ha)).1.rn),H.imp_of_mem λha I g x T y hy e=>?_⟩;subst e;exact g x ((Ai (J _ (h _ ha))).1 T) ((Ai (J _ (h _ I))).1 hy)
 constructor
 ·grind
 ·rintro⟨U,H,h3,h4⟩;refine⟨U,H,h3,(hn h3).2 h4,λc F=>?_⟩;obtain⟨a,ha,hca⟩:=zbB.1 F;obtain⟨r,EV,hcr⟩:=zbB.1 hca;have h5:=lY (h3 a ha) r EV;unfold U1 at hcr
  grind
def aeB{d e:Dk}{a b:At}{C:P8}{v:Int}{rs:Bool}:AA d e a b C v rs↔aI e b=0/\aal d e a b/\ba (aj e b)=C/\b.rs=rs/\(b.rs=false->b.vd=v)/\b.ty=a.ty/\b.nm=a.nm/\b.id=a.id/\b.fl=a.fl:=
 ⟨λh=>⟨h.op,h.oth,h.Vt,h.rs,h.vd,h.ty,h.nm,h.id,h.fl⟩,λ⟨U,H,h3,h4,h5,h6,h7,h8,h9⟩=>⟨U,H,h3,h4,h5,h6,h7,h8,h9⟩⟩
def Pb(d:Dk)(a:At):aI d (aS a)=aI d a:=dw
def ana(d:Dk)(a:At):ba (aj d (aS a))=ba (aj d a):=dw
def aoE{d:Dk}{a:At}(h0:aI d a=0):aal d d a a:=by
 refine⟨⟨rfl,(aL h0).1.dk⟩,λc _=>⟨λ_=>⟨rfl,rfl⟩,λh=>absurd h.1 h.2,λh=>nq h0 (ui.1 h),λh=>absurd h.1 h.2⟩⟩
structure aba(d:Dk)(a:At)(e:Dk)(b:At)(C:P8):Prop where
 op:aI e b=0
 Vt:ba (aj e b)=C
 oth:aal d e a b
 nm:b.nm.length<=1000000
def aba.of{d e:Dk}{a b:At}{C:P8}{v:Int}{rs:Bool}(h:AA d e a b C v rs)(hn:a.nm.length<=1000000):aba d a e b C:=⟨h.op,h.Vt,h.oth,by rw[h.nm];exact hn⟩
def aba.sd{d e:Dk}{a b:At}{C:P8}(h:aba d a e b C)(hd:D8 d):D8 e:=Zr h.op h.oth.1.1 hd
structure afG(d:Dk)(a b:At):Prop where
 sd:D8 d
 a0:aI d a=0
 b0:aI d b=0
 an:a.nm.length<=1000000
 bn:b.nm.length<=1000000
 ap:apS a b
def afG.symm{d:Dk}{a b:At}(h:afG d a b):afG d b a:=⟨h.sd,h.b0,h.a0,h.bn,h.an,λc U H=>h.ap c H U⟩
def afG.step{d e:Dk}{a b a':At}{C:P8}(h:afG d a b)(s:aba d a e a' C):afG e a' b/\ba (aj e b)=ba (aj d b)/\e.n=d.n/\
 iq e.mp d.n+br (aq a.rn.l)=iq d.mp d.n+br (aq a'.rn.l):=by
 obtain⟨U,H⟩:=beside s.oth h.b0 h.symm.ap;obtain⟨h3,h4⟩:=akK U h.b0;exact⟨⟨s.sd h.sd,s.op,h3,s.nm,h.bn,λc g1 g2=>H c g2 g1⟩,h4,by unfold Dk.n;rw[s.oth.1.1],QI s.oth h.a0 s.op⟩
def aa9{a b:At}(h:apS a b):apS b a:=λc U H=>h c H U
def JI{v:Vo}{i:Nat}{a a':At}{e:Dk}{C:P8}(I:Un v)(ho:Av v=0)(W:v.st.l[i]?=some a)(s:aba v.d a e a' C):
 Av (lC v e i a')=0/\(∀j b,j≠i->v.st.l[j]?=some b->ba (aj e b)=ba (aj v.d b))/\e.n=v.d.n:=by
 obtain⟨U,H,h3,h4⟩:=bL.1 ho;have PH:=mX U;have Xp:=(zaa.1 W).1;have ham:=zag W;have hap:∀j b,j≠i->v.st.l[j]?=some b->apS a b:=λj b hj hjb=>by
  obtain⟨g1,rfl⟩:=zaa.1 hjb;obtain⟨_,rfl⟩:=zaa.1 W;have:=zdw.1 h4;rcases Nat.lt_or_ge i j with g|g
  ·grind
  ·exact aa9 (this j i g1 Xp V)
 have htw:∀j b,j≠i->v.st.l[j]?=some b->afG v.d a b:=λj b hj hjb=>
  ⟨PH,h3 a ham,h3 b (zag hjb),I.2.1 a ham,I.2.1 b (zag hjb),hap j b hj hjb⟩
 have hn:e.n=v.d.n:=by unfold Dk.n;rw[s.oth.1.1]
 refine⟨bL.2 ⟨(aL s.op).1.dk,by show(v.st.l.set i a').length<=8;grind,λx T=>?_,?_⟩,λj b hj hjb=>((htw j b hj hjb).step s).2.1,hn⟩
 ·obtain⟨j,hjx⟩:=zaG.1 (show x∈v.st.l.set i a' from T);rw[zaR]at hjx;by_cases g:i=j
  ·rw[if_pos g,if_pos V]at hjx;cases hjx;exact s.op
  ·rw[if_neg g]at hjx;exact((htw j x (λh=>g h.symm) hjx).step s).1.b0
 ·show(v.st.l.set i a').Pairwise apS;refine zdw.2 λj k hj E hjk=>?_
  rw[za0]at hj E;rw[zdK,zdK];by_cases g1:i=j
  ·rw[if_pos g1,if_neg V];exact((htw k _ V (zah E)).step s).1.ap
  ·rw[if_neg g1];by_cases g2:i=k
   ·rw[if_pos g2];exact aa9 ((htw j _ V (zah hj)).step s).1.ap
   ·rw[if_neg g2];exact zdw.1 h4 j k hj E hjk
def sS(v:Vo):Prop:=Un v/\Av v=0
def OR{v:Vo}{i:Nat}{a a':At}{e:Dk}{C:P8}(h:sS v)(W:v.st.l[i]?=some a)(s:aba v.d a e a' C):sS (lC v e i a'):=by
 obtain⟨g1,_,_⟩:=JI h.1 h.2 W s;refine⟨⟨DM (mX (aL s.op).1.dk),λx T=>?_,by show(v.st.l.set i a').length<=_;rw[za0];exact h.1.2.2⟩,g1⟩;rcases zdx (show x∈v.st.l.set i a' from T)with T|rfl
 ·exact h.1.2.1 x T
 ·exact s.nm
def apc{v:Vo}(h:sS v)(m:Mv):sS (jm v m):=by
 by_cases he:jN v m=0
 case neg=>unfold jm;grind
 have e:jm v m=lC v (MW v.d (fB v m.k) m.p m.t) m.k.toNat (Uw v.d (fB v m.k) m.p m.t):=by unfold jm;grind
 rw[e];have E:0<=m.k/\m.k<=(v.st.l.length:Int)-1:=by
  unfold jN at he;omega
 have hm:Cc v.d (fB v m.k) m.p m.t=0:=by unfold jN at he;omega
 obtain⟨b,I⟩:∃b,v.st.l[m.k.toNat]?=some b:=⟨_,zah V⟩
 have eb:fB v m.k=b:=DR;rw[eb]at hm ⊢;have hn:=h.1.2.1 b (zag I);have ml:=CU (rU hm) (mX (bL.1 h.2).1) hn hm;rw[ml.D,ml.A];exact OR h I ⟨ml.op,ml.Vt,ml.oth,hn⟩
def azL(a:At):(aS a).rn.l=a.rn.l:=rfl
def YD{d:Dk}{a:At}{s:Sp}(hd:D8 d)(hn:a.nm.length<=1000000)(h:V4 d a s=0):∃C,aba d a (stD d a s) (stA d a s) C:=by
 unfold V4 at h;unfold stD stA;by_cases k1:s.k=1
 ·simp only[if_pos k1]at h ⊢;have h0:sQ d a s.p s.dat=0:=by
   apply Classical.byContradiction;unfold NX at h;omega
  obtain⟨g1,g2,g3⟩:=ahC h0;by_cases he:s.dat=[]
  ·have eD:Uo d a s.p s.dat=d:=by unfold Uo;grind
   have eA:QN d a s.p s.dat=aS a:=by unfold QN;rw[h0,if_pos he];rfl
   rw[eD,eA];have o:=aoE g1;exact⟨_,az,rfl,o,hn⟩
  ·exact⟨_,.of ((aoi g1 hd hn g2.1 g3 he).ok h).1 hn⟩
 simp only[if_neg k1]at h ⊢;by_cases k2:s.k=2
 ·simp only[if_pos k2]at h ⊢;have h0:aI d a=0/\fP s.n:=by
   unfold VN x9 at h
   grind
  exact⟨_,.of ((amS h0.1 hd hn h0.2).ok h).1 hn⟩
 simp only[if_neg k2]at h ⊢;by_cases k3:s.k=3
 ·simp only[if_pos k3]at h ⊢;have h0:aI d a=0/\fP s.p/\fP s.n:=by
   unfold WS wJ at h
   grind
  exact⟨_,.of ((aoK h0.1 hd hn h0.2.1 h0.2.2).ok h).1 hn⟩
 simp only[if_neg k3]at h ⊢;have ml:=CU (rU h) hd hn h;rw[ml.D,ml.A];exact⟨_,ml.op,ml.Vt,ml.oth,hn⟩
def azY{v:Vo}(h:sS v)(s:Sp):sS (B0 v s):=by
 unfold B0;split
 ·exact h
 split
 ·exact h
 split
 ·exact h
 rename_i he;have he:=zcN.1 he;obtain⟨b,I⟩:∃b,v.st.l[s.i.toNat]?=some b:=⟨_,zah V⟩
 have eb:fB v s.i=b:=DR;rw[eb]at he ⊢;obtain⟨C,sp⟩:=YD (mX (bL.1 h.2).1) (h.1.2.1 b (zag I)) he;exact OR h I sp
def avD{v:Vo}{l:List Sp}(h:sS v):sS (mP v l):=by
 induction l generalizing v with
 |nil=>exact h
 |cons s r ih=>exact ih (azY h s)
def atc{v:Vo}:Av (aV v)=0↔Av v=0:=by
 have hl:(aV v).st.l=v.st.l.map aS:=rfl;have hd:(aV v).d=v.d:=rfl;rw[bL,bL,hl,hd,zaw,zdI];have e:(∀a∈v.st.l.map aS,aI v.d a=0)↔∀a∈v.st.l,aI v.d a=0:=by
  constructor
  ·intro h a ha;have:=h (aS a) (List.mem_map_of_mem ha);assumption
  ·intro h a ha;obtain⟨b,I,rfl⟩:=zaX.1 ha;rw[Pb]
   grind
 rw[e];rfl
def S6{v:Vo}(h:sS v):sS (aV v):=by
 refine⟨⟨h.1.1,λa ha=>?_,by show(v.st.l.map aS).length<=_;rw[zaw];exact h.1.2.2⟩,atc.2 h.2⟩;obtain⟨b,I,rfl⟩:=zaX.1 (show a∈v.st.l.map aS from ha);exact h.1.2.1 b I
def Y9(v:Vo):List (P8):=v.st.l.map λa=>ba (aj v.d a)
def abD{v:Vo}(h:sS v)(m:Mv):Y9 (jm v m)=Y9 v/\(jm v m).d.n=v.d.n:=by
 by_cases he:jN v m=0
 case neg=>unfold jm;grind
 have e:jm v m=lC v (MW v.d (fB v m.k) m.p m.t) m.k.toNat (Uw v.d (fB v m.k) m.p m.t):=by unfold jm;grind
 rw[e];have E:0<=m.k/\m.k<=(v.st.l.length:Int)-1:=by
  apply Classical.byContradiction;intro g;unfold jN at he;omega
 have hm:Cc v.d (fB v m.k) m.p m.t=0:=by unfold jN at he;omega
 obtain⟨b,I⟩:∃b,v.st.l[m.k.toNat]?=some b:=⟨_,zah V⟩
 have eb:fB v m.k=b:=DR;rw[eb]at hm ⊢;have hn:=h.1.2.1 b (zag I);have ml:=CU (rU hm) (mX (bL.1 h.2).1) hn hm;rw[ml.D,ml.A];obtain⟨_,g2,g3⟩:=JI h.1 h.2 I ⟨ml.op,ml.Vt,ml.oth,hn⟩;refine⟨?_,g3⟩;unfold Y9;refine zbb λj=>?_
 show((v.st.l.set m.k.toNat _).map _)[j]?=_;rw[zaD,zaD,zaR];by_cases g:m.k.toNat=j
 ·subst g;rw[if_pos rfl,if_pos V,I];exact congrArg some ml.Vt
 ·rw[if_neg g];cases hj:v.st.l[j]? with
  |none=>rfl
  |some x=>exact congrArg some (g2 j x (λe=>g e.symm) hj)
def clG(seen:QK)(i:Int):UD->Int
 |[]=> -1
 |a::r=>if ∃c∈GY a,c∈seen then i else clG (seen++GY a) (i+1) r
def Yd(ps:CK)(x:PV):Prop:=∃s:Sl At,ps=[ub s]/\(s.l.length<=1000∧∀a∈s.l,a.rn.l.length<=1000000/\(∀r∈a.rn.l,r.s= -1\/xy r)/\(qC a.rn.l).length<=1000)/\x=pI (clG [] 0 s.l)
def avR(a:At):(GY a).length<=(qC a.rn.l).length:=by
 unfold GY;split
 ·simp
 ·omega
def auJ{l:QK}{c:Nat}:NI c∈l.map NI↔c∈l:=by
 rw[zaX];exact⟨λ⟨x,h,e⟩=>by unfold NI at e;rw[<-show x=c by omega];exact h,λh=>⟨c,h,rfl⟩⟩
def abB:MT (ao [(155,dz true PJ),(44,dU alY)]) FX (ah Yd):=by
 rintro _ K ⟨_,⟨s,rfl,⟨U,H⟩,rfl⟩,Y⟩;have FJ:(s.l.map At.pv).length=s.l.length:=zaw _
 (conv=>whnf)
 refine⟨λm env Z=>∃(n:Nat) (seen:QK),(n+m=s.l.length/\seen.length<=1000*n/\clG [] 0 s.l=clG seen n (s.l.drop n))/\Z=[.row 3 1 true (YP seen)]/\env=[(0,.pv (ub s)),(3,.own 0),eN 4 n],s.l.length,⟨0,[],⟨V,ab,rfl⟩,rfl,rfl⟩,?_⟩;rintro m env Z ⟨n,seen,⟨hn,zT,hg⟩,rfl,rfl⟩;by_cases aM:n<s.l.length
 case neg=>
  (repeat'((conv=>whnf);first|refine tD ?_|refine ar V ?_|refine cT λ_=>?_|fail))
  rw[hg,zdt V]at Y;exact aO
 obtain⟨a,ha⟩:∃a,s.l[n]?=some a:=⟨_,zah aM⟩
 obtain⟨q1,q2,q3⟩:=H a (zag ha);have hsv:ub s=.sl 11 (s.l.map At.pv):=Sl.SW ha;have hga:=nH (f:=At.pv) ha;have hd:PJ [a.pv] _:=⟨a,rfl,⟨q1,q2,V⟩,rfl⟩
 have hdl:=avR a;have iX:clG seen n (s.l.drop n)=if ∃c∈GY a,c∈seen then(n:Int)else clG (seen++GY a) (n+1) (s.l.drop (n+1)):=by
  rw[drop_cons ha];rfl
 rw[iX]at hg;generalize GY a=D at*;have hDl:=Zv D;rw[hsv]
 (repeat'((conv=>whnf);first|refine ak V ?_|refine⟨_,⟨V,hga⟩,?_⟩|refine⟨_,hd,?_⟩|refine cT λ_=>?_|fail))
 refine⟨λm2 env Z=>∃j:Nat,(j+m2=D.length∧∀i c,i<j->D[i]?=some c->c∉seen)/\Z=[.row 3 1 true (YP seen),.row 3 1 true (YP D)]/\env=[(0,.pv (.sl 11 (s.l.map At.pv))),(3,.own 0),eN 4 n,(5,.own 1),eN 6 j],D.length,⟨0,⟨V,λi c h=>absurd h V⟩,rfl,rfl⟩,?_⟩;rintro m2 env Z ⟨j,⟨hj,rk⟩,rfl,rfl⟩;by_cases xJ:j<D.length
 ·obtain⟨c,F⟩:∃c,D[j]?=some c:=⟨_,zah xJ⟩
  have hgc:(YP D)[(j:Int).toNat]?=some (pI (NI c)):=by
   unfold YP;exact nH (f:=pI) (l:=D.map NI) (by rw[zaD,F];rfl)
  have hQ:alY [.sl 1 (YP seen),pI (NI c)] (NI c∈seen.map NI):=⟨seen.map NI,NI c,rfl,pd,rfl⟩
  (repeat'((conv=>whnf);first|refine ak V ?_|refine zcv ⟨V,V⟩ ?_|refine⟨_,hgc,?_⟩|refine⟨_,hQ,?_⟩|refine bu V ?_|refine dc (λ_=>?_) (λ_=>?_)|refine cT λ_=>?_|fail))
  ·rename_i T;rw[if_pos ⟨c,zag F,auJ.1 T⟩]at hg;rw[hg]at Y;exact⟨.pv (pI n),rfl,trivial,Y⟩
  ·rename_i T;refine⟨m2-1,V,j+1,⟨V,λi x W VG=>?_⟩,rfl,rfl⟩;by_cases e:i=j
   ·subst e;rw[F]at VG;cases VG;exact λh=>T (auJ.2 h)
   ·exact rk i x V VG
 ·have aB4:¬ ∃c∈D,c∈seen:=λ⟨c,U,H⟩=>by
   obtain⟨i,W⟩:=iU.1 U;exact rk i c (by have:=fo W;omega) W H
  rw[if_neg aB4]at hg;have hsn:=Zv seen;have atE:YP (seen++D)=YP seen++YP D:=by simp[YP]
  (repeat'((conv=>whnf);first|refine ar V ?_|refine zcv ⟨by rw[hsn,hDl];omega,by rw[hsn,hDl];omega⟩ ?_|refine bu V ?_|refine cT λ_=>?_|fail))
  exact⟨m-1,V,n+1,seen++D,⟨V,by rw[zad];omega,by rw[hg];rfl⟩,by rw[atE],rfl⟩
def vt{d:Dk}{a:At}(h:aI d a=0):GY a=qC a.rn.l:=by
 unfold GY;split
 ·rename_i J;have U:=(kI (iV (aL h).1.str).1).rs J;rw[List.length_eq_zero_iff.1 U.1];rfl
 ·rfl
def aaZ:∀{l m:QK},l.Nodup->l ⊆ m->l.length<=m.length
 |[],_,_,_=>by simp
 |a::l,m,hn,hs=>by
  obtain⟨U,H⟩:=zdL.1 hn;have:=aaZ (m:=m.erase a) H λx T=>(List.mem_erase_of_ne (λe:x=a=>U (e▸T))).2 (hs bP)
  grind
def al6{d:Dk}{a:At}(h:aI d a=0):(qC a.rn.l).length<=512/\a.rn.l.length<=100000∧∀r∈a.rn.l,r.s= -1\/xy r:=by
 have J:=lY h;have hl:=(bz (aL h).1.rn).1;have hd:=(df (aL h).1.dk).2.1;have hn:=V6 (λr h=>(J r h).imp id (·.1)) (lv (aL h).1.rn);refine⟨?_,V,λr EV=>(J r EV).imp id λh=>⟨h.1,h.2.1,V⟩⟩;have axn:qC a.rn.l ⊆ List.range d.n:=λc F=>by
  obtain⟨r,EV,hcr⟩:=zbB.1 F;unfold U1 at hcr
  grind
 have:=aaZ hn axn
 grind
def RD(ps:CK)(r:RV):Prop:=∃s:Sl At,ps=[ub s]/\(s.l.length<=1000000∧∀a∈s.l,a.rn.l.length<=1000000)/\r=.fresh 31 11 ((s.l.map aS).map At.pv)
def Yf:MT (ao [(10,dz false uK)]) qA (dz false RD):=by
 rintro _ K ⟨_,⟨s,rfl,⟨U,H⟩,rfl⟩,Y⟩
 (conv=>whnf)
 refine⟨λm env Z=>∃n:Nat,n+m=s.l.length/\Z=[.row 31 11 true (((s.l.take n).map aS).map At.pv)]/\env=[(0,.pv (ub s)),(3,.own 0),eN 4 n],s.l.length,⟨0,V,rfl,rfl⟩,?_⟩;rintro m env Z ⟨n,hn,rfl,rfl⟩;by_cases aM:n<s.l.length
 ·obtain⟨a,ha⟩:∃a,s.l[n]?=some a:=⟨_,zah aM⟩
  have zT:ub s=.sl 11 (s.l.map At.pv):=Sl.SW ha;have hga:=nH (f:=At.pv) ha;have hcp:uK [a.pv] _:=⟨a,rfl,H a (zag ha),rfl⟩
  have hl:(((s.l.take n).map aS).map At.pv).length=n:=aH;have ht:((s.l.take (n+1)).map aS).map At.pv=((s.l.take n).map aS).map At.pv++[(aS a).pv]:=by rw[zcM,ha];simp
  rw[zT]
  (repeat'((conv=>whnf);first|refine ak V ?_|refine⟨_,⟨V,hga⟩,?_⟩|refine⟨_,hcp,?_⟩|refine zcv ⟨IZ,IZ⟩ ?_|refine bu V ?_|refine cT λ_=>?_|refine aY ?_|fail))
  exact yQ
 ·(repeat'((conv=>whnf);first|refine tD ?_|refine ar V ?_|refine cT λ_=>?_|fail))
  rw[za1 V];exact JZ
def uf(ps:CK)(r:RV):Prop:=∃v:Vo,ps=[v.pv]/\(v.st.l.length<=1000000∧∀a∈v.st.l,a.rn.l.length<=1000000)/\r=.agg [.pv (.str v.d.aT),.pv (.str v.d.mp),.fresh 31 11 ((v.st.l.map aS).map At.pv)]
def acO:MT (ao [(73,dz false RD)]) Ii (dz false uf):=by
 rintro _ K ⟨_,⟨v,rfl,h,rfl⟩,Y⟩;have F:RD [ub v.st] _:=⟨v.st,rfl,h,rfl⟩
 (repeat'((conv=>whnf);first|refine⟨_,F,?_⟩|refine aY ?_|fail))
 exact⟨.agg [.pv _,.pv _,.fresh _ _ _],⟨rfl,rfl,⟨rfl,rfl,rfl,rfl⟩,trivial⟩,trivial,Y⟩
def HR(ps:CK)(r:RV):Prop:=∃s:Sl Sp,ps=[vu s]/\s.l.length<=1000000/\r=.fresh 117 7 (s.l.map Sp.pv)
def Sp.flat(l:List Sp):∀x∈l.map Sp.pv,x.flat:=by
 intro x T;obtain⟨m,_,rfl⟩:=zaX.1 T;intro c F;rcases F with _|⟨_,_|⟨_,_|⟨_,_|⟨_,_|⟨_,_|⟨_,_|⟨_,h⟩⟩⟩⟩⟩⟩⟩<;>first|exact trivial|cases h
def Y4:MT (ao []) xl (dz true HR):=by
 rintro _ K ⟨_,⟨s,rfl,hs,rfl⟩,Y⟩;have FJ:(s.l.map Sp.pv).length=s.l.length:=zaw _
 (repeat'((conv=>whnf);first|refine tD ?_|refine aY ?_|refine zcv bJ ?_|fail))
 exact⟨.fresh _ _ _,⟨rfl,rfl,rfl,rfl⟩,Sp.flat _,Y⟩
def voN(v:Vo):Prop:=v.st.l.length<=1000000∧∀a∈v.st.l,a.rn.l.length<=1000000
def Lt:MT (ao []) yK (ah bk):=by
 rintro _ K ⟨_,⟨d,rfl,h,rfl⟩,Y⟩
 (repeat'((conv=>whnf);first|refine QUO V ?_|fail))
 exact TT
def vZ(d:Dk):QE:=(List.range d.n).map λc=>decide (aU d.mp c=1)
def uG(d:Dk):(vZ d).length=d.n:=by simp[vZ]
def Bl(c:Nat)(o i:Int):UD->Int
 |[]=>o
 |a::r=>Bl c (if c∈GY a then i else o) (i+1) r
def owR(v:Vo):OG:=(List.range v.d.n).map λc=>Bl c (qL v.d c) 0 v.st.l
def asi(v:Vo):(owR v).length=v.d.n:=by simp[owR]
def Zg{v:Vo}{c:Nat}(h:c<v.d.n):(owR v)[c]?=some (Bl c (qL v.d c) 0 v.st.l):=by
 unfold owR;rw[zaD,zbD h];rfl
def BN.n8{v:Vo}(h:BN v):v.d.n<=512/\v.d.n<=8*v.d.mp.length/\v.d.mp.length<=1000000/\v.d.aT.length<=1000000:=by
 obtain⟨U,H,h3⟩:=df h.dk;obtain⟨_,_,b3,b4,_⟩:=lj h3;have:=h.b.1;unfold dkB at this;refine⟨H,?_,this.2,this.1⟩;unfold vz at b4;omega
def Zn(d:Dk):UH:=Db (λc=>¬aU d.mp c=1) d.n
def as8{v:Vo}{m:Mv}(h:jN v m=0):0<=m.k/\m.k<=(v.st.l.length:Int)-1/\Cc v.d (fB v m.k) m.p m.t=0:=by
 unfold jN at h;split at h
 ·exact pf
 ·rename_i g;exact⟨(zcN.1 g).1,(zcN.1 g).2,h⟩
def acR(v:Vo)(i:Int)(h:0<=i/\i<=(v.st.l.length:Int)-1):fB (aV v) i=aS (fB v i):=by
 obtain⟨b,I⟩:∃b,v.st.l[i.toNat]?=some b:=⟨_,zah V⟩
 unfold fB;rw[show(aV v).st.l=v.st.l.map aS from rfl,zaD,I];rfl
def Is(v:Vo):aV (aV v)=aV v:=by
 unfold aV;simp only[show(Sl.sl (v.st.l.map aS)).l=v.st.l.map aS from rfl,List.map_map];rfl
def aaY{d:Dk}:∀{l:UD} {o:OG} {i:Int},(wz d o i l).2=0→∀c,(L4 o i l)[c]?.getD 0=Bl c (o[c]?.getD 0) i l
 |[],o,i,_,c=>rfl
 |a::l,o,i,h,c=>by
  obtain⟨h0,o',ho,H⟩:=Pc h;have e1:L4 o i (a::l)=L4 o' (i+1) l:=by
   show L4 ((KP o i (qC a.rn.l)).getD o) _ _=_
   grind
  have e2:Bl c (o[c]?.getD 0) i (a::l)=Bl c (if c∈GY a then i else o[c]?.getD 0) (i+1) l:=rfl;rw[e1,e2,aaY H c,O_ ho c,vt h0]
def ajZ{v:Vo}(h:BN v):eW v=owR v:=by
 have U:=oz v;have H:=asi v;refine zbb λc=>?_
 by_cases F:c<v.d.n
 ·rw[Zg F];have h3:=aaY h.ch c;have h4:(xx v.d)[c]?.getD 0=qL v.d c:=by
   unfold xx;grind
  rw[h4]at h3;have h5:(eW v)[c]?=some ((eW v)[c]?.getD 0):=by
   grind
  rw[h5];exact congrArg some h3
 grind
def aoa{d:Dk}{a:At}(h:aI d a=0){c:Nat}(F:c∈qC a.rn.l):aU d.mp c=1/\c<d.n:=by
 have J:=lY h;have hp:=(Ai λr eI=>(J r eI).imp id (·.1)).1 F;exact⟨nq h hp,by
  obtain⟨r,EV,hcr⟩:=zbB.1 F;unfold U1 at hcr
  grind⟩
def VO{c:Nat}:∀{l:UD} {o i:Int},(∀a∈l,c∉GY a)->Bl c o i l=o
 |[],_,_,_=>rfl
 |a::l,o,i,h=>by
  show Bl c (if c∈GY a then i else o) (i+1) l=o;rw[if_neg (h a ab)];exact VO λx T=>h x bP
def VZ{c:Nat}:∀{l:UD} {o i:Int},0<=i->((∃a∈l,c∈GY a)\/0<=o)->0<=Bl c o i l
 |[],_,_,_,h=>h.elim (λ⟨_,h,_⟩=>bc) id
 |a::l,o,i,W,h=>by
  show 0<=Bl c (if c∈GY a then i else o) (i+1) l;refine VZ V ?_
  grind
def aoo{v:Vo}(h:BN v){c:Nat}(F:c<v.d.n):(∃a∈v.st.l,c∈GY a)/\aU v.d.mp c=1/\0<=Bl c (qL v.d c) 0 v.st.l\/(∀a∈v.st.l,c∉GY a)/\Bl c (qL v.d c) 0 v.st.l=qL v.d c:=by
 by_cases g:∃a∈v.st.l,c∈GY a
 ·left;refine⟨g,?_,VZ V (.inl g)⟩;obtain⟨a,ha,hca⟩:=g;rw[vt (h.op a ha)]at hca;exact(aoa (h.op a ha) hca).1
 ·right;have g2:=λa ha hca=>g ⟨a,ha,hca⟩
  exact⟨g2,VO g2⟩
def amo{v:Vo}(h:BN v){c:Nat}(F:c<v.d.n):(eW v)[c]?=some (-1)↔¬aU v.d.mp c=1:=by
 rw[ajZ h,Zg F];have I:qL v.d c=if aU v.d.mp c=1 then-2 else-1:=rfl
 rcases aoo h F with⟨_,H,h3⟩|⟨_,H⟩
 ·grind
 grind
def WW{P Q:Nat->Prop}:∀n,(∀c,c<n->(P c↔Q c))->Db P n=Db Q n
 |0,_=>rfl
 |n+1,h=>by
  have ih:=WW n λc F=>h c V
  by_cases g:P n
  ·rw[Ao g,Ao ((h n V).1 g),ih]
  ·rw[uh g,uh (λk=>g ((h n V).2 k)),ih]
def ahi{d:Dk}:∀(l:UD) (o:OG) (i:Int),wz d o i (l.map aS)=wz d o i l
 |[],_,_=>rfl
 |a::l,o,i=>by
  rw[List.map_cons];unfold wz;rw[Pb,azL];split
  ·rfl
  ·split
   ·rfl
   ·exact ahi l _ _
def apC(v:Vo):LC (aV v)=LC v:=by
 unfold LC;rw[show(aV v).st.l=v.st.l.map aS from rfl,zaw,ahi];rfl
def Px(v:Vo):Av (aV v)=Av v:=by unfold Av;rw[apC]
def JK{v:Vo}(h:Un v):Un (aV v):=by
 refine⟨h.1,λa ha=>?_,by show(v.st.l.map aS).length<=_;rw[zaw];exact h.2.2⟩;obtain⟨b,I,rfl⟩:=zaX.1 (show a∈v.st.l.map aS from ha);exact h.2.1 b I
section
def aay(v:Vo)(d:Dk):Vo:=⟨d,.sl (v.st.l.map aS)⟩
def GN(v:Vo)(c:Nat):Prop:=∀k,c<=k->k<v.d.n→¬aU v.d.mp k=1
open Classical in
def mS(v:Vo)(c:Nat):Vo:=if GN v c then aay v ⟨v.d.aT.take (c*256),gm ((vZ v.d).take c)⟩else zVo
def akV{d:Dk}{c:Nat}(h:c<d.n):(vZ d)[c]?=some (decide (aU d.mp c=1)):=by
 unfold vZ;rw[zaD,zbD h];rfl
end
def BN.N{v:Vo}(h:BN v):voN v:=⟨h.b.2.2,λa ha=>by have:=(h.rb ha).1;omega⟩
def NA(v:Vo)(c:Nat):QE:=vZ v.d++List.replicate (c-v.d.n) false
def uw(v:Vo)(c:Nat):Vo:=aay v ⟨v.d.aT++aC ((c-v.d.n)*256),gm (NA v c)⟩
def awW(v:Vo)(t:Rn)(k:Nat):Nat:=(((List.range' t.s.toNat k).filter λc=>decide (0<=(owR v)[c]?.getD 0)).length)
def as1(v:Vo)(t:Rn)(k:Nat):awW v t k<=k:=by
 unfold awW;have:=zda (λc=>decide (0<=(owR v)[c]?.getD 0)) (List.range' t.s.toNat k);rw[zdC]at this;exact this
def asZ{d:Dk}{a:At}{p:Int}{tr:Rn}(he:Cc d a p tr=0):my d tr∧∀c:Nat,tr.s<=c->(c:Int)<tr.s+tr.n→¬aU d.mp c=1:=by
 have hm:MD (aj d a) p tr=0:=by
  unfold Cc at he;omega
 unfold MD at hm;split at hm
 ·omega
 split at hm
 ·omega
 rename_i b_;have b_:=zcN.1 b_;split at hm
 ·omega
 split at hm
 ·omega
 split at hm
 ·omega
 rename_i hbz;unfold L8 at b_;have hd:(aj d a).d=d:=rfl;refine⟨⟨b_.2.1,b_.2.2⟩,λc U H I=>hbz ?_⟩;rw[iU];refine⟨c-tr.s.toNat,?_⟩;rw[zcV V,zaB,bw V];unfold db
 grind
def ahE{b:Nat->Bool}{pl:OG}{p:Int}{tr:Rn}{c:Nat}:∀k:Nat,AY b pl p tr k c=true->b c=true∨∃j:Nat,j<k/\c=(tr.s+j).toNat
 |0,h=>.inl h
 |k+1,h=>by
  unfold AY at h;split at h
  ·grind
  ·split at h
   ·cases h
   ·rcases ahE k h with h|⟨j,hj,e⟩
    ·grind
    grind
def ahY{B:P8}{pl:OG}{p:Int}{tr:Rn}{c:Nat}(h:∀k:Nat,(k:Int)<tr.n->0<=tr.s+k/\(tr.s+k+1)*256<=B.length/\((pl[p.toNat+k]?.getD 0).toNat+1)*256<=B.length)(F:256*(c+1)<=B.length)(ho:∀j:Nat,(j:Int)<tr.n->c≠(tr.s+j).toNat):
 ∀k:Nat,(k:Int)<=tr.n->ee (HG B pl p tr k) c=ee B c
 |0,_=>rfl
 |k+1,E=>by
  obtain⟨g1,g2,g3⟩:=h k V;have hl:=O6 h k V;have ih:=ahY h F ho k V;show ee (He (HG B pl p tr k) (tr.s+(k:Int)).toNat (ee B (pl[p.toNat+k]?.getD 0).toNat)) c=_;rw[P6 V (kp V) V,if_neg (ho k V),ih]
def atq{d:Dk}{a:At}{p:Int}{tr:Rn}(hd:D8 d)(hn:a.nm.length<=1000000)(he:Cc d a p tr=0):
 (∀c:Nat,c<d.n→¬(tr.s<=c/\(c:Int)<tr.s+tr.n)->ee (MW d a p tr).aT c=ee d.aT c)∧∀c:Nat,c<d.n->aU (MW d a p tr).mp c=1->aU d.mp c=1\/(tr.s<=c/\(c:Int)<tr.s+tr.n):=by
 have h0:=rU he;obtain⟨hp,_⟩:=asZ he;unfold my at hp;have hm:MD (aj d a) p tr=0:=by
  unfold Cc at he;rw[if_neg (λh=>h h0)]at he;split at he
  ·rename_i g;exact absurd he g
  ·rename_i g;exact DT
 have hD:MW d a p tr=⟨HG d.aT (aq a.rn.l) p tr tr.n.toNat,gm (cJ (AY (db d) (aq a.rn.l) p tr tr.n.toNat) d.n)⟩:=by
  unfold MW;rw[if_neg (λh=>h he)]
 rw[hD];have qk:=(aL h0).1.pl;have hdn:d.n=d.aT.length/256:=rfl;have tj:∀k:Nat,(k:Int)<tr.n->0<=tr.s+k/\(tr.s+k+1)*256<=d.aT.length/\(((aq a.rn.l)[p.toNat+k]?.getD 0).toNat+1)*256<=d.aT.length:=λk E=>by
  refine⟨V,V,?_⟩;cases T:(aq a.rn.l)[p.toNat+k]? with
  |none=>simp only[Option.getD_none];omega
  |some x=>
   rcases qk x (zag T)with g|g
   ·subst g;simp only[zbE];omega
   ·simp only[zbE];omega
 constructor
 ·intro c F ho;exact ahY tj V (λj hj e=>ho V) tr.n.toNat V
 ·intro c F I;have e:aU (gm (cJ (AY (db d) (aq a.rn.l) p tr tr.n.toNat) d.n)) c=jS (AY (db d) (aq a.rn.l) p tr tr.n.toNat c):=by
   unfold gm;rw[b8,rF (λi=>zp _),if_pos F,bw F];rfl
  have I:aU (gm (cJ (AY (db d) (aq a.rn.l) p tr tr.n.toNat) d.n)) c=1:=I;rw[e]at I;have ht:AY (db d) (aq a.rn.l) p tr tr.n.toNat c=true:=by
   cases g:AY (db d) (aq a.rn.l) p tr tr.n.toNat c with
   |true=>rfl
   |false=>rw[g]at I;exact absurd I ai
  rcases ahE _ ht with g|⟨j,hj,e⟩
  ·exact .inl (of_decide_eq_true g)
  ·exact .inr V
def asN(l:UH)(c:Int):aF (frS l c)=aF l+1:=by
 rcases zdu l with rfl|⟨p,q,rfl⟩
 ·rfl
 ·simp only[zdv];rw[CL];split
  ·rw[pE,pE];show _+(q.n+1+0)=_+(q.n+0)+1;omega
  ·rw[pE];rfl
def ah4(s:P8):∀n:Nat,aF (Db (λc=>¬aU s c=1) n)+(iq s n:Int)=n
 |0=>rfl
 |n+1=>by
  have ih:=ah4 s n;have I:=fV s n;have e:iq s (n+1)=iq s n+aU s n:=rfl;by_cases g:aU s n=1
  ·rw[uh (λk=>k g)];omega
  ·rw[Ao g,asN];omega
def abS(d:Dk):aF (Zn d)=d.n-(iq d.mp d.n:Int):=by
 have:=ah4 d.mp d.n;unfold Zn;omega
def ag2(P:Nat->Prop):∀n:Nat,(∀c:Nat,(∃r∈Db P n,HH r c=true)↔c<n/\P c)/\(Db P n).Pairwise (λa b=>∀i,¬(HH a i=true/\HH b i=true))
 |0=>by
  refine⟨λc=>⟨λh=>?_,λh=>absurd h.1 V⟩,.nil⟩;obtain⟨r,J,_⟩:=h;cases J
 |n+1=>by
  obtain⟨U,H⟩:=ag2 P n;by_cases g:P n
  case neg=>
   rw[uh g]
   grind
  rw[Ao g];have I:=(Nc P n).1;generalize Db P n=l at*;have ff:∀c:Nat,HH (⟨(n:Int),1⟩:Rn) c=true↔c=n:=λc=>by
   unfold HH;grind
  rcases zdu l with rfl|⟨p,q,rfl⟩
  ·rw[Pg];refine⟨λc=>?_,List.pairwise_singleton _ _⟩;have h1c:=U c;simp only[List.mem_singleton,exists_eq_left,ff]
   grind
  ·simp only[zdv]at*;rw[CL];have hq:=I q ab;split
   ·rename_i e;have T:∀c:Nat,HH (⟨q.s,q.n+1⟩:Rn) c=true↔HH q c=true\/c=n:=λc=>by
     unfold HH;grind
    grind
   grind
def ag8{a b:P8}{n:Nat}(ha:gP a n=0)(I:gP b n=0)(h:∀c,c<n->(aU a c=1↔aU b c=1)):a=b:=by
 obtain⟨a1,a2,a3,a4,a5⟩:=lj ha;obtain⟨b1,b2,b3,b4,b5⟩:=lj I;have hl:a.length=b.length:=V;refine VY hl λi W=>?_
 by_cases F:i<n
 ·have U:=fV a i;have H:=fV b i
  grind
 grind
def afP(B:Int)(r:Rn):Prop:=0<=r.s/\0<=r.n/\r.s+r.n<=B
def aw8{B:Int}{acc:UH}{r:Rn}(h:∀q∈acc,afP B q)(J:r.s= -1\/afP B r):∀q∈pcS acc r,afP B q:=by
 by_cases hs:r.s= -1
 ·unfold pcS;grind
 rcases zdu acc with rfl|⟨p,q,rfl⟩
 ·rw[HU hs];grind
 ·rw[zdv]at h ⊢;rw[DA hs];unfold afP at*
  grind
def awa{B:Int}{l:UH}(h:∀r∈l,r.s= -1\/afP B r):∀n,(∀q∈KO (l.take n),afP B q)/\(KO (l.take n)).length<=n:=by
 intro n
 induction n with
 |zero=>exact⟨λq hq=>absurd hq (by simp[KO]),by simp[KO]⟩
 |succ n ih=>
  by_cases aM:n<l.length
  ·obtain⟨r,J⟩:∃r,l[n]?=some r:=⟨_,zah aM⟩
   rw[TK J];refine⟨aw8 ih.1 (h r (zag J)),?_⟩;generalize KO (l.take n)=acc at*;by_cases hs:r.s= -1
   ·unfold pcS;grind
   rcases zdu acc with rfl|⟨p,q,rfl⟩
   ·rw[HU hs];simp
   ·rw[zdv]at ih ⊢;rw[DA hs]
    grind
  ·rw[za1 V];rw[za1 V]at ih
   grind
def Up(i at_:Int):UH->XM
 |[]=>[]
 |r::l=>⟨i,r.s,⟨at_,r.n⟩⟩::Up i (at_+r.n) l
def onR(v:Vo)(i:Int):UH:=fQ (aF (KO (fB v i).rn.l)) (Db (LP v λ_=>True) (eW v).length)
def onS(v:Vo)(i:Int):XM:=match onR v i with
 |[]=>[]
 |b::l=>Up i (kP b l).s (O0 (fB v i))
def ZV(v:Vo)(i:Int):Int:=if oiE v i≠0 then oiE v i else if (KO (fB v i).rn.l).length<=1 then 0 else if onR v i=[]then 16 else lk v (.sl (onS v i))
def Zj(v:Vo)(i:Int):XM:=if oiE v i≠0\/(KO (fB v i).rn.l).length<=1\/ZV v i≠0 then[]else onS v i
def GH(ps:CK)(r:RV):Prop:=∃(v:Vo) (i:Int),ps=[v.pv,pI i]/\Un v/\r=.tup [.pv (.sl 4 ((Zj v i).map Mv.pv)),.pv (pI (ZV v i))]
def auD{a:At}(h:dv a.rn.l=0):(O0 a).length<=4096∧∀r∈O0 a,0<=r.s/\1<=r.n/\r.s+r.n<=4096:=by
 have U:=(auS h).1;unfold O0;split
 ·have H:=jr (FY (aq a.rn.l)) (aq a.rn.l).length
  grind
 simp
def QO:MT (ao [(80,dz false Tn),(81,dz true L9),(82,ah TL),(85,dU ag4),(84,dz true JO),(86,dU aiw),(83,lZ V_),(88,ah Ng),(87,amh),(89,dz true Rv),(90,dz false AR)]) sA (dz false GH):=by
 rintro _ K ⟨_,⟨v,i,rfl,U,rfl⟩,Y⟩;have ho:Tn [v.pv,pI i] _:=⟨v,i,rfl,U,rfl⟩
 unfold Zj at Y;by_cases hE:oiE v i=0
 case neg=>
  have e:ZV v i=oiE v i:=by unfold ZV;rw[if_pos hE]
  rw[if_pos (.inl hE),e]at Y
  (repeat'((conv=>whnf);first|refine⟨_,ho,?_⟩|(refine ak hE ?_)|refine aY ?_|fail))
  exact PU
 have pQ:Av v=0:=by
  apply Classical.byContradiction;intro g;unfold oiE at hE;rw[if_pos g]at hE;exact g hE
 have W:0<=i/\i<=(v.st.l.length:Int)-1:=by
  apply Classical.byContradiction;intro g;unfold oiE at hE;rw[if_neg (λh=>h pQ),if_neg g]at hE;exact absurd hE ai
 have E:=rA U pQ;obtain⟨b,I⟩:∃b,v.st.l[i.toNat]?=some b:=⟨_,zah V⟩
 have eb:fB v i=b:=yB;have hbo:=aL (E.op b (zag I));have lV:=bz hbo.1.rn;have aIb:=(df E.dk).2.1;have hon:=lY (E.op b (zag I));have hpp:L9 [v.pv,pI i] _:=⟨v,i,b,rfl,⟨W.1,I,V,λr J=>by rcases hon r J with h|⟨h,h',h''⟩;exact .inl h;exact .inr ⟨h,h',V⟩⟩,rfl⟩
 have hpb:=awa (B:=v.d.n) hon b.rn.l.length;rw[zcP]at hpb;have qk:((KO b.rn.l).map Rn.pv).length=(KO b.rn.l).length:=zaw _;by_cases ff:(KO b.rn.l).length<=1
 ·have e:ZV v i=0:=by unfold ZV;rw[if_neg (λh=>h hE),eb,if_pos ff]
  rw[if_pos (.inr (.inl (by rw[eb];exact ff))),e]at Y
  (repeat'((conv=>whnf);first|refine⟨_,ho,?_⟩|(refine ar (λh=>h hE) ?_)|refine⟨_,hpp,?_⟩|refine ak V ?_|refine cT λ_=>?_|refine aY ?_|fail))
  exact⟨[.pv (.sl 4 []),.pv (pI 0)],⟨rfl,rfl,trivial⟩,trivial,Y⟩
 have ZZ:TL [.sl 2 ((KO b.rn.l).map Rn.pv)] _:=⟨_,rfl,⟨V,λr J=>by have:=hpb.1 r J;unfold afP at this;omega⟩,rfl⟩
 have KJ:JO [v.pv,.clo 85 []] _:=⟨v,_,_,rfl,⟨E,.any⟩,rfl⟩
 have hoR:onR v i=fQ (aF (KO b.rn.l)) (Db (LP v λ_=>True) (eW v).length):=by unfold onR;rw[eb]
 (repeat'((conv=>whnf);first|refine⟨_,ho,?_⟩|(refine ar (λh=>h hE) ?_)|refine⟨_,hpp,?_⟩|refine ar V ?_|refine⟨_,ZZ,?_⟩|refine⟨_,KJ,?_⟩|refine cT λ_=>?_|refine aY ?_|fail))
 have PB:(Db (LP v λ_=>True) (eW v).length).length<=1000000:=by
  have:=(Nc (LP v λ_=>True) (eW v).length).2;have:=oz v;omega
 have hFb:∀q∈Db (LP v λ_=>True) (eW v).length,0<=q.s/\q.s<=1000000:=λq hq=>by
  have:=(Nc (LP v λ_=>True) (eW v).length).1 q hq;have:=oz v;omega
 generalize Db (LP v λ_=>True) (eW v).length=hc at*;generalize aF (KO b.rn.l)=k_ at*;have hd:Rv [b.pv] _:=⟨b,rfl,U.2.1 b (zag I),rfl⟩
 have zT:ub v.st=.sl 11 (v.st.l.map At.pv):=by
  cases h:v.st with
  |nil=>rw[h]at I;cases I
  |sl l=>rfl
 have hgb:(v.st.l.map At.pv)[i.toNat]?=some b.pv:=Ie;refine⟨true,_,_,rfl,rfl,PB,λhid=>?_,λR k ht xG=>?_⟩
 ·rw[hid]at hoR;rw[zT];cases hc with
  |nil=>
   have e:ZV v i=16:=adg;rw[e,if_pos (.inr (.inr ai))]at Y
   (repeat'((conv=>whnf);first|refine ak rfl ?_|refine cT λ_=>?_|fail))
   exact QM
  |cons q l=>
   have hlq:((q::l).map Rn.pv).length=l.length+1:=ab;have hll:l.length<=1000000:=by simp at PB;omega
   (repeat'((conv=>whnf);first|refine ar (by rw[zap];omega) ?_|refine⟨q,l,rfl,hll,?_⟩|refine⟨_,⟨W.1,hgb⟩,?_⟩|refine⟨_,hd,?_⟩|refine cT λ_=>?_|fail))
   have hA:0<=(kP q l).s/\(kP q l).s<=1000000:=by
    have:=hFb (kP q l) aaq;omega
   have hLs:onS v i=Up i (kP q l).s (O0 b):=by unfold onS;rw[hoR,eb]
   have eE:ZV v i=lk v (.sl (Up i (kP q l).s (O0 b))):=by
    unfold ZV;rw[if_neg (λh=>h hE),eb,if_neg ff,if_neg (by rw[hoR];exact λh=>nomatch h),hLs]
   have eL:(if oiE v i≠0\/(KO (fB v i).rn.l).length<=1\/ZV v i≠0 then[]else onS v i)=if lk v (.sl (Up i (kP q l).s (O0 b)))≠0 then[]else Up i (kP q l).s (O0 b):=by
    rw[eE,hLs];by_cases g:lk v (.sl (Up i (kP q l).s (O0 b)))=0
    ·rw[if_neg abn,if_neg (λh=>h g)]
    ·rw[if_pos (.inr (.inr g)),if_pos g]
   rw[eL,eE]at Y;have hDl:=auD hbo.1.rn;have hDm:((O0 b).map Rn.pv).length=(O0 b).length:=zaw _;generalize (kP q l).s=A at*;generalize hDD:O0 b=D at*;refine⟨λm env Z=>∃(n:Nat) (a:Int) (M:XM),(n+m=D.length/\M.length=n/\M++Up i a (D.drop n)=Up i A D/\0<=a/\a<=1000000+4096*n)/\Z=[.box 128 [.pv (.str v.d.aT),.pv (.str v.d.mp),.pv (.sl 11 (v.st.l.map At.pv))],.row 146 4 true (M.map Mv.pv),.row 103 2 true (D.map Rn.pv)]/\
    env=[eN 1 i,(6,.ref 0 0 0),eN 11 a,(14,.own 1),(53,.own 2),eN 54 D.length,eN 55 n],D.length,⟨0,A,[],⟨V,rfl,rfl,V,V⟩,rfl,rfl⟩,?_⟩
   rintro m env Z ⟨n,a,M,⟨hn,hMl,hM,ha0,ha1⟩,rfl,rfl⟩;have hMm:(M.map Mv.pv).length=M.length:=zaw _;by_cases aM:n<D.length
   ·obtain⟨x,T⟩:∃x,D[n]?=some x:=⟨_,zah aM⟩
    have hgx:(D.map Rn.pv)[(n:Int).toNat]?=some x.pv:=CB;have hxb:=hDl.2 x (zag T);rw[drop_cons T]at hM;have hM2:(M++[⟨i,x.s,⟨a,x.n⟩⟩])++Up i (a+x.n) (D.drop (n+1))=Up i A D:=by rw[<-hM,zaj];rfl
    (repeat'((conv=>whnf);first|refine ak V ?_|refine zcv ⟨zO,zO⟩ ?_|refine bu V ?_|refine ox az ?_|refine UF V ?_|refine aY ?_|fail))
    exact⟨m-1,V,n+1,a+x.n,M++[⟨i,x.s,⟨a,x.n⟩⟩],⟨V,by simp[hMl],hM2,V,V⟩,sv,rfl⟩
   ·rw[zdt V]at hM;have hMe:Up i A D=M:=by rw[<-hM];exact zbg M
    rw[hMe]at Y;have Pz:AR [.agg [.str v.d.aT,.str v.d.mp,.sl 11 (v.st.l.map At.pv)],.sl 4 (M.map Mv.pv)] _:=⟨v,.sl M,by unfold Vo.pv;rw[zT];rfl,⟨R8 U pQ,by show M.length<=_;omega⟩,rfl⟩
    have e:(if lk v (.sl M)≠0 then PV.sl 4 []else G7 (.sl M))=.sl 4 ((if lk v (.sl M)≠0 then[]else M).map Mv.pv):=by split<;>rfl
    rw[e]at Pz
    (repeat'((conv=>whnf);first|refine ar V ?_|refine⟨_,Pz,?_⟩|fail))
    exact QL
 ·rw[<-ht]at hoR;rw[zT];have hkl:(R.take k).length=k:=gA;have HE:cut 0 (0+k) (R.map Rn.pv)=(R.take k).map Rn.pv:=by unfold cut;rw[Nat.zero_add,zdc,List.map_take]
  have hFk:(R.take k).length<=1000000:=by rw[ht];exact zam (zda _ _) PB
  have hFc:∀x∈R.take k,0<=x.s/\x.s<=1000000:=λx T=>by rw[ht]at T;exact hFb x (zbq.1 T).1
  generalize hT:R.take k=hx at*;cases hx with
  |nil=>
   have e:ZV v i=16:=adg;have hk0:k=0:=by simpa using hkl.symm
   rw[e,if_pos (.inr (.inr ai))]at Y
   (repeat'((conv=>whnf);first|refine ak (by rw[HE];rfl) ?_|refine cT λ_=>?_|refine HI ?_|fail))
   exact QM
  |cons q l=>
   have hlq:((q::l).map Rn.pv).length=l.length+1:=ab;rw[zap]at hkl hFk;have hll:l.length<=1000000:=V;have hA:0<=(kP q l).s/\(kP q l).s<=1000000:=hFc (kP q l) aaq
   (repeat'((conv=>whnf);first|refine ar (by rw[HE,hlq];omega) ?_|refine⟨q,l,by rw[HE],hll,?_⟩|refine⟨_,⟨W.1,hgb⟩,?_⟩|refine⟨_,hd,?_⟩|refine cT λ_=>?_|refine zcv bJ ?_|fail))
   have hLs:onS v i=Up i (kP q l).s (O0 b):=by unfold onS;rw[hoR,eb]
   have eE:ZV v i=lk v (.sl (Up i (kP q l).s (O0 b))):=by
    unfold ZV;rw[if_neg (λh=>h hE),eb,if_neg ff,if_neg (by rw[hoR];exact λh=>nomatch h),hLs]
   have eL:(if oiE v i≠0\/(KO (fB v i).rn.l).length<=1\/ZV v i≠0 then[]else onS v i)=if lk v (.sl (Up i (kP q l).s (O0 b)))≠0 then[]else Up i (kP q l).s (O0 b):=by
    rw[eE,hLs];by_cases g:lk v (.sl (Up i (kP q l).s (O0 b)))=0
    ·rw[if_neg abn,if_neg (λh=>h g)]
    ·rw[if_pos (.inr (.inr g)),if_pos g]
   rw[eL,eE]at Y;have hDl:=auD hbo.1.rn;have hDm:((O0 b).map Rn.pv).length=(O0 b).length:=zaw _;generalize (kP q l).s=A at*;generalize hDD:O0 b=D at*;refine⟨λm env Z=>∃(n:Nat) (a:Int) (M:XM),(n+m=D.length/\M.length=n/\M++Up i a (D.drop n)=Up i A D/\0<=a/\a<=1000000+4096*n)/\Z=[.box 128 [.pv (.str v.d.aT),.pv (.str v.d.mp),.pv (.sl 11 (v.st.l.map At.pv))],.row 146 4 true (M.map Mv.pv),.row 103 2 true (D.map Rn.pv)]/\
    env=[eN 1 i,(6,.ref 0 0 0),eN 11 a,(14,.own 1),(53,.own 2),eN 54 D.length,eN 55 n],D.length,⟨0,A,[],⟨V,rfl,rfl,V,V⟩,rfl,rfl⟩,?_⟩
   rintro m env Z ⟨n,a,M,⟨hn,hMl,hM,ha0,ha1⟩,rfl,rfl⟩;have hMm:(M.map Mv.pv).length=M.length:=zaw _;by_cases aM:n<D.length
   ·obtain⟨x,T⟩:∃x,D[n]?=some x:=⟨_,zah aM⟩
    have hgx:(D.map Rn.pv)[(n:Int).toNat]?=some x.pv:=CB;have hxb:=hDl.2 x (zag T);rw[drop_cons T]at hM;have hM2:(M++[⟨i,x.s,⟨a,x.n⟩⟩])++Up i (a+x.n) (D.drop (n+1))=Up i A D:=by rw[<-hM,zaj];rfl
    (repeat'((conv=>whnf);first|refine ak V ?_|refine zcv ⟨zO,zO⟩ ?_|refine bu V ?_|refine ox az ?_|refine UF V ?_|refine aY ?_|fail))
    exact⟨m-1,V,n+1,a+x.n,M++[⟨i,x.s,⟨a,x.n⟩⟩],⟨V,by simp[hMl],hM2,V,V⟩,sv,rfl⟩
   ·rw[zdt V]at hM;have hMe:Up i A D=M:=by rw[<-hM];exact zbg M
    rw[hMe]at Y;have Pz:AR [.agg [.str v.d.aT,.str v.d.mp,.sl 11 (v.st.l.map At.pv)],.sl 4 (M.map Mv.pv)] _:=⟨v,.sl M,by unfold Vo.pv;rw[zT];rfl,⟨R8 U pQ,by show M.length<=_;omega⟩,rfl⟩
    have e:(if lk v (.sl M)≠0 then PV.sl 4 []else G7 (.sl M))=.sl 4 ((if lk v (.sl M)≠0 then[]else M).map Mv.pv):=by split<;>rfl
    rw[e]at Pz
    (repeat'((conv=>whnf);first|refine ar V ?_|refine⟨_,Pz,?_⟩|refine⟨_,Pz,?_⟩|fail))
    exact QL
def Zl{r:Rn}{k:Nat}:HH r k=true↔r.s<=k/\(k:Int)<r.s+r.n:=by unfold HH;simp
def asu{b:At}{l:OG}(h:iW b=0)(fx:b.rs=false)(hf:b.ft=0)(I:∀x∈l,x= -1\/(0<=x/\x<512))(hd:sU l)(hl:l.length<=128)(hn:(gT l).length<=64):iW { b with rn:=.sl (gT l) }=0:=by
 have ok:=kI h;obtain⟨o1,o2,o3,o4,o5,o6,o7⟩:=ok.ot fx;have J:=Wo I hd V hn;have nj:∀a∈l,-1<=a/\a<=1000000:=λa ha=>by rcases I a ha with h|h<;>omega
 have hq:=(Y2 nj l.length).2;rw[zcP]at hq;have hs:=sb (l:=gT l) (λr J=>by have:=(hq r J).1;omega);rw[zh nj]at hs;have E:Dx { b with rn:=.sl (gT l) }=0:=by
  show(if b.rs=true then Aq _ else xU { b with rn:=.sl (gT l) })=0;rw[if_neg lI];unfold xU;show(if b.ty∈Tv then(20:Int)else if b.vl≠[]then 3 else if ¬(0<=b.ft/\b.ft<=4096)then 2 else
   if dv (gT l)≠0 then dv (gT l)else if 0<b.ft/\(gT l).length=0 then 17 else
   if 4096<b.ft+aF (gT l)then 8 else if 0<b.ft∧¬(b.al=0/\b.sz=0/\b.vd=0)then 3 else
   if ¬nn b then 2 else if b.sz<b.vd then 9 else 0)=0
  rw[if_neg o1,if_neg (λg=>g o2),if_neg (λg=>g o3),J,if_neg (λg=>g rfl),if_neg V,if_neg V,if_neg V,if_neg (λg=>g o6),if_neg V]
 have hw:(NJ { b with rn:=.sl (gT l) }).length<=440:=by
  rw[TW (a:={ b with rn:=.sl (gT l) }) fx];have U:=iK (40+b.nm.length);have hbd:(y3 { b with rn:=.sl (gT l) }).length<=321:=by
   show(if b.rs=true then b.vl else rr (gT l)).length<=321;rw[if_neg lI];unfold rr;have:=H2 (gT l) _ (zai _);rw[zad,za2];omega
  have hnm:=ok.nmL;have e1:atN { b with rn:=.sl (gT l) }=EK (40+b.nm.length):=by
   show EK ((if b.rs=true then 24 else 40)+b.nm.length)=_;rw[if_neg lI]
  have H:=iK (atN { b with rn:=.sl (gT l) }+(y3 { b with rn:=.sl (gT l) }).length);show EK (atN { b with rn:=.sl (gT l) }+(y3 { b with rn:=.sl (gT l) }).length)<=440;omega
 unfold iW;rw[if_neg,if_neg V];refine λh=>h ?_
 unfold Lz;rw[if_neg,if_neg,if_neg,E]
 ·exact λh=>h ok.idf
 ·exact λh=>h ok.nm
 ·exact λh=>h ok.NB
def akY{l:OG}(h:∀x∈l,x≠ -1):br l=l.length:=by
 unfold br
 simp_all
def amR{l:UH}(h:∀r∈l,0<=r.n):0<=aF l:=by
 induction l with
 |nil=>decide
 |cons r l ih=>
  have U:=h r ab;have H:=ih λx T=>h x bP
  rw[dH];omega
structure MvR(w:Vo)(i:Nat)(b:At)(p m:Nat)(s:Int)(x:Vo):Prop where
 g:sS x
 Vt:Y9 x=Y9 w
 n:x.d.n=w.d.n
 fr:aF (Zn x.d)=aF (Zn w.d)
 st:x.st.l=w.st.l.set i { b with rn:=.sl (gT (tB (aq b.rn.l) p ⟨s,m⟩ m)) }
 bit:∀c:Nat,c<w.d.n->aU x.d.mp c=1->aU w.d.mp c=1\/(s<=c/\(c:Int)<s+m)
 pl:aq (gT (tB (aq b.rn.l) p ⟨s,m⟩ m))=tB (aq b.rn.l) p ⟨s,m⟩ m
def arq{w:Vo}{i p m:Nat}{s:Int}{b:At}(hw:sS w)(I:w.st.l[i]?=some b)(hbr:b.rs=false)(hm1:1<=m)(H:p+m<=(aq b.rn.l).length)
 (h4:∀k,p<=k->k<p+m->FY (aq b.rn.l) k=true) (hs:0<=s) (hsn:s+m<=w.d.n) (ayr:∀c:Nat,s<=c->(c:Int)<s+m→¬aU w.d.mp c=1):
 ((gT (tB (aq b.rn.l) p ⟨s,m⟩ m)).length<=64->jN w ⟨i,p,⟨s,m⟩⟩=0/\MvR w i b p m s (jm w ⟨i,p,⟨s,m⟩⟩))/\
 (¬(gT (tB (aq b.rn.l) p ⟨s,m⟩ m)).length<=64->jN w ⟨i,p,⟨s,m⟩⟩=8):=by
 have Xp:=(zaa.1 I).1;have hbm:=zag I;obtain⟨o1,o2,o3,o4⟩:=bL.1 hw.2;have h0:=o3 b hbm;have PH:=mX o1;have hnm:=hw.1.2.1 b hbm;obtain⟨ok,oo⟩:=aL h0;obtain⟨q1,q2,q3,q4,q5⟩:=iV ok.str;have hn5:=ok.nb;have hlen:=ok.len;have aF_:=ok.pl;have aB6:∀x∈aq b.rn.l,x= -1\/(0<=x/\x<512):=λx T=>by
  rcases aF_ x T with g|g
  ·exact .inl g
  ·have hdn:w.d.n=w.d.aT.length/256:=rfl;exact .inr V
 have Ec:=lv ok.rn;have A9:∀j:Nat,(tB (aq b.rn.l) p ⟨s,m⟩ m)[j]?=if p<=j/\j<p+m then some (s+((j-p:Nat):Int))else(aq b.rn.l)[j]?:=λj=>by
  have g:=uq (pl:=aq b.rn.l) (p:=(p:Int)) (tr:=⟨s,m⟩) V (k:=m) V j;rw[zaC]at g;exact g
 have hPl:(tB (aq b.rn.l) p ⟨s,m⟩ m).length=(aq b.rn.l).length:=Pd _ _ _ _;have fu:fB w (i:Int)=b:=by unfold fB;rw[zaC,I];rfl
 have hmE:MD (aj w.d b) p ⟨s,m⟩=0:=by
  unfold MD;have e1:(aj w.d b).a.rs=false:=hbr;have e2:(aj w.d b).pl=aq b.rn.l:=rfl;have e3:(aj w.d b).d=w.d:=rfl;rw[e1,if_neg ai,if_neg,if_neg,if_neg,if_neg]
  ·rw[e3];intro g;obtain⟨j,hj⟩:=zaG.1 g;simp only at hj;have hjm:j<m:=by
    have:=(zaa.1 hj).1;rw[zal]at this;omega
   rw[zcV V,zaB,bw V]at hj;have hj:=Option.some.inj hj;unfold db at hj;exact ayr (s.toNat+j) V V (of_decide_eq_true hj)
  ·rw[e2];refine λg=>g ?_
   simp only[zaC];rw[akY,zal,zay]
   ·omega
   ·intro x T;obtain⟨j,hj⟩:=zaG.1 T;have hjm:j<m:=by
     have:=(zaa.1 hj).1;rw[zal]at this;omega
    rw[zcV V,zaB]at hj;have g:=h4 (p+j) V V;unfold FY at g;rw[hj,zbE]at g;exact of_decide_eq_true g
  ·rw[e2];simp only;omega
  ·refine λg=>g ?_
   unfold L8;rw[e3];simp only;omega
 have hNb:∀x∈tB (aq b.rn.l) p ⟨s,m⟩ m,x= -1\/(0<=x/\x<512):=λx T=>by
  obtain⟨j,hj⟩:=zaG.1 T;rw[A9 j]at hj;split at hj
  ·have:=Option.some.inj hj;exact .inr V
  ·exact aB6 x (zag hj)
 have hNd:sU (tB (aq b.rn.l) p ⟨s,m⟩ m):=Py λj k x hj E T=>by
  rw[A9 j]at hj;rw[A9 k]at E;have sD:∀y:Int,y∈aq b.rn.l->y≠ -1->aU w.d.mp y.toNat=1:=λy hy U=>nq h0 (by
   rcases aB6 y hy with g|g
   ·exact absurd g U
   ·rw[show((y.toNat:Nat):Int)=y by omega];exact hy)
  by_cases g1:p<=j/\j<p+m
  ·rw[if_pos g1]at hj;have hj:=Option.some.inj hj;by_cases g2:p<=k/\k<p+m
   ·rw[if_pos g2]at E;have E:=Option.some.inj E;omega
   ·rw[if_neg g2]at E;have:=sD x (zag E) T;exact absurd this (ayr x.toNat V V)
  ·rw[if_neg g1]at hj;by_cases g2:p<=k/\k<p+m
   ·rw[if_pos g2]at E;have E:=Option.some.inj E;have:=sD x (zag hj) T;exact absurd this (ayr x.toNat V V)
   ·rw[if_neg g2]at E;exact H4 Ec hj E T
 have hxA:HK b p ⟨s,m⟩={ b with rn:=.sl (gT (tB (aq b.rn.l) p ⟨s,m⟩ m)) }:=by
  unfold HK;simp only[zaC]
 have hmo:jN w ⟨i,p,⟨s,m⟩⟩=mxE w.d b p ⟨s,m⟩:=by
  unfold jN;rw[if_neg IV];show Cc w.d (fB w i) p _=_;rw[fu];exact(ahP h0).1
 have hxE:mxE w.d b p ⟨s,m⟩=if 64<(gT (tB (aq b.rn.l) p ⟨s,m⟩ m)).length\/iW (HK b p ⟨s,m⟩)≠0 then 8 else 0:=by
  unfold mxE;rw[hmE,if_neg (λg=>g rfl)];simp only[zaC]
 refine⟨λUj=>?_,λUj=>by rw[hmo,hxE,if_pos (.inl V)]⟩;have Ea:iW (HK b p ⟨s,m⟩)=0:=by
  rw[hxA];exact asu q1 hbr q4 hNb hNd (by rw[hPl];exact hlen) Uj
 have T:mxE w.d b p ⟨s,m⟩=0:=by
  rw[hxE,if_neg];rintro(g|g)
  ·omega
  ·exact g Ea
 have he:Cc w.d b p ⟨s,m⟩=0:=by rw[(ahP h0).1];exact T
 have aB7:jN w ⟨i,p,⟨s,m⟩⟩=0:=by rw[hmo];exact T
 refine⟨aB7,?_⟩;have ays:=abD hw ⟨i,p,⟨s,m⟩⟩;have hG:=apc hw ⟨i,p,⟨s,m⟩⟩;have ml:=CU h0 PH hnm he;have md:=atq PH hnm he;have e:jm w ⟨i,p,⟨s,m⟩⟩=lC w (MK w.d b p ⟨s,m⟩) i (HK b p ⟨s,m⟩):=by
  unfold jm;rw[if_neg (λg=>g aB7)];show lC w (MW w.d (fB w i) p _) ((i:Int)).toNat (Uw w.d (fB w i) p _)=_;rw[fu,ml.D,ml.A,zaC]
 rw[ml.D]at md;rw[e]at hG ays ⊢;refine⟨hG,ays.1,ays.2,?_,by show w.st.l.set i _=_;rw[hxA],λc F hbt=>md.2 c F hbt,zh λx T=>by rcases hNb x T with g|g<;>omega⟩;show aF (Zn (MK w.d b p ⟨s,m⟩))=_;rw[abS,ml.n,ml.eJ,<-abS]
structure Sh where
 k:Int
 p:Int
 c:Int
def JG:UH->Rn->Nat
 |[],_=>0
 |a::l,x=>if x.s=a.s/\x.n=a.n then 0 else JG l x+1
def t_:∀{l:UH} {x:Rn},x∈l->l[JG l x]?=some x
 |[],_,h=>by cases h
 |a::l,x,h=>by
  unfold JG;split
  ·cases x;simp_all
  ·rcases zax.1 h with rfl|h
   ·omega
   ·exact t_ h
def dK:UH->Rn
 |[]=>⟨0,0⟩
 |b::l=>sK b l
def Um(R:UH)(n:Int):UH:=R.set (JG R (dK R)) ⟨(dK R).s+n,(dK R).n-n⟩
def By(i:Int):Nat->Int->Int->UH->XM×UH
 |0,_,_,R=>([],R)
 |f+1,p,c,R=>if 0<c then(⟨i,p,⟨(dK R).s,min c (dK R).n⟩⟩::(By i f (p+min c (dK R).n) (c-min c (dK R).n) (Um R (min c (dK R).n))).1,(By i f (p+min c (dK R).n) (c-min c (dK R).n) (Um R (min c (dK R).n))).2)else([],R)
def mI:List Sh->UH->XM×UH
 |[],R=>([],R)
 |s::l,R=>((By s.k s.c.toNat s.p s.c R).1++(mI l (By s.k s.c.toNat s.p s.c R).2).1,(mI l (By s.k s.c.toNat s.p s.c R).2).2)
def ZQ:∀(l m:List Sh) (R:UH),mI (l++m) R=((mI l R).1++(mI m (mI l R).2).1,(mI m (mI l R).2).2)
 |[],m,R=>rfl
 |s::l,m,R=>by
  show((By s.k s.c.toNat s.p s.c R).1++(mI (l++m) _).1,(mI (l++m) _).2)=_;rw[ZQ l m];show _=(((By s.k s.c.toNat s.p s.c R).1++(mI l _).1)++_,_)
  rw[zaj];rfl
def PM(i p:Int)(R:UH){c:Int}(h:¬0<c):∀f,By i f p c R=([],R)
 |0=>rfl
 |f+1=>by unfold By;grind
def Y3{i p:Int}{R:UH}{c:Int}{f:Nat}(h:0<c):By i (f+1) p c R=(⟨i,p,⟨(dK R).s,min c (dK R).n⟩⟩::(By i f (p+min c (dK R).n) (c-min c (dK R).n) (Um R (min c (dK R).n))).1,(By i f (p+min c (dK R).n) (c-min c (dK R).n) (Um R (min c (dK R).n))).2):=by
 conv=>lhs;unfold By
 grind
def as5(b:Rn):∀l:UH,b.n<=(sK b l).n∧∀r∈l,r.n<=(sK b l).n:=by
 intro l
 induction l generalizing b with
 |nil=>exact⟨zdJ _,λr h=>bc⟩
 |cons x l ih=>
  show b.n<=(sK (if b.n<x.n then x else b) l).n∧∀r∈x::l,r.n<=(sK (if b.n<x.n then x else b) l).n
  grind
def ux{R:UH}(h:R≠[]):dK R∈R:=by
 cases R with
 |nil=>grind
 |cons b l=>
  rcases anO b l with g|g
  ·show sK b l∈_;grind
  ·exact List.mem_cons_of_mem _ g
def av5{R:UH}:∀r∈R,r.n<=(dK R).n:=by
 cases R with
 |nil=>simp
 |cons b l=>
  intro r h;have:=as5 b l;rcases zax.1 h with rfl|h
  ·exact this.1
  ·exact this.2 r h
def ahb:∀{R:UH},0<aF R→∃r∈R,0<r.n
 |[],h=>absurd h ai
 |r::l,h=>by
  have h:0<r.n+aF l:=h;by_cases g:0<r.n
  ·grind
  ·obtain⟨x,U,H⟩:=ahb (R:=l) V
   grind
def aeN{R:UH}(h:0<aF R):R≠[]/\0<(dK R).n:=by
 obtain⟨r,U,H⟩:=ahb h;have:=av5 r U
 grind
def abX:∀{R:UH} {i:Nat} {a x:Rn},R[i]?=some a->aF (R.set i x)=aF R-a.n+x.n
 |[],i,a,x,h=>by simp at h
 |r::l,0,a,x,h=>by
  have h:=Option.some.inj h;subst h;show x.n+aF l=r.n+aF l-r.n+x.n;omega
 |r::l,i+1,a,x,h=>by
  rw[List.getElem?_cons_succ]at h;show r.n+aF (l.set i x)=r.n+aF l-a.n+x.n;rw[abX h];omega
def Zx{R:UH}(h:R≠[])(n:Int):aF (Um R n)=aF R-n:=by
 unfold Um;rw[abX (t_ (ux h))]
 grind
def Ys(R:UH)(n:Int):(Um R n).length=R.length:=za0
def Ye{R:UH}(h:R≠[])(n:Int)(j:Nat):(Um R n)[j]?=if JG R (dK R)=j then some ⟨(dK R).s+n,(dK R).n-n⟩else R[j]?:=by
 unfold Um;rw[zaR,if_pos (zaa.1 (t_ (ux h))).1]
def anv{R:UH}{n:Int}(h:R≠[])(hn:0<=n/\n<=(dK R).n){A B:Int}(I:∀r∈R,(A<=r.s/\0<=r.n)/\r.s+r.n<=B):∀r∈Um R n,(A<=r.s/\0<=r.n)/\r.s+r.n<=B:=by
 intro r J;obtain⟨j,hj⟩:=zaG.1 J;rw[Ye h]at hj;split at hj
 ·have:=I _ (ux h)
  grind
 grind
def OT(R:UH):Nat:=R.countP λr=>decide (r.n=0)
def afs(R:UH):OT R<=R.length:=List.countP_le_length
def ar3{R:UH}{n:Int}(h:R≠[])(U:0<(dK R).n):OT (Um R n)=OT R+if n=(dK R).n then 1 else 0:=by
 have hg:=t_ (ux h);unfold OT Um
 grind
structure RmI(w:Vo)(t:Rn)(R:UH):Prop where
 b:∀r∈R,(0<=r.s/\0<=r.n)/\r.s+r.n<=w.d.n
 fre:∀r∈R,∀c:Nat,r.s<=c->(c:Int)<r.s+r.n→¬aU w.d.mp c=1∧¬(t.s<=c/\(c:Int)<t.s+t.n)
 Cb:∀(i j:Nat) (a b:Rn),i≠j->R[i]?=some a->R[j]?=some b→∀c:Int,¬((a.s<=c/\c<a.s+a.n)/\b.s<=c/\c<b.s+b.n)
def RmI.use{w w':Vo}{t:Rn}{R:UH}{n:Int}(h:RmI w t R)(ca:R≠[])(hn:0<=n/\n<=(dK R).n)(hd:w'.d.n=w.d.n)(I:∀c:Nat,c<w.d.n->aU w'.d.mp c=1->aU w.d.mp c=1\/((dK R).s<=c/\(c:Int)<(dK R).s+n)):RmI w' t (Um R n):=by
 have hm:=ux ca;have hg:=t_ hm;refine⟨by rw[hd];exact anv ca hn h.b,λr J c c1 c2=>?_,λi j a b sC ha hbb c F=>?_⟩
 ·obtain⟨j,hj⟩:=zaG.1 J;rw[Ye ca]at hj;split at hj
  ·have:=Option.some.inj hj;subst this;simp only at c1 c2;have H:=h.fre _ hm c V V;have h3:=h.b _ hm
   grind
  ·rename_i g;have hrm:=zag hj;have H:=h.fre r hrm c c1 c2;have h3:=h.b r hrm;refine⟨λq=>(I c V q).elim H.1 (λq=>?_),H.2⟩;exact h.Cb _ _ _ _ g hg hj c ⟨⟨q.1,V⟩,c1,c2⟩
 ·rw[Ye ca]at ha hbb;split at ha
  ·have:=Option.some.inj ha;subst this;rw[if_neg V]at hbb;simp only at F;exact h.Cb _ _ _ _ (show JG R (dK R)≠j by omega) hg hbb c ⟨⟨V,V⟩,F.2⟩
  ·split at hbb
   ·have:=Option.some.inj hbb;subst this;simp only at F;exact h.Cb _ _ _ _ (show i≠JG R (dK R) by omega) ha hg c ⟨F.1,V,V⟩
   ·exact h.Cb _ _ _ _ sC ha hbb c F
def Mi{h:Nat->Bool}:∀(n:Nat) {cl:QK},(∀i,i<n->h i=true->i∈cl)->eJ h n<=cl.length
 |0,cl,_=>Nat.zero_le _
 |n+1,cl,h2=>by
  rw[bI];by_cases g:h n=true
  ·rw[if_pos g];have U:=Mi n (cl:=cl.filter λi=>decide (i≠n)) λi W hh=>zbq.2 ⟨h2 i V hh,au⟩
   have H:(cl.filter λi=>decide (i≠n)).length<cl.length:=List.length_filter_lt_length_iff_exists.2 ⟨n,h2 n V g,ab⟩;omega
  ·rw[if_neg g];exact Mi n λi W hh=>h2 i V hh
def pAt(P:OG)(i:Nat):Int:=P[i]?.getD (-1)
def ar1(P:OG):cJ (pAt P) P.length=P:=by
 refine zbb λi=>?_
 by_cases h:i<P.length
 ·rw[bw h];unfold pAt;grind
 simp_all
def acu{P:OG}(h:∀x∈P,-1<=x):(gT P).length=eJ (HF (pAt P)) P.length:=by
 have:=(Jw (L:=pAt P) (λi=>by
  unfold pAt;cases g:P[i]? with
  |none=>simp
  |some x=>exact h x (zag g)) P.length).1
 rw[ar1]at this;omega
def Qa(h:Nat->Bool):∀n,((List.range n).filter h).length=eJ h n
 |0=>rfl
 |n+1=>by
  rw[zc9,zbV,zad,Qa h n,bI]
  grind
def awD{P P':OG}{p m:Nat}{s:Int}(hP:∀j:Nat,P'[j]?=if p<=j/\j<p+m then some (s+((j-p:Nat):Int))else P[j]?)(hs:0<=s){i:Nat}(h:HF (pAt P') i=true):HF (pAt P) i=true\/i=p\/i=p+m:=by
 by_cases e1:i=p
 ·omega
 by_cases e2:i=p+m
 ·omega
 refine .inl ?_;unfold HF at h ⊢;rw[decide_eq_true_eq]at h ⊢;rcases h with h|h
 ·omega
 by_cases i0:i=0
 ·omega
 refine .inr λj=>h ?_
 unfold pAt at j ⊢;by_cases g:p<i/\i<p+m
 ·unfold rX
  grind
 grind
def YO(t r:Rn):Prop:=r.s≠ -1/\max r.s t.s<min (r.s+r.n) (t.s+t.n)
instance (t r:Rn):Decidable (YO t r):=by unfold YO;infer_instance
def NW(t:Rn)(i p:Int)(r:Rn):List Sh:=if YO t r then[⟨i,p+max r.s t.s-r.s,min (r.s+r.n) (t.s+t.n)-max r.s t.s⟩]else[]
def nC(t:Rn)(i p:Int):UH->List Sh
 |[]=>[]
 |r::l=>NW t i p r++nC t i (p+r.n) l
def mH(t:Rn)(i:Int):UD->List Sh
 |[]=>[]
 |a::l=>nC t i 0 a.rn.l++mH t (i+1) l
def YB(t:Rn)(i:Int):∀(l m:UH) (p:Int),nC t i p (l++m)=nC t i p l++nC t i (p+aF l) m
 |[],m,p=>by show nC t i p m=[]++nC t i (p+0) m;simp
 |q::l,m,p=>by
  show NW t i p q++nC t i (p+q.n) (l++m)=NW t i p q++nC t i (p+q.n) l++nC t i (p+(q.n+aF l)) m;rw[YB t i l,zaj,Int.add_assoc]
def X4(t:Rn):∀(l m:UD) (i:Int),mH t i (l++m)=mH t i l++mH t (i+l.length) m
 |[],m,i=>by show mH t i m=[]++mH t (i+((0:Nat):Int)) m;simp
 |b::l,m,i=>by
  show nC t i 0 b.rn.l++mH t (i+1) (l++m)=nC t i 0 b.rn.l++mH t (i+1) l++mH t (i+((l.length+1:Nat):Int)) m;rw[X4 t l]
  grind
def atm(t:Rn)(i p:Int)(r:Rn):nC t i p [r]=NW t i p r:=zbg _
def Q4{t:Rn}{i:Int}{l:UH}{j:Nat}{r:Rn}(h:l[j]?=some r):nC t i 0 (l.take (j+1))=nC t i 0 (l.take j)++NW t i (aF (l.take j)) r:=by
 rw[zcM,h,show(some r).toList=[r]from rfl,YB,atm,Int.zero_add]
def acV{t:Rn}{l:UD}{i:Nat}{a:At}(h:l[i]?=some a):mH t 0 (l.take (i+1))=mH t 0 (l.take i)++nC t i 0 a.rn.l:=by
 have hl:=(zaa.1 h).1;rw[zcM,h,X4,Int.zero_add,zal,Nat.min_eq_left V];show _++(nC t i 0 a.rn.l++[])=_;simp
def awc{t:Rn}{l:UD}{i:Nat}{a:At}(h:l[i]?=some a)(j:Nat):mH t 0 (l.take i)++nC t i 0 (a.rn.l.take j)<+:mH t 0 l:=by
 have e1:mH t 0 l=mH t 0 (l.take (i+1))++mH t (0+(l.take (i+1)).length) (l.drop (i+1)):=by rw[<-X4,zaF]
 have e2:nC t i 0 a.rn.l=nC t i 0 (a.rn.l.take j)++nC t i (0+aF (a.rn.l.take j)) (a.rn.l.drop j):=by rw[<-YB,zaF]
 rw[e1,acV h,e2];simp
abbrev ZS:=List Sh
def Sh.pv(x:Sh):PV:=.agg [pI x.k,pI x.p,pI x.c]
structure az3(v:Vo)(t:Rn):Prop where
 len:v.st.l.length<=100000
 rl:∀a∈v.st.l,a.rn.l.length<=1000000
 rb:∀a∈v.st.l,∀r∈a.rn.l,(-1<=r.s/\r.s<=1000000)/\(0<=r.n/\r.n<=1000000)
 tb:(-1000000<=t.s/\t.s<=1000000)/\(-1000000<=t.n/\t.n<=1000000)
def Yx{B:Int}:∀{l:UH},(∀r∈l,0<=r.n/\r.n<=B)->0<=aF l/\aF l<=B*l.length
 |[],_=>by simp
 |r::l,h=>by
  have H:=Yx (l:=l) λx T=>h x bP
  show 0<=r.n+aF l/\r.n+aF l<=B*((l.length+1:Nat):Int)
  grind
def azu:PC:=.region [⟨some 11,none,.fldA 0 (.tmp 1)⟩,⟨some 12,none,.fldA 2 (.tmp 11)⟩,⟨some 13,none,.load false 1 (.tmp 12)⟩,⟨some 14,none,.lenR (.tmp 13)⟩,⟨some 15,none,.mv (.const (.int .i64 0))⟩]
def azy:PC:=.region [⟨some 16,none,.bin .lss (.tmp 15) (.tmp 14)⟩]
def azk:PC:=.region [⟨some 17,none,.mv (.tmp 15)⟩,⟨some 18,none,.idxA 11 (.tmp 13) (.tmp 15)⟩,⟨some 19,none,.load true 11 (.tmp 18)⟩,⟨some 5,none,.alloc 31 (.agg [.int .i64 0,.str [],.int .i64 0,.int .i64 0,.bool false,.str [],.int .i64 0,.nil 2,.int .i64 0,.int .i64 0,.int .i64 0])⟩,⟨some 4,none,.mv (.tmp 17)⟩,⟨none,none,.store 11 (.tmp 5) (.tmp 19)⟩]
def azQ:PC:=.region [⟨some 6,none,.mv (.const (.int .i64 0))⟩]
def azZ:PC:=.region [⟨some 20,none,.fldA 7 (.tmp 5)⟩,⟨some 21,none,.load false 1 (.tmp 20)⟩,⟨some 22,none,.lenR (.tmp 21)⟩,⟨some 23,none,.mv (.const (.int .i64 0))⟩]
def aAv:PC:=.region [⟨some 24,none,.bin .lss (.tmp 23) (.tmp 22)⟩]
def aAn:PC:=.region [⟨some 25,none,.idxA 2 (.tmp 21) (.tmp 23)⟩,⟨some 26,none,.load true 2 (.tmp 25)⟩,⟨some 8,none,.alloc 103 (.agg [.int .i64 0,.int .i64 0])⟩,⟨none,none,.store 2 (.tmp 8) (.tmp 26)⟩]
def aAb:PC:=.draw [⟨some 27,none,.fldA 0 (.tmp 8)⟩,⟨some 28,none,.load false 1 (.tmp 27)⟩,⟨some 29,none,.fldA 0 (.tmp 2)⟩,⟨some 30,none,.load false 1 (.tmp 29)⟩,⟨some 31,none,.mm true (.tmp 28) (.tmp 30)⟩,⟨some 32,none,.fldA 0 (.tmp 8)⟩,⟨some 33,none,.load false 1 (.tmp 32)⟩,⟨some 34,none,.fldA 1 (.tmp 8)⟩,⟨some 35,none,.load false 1 (.tmp 34)⟩,⟨some 36,none,.bin .add (.tmp 33) (.tmp 35)⟩,⟨some 37,none,.fldA 0 (.tmp 2)⟩,⟨some 38,none,.load false 1 (.tmp 37)⟩,⟨some 39,none,.fldA 1 (.tmp 2)⟩,⟨some 40,none,.load false 1 (.tmp 39)⟩,⟨some 41,none,.bin .add (.tmp 38) (.tmp 40)⟩,⟨some 42,none,.mm false (.tmp 36) (.tmp 41)⟩,⟨some 9,none,.mv (.tmp 31)⟩,⟨some 10,none,.mv (.tmp 42)⟩] [[],[0],[],[2],[1,3],[],[5],[],[7],[6,8],[],[10],[],[12],[11,13],[9,14],[4,0,1,2,3,4],[15,16,0,1,2,3,4,5,6,7,8,9,10,11,12,13,14,15,16]]
def abR:Od:=[⟨some 43,none,.fldA 0 (.tmp 8)⟩,⟨some 44,none,.load false 1 (.tmp 43)⟩,⟨some 45,none,.bin .neq (.tmp 44) (.const (.int .i64 (-1)))⟩,⟨some 46,none,.mv (.tmp 45)⟩,⟨some 47,some (46,true),.mv (.tmp 9)⟩,⟨some 48,some (46,true),.mv (.tmp 10)⟩,⟨some 49,some (46,true),.bin .lss (.tmp 47) (.tmp 48)⟩,⟨some 50,none,.pick (.tmp 46) (.tmp 49) (.const (.bool false))⟩,⟨some 51,none,.mv (.tmp 50)⟩,⟨some 52,some (51,true),.mv (.tmp 0)⟩,⟨some 53,some (51,true),.mv (.tmp 4)⟩,⟨some 54,some (51,true),.mv (.tmp 6)⟩,⟨some 55,some (51,true),.mv (.tmp 9)⟩,⟨some 56,some (51,true),.bin .add (.tmp 54) (.tmp 55)⟩,⟨some 57,some (51,true),.fldA 0 (.tmp 8)⟩,⟨some 58,some (51,true),.load false 1 (.tmp 57)⟩,⟨some 59,some (51,true),.bin .sub (.tmp 56) (.tmp 58)⟩,⟨some 60,some (51,true),.mv (.tmp 10)⟩,⟨some 61,some (51,true),.mv (.tmp 9)⟩,⟨some 62,some (51,true),.bin .sub (.tmp 60) (.tmp 61)⟩,⟨some 63,some (51,true),.build [.int .i64 0,.int .i64 0,.int .i64 0] [(0,(1,.tmp 53)),(1,(1,.tmp 59)),(2,(1,.tmp 62))]⟩,⟨some 64,some (51,true),.callv (.tmp 52) [.tmp 63]⟩,⟨some 65,some (51,true),.un .not (.tmp 64)⟩,⟨some 66,none,.pick (.tmp 51) (.tmp 65) (.const (.bool false))⟩]
def azM:PC:=.region [⟨some 67,none,.mv (.tmp 6)⟩,⟨some 68,none,.fldA 1 (.tmp 8)⟩,⟨some 69,none,.load false 1 (.tmp 68)⟩,⟨some 70,none,.bin .add (.tmp 67) (.tmp 69)⟩,⟨some 6,none,.mv (.tmp 70)⟩]
def aAc:PC:=.region [⟨some 71,none,.bin .add (.tmp 23) (.const (.int .i64 1))⟩,⟨some 23,none,.mv (.tmp 71)⟩]
def aAq:PC:=.region [⟨some 72,none,.bin .add (.tmp 15) (.const (.int .i64 1))⟩,⟨some 15,none,.mv (.tmp 72)⟩]
def psI:QK:=[0,1,2,4,5,6,8,9,10,13,14,15,21,22,23]
def arV:∃(A B C D hk hc G h2 σ aa hi:Code) (id:Nat) (os:Array Oper) (o21 o8:Oper),
 Go.Proofs.Tryz.f206.body=some (.seq A (.block 0 (.loop (.seq B (.seq (.cond (.tmp 16) .skip (.exit 0)) (.seq (.block 1 (.seq C (.seq D (.seq hk (.block 2 (.loop (.seq hc (.seq (.cond (.tmp 24) .skip (.exit 2)) (.seq (.block 3 (.seq G (.seq h2 (.seq (.seq (.region id os false) (.cond (.tmp 66) .ret .skip)) σ)))) aa))))))))) hi))))))/\
 eT Go.Proofs.Tryz.prog 73 A=some (strip azu)/\eT Go.Proofs.Tryz.prog 73 B=some (strip azy)/\eT Go.Proofs.Tryz.prog 73 C=some (strip azk)/\eT Go.Proofs.Tryz.prog 73 D=some (strip azQ)/\eT Go.Proofs.Tryz.prog 73 hk=some (strip azZ)/\eT Go.Proofs.Tryz.prog 73 hc=some (strip aAv)/\
 eT Go.Proofs.Tryz.prog 73 G=some (strip aAn)/\eT Go.Proofs.Tryz.prog 73 h2=some (strip aAb)/\eT Go.Proofs.Tryz.prog 73 σ=some (strip azM)/\eT Go.Proofs.Tryz.prog 73 aa=some (strip aAc)/\eT Go.Proofs.Tryz.prog 73 hi=some (strip aAq)/\
 Ae (w_ Go.Proofs.Tryz.prog false os 73) os.toList=some abR/\os[21]?=some o21/\os[8]?=some o8/\o8.dst=some 51/\
 (o21.guard=some (8,true)/\o21.dst=some 64∧∃c,o21.op=.call c/\c.callee=.value (.tmp 52)/\c.args= #[.tmp 63]):=
 ⟨_,_,_,_,_,_,_,_,_,_,_,_,_,_,_,rfl,ae,dw,ae,dw,ae,dw,ae,ae,ae,dw,dw,ae,rfl,rfl,rfl,rfl,rfl,_,rfl,rfl,rfl⟩
section
def eO(hK:PV)(v:Vo)(t:Rn)(S:PV)(n i:Nat):List (Nat×PV):=[(0,hK),(1,.cptr v.pv),(2,.cptr t.pv),(13,S),(14,pI n),(15,pI i)]
def eR(hK:PV)(v:Vo)(t:Rn)(S:PV)(n i:Nat)(R:PV)(k:Nat)(p:Int)(j:Nat):List (Nat×PV):=[(0,hK),(1,.cptr v.pv),(2,.cptr t.pv),(4,pI i),(6,pI p),(13,S),(14,pI n),(15,pI i),(21,R),(22,pI k),(23,pI j)]
section
variable {hK:PV} {v:Vo} {t:Rn} {S R:PV} {n i k j:Nat} {p:Int}
def aDs:vc (ao []) [] psI azu (itQ [] (eO hK v t (ub v.st) v.st.l.length 0)) (rT [(0,hK),(1,.cptr v.pv),(2,.cptr t.pv)]) []:=by
 (repeat'((conv=>whnf);first|refine tD ?_|refine cT λ_=>?_|refine aY ?_|fail))
 all_goals trivial
def aD0{b:Bool}(I:b=decide (i<n)):vc (ao []) [] psI azy (itQ [] ((16,pB b)::eO hK v t S n i)) (rT (eO hK v t S n i)) []:=by
 subst I;by_cases h:i<n
 ·rw[decide_eq_true h]
  (repeat'((conv=>whnf);first|refine ak V ?_|refine aY ?_|fail))
  all_goals trivial
 ·rw[decide_eq_false h]
  (repeat'((conv=>whnf);first|refine ar V ?_|refine aY ?_|fail))
  all_goals trivial
def aDR{l:UD}{a:At}(W:l[i]?=some a):vc (ao []) [] psI azk (itQ [.tmp 5] ((4,pI i)::(5,.cptr a.pv)::eO hK v t (.sl 11 (l.map At.pv)) n i)) (rT (eO hK v t (.sl 11 (l.map At.pv)) n i)) []:=by
 have hg:=nH (f:=At.pv) W;generalize l.map At.pv=L at*;obtain⟨ty,nm,id,fl,rs,vl,ft,rn,al,sz,vd⟩:=a;cases rn<;>(repeat'((conv=>whnf);first|refine⟨_,⟨V,hg⟩,?_⟩|refine aY ?_|fail))
 all_goals trivial
def aDD{A:PV}:vc (ao []) [] psI azQ (itQ [] ((6,pI 0)::(4,pI i)::(5,A)::eO hK v t S n i)) (rT ((4,pI i)::(5,A)::eO hK v t S n i)) []:=by
 (repeat'((conv=>whnf);first|refine aY ?_|fail))
 all_goals trivial
def aDS{a:At}:vc (ao []) [] psI azZ (itQ [] (eR hK v t S n i (uF a.rn) a.rn.l.length 0 0)) (rT ((6,pI 0)::(4,pI i)::(5,.cptr a.pv)::eO hK v t S n i)) []:=by
 (repeat'((conv=>whnf);first|refine tD ?_|refine cT λ_=>?_|refine aY ?_|fail))
 all_goals trivial
def aD4{b:Bool}(I:b=decide (j<k)):vc (ao []) [] psI aAv (itQ [] ((24,pB b)::eR hK v t S n i R k p j)) (rT (eR hK v t S n i R k p j)) []:=by
 subst I;by_cases h:j<k
 ·rw[decide_eq_true h]
  (repeat'((conv=>whnf);first|refine ak V ?_|refine aY ?_|fail))
  all_goals trivial
 ·rw[decide_eq_false h]
  (repeat'((conv=>whnf);first|refine ar V ?_|refine aY ?_|fail))
  all_goals trivial
def aDO{l:UH}{r:Rn}(hj:l[j]?=some r):vc (ao []) [] psI aAn (itQ [.tmp 8] ((8,.cptr r.pv)::eR hK v t S n i (.sl 2 (l.map Rn.pv)) k p j)) (rT (eR hK v t S n i (.sl 2 (l.map Rn.pv)) k p j)) []:=by
 have hg:=nH (f:=Rn.pv) hj;generalize l.map Rn.pv=L at*
 (repeat'((conv=>whnf);first|refine⟨_,⟨V,hg⟩,?_⟩|refine aY ?_|fail))
 all_goals trivial
def aDF{r:Rn}(J:(-1<=r.s/\r.s<=1000000)/\(0<=r.n/\r.n<=1000000))(ht:(-1000000<=t.s/\t.s<=1000000)/\(-1000000<=t.n/\t.n<=1000000)):
 vc (ao []) [] psI aAb (itQ [] ((9,pI (max r.s t.s))::(10,pI (min (r.s+r.n) (t.s+t.n)))::(8,.cptr r.pv)::eR hK v t S n i R k p j)) (rT ((8,.cptr r.pv)::eR hK v t S n i R k p j)) []:=by
 refine Gq ?_
 (repeat'((conv=>whnf);first|refine bu V ?_|refine MAX ?_|refine U7 ?_|refine aY ?_|fail))
 all_goals trivial
def eY(hK:PV)(v:Vo)(t:Rn)(S:PV)(n i:Nat)(R:PV)(k:Nat)(p:Int)(j:Nat)(r:Rn):List (Nat×PV):=(9,pI (max r.s t.s))::(10,pI (min (r.s+r.n) (t.s+t.n)))::(8,.cptr r.pv)::eR hK v t S n i R k p j
def aAd{r:Rn}(J:(-1<=r.s/\r.s<=1000000)/\(0<=r.n/\r.n<=1000000))(ht:(-1000000<=t.s/\t.s<=1000000)/\(-1000000<=t.n/\t.n<=1000000))(hp:0<=p/\p<=1000000000000)(h:YO t r):
 HV (ao []) (λenv _=>iB ((51,pB true)::(52,hK)::(63,Sh.pv ⟨i,p+max r.s t.s-r.s,min (r.s+r.n) (t.s+t.n)-max r.s t.s⟩)::(8,.cptr r.pv)::eR hK v t S n i R k p j) env) ((abR.drop 0).take 21) (rT (eY hK v t S n i R k p j r)) []:=by
 obtain⟨U,H⟩:=h
 (repeat'((conv=>whnf);first|refine ak U ?_|refine ak H ?_|refine bu V ?_|refine aY ?_|fail))
 all_goals trivial
def aAw{r:Rn}(h:¬YO t r):HV (ao []) (λenv _=>iB ((66,pB false)::(8,.cptr r.pv)::eR hK v t S n i R k p j) env) ((abR.drop 0).take 24) (rT (eY hK v t S n i R k p j r)) []:=by
 by_cases U:r.s≠ -1
 ·have H:¬max r.s t.s<min (r.s+r.n) (t.s+t.n):=λg=>h ⟨U,g⟩
  (repeat'((conv=>whnf);first|refine ak U ?_|refine ar H ?_|refine aY ?_|fail))
  all_goals trivial
 ·(repeat'((conv=>whnf);first|refine ar U ?_|refine aY ?_|fail))
  all_goals trivial
def azW{r:Rn}:HV (ao []) (λenv _=>iB ((66,pB false)::(8,.cptr r.pv)::eR hK v t S n i R k p j) env) ((abR.drop 22).take 2) (rT ((64,pB true)::(51,pB true)::(8,.cptr r.pv)::eR hK v t S n i R k p j)) []:=by
 (repeat'((conv=>whnf);first|refine bR ?_|refine aY ?_|fail))
 all_goals trivial
def azT:HV (ao []) (λenv _=>iB [(66,pB true)] env) ((abR.drop 22).take 2) (rT [(64,pB false),(51,pB true)]) []:=by
 (repeat'((conv=>whnf);first|refine ec ?_|refine aY ?_|fail))
 all_goals trivial
def aDP{r:Rn}{b:Bool}(J:(-1<=r.s/\r.s<=1000000)/\(0<=r.n/\r.n<=1000000))(hp:0<=p/\p<=1000000000000):vc (ao []) [] psI azM (itQ [] (eR hK v t S n i R k (p+r.n) j)) (rT ((66,pB b)::(8,.cptr r.pv)::eR hK v t S n i R k p j)) []:=by
 (repeat'((conv=>whnf);first|refine bu V ?_|refine aY ?_|fail))
 all_goals trivial
def az_(hj:j<=1000000):vc (ao []) [] psI aAc (itQ [] (eR hK v t S n i R k p (j+1))) (rT (eR hK v t S n i R k p j)) []:=by
 (repeat'((conv=>whnf);first|refine bu V ?_|refine aY ?_|fail))
 all_goals trivial
def aDA(W:i<=1000000):vc (ao []) [] psI aAq (itQ [] (eO hK v t S n (i+1))) (rT (eR hK v t S n i R k p j)) []:=by
 (repeat'((conv=>whnf);first|refine bu V ?_|refine aY ?_|fail))
 all_goals trivial
end
end
end Go.Dv.Try
end
