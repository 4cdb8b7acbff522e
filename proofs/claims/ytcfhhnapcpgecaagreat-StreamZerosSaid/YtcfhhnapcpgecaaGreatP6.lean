/- Own work: parts of the proof, shortened and laid together by a tool of our own. -/
import Derived.Test.YtcfhhnapcpgecaaGreatP5
import Derived.KernelRfl
set_option linter.defProp false
set_option linter.unusedSimpArgs false
set_option linter.unusedVariables false
open Bool renaming and_eq_true→zaU, or_eq_true→zbD, eq_iff_iff→zaN
open List renaming getElem?_eq_none→zaK, length_append→zad, getElem?_eq_some_iff→zaa, getElem?_eq_getElem→zah, length_singleton→zbN, length_take→zal, mem_of_getElem?→zag, mem_cons→zaw, length_pos_iff→zcH, getElem?_append_right→zak, getElem?_append_left→zaq, length_cons→zam, length_drop→zax, mem_map→zaX, getElem?_replicate→zcZ, mem_range→zbm, ext_getElem?→zba, flatMap_cons→zan, not_mem_nil→zb3, length_map→zav
open Option renaming getD_some→zbC
open Decidable renaming not_not→zcD
open Nat renaming mul_succ→zdQ, le_trans→zay
open Int renaming toNat_natCast→zaC
namespace Go.Dv.Try
open Go Go.Dv
def Xe(p:Nat->Bool)(a:Nat):∀b,gy p (a+b)=gy p a+gy (λj=>p (a+j)) b
 |0=>rfl
 |b+1=>by rw[<-Nat.add_assoc,cJ,cJ,Xe p a b];omega
def arQ(p:Nat->Bool){a n:Nat}(h:a<=n):gy p a<=gy p n:=by
 rw[show n=a+(n-a) by omega,Xe];omega
def Bn{p:Nat->Bool}:∀{n:Nat},(∀i,i<n->p i=false)->gy p n=0
 |0,_=>rfl
 |n+1,h=>by rw[cJ,Bn (n:=n) λi hi=>h i ab,h n ab];rfl
def am_{p:Nat->Bool}{a n:Nat}(h:∀i,a<=i->p i=false)(ha:a<=n):gy p n=gy p a:=by
 rw[show n=a+(n-a) by omega,Xe,Bn (n:=n-a) λi _=>h _ ab];rfl
def XW(n:Nat):∀cs:List Nat,gy (λi=>decide (i∈cs)) n<=cs.length
 |[]=>by rw[Bn λi _=>aj];omega
 |c::cs=>by
  have ih:=XW n cs;have h1:=tK (p:=λi=>decide (i=c)) (q:=λi=>decide (i∈cs)) (n:=n);have h2:=xh (k:=c) (n:=n);have e:gy (λi=>decide (i∈c::cs)) n=gy (λi=>decide (i=c)||decide (i∈cs)) n:=jq λi _=>by
   rw[zaN,decide_eq_true_eq,zbD,decide_eq_true_eq,decide_eq_true_eq,zaw]
  rw[e,zam];have h3:(if c<n then 1 else 0)<=1:=Bt;omega
def af_(c:Nat->Nat):∀n,gy (λi=>decide (i%16=c (i/16))) (16*n)<=n
 |0=>Nat.le_refl 0
 |n+1=>by
  have ih:=af_ c n;rw[zdQ,Xe];have e:gy (λj=>decide ((16*n+j)%16=c ((16*n+j)/16))) 16=gy (λj=>decide (j=c n)) 16:=jq λj hj=>by
   rw[show(16*n+j)%16=j by omega,show(16*n+j)/16=n by omega]
  rw[e,xh];split<;>omega
def NZ(s:St)(i:Nat):Int:=s.pl[i]?.getD (-1)
def afa{s:St}{i:Nat}:OS s i↔NZ s i≠ -1:=by
 unfold OS NZ;cases h:s.pl[i]? with
 |none=>simp
 |some a=>simp
def ahC(s:St)(dt:Nat->Prop):Prop:=s.a.fl/2%2=1→∃cs:List Nat,cs.length<=4∧∀i,1<=i->i∉cs->(dt (i-1)↔dt i)\/((OS s (i-1)↔dt (i-1))/\(OS s i↔dt i))
def ahu(C:List UInt8)(k:Nat):Nat:=if k<(C.length+4095)/4096 then((j_ (wa C k)).length+255)/256 else 0
def anv{s:St}{C:List UInt8}{dt:Nat->Prop}(hc:s.a.fl%2=1){k j:Nat}(hj:j<16):jz (aQ s C dt) (16*k+j)=decide (j<ahu C k):=by
 have hl:(aQ s C dt).length=16*((C.length+4095)/4096):=QS;unfold jz ahu;by_cases hk:k<(C.length+4095)/4096
 ·rw[if_pos hk,aa9 hc,XG hj hk,zbC,zaN,decide_eq_true_eq,decide_eq_true_eq];rw[<-zcH,zal,zax];omega
 ·rw[if_neg hk,zaK ab];simp
def Pb{s:St}{C:List UInt8}{dt:Nat->Prop}(hc:¬s.a.fl%2=1){i:Nat}:jz (aQ s C dt) i=true↔i<(C.length+255)/256/\(s.a.fl/2%2=1->dt i):=by
 have hl:(aQ s C dt).length=(C.length+255)/256:=by rw[sK,if_neg hc]
 constructor
 ·intro h;have hi:=wD h;rw[hl]at hi;refine⟨hi,λhs=>Classical.byContradiction λhd=>?_⟩;unfold jz at h;rw[Xn hc hi,zbC]at h;unfold dv at h;rw[if_pos ⟨hs,hd⟩]at h;simp at h
 ·rintro⟨hi,hs⟩;unfold jz;rw[Xn hc hi,zbC,decide_eq_true_eq];unfold dv;rw[if_neg λh=>h.2 (hs h.1)];intro e;have h5:=congrArg List.length e;rw[BB eI]at h5;cases h5
def zU(_:Nat):Nat:=0
def Rx{a b:Bool}(h:a=true↔b=true):a=b:=by cases a<;>cases b<;>simp_all
def aAB{s:St}{C:List UInt8}{dt:Nat->Prop}(hC:C.length<=32768)(PE:ahC s dt):∃ct:Nat->Bool,ct 0=true/\gy ct 128<=16/\
 ∀i,i<128->ct i=false->jz (aQ s C dt) (i-1)=jz (aQ s C dt) i\/(qi (NZ s) i=true/\jX (NZ s) (jz (aQ s C dt)) i=false):=by
 by_cases hc:s.a.fl%2=1
 ·refine⟨λi=>decide (i%16=zU (i/16))||decide (i%16=ahu C (i/16)),rfl,?_,λi hi hf=>.inl ?_⟩
  ·have h1:=af_ zU 8;have h2:=af_ (ahu C) 8;have h3:=tK (p:=λi=>decide (i%16=zU (i/16))) (q:=λi=>decide (i%16=ahu C (i/16))) (n:=128);have e:16*8=128:=rfl;rw[e]at h1 h2;omega
  ·simp only[Bool.or_eq_false_iff,decide_eq_false_iff_not]at hf;have hz:i%16≠0:=hf.1;have e1:i=16*(i/16)+i%16:=ab;have e2:i-1=16*(i/16)+(i%16-1):=ab;have g1:=anv (C:=C) (dt:=dt) hc (k:=i/16) (j:=i%16) ab;have g2:=anv (C:=C) (dt:=dt) hc (k:=i/16) (j:=i%16-1) ab;rw[<-e1]at g1;rw[<-e2]at g2;rw[g1,g2];have:=hf.2;rw[zaN,decide_eq_true_eq,decide_eq_true_eq];omega
 ·by_cases hs:s.a.fl/2%2=1
  ·obtain⟨cs,mE,sH⟩:=PE hs;refine⟨λi=>decide (i∈0::(C.length+255)/256::cs),aj,?_,λi hi hf=>?_⟩
   ·have:=XW 128 (0::(C.length+255)/256::cs);simp only[zam]at this;omega
   ·simp only[decide_eq_false_iff_not,zaw,not_or]at hf;obtain⟨f1,f2,f3⟩:=hf;have g1:=Pb (C:=C) (dt:=dt) hc (i:=i);have g2:=Pb (C:=C) (dt:=dt) hc (i:=i-1);by_cases hn:i<(C.length+255)/256
    ·rcases sH i ab f3 with h|⟨h1,h2⟩
     ·left;refine Rx ?_;rw[g1,g2];exact⟨λg=>⟨hn,λhs=>h.1 (g.2 hs)⟩,λg=>⟨ab,λhs=>h.2 (g.2 hs)⟩⟩
     ·by_cases hd:dt (i-1)↔dt i
      ·left;refine Rx ?_;rw[g1,g2];exact⟨λg=>⟨hn,λhs=>hd.1 (g.2 hs)⟩,λg=>⟨ab,λhs=>hd.2 (g.2 hs)⟩⟩
      ·right;rw[afa]at h1 h2;constructor
       ·unfold qi zC;rw[decide_eq_true_eq];rintro(⟨j1,j2⟩|⟨j1,j2,_⟩)
        ·exact hd ⟨λg=>absurd j1 (h1.2 g),λg=>absurd j2 (h2.2 g)⟩
        ·exact hd ⟨λ_=>h2.1 j2,λ_=>h1.1 j1⟩
       ·unfold jX;rw[Bool.and_eq_false_iff];by_cases g:dt i
        ·left;rw[g1.2 ⟨hn,λ_=>g⟩];rfl
        ·right;rw[decide_eq_false_iff_not];exact λg3=>g (h2.1 g3)
    ·left;refine Rx ?_;rw[g1,g2];exact⟨λg=>absurd g.1 ab,λg=>absurd g.1 hn⟩
  ·refine⟨λi=>decide (i∈[0,(C.length+255)/256]),aj,?_,λi hi hf=>.inl ?_⟩
   ·have:=XW 128 [0,(C.length+255)/256];simp only[zam,List.length_nil]at this;omega
   ·simp only[decide_eq_false_iff_not,zaw,not_or]at hf;obtain⟨f1,f2,f3⟩:=hf;refine Rx ?_;rw[Pb hc,Pb hc];exact⟨λg=>⟨ab,λh=>absurd h hs⟩,λg=>⟨ab,λh=>absurd h hs⟩⟩
def ax8{O P:Nat->Int}{ne ct:Nat->Bool}(tT:∀i,ne i=false->P i= -1)(hk:∀i,ne i=true->O i≠ -1->P i=O i)
 (PE:gy ct 128<=16) (HR:∀i,i<128->ct i=false->ne (i-1)=ne i\/(qi O i=true/\jX O ne i=false)) (hob:gy (λi=>qi O i&&!ct i) 128<=16):
 gy (ve O P ne) 128+gy (k_ O ne) 128<=48:=by
 have:=ajr (nb:=ve O P ne) (fb:=k_ O ne) (ob:=qi O) (ct:=ct) (M:=128) λi hi hc=>aA4 tT hk (HR i hi hc)
 omega
def aAx{O P:Nat->Int}{ne:Nat->Bool}{n:Nat}(hn:n<=128):gy (bR P) n<=1+gy (ve O P ne) 128+gy (nv P (n_ O ne)) 128:=by
 have h1:=arQ (bR P) hn;have h2:gy (bR P) 128<=gy (λi=>decide (i=0)||(ve O P ne i||nv P (n_ O ne) i)) 128:=sk λi _ h=>by
  unfold bR at h;rw[decide_eq_true_eq]at h;by_cases h0:i=0
  ·simp[h0]
  ·have hj:=h.resolve_left h0;unfold ve nv;cases n_ O ne (i-1)<;>cases n_ O ne i<;>simp[h0,hj]<;>omega
 have h3:=tK (p:=λi=>decide (i=0)) (q:=λi=>ve O P ne i||nv P (n_ O ne) i) (n:=128);have h4:=tK (p:=ve O P ne) (q:=nv P (n_ O ne)) (n:=128);have h5:=xh (k:=0) (n:=128);rw[if_pos ab]at h5;omega
def aBe{l:List Int}{ct:Nat->Bool}(h0:ct 0=true)(hl:l.length<=128)(hb:∀x∈l,-1<=x):gy (λi=>qi (λi:Nat=>l[i]?.getD (-1)) i&&!ct i) 128<=(nS l).length:=by
 have hO:∀i,-1<=(λi:Nat=>l[i]?.getD (-1)) i:=λi=>by
  show-1<=l[i]?.getD (-1);cases h:l[i]? with
  |none=>simp
  |some a=>exact hb a (zag h)
 have ht:cQ (λi:Nat=>l[i]?.getD (-1)) l.length=l:=by
  refine zba λi=>?_
  by_cases hi:i<l.length
  ·rw[bO hi,zah hi];rfl
  ·rw[zaK kD,zaK ab]
 have hr:=(Xc hO l.length).1;rw[ht]at hr;rw[hr];have adL:∀i,l.length<=i->(λi:Nat=>l[i]?.getD (-1)) i= -1:=λi hi=>by
  show l[i]?.getD (-1)= -1;rw[zaK hi];rfl
 generalize hOO:(λi:Nat=>l[i]?.getD (-1))=O at*;have h1:gy (λi=>qi O i&&!ct i) 128<=gy (λi=>(decide (0<i)&&(decide (i<l.length)&&bR O i))||(decide (i=l.length)&&decide (0<l.length))) 128:=sk λi hi h=>by
  simp only[zaU,Bool.not_eq_true']at h;have hi0:i≠0:=by rintro rfl;rw[h0]at h;cases h.2
  have h2:=h.1;unfold qi at h2;rw[decide_eq_true_eq]at h2;by_cases g:i<l.length
  ·have:bR O i=true:=by unfold bR;rw[decide_eq_true_eq];exact .inr h2
   simp[g,this];omega
  ·by_cases g2:i=l.length
   ·simp[g2];omega
   ·exfalso;refine h2 (.inl ⟨adL _ ab,adL _ ab⟩)
 refine zay h1 (zay tK ?_);by_cases hp:0<l.length
 ·have h2:gy (λi=>decide (0<i)&&(decide (i<l.length)&&bR O i)) 128=gy (λi=>decide (0<i)&&(decide (i<l.length)&&bR O i)) l.length:=am_ (λi hi=>by
   have:¬i<l.length:=ab;simp[this]) hl
  have h3:gy (λi=>decide (i=l.length)&&decide (0<l.length)) 128<=1:=by
   have h4:=xh (k:=l.length) (n:=128);have h5:gy (λi=>decide (i=l.length)&&decide (0<l.length)) 128<=gy (λi=>decide (i=l.length)) 128:=sk λi _ h=>(zaU _ _▸h).1
   have h6:(if l.length<128 then 1 else 0)<=1:=Bt;omega
  have h4:=Ed (p:=λi=>decide (i=0)) (q:=λi=>decide (0<i)&&(decide (i<l.length)&&bR O i)) (n:=l.length) λi _ h=>by
   simp only[decide_eq_true_eq,zaU]at h;omega
  have h5:gy (λi=>decide (i=0)||(decide (0<i)&&(decide (i<l.length)&&bR O i))) l.length<=gy (bR O) l.length:=sk λi hi h=>by
   simp only[decide_eq_true_eq,zaU,zbD]at h;rcases h with h|h
   ·unfold bR;simp[h]
   ·exact h.2.2
  have h6:=xh (k:=0) (n:=l.length);rw[if_pos hp]at h6;omega
 ·have h2:gy (λi=>decide (0<i)&&(decide (i<l.length)&&bR O i)) 128=0:=Bn λi _=>by
   have:¬i<l.length:=ab;simp[this]
  have h3:gy (λi=>decide (i=l.length)&&decide (0<l.length)) 128=0:=Bn λi _=>by simp[hp]
  omega
def afh(s:List UInt8)(n:Nat):(nG s n).length=gy (Xp (jf s 0)) n:=by unfold nG;rw[TW,zaC]
def asN{p q:Nat->Bool}{n:Nat}(h:∀i,i<n->p i=q i):gy (Xp p) n=gy (Xp q) n:=jq λi hi=>by
 unfold Xp;rw[h i hi];by_cases h0:i=0
 ·simp[h0]
 ·rw[h (i-1) ab]
def aGe(ps:List (List UInt8))(s:St):n_ (NZ s) (jz ps)=G8 ps s.pl:=by
 funext i;unfold n_ G8 nD NZ;cases h:jz ps i<;>simp
noncomputable def fdF(O:Nat->Int)(ne:Nat->Bool)(c:Nat):Bool:= @decide (∃i,i<128/\jX O ne i=true/\O i=(c:Int)) (Classical.propDecidable _)
def anI(O:Nat->Int)(ne:Nat->Bool)(c:Nat):fdF O ne c=true↔∃i,i<128/\jX O ne i=true/\O i=(c:Int):=by
 unfold fdF;exact @decide_eq_true_iff _ (Classical.propDecidable _)
def aCf{d:Dk}{a:At}(h0:aK d a=0)(hd:wU d)(hn:a.nm.length<=1000000){ps:List (List UInt8)}(hl:ps.length<=128):
 (nG (mG (cQ (sq ps (az a.rn.l) (df d)) d.n)) d.n).length<=(nG d.mp d.n).length+gy (k_ (NZ (ar d a)) (jz ps)) 128:=by
 obtain⟨ok,_⟩:=bc h0;have st:=ok.st hd hn;have Es:yw (az a.rn.l):=u0 ok.rn;have hb:=X6 st;have rK:=st.n;have hlen:=st.len;have Cy:(ar d a).pl=az a.rn.l:=rfl;have WW:(ar d a).d=d:=rfl;rw[Cy]at hb hlen;rw[WW]at hb rK;have Vv:=DF (l:=cQ (sq ps (az a.rn.l) (df d)) d.n) kD;rw[ck]at Vv;rw[afh,afh];have hF:=anI (NZ (ar d a)) (jz ps);have hbO:∀i,i<128->NZ (ar d a) i= -1\/(0<=NZ (ar d a) i/\NZ (ar d a) i<d.n):=λi _=>by
  unfold NZ;rw[Cy];cases hp:(az a.rn.l)[i]? with
  |none=>exact .inl rfl
  |some x=>have:=hb x (zag hp);simp only[zbC];omega
 have hiO:∀i j,i<128->j<128->NZ (ar d a) i≠ -1->NZ (ar d a) i=NZ (ar d a) j->i=j:=λi j _ _ h1 h2=>by
  unfold NZ at h1 h2;rw[Cy]at h1 h2;cases hp:(az a.rn.l)[i]? with
  |none=>rw[hp]at h1;exact absurd rfl h1
  |some x=>
   rw[hp,zbC]at h1 h2;cases hq:(az a.rn.l)[j]? with
   |none=>rw[hq]at h2;exact absurd h2 h1
   |some y=>
    rw[hq,zbC]at h2;subst h2;exact XD Es hp hq h1
 have h1:=aFJ (M:=128) (n:=d.n) (ne:=jz ps) hbO hiO hF;have h2:=aFN (jf d.mp 0) (fdF (NZ (ar d a)) (jz ps)) d.n;have e:gy (Xp (jf (mG (cQ (sq ps (az a.rn.l) (df d)) d.n)) 0)) d.n=gy (Xp λi=>jf d.mp 0 i||fdF (NZ (ar d a)) (jz ps) i) d.n:=asN λc hc=>by
  rw[zaN,zbD,anI];have hx:∀s:List UInt8,jf s 0 c=true↔bH s c=0:=λs=>by
   unfold jf;have:=mK s c;simp;try omega
  rw[hx,hx,Vv.2,if_pos hc,bO hc,zbC];have hbn:mS (sq ps (az a.rn.l) (df d) c)=0↔sq ps (az a.rn.l) (df d) c=false:=by cases sq ps (az a.rn.l) (df d) c<;>simp[mS]
  rw[hbn];show(if (c:Int)∈az a.rn.l then decide ((c:Int)∈Qg ps (az a.rn.l))else df d c)=false↔_;have SH:(c:Int)∈Qg ps (az a.rn.l)↔∃i,i<ps.length/\nD ps (az a.rn.l) i=c:=by
   unfold Qg;constructor
   ·intro h;obtain⟨i,hi,e⟩:=zaX.1 h;exact⟨i,zbm.1 hi,e⟩
   ·rintro⟨i,hi,e⟩;exact zaX.2 ⟨i,zbm.2 hi,e⟩
  by_cases hp:(c:Int)∈az a.rn.l
  ·rw[if_pos hp,decide_eq_false_iff_not,SH];obtain⟨j,hj⟩:=List.mem_iff_getElem?.1 hp;have HQ:j<128:=by have:=(zaa.1 hj).1;omega
   have hOj:NZ (ar d a) j=c:=by unfold NZ;rw[Cy,hj];rfl
   constructor
   ·intro h;right;refine⟨j,HQ,?_,hOj⟩;unfold jX;rw[zaU,decide_eq_true_eq,hOj];refine⟨?_,ab⟩;cases hn:jz ps j with
    |false=>rfl
    |true=>
     refine absurd ⟨j,wD hn,?_⟩ h;unfold nD;rw[if_pos hn,hj];rfl
   ·rintro(h|⟨i,hi,h3,h4⟩)
    ·have:=QX h0 hp;omega
    ·rintro⟨k,hk,hkc⟩;have sQ:=SD (ps:=ps) (pl:=az a.rn.l) (i:=k) ab;rw[hkc]at sQ;have hnk:=(Xd.1 (show nD ps (az a.rn.l) k≠ -1 by omega)).1;have zk:i=k:=by
      have h5:NZ (ar d a) k=c:=by unfold NZ;rw[Cy,sQ];rfl
      refine hiO i k hi ?_ ab ab;have:=(zaa.1 sQ).1;omega
     subst zk;unfold jX at h3;rw[hnk]at h3;simp at h3
  ·rw[if_neg hp];unfold df;rw[decide_eq_false_iff_not];have Gn:=mK d.mp c;constructor
   ·intro h;left;omega
   ·rintro(h|⟨i,hi,h3,h4⟩)
    ·omega
    ·exfalso;refine hp ?_;unfold NZ at h4;rw[Cy]at h4;cases hq:(az a.rn.l)[i]? with
     |none=>rw[hq]at h4;simp at h4
     |some x=>
      rw[hq,zbC]at h4;rw[<-h4];exact zag hq
 omega
def auH{d:Dk}{a:At}{C:List UInt8}{v:Int}{dt:Nat->Prop}(h0:aK d a=0)(hd:wU d)(hn:a.nm.length<=1000000)(hc:GZ (ar d a) C v dt)(PE:ahC (ar d a) dt)
 (hr:a.rn.l.length<=16) (hx:(nG d.mp d.n).length<=16):Md (ar d a) C v dt≠8:=by
 obtain⟨ok,_⟩:=bc h0;have st:=ok.st hd hn;have Es:yw (az a.rn.l):=u0 ok.rn;have hb:=X6 st;have rK:=st.n;have hlen:=st.len;obtain⟨s1,s2,s3,s4,s5⟩:=lE ok.str;have hC:=hc.len;have hv:=hc.vb;have qG:=sK (ar d a) C dt;have IH:(aQ (ar d a) C dt).length<=128:=Su;have Cy:(ar d a).pl=az a.rn.l:=rfl;have WW:(ar d a).d=d:=rfl;obtain⟨ct,c0,c1,c2⟩:=aAB hC PE;have hO:(λi=>(az a.rn.l)[i]?.getD (-1))=NZ (ar d a):=rfl;have hob:=aBe (l:=az a.rn.l) c0 (by rw[Cy]at hlen;exact hlen) (λx hx=>(hb x hx).1);have HH:=XP (l:=a.rn.l) λr hr=>by
  have:=(bZ ok.rn).2.2.2 r hr;unfold jZ at this;split at this<;>omega
 rw[hO]at hob;have aQi:=aCf h0 hd hn IH;have av2:=abK h0 hd hn (ps:=aQ (ar d a) C dt) ab;have tT:∀i,jz (aQ (ar d a) C dt) i=false->Be (ar d a) C dt i= -1:=λi hi=>by
  unfold Be CQ G8 nD;rw[hi];simp
 have hk:∀i,jz (aQ (ar d a) C dt) i=true->NZ (ar d a) i≠ -1->Be (ar d a) C dt i=NZ (ar d a) i:=λi hi h1=>by
  unfold Be CQ G8 nD;unfold NZ at h1 ⊢;rw[hi];simp[h1]
 have hbs:=ax8 (O:=NZ (ar d a)) (P:=Be (ar d a) C dt) tT hk c1 c2 ab;have hX:(nG (mG (cQ (sq (aQ (ar d a) C dt) (az a.rn.l) (df d)) d.n)) d.n).length<=64:=ab;have um:∀e,w_ (aQ (ar d a) C dt) (ar d a).pl (df (ar d a).d) (ar d a).d.n=e->e≠0->e=16:=λe he cb=>by
  subst he;rcases av2 cb with h|h
  ·exact h.1
  ·omega
 unfold Md;split
 ·rename_i g;rw[um _ rfl g];decide
 rename_i g;have g:=zcD.1 g;have fM:=aAx (O:=NZ (ar d a)) (P:=Be (ar d a) C dt) (ne:=jz (aQ (ar d a) C dt)) IH;have pl:=atl st Es (ps:=aQ (ar d a) C dt) ab g;have hP:∀i,-1<=Be (ar d a) C dt i:=λi=>by
  cases h:jz (aQ (ar d a) C dt) i with
  |false=>rw[tT i h];exact Int.le_refl _
  |true=>have:=(pl.yes i (wD h) h).1;unfold Be;omega
 have vu:=(Xc hP (aQ (ar d a) C dt).length).1;have hff:gy (nv (Be (ar d a) C dt) (n_ (NZ (ar d a)) (jz (aQ (ar d a) C dt)))) 128<=15+gy (k_ (NZ (ar d a)) (jz (aQ (ar d a) C dt))) 128:=by
  rw[aGe];by_cases hm:lT (aQ (ar d a) C dt) (ar d a).pl=0
  ·rw[Bn]
   ·omega
   ·intro i hi;have:G8 (aQ (ar d a) C dt) (ar d a).pl i=false:=by
     cases h:G8 (aQ (ar d a) C dt) (ar d a).pl i with
     |false=>rfl
     |true=>
      have cb:jz (aQ (ar d a) C dt) i=true:=by unfold G8 at h;exact(zaU _ _▸h).1
      have:=ae2 (wD cb) h;unfold lT at hm;omega
    unfold nv;rw[this];simp
  ·have hgt:=g;unfold w_ at hgt;rw[if_neg hm]at hgt;have gt:=auh st (ps:=aQ (ar d a) C dt) ab hm hgt;have bB:=gt.len;have n9:=XP (l:=Ju (mG (cQ (sq (aQ (ar d a) C dt) (ar d a).pl (df (ar d a).d)) (ar d a).d.n)) (ar d a).d.n (lT (aQ (ar d a) C dt) (ar d a).pl) (UZ (aQ (ar d a) C dt) (ar d a).pl (aQ (ar d a) C dt).length)) λr hr=>by have:=(gt.rn r hr).1;omega
   have pe:=ay6 st (ps:=aQ (ar d a) C dt) ab g;have zG:pN (aQ (ar d a) C dt) (ar d a).pl (df (ar d a).d) (ar d a).d.n=az (Ju (mG (cQ (sq (aQ (ar d a) C dt) (ar d a).pl (df (ar d a).d)) (ar d a).d.n)) (ar d a).d.n (lT (aQ (ar d a) C dt) (ar d a).pl) (UZ (aQ (ar d a) C dt) (ar d a).pl (aQ (ar d a) C dt).length)):=by unfold pN qv;rw[if_neg hm]
   have h1:=azl (P:=Be (ar d a) C dt) (G:=λk=>(pN (aQ (ar d a) C dt) (ar d a).pl (df (ar d a).d) (ar d a).d.n)[k]?.getD 0) (m:=G8 (aQ (ar d a) C dt) (ar d a).pl) (λi hi=>by
    show CQ _ _ _ i=_;unfold CQ;rw[if_pos hi,YH]) 128
   have AQ:gy (G8 (aQ (ar d a) C dt) (ar d a).pl) 128=lT (aQ (ar d a) C dt) (ar d a).pl:=by
    unfold lT;rw[YH];refine am_ (λi hi=>?_) IH;unfold G8;cases h:jz (aQ (ar d a) C dt) i with
    |false=>rfl
    |true=>have:=wD h;omega
   rw[<-zG]at n9;rw[Cy,WW]at bB n9 pe h1;rw[Cy]at AQ;generalize pN (aQ (ar d a) C dt) (az a.rn.l) (df d) d.n=fr at*;rw[AQ]at h1;have ht:cQ (λk:Nat=>fr[k]?.getD 0) fr.length=fr:=by
    refine zba λi=>?_
    by_cases hi:i<fr.length
    ·rw[bO hi,zah hi];rfl
    ·rw[zaK kD,zaK ab]
   have hGb:∀k,-1<=(λk:Nat=>fr[k]?.getD 0) k:=λk=>by
    show-1<=fr[k]?.getD 0;cases h:fr[k]? with
    |none=>simp
    |some x=>have:=(pe.2.2 x (zag h)).1;simp only[zbC];omega
   have hrf:=(Xc hGb fr.length).1;rw[ht,pe.1]at hrf;have h5:=Ed (p:=λi=>decide (i=0)) (q:=λk=>decide (0<k)&&decide (¬zC (fr[k-1]?.getD 0) (fr[k]?.getD 0))) (n:=lT (aQ (ar d a) C dt) (az a.rn.l)) λi _ h=>by
    simp only[decide_eq_true_eq,zaU]at h;omega
   have h6:=xh (k:=0) (n:=lT (aQ (ar d a) C dt) (az a.rn.l));rw[Cy]at hm;rw[if_pos ab]at h6;have h7:gy (λi=>decide (i=0)||(decide (0<i)&&decide (¬zC (fr[i-1]?.getD 0) (fr[i]?.getD 0)))) (lT (aQ (ar d a) C dt) (az a.rn.l))<=gy (bR λk:Nat=>fr[k]?.getD 0) (lT (aQ (ar d a) C dt) (az a.rn.l)):=sk λi hi h=>by
    unfold bR;simp only[decide_eq_true_eq,zaU,zbD]at h ⊢;exact h.imp id λg=>g.2
   rw[Cy];omega
 have hru:(nS (Cz (ar d a) C dt)).length<=64:=by
  show(nS (cQ (Be (ar d a) C dt) (aQ (ar d a) C dt).length)).length<=64;omega
 have IF:gu (Gv (ar d a) C v dt)=0:=by
  refine al_ s1 ?_ hC hv (λx hx=>?_) ?_ (by show(cQ _ _).length<=128;rw[ck];exact IH) hru
  ·show a.ty=128;omega
  ·obtain⟨i,hi,rfl⟩:=zaX.1 hx;cases h:jz (aQ (ar d a) C dt) i with
   |false=>exact .inl (tT i h)
   |true=>
    have:=pl.yes i (wD h) h;right;unfold Be;rw[WW]at this rK;rw[WW];omega
  ·refine Xt λi j x hi hj hxx=>?_
   have iX:i<(aQ (ar d a) C dt).length:=by have:=(zaa.1 hi).1;rwa[show(Cz (ar d a) C dt).length=(aQ (ar d a) C dt).length from ck]at this
   have HQ:j<(aQ (ar d a) C dt).length:=by have:=(zaa.1 hj).1;rwa[show(Cz (ar d a) C dt).length=(aQ (ar d a) C dt).length from ck]at this
   unfold Cz at hi hj;rw[bO iX]at hi;rw[bO HQ]at hj;have hi:=Option.some.inj hi;have hj:=Option.some.inj hj;refine pl.inj i j iX HQ ?_ (by show Be (ar d a) C dt i=Be (ar d a) C dt j;omega);cases h:jz (aQ (ar d a) C dt) i with
   |true=>rfl
   |false=>have:=tT i h;omega
 rw[if_neg]
 ·decide
 ·rintro(h|h)
  ·omega
  ·exact h IF
def GX(a b:List UInt8)(i:Nat):ta (a++b) i=if i<a.length then ta a i else ta b (i-a.length):=by
 unfold ta;split
 ·rw[zaq aA]
 ·rw[zak ab]
def L1(n i:Nat):ta (ai n) i=0:=by
 unfold ta ai;rw[zcZ];split<;>rfl
def sC(l:List UInt8)(n i:Nat):ta (l.take n) i=if i<n then ta l i else 0:=by
 unfold ta;split
 ·rw[List.getElem?_take_of_lt aA]
 ·rw[zaK eI];rfl
def Fs(l:List UInt8)(n i:Nat):ta (l.drop n) i=ta l (n+i):=by
 unfold ta;rw[List.getElem?_drop]
def Sq{l:List UInt8}{i:Nat}(h:l.length<=i):ta l i=0:=by
 unfold ta;rw[zaK h];rfl
def Xx(l:List UInt8)(n i:Nat):ta (mF l n) i=ta l i:=by
 unfold mF;rw[GX,L1];split
 ·rfl
 ·rw[Sq ab]
def Mv{a b:List UInt8}(h:a.length=b.length)(g:∀i,i<a.length->ta a i=ta b i):a=b:=by
 refine Bi rfl h.symm λi hi=>?_
 have:=g i hi;unfold ta at this;rw[zah hi,zah (show i<b.length by omega)]at this ⊢;simpa using this
def Py{C dat:List UInt8}{p:Nat}(i:Nat):ta (bW C p dat) i=if p<=i/\i<p+dat.length then ta dat (i-p)else ta C i:=by
 have hl:p+dat.length<=(mF C (p+dat.length)).length:=by unfold mF;rw[zad,bn];omega
 unfold bW;rw[GX,GX,zad,zal,show min p (mF C (p+dat.length)).length=p by omega,sC,Fs];by_cases h1:i<p
 ·rw[if_pos ab,if_pos h1,if_pos h1,if_neg ab,Xx]
 ·by_cases h2:i<p+dat.length
  ·rw[if_pos h2,if_neg h1,if_pos ⟨ab,h2⟩]
  ·rw[if_neg h2,if_neg ab,show p+dat.length+(i-(p+dat.length))=i by omega,Xx]
def Uv{C:List UInt8}{n:Nat}(i:Nat):ta (M9 C n) i=if i<n then ta C i else 0:=by
 unfold M9;rw[sC,Xx]
def aqc{a:At}{out:List UInt8}(h:0<=a.vd/\a.vd<=a.sz)(i:Nat):ta (nA a out) i=if (i:Int)<a.vd then ta out i else 0:=by
 unfold nA;rw[sC,Xx,sC];by_cases g:(i:Int)<a.vd
 ·rw[if_pos ab,if_pos ab,if_pos g]
 ·rw[if_neg g,if_neg (show ¬i<a.vd.toNat by omega)];split<;>rfl
def flat_get{α β:Type}{f:α->List β}{m:Nat}:∀{l:List α},(∀x∈l,(f x).length=m)→∀{i j:Nat},j<m->(l.flatMap f)[m*i+j]?=(l[i]?).bind λx=>(f x)[j]?
 |[],_,i,j,_=>by simp
 |x::l,h,0,j,hj=>by
  have hx:=h x aj;rw[zan,zaq ab];simp
 |x::l,h,i+1,j,hj=>by
  have hx:=h x aj;have ih:=flat_get (λy hy=>h y pT) (i:=i) hj (l:=l) (f:=f);have e:m*(i+1)+j-m=m*i+j:=by rw[zdQ];omega
  rw[zan,zak (by rw[zdQ];omega),hx,e,ih];simp
def auF{B:List UInt8}{l:List Int}(h:MH B l){i j:Nat}(hj:j<256)(hh:l[i]?.getD (-1)= -1):ta (rz B l) (256*i+j)=0:=by
 have hf:∀x∈l,(if x= -1 then ai 256 else eU B x.toNat).length=256:=λx hx=>by
  split
  ·exact bn 256
  ·rcases h x hx with g|g
   ·omega
   ·exact gI ab
 unfold ta rz;rw[flat_get hf hj];cases g:l[i]? with
 |none=>rfl
 |some x=>
  rw[g,zbC]at hh;rw[Option.bind_some,if_pos hh,LW hj];rfl
structure ajj(d:Dk)(a:At):Prop where
 sz:((aV (ar d a)).length:Int)=if a.rs=true then(a.vl.length:Int)else a.sz
 vd:0<=cG a/\cG a<=(aV (ar d a)).length
 z:∀i:Nat,cG a<=i->ta (aV (ar d a)) i=0
 hole:a.fl%2≠1→∀i,¬OS (ar d a) i→¬kG 0 a.vl.length i→∀j,j<256->ta (aV (ar d a)) (256*i+j)=0
 len:(aV (ar d a)).length<=32768
 fl:0<=a.fl/\a.fl<=2
def AD{a:At}(h:gu a=0):acN a:=by
 refine acN.of ?_;unfold gu at h;split at h
 ·rename_i g;exact sF
 ·rename_i g;exact K6
def qo{d:Dk}{a:At}(h0:aK d a=0):ajj d a:=by
 obtain⟨ok,_⟩:=bc h0;obtain⟨s1,_⟩:=lE ok.str;have xu:=AD s1;have hl:=Jh ok;have Ja:cG a=if a.rs=true then(a.vl.length:Int)else a.vd:=rfl;cases c_:a.rs with
 |true=>
  have hc:aV (ar d a)=a.vl:=by unfold aV;rw[if_pos (show(ar d a).a.rs=true from c_)];rfl
  rw[c_,if_pos rfl]at Ja;refine⟨by rw[hc,if_pos c_],by rw[hc];omega,λi hi=>?_,λ_ i _ h2 j hj=>?_,hl,ok.fl⟩
  ·rw[hc];exact Sq ab
  ·rw[hc];refine Sq ?_;unfold kG at h2;omega
 |false=>
  have hc:aV (ar d a)=nA a (if a.fl%2=1 then ow d.a_ (chunks (az a.rn.l))else rz d.a_ (az a.rn.l)):=by unfold aV;rw[if_neg (show ¬(ar d a).a.rs=true from λh=>ai8)];rfl
  obtain⟨_,o2,_,_,_,o6,o7⟩:=xu.ot c_;have hsv:=o6.2;rw[c_,if_neg ao]at Ja;have hlen:=OO a (if a.fl%2=1 then ow d.a_ (chunks (az a.rn.l))else rz d.a_ (az a.rn.l));have hz:=aqc (a:=a) (out:=if a.fl%2=1 then ow d.a_ (chunks (az a.rn.l))else rz d.a_ (az a.rn.l)) ⟨ab,o7⟩;have mE:(aV (ar d a)).length=a.sz.toNat:=by rw[hc];exact hlen
  refine⟨by rw[if_neg qD];omega,ab,λi hi=>?_,λhf i h1 _ j hj=>?_,hl,ok.fl⟩
  ·rw[hc,hz,if_neg ab]
  ·rw[hc,hz,if_neg hf];rw[afa]at h1;have h1:=zcD.1 h1;rw[auF ok.pl hj h1];split<;>rfl
def noT{f t:Int}{i j:Nat}(h:¬kG f t i)(hj:j<256):¬(f<=256*(i:Int)+j/\256*(i:Int)+j<t):=by
 unfold kG at h;omega
def aoc{d:Dk}{a:At}{p:Int}{dat:List UInt8}(hc:ajj d a)(hp:0<=p)(hl:p+dat.length<=32768):GZ (ar d a) (bW (aV (ar d a)) p.toNat dat) (max (cG a) (p+dat.length)) (b8 (ar d a) p (p+dat.length)):=by
 have h1:=hc.vd;have h2:=hc.len;have SL:=hc.fl;refine⟨by rw[xx];omega,by rw[xx];omega,λi hi=>?_,λhs i hn j hj=>?_⟩
 ·rw[Py,if_neg ab];exact hc.z i ab
 ·unfold b8 at hn;simp only[not_or]at hn;obtain⟨n1,n2,n3⟩:=hn;have:=noT n2 hj;rw[Py,if_neg ab];have e:(ar d a).a=a:=rfl;rw[e]at hs;exact hc.hole ab i n1 n3 j hj
def anp{d:Dk}{a:At}{n:Int}(hc:ajj d a)(hn:0<=n/\n<=32768):GZ (ar d a) (M9 (aV (ar d a)) n.toNat) (min (cG a) n) (Yk (ar d a)):=by
 have h1:=hc.vd;have h2:=hc.len;have SL:=hc.fl;refine⟨by rw[Ag];omega,by rw[Ag];omega,λi hi=>?_,λhs i hn j hj=>?_⟩
 ·rw[Uv];split
  ·exact hc.z i ab
  ·rfl
 ·unfold Yk at hn;simp only[not_or]at hn;have e:(ar d a).a=a:=rfl;rw[e]at hs;rw[Uv,hc.hole ab i hn.1 hn.2 j hj];split<;>rfl
def Yg{P:Nat->Prop}{lo hi:Nat}(h:∀i,P i↔(lo<=i/\i<hi)){i:Nat}(h0:1<=i)(h1:i≠lo)(h2:i≠hi):P (i-1)↔P i:=by
 rw[h,h];omega
def T4{f t:Int}(hf:0<=f)(ht:0<=t)(i:Nat):kG f t i↔(((f/256).toNat<=i/\i<(if f<t then((t+255)/256).toNat else 0))):=by
 unfold kG;split<;>omega
def aEU{d:Dk}{a:At}{f t:Int}(hf:0<=f)(ht:0<=t):ahC (ar d a) (b8 (ar d a) f t):=by
 intro _;refine⟨[(f/256).toNat,if f<t then((t+255)/256).toNat else 0,((0:Int)/256).toNat,if (0:Int)<a.vl.length then(((a.vl.length:Int)+255)/256).toNat else 0],aj,λi h1 hi=>?_⟩;simp only[zaw,zb3,or_false,not_or]at hi;obtain⟨n1,n2,n3,n4⟩:=hi;have g1:=Yg (T4 hf ht) h1 n1 n2;have g2:=Yg (T4 (f:=0) (t:=a.vl.length) ab ab) h1 n3 n4;have e:(ar d a).a.vl=a.vl:=rfl;unfold b8;rw[e];by_cases q:kG f t i\/kG 0 a.vl.length i
 ·left;have q2:kG f t (i-1:Nat)\/kG 0 a.vl.length (i-1:Nat):=q.imp g1.2 g2.2;exact⟨λ_=>.inr q,λ_=>.inr q2⟩
 ·right;have q2:¬(kG f t (i-1:Nat)\/kG 0 a.vl.length (i-1:Nat)):=λh=>q (h.imp g1.1 g2.1)
  exact⟨⟨.inl,λh=>h.resolve_right q2⟩,⟨.inl,λh=>h.resolve_right q⟩⟩
def aFF{d:Dk}{a:At}:ahC (ar d a) (Yk (ar d a)):=by
 intro _;refine⟨[((0:Int)/256).toNat,if (0:Int)<a.vl.length then(((a.vl.length:Int)+255)/256).toNat else 0],aj,λi h1 hi=>?_⟩;simp only[zaw,zb3,or_false,not_or]at hi;obtain⟨n3,n4⟩:=hi;have g2:=Yg (T4 (f:=0) (t:=a.vl.length) ab ab) h1 n3 n4;have e:(ar d a).a.vl=a.vl:=rfl;unfold Yk;rw[e];by_cases q:kG 0 a.vl.length i
 ·exact .inl ⟨λ_=>.inr q,λ_=>.inr (g2.2 q)⟩
 ·exact .inr ⟨⟨.inl,λh=>h.resolve_right λg=>q (g2.1 g)⟩,⟨.inl,λh=>h.resolve_right q⟩⟩
section
structure rL(d e:Dk)(a b:At)(C:List UInt8)(v:Int)(rs:Bool):Prop where
 op:aK e b=0
 su:adv d e a b
 fN:aV (ar e b)=C
 rs:b.rs=rs
 vd:b.rs=false->b.vd=v
 ty:b.ty=a.ty
 nm:b.nm=a.nm
 id:b.id=a.id
 fl:b.fl=a.fl
def Ny(d:Dk)(a:At)(e k:Int):Prop:=(e=8/\(16<a.rn.l.length\/16<(nG d.mp d.n).length))\/(e=16/\(d.n:Int)-oF d.mp d.n+(tV (az a.rn.l)).length<k)
def Ns(a:At)(n:Int)(l:List Bool):Int:=if a.fl%2=1 then 16*((n+4095)/4096)else if a.fl/2%2=1 then RF l else(n+255)/256
def Yt{a:At}(hr:a.rs=true):(T5 a).length=B5 (B5 (24+a.nm.length)+a.vl.length):=by
 have h1:=i_ (24+a.nm.length);have h2:=i_ (B5 (24+a.nm.length)+a.vl.length);have e3:uH a=24:=by unfold uH;rw[hr];rfl
 have e1:l8 a=B5 (24+a.nm.length):=by unfold l8;rw[e3]
 have e4:N8 a=a.vl:=by unfold N8;rw[hr];rfl
 have e2:Tk a=B5 (B5 (24+a.nm.length)+a.vl.length):=by unfold Tk;rw[e1,e4]
 have hf:(aso a).length=24:=by
  unfold aso atW;rw[hr];simp only[zad,gL,if_true]
 unfold T5;rw[zad,zad,zad,zad,hf,bE,bE,e2,e1,e3,e4];omega
def awG{a:At}{C:List UInt8}(h:gu a=0)(hC:C.length<=200\/(a.rs=true/\C.length=a.vl.length)):gu (Hx a C)=0:=by
 have ok:=AD h;have hl:C.length<=400:=by
  rcases hC with h|⟨h1,h2⟩
  ·omega
  ·have:=(ok.rs h1).2.2;omega
 have hk:Iv (Hx a C)=0:=by
  show Hy (Hx a C)=0;unfold Hy;rw[if_neg,if_neg]
  ·show ¬400<C.length;omega
  ·exact λh=>h ⟨rfl,rfl,rfl,rfl,rfl⟩
 have hw:(T5 (Hx a C)).length<=440:=by
  rw[Yt rfl];show B5 (B5 (24+a.nm.length)+C.length)<=440;rcases hC with g|⟨g1,g2⟩
  ·have h1:=i_ (24+a.nm.length);have h2:=i_ (B5 (24+a.nm.length)+C.length);have hn:=ok.nmL;omega
  ·rw[g2,<-Yt g1];unfold gu at h;split at h
   ·rename_i q;exact absurd h q
   split at h
   ·cases h
   ·omega
 unfold gu;rw[if_neg,if_neg ab];refine λh=>h ?_
 unfold TI;rw[if_neg,if_neg,if_neg,hk]
 ·exact λh=>h ok.idf
 ·exact λh=>h ok.nm
 ·exact λh=>h ok.S3
def aiu{d e:Dk}{a:At}{C:List UInt8}(h0:aK d a=0)(he:gm e=0)(hC:C.length<=200\/(a.rs=true/\C.length=a.vl.length)):aK e (Hx a C)=0:=by
 obtain⟨ok,_⟩:=bc h0;obtain⟨s1,s2,s3,s4,s5⟩:=lE ok.str;have hs:oT (Hx a C)=0:=by
  unfold oT;rw[awG s1 hC,if_neg aj,if_neg,if_neg,if_neg]
  ·show ¬32768<(0:Int);omega
  ·show ¬(0:Int)≠0;simp
  ·show ¬(a.ty≠128\/4<=a.fl\/a.fl=3);omega
 unfold aK;rw[he,hs,if_neg aj,if_neg aj];rfl
def aeo{d:Dk}{a:At}{C:List UInt8}{v:Int}(h0:aK d a=0)(hr:a.rs=true)(hC:C.length<=200\/(a.rs=true/\C.length=a.vl.length)):rL d d a (Hx a C) C v true:=by
 obtain⟨ok,_⟩:=bc h0;have lF:=(ok.res hr).1;refine⟨aiu h0 ok.dk hC,⟨⟨rfl,ok.dk⟩,λc hc=>?_⟩,rfl,rfl,(λh=>bV),rfl,rfl,rfl,rfl⟩;rw[lF];show E0 d d (tV (az [])) (tV (az [])) c;have e:tV (az [])=[]:=rfl;rw[e];unfold E0;refine⟨λ_=>⟨rfl,rfl⟩,λh=>?_,λh=>?_,λh=>?_⟩
 ·exact absurd h.1 aj
 ·exact absurd h aj
 ·exact absurd h.1 aj
section
variable {d:Dk} {a:At} {C:List UInt8} {v:Int} {dt:Nat->Prop}
def aiI(h0:aK d a=0)(hd:wU d)(hn:a.nm.length<=1000000)(hc:GZ (ar d a) C v dt)(he:Md (ar d a) C v dt=0):rL d (XY (ar d a) C dt) a (Gv (ar d a) C v dt) C v false:=by
 have hm:=Xo h0 hd hn hc he;exact⟨hm.op,atm hm,hm.fN,rfl,λ_=>rfl,rfl,rfl,rfl,rfl⟩
def akg(h0:aK d a=0)(hd:wU d)(hn:a.nm.length<=1000000)(hc:GZ (ar d a) C v dt)(he:cg (ar d a) C v dt=0):
 rL d (lQ (ar d a) C v dt) a (jK (ar d a) C v dt) C v (decide (a.rs=true/\C.length<=200)):=by
 have e1:(ar d a).a=a:=rfl;have e2:(ar d a).d=d:=rfl;unfold cg at he;unfold lQ jK;rw[e1]at he ⊢;by_cases h:a.rs=true/\C.length<=200
 ·rw[if_pos h,if_pos h,decide_eq_true h,e2];exact aeo h0 h.1 (.inl h.2)
 ·rw[if_neg h]at he;rw[if_neg h,if_neg h,decide_eq_false h,if_pos he,if_pos he];exact aiI h0 hd hn hc he
def atg(h0:aK d a=0)(hd:wU d)(hn:a.nm.length<=1000000)(hc:GZ (ar d a) C v dt)(PE:ahC (ar d a) dt)(he:Md (ar d a) C v dt≠0){k:Int}(hk:(aoK (aQ (ar d a) C dt):Int)<=k):Ny d a (Md (ar d a) C v dt) k:=by
 have qG:=sK (ar d a) C dt;have mE:=hc.len;have IH:(aQ (ar d a) C dt).length<=1000:=Su;have xp:Md (ar d a) C v dt=8->16<a.rn.l.length\/16<(nG d.mp d.n).length:=λh=>by
  by_cases g:a.rn.l.length<=16/\(nG d.mp d.n).length<=16
  ·exact absurd h (auH h0 hd hn hc PE g.1 g.2)
  ·omega
 have hfu:=abK h0 hd hn IH;by_cases h8:Md (ar d a) C v dt=8
 ·exact .inl ⟨h8,xp h8⟩
 ·right;unfold Md at he h8 ⊢;split at he
  ·rename_i g;rw[if_pos g]at h8 ⊢;rcases hfu g with⟨g1,g2⟩|⟨g1,g2⟩
   ·refine⟨g1,?_⟩;rw[Lc];have:=Bj d.mp d.n;omega
   ·exact absurd g1 h8
  ·rename_i g;rw[if_neg g]at h8;split at he
   ·rename_i g2;rw[if_pos g2]at h8;exact absurd rfl h8
   ·exact absurd rfl he
def auO(h0:aK d a=0)(hd:wU d)(hn:a.nm.length<=1000000)(hc:GZ (ar d a) C v dt)(PE:ahC (ar d a) dt)(he:cg (ar d a) C v dt≠0){k:Int}(hk:(aoK (aQ (ar d a) C dt):Int)<=k):
 ¬(a.rs=true/\C.length<=200)/\Ny d a (cg (ar d a) C v dt) k/\lQ (ar d a) C v dt=zD/\jK (ar d a) C v dt=zA:=by
 have e1:(ar d a).a=a:=rfl;unfold cg at he ⊢;unfold lQ jK;rw[e1]at he ⊢;split at he
 ·exact absurd rfl he
 ·rename_i h;rw[if_neg h,if_neg h,if_neg h,if_neg he,if_neg he];exact⟨h,atg h0 hd hn hc PE he hk,rfl,rfl⟩
def ar0(f:Nat->Bool)(n:Nat):RF ((List.range n).map f)=gy f n:=by
 induction n with
 |zero=>rfl
 |succ n ih=>
  rw[List.range_succ,List.map_append,cJ,<-ih];unfold RF;rw[List.countP_append];congr 1;simp[List.countP_cons]
def F9(n:Int):Iy n 256=(n+255)/256:=Cl
def akW{l:List Bool}(hl:a.fl%2≠1->a.fl/2%2=1→∃f,l=(List.range ((C.length+255)/256)).map f∧∀i,i<(C.length+255)/256->dt i->f i=true):(aoK (aQ (ar d a) C dt):Int)<=Ns a C.length l:=by
 have qG:=sK (ar d a) C dt;have e1:(ar d a).a=a:=rfl;rw[e1]at qG;have h1:=ak5 (jz (aQ (ar d a) C dt)) (aQ (ar d a) C dt).length;unfold Ns aoK;by_cases h:a.fl%2=1
 ·rw[if_pos h]at qG ⊢;omega
 ·rw[if_neg h]at qG ⊢;split
  ·rename_i g;obtain⟨f,rfl,hf⟩:=hl h g;rw[ar0,qG];have:=sk (p:=jz (aQ (ar d a) C dt)) (q:=f) (n:=(C.length+255)/256) λi hi cb=>hf i hi (((Pb (C:=C) (dt:=dt) (s:=ar d a) h).1 cb).2 g)
   omega
  ·omega
def Y7(h0:aK d a=0)(hd:wU d)(hn:a.nm.length<=1000000)(hc:GZ (ar d a) C v dt)(he:Md (ar d a) C v dt=0)(h1:¬a.fl%2=1)(h2:a.fl/2%2=1){f:Nat->Bool}(hf:∀i,i<(C.length+255)/256->(f i=true↔dt i)):
 (az (Gv (ar d a) C v dt).rn.l).map (λx=>decide (x≠ -1))=(List.range ((C.length+255)/256)).map f:=by
 have hm:=Xo h0 hd hn hc he;have qG:=sK (ar d a) C dt;have e1:(ar d a).a=a:=rfl;rw[e1,if_neg h1]at qG;rw[hm.plc];unfold Cz cQ;rw[qG,List.map_map];refine List.map_congr_left λi hi=>?_
 have hi:=zbm.1 hi;have hr:=Pb (C:=C) (dt:=dt) (s:=ar d a) h1 (i:=i);show decide (Be (ar d a) C dt i≠ -1)=f i;rw[zaN,decide_eq_true_eq,hf i hi];constructor
 ·intro g;cases cb:jz (aQ (ar d a) C dt) i with
  |false=>exact absurd (hm.pl.no i cb) g
  |true=>exact(hr.1 cb).2 h2
 ·intro g;have:=hm.pl.yes i ab (hr.2 ⟨hi,λ_=>g⟩);show Be _ _ _ i≠ -1;omega
end
def Rr(a:At)(f t:Int)(n:Nat):nJ a f t n=(List.range ((n+255)/256)).map (QT a f t):=by
 unfold nJ;rw[F9,show(((n:Int)+255)/256).toNat=(n+255)/256 by omega]
def af8{d:Dk}{a:At}{i:Nat}:Jc (az a.rn.l) i=true↔OS (ar d a) i:=by
 rw[afa];unfold Jc NZ;show _↔(az a.rn.l)[i]?.getD (-1)≠ -1;cases (az a.rn.l)[i]?<;>simp
def aua{d:Dk}{a:At}(h0:aK d a=0){f t:Int}(n7:f<t)(i:Nat):QT a f t i=true↔b8 (ar d a) f t i:=by
 obtain⟨ok,_⟩:=bc h0;obtain⟨s1,_⟩:=lE ok.str;have xu:=AD s1;unfold QT b8 kG;rw[zbD,zaU,zaU,decide_eq_true_eq,decide_eq_true_eq,decide_eq_true_eq];have e:(ar d a).a.vl=a.vl:=rfl;rw[e];cases c_:a.rs with
 |true=>
  have hh:¬OS (ar d a) i:=by
   rw[<-af8,(ok.res c_).1];unfold Jc;simp[az]
  rw[if_pos rfl,decide_eq_true_eq];constructor
  ·rintro(g|g)
   ·right;right;omega
   ·right;left;omega
  ·rintro(g|g|g)
   ·exact absurd g hh
   ·right;omega
   ·left;omega
 |false=>
  have hv:=(xu.ot c_).2.1;rw[if_neg ao,af8 (d:=d),hv];show _↔_\/_\/((0:Int)<min 0 _/\_);constructor
  ·rintro(g|g)
   ·exact .inl g
   ·right;left;omega
  ·rintro(g|g|g)
   ·exact .inl g
   ·right;omega
   ·omega
def afJ{d:Dk}{a:At}(h0:aK d a=0)(i:Nat):QT a 0 0 i=true↔Yk (ar d a) i:=by
 obtain⟨ok,_⟩:=bc h0;obtain⟨s1,_⟩:=lE ok.str;have xu:=AD s1;unfold QT Yk kG;rw[zbD,zaU,zaU,decide_eq_true_eq,decide_eq_true_eq,decide_eq_true_eq];have e:(ar d a).a.vl=a.vl:=rfl;rw[e];cases c_:a.rs with
 |true=>
  have hh:¬OS (ar d a) i:=by
   rw[<-af8,(ok.res c_).1];unfold Jc;simp[az]
  rw[if_pos rfl,decide_eq_true_eq];constructor
  ·rintro(g|g)
   ·right;omega
   ·omega
  ·rintro(g|g)
   ·exact absurd g hh
   ·left;omega
 |false=>
  have hv:=(xu.ot c_).2.1;rw[if_neg ao,af8 (d:=d),hv];show _↔_\/((0:Int)<min 0 _/\_);constructor
  ·rintro(g|g)
   ·exact .inl g
   ·omega
  ·rintro(g|g)
   ·exact .inl g
   ·omega
end
def anN{s b:List UInt8}{p:Nat}(h:p+b.length<=s.length)(i:Nat):ta (We s p b) i=if p<=i/\i<p+b.length then ta b (i-p)else ta s i:=by
 unfold We;rw[GX,GX,zad,zal,show min p s.length=p by omega,sC,Fs];by_cases h1:i<p
 ·rw[if_pos ab,if_pos h1,if_pos h1,if_neg ab]
 ·by_cases h2:i<p+b.length
  ·rw[if_pos h2,if_neg h1,if_pos ⟨ab,h2⟩]
  ·rw[if_neg h2,if_neg ab,show p+b.length+(i-(p+b.length))=i by omega]
def Hq{C dat:List UInt8}{p:Nat}(h:dat≠[]):yr C p dat=bW C p dat:=by
 have hd:=zcH.2 h;have hl:(M9 C (max C.length (p+dat.length))).length=max C.length (p+dat.length):=Ag _ _;unfold yr;rw[if_neg h];refine Mv (by rw[Yn ab,hl,xx]) λi hi=>?_
 rw[anN ab,Py,Uv];rw[Yn ab,hl]at hi;rw[if_pos hi]
def cf(a:At):Int:=if a.rs=true then a.vl.length else a.sz
def xV{d:Dk}{a:At}(hc:ajj d a):((aV (ar d a)).length:Int)=cf a:=hc.sz
def aah{d:Dk}{a:At}(h0:aK d a=0):(a.fl/2%2=1→¬a.fl%2=1):=by
 obtain⟨ok,_⟩:=bc h0;have:=ok.fl;omega
structure WrL(d:Dk)(a:At)(p:Int)(dat:List UInt8):Prop where
 ok:AO d a p dat=0->rL d (zM d a p dat) a (yV d a p dat) (yr (aV (ar d a)) p.toNat dat) (max (cG a) (p+dat.length)) (decide (a.rs=true/\max (cf a) (p+dat.length)<=200))/\
  (¬(a.rs=true/\max (cf a) (p+dat.length)<=200)->a.fl/2%2=1->(az (yV d a p dat).rn.l).map (λx=>decide (x≠ -1))=nJ a p (p+dat.length) (max (cf a) (p+dat.length)))
 er:AO d a p dat≠0→¬(a.rs=true/\max (cf a) (p+dat.length)<=200)/\zM d a p dat=zD/\yV d a p dat=zA/\Ny d a (AO d a p dat) (Ns a (max (cf a) (p+dat.length)) (nJ a p (p+dat.length) (max (cf a) (p+dat.length))))
def Uz{d:Dk}{a:At}{p:Int}{dat:List UInt8}(h0:aK d a=0)(hd:wU d)(hn:a.nm.length<=1000000)(hp:0<=p)(hl:p+dat.length<=32768)(cb:dat≠[]):WrL d a p dat:=by
 have hc:=qo h0;have Gq:=zcH.2 cb;have UH:=aoc hc hp hl;have PE:=aEU (d:=d) (a:=a) (f:=p) (t:=p+dat.length) hp ab;have Gy:yE d a p dat=0:=ZF;have hE:AO d a p dat=cg (ar d a) (bW (aV (ar d a)) p.toNat dat) (max (cG a) (p+dat.length)) (b8 (ar d a) p (p+dat.length)):=by unfold AO;rw[Gy,if_neg z0,if_neg cb]
 have hD:zM d a p dat=lQ (ar d a) (bW (aV (ar d a)) p.toNat dat) (max (cG a) (p+dat.length)) (b8 (ar d a) p (p+dat.length)):=by unfold zM;rw[Gy,if_neg z0,if_neg cb]
 have hA:yV d a p dat=jK (ar d a) (bW (aV (ar d a)) p.toNat dat) (max (cG a) (p+dat.length)) (b8 (ar d a) p (p+dat.length)):=by unfold yV;rw[Gy,if_neg z0,if_neg cb]
 have hlen:=xx (aV (ar d a)) p.toNat dat;have mD:=xV hc;have hS:((bW (aV (ar d a)) p.toNat dat).length:Int)=max (cf a) (p+dat.length):=ab;have zl:(a.rs=true/\(bW (aV (ar d a)) p.toNat dat).length<=200)↔(a.rs=true/\max (cf a) (p+dat.length)<=200):=by
  rw[<-hS];exact and_congr_right λ_=>ab
 have qY:=aah h0;refine⟨λhe=>?_,λhe=>?_⟩
 ·rw[hE]at he;rw[hD,hA,Hq cb];refine⟨?_,λhr hs=>?_⟩
  ·have:=akg h0 hd hn UH he;rwa[decide_eq_decide.2 zl]at this
  ·have e1:(ar d a).a=a:=rfl;have CW:=λh=>hr (zl.1 h)
   have qN:Md (ar d a) (bW (aV (ar d a)) p.toNat dat) (max (cG a) (p+dat.length)) (b8 (ar d a) p (p+dat.length))=0:=by
    unfold cg at he;rwa[e1,if_neg CW]at he
   unfold jK;rw[e1,if_neg CW,if_pos qN,<-hS,Rr];exact Y7 h0 hd hn UH qN (qY hs) hs λi _=>aua h0 ab i
 ·rw[hE]at he;rw[hD,hA,hE,<-hS];have hk:=akW (d:=d) (a:=a) (C:=bW (aV (ar d a)) p.toNat dat) (dt:=b8 (ar d a) p (p+dat.length)) (l:=nJ a p (p+dat.length) ((bW (aV (ar d a)) p.toNat dat).length:Nat)) λg1 g2=>⟨_,Rr _ _ _ _,λi _ h=>(aua h0 ab i).2 h⟩
  obtain⟨r1,r2,r3,r4⟩:=auO h0 hd hn UH PE he hk;exact⟨λh=>r1 ⟨h.1,ab⟩,r3,r4,r2⟩
structure SzL(d:Dk)(a:At)(n:Int):Prop where
 ok:Jb d a n=0->rL d (Jf d a n) a (LA d a n) (M9 (aV (ar d a)) n.toNat) (min (cG a) n) (decide (a.rs=true/\n<=200))/\
  (¬(a.rs=true/\n<=200)->a.fl/2%2=1->(az (LA d a n).rn.l).map (λx=>decide (x≠ -1))=nJ a 0 0 n)
 er:Jb d a n≠0→¬(a.rs=true/\n<=200)/\Jf d a n=zD/\LA d a n=zA/\Ny d a (Jb d a n) (Ns a n (nJ a 0 0 n))
def af3{d:Dk}{a:At}{n:Int}(h0:aK d a=0)(hd:wU d)(hn:a.nm.length<=1000000)(hp:0<=n/\n<=32768):SzL d a n:=by
 have hc:=qo h0;have UH:=anp hc hp;have PE:=aFF (d:=d) (a:=a);have Gy:D8 d a n=0:=Z9;have hE:Jb d a n=cg (ar d a) (M9 (aV (ar d a)) n.toNat) (min (cG a) n) (Yk (ar d a)):=by unfold Jb;rw[Gy,if_neg z0]
 have hD:Jf d a n=lQ (ar d a) (M9 (aV (ar d a)) n.toNat) (min (cG a) n) (Yk (ar d a)):=by unfold Jf;rw[Gy,if_neg z0]
 have hA:LA d a n=jK (ar d a) (M9 (aV (ar d a)) n.toNat) (min (cG a) n) (Yk (ar d a)):=by unfold LA;rw[Gy,if_neg z0]
 have hlen:=Ag (aV (ar d a)) n.toNat;have hS:((M9 (aV (ar d a)) n.toNat).length:Int)=n:=ab;have zl:(a.rs=true/\(M9 (aV (ar d a)) n.toNat).length<=200)↔(a.rs=true/\n<=200):=and_congr_right λ_=>ab
 have qY:=aah h0;refine⟨λhe=>?_,λhe=>?_⟩
 ·rw[hE]at he;rw[hD,hA];refine⟨?_,λhr hs=>?_⟩
  ·have:=akg h0 hd hn UH he;rwa[decide_eq_decide.2 zl]at this
  ·have e1:(ar d a).a=a:=rfl;have CW:=λh=>hr (zl.1 h)
   have qN:Md (ar d a) (M9 (aV (ar d a)) n.toNat) (min (cG a) n) (Yk (ar d a))=0:=by
    unfold cg at he;rwa[e1,if_neg CW]at he
   unfold jK;rw[e1,if_neg CW,if_pos qN];have h5:=Y7 h0 hd hn UH qN (qY hs) hs (f:=QT a 0 0) λi _=>afJ h0 i
   rw[h5,<-Rr,hS]
 ·rw[hE]at he;rw[hD,hA,hE];have hk:=akW (d:=d) (a:=a) (C:=M9 (aV (ar d a)) n.toNat) (dt:=Yk (ar d a)) (l:=nJ a 0 0 ((M9 (aV (ar d a)) n.toNat).length:Nat)) λg1 g2=>⟨_,Rr _ _ _ _,λi _ h=>(afJ h0 i).2 h⟩
  rw[hS]at hk;obtain⟨r1,r2,r3,r4⟩:=auO h0 hd hn UH PE he hk;exact⟨λh=>r1 ⟨h.1,ab⟩,r3,r4,r2⟩
def soS(d:Dk)(a:At):Prop:=wU d/\a.nm.length<=1000000/\aK d a=0
def JD(ps:List PV)(p:Prop):Prop:=∃(d:Dk) (a:At) (e k:Int),ps=[d.pv,a.pv,pI e,pI k]/\(soS d a/\d.mp.length<=100000)/\p=Ny d a e k
def afx:MT (ay [(77,c8 true Rf),(37,ah DO),(38,c8 false QH)]) Rq (bF JD):=by
 rintro _ K ⟨_,⟨d,a,e,k,rfl,⟨⟨h1,h2,h3⟩,h4⟩,rfl⟩,hK⟩;have ok:=(bc h3).1;obtain⟨bm1,bm2,bm3,_⟩:=iR ok.bm;have kr:=ok.nb;have lF:=(bZ ok.rn).1;have PI:=pR h1;have cM:=Bj d.mp d.n;have sS:=Lc (az a.rn.l);have Vr:bt (az a.rn.l)<=(az a.rn.l).length:=List.length_filter_le _ _;have qG:=ok.len;have s7:Rf [d.pv,a.pv] _:=⟨d,a,rfl,⟨PI,ab,ab,h4,ab⟩,rfl⟩
 have pe:DO [d.pv] _:=⟨d,rfl,⟨PI,ab⟩,rfl⟩
 have uR:QH [a.pv] _:=⟨a,rfl,ok.rn,rfl⟩
 have gJ:((tV (az a.rn.l)).map pI).length=(tV (az a.rn.l)).length:=zav _;have hex:nG d.mp d.n=bh (jf d.mp 0) d.n:=by unfold nG;rw[zaC]
 unfold Ny at hK;rw[hex]at hK
 (repeat'((conv=>whnf);first|refine⟨_,s7,?_⟩|refine⟨_,pe,?_⟩|refine⟨_,uR,?_⟩|refine bj ab ?_|refine de (λ_=>?_) (λ_=>?_)|refine bT ?_|fail))<;>try(conv=>whnf)
 all_goals exact⟨.pv (.bool _),rfl,trivial,hK _ (by first|(simp;omega)|(simp only[decide_eq_true_eq,Bool.false_eq_true,false_iff,true_iff];omega))⟩
def aAG(n:Int):16*Iy n 4096=16*((n+4095)/4096):=Cl
def lY(ps:List PV)(x:PV):Prop:=∃(a:At) (n:Int) (l:List Bool),ps=[a.pv,pI n,wq l]/\((0<=a.fl/\a.fl<=7)/\(0<=n/\n<=1000000)/\l.length<=1000000)/\x=pI (Ns a n l)
def Ue:MT (ay [(26,bF uJ),(76,ah Jv),(78,ah Mq)]) FV (ah lY):=by
 rintro _ K ⟨_,⟨a,n,l,rfl,⟨h1,h2,h3⟩,rfl⟩,hK⟩;have PE:Mq [wq l] _:=⟨l,rfl,h3,rfl⟩
 unfold Ns at hK;rw[<-aAG,<-F9]at hK
 (repeat'((conv=>whnf);first|(refine⟨_,⟨a,1,rfl,⟨h1,.inl rfl⟩,rfl⟩,?_⟩)|(refine⟨_,⟨a,2,rfl,⟨h1,.inr (.inl rfl)⟩,rfl⟩,?_⟩)|(refine⟨_,⟨n,_,rfl,ab,rfl⟩,?_⟩)|refine⟨_,PE,?_⟩|refine bj Cl ?_|refine de (λ_=>?_) (λ_=>?_)|fail))<;>try(conv=>whnf)
 ·rename_i x;rw[if_pos ab]at hK;exact aG
 ·rename_i y x;rw[if_neg ab,if_pos ab]at hK;exact aG
 ·rename_i y x;rw[if_neg ab,if_neg ab]at hK;exact aG
def OT{d e:Dk}{a b:At}{C:List UInt8}{v:Int}{rs:Bool}:rL d e a b C v rs↔aK e b=0/\adv d e a b/\aV (ar e b)=C/\b.rs=rs/\(b.rs=false->b.vd=v)/\b.ty=a.ty/\b.nm=a.nm/\b.id=a.id/\b.fl=a.fl:=
 ⟨λh=>⟨h.op,h.su,h.fN,h.rs,h.vd,h.ty,h.nm,h.id,h.fl⟩,λ⟨h1,h2,h3,h4,h5,h6,h7,h8,h9⟩=>⟨h1,h2,h3,h4,h5,h6,h7,h8,h9⟩⟩
def EC(ps:List PV)(p:Prop):Prop:=∃(d e:Dk) (a b:At) (C:List UInt8) (v:Int) (rs:Bool),ps=[d.pv,e.pv,a.pv,b.pv,.agg [.str C,pI v,pB rs]]/\(soS d a/\fH e/\b.nm.length<=1000000)/\p=rL d e a b C v rs
set_option maxHeartbeats 2000000 in
def acz:MT (ay [(14,ah aW),(83,bF aa8),(23,ah dj)]) NJ (bF EC):=by
 rintro _ K ⟨_,⟨d,e,a,b,C,v,rs,rfl,⟨⟨h1,h2,h3⟩,h4,h5⟩,rfl⟩,hK⟩;have ok:=(bc h3).1;have nk:aW [e.pv,b.pv] _:=⟨e,b,rfl,⟨h4,h5⟩,rfl⟩
 rw[OT]at hK;by_cases sM:aK e b=0
 ·have ok2:=(bc sM).1;have CY:dj [e.pv,b.pv] _:=⟨e,b,rfl,⟨h4,sM⟩,rfl⟩
  (repeat'((conv=>whnf);first|refine⟨_,nk,?_⟩|refine⟨_,⟨d,e,a,b,rfl,⟨pR h1,h4,ok.dk,ok.rn,ok2.rn⟩,rfl⟩,?_⟩|refine⟨_,CY,?_⟩|refine aN ?_|refine bP ?_|refine aw ab ?_|refine de (λ_=>?_) (λ_=>?_)|refine bT ?_|fail))<;>try(conv=>whnf)
  all_goals exact PN
 ·(repeat'((conv=>whnf);first|refine⟨_,nk,?_⟩|refine au ab ?_|refine bT ?_|fail))<;>try(conv=>whnf)
  all_goals exact PN
def CM(ps:List PV)(x:PV):Prop:=ps=[]/\x=pB true
def kU(d:Dk)(a:At):aK d (aB a)=aK d a:=FB
def Hm(d:Dk)(a:At):aV (ar d (aB a))=aV (ar d a):=FB
def P9(d e:Dk)(a b:At)(C:List UInt8)(v:Int)(rs:Bool):rL d e (aB a) b C v rs↔rL d e a b C v rs:=by
 rw[OT,OT];exact Iff.rfl
def xT{d e:Dk}{a b:At}{C:List UInt8}{v:Int}{rs:Bool}(h:rL d e a b C v rs)(hd:wU d):fH e/\wU e/\e.mp.length<=100/\dU b.rn.l=0/\b.rn.l.length<=1000000:=by
 have ok:=(bc h.op).1;obtain⟨b1,b2,b3,b4,_⟩:=iR ok.bm;have:=ok.nb;have hl:=h.su.1.1;have h1:=hd.1;have XJ:e.mp.length<=100:=by unfold sx at b4;omega
 have:=(bZ ok.rn).1;exact⟨⟨ab,ab⟩,⟨ab,ab⟩,XJ,ok.rn,ab⟩
def lC(e:Int):asO zD zA e e:=⟨rfl,rfl,rfl,rfl,rfl,rfl,rfl,rfl,rfl,rfl,rfl,rfl,rfl⟩
def atp{y:PV}(h:∃zs,y=.agg zs/\ou [.str,.str] zs):∃d:Dk,y=d.pv:=by
 obtain⟨zs,rfl,h⟩:=h;simp only[ou,O1]at h;obtain⟨_,_,rfl,⟨b,rfl,_⟩,_,_,rfl,⟨m,rfl,_⟩,rfl⟩:=h;exact⟨⟨b,m⟩,rfl⟩
def auD{y:PV}(h:∃zs,y=.agg zs/\ou [.int .i64,.str,.int .i64,.int .i64,.bool,.str,.int .i64,.sl true [.int .i64,.int .i64],.int .i64,.int .i64,.int .i64] zs):∃a:At,y=a.pv:=by
 obtain⟨zs,rfl,h⟩:=h;simp only[ou,O1]at h;obtain⟨_,_,rfl,⟨ty,rfl,_⟩,_,_,rfl,⟨nm,rfl,_⟩,_,_,rfl,⟨id,rfl,_⟩,_,_,rfl,⟨fl,rfl,_⟩,_,_,rfl,⟨rs,rfl⟩,_,_,rfl,⟨vl,rfl,_⟩,_,_,rfl,⟨ft,rfl,_⟩,_,_,rfl,⟨aC,rfl,_,he⟩,_,_,rfl,⟨al,rfl,_⟩,_,_,rfl,⟨sz,rfl,_⟩,_,_,rfl,⟨vd,rfl,_⟩,rfl⟩:=h;obtain⟨l,rfl,_⟩:=awZ (g:=Rn.pv) (q:=λ_=>True) λz hz=>by
  obtain⟨zs,rfl,y,ys,rfl,⟨a,rfl,_⟩,y2,ys2,rfl,⟨b,rfl,_⟩,rfl⟩:=(he z hz).1 trivial;exact⟨⟨a,b⟩,rfl,trivial⟩
 exact⟨⟨ty,nm,id,fl,rs,vl,ft,.sl l,al,sz,vd⟩,rfl⟩
def aqE{y:PV}(h:∃zs,y=.agg zs/\ou [.int .i64,.int .i64,.str,.int .i64,.int .i64] zs):∃(p n:Int) (dat:List UInt8) (t:Rn),y=.agg [pI p,pI n,.str dat,pI t.s,pI t.n]:=by
 obtain⟨zs,rfl,h⟩:=h;simp only[ou,O1]at h;obtain⟨_,_,rfl,⟨p,rfl,_⟩,_,_,rfl,⟨n,rfl,_⟩,_,_,rfl,⟨dat,rfl,_⟩,_,_,rfl,⟨s,rfl,_⟩,_,_,rfl,⟨m,rfl,_⟩,rfl⟩:=h;exact⟨p,n,dat,⟨s,m⟩,rfl⟩
abbrev vt:Bool×List CT:=(true,[.str,.str])
abbrev wk:Bool×List CT:=(true,[.int .i64,.str,.int .i64,.int .i64,.bool,.str,.int .i64,.sl true [.int .i64,.int .i64],.int .i64,.int .i64,.int .i64])
abbrev Bl:Bool×List CT:=(true,[.int .i64,.int .i64,.str,.int .i64,.int .i64])
def LZ{xs:List PV}(h:xS [vt,wk,Bl] xs):∃(d:Dk) (a:At) (p n:Int) (dat:List UInt8) (t:Rn),xs=[d.pv,a.pv,.agg [pI p,pI n,.str dat,pI t.s,pI t.n]]:=by
 simp only[xS]at h;obtain⟨y,_,rfl,h1,_,z,_,rfl,h2,_,u,_,rfl,h3,_,rfl⟩:=h;obtain⟨d,rfl⟩:=atp (h1 trivial);obtain⟨a,rfl⟩:=auD (h2 trivial);obtain⟨p,n,dat,t,rfl⟩:=aqE (h3 trivial);exact⟨d,a,p,n,dat,t,rfl⟩
def anL(p:Nat->Bool):∀n,2*gy (Xp p) n<=n+(if 0<n/\p (n-1)=true then 1 else 0)
 |0=>by simp[gy]
 |n+1=>by
  have ih:=anL p n;rw[cJ,Nat.add_sub_cancel];unfold Xp at ih ⊢;by_cases hp:p n=true
  ·rw[if_pos (show 0<n+1/\p n=true from⟨ab,hp⟩),hp];by_cases h0:n=0
   ·subst h0;simp[gy]
   ·cases hq:p (n-1)with
    |true=>
     rw[hq,if_pos ⟨ab,rfl⟩]at ih;simp[h0];omega
    |false=>
     rw[hq,if_neg aj]at ih;simp;omega
  ·have hp:p n=false:=by simpa using hp
   rw[hp,if_neg aj];have:(if 0<n/\p (n-1)=true then 1 else 0)<=1:=Bt;simp;omega
def arN(s:List UInt8)(n:Nat):(nG s n).length<=(n+1)/2:=by
 rw[afh];have:=anL (jf s 0) n;have h2:(if 0<n/\jf s 0 (n-1)=true then 1 else 0)<=1:=Bt;omega
def aAg(l:List Int):(nS l).length<=l.length:=by
 have:∀n,n<=l.length->(nS (l.take n)).length<=n:=by
  intro n
  induction n with
  |zero=>intro _;simp[nS]
  |succ n ih=>
   intro hn;rw[Fh (zah (show n<l.length by omega))];have:=abJ (nS (l.take n)) l[n];have:=ih ab;omega
 have:=this l.length (Nat.le_refl _);rwa[List.take_length]at this
def ajE{d:Dk}{a:At}{C:List UInt8}{v:Int}{dt:Nat->Prop}(h0:aK d a=0)(hd:wU d)(hn:a.nm.length<=1000000)(hc:GZ (ar d a) C v dt)(h1:d.n<=120)(h2:(aQ (ar d a) C dt).length<=64):cg (ar d a) C v dt≠8:=by
 obtain⟨ok,_⟩:=bc h0;have st:=ok.st hd hn;have Es:yw (az a.rn.l):=u0 ok.rn;obtain⟨s1,s2,s3,s4,s5⟩:=lE ok.str;have WW:(ar d a).d=d:=rfl;have av2:=abK h0 hd hn (ps:=aQ (ar d a) C dt) ab;have hx:=arN (mG (cQ (sq (aQ (ar d a) C dt) (az a.rn.l) (df d)) d.n)) d.n;unfold cg;split
 ·decide
 unfold Md;split
 ·rename_i g;rcases av2 g with h|h
  ·rw[show(ar d a).pl=az a.rn.l from rfl,WW,h.1];decide
  ·omega
 rename_i g;have g:=zcD.1 g;have bJ:(Cz (ar d a) C dt).length=(aQ (ar d a) C dt).length:=ck;have HH:=aAg (Cz (ar d a) C dt);have pl:=atl st Es (ps:=aQ (ar d a) C dt) ab g;have tT:∀i,jz (aQ (ar d a) C dt) i=false->Be (ar d a) C dt i= -1:=pl.no;have IF:gu (Gv (ar d a) C v dt)=0:=by
  refine al_ s1 s2 hc.len hc.vb (λx hx=>?_) ?_ ab ab
  ·obtain⟨i,hi,rfl⟩:=zaX.1 hx;cases h:jz (aQ (ar d a) C dt) i with
   |false=>exact .inl (tT i h)
   |true=>
    have:=pl.yes i (wD h) h;right;unfold Be;rw[WW]at this;rw[WW];omega
  ·refine Xt λi j x hi hj hxx=>?_
   have iX:i<(aQ (ar d a) C dt).length:=aaX;have HQ:j<(aQ (ar d a) C dt).length:=by have:=(zaa.1 hj).1;omega
   unfold Cz at hi hj;rw[bO iX]at hi;rw[bO HQ]at hj;have hi:=Option.some.inj hi;have hj:=Option.some.inj hj;refine pl.inj i j iX HQ ?_ (by show Be (ar d a) C dt i=Be (ar d a) C dt j;omega);cases h:jz (aQ (ar d a) C dt) i with
   |true=>rfl
   |false=>have:=tT i h;omega
 rw[if_neg]
 ·decide
 ·rintro(h|h)
  ·omega
  ·exact h IF
def asl{d:Dk}{a:At}{p:Int}{dat:List UInt8}(h0:aK d a=0)(hd:wU d)(hn:a.nm.length<=1000000)(hp:0<=p)(hl:p+dat.length<=16384)(hs:cf a<=16384)(cb:dat≠[])(hf:¬a.fl%2=1)(h1:d.n<=120)
 (hr:Ns a (max (cf a) (p+dat.length)) (nJ a p (p+dat.length) (max (cf a) (p+dat.length)))<=(d.n:Int)-oF d.mp d.n):AO d a p dat=0:=by
 refine Classical.byContradiction λhe=>?_
 have hc:=qo h0;have UH:=aoc hc hp (show p+dat.length<=32768 by omega);have hw:=(Uz h0 hd hn hp ab cb).er he;have Gy:yE d a p dat=0:=ZF;have hE:AO d a p dat=cg (ar d a) (bW (aV (ar d a)) p.toNat dat) (max (cG a) (p+dat.length)) (b8 (ar d a) p (p+dat.length)):=by unfold AO;rw[Gy,if_neg z0,if_neg cb]
 have mD:=xV hc;have qG:=sK (ar d a) (bW (aV (ar d a)) p.toNat dat) (b8 (ar d a) p (p+dat.length));rw[show(ar d a).a=a from rfl,if_neg hf,xx]at qG;have h8:=ajE h0 hd hn UH h1 ab;rw[<-hE]at h8;rcases hw.2.2.2 with h|h
 ·exact h8 h.1
 ·omega
def aGj{d:Dk}{a:At}{n:Int}(h0:aK d a=0)(hd:wU d)(hn:a.nm.length<=1000000)(hp:0<=n/\n<=16384)(hf:¬a.fl%2=1)(h1:d.n<=120)
 (hr:Ns a n (nJ a 0 0 n)<=(d.n:Int)-oF d.mp d.n):Jb d a n=0:=by
 refine Classical.byContradiction λhe=>?_
 have hc:=qo h0;have UH:=anp hc (show 0<=n/\n<=32768 by omega);have hw:=(af3 h0 hd hn ab).er he;have Gy:D8 d a n=0:=Z9;have hE:Jb d a n=cg (ar d a) (M9 (aV (ar d a)) n.toNat) (min (cG a) n) (Yk (ar d a)):=by unfold Jb;rw[Gy,if_neg z0]
 have qG:=sK (ar d a) (M9 (aV (ar d a)) n.toNat) (Yk (ar d a));rw[show(ar d a).a=a from rfl,if_neg hf,Ag]at qG;have h8:=ajE h0 hd hn UH h1 ab;rw[<-hE]at h8;rcases hw.2.2.2 with h|h
 ·exact h8 h.1
 ·omega
def an0{d e:Dk}{a b:At}(ho:adv d e a b)(hb:aK e b=0):oF e.mp d.n<=oF d.mp d.n+bt (az b.rn.l):=by
 obtain⟨ok,_⟩:=bc hb;have Es:yw (az b.rn.l):=u0 ok.rn;have hn:e.n=d.n:=by unfold Dk.n;rw[ho.1.1]
 have hm:=Mt (n:=d.n) Es λx hx=>by
  rcases ok.pl x hx with h|h
  ·exact .inl h
  ·right;unfold Dk.n at hn ⊢;omega
 rw[vp,vp,<-hm];refine zay (sk (q:=λc=>decide (bH d.mp c=1)||decide ((c:Int)∈az b.rn.l)) λc hc h=>?_) tK;have h:=of_decide_eq_true h;rw[zbD,decide_eq_true_eq,decide_eq_true_eq];have:=ho.2 c hc;unfold E0 at this;rw[Dl,Dl]at this;by_cases g:(c:Int)∈az b.rn.l
 ·exact .inr g
 ·left;by_cases g2:(c:Int)∈az a.rn.l
  ·have:=this.2.1 ⟨g2,g⟩;omega
  ·have:=(this.1 ⟨g2,g⟩).1;omega
def OC{d:Dk}{a:At}(h0:aK d a=0)(c_:a.rs=false)(hf:¬a.fl%2=1):((az a.rn.l).length:Int)=(a.sz+255)/256/\a.al=bt (az a.rn.l)*256/\(¬a.fl/2%2=1->bt (az a.rn.l)=(az a.rn.l).length)/\bI a.rn.l=(az a.rn.l).length:=by
 obtain⟨ok,oo⟩:=bc h0;obtain⟨_,yB,_⟩:=oo c_;unfold lJ at yB;rw[if_neg hf]at yB;have hs:=xA (l:=a.rn.l) λr hr=>by have:=rG ((bZ ok.rn).2.2.2 r hr);omega
 exact⟨yB.2.1,yB.1,λh=>yB.2.2.resolve_left h,hs.symm⟩
def anc{d:Dk}{a:At}(h0:aK d a=0):yP a.rn.l:=by
 have h:=bZ (bc h0).1.rn;exact agj ab h.2.1
def PJ(a:At):Td a a:=⟨rfl,rfl,rfl,rfl,rfl,rfl,rfl,rfl,rfl,rfl,rfl⟩
def aF1:SK.n=64:=by
 unfold Dk.n SK;rw[bn];rfl
def aJC:wU SK:=by
 refine⟨?_,ao⟩;show(ai (16384:Int).toNat).length<=200000;rw[bn];decide
def aFy:gm SK=0:=by
 unfold gm;rw[aF1,show SK.a_=ai (16384:Int).toNat from rfl,bn,if_neg ao,if_neg ao];show nu (255::ai 7) 64=0;decide+kernel
def ajZ{fl:Int}(h:oT (fU [] fl 1)=0):aK SK (fU [] fl 1)=0:=by
 unfold aK;rw[aFy,h,if_neg aj,if_neg aj];rfl
def aAX:oF SK.mp 64=8:=LM
def aGi:oT (fU [] 0 1)=0:=LM
def aFe:oT (fU [] 2 1)=0:=LM
def as2{l:List Int}:bt l=RF (l.map λx=>decide (x≠ -1)):=by
 unfold bt RF;rw[List.countP_map,List.countP_eq_length_filter];congr 1
def au5{d:Dk}{a:At}{p n:Int}{s:List UInt8}(h0:aK d a=0)(hd:wU d)(hn:a.nm.length<=1000000)(h1:0<=p/\p<=32768)(h2:0<=n/\n<=32768)(hl:s.length=min n.toNat ((aV (ar d a)).length-p.toNat))(hs:∀i,i<s.length->ta (aV (ar d a)) (p.toNat+i)=ta s i):
 oN [d.pv,a.pv,pI p,pI n] (.tup [.pv (.str s),.pv (pI 0)]):=by
 have hr:xN d a p n=0:=by unfold xN;rw[if_neg (λe=>e h0),if_pos ⟨h1,h2⟩]
 have hN:H2 d a p n=s:=by
  unfold H2;rw[if_pos hr];refine Mv (by rw[zal,zax,hl]) λi hi=>?_
  rw[zal,zax]at hi;rw[sC,if_pos ab,Fs,hs i ab]
 exact⟨d,a,p,n,rfl,⟨pR hd,hn⟩,by rw[hr,hN]⟩
structure AwF(D1 D2 D3 D4:Dk)(A1 A2 A3 A4:At)(X:List UInt8):Prop where
 n0:gV [.str [],pI 0,pI 1] (.tup [.pv (fU [] 0 1).pv,.pv (pI 0)])
 w1:fm [SK.pv,(fU [] 0 1).pv,pI 0,.str X] (.tup [.pv D1.pv,.pv A1.pv,.pv (pI 0)])
 a1:A1.al=512/\A1.sz=300/\A1.vd=300
 r1:oN [D1.pv,A1.pv,pI 296,pI 10] (.tup [.pv (.str [120,120,120,120]),.pv (pI 0)])
 s2:ko [D1.pv,A1.pv,pI 600] (.tup [.pv D2.pv,.pv A2.pv,.pv (pI 0)])
 a2:A2.vd=300
 l2:iu [qF A2.rn] (pI 3)
 w3:fm [D2.pv,A2.pv,pI 500,.str [121]] (.tup [.pv D3.pv,.pv A3.pv,.pv (pI 0)])
 a3:A3.vd=501
 r3:oN [D3.pv,A3.pv,pI 298,pI 4] (.tup [.pv (.str [120,120,0,0]),.pv (pI 0)])
 n2:gV [.str [],pI 2,pI 1] (.tup [.pv (fU [] 2 1).pv,.pv (pI 0)])
 w4:fm [SK.pv,(fU [] 2 1).pv,pI 1000,.str [122]] (.tup [.pv D4.pv,.pv A4.pv,.pv (pI 0)])
 a4:A4.al=256/\A4.vd=1001
 l4:iu [qF A4.rn] (pI 4)
 r4:oN [D4.pv,A4.pv,pI 998,pI 9] (.tup [.pv (.str [0,0,122]),.pv (pI 0)])
def asP{X:List UInt8}(hX:X.length=300)(hx:∀i,i<300->ta X i=120):∃(D1 D2 D3 D4:Dk) (A1 A2 A3 A4:At),AwF D1 D2 D3 D4 A1 A2 A3 A4 X:=by
 have o0:=ajZ aGi;have o2:=ajZ aFe;have lK:=aJC;have x3:=aF1;have jF:=aAX;have kp:∀fl,(fU [] fl 1).nm.length<=1000000:=λfl=>Nat.zero_le _
 have hz0:∀fl,cf (fU [] fl 1)=0:=λfl=>rfl
 have Ej:∀fl,cG (fU [] fl 1)=0:=λfl=>rfl
 have azS:∀fl,aV (ar SK (fU [] fl 1))=[]:=λfl=>rfl
 have ayL:X≠[]:=by rintro rfl;cases hX
 have e1:AO SK (fU [] 0 1) 0 X=0:=asl o0 lK (kp 0) ab ab (by rw[hz0];omega) ayL ao ab (by
  unfold Ns;rw[if_neg ao,if_neg ao,hz0,x3,jF];omega)
 have s1:=((Uz o0 lK (kp 0) ab ab ayL).ok e1).1;rw[decide_eq_false (by rintro⟨_,h⟩;rw[hz0]at h;omega),azS,Ej]at s1;have w1:fm [SK.pv,(fU [] 0 1).pv,pI 0,.str X] (.tup [.pv (zM SK (fU [] 0 1) 0 X).pv,.pv (yV SK (fU [] 0 1) 0 X).pv,.pv (pI (AO SK (fU [] 0 1) 0 X))]):=⟨_,_,_,_,rfl,⟨lK,kp 0,ao,ab⟩,rfl⟩
 rw[e1]at w1;generalize zM SK (fU [] 0 1) 0 X=D1 at*;generalize yV SK (fU [] 0 1) 0 X=A1 at*;have c1:=qo s1.op;have l1:(yr [] (0:Int).toNat X).length=300:=by rw[Hq ayL,xx];simp[hX]
 have z1:∀i,ta (aV (ar D1 A1)) i=if i<300 then 120 else 0:=λi=>by
  rw[s1.fN];by_cases h:i<300
  ·rw[if_pos h,Hq ayL,Py,if_pos aH];exact hx i h
  ·rw[if_neg h,Sq ab]
 have f1:A1.fl=0:=s1.fl;have g1:=xV c1;rw[s1.fN,l1]at g1;have mL:cf A1=A1.sz:=by unfold cf;rw[s1.rs];rfl
 have qR:cG A1=A1.vd:=by unfold cG;rw[s1.rs];rfl
 have v1:=s1.vd s1.rs;obtain⟨p1,p2,p3,p4⟩:=OC s1.op s1.rs (by rw[f1];decide);have p3:=p3 (by rw[f1];decide);obtain⟨k1,k2,k3,k4,k5⟩:=xT s1 lK;have n1:D1.n=64:=by unfold Dk.n at x3 ⊢;rw[<-s1.su.1.1];exact x3
 have m1:=an0 s1.su s1.op;rw[x3,jF]at m1;have nm1:A1.nm.length<=1000000:=by rw[s1.nm];exact kp 0
 have e2:Jb D1 A1 600=0:=aGj s1.op k2 nm1 ab (by rw[f1];decide) ab (by
  unfold Ns;rw[f1,if_neg ao,if_neg ao,n1];omega)
 have s2:=((af3 s1.op k2 nm1 (show(0:Int)<=600/\(600:Int)<=32768 by omega)).ok e2).1;rw[decide_eq_false (by rintro⟨h,_⟩;rw[s1.rs]at h;cases h)]at s2;have w2:ko [D1.pv,A1.pv,pI 600] (.tup [.pv (Jf D1 A1 600).pv,.pv (LA D1 A1 600).pv,.pv (pI (Jb D1 A1 600))]):=⟨_,_,_,rfl,⟨k2,nm1⟩,rfl⟩
 rw[e2]at w2;generalize Jf D1 A1 600=D2 at*;generalize LA D1 A1 600=A2 at*;have c2:=qo s2.op;have l2:(aV (ar D2 A2)).length=600:=by rw[s2.fN,Ag];rfl
 have f2:A2.fl=0:=by rw[s2.fl,f1]
 have g2:=xV c2;have eJ:cf A2=A2.sz:=by unfold cf;rw[s2.rs];rfl
 have Oh:cG A2=A2.vd:=by unfold cG;rw[s2.rs];rfl
 have v2:=s2.vd s2.rs;obtain⟨q1,q2,q3,q4⟩:=OC s2.op s2.rs (by rw[f2];decide);have q3:=q3 (by rw[f2];decide);obtain⟨k1',k2',k3',k4',k5'⟩:=xT s2 k2;have n2:D2.n=64:=by unfold Dk.n at n1 ⊢;rw[<-s2.su.1.1];exact n1
 have m2:=an0 s2.su s2.op;rw[n1]at m2;have nm2:A2.nm.length<=1000000:=by rw[s2.nm];exact nm1
 have e3:AO D2 A2 500 [121]=0:=asl s2.op k2' nm2 ab aj ab aj (by rw[f2];decide) ab (by
  unfold Ns;rw[f2,if_neg ao,if_neg ao,n2];simp only[zbN];omega)
 have s3:=((Uz s2.op k2' nm2 (show(0:Int)<=500 by omega) (show(500:Int)+([121]:List UInt8).length<=32768 by simp) aj).ok e3).1;rw[decide_eq_false (by rintro⟨h,_⟩;rw[s2.rs]at h;cases h)]at s3;have w3:fm [D2.pv,A2.pv,pI 500,.str [121]] (.tup [.pv (zM D2 A2 500 [121]).pv,.pv (yV D2 A2 500 [121]).pv,.pv (pI (AO D2 A2 500 [121]))]):=⟨_,_,_,_,rfl,⟨k2',nm2,k5',aj⟩,rfl⟩
 rw[e3]at w3;generalize zM D2 A2 500 [121]=D3 at*;generalize yV D2 A2 500 [121]=A3 at*;have v3:=s3.vd s3.rs;obtain⟨_,k23,_,_,_⟩:=xT s3 k2';have nm3:A3.nm.length<=1000000:=by rw[s3.nm];exact nm2
 have l3:(aV (ar D3 A3)).length=600:=by
  rw[s3.fN,Hq aj,xx,l2];rfl
 have z3:∀i,i<500->ta (aV (ar D3 A3)) i=if i<300 then 120 else 0:=λi hi=>by
  rw[s3.fN,Hq aj,Py,if_neg (by rw[show(500:Int).toNat=500 from rfl];omega),s2.fN,Uv,if_pos (by rw[show(600:Int).toNat=600 from rfl];omega),z1]
 have ha4:nJ (fU [] 2 1) 1000 (1000+(([122]:List UInt8).length:Nat)) (max (cf (fU [] 2 1)) (1000+(([122]:List UInt8).length:Nat)))=[false,false,false,true]:=LM;have e4:AO SK (fU [] 2 1) 1000 [122]=0:=asl o2 lK (kp 2) ab aj (by rw[hz0];omega) aj ao ab (by
  unfold Ns;rw[if_neg ao,if_pos ao,x3,jF,ha4];decide)
 have s4:=(Uz o2 lK (kp 2) (show(0:Int)<=1000 by omega) (show(1000:Int)+([122]:List UInt8).length<=32768 by simp) aj).ok e4;have uC:¬((fU [] 2 1).rs=true/\max (cf (fU [] 2 1)) (1000+(([122]:List UInt8).length:Nat))<=200):=ao;have t4:=s4.2 uC ao;have s4:=s4.1;rw[ha4]at t4;rw[decide_eq_false uC,azS,Ej]at s4;have w4:fm [SK.pv,(fU [] 2 1).pv,pI 1000,.str [122]] (.tup [.pv (zM SK (fU [] 2 1) 1000 [122]).pv,.pv (yV SK (fU [] 2 1) 1000 [122]).pv,.pv (pI (AO SK (fU [] 2 1) 1000 [122]))]):=⟨_,_,_,_,rfl,⟨lK,kp 2,ao,aj⟩,rfl⟩
 rw[e4]at w4;generalize zM SK (fU [] 2 1) 1000 [122]=D4 at*;generalize yV SK (fU [] 2 1) 1000 [122]=A4 at*;have v4:=s4.vd s4.rs;have f4:A4.fl=2:=s4.fl;obtain⟨r1,r2,_,r4⟩:=OC s4.op s4.rs (by rw[f4];decide);have hu4:bt (az A4.rn.l)=1:=by rw[as2,t4];rfl
 have hl4:(az A4.rn.l).length=4:=by
  have:=congrArg List.length t4;rw[zav]at this;exact this
 obtain⟨_,k24,_,_,_⟩:=xT s4 lK;have nm4:A4.nm.length<=1000000:=by rw[s4.nm];exact kp 2
 have l4:(aV (ar D4 A4)).length=1001:=by
  rw[s4.fN,Hq aj,xx];rfl
 have z4:∀i,ta (aV (ar D4 A4)) i=if i=1000 then 122 else 0:=λi=>by
  rw[s4.fN,Hq aj,Py,show(1000:Int).toNat=1000 from rfl,zbN];by_cases h:i=1000
  ·subst h;rfl
  ·rw[if_neg ab,if_neg h];rfl
 have LD:gV [.str [],pI 2,pI 1] (.tup [.pv (fU [] 2 1).pv,.pv (pI 0)]):=⟨[],2,1,rfl,ao,by rw[aFe,if_pos rfl]⟩
 have aLm:gV [.str [],pI 0,pI 1] (.tup [.pv (fU [] 0 1).pv,.pv (pI 0)]):=⟨[],0,1,rfl,ao,by rw[aGi,if_pos rfl]⟩
 have aLn:bI A2.rn.l=3:=ab;have aLo:bI A4.rn.l=4:=ab;refine⟨D1,D2,D3,D4,A1,A2,A3,A4,aLm,w1,?_,?_,w2,?_,?_,w3,?_,?_,LD,w4,?_,?_,?_⟩
 ·omega
 ·refine au5 s1.op k2 nm1 ab ab ?_ λi hi=>?_
  ·rw[s1.fN,l1];rfl
  ·rw[z1,show(296:Int).toNat=296 from rfl];have:i<4:=hi;obtain rfl|rfl|rfl|rfl:i=0\/i=1\/i=2\/i=3:=ab;all_goals rfl
 ·omega
 ·exact⟨A2.rn,rfl,anc s2.op,by rw[aLn]⟩
 ·simp only[zbN]at v3;omega
 ·refine au5 s3.op k23 nm3 ab ab ?_ λi hi=>?_
  ·rw[l3];rfl
  ·have:i<4:=hi;rw[show(298:Int).toNat=298 from rfl,z3 _ ab];obtain rfl|rfl|rfl|rfl:i=0\/i=1\/i=2\/i=3:=ab;all_goals rfl
 ·simp only[zbN]at v4;omega
 ·exact⟨A4.rn,rfl,anc s4.op,by rw[aLo]⟩
 ·refine au5 s4.op k24 nm4 ab ab ?_ λi hi=>?_
  ·rw[l4];rfl
  ·rw[z4,show(998:Int).toNat=998 from rfl];have:i<3:=hi;obtain rfl|rfl|rfl:i=0\/i=1\/i=2:=ab;all_goals rfl
set_option maxHeartbeats 4000000 in
def aco:MT (ay [(46,c8 false gV),(55,c8 false agU),(35,ah Ut),(12,c8 false fm),(44,c8 true oN),(30,c8 false ko),(56,ah iu)]) NG (ah CM):=by
 rintro _ K ⟨_,⟨rfl,rfl⟩,hK⟩;obtain⟨X,hX⟩:∃X:List UInt8,X=List.replicate (300:Int).toNat 120:=⟨_,rfl⟩
 have htx:Ut [.str [120],pI 300] (.str X):=⟨120,300,rfl,ab,by rw[hX]⟩
 have hl:X.length=300:=by rw[hX,List.length_replicate];rfl
 have hx:∀i,i<300->ta X i=120:=λi hi=>by
  unfold ta;rw[hX,zcZ,if_pos (show i<(300:Int).toNat from hi)];rfl
 obtain⟨D1,D2,D3,D4,A1,A2,A3,A4,F⟩:=asP hl hx;clear hX hx;have lO:agU [] (.pv SK.pv):=⟨rfl,rfl⟩
 have cO:∃Y,Y=SK:=⟨_,rfl⟩
 obtain⟨Y,hY⟩:=cO;have Vt:=F.w1;have hw4:=F.w4;rw[<-hY]at lO Vt hw4;clear hY;obtain⟨p1,p2,p3⟩:=F.a1;obtain⟨p4,p5⟩:=F.a4;have p6:=F.a2;have p7:=F.a3;have Gw:=F.r1;have pq:=F.r3
 (repeat'((conv=>whnf);first|refine oQ ?_|refine⟨_,F.n0,?_⟩|refine⟨_,lO,?_⟩|refine⟨_,htx,?_⟩|refine⟨_,Vt,?_⟩|refine⟨_,Gw,?_⟩|refine⟨_,F.s2,?_⟩|refine⟨_,F.w3,?_⟩|refine⟨_,pq,?_⟩|refine⟨_,F.n2,?_⟩|refine⟨_,hw4,?_⟩|refine⟨_,F.l2,?_⟩|refine⟨_,F.l4,?_⟩|refine aw (λh=>h rfl) ?_|refine au rfl ?_|refine au ab ?_|refine aw ab ?_|fail))<;>try(conv=>whnf)
 exact aI
section
def S6(C:List UInt8)(p:Nat):yr C p []=C:=by unfold yr;rw[if_pos rfl]
structure WrK(d:Dk)(a:At)(p:Int)(dat:List UInt8):Prop where
 op:aK (zM d a p dat) (yV d a p dat)=0
 fN:aV (ar (zM d a p dat) (yV d a p dat))=yr (aV (ar d a)) p.toNat dat
 sd:wU (zM d a p dat)
 nm:(yV d a p dat).nm.length=a.nm.length
 rn:(yV d a p dat).rn.l.length<=1000000
def atK{d e:Dk}{b:At}(h:aK e b=0)(hl:d.a_.length=e.a_.length)(hd:wU d):wU e:=by
 have ok:=(bc h).1;obtain⟨b1,b2,b3,b4,_⟩:=iR ok.bm;have:=ok.nb;have h1:=hd.1;exact⟨ab,by unfold sx at b4;omega⟩
def aw3{d:Dk}{a:At}{p:Int}{dat:List UInt8}(h0:aK d a=0)(hd:wU d)(hn:a.nm.length<=1000000)(hp:0<=p)(hl:p+dat.length<=32768)(he:AO d a p dat=0):WrK d a p dat:=by
 by_cases cb:dat=[]
 ·have Gy:yE d a p dat=0:=by unfold yE iU;rw[if_neg (λe=>e h0),if_neg (λe=>e ab),if_neg ab]
  have hD:zM d a p dat=d:=by unfold zM;rw[Gy,if_neg z0,if_pos cb]
  have hA:yV d a p dat={ a with rn:=.sl a.rn.l }:=by unfold yV;rw[Gy,if_neg z0,if_pos cb]
  have h1:aK d { a with rn:=.sl a.rn.l }=aK d a:=FB;have h2:aV (ar d { a with rn:=.sl a.rn.l })=aV (ar d a):=FB;have vu:=(bZ (bc h0).1.rn).1;refine⟨by rw[hD,hA,h1];exact h0,by rw[hD,hA,h2,cb,S6],by rw[hD];exact hd,by rw[hA],by rw[hA];show a.rn.l.length<=_;omega⟩
 ·have hs:=((Uz h0 hd hn hp hl cb).ok he).1;have vu:=(bZ (bc hs.op).1.rn).1;exact⟨hs.op,hs.fN,atK hs.op hs.su.1.1 hd,by rw[hs.nm],ab⟩
structure SzK(d:Dk)(a:At)(n:Int):Prop where
 op:aK (Jf d a n) (LA d a n)=0
 fN:aV (ar (Jf d a n) (LA d a n))=M9 (aV (ar d a)) n.toNat
 sd:wU (Jf d a n)
 nm:(LA d a n).nm.length=a.nm.length
def aB2{d:Dk}{a:At}{n:Int}(h0:aK d a=0)(hd:wU d)(hn:a.nm.length<=1000000)(hp:0<=n/\n<=32768)(he:Jb d a n=0):SzK d a n:=by
 have hs:=((af3 h0 hd hn hp).ok he).1;exact⟨hs.op,hs.fN,atK hs.op hs.su.1.1 hd,by rw[hs.nm]⟩
section
variable {d e:Dk} {a:At} {C:List UInt8} {v:Int} {dt:Nat->Prop}
end
end
def aAt(h1:an bb 231 (ah Pt))(h2:an bb 287 (sB anV)):∀k,an bb 277 (sB (aoh k)):=by
 intro k
 induction k with
 |zero=>
  refine⟨λe=>cz,λe=>cz,λ_ _ _ _ _ e=>cz,λ_ _ _ _ _ _ _ _ h=>(show False from h).elim,?_⟩;rintro w ok di σ0 eR xs vs K _ PD ub ⟨ap,f,N,a,m,b,c,near,_,_,hp,_⟩;exfalso;omega
 |succ k ih=>
  exact nE.rJ mixed (af h1 (af h2 (af ih aq))) (by rintro _ _ _ ⟨_,_,_,_,_,_,_,_,rfl,_⟩;rfl) (apq k)
def dQ(lone:Bool)(R:List PV->RV->Prop):ajo (c8 lone R):=⟨λe=>cz,λ_ _ h=>h,rfl⟩
def apT:ajo BX:=by
 refine⟨λ_=>⟨rfl,λps K h=>?_⟩,λ_ _ h=>h,rfl⟩;obtain⟨a,b,rfl,h1,h2⟩:=h;by_cases ha:a=0
 ·exact⟨pI b,h2 ha,λK' h=>⟨a,b,rfl,λh'=>absurd ha h',λ_=>h⟩⟩
 ·exact⟨pI a,h1 ha,λK' h=>⟨a,b,rfl,λ_=>h,λh'=>absurd h' ha⟩⟩
def rQ:=Qi.snd (by trivial) I0
def th:=Wl.snd (by exact⟨rQ,trivial⟩) No
def fJ:=Ul.snd (by exact⟨th,trivial⟩) Ki
def ja:=Ov.snd (by exact⟨fJ,trivial⟩) Hr
def rP:=Q7.snd (by trivial) IT
def uB:=DQ.snd (by trivial) Sj
def eZ:=Rh.snd (by trivial) IX
def kL:=Tz.snd (by trivial) JC
def ca:=Sh.snd (by trivial) I5
def c7:=WK.snd (by exact⟨ca,trivial⟩) MP
def gN:=Kr.snd (by exact⟨ja,trivial⟩) Er
def nh:=IK.snd (by exact⟨gN,trivial⟩) CI
def lr:=Gc.snd (by trivial) Ah
def tA:=VU.snd (by trivial) alL
def k7:=VY.snd (by exact⟨tA,trivial⟩) amt
def yZ:=IM.aD (by trivial) aqs
def sG:=I6.snd (by exact⟨ca,fJ,tA,trivial⟩) T8
def vD:=MA.snd (by exact⟨ca,eZ,kL,rP,ja,c7,trivial⟩) Zl
def q8:=GU.snd (by exact⟨vD,c7,trivial⟩) Qo
def vG:=M3.snd (by exact⟨ca,trivial⟩) Y2
def pF:=Si.snd (by trivial) ae4
def Aq:=RH.snd (by exact⟨pF,eZ,trivial⟩) afO
def yC:=QZ.snd (by exact⟨fJ,pF,c7,q8,trivial⟩) afI
def we:=Qc.snd (by trivial) akb
def mA:=MR.snd (by trivial) YU
def uP:=Iz.snd (by trivial) M7
def wI:=DQ.snd (by trivial) Np
def ej:=Vz.snd (by trivial) Nc
def dq:=ag5.snd (by trivial) Te
def jR:=amG.snd (by trivial) ZX
def vT:=aeZ.snd (by trivial) aiJ
def xK:=Vd.snd (by exact⟨vT,trivial⟩) ahr
def vS:=acL.snd (by trivial) amE
def Cb:=WJ.snd (by exact⟨wI,trivial⟩) acC
def eF:=aj6.snd (by exact⟨dq,trivial⟩) ae9
def KT:=ah9.snd (by exact⟨Cb,xK,eF,trivial⟩) agy
def nU:=JV.snd (by exact⟨uP,vS,ej,trivial⟩) PQ
def CB:=acw.snd (by exact⟨eF,trivial⟩) YN
def lq:=Iz.snd (by trivial) acU
def bw:=DQ.snd (by trivial) acX
def JI:=R2.snd (by exact⟨eF,trivial⟩) NU
def rZ:=Pr.snd (by trivial) as7
def wg:=acs.snd (by exact⟨nU,trivial⟩) alR
def ir:=BK.snd (by exact⟨rZ,trivial⟩) TS
def yz:=LK.snd (by exact⟨ir,trivial⟩) akQ
def kx:=Ga.snd (by exact⟨yz,ir,trivial⟩) ade
def sg:=Yj.snd (by trivial) aeY
def mb:an bb 180 BX:=Yw.sound mixed aq apT (by rintro _ _ ⟨_,_,rfl,_⟩;rfl) agS
def tO:=X7.snd (by exact⟨wg,mb,ej,lq,rZ,trivial⟩) ahs
def Gl:=ZZ.snd (by exact⟨lq,vS,trivial⟩) aip
def vC:=Pg.snd (by exact⟨Gl,trivial⟩) V4
def En:=VK.snd (by trivial) ahJ
def yA:=Q_.snd (by exact⟨En,trivial⟩) adf
def Pj:=afq.snd (by trivial) ar9
def vZ:=adp.snd (by trivial) amx
def jE:=KN.snd (by exact⟨Pj,yA,vZ,trivial⟩) ak8
def jV:=nw.aD (by trivial) al5
def lp:=oL.aD (by exact⟨jV,trivial⟩) ap8
def jg:=lx.aD (by exact⟨jE,trivial⟩) apR
def z7:=Uy.snd (by exact⟨wg,mb,ej,lq,trivial⟩) acD
def fG:=Gh.snd (by trivial) adq
def fD:=iO.snd (by exact⟨fG,trivial⟩) afY
def fB:=iL.aD (by exact⟨fD,fG,trivial⟩) agA
def y7:=K8.snd (by exact⟨kx,fB,fG,trivial⟩) akS
def yu:=LH.snd (by exact⟨y7,vZ,trivial⟩) amJ
def kB:=QM.snd (by trivial) kS
def Hz:=adw.snd (by trivial) Qv
def fA:=OP.snd (by trivial) jP
def D9:=ZC.snd (by trivial) OQ
def jo:=ac9.snd (by trivial) RG
def oK:=OM.snd (by trivial) uL
def nr:=acA.snd (by trivial) Sd
def fT:=acP.snd (by trivial) ae1
def Ae:=Wh.snd (by exact⟨fT,nr,jo,trivial⟩) Yf
def vV:=agd.snd (by exact⟨fT,trivial⟩) akf
def sE:=Th.aD (by exact⟨fT,trivial⟩) al1
def jr:=ac8.snd (by trivial) agW
def GQ:=adj.snd (by exact⟨bw,trivial⟩) ajL
def uc:=acZ.snd (by trivial) ads
def DU:=aat.snd (by trivial) agB
def BU:=V0.snd (by exact⟨DU,trivial⟩) adu
def iH:=Yd.snd (by trivial) abN
def KV:=acR.snd (by exact⟨GQ,uc,BU,iH,trivial⟩) acx
def KR:=ahF.snd (by exact⟨KV,trivial⟩) ah_
def tE:=TO.snd (by exact⟨Ae,vV,sE,jr,jo,trivial⟩) Wc
def jL:=Vd.snd (by exact⟨vT,trivial⟩) alr
def Q6:=aaz.snd (by trivial) apt
def vk:=alj.snd (by trivial) aqO
def ni:=acQ.snd (by trivial) afU
def dc:=Qc.snd (by trivial) Ye
def Bd:=X4.snd (by exact⟨bw,ni,jR,trivial⟩) Zo
def FP:=acK.snd (by exact⟨nr,trivial⟩) afr
def FM:=adl.snd (by trivial) agJ
def lu:=aaM.snd (by exact⟨tE,trivial⟩) ac2
def vL:=QA.snd (by exact⟨lu,fT,FP,FM,trivial⟩) Uu
def Bo:=aaZ.snd (by exact⟨Bd,ni,dc,trivial⟩) abv
def nF:=uY.snd (by trivial) Uk
def wF:=MN.snd (by exact⟨nF,trivial⟩) Wt
def HB:=acv.snd (by trivial) ac5
def DJ:=VD.snd (by exact⟨HB,trivial⟩) adB
def ka:=Js.snd (by trivial) Ro
def tU:=EF.snd (by exact⟨fA,kB,trivial⟩) afP
def D6:=Z3.snd (by exact⟨vk,trivial⟩) Zv
def yL:=TM.snd (by exact⟨vk,trivial⟩) SM
def tg:=E7.snd (by exact⟨DJ,trivial⟩) Wi
def x_:=Ni.snd (by trivial) YZ
def FN:=Wz.aD (by trivial) als
def Ai:=TG.snd (by trivial) acG
def wN:=MJ.snd (by trivial) adm
def Ak:=MZ.snd (by exact⟨vL,Ai,wN,FN,ka,trivial⟩) ac6
def Eg:=Y_.snd (by exact⟨jL,dc,trivial⟩) afw
def GI:=abI.snd (by exact⟨Bo,jL,ni,Q6,jR,iH,dc,Eg,trivial⟩) YD
def Br:=TZ.snd (by exact⟨yL,bw,KR,iH,trivial⟩) Y1
def rC:=ajh.snd (by exact⟨D6,tg,bw,Br,x_,GI,trivial⟩) aiZ
def hH:=aeW.snd (by trivial) Ua
def mQ:=acq.snd (by exact⟨hH,trivial⟩) QO
def nX:=aaz.snd (by trivial) aay
def mC:=adF.snd (by exact⟨dq,trivial⟩) P0
def sa:=VC.snd (by exact⟨mC,dq,trivial⟩) MG
def yS:=T7.snd (by exact⟨hH,uB,sa,trivial⟩) P4
def sR:=Nh.snd (by exact⟨yS,mQ,trivial⟩) Lk
def xd:=PM.snd (by exact⟨sR,trivial⟩) Vw
def oU:=TV.snd (by exact⟨hH,trivial⟩) PU
def fg:=Wq.snd (by trivial) S0
def sn:=adn.snd (by exact⟨fg,trivial⟩) adr
def rU:=ZT.snd (by exact⟨fg,dq,mC,nX,mQ,xd,trivial⟩) VX
def rl:=JF.snd (by trivial) N0
def DV:=Ld.snd (by exact⟨we,sn,fg,rU,oU,rl,trivial⟩) H7
def bY:=X9.snd (by trivial) Pc
def bL:=VM.snd (by trivial) MW
def ri:=VT.snd (by trivial) MU
def dw:=VF.snd (by trivial) ML
def d_:=MV.snd (by trivial) Gg
def rm:=WM.snd (by trivial) Nf
def fh:=Qq.snd (by exact⟨ri,trivial⟩) IW
def kz:=Eh.snd (by trivial) IV
def ch:=yF.snd (by trivial) CC
def fI:=Fk.snd (by trivial) JG
def lS:=HP.snd (by exact⟨fI,trivial⟩) MB
def lf:=acJ.snd (by exact⟨dw,trivial⟩) Rp
def gz:=MO.snd (by exact⟨dw,trivial⟩) Tu
def qA:=Nr.snd (by trivial) TX
def mR:=IJ.snd (by trivial) OF
def lR:=IP.snd (by trivial) Kn
def wA:=Kz.snd (by trivial) M0
def jb:=QY.snd (by trivial) IQ
def CA:=VH.snd (by exact⟨dw,trivial⟩) Nl
def lN:=GF.snd (by trivial) agq
def qh:=CG.snd (by exact⟨lN,trivial⟩) VQ
def fV:=yM.snd (by trivial) Pp
def qX:=Cq.snd (by exact⟨fV,trivial⟩) adk
def nH:=ya.snd (by exact⟨qX,trivial⟩) SU
def jn:=Zs.snd (by exact⟨d_,tO,trivial⟩) ajH
def jt:=aa6.snd (by exact⟨vC,trivial⟩) ajC
def qC:=CD.snd (by exact⟨d_,nH,fV,dw,tO,trivial⟩) V_
def mq:=Pw.snd (by exact⟨bL,d_,nU,bY,trivial⟩) Wy
def gM:=Hn.snd (by trivial) ae8
def bx:=S2.snd (by trivial) Ty
def dT:=WN.snd (by trivial) Wa
def jy:=WC.snd (by exact⟨bx,KT,trivial⟩) V7
def eO:=aka.snd (by trivial) ajc
def AS:=aad.snd (by exact⟨eO,jL,trivial⟩) XZ
def pP:=aaT.snd (by exact⟨dT,trivial⟩) YM
def bp:=Fu.snd (by trivial) aqa
def CU:=MD.snd (by exact⟨gz,lR,qA,trivial⟩) arI
def CJ:=M1.snd (by exact⟨gz,lR,qA,trivial⟩) asD
def Ec:=OY.snd (by exact⟨gz,wA,trivial⟩) arR
def gC:=jS.snd (by trivial) aga
def A8:=Ql.snd (by trivial) aj9
def ru:=JF.snd (by trivial) Zt
def yY:=Vy.snd (by exact⟨bp,pP,DV,ru,trivial⟩) Wf
def bU:=ais.snd (by exact⟨jy,rC,eO,bp,bx,eF,A8,AS,yY,trivial⟩) aj2
def uN:=af5.snd (by trivial) agt
def l9:=ac7.snd (by trivial) adt
def I7:=Ld.snd (by exact⟨we,sn,fg,rU,oU,rl,trivial⟩) Tg
def cS:=Wo.snd (by exact⟨bp,eO,pP,I7,dc,dT,trivial⟩) Wk
def yp:=VZ.snd (by trivial) Tv
def bo:=Jn.snd (by exact⟨yp,trivial⟩) acO
def pg:=afz.snd (by trivial) aie
def se:=ac3.snd (by exact⟨dc,trivial⟩) adE
def nN:=V8.snd (by trivial) T0
def ff:=JT.snd (by exact⟨nN,trivial⟩) aiS
def tj:=ajd.snd (by exact⟨bp,trivial⟩) ao1
def qg:=agI.snd (by exact⟨bx,CB,trivial⟩) akU
def DW:=Yh.snd (by exact⟨jy,tj,bx,vk,eF,dT,trivial⟩) agr
def D7:=acE.snd (by exact⟨nX,trivial⟩) adz
def iE:=Ng.snd (by exact⟨bp,trivial⟩) ac4
def jT:=MY.snd (by exact⟨bp,jL,trivial⟩) alu
def CK:=Wp.snd (by exact⟨JI,sg,trivial⟩) ac_
def Ep:=aaB.snd (by exact⟨bx,CK,trivial⟩) afc
def Li:=agR.snd (by exact⟨dc,trivial⟩) TL
def x7:=afK.snd (by trivial) akY
def dN:=acV.snd (by trivial) ah3
def iK:=aaD.snd (by exact⟨ff,trivial⟩) agP
def oz:=age.snd (by exact⟨Ep,qg,tj,trivial⟩) afx
def iC:=Ub.snd (by exact⟨eO,jL,D7,trivial⟩) Ue
def mf:=adb.snd (by exact⟨bU,DW,cS,trivial⟩) acz
def ey:an bb 283 yg:=agN (af gN (af nh aq))
def pQ:an bb 131 (ah Lo):=aqk
def iq:an bb 223 (sB C4):=af2
def td:an bb 188 (sB ZR):=aqS
def mH:an bb 289 (ah qc):=af6
def jJ:an bb 213 L7:=alX aq
def kn:an bb 277 (sB ae_):=aAt jE lp 100000
def qk:an bb 192 (c8 true Xi):=aus
def kJ:=EO.snd (by exact⟨ey,trivial⟩) acI
def rB:=DS.snd (by exact⟨kJ,ey,trivial⟩) Zb
def sZ:=EU.snd (by exact⟨kJ,ey,trivial⟩) acM
def yQ:=J6.snd (by exact⟨rB,trivial⟩) alW
def wG:=IN.snd (by exact⟨yQ,trivial⟩) akd
def sU:=Ez.snd (by exact⟨wG,lr,sZ,c7,trivial⟩) ac1
def pn:=Ap.aD (by exact⟨iq,trivial⟩) Wg
def m_:=yq.aD (by exact⟨iq,trivial⟩) PW
def CH:=S5.snd (by exact⟨ca,sG,c7,pn,m_,yZ,td,k7,trivial⟩) ahS
def rj:=TY.snd (by exact⟨pQ,trivial⟩) aiO
def vK:=MS.snd (by exact⟨rj,sU,CH,mA,trivial⟩) aag
def mB:=I4.snd (by exact⟨rj,Aq,eZ,kL,yC,vG,mA,trivial⟩) To
def ll:=oJ.aD (by exact⟨jg,kn,trivial⟩) aqN
def eW:=gU.aD (by exact⟨ll,trivial⟩) afN
def wO:=R1.snd (by exact⟨z7,yu,kx,eW,jE,mb,ej,trivial⟩) V2
def uO:=MC.snd (by exact⟨mH,trivial⟩) Wb
def zi:=Nk.snd (by exact⟨uO,trivial⟩) RU
def vN:=M6.snd (by exact⟨zi,trivial⟩) RS
def oh:=zj.snd (by exact⟨vN,trivial⟩) Un
def lv:=vI.snd (by exact⟨oh,trivial⟩) Nq
def yv:=S9.snd (by exact⟨lv,trivial⟩) ZY
def B9:=V3.snd (by exact⟨yv,wF,trivial⟩) adg
def B0:=Sg.snd (by exact⟨D9,B9,Hz,trivial⟩) VR
def yD:=O8.snd (by exact⟨qk,trivial⟩) ae5
def vJ:=MX.snd (by exact⟨B0,fA,trivial⟩) Z7
def wm:=KZ.snd (by exact⟨qk,fA,kB,oK,tE,ka,trivial⟩) afi
def dO:=Bp.snd (by exact⟨yD,fA,vJ,oK,kB,tU,wm,Ak,trivial⟩) JJ
def vB:=Hi.snd (by exact⟨jJ,trivial⟩) ahK
def tX:=Bs.snd (by exact⟨jJ,trivial⟩) VJ
def vM:=Km.snd (by exact⟨tX,trivial⟩) acY
def iI:=Zn.snd (by exact⟨pQ,trivial⟩) OA
def ij:=WH.snd (by exact⟨iI,trivial⟩) Na
def iB:=IL.snd (by exact⟨vB,vM,trivial⟩) aiX
def wS:=IS.snd (by exact⟨ij,trivial⟩) ahL
def cw:=Fx.snd (by exact⟨ch,iB,lS,mB,wS,iI,fI,trivial⟩) acW
def rN:=Ei.snd (by exact⟨lf,ch,rm,iB,lN,kz,bL,trivial⟩) abw
def mw:=OK.snd (by exact⟨dO,bL,bY,trivial⟩) VO
def rA:=DR.snd (by exact⟨iB,lS,mB,lf,iI,trivial⟩) abH
def cY:=acu.snd (by exact⟨mq,mw,bY,jb,qC,rN,ch,rA,trivial⟩) ajq
def gZ:=Pe.snd (by exact⟨cY,cw,trivial⟩) VN
def rr:=VS.snd (by exact⟨cY,fh,bL,bY,cw,trivial⟩) afM
def my:=OH.snd (by exact⟨mw,trivial⟩) Wv
def uz:=He.snd (by exact⟨ch,ij,vK,rm,kz,CU,CJ,Ec,trivial⟩) agp
def u_:=Hw.aD (by exact⟨gz,dw,qh,jt,wO,jb,trivial⟩) agC
def oM:=K_.snd (by exact⟨uz,jn,u_,CA,lf,dO,jt,trivial⟩) ak9
def kH:=FU.snd (by exact⟨gM,oM,trivial⟩) ack
def gd:=Tr.snd (by exact⟨cY,fh,bL,bY,gC,cw,ij,mR,kH,trivial⟩) adi
def gk:=Us.snd (by exact⟨cY,fh,bL,bY,cw,ij,mR,kH,trivial⟩) V6
def eY:=acS.snd (by exact⟨my,Li,x7,gd,rr,gk,iH,trivial⟩) aco
end Go.Dv.Try
