/- Own work: parts of the proof, shortened and laid together by a tool of our own. -/
import Derived.Test.YtmdfbbcifbgdnaaGreatP4
import Derived.Test.YtmdfbbcifbgdnaaGreatProg
import Derived.KernelRfl
set_option linter.defProp false
set_option linter.unusedSimpArgs false
set_option linter.unusedVariables false
open List renaming getElem?_eq_getElem→C0, take_of_length_le→Gh, length_map→Eb, take_add_one→Kn, mem_of_getElem?→CX, length_take→C9, map_append→Iq, mem_of_mem_take→FL, length_cons→Dj
open Bool renaming false_eq_true→Kh
open And renaming intro→KN
namespace Go.Dv.Try
open Go Go.Dv Go.Proofs.Tryz Go.Proofs.Tryz
set_option maxRecDepth 100000
def EB:FC:=⟨[0,1,2,3,4,5,6,7,8,9,10],[⟨2,none⟩],aaq f4 [true] []⟩
def Vw:CO 4 EB 1:=bk f4 ak
def NH:FC:=⟨[0,1,2,3,4,5],[⟨2,none⟩,⟨3,none⟩],aaq f21 [] []⟩
def adn:CO 21 NH 1:=bk f21 ak
def adJ:FC:=⟨[0,1,4,5],[⟨4,none⟩],aaq f24 [] [[0,1,5]]⟩
def amf:CO 24 adJ 2:=bk f24 ak
def Sk:FC:=⟨[0,1,2,3,4,5,6],[⟨2,none⟩],aaq f25 [] [[1,3,4],[1,3,4,5,6]]⟩
def agX:CO 25 Sk 1:=bk f25 ak
def Wq:FC:=⟨[0,1,2,3,4,5,6],[⟨2,some (⟨true,4⟩)⟩],aaq f26 [true,true] [[1,2,3,4],[2,3,5,6]]⟩
def ahg:CO 26 Wq 1:=bk f26 ak
def Lk:FC:=⟨[0,1,2],[⟨2,none⟩],aaq f31 [] []⟩
def acr:CO 31 Lk 1:=bk f31 ak
def Sr:FC:=⟨[0,1,2,4],[⟨4,none⟩],aaq f82 [] []⟩
def agI:CO 82 Sr 2:=bk f82 ak
def Z3:FC:=⟨[0,1,2,3,4,5],[⟨2,none⟩],aaq f84 [] [[1,3,4]]⟩
def akE:CO 84 Z3 1:=bk f84 ak
def QI:FC:=⟨[0,2],[⟨2,none⟩],aaq f129 [] []⟩
def ag5:CO 129 QI 1:=bk f129 ak
end Go.Dv.Try
namespace Go.Dv.Try
open Go Go.Dv
def jQ(ps:List PV)(x:PV):Prop:=∃s:Int,ps=[pI s]/\(0<=s/\s<=62)/\x=pI ((2^s.toNat:Nat):Int)
def Te:MT (ay []) QI (ah jQ):=by
 rintro _ K ⟨_,⟨s,rfl,h,rfl⟩,hK⟩;refine⟨h.1,?_⟩;refine λy hy=>?_
 rw[aGh h]at hy;exact⟨.pv (pI _),bu hy.symm,trivial,hK⟩
def arG{α:Type}{a b:List α}(e:a=b){n:Nat}{x y:α}(hx:a[n]?=some x)(hy:b[n]?=some y):x=y:=by
 subst e;rw[hx]at hy;exact Option.some.inj hy
def awm{α:Type}{a b:List α}(hl:a.length=b.length)(h:∀(j:Nat) (x y:α),a[j]?=some x->b[j]?=some y->x=y):a=b:=by
 have:=ais (f:=id) hl h;simpa using this
def ajd(ps:List PV)(p:Prop):Prop:=∃a b:List Int,ps=[.sl 1 (a.map pI),.sl 1 (b.map pI)]/\(a.length<=1000000/\b.length<=1000000)/\p=(a=b)
set_option maxHeartbeats 2000000 in
def aon:MT (ay []) adJ (bF ajd):=by
 rintro _ K ⟨_,⟨a,b,rfl,⟨h1,h2⟩,rfl⟩,hK⟩;by_cases hl:a.length=b.length
 case neg=>
  have cb:¬a=b:=λe=>hl (by rw[e])
  (repeat'((conv=>whnf);first|refine au ab ?_|refine ez λ_=>?_|fail))<;>try(conv=>whnf)
  exact⟨.pv (.bool _),rfl,trivial,hK false (by simp only[cb,Kh])⟩
 (repeat'((conv=>whnf);first|refine aw ab ?_|refine ez λ_=>?_|fail))<;>try(conv=>whnf)
 refine⟨λm env σ=>∃n:Nat,(n+m=a.length∧∀j,j<n→∀x y,a[j]?=some x->b[j]?=some y->x=y)/\σ=[]/\env=[(0,.pv (.sl 1 (a.map pI))),(1,.pv (.sl 1 (b.map pI))),eN 5 n],a.length,⟨0,⟨ab,λj hj=>ab⟩,rfl,rfl⟩,?_⟩;rintro m env σ ⟨n,⟨hn,h0⟩,rfl,rfl⟩;by_cases aU:n<a.length
 ·obtain⟨x,hx⟩:∃x,a[n]?=some x:=⟨_,C0 aU⟩
  obtain⟨y,hy⟩:∃y,b[n]?=some y:=⟨_,C0 ab⟩
  have Wk:=oa (f:=pI) hx;have jX:=oa (f:=pI) hy;by_cases zn:x=y
  ·(repeat'((conv=>whnf);first|refine au ab ?_|refine⟨_,⟨ab,Wk⟩,?_⟩|refine⟨_,⟨ab,jX⟩,?_⟩|refine aw (λh=>h zn) ?_|refine bj ab ?_|refine ez λ_=>?_|refine bT ?_|fail))<;>try(conv=>whnf)
   refine⟨m-1,ab,n+1,⟨ab,λj hj x' y' dR cn=>?_⟩,rfl,rfl⟩;rcases Nat.lt_or_eq_of_le (Nat.le_of_lt_succ hj)with h1|h1
   ·exact h0 j h1 x' y' dR cn
   ·subst h1;rw[hx]at dR;rw[hy]at cn;cases dR;cases cn;exact zn
  ·have cb:¬a=b:=λe=>zn (arG e hx hy)
   (repeat'((conv=>whnf);first|refine au ab ?_|refine⟨_,⟨ab,Wk⟩,?_⟩|refine⟨_,⟨ab,jX⟩,?_⟩|refine ez λ_=>?_|refine bT ?_|fail))<;>try(conv=>whnf)
   exact⟨.pv (.bool _),rfl,trivial,hK false (by simp only[cb,Kh])⟩
 ·have he:a=b:=awm hl λj x y hx hy=>h0 j (by have:=eT hx;omega) x y hx hy
  (repeat'((conv=>whnf);first|refine aw ab ?_|refine ez λ_=>?_|fail))<;>try(conv=>whnf)
  exact⟨.pv (.bool _),rfl,trivial,hK true (by simp only[he])⟩
def acj:MT (ay []) Lk (ah bA):=by
 rintro _ K ⟨_,⟨d,rfl,h,rfl⟩,hK⟩
 (repeat'((conv=>whnf);first|refine l7 ab ?_|fail))<;>try(conv=>whnf)
 exact⟨.pv (pI _),bu so,trivial,hK⟩
def NK(ps:List PV)(p:Prop):Prop:=∃(d:Dk) (c:Nat),ps=[d.pv,pI c]/\(c<8*d.mp.length/\d.mp.length<=1000000)/\p=(bH d.mp c=1)
def akm:MT (ay [(129,ah jQ)]) Sr (bF NK):=by
 rintro _ K ⟨_,⟨d,c,rfl,⟨h1,h2⟩,rfl⟩,hK⟩;obtain⟨v,hv⟩:∃v,d.mp[c/8]?=some v:=qp;have hg:d.mp[((c:Int)/8).toNat]?=some v:=by rw[show((c:Int)/8).toNat=c/8 by omega];exact hv
 have Ja:=v.toNat_lt;have e8:((c:Int)%8).toNat=c%8:=ab;have hp:=Nat.two_pow_pos (c%8);have hq:v.toNat/2^(c%8)<=v.toNat:=Nat.div_le_self _ _;have eb:bH d.mp c=v.toNat/2^(c%8)%2:=by unfold bH;rw[hv];rfl
 have e:((v.toNat:Nat):Int).tdiv ((2^(c%8):Nat):Int)=((v.toNat/2^(c%8):Nat):Int):=Ls;rw[eb]at hK;generalize v.toNat/2^(c%8)=q at*;have hdiv:∀{K:Int->Prop},K ((q:Nat):Int)->((2^((c:Int)%8).toNat:Nat):Int)≠0∧∀r:Int,r=IntKind.i64.wrap (((v.toNat:Nat):Int).tdiv ((2^((c:Int)%8).toNat:Nat):Int))->K r:=by
  intro K k;rw[e8,e];refine⟨ab,λr hr=>?_⟩;have CW:=dB hr ab;rw[CW];exact k
 (repeat'((conv=>whnf);first|refine⟨_,⟨ab,hg⟩,?_⟩|refine hdiv ?_|(refine fe ?_;first|refine bj ab ?_|refine de (λ_=>?_) (λ_=>?_)|refine l7 ab ?_|refine lW ab ?_|refine bT ?_|refine⟨_,⟨_,rfl,cZ,rfl⟩,?_⟩|fail)))<;>try(conv=>whnf)
 all_goals exact YS
def afA{c:Nat}:∀{l:List At} {o i:Int} {a:At},yL c o i (l++[a])=if c∈Dc a then i+l.length else yL c o i l
 |[],o,i,a=>by simp[yL]
 |b::l,o,i,a=>by
  show yL c _ (i+1) (l++[a])=_;rw[afA,Dj];split
  ·omega
  ·rfl
def NY(ps:List PV)(r:RV):Prop:=∃v:Vo,ps=[v.pv]/\U1 v/\r=.fresh 3 1 ((b8 v).map pI)
def U1.n8{v:Vo}(h:U1 v):v.d.n<=512/\v.d.n<=8*v.d.mp.length/\v.d.mp.length<=1000000/\v.d.a_.length<=1000000:=by
 obtain⟨h1,h2,h3⟩:=rX h.dk;obtain⟨_,_,b3,b4,_⟩:=iR h3;have:=h.b.1;unfold fH at this;refine⟨h2,?_,this.2,this.1⟩;unfold sx at b4;omega
set_option maxHeartbeats 4000000 in
def agb:MT (ay [(31,ah bA),(82,bF NK),(53,c8 true BU),(83,bF YX)]) Sk (c8 true NY):=by
 rintro _ K ⟨_,⟨v,rfl,hv,rfl⟩,hK⟩;obtain⟨h1,h2,h3,h4⟩:=hv.n8;have hlen:=hv.len;have sM:=hv.op;have hc:bA [v.d.pv] (pI v.d.n):=⟨v.d,rfl,h4,rfl⟩
 have sS:=aj3 v
 (conv=>whnf)
 refine⟨λm env σ=>∃n:Nat,n+m=v.d.n/\σ=[.box 26 [.pv (.str v.d.a_),.pv (.str v.d.mp),.pv (D4 v.st)],.row 3 1 true (((b8 v).take n).map pI)]/\env=[(1,.ref 0 0 0),(3,.own 1),eN 4 n],v.d.n,⟨0,ab,rfl,rfl⟩,?_⟩;rintro m env σ ⟨n,hn,rfl,rfl⟩;by_cases aU:n<v.d.n
 case neg=>
  (repeat'((conv=>whnf);first|refine⟨_,hc,?_⟩|refine aw ab ?_|fail))<;>try(conv=>whnf)
  rw[Gh ab];exact⟨.fresh _ _ _,⟨rfl,rfl,rfl,rfl⟩,dn _,hK⟩
 have hq:NK [v.d.pv,pI n] _:=⟨v.d,n,rfl,⟨ab,h3⟩,rfl⟩
 have hl:(((b8 v).take n).map pI).length=n:=by rw[Eb,C9];omega
 have ht:(b8 v).take (n+1)=(b8 v).take n++[yL n (xd v.d n) 0 v.st.l]:=by
  rw[Kn,aiZ aU];rfl
 have fa:xd v.d n=if bH v.d.mp n=1 then-2 else-1:=rfl
 generalize (b8 v).take n=T at*;have aeT:(bH v.d.mp n=1/\xd v.d n= -2)\/(¬bH v.d.mp n=1/\xd v.d n= -1):=by
  by_cases hb:bH v.d.mp n=1
  ·exact .inl ⟨hb,by rw[fa,if_pos hb]⟩
  ·exact .inr ⟨hb,by rw[fa,if_neg hb]⟩
 clear fa;rcases aeT with⟨hb,fa⟩|⟨hb,fa⟩<;>rw[fa]at ht<;>((repeat'((conv=>whnf);first|refine⟨_,hc,?_⟩|refine au ab ?_|refine⟨_,hq,?_⟩|refine aw hb ?_|fail))<;>try(conv=>whnf))
 all_goals
  refine⟨λm2 env σ=>∃j:Nat,j+m2=v.st.l.length/\σ=[.box 26 [.pv (.str v.d.a_),.pv (.str v.d.mp),.pv (D4 v.st)],.row 3 1 true (T.map pI)]/\env=[(1,.ref 0 0 0),(3,.own 1),eN 4 n,eN 5 (yL n _ 0 (v.st.l.take j)),eN 6 j],v.st.l.length,⟨0,ab,rfl,rfl⟩,?_⟩;rintro m2 env σ ⟨j,hj,rfl,rfl⟩;by_cases HQ:j<v.st.l.length
  ·obtain⟨a,ha⟩:∃a,v.st.l[j]?=some a:=⟨_,C0 HQ⟩
   have qH:D4 v.st=.sl 11 (v.st.l.map At.pv):=Sl.zN ha;have bW:=oa (f:=At.pv) ha;obtain⟨q1,q2,q3⟩:=Re (sM a (CX ha));have hd:BU [a.pv] _:=⟨a,rfl,⟨ab,q3,ab⟩,rfl⟩
   have hH:YX [.sl 1 (aY (Dc a)),pI n] (Xv n∈(Dc a).map Xv):=⟨_,Xv n,rfl,by have:=ajE a;rw[Eb];omega,rfl⟩
   rw[asO]at hH;have kv:v.st.l.take (j+1)=v.st.l.take j++[a]:=by rw[Kn,ha];rfl
   have lR:=λo=>afA (c:=n) (l:=v.st.l.take j) (o:=o) (i:=0) (a:=a)
   have Ap:((v.st.l.take j).length:Int)=j:=eI;simp only[Ap,Int.zero_add,<-kv]at lR;rw[qH]
   (repeat'((conv=>whnf);first|refine au ab ?_|refine⟨_,⟨ab,bW⟩,?_⟩|refine⟨_,hd,?_⟩|refine⟨_,hH,?_⟩|refine bj ab ?_|refine de (λ_=>?_) (λ_=>?_)|refine ez λ_=>?_|fail))<;>try(conv=>whnf)
   ·rename_i x;exact⟨m2-1,ab,j+1,ab,rfl,by rw[lR,if_pos x];rfl⟩
   ·rename_i x;exact⟨m2-1,ab,j+1,ab,rfl,by rw[lR,if_neg x];rfl⟩
  ·(repeat'((conv=>whnf);first|refine KP ?_|refine aw ab ?_|refine KN ⟨by rw[hl];simp;omega,by rw[hl];simp;omega⟩ ?_|refine bj ab ?_|refine ez λ_=>?_|refine bT ?_|fail))<;>try(conv=>whnf)
   rw[Gh ab];exact⟨m-1,ab,n+1,ab,by rw[ht,Iq];rfl,rfl⟩
def abT(ps:List PV)(r:RV):Prop:=∃d:Dk,ps=[d.pv]/\(d.n<=1000/\d.n<=8*d.mp.length/\fH d)/\r=.fresh 37 2 ((acZ d).map Rn.pv)
set_option maxHeartbeats 4000000 in
def akJ:MT (ay [(31,ah bA),(82,bF NK)]) Z3 (c8 true abT):=by
 rintro _ K ⟨_,⟨d,rfl,⟨h1,h2,h4,h3⟩,rfl⟩,hK⟩;have hc:bA [d.pv] (pI d.n):=⟨d,rfl,h4,rfl⟩
 have Ar:=λn=>N0 (P:=λc=>¬bH d.mp c=1) (n:=n)
 have sD:=λn=>GJ (P:=λc=>¬bH d.mp c=1) (n:=n)
 have eH:=ah9 (λc=>¬bH d.mp c=1);unfold acZ at hK
 (conv=>whnf)
 refine⟨λm env σ=>∃n:Nat,n+m=d.n/\σ=[.box 23 [.pv (.str d.a_),.pv (.str d.mp)],.row 37 2 true ((ae (λc=>¬bH d.mp c=1) n).map Rn.pv)]/\env=[(1,.ref 0 0 0),(3,.own 1),eN 4 n],d.n,⟨0,ab,rfl,rfl⟩,?_⟩;rintro m env σ ⟨n,hn,rfl,rfl⟩;by_cases aU:n<d.n
 case neg=>
  (repeat'((conv=>whnf);first|refine⟨_,hc,?_⟩|refine aw ab ?_|fail))<;>try(conv=>whnf)
  have:n=d.n:=ab;subst this;exact vj
 have hq:NK [d.pv,pI n] _:=⟨d,n,rfl,⟨ab,h3⟩,rfl⟩
 by_cases hu:bH d.mp n=1
 ·have ht:=sD n (λh=>h hu);generalize ae (λc=>¬bH d.mp c=1) n=T at*
  (repeat'((conv=>whnf);first|refine⟨_,hc,?_⟩|refine au ab ?_|refine⟨_,hq,?_⟩|refine bj ab ?_|fail))<;>try(conv=>whnf)
  exact⟨m-1,ab,n+1,ab,by rw[ht],rfl⟩
 have ht:=Ar n hu;obtain⟨hb,Gn⟩:=eH n;generalize ae (λc=>¬bH d.mp c=1) n=T at*;rcases List.eq_nil_or_concat T with rfl|⟨p,q,rfl⟩
 ·rw[Hu]at ht
  (repeat'((conv=>whnf);first|refine⟨_,hc,?_⟩|refine au ab ?_|refine⟨_,hq,?_⟩|refine aw hu ?_|refine aw (by simp;first|done|fail) ?_|refine KN (by simp;first|done|fail) ?_|refine bj ab ?_|refine ez λ_=>?_|refine bT ?_|fail))<;>try(conv=>whnf)
  exact⟨m-1,ab,n+1,ab,by rw[ht];rfl,rfl⟩
 ·simp only[List.concat_eq_append]at*;rw[xw]at ht;have jx:=hb q aj;have qG:(p++[q]).length=p.length+1:=aj;have XM:(((p++[q]).length:Int)-1).toNat=p.length:=ab;have kf:((p++[q]).map Rn.pv).length=(p++[q]).length:=Eb _;have fc:((p++[q]).map Rn.pv)[(((p++[q]).length:Int)-1).toNat]?=some q.pv:=by
   rw[XM,List.getElem?_map,List.getElem?_append_right (Nat.le_refl _),Nat.sub_self];rfl
  have Jq:∀x:Rn,((p++[q]).map Rn.pv).set (((p++[q]).length:Int)-1).toNat x.pv=(p++[x]).map Rn.pv:=λx=>by
   rw[XM,Iq,List.set_append_right _ _ aj];simp
  (repeat'((conv=>whnf);first|refine⟨_,hc,?_⟩|refine au ab ?_|refine⟨_,hq,?_⟩|refine aw hu ?_|refine⟨_,fc,?_⟩|refine bj ab ?_|refine de (λ_=>?_) (λ_=>?_)|refine ez λ_=>?_|refine Q3 ab ?_|refine bT ?_|refine KN cu ?_|fail))<;>try(conv=>whnf)
  ·rename_i y;rw[if_pos ab]at ht;exact⟨m-1,ab,n+1,ab,by rw[ht];exact congrArg (λy=>[_,dC.row 37 2 true y]) (Jq ⟨q.s,q.n+1⟩),rfl⟩
  ·rename_i y;rw[if_neg ab]at ht;exact⟨m-1,ab,n+1,ab,by rw[ht,Iq (l₁:=p++[q])];rfl,rfl⟩
noncomputable def gN(v:Vo):List Int:=open Classical in if wX v≠0 then[]else q4 v
def OC(ps:List PV)(r:RV):Prop:=∃v:Vo,ps=[v.pv]/\an v/\r=.tup [.fresh 3 1 ((gN v).map pI),.pv (pI (wX v))]
def agL:MT (ay [(74,c8 false q6),(75,c8 true HB)]) NH (c8 false OC):=by
 rintro _ K ⟨_,⟨v,rfl,h1,rfl⟩,hK⟩;have ho:q6 [v.pv] _:=⟨v,rfl,h1,rfl⟩
 have lQ:=P0 h1;unfold gN at hK;generalize wX v=E at*;by_cases he:E=0
 case neg=>
  rw[if_pos he]at hK
  (repeat'((conv=>whnf);first|refine⟨_,ho,?_⟩|refine au he ?_|refine bT ?_|fail))<;>try(conv=>whnf)
  exact⟨[.fresh _ _ _,.pv (pI _)],⟨⟨rfl,rfl,rfl,rfl⟩,rfl,trivial⟩,trivial,hK⟩
 rw[if_neg (λh=>h he)]at hK;have hw:HB [v.pv] _:=⟨v,rfl,lQ he,rfl⟩
 subst he
 (repeat'((conv=>whnf);first|refine⟨_,ho,?_⟩|refine aw (λh=>h rfl) ?_|refine⟨_,hw,?_⟩|refine bT ?_|fail))<;>try(conv=>whnf)
 exact⟨[.fresh _ _ _,.pv (pI _)],⟨⟨rfl,rfl,rfl,rfl⟩,rfl,trivial⟩,trivial,hK⟩
def aqI{l:List At}{n:Nat}{a:At}(h:l[n]?=some a):Nd (l.take (n+1))=Nd (l.take n)+((LZ (Dc a)).length:Int):=by
 unfold Nd;rw[Kn,h];simp
def aru{B:Nat}:∀{l:List At},(∀a∈l,(LZ (Dc a)).length<=B)->0<=Nd l/\Nd l<=B*l.length
 |[],_=>by simp[Nd]
 |a::l,h=>by
  have h1:=h a aj;obtain⟨h2,h3⟩:=aru (l:=l) λx hx=>h x iP
  have e:Nd (a::l)=((LZ (Dc a)).length:Int)+Nd l:=by simp[Nd]
  rw[e,Dj];refine⟨ab,?_⟩;have:(B:Int)*((l.length+1:Nat):Int)=B*l.length+B:=by rw[Int.natCast_add,Int.mul_add];simp
  omega
def aq5{l:List Rn}{n:Nat}{r:Rn}(h:l[n]?=some r):anU (l.take (n+1))=max (anU (l.take n)) r.n:=by
 unfold anU;rw[Kn,h,Option.toList_some,List.foldl_append];rfl
def Ty(ps:List PV)(r:RV):Prop:=∃v:Vo,ps=[v.pv]/\U1 v/\r=.pv (eJ v).pv
set_option maxHeartbeats 4000000 in
def ahk:MT (ay [(19,c8 true A3),(84,c8 true abT)]) Wq (c8 true Ty):=by
 rintro _ K ⟨_,⟨v,rfl,hv,rfl⟩,hK⟩;obtain⟨h1,h2,h3,h4⟩:=hv.n8;have hlen:=hv.len;have sM:=hv.op;have pe:abT [v.d.pv] _:=⟨v.d,rfl,⟨ab,h2,h4,h3⟩,rfl⟩
 have e_:∀a∈v.st.l,(LZ (Dc a)).length<=1000:=λa ha=>by
  obtain⟨q1,q2,q3⟩:=Re (sM a ha);have:=(aoo (awf q3) (Dc a).length).2;rw[List.take_length]at this;have:=ajE a;omega
 obtain⟨eH,SL⟩:=ah9 (λc=>¬bH v.d.mp c=1) v.d.n;unfold eJ at hK;have jE:∀q∈acZ v.d,0<=q.n/\q.n<=512:=λq hq=>by have:=eH q hq;omega
 have z7:(acZ v.d).length<=512:=by unfold acZ;omega
 generalize acZ v.d=F at*;have rB:(F.map Rn.pv).length=F.length:=Eb _
 (conv=>whnf)
 refine⟨λm env σ=>∃n:Nat,n+m=v.st.l.length/\σ=[.box 26 [.pv (.str v.d.a_),.pv (.str v.d.mp),.pv (D4 v.st)],.box 49 [.pv (pI 0),.pv (pI 0),.pv (pI 0),.pv (pI 0)],.box 49 [.pv (pI (Nd (v.st.l.take n))),.pv (pI 0),.pv (pI 0),.pv (pI 0)]]/\env=[(1,.ref 0 0 0),(2,.ref 1 0 0),(3,.ref 2 0 0),eN 4 n],v.st.l.length,⟨0,ab,rfl,rfl⟩,?_⟩;rintro m env σ ⟨n,hn,rfl,rfl⟩;by_cases aU:n<v.st.l.length
 ·obtain⟨a,ha⟩:∃a,v.st.l[n]?=some a:=⟨_,C0 aU⟩
  have fG:=CX ha;have qH:D4 v.st=.sl 11 (v.st.l.map At.pv):=Sl.zN ha;have bW:=oa (f:=At.pv) ha;obtain⟨q1,q2,q3⟩:=Re (sM a fG);have jg:A3 [a.pv] _:=⟨a,rfl,⟨ab,q3,ab⟩,rfl⟩
  have lk:=aru (l:=v.st.l.take n) (B:=1000) λx hx=>e_ x (FL hx)
  have Af:=e_ a fG;have fM:=aqI ha;rw[C9]at lk;have qG:((LZ (Dc a)).map Rn.pv).length=(LZ (Dc a)).length:=Eb _;generalize Nd (v.st.l.take n)=P at*;rw[qH]
  (repeat'((conv=>whnf);first|refine au ab ?_|refine⟨_,⟨ab,bW⟩,?_⟩|refine⟨_,jg,?_⟩|refine bj ab ?_|refine ez λ_=>?_|refine bT ?_|fail))<;>try(conv=>whnf)
  exact⟨m-1,ab,n+1,ab,by rw[fM,qG],rfl⟩
 ·(repeat'((conv=>whnf);first|refine KP ?_|refine aw ab ?_|refine⟨_,pe,?_⟩|refine ez λ_=>?_|refine bT ?_|fail))<;>try(conv=>whnf)
  rw[Gh ab];generalize Nd v.st.l=P at*;refine⟨λm env σ=>∃n:Nat,n+m=F.length/\σ=[.box 49 [.pv (pI 0),.pv (pI 0),.pv (pI 0),.pv (pI 0)],.box 49 [.pv (pI P),.pv (pI (bI (F.take n))),.pv (pI F.length),.pv (pI (anU (F.take n)))],.row 37 2 true (F.map Rn.pv)]/\env=[(2,.ref 0 0 0),(3,.ref 1 0 0),(5,.own 2),eN 6 n],F.length,⟨0,ab,rfl,rfl⟩,?_⟩;rintro m env σ ⟨n,hn,rfl,rfl⟩;by_cases aU:n<F.length
  ·obtain⟨r,hr⟩:∃r,F[n]?=some r:=⟨_,C0 aU⟩
   have n9:=oa (f:=Rn.pv) hr;have tZ:=jE r (CX hr);have hs:=aeq hr;have kj:=aq5 hr;have ko:=agV (l:=F.take n) λr hr=>by have:=jE r (FL hr);omega
   rw[C9]at ko;generalize bI (F.take n)=S at*;generalize anU (F.take n)=M at*
   (repeat'((conv=>whnf);first|refine au ab ?_|refine KN ⟨ab,ab⟩ ?_|refine⟨_,n9,?_⟩|refine bj ab ?_|refine fQ ?_|refine ez λ_=>?_|refine bT ?_|fail))<;>try(conv=>whnf)
   exact⟨m-1,ab,n+1,ab,by rw[hs,kj],rfl⟩
  ·(repeat'((conv=>whnf);first|refine aw ab ?_|refine ez λ_=>?_|refine bT ?_|fail))<;>try(conv=>whnf)
   rw[Gh ab];exact⟨.pv (Sc.pv ⟨P,_,_,_⟩),rfl,Sc.flat _,hK⟩
def amj{c:Nat}:∀(l:List At) (o i:Int),yL c o i (l.map aB)=yL c o i l
 |[],_,_=>rfl
 |a::l,o,i=>amj l _ _
def avV(v:Vo):b8 (bp v)=b8 v:=by
 unfold b8;exact List.map_congr_left λc _=>amj v.st.l _ _
def avN(v:Vo):eJ (bp v)=eJ v:=by
 unfold eJ;have e:Nd (bp v).st.l=Nd v.st.l:=by
  unfold Nd;rw[show(bp v).st.l=v.st.l.map aB from rfl,List.map_map];rfl
 rw[e];rfl
def avO{v:Vo}(hb:an v)(h:wX v=0):gN (bp v)=b8 v:=by
 unfold gN;rw[x_,if_neg (λg=>g h),ah7 (P0 (Og hb) (by rw[x_];exact h)),avV]
def avz{v:Vo}(hb:an v)(h:wX v=0):dM (bp v)=eJ v:=by
 unfold dM;rw[x_,if_neg (λg=>g h),alK (P0 (Og hb) (by rw[x_];exact h)),avN]
def ax1{v:Vo}(h:wX v≠0):gN v=[]:=by unfold gN;rw[if_pos h]
def axz{v:Vo}(h:wX v≠0):dM v=⟨0,0,0,0⟩:=by unfold dM;rw[if_pos h]
def ai_(ps:List PV)(x:PV):Prop:=∃v:Vo,ps=[v.pv]/\x=pB true
set_option maxHeartbeats 4000000 in
def adM:MT (ay [(12,ah KL),(13,bF Wr),(15,c8 false qM),(20,c8 true aco),(21,c8 false OC),(22,c8 true HW),(23,c8 true H4),(25,c8 true NY),(24,bF ajd),(26,c8 true Ty)]) EB (ah ai_):=by
 rintro _ K ⟨_,⟨v,rfl,rfl⟩,hK⟩;have lD:KL [] (pB true):=⟨rfl,rfl⟩
 have cT:Wr [v.pv] _:=⟨v,rfl,rfl⟩
 by_cases hf:ahf v
 case neg=>
  (repeat'((conv=>whnf);first|refine⟨_,lD,?_⟩|refine⟨_,cT,?_⟩|refine aw hf ?_|refine aN ?_|refine bP ?_|fail))<;>try(conv=>whnf)
  exact⟨.pv (pB true),rfl,trivial,hK⟩
 obtain⟨hb,hr,hn⟩:=hf.b;have hC:qM [v.pv] _:=⟨v,rfl,hn,rfl⟩
 have lT:=Og hb;have kx:aco [(bp v).pv] _:=⟨bp v,rfl,lT,rfl⟩
 have uR:OC [(bp v).pv] _:=⟨bp v,rfl,lT,rfl⟩
 have ed:HW [(bp v).pv] _:=⟨bp v,rfl,lT,rfl⟩
 have UH:H4 [v.pv] _:=⟨v,rfl,⟨hb,hr⟩,rfl⟩
 rw[amC]at kx;rw[x_]at uR ed;by_cases he:wX v=0
 case neg=>
  rw[ax1 (by rw[x_];exact he)]at uR;rw[axz (by rw[x_];exact he)]at ed;have qN:(ZX v).2≠0:=he
  (repeat'((conv=>whnf);first|refine⟨_,lD,?_⟩|refine⟨_,cT,?_⟩|refine au hf ?_|refine⟨_,hC,?_⟩|refine⟨_,kx,?_⟩|refine⟨_,uR,?_⟩|refine⟨_,ed,?_⟩|refine⟨_,UH,?_⟩|refine aw (λh=>h rfl) ?_|refine au qN ?_|refine au rfl ?_|refine aN ?_|refine ez λ_=>?_|refine bT ?_|fail))<;>try(conv=>whnf)
  exact⟨.pv (pB true),rfl,trivial,hK⟩
 have j6:=P0 hb he;have As:NY [v.pv] _:=⟨v,rfl,j6,rfl⟩
 have Ax:Ty [v.pv] _:=⟨v,rfl,j6,rfl⟩
 have sS:=aj3 v;have aGX:=j6.n8.1;have hIn:ajd [.sl 1 ((b8 v).map pI),.sl 1 ((b8 v).map pI)] _:=⟨b8 v,b8 v,rfl,⟨ab,ab⟩,rfl⟩
 rw[avO hb he]at uR;rw[avz hb he]at ed;rw[he]at uR ed;have qN:(ZX v).2=0:=he;rw[qN]at kx UH
 (repeat'((conv=>whnf);first|refine⟨_,lD,?_⟩|refine⟨_,cT,?_⟩|refine au hf ?_|refine⟨_,hC,?_⟩|refine⟨_,kx,?_⟩|refine⟨_,uR,?_⟩|refine⟨_,ed,?_⟩|refine⟨_,UH,?_⟩|refine aw (λh=>h rfl) ?_|refine⟨_,As,?_⟩|refine⟨_,hIn,?_⟩|refine⟨_,Ax,?_⟩|refine au rfl ?_|refine aN ?_|refine bT ?_|fail))<;>try(conv=>whnf)
 exact⟨.pv (pB true),rfl,trivial,hK⟩
def azw:∀xs,xS [kG] xs->(ah ai_).run xs λr=>r=.pv (.bool true):=λxs h=>by
 simp only[xS]at h;obtain⟨y,_,rfl,h1,_,rfl⟩:=h;obtain⟨v,rfl⟩:=ajp (h1 trivial);exact⟨_,⟨v,rfl,rfl⟩,rfl⟩
def dq:bU bb 129 (ah jQ):=ag5.sound mixed aq (ax _) (by rintro _ _ ⟨_,⟨_,rfl,_⟩,_⟩;rfl) Te
def Vd:bU bb 24 (bF ajd):=amf.sound mixed aq (b_ _) (by rintro _ _ ⟨_,⟨_,_,rfl,_⟩,_⟩;rfl) aon
def rO:bU bb 31 (ah bA):=acr.sound mixed aq (ax _) (by rintro _ _ ⟨_,⟨_,rfl,_⟩,_⟩;rfl) acj
def x7:bU bb 82 (bF NK):=agI.sound mixed (aaB dq aq) (b_ _) (by rintro _ _ ⟨_,⟨_,_,rfl,_⟩,_⟩;rfl) akm
def ID:bU bb 25 (c8 true NY):=agX.sound mixed (aaB rO (aaB x7 (aaB sJ (aaB vk aq)))) (dQ _ _) (by rintro _ _ ⟨_,⟨_,rfl,_⟩,_⟩;rfl) agb
def N1:bU bb 84 (c8 true abT):=akE.sound mixed (aaB rO (aaB x7 aq)) (dQ _ _) (by rintro _ _ ⟨_,⟨_,rfl,_⟩,_⟩;rfl) akJ
def KT:bU bb 26 (c8 true Ty):=ahg.sound mixed (aaB vt (aaB N1 aq)) (dQ _ _) (by rintro _ _ ⟨_,⟨_,rfl,_⟩,_⟩;rfl) ahk
def DJ:bU bb 21 (c8 false OC):=adn.sound mixed (aaB eF (aaB oy aq)) (dQ _ _) (by rintro _ _ ⟨_,⟨_,rfl,_⟩,_⟩;rfl) agL
def DO:bU bb 4 (ah ai_):=Vw.sound mixed (aaB nW (aaB sR (aaB eO (aaB uc (aaB DJ (aaB wk (aaB xT (aaB ID (aaB Vd (aaB KT aq)))))))))) (ax _) (by rintro _ _ ⟨_,⟨_,rfl,_⟩,_⟩;rfl) adM
end Go.Dv.Try
