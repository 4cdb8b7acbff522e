/- Own work: parts of the proof, shortened and laid together by a tool of our own. -/
import Derived.Test.YtmdfbbcifbgdnaaGreatP4
import Derived.Test.YtmdfbbcifbgdnaaGreatProg
import Derived.KernelRfl
set_option linter.defProp false
set_option linter.unusedSimpArgs false
set_option linter.unusedVariables false
open List renaming length_map→Eb, getElem?_eq_getElem→C0, getElem?_map→G3, mem_of_getElem?→CX, drop_of_length_le→NZ, mem_map→F9, map_set→Ow
open Bool renaming false_eq_true→Kh
open Decidable renaming not_not→Ke
namespace Go.Dv.Try
open Go Go.Dv Go.Proofs.Tryz Go.Proofs.Tryz
set_option maxRecDepth 100000
def Jd:FC:=⟨[0,1,2,4,5,6,7,8,9,10,11,12],[⟨4,none⟩],aaq f6 [] []⟩
def XC:CO 6 Jd 2:=bk f6 ak
def ab_:FC:=⟨[0,1,2],[⟨2,none⟩],aaq f30 [] []⟩
def ai0:CO 30 ab_ 1:=bk f30 ak
def Zo:FC:=⟨[0,1,2,3,4],[⟨4,none⟩],aaq f34 [] []⟩
def ajw:CO 34 Zo 2:=bk f34 ak
def J9:FC:=⟨[0,1,2,4,5,7,8],[⟨4,none⟩,⟨5,none⟩],aaq f38 [] []⟩
def ace:CO 38 J9 2:=bk f38 ak
def JA:FC:=⟨[0,2],[⟨2,none⟩],aaq f39 [] []⟩
def abP:CO 39 JA 1:=bk f39 ak
def PM:FC:=⟨[0,1,2,4,5,6,8],[⟨4,some (⟨true,3⟩)⟩,⟨5,none⟩],aaq f40 [] []⟩
def aet:CO 40 PM 2:=bk f40 ak
def P4:FC:=⟨[0,1,2,4,5,6,7,8,9,10],[⟨4,some (⟨true,3⟩)⟩,⟨5,none⟩,⟨6,none⟩],aaq f41 [true] [[1,4,7,8]]⟩
def adV:CO 41 P4 2:=bk f41 ak
def WI:FC:=⟨[0,1,2,3,4,5,6,7,8,9,10],[⟨4,some (⟨true,3⟩)⟩,⟨5,none⟩],aaq f43 [true,true] []⟩
def ahF:CO 43 WI 2:=bk f43 ak
def AS:FC:=⟨[0,1,4,5],[⟨4,none⟩],aaq f96 [] [[0,1,5]]⟩
def Qn:CO 96 AS 2:=bk f96 ak
def LI:FC:=⟨[0,1,2,4,5,6,7,8],[⟨4,some (⟨true,3⟩)⟩,⟨5,none⟩,⟨6,none⟩],aaq f98 [] []⟩
def acC:CO 98 LI 2:=bk f98 ak
def x5:FC:=⟨[0,1,2,3,4],[⟨4,none⟩],aaq f138 [] []⟩
def JT:CO 138 x5 2:=bk f138 ak
def JB:FC:=⟨[0,1,2,4,5,6,7,8],[⟨4,some (⟨true,3⟩)⟩,⟨5,none⟩,⟨6,none⟩],aaq f139 [] []⟩
def aaZ:CO 139 JB 2:=bk f139 ak
def jR:FC:=⟨[0,1,4,5,6,7,8,9,10,11],[⟨4,none⟩,⟨5,none⟩],aaq f191 [] [[1,9,10,11]]⟩
def wV:CO 191 jR 2:=bk f191 ak
def Br:FC:=⟨[1,2,4,5],[⟨5,none⟩],aaq f192 [] []⟩
def Sm:CO 192 Br 3:=bk f192 ak
end Go.Dv.Try
namespace Go.Dv.Try
open Go Go.Dv
def Td(a b:At):Prop:=a.ty=b.ty/\a.nm=b.nm/\a.id=b.id/\a.fl=b.fl/\a.rs=b.rs/\a.vl=b.vl/\a.ft=b.ft/\a.rn.l=b.rn.l/\a.al=b.al/\a.sz=b.sz/\a.vd=b.vd
def Av(ps:List PV)(p:Prop):Prop:=∃a b:At,ps=[a.pv,b.pv]/\(a.rn.l.length<=1000000/\b.rn.l.length<=1000000)/\p=Td a b
set_option maxHeartbeats 2000000 in
def aiS:MT (ay [(18,bF jW)]) x5 (bF Av):=by
 rintro _ K ⟨_,⟨a,b,rfl,h,rfl⟩,hK⟩;have QL:jW [qF a.rn,qF b.rn] (a.rn.l=b.rn.l):=⟨a.rn,b.rn,rfl,h,rfl⟩
 have yes:Td a b->K (.pv (.bool true)):=λh=>hK true uQ
 have no:¬Td a b->K (.pv (.bool false)):=λh=>hK false uQ
 unfold Td at yes no;clear hK;clear QL;have QL:jW [qF a.rn,qF b.rn] (a.rn.l=b.rn.l):=⟨a.rn,b.rn,rfl,h,rfl⟩
 (repeat'((conv=>whnf);first|refine⟨_,QL,?_⟩|refine de (λ_=>?_) (λ_=>?_)|fail))<;>try(conv=>whnf)
 all_goals clear QL h
 all_goals first
  |exact⟨.pv (.bool _),rfl,trivial,no (by intro hh;obtain⟨i1,i2,i3,i4,i5,i6,i7,i8,i9,i10,i11⟩:=hh;contradiction)⟩
  |exact⟨.pv (.bool _),rfl,trivial,yes (by refine⟨?_,?_,?_,?_,?_,?_,?_,?_,?_,?_,?_⟩<;>assumption)⟩
section
def OI(s:Sl Mv):PV:=Sl.pv Mv.pv 4 s
open Classical in
end
noncomputable def PU(v:Vo)(i:Int):List Mv->Vo×Int×Int
 |[]=>(v,0,0)
 |m::r=>if ub v m≠0 then(v,i,ub v m)else PU (nX v m) (i+1) r
def aqr(xs:List AV)(σ:aF)(K:AV->aF->Prop):Prop:=∃(v:Vo) (m:Mv) (i:Int),xs=[.pv (pI i),.pv m.pv,.ref 0 0 0]/\eV v/\σ=[fq v]/\K (.pv (pI (ub v m))) [fq (nX v m)]
def aq6:gO (ay [(99,c8 false Lq)]) Br (sB aqr):=by
 rintro _ _ K ⟨v,m,i,rfl,h,rfl,hK⟩;have hm:Lq [v.pv,m.pv] _:=⟨v,m,rfl,h,rfl⟩
 unfold fq at*
 (repeat'((conv=>whnf);first|refine⟨_,hm,?_⟩|refine bT ?_|fail))<;>try(conv=>whnf)
 exact hK
def akD(xs:List AV)(σ:aF)(K:AV->aF->Prop):Prop:=∃(v:Vo) (s:Sl Mv),xs=[.pv (OI s),.clo 192 [.ref 0 0 0]]/\(eV v/\s.l.length<=1000000)/\σ=[fq v]/\K (.tup [.pv (pI (PU v 0 s.l).2.1),.pv (pI (PU v 0 s.l).2.2)]) [fq (PU v 0 s.l).1]
set_option maxHeartbeats 2000000 in
def alp:gO (ay [(192,sB aqr)]) jR (sB akD):=by
 rintro _ _ K ⟨v,s,rfl,⟨h1,h2⟩,rfl,hK⟩;have gJ:(s.l.map Mv.pv).length=s.l.length:=Eb _
 (repeat'((conv=>whnf);first|refine KP ?_|refine ez λ_=>?_|fail))<;>try(conv=>whnf)
 refine⟨λm env σ=>∃(n:Nat) (w:Vo),(n+m=s.l.length/\eV w/\PU v 0 s.l=PU w n (s.l.drop n))/\σ=[fq w]/\
  env=[(1,.clo 192 [.ref 0 0 0]),(9,.pv (OI s)),eN 10 s.l.length,eN 11 n],s.l.length,⟨0,v,⟨ab,h1,rfl⟩,rfl,rfl⟩,?_⟩
 rintro m env σ ⟨n,w,⟨hn,hw,hg⟩,rfl,rfl⟩;by_cases aU:n<s.l.length
 ·obtain⟨a,ha⟩:∃a,s.l[n]?=some a:=⟨_,C0 aU⟩
  have qH:OI s=.sl 4 (s.l.map Mv.pv):=by
   cases s with
   |nil=>cases ha
   |sl l=>rfl
  rw[drop_cons ha]at hg;have mU:PU w n (a::s.l.drop (n+1))=if ub w a≠0 then(w,(n:Int),ub w a)else PU (nX w a) (n+1) (s.l.drop (n+1)):=rfl;rw[mU]at hg;rw[qH]
  (repeat'((conv=>whnf);first|refine au ab ?_|(refine fe ?_;first|refine bj ab ?_|refine de (λ_=>?_) (λ_=>?_)|refine iY aA ?_|refine bT ?_|refine⟨_,_,_,rfl,cZ,?_⟩|fail)))<;>try(conv=>whnf)
  ·rename_i he;rw[if_pos he]at hg;rw[hg]at hK;have e:nX w a=w:=by unfold nX;rw[if_pos he]
   rw[e];exact hK
  ·rename_i he;rw[if_neg he]at hg;exact⟨m-1,ab,n+1,nX w a,⟨ab,azb hw a,by rw[Int.natCast_add];exact hg⟩,rfl,rfl⟩
 ·(repeat'((conv=>whnf);first|refine aw ab ?_|fail))<;>try(conv=>whnf)
  rw[NZ ab]at hg;rw[hg]at hK;exact hK
def apP(ps:List PV)(r:RV):Prop:=∃(v:Vo) (s:Sl Mv),ps=[v.pv,OI s]/\(eV v/\s.l.length<=1000000)/\r=.tup [.pv (PU v 0 s.l).1.pv,.pv (pI (PU v 0 s.l).2.1),.pv (pI (PU v 0 s.l).2.2)]
def aqX:MT (ay [(192,sB aqr),(191,sB akD)]) JB (c8 false apP):=by
 rintro _ K ⟨_,⟨v,s,rfl,⟨h1,h2⟩,rfl⟩,hK⟩
 (repeat'(refine iM ?_;first|refine bT ?_|refine⟨_,_,rfl,cZ,?_⟩|fail))<;>try(conv=>whnf)
 exact⟨[.pv (PU v 0 s.l).1.pv,.pv (pI _),.pv (pI _)],⟨rfl,rfl,rfl,trivial⟩,trivial,hK⟩
noncomputable def bn(v:Vo)(s:Sl Mv):Vo×Int×Int:=if wX v≠0 then(v,0,wX v)else if s.l.length<=300 then PU v 0 s.l else(v,0,8)
def H6(ps:List PV)(r:RV):Prop:=∃(v:Vo) (s:Sl Mv),ps=[v.pv,OI s]/\(an v/\s.l.length<=1000000)/\r=.tup [.pv (bn v s).1.pv,.pv (pI (bn v s).2.1),.pv (pI (bn v s).2.2)]
set_option maxHeartbeats 2000000 in
def age:MT (ay [(74,c8 false q6),(139,c8 false apP),(68,ah dG),(66,ah gB)]) LI (c8 false H6):=by
 rintro _ K ⟨_,⟨v,s,rfl,⟨h1,h2⟩,rfl⟩,hK⟩;have ho:q6 [v.pv] _:=⟨v,rfl,h1,rfl⟩
 have gJ:(s.l.map Mv.pv).length=s.l.length:=Eb _;have y9:=ar4 h1;unfold bn at hK;generalize wX v=E at*;by_cases he:E=0
 case neg=>
  rw[if_pos he]at hK
  (repeat'((conv=>whnf);first|refine⟨_,ho,?_⟩|refine KP ?_|(refine au (by rw[Cc _ he];exact he) ?_)|(refine fe ?_;first|refine de (λ_=>?_) (λ_=>?_)|refine ez λ_=>?_|refine bT ?_|refine⟨_,⟨_,_,rfl,rfl⟩,?_⟩|refine⟨_,⟨[_,_],rfl,rfl⟩,?_⟩|fail)))<;>try(conv=>whnf)
  all_goals
   rw[Cc _ he];exact⟨[.pv v.pv,.pv (pI 0),.pv (pI _)],⟨rfl,rfl,rfl,trivial⟩,trivial,hK⟩
 have hb:apP [v.pv,OI s] _:=⟨v,s,rfl,⟨y9 he,h2⟩,rfl⟩
 subst he;rw[if_neg (λh=>h rfl)]at hK;by_cases hl:s.l.length<=300
 ·rw[if_pos hl]at hK
  (repeat'((conv=>whnf);first|refine⟨_,ho,?_⟩|refine KP ?_|refine au ab ?_|(refine aw (by rw[NO];exact λh=>h rfl) ?_)|refine⟨_,hb,?_⟩|(refine fe ?_;first|refine ez λ_=>?_|refine bT ?_|refine⟨_,⟨_,_,rfl,rfl⟩,?_⟩|refine⟨_,⟨[_,_],rfl,rfl⟩,?_⟩|fail)))<;>try(conv=>whnf)
  exact⟨[.pv (PU v 0 s.l).1.pv,.pv (pI _),.pv (pI _)],⟨rfl,rfl,rfl,trivial⟩,trivial,hK⟩
 ·rw[if_neg hl]at hK
  (repeat'((conv=>whnf);first|refine⟨_,ho,?_⟩|refine KP ?_|refine aw ab ?_|(refine au (by rw[CB ao];decide) ?_)|(refine fe ?_;first|refine ez λ_=>?_|refine bT ?_|refine⟨_,⟨_,_,rfl,rfl⟩,?_⟩|refine⟨_,⟨[_,_],rfl,rfl⟩,?_⟩|fail)))<;>try(conv=>whnf)
  rw[CB ao];exact⟨[.pv v.pv,.pv (pI 0),.pv (pI 8)],⟨rfl,rfl,rfl,trivial⟩,trivial,hK⟩
def mJ{v:Vo}{i:Int}:∀{l:List Mv},ct v->ct (PU v i l).1:=by
 intro l
 induction l generalizing v i with
 |nil=>exact λh=>h
 |cons m r ih=>
  intro h;unfold PU;split
  ·exact h
  ·exact ih (aql h m)
noncomputable def gq(v:Vo)(s:Sl Mv):Vo:=if (bn v s).2.2≠0 then TZ else bp (bn v s).1
def Ut(ps:List PV)(r:RV):Prop:=∃(v:Vo) (s:Sl Mv),ps=[v.pv,OI s]/\(an v/\s.l.length<=1000000)/\r=.tup [.pv (gq v s).pv,.pv (pI (bn v s).2.2)]
def azc{v:Vo}{s:Sl Mv}(hb:an v)(h:(bn v s).2.2=0):ct (bn v s).1:=by
 unfold bn at*;by_cases he:wX v=0
 case neg=>rw[if_pos he]at h;exact absurd h he
 rw[if_neg (λg=>g he)]at*;split at h
 ·rename_i g;rw[if_pos g];exact mJ (acx hb he)
 ·exact absurd (show(8:Int)=0 from h) ao
set_option maxHeartbeats 2000000 in
def ahi:MT (ay [(98,c8 false H6),(90,c8 false Ks)]) PM (c8 false Ut):=by
 rintro _ K ⟨_,⟨v,s,rfl,⟨h1,h2⟩,rfl⟩,hK⟩;have hp:H6 [v.pv,OI s] _:=⟨v,s,rfl,⟨h1,h2⟩,rfl⟩
 have hr:=azc (s:=s) h1;unfold gq at hK;generalize bn v s=q at*;obtain⟨w,j,E⟩:=q;by_cases he:E=0
 case neg=>
  rw[if_pos he]at hK
  (repeat'((conv=>whnf);first|refine⟨_,hp,?_⟩|(refine au he ?_)|refine bT ?_|fail))<;>try(conv=>whnf)
  exact⟨[.pv TZ.pv,.pv (pI _)],⟨rfl,rfl,trivial⟩,trivial,hK⟩
 subst he;rw[if_neg (λh=>h rfl)]at hK;have ho:Ks [w.pv] _:=⟨w,rfl,(hr rfl).own,rfl⟩
 (repeat'((conv=>whnf);first|refine⟨_,hp,?_⟩|(refine aw (λh=>h rfl) ?_)|refine⟨_,ho,?_⟩|refine bT ?_|fail))<;>try(conv=>whnf)
 exact⟨[.pv (bp w).pv,.pv (pI _)],⟨rfl,rfl,trivial⟩,trivial,hK⟩
def an1{α β:Type}{f:α->β}{a b:List α}(e:a.map f=b.map f){n:Nat}{x y:α}(hx:a[n]?=some x)(hy:b[n]?=some y):f x=f y:=by
 have h:(a.map f)[n]?=(b.map f)[n]?:=by rw[e]
 rw[G3,G3,hx,hy]at h;exact Option.some.inj h
def auz{a b:At}:Td a b↔aB a=aB b:=by
 unfold Td aB;cases a;cases b;simp
def ZT(ps:List PV)(p:Prop):Prop:=∃a b:Sl At,ps=[D4 a,D4 b]/\((a.l.length<=1000000/\b.l.length<=1000000)/\(∀x∈a.l,x.rn.l.length<=1000000)∧∀x∈b.l,x.rn.l.length<=1000000)/\p=(a.l.map aB=b.l.map aB)
set_option maxHeartbeats 2000000 in
def aji:MT (ay [(138,bF Av)]) AS (bF ZT):=by
 rintro _ K ⟨_,⟨a,b,rfl,⟨⟨h1,h2⟩,h3,h4⟩,rfl⟩,hK⟩;by_cases hl:a.l.length=b.l.length
 case neg=>
  have cb:¬a.l.map aB=b.l.map aB:=λe=>hl (by have:=congrArg List.length e;simpa using this)
  (repeat'((conv=>whnf);first|refine KP ?_|refine au ab ?_|refine ez λ_=>?_|fail))<;>try(conv=>whnf)
  exact⟨.pv (.bool _),rfl,trivial,hK false (by simp only[cb,Kh])⟩
 (repeat'((conv=>whnf);first|refine KP ?_|refine aw ab ?_|refine ez λ_=>?_|fail))<;>try(conv=>whnf)
 refine⟨λm env σ=>∃n:Nat,(n+m=a.l.length∧∀j,j<n→∀x y,a.l[j]?=some x->b.l[j]?=some y->aB x=aB y)/\σ=[]/\env=[(0,.pv (D4 a)),(1,.pv (D4 b)),eN 5 n],a.l.length,⟨0,⟨ab,λj hj=>ab⟩,rfl,rfl⟩,?_⟩;rintro m env σ ⟨n,⟨hn,h0⟩,rfl,rfl⟩;by_cases aU:n<a.l.length
 ·obtain⟨x,hx⟩:∃x,a.l[n]?=some x:=⟨_,C0 aU⟩
  obtain⟨y,hy⟩:∃y,b.l[n]?=some y:=⟨_,C0 ab⟩
  have HO:D4 a=.sl 11 (a.l.map At.pv):=Sl.zN hx;have ko:D4 b=.sl 11 (b.l.map At.pv):=Sl.zN hy;have Wk:=oa (f:=At.pv) hx;have jX:=oa (f:=At.pv) hy;have hq:Av [x.pv,y.pv] _:=⟨x,y,rfl,⟨h3 x (CX hx),h4 y (CX hy)⟩,rfl⟩
  rw[auz]at hq;rw[HO,ko];by_cases zn:aB x=aB y
  ·(repeat'((conv=>whnf);first|refine⟨_,⟨ab,Wk⟩,?_⟩|refine⟨_,⟨ab,jX⟩,?_⟩|refine⟨_,hq,?_⟩|refine au zn ?_|refine au ab ?_|refine bj ab ?_|refine aN ?_|refine ez λ_=>?_|refine bT ?_|fail))<;>try(conv=>whnf)
   refine⟨m-1,ab,n+1,⟨ab,λj hj x' y' dR cn=>?_⟩,rfl,rfl⟩;rcases Nat.lt_or_eq_of_le (Nat.le_of_lt_succ hj)with h1|h1
   ·exact h0 j h1 x' y' dR cn
   ·subst h1;rw[hx]at dR;rw[hy]at cn;cases dR;cases cn;exact zn
  ·have cb:¬a.l.map aB=b.l.map aB:=λe=>zn (an1 e hx hy)
   (repeat'((conv=>whnf);first|refine⟨_,⟨ab,Wk⟩,?_⟩|refine⟨_,⟨ab,jX⟩,?_⟩|refine⟨_,hq,?_⟩|refine aw zn ?_|refine au ab ?_|refine bP ?_|refine ez λ_=>?_|refine bT ?_|fail))<;>try(conv=>whnf)
   exact⟨.pv (.bool _),rfl,trivial,hK false (by simp only[cb,Kh])⟩
 ·have he:a.l.map aB=b.l.map aB:=ais hl λj x y hx hy=>h0 j (by have:=eT hx;omega) x y hx hy
  (repeat'((conv=>whnf);first|refine KP ?_|refine aw ab ?_|refine ez λ_=>?_|fail))<;>try(conv=>whnf)
  exact⟨.pv (.bool _),rfl,trivial,hK true (by simp only[he])⟩
def YZ(ps:List PV)(r:RV):Prop:=∃s:Sl Mv,ps=[OI s]/\s.l.length<=1000000/\r=.fresh 75 4 (s.l.map Mv.pv)
def Mv.flat(l:List Mv):∀x∈l.map Mv.pv,x.flat:=by
 intro x hx;obtain⟨m,_,rfl⟩:=F9.1 hx;intro c hc;rcases hc with _|⟨_,_|⟨_,_|⟨_,_|⟨_,h⟩⟩⟩⟩<;>first|exact trivial|cases h
def aka:MT (ay []) JA (c8 true YZ):=by
 rintro _ K ⟨_,⟨s,rfl,hs,rfl⟩,hK⟩;have gJ:(s.l.map Mv.pv).length=s.l.length:=Eb _
 (repeat'((conv=>whnf);first|refine KP ?_|refine bT ?_|refine And.intro cu ?_|fail))<;>try(conv=>whnf)
 exact⟨.fresh _ _ _,⟨rfl,rfl,rfl,rfl⟩,Mv.flat _,hK⟩
def aqV(v w:Vo):Prop:=v.d.a_=w.d.a_/\v.d.mp=w.d.mp/\v.st.l.map aB=w.st.l.map aB
def Uq(ps:List PV)(p:Prop):Prop:=∃v w:Vo,ps=[v.pv,w.pv]/\(eW v/\eW w)/\p=aqV v w
def am9:MT (ay [(96,bF ZT)]) Zo (bF Uq):=by
 rintro _ K ⟨_,⟨v,w,rfl,⟨h1,h2⟩,rfl⟩,hK⟩;have hq:ZT [D4 v.st,D4 w.st] _:=⟨v.st,w.st,rfl,⟨⟨h1.1,h2.1⟩,h1.2,h2.2⟩,rfl⟩
 unfold aqV at hK;generalize (v.st.l.map aB=w.st.l.map aB)=P at*
 (repeat'((conv=>whnf);first|refine⟨_,hq,?_⟩|refine de (λ_=>?_) (λ_=>?_)|fail))<;>try(conv=>whnf)
 all_goals exact PN
noncomputable def gK(v:Vo)(s:Sl Mv):Int:=open Classical in if (bn v s).2.2≠0 then(bn v s).2.1 else s.l.length
def JF(ps:List PV)(r:RV):Prop:=∃(v:Vo) (s:Sl Mv),ps=[v.pv,OI s]/\(an v/\s.l.length<=1000000)/\r=.tup [.pv (pI (gK v s)),.pv (pI (bn v s).2.2)]
def aev:MT (ay [(98,c8 false H6)]) J9 (c8 true JF):=by
 rintro _ K ⟨_,⟨v,s,rfl,⟨h1,h2⟩,rfl⟩,hK⟩;have hp:H6 [v.pv,OI s] _:=⟨v,s,rfl,⟨h1,h2⟩,rfl⟩
 have gJ:(s.l.map Mv.pv).length=s.l.length:=Eb _;unfold gK at hK;generalize bn v s=q at*;obtain⟨w,j,E⟩:=q;by_cases he:E=0
 case neg=>
  rw[if_pos he]at hK
  (repeat'((conv=>whnf);first|refine⟨_,hp,?_⟩|(refine au he ?_)|refine bT ?_|fail))<;>try(conv=>whnf)
  exact K0
 subst he;rw[if_neg (λh=>h rfl)]at hK
 (repeat'((conv=>whnf);first|refine⟨_,hp,?_⟩|(refine aw (λh=>h rfl) ?_)|refine KP ?_|refine ez λ_=>?_|refine bT ?_|fail))<;>try(conv=>whnf)
 exact K0
def arC(d:Dk)(a:At)(p:Int)(t:Rn):dJ d (aB a) p t=dJ d a p t:=FB
def arv(d:Dk)(a:At)(p:Int)(t:Rn):jM d (aB a) p t=jM d a p t:=FB
def arF(d:Dk)(a:At)(p:Int)(t:Rn):jG d (aB a) p t=jG d a p t:=FB
noncomputable def fW(v:Vo)(m:Mv):Vo:=open Classical in if ub v m≠0 then TZ else bp (nX v m)
def Y_(ps:List PV)(r:RV):Prop:=∃(v:Vo) (m:Mv),ps=[v.pv,m.pv]/\ct v/\r=.tup [.pv (fW v m).pv,.pv (pI (ub v m))]
set_option maxHeartbeats 4000000 in
def ajn:MT (ay [(17,ah adG),(55,c8 false dK),(101,c8 false W9),(15,c8 false qM)]) WI (c8 false Y_):=by
 rintro _ K ⟨_,⟨v,m,rfl,hv,rfl⟩,hK⟩;obtain⟨⟨h1,h2,h3⟩,h4⟩:=hv;have XM:adG [v.pv,pI m.k] _:=⟨v,m.k,rfl,ab,rfl⟩
 unfold gM at XM;by_cases hk:0<=m.k/\m.k<=(v.st.l.length:Int)-1
 case neg=>
  have e1:ub v m=6:=by unfold ub;rw[if_pos hk]
  have e2:fW v m=TZ:=by unfold fW;rw[e1,if_pos ao]
  rw[e1,e2]at hK;rw[if_neg hk]at XM
  (repeat'((conv=>whnf);first|refine⟨_,XM,?_⟩|refine au ao ?_|refine bT ?_|fail))<;>try(conv=>whnf)
  exact⟨[.pv TZ.pv,.pv (pI 6)],⟨rfl,rfl,trivial⟩,trivial,hK⟩
 rw[if_pos hk]at XM;obtain⟨b,hb⟩:∃b,v.st.l[m.k.toNat]?=some b:=⟨_,C0 ab⟩
 have kE:=CX hb;have E3:∀x∈v.st.l,x.rn.l.length<=1000000:=λx hx=>by have:=(bZ (h4 x hx)).1;omega
 have qH:D4 v.st=.sl 11 (v.st.l.map At.pv):=Sl.zN hb;have hg:(v.st.l.map At.pv)[m.k.toNat]?=some b.pv:=by rw[G3,hb];rfl
 have Aw:dK [b.pv] _:=⟨b,rfl,E3 b kE,rfl⟩
 have uk:W9 [v.d.pv,(aB b).pv,pI m.p,m.t.pv] _:=⟨v.d,aB b,m.p,m.t,rfl,⟨h1,h3 b kE⟩,rfl⟩
 rw[arC,arv,arF]at uk;have e0:ni v m.k=b:=by unfold ni;rw[hb];rfl
 have e1:ub v m=dJ v.d b m.p m.t:=by unfold ub;rw[if_neg (λh=>h hk),e0]
 have hA:dJ v.d b m.p m.t=0->(jG v.d b m.p m.t).rn.l.length<=1000000:=λhe=>by
  have hm:ub v m=0:=by rw[e1];exact he
  have:=(aql ⟨⟨h1,h2,h3⟩,h4⟩ m).own.2 (jG v.d b m.p m.t) (by
   unfold nX;rw[if_neg (λh=>h hm),e0];exact CX (i:=m.k.toNat) (by show(v.st.l.set _ _)[_]?=_;rw[List.getElem?_set_self ab]))
  exact this
 have e2:fW v m=if dJ v.d b m.p m.t≠0 then TZ else⟨jM v.d b m.p m.t,.sl ((v.st.l.map aB).set m.k.toNat (aB (jG v.d b m.p m.t)))⟩:=by
  unfold fW;rw[e1];split
  ·rfl
  ·rename_i g;unfold nX;rw[e1,if_neg g,e0];show bp _=_;unfold bp rl;rw[show(Sl.sl (v.st.l.set m.k.toNat (jG v.d b m.p m.t))).l=v.st.l.set m.k.toNat (jG v.d b m.p m.t)from rfl,Ow]
 have hC:qM [v.pv] _:=⟨v,rfl,⟨ab,E3⟩,rfl⟩
 have jV:v.pv=.agg [.str v.d.a_,.str v.d.mp,.sl 11 (v.st.l.map At.pv)]:=by unfold Vo.pv;rw[qH]
 rw[e1,e2]at hK;rw[jV]at XM hC ⊢;clear e1 e2 e0 h4;generalize dJ v.d b m.p m.t=E at*;generalize jM v.d b m.p m.t=D at*;generalize jG v.d b m.p m.t=A at*;by_cases hE:E=0
 case neg=>
  rw[if_pos hE]at hK
  (repeat'((conv=>whnf);first|refine⟨_,XM,?_⟩|refine aw (λh=>h rfl) ?_|refine⟨_,⟨hk.1,hg⟩,?_⟩|refine⟨_,Aw,?_⟩|refine⟨_,uk,?_⟩|refine au hE ?_|refine bT ?_|fail))<;>try(conv=>whnf)
  exact⟨[.pv TZ.pv,.pv (pI _)],⟨rfl,rfl,trivial⟩,trivial,hK⟩
 rw[if_neg (λh=>h hE)]at hK;have Ay:dK [A.pv] _:=⟨A,rfl,hA hE,rfl⟩
 have bJ:((v.st.l.map aB).map At.pv).length=v.st.l.length:=aj;have KS:((v.st.l.map aB).map At.pv)[m.k.toNat]?=some (aB b).pv:=by rw[G3,G3,hb];rfl
 have LO:((v.st.l.map aB).map At.pv).set m.k.toNat (aB A).pv=((v.st.l.map aB).set m.k.toNat (aB A)).map At.pv:=by rw[Ow]
 (repeat'((conv=>whnf);first|refine⟨_,XM,?_⟩|refine aw (λh=>h rfl) ?_|refine⟨_,⟨hk.1,hg⟩,?_⟩|refine⟨_,Aw,?_⟩|refine⟨_,uk,?_⟩|refine aw (λh=>h hE) ?_|refine⟨_,hC,?_⟩|refine⟨_,Ay,?_⟩|refine And.intro ⟨ab,ab⟩ ?_|refine⟨_,KS,?_⟩|refine bT ?_|fail))<;>try(conv=>whnf)
 have e3:Vo.pv ⟨D,.sl ((v.st.l.map aB).set m.k.toNat (aB A))⟩=.agg [.str D.a_,.str D.mp,.sl 11 (((v.st.l.map aB).map At.pv).set m.k.toNat (aB A).pv)]:=by rw[LO];rfl
 rw[e3,hE]at hK;exact⟨[.pv _,.pv (pI 0)],⟨rfl,rfl,trivial⟩,trivial,hK⟩
def akM(v:Vo)(m:Mv):ub (bp v) m=ub v m:=by
 unfold ub;rw[show(bp v).st.l.length=v.st.l.length from Eb _];split
 ·rfl
 ·rename_i h;rw[R2 v m.k (Ke.1 h)];exact arC _ _ _ _
def vE(v:Vo):bp (bp v)=bp v:=by
 unfold bp;simp only[show(Sl.sl (v.st.l.map aB)).l=v.st.l.map aB from rfl,List.map_map];rfl
def as2(v:Vo)(m:Mv):bp (nX (bp v) m)=bp (nX v m):=by
 unfold nX;rw[akM];split
 ·exact vE v
 ·rename_i h;have hm:=apm (Ke.1 h);rw[R2 v m.k ⟨hm.1,hm.2.1⟩];show bp (rl (bp v) (jM v.d (aB _) _ _) _ (jG v.d (aB _) _ _))=_;rw[arv,arF];unfold bp rl;simp only[show ∀l:List At,(Sl.sl l).l=l from λ_=>rfl,Ow,List.map_map];rfl
noncomputable def ey(v:Vo)(s:Sl Mv):Vo×Int×Int:=if s.l.length<=300 then(if (PU v 0 s.l).2.2≠0 then(TZ,(PU v 0 s.l).2.1,(PU v 0 s.l).2.2)else(bp (PU v 0 s.l).1,s.l.length,0))else(TZ,0,8)
def ae7(v:Vo):∀(l:List Mv) (i:Int),(PU (bp v) i l).2=(PU v i l).2/\bp (PU (bp v) i l).1=bp (PU v i l).1:=by
 intro l
 induction l generalizing v with
 |nil=>exact λi=>⟨rfl,vE v⟩
 |cons m r ih=>
  intro i;unfold PU;rw[akM];split
  ·exact⟨rfl,vE v⟩
  ·have h1:=ih (nX (bp v) m) (i+1);have h2:=ih (nX v m) (i+1);rw[as2]at h1;exact⟨h1.1.symm.trans h2.1,h1.2.symm.trans h2.2⟩
def aaT{v:Vo}(h:ct v):ct (bp v):=by
 obtain⟨⟨h1,h2,h3⟩,h4⟩:=h;have hl:(bp v).st.l=v.st.l.map aB:=rfl;refine⟨⟨h1,by rw[hl,Eb];exact h2,λa ha=>?_⟩,λa ha=>?_⟩<;>
 ·rw[hl]at ha;obtain⟨b,hb,rfl⟩:=F9.1 ha;first|exact h3 b hb|exact h4 b hb
def UP(ps:List PV)(r:RV):Prop:=∃(v:Vo) (s:Sl Mv),ps=[v.pv,OI s]/\(ct v/\s.l.length<=1000000)/\r=.tup [.pv (ey v s).1.pv,.pv (pI (ey v s).2.1),.pv (pI (ey v s).2.2)]
set_option maxHeartbeats 4000000 in
def ahr:MT (ay [(15,c8 false qM),(43,c8 false Y_)]) P4 (c8 false UP):=by
 rintro _ K ⟨_,⟨v,s,rfl,⟨hv,hs⟩,rfl⟩,hK⟩;have gJ:(s.l.map Mv.pv).length=s.l.length:=Eb _;unfold ey at hK;by_cases hl:s.l.length<=300
 case neg=>
  rw[if_neg hl]at hK
  (repeat'((conv=>whnf);first|refine KP ?_|refine au ab ?_|refine ez λ_=>?_|refine bT ?_|fail))<;>try(conv=>whnf)
  exact⟨[.pv TZ.pv,.pv (pI 0),.pv (pI 8)],⟨rfl,rfl,rfl,trivial⟩,trivial,hK⟩
 rw[if_pos hl]at hK;have hC:qM [v.pv] _:=⟨v,rfl,⟨by have:=hv.own;omega,hv.own.2⟩,rfl⟩
 (repeat'((conv=>whnf);first|refine KP ?_|refine aw ab ?_|refine⟨_,hC,?_⟩|refine ez λ_=>?_|refine bT ?_|fail))<;>try(conv=>whnf)
 refine⟨λm env σ=>∃(n:Nat) (w:Vo),(n+m=s.l.length/\ct w/\bp w=w/\(PU v 0 s.l).2=(PU w n (s.l.drop n)).2/\bp (PU v 0 s.l).1=bp (PU w n (s.l.drop n)).1)/\
  ((n=0/\w=bp v/\σ=[.box 26 [.pv (.str []),.pv (.str []),.pv (.nil 11)],.box 26 [.pv (.str v.d.a_),.pv (.str v.d.mp),.own 2],.row 41 11 true ((v.st.l.map aB).map At.pv)])\/
    σ=[.box 26 [.pv (.str []),.pv (.str []),.pv (.nil 11)],.box 26 [.pv (.str w.d.a_),.pv (.str w.d.mp),.pv (D4 w.st)]])/\
  env=[(1,.pv (OI s)),(4,.ref 0 0 0),(7,.ref 1 0 0),eN 8 n],s.l.length,⟨0,bp v,⟨ab,aaT hv,vE v,(ae7 v s.l 0).1.symm,(ae7 v s.l 0).2.symm⟩,.inl ⟨rfl,rfl,rfl⟩,rfl⟩,?_⟩
 rintro m env σ ⟨n,w,⟨hn,hw,uR,vA,mU⟩,hσ,rfl⟩;have Ss:(bp v).pv=.agg [.str v.d.a_,.str v.d.mp,.sl 11 ((v.st.l.map aB).map At.pv)]:=rfl;by_cases aU:n<s.l.length
 ·obtain⟨a,ha⟩:∃a,s.l[n]?=some a:=⟨_,C0 aU⟩
  have qH:OI s=.sl 4 (s.l.map Mv.pv):=Sl.zN ha;have bW:=oa (f:=Mv.pv) ha;have uk:Y_ [w.pv,a.pv] _:=⟨w,a,rfl,hw,rfl⟩
  rw[drop_cons ha]at vA mU;have hB:PU w n (a::s.l.drop (n+1))=if ub w a≠0 then(w,(n:Int),ub w a)else PU (nX w a) (n+1) (s.l.drop (n+1)):=rfl;rw[hB]at vA mU;rw[qH];by_cases he:ub w a=0
  case neg=>
   rw[if_pos he]at vA;rw[vA,if_pos he]at hK;rcases hσ with⟨rfl,rfl,rfl⟩|rfl
   ·rw[Ss]at uk
    (repeat'((conv=>whnf);first|refine au ab ?_|refine⟨_,⟨ab,bW⟩,?_⟩|refine⟨_,uk,?_⟩|refine ez λ_=>?_|refine bT ?_|fail))<;>try(conv=>whnf)
    exact⟨[.pv TZ.pv,.pv (pI _),.pv (pI _)],⟨rfl,rfl,rfl,trivial⟩,trivial,hK⟩
   ·(repeat'((conv=>whnf);first|refine au ab ?_|refine⟨_,⟨ab,bW⟩,?_⟩|refine⟨_,uk,?_⟩|refine ez λ_=>?_|refine bT ?_|fail))<;>try(conv=>whnf)
    exact⟨[.pv TZ.pv,.pv (pI _),.pv (pI _)],⟨rfl,rfl,rfl,trivial⟩,trivial,hK⟩
  ·have dX:fW w a=bp (nX w a):=by unfold fW;rw[if_neg (λh=>h he)]
   rw[dX]at uk;rw[if_neg (λh=>h he)]at vA mU;have Gs:∀k:Nat,k=n+1->ct (bp (nX w a))/\bp (bp (nX w a))=bp (nX w a)/\(PU v 0 s.l).2=(PU (bp (nX w a)) (k:Nat) (s.l.drop k)).2/\bp (PU v 0 s.l).1=bp (PU (bp (nX w a)) (k:Nat) (s.l.drop k)).1:=λk hk=>by
    subst hk;obtain⟨g1,g2⟩:=ae7 (nX w a) (s.l.drop (n+1)) ((n+1:Nat):Int);exact⟨aaT (aql hw a),vE _,by rw[g1];exact vA,by rw[g2];exact mU⟩
   obtain⟨k1,k2,k3,k4⟩:=Gs (n+1) rfl;rcases hσ with⟨rfl,rfl,rfl⟩|rfl
   ·rw[Ss]at uk
    (repeat'((conv=>whnf);first|refine au ab ?_|refine⟨_,⟨ab,bW⟩,?_⟩|refine⟨_,uk,?_⟩|refine aw (λh=>h he) ?_|refine bj ab ?_|refine ez λ_=>?_|refine bT ?_|fail))<;>try(conv=>whnf)
    exact⟨m-1,ab,0+1,bp (nX (bp v) a),⟨ab,k1,k2,k3,k4⟩,.inr rfl,rfl⟩
   ·(repeat'((conv=>whnf);first|refine au ab ?_|refine⟨_,⟨ab,bW⟩,?_⟩|refine⟨_,uk,?_⟩|refine aw (λh=>h he) ?_|refine bj ab ?_|refine ez λ_=>?_|refine bT ?_|fail))<;>try(conv=>whnf)
    exact⟨m-1,ab,n+1,bp (nX w a),⟨ab,k1,k2,k3,k4⟩,.inr rfl,rfl⟩
 ·rw[NZ ab]at vA mU;have hB:PU w n []=(w,0,0):=rfl;rw[hB]at vA mU;rw[vA,if_neg (λh=>h rfl),mU]at hK;simp only at hK;rw[uR]at hK;rcases hσ with⟨rfl,rfl,rfl⟩|rfl
  ·(repeat'((conv=>whnf);first|refine KP ?_|refine aw ab ?_|refine ez λ_=>?_|refine bT ?_|fail))<;>try(conv=>whnf)
   exact⟨[.pv (bp v).pv,.pv (pI _),.pv (pI 0)],⟨rfl,rfl,rfl,trivial⟩,trivial,hK⟩
  ·(repeat'((conv=>whnf);first|refine KP ?_|refine aw ab ?_|refine ez λ_=>?_|refine bT ?_|fail))<;>try(conv=>whnf)
   exact⟨[.pv w.pv,.pv (pI _),.pv (pI 0)],⟨rfl,rfl,rfl,trivial⟩,trivial,hK⟩
def acq(ps:List PV)(p:Prop):Prop:=∃v:Vo,ps=[v.pv]/\eW v/\p=aqV v TZ
def amO:eW TZ:=⟨ao,λa ha=>by cases ha⟩
def aob:MT (ay [(34,bF Uq)]) ab_ (bF acq):=by
 rintro _ K ⟨_,⟨v,rfl,h,rfl⟩,hK⟩;have hq:Uq [v.pv,TZ.pv] _:=⟨v,TZ,rfl,⟨h,amO⟩,rfl⟩
 (repeat'((conv=>whnf);first|refine⟨_,hq,?_⟩|(refine λ(b:Bool) (hb:b=true↔_)=>?_)|fail))<;>try(conv=>whnf)
 exact⟨.pv (.bool _),rfl,trivial,hK _ hb⟩
def av1{v:Vo}(h:eW v):eW (bp v):=by
 refine⟨by show(v.st.l.map aB).length<=_;rw[Eb];exact h.1,λa ha=>?_⟩;obtain⟨b,hb,rfl⟩:=F9.1 (show a∈v.st.l.map aB from ha);exact h.2 b hb
def ct.n{v:Vo}(h:ct v):eW v:=⟨by have:=h.own.1;omega,h.own.2⟩
def azp{v:Vo}{s:Sl Mv}(h:wX v=0):gK (bp v) (.sl s.l)=(ey v s).2.1/\(bn (bp v) (.sl s.l)).2.2=(ey v s).2.2/\gq (bp v) (.sl s.l)=(ey v s).1:=by
 obtain⟨b1,b2⟩:=ae7 v s.l 0;have e:bn (bp v) (.sl s.l)=if s.l.length<=300 then PU (bp v) 0 s.l else(bp v,0,8):=by
  unfold bn;rw[x_,if_neg (λg=>g h)];rfl
 unfold gK gq ey;rw[e,show(Sl.sl s.l).l=s.l from rfl];by_cases g:s.l.length<=300
 ·rw[if_pos g,if_pos g,b1];by_cases g2:(PU v 0 s.l).2.2=0
  ·rw[if_neg (λk=>k g2),if_neg (λk=>k g2),if_neg (λk=>k g2),b2];exact⟨rfl,g2,rfl⟩
  ·rw[if_pos g2,if_pos g2,if_pos g2];exact⟨rfl,rfl,rfl⟩
 ·rw[if_neg g,if_neg g,if_pos (show(8:Int)≠0 by decide),if_pos (show(8:Int)≠0 by decide)];exact⟨rfl,rfl,rfl⟩
def ayV{v:Vo}{s:Sl Mv}(h:wX v≠0):gK (bp v) (.sl s.l)=0/\(bn (bp v) (.sl s.l)).2.2=wX v/\gq (bp v) (.sl s.l)=TZ:=by
 have e:bn (bp v) (.sl s.l)=(bp v,0,wX v):=by unfold bn;rw[x_,if_pos h]
 unfold gK gq;rw[e,if_pos h,if_pos h];exact⟨rfl,rfl,rfl⟩
def aAl{v:Vo}{s:Sl Mv}(h:ct v):eW (ey v s).1:=by
 unfold ey;split
 ·split
  ·exact amO
  ·exact av1 (mJ h).n
 ·exact amO
def afK(ps:List PV)(x:PV):Prop:=∃(v:Vo) (s:Sl Mv),ps=[v.pv,OI s]/\x=pB true
set_option maxHeartbeats 4000000 in
def afU:MT (ay [(12,ah KL),(13,bF Wr),(15,c8 false qM),(39,c8 true YZ),(38,c8 true JF),(40,c8 false Ut),(16,ah OA),(30,bF acq),(41,c8 false UP),(34,bF Uq)]) Jd (ah afK):=by
 rintro _ K ⟨_,⟨v,s,rfl,rfl⟩,hK⟩;have lD:KL [] (pB true):=⟨rfl,rfl⟩
 have cT:Wr [v.pv] _:=⟨v,rfl,rfl⟩
 have gJ:(s.l.map Mv.pv).length=s.l.length:=Eb _;by_cases hf:ahf v
 case neg=>
  (repeat'((conv=>whnf);first|refine⟨_,lD,?_⟩|refine⟨_,cT,?_⟩|refine aw hf ?_|refine aN ?_|refine bP ?_|fail))<;>try(conv=>whnf)
  exact⟨.pv (pB true),rfl,trivial,hK⟩
 by_cases hg:¬(8<s.l.length/\s.l.length<=300)∧¬302<s.l.length
 case neg=>
  (repeat'((conv=>whnf);first|refine⟨_,lD,?_⟩|refine⟨_,cT,?_⟩|refine au hf ?_|refine KP ?_|refine aN ?_|refine au ab ?_|refine de (λ_=>?_) (λ_=>?_)|refine ez λ_=>?_|fail))<;>try(conv=>whnf)
  all_goals first
   |(exfalso;omega)
   |exact⟨.pv (pB true),rfl,trivial,hK⟩
 obtain⟨hb,hr,hn⟩:=hf.b;have hC:qM [v.pv] _:=⟨v,rfl,hn,rfl⟩
 have si:YZ [OI s] _:=⟨s,rfl,ab,rfl⟩
 have qH:(Sl.sl s.l).l.length<=1000000:=by show s.l.length<=_;omega
 have Aw:JF [(bp v).pv,OI (.sl s.l)] _:=⟨bp v,.sl s.l,rfl,⟨Og hb,qH⟩,rfl⟩
 have Vv:Ut [(bp v).pv,OI (.sl s.l)] _:=⟨bp v,.sl s.l,rfl,⟨Og hb,qH⟩,rfl⟩
 have fh:OA [v.pv] _:=⟨v,rfl,⟨hb,hr⟩,rfl⟩
 by_cases he:wX v=0
 case neg=>
  obtain⟨e1,e2,e3⟩:=ayV (s:=s) he;rw[e1,e2]at Aw;rw[e2,e3]at Vv;have tT:acq [TZ.pv] _:=⟨TZ,rfl,amO,rfl⟩
  have mD:aqV TZ TZ:=⟨rfl,rfl,rfl⟩
  (repeat'((conv=>whnf);first|refine⟨_,lD,?_⟩|refine⟨_,cT,?_⟩|refine au hf ?_|refine KP ?_|refine⟨_,hC,?_⟩|refine⟨_,si,?_⟩|refine⟨_,Aw,?_⟩|refine⟨_,Vv,?_⟩|refine⟨_,fh,?_⟩|refine au he ?_|refine au rfl ?_|refine⟨_,tT,?_⟩|refine au mD ?_|refine aN ?_|refine aw ab ?_|refine de (λ_=>?_) (λ_=>?_)|refine ez λ_=>?_|refine bT ?_|fail))<;>try(conv=>whnf)
  all_goals first
   |(exfalso;omega)
   |exact⟨.pv (pB true),rfl,trivial,hK⟩
 have dI:=acx hb he;obtain⟨e1,e2,e3⟩:=azp (s:=s) he;rw[e1,e2]at Aw;rw[e2,e3]at Vv;rw[he]at fh;have qG:UP [v.pv,OI s] _:=⟨v,s,rfl,⟨dI,ab⟩,rfl⟩
 have hN:=aAl (s:=s) dI;generalize ey v s=R at*;obtain⟨X,J,E⟩:=R;have SE:Uq [X.pv,X.pv] _:=⟨X,X,rfl,⟨hN,hN⟩,rfl⟩
 have mD:aqV X X:=⟨rfl,rfl,rfl⟩
 (repeat'((conv=>whnf);first|refine⟨_,lD,?_⟩|refine⟨_,cT,?_⟩|refine au hf ?_|refine KP ?_|refine⟨_,hC,?_⟩|refine⟨_,si,?_⟩|refine⟨_,Aw,?_⟩|refine⟨_,Vv,?_⟩|refine⟨_,fh,?_⟩|refine aw (λh=>h rfl) ?_|refine⟨_,qG,?_⟩|refine au rfl ?_|refine⟨_,SE,?_⟩|refine au mD ?_|refine aN ?_|refine aw ab ?_|refine de (λ_=>?_) (λ_=>?_)|refine ez λ_=>?_|refine bT ?_|fail))<;>try(conv=>whnf)
 all_goals first
  |(exfalso;omega)
  |exact⟨.pv (pB true),rfl,trivial,hK⟩
abbrev aAn:Bool×List CT:=(false,[.sl true [.int .i64,.int .i64,.int .i64,.int .i64]])
def awF{y:PV}(h:∃zs,y=.agg zs/\ou [.int .i64,.int .i64,.int .i64,.int .i64] zs):∃m:Mv,y=m.pv:=by
 obtain⟨zs,rfl,h⟩:=h;simp only[ou,O1]at h;obtain⟨_,_,rfl,⟨k,rfl,_⟩,_,_,rfl,⟨p,rfl,_⟩,_,_,rfl,⟨s,rfl,_⟩,_,_,rfl,⟨n,rfl,_⟩,rfl⟩:=h;exact⟨⟨k,p,⟨s,n⟩⟩,rfl⟩
def awH:∀xs,xS [kG,aAn] xs->(ah afK).run xs λr=>r=.pv (.bool true):=λxs h=>by
 simp only[xS]at h;obtain⟨y,_,rfl,h1,_,u,_,rfl,_,h3,rfl⟩:=h;obtain⟨v,rfl⟩:=ajp (h1 trivial);have h3:=h3 trivial;simp only[ou]at h3;obtain⟨_,_,e3,h3,rfl⟩:=h3;cases e3;simp only[O1]at h3;obtain⟨aC,rfl,_,he⟩:=h3;obtain⟨l,rfl,_⟩:=awZ (g:=Mv.pv) (q:=λ_=>True) λz hz=>by
  obtain⟨a,ha⟩:=awF ((he z hz).1 trivial);exact⟨a,ha,trivial⟩
 exact⟨_,⟨v,.sl l,rfl,rfl⟩,rfl⟩
def Bl:bU bb 138 (bF Av):=JT.sound mixed (aaB nN aq) (b_ _) (by rintro _ _ ⟨_,⟨_,_,rfl,_⟩,_⟩;rfl) aiS
def zP:bU bb 96 (bF ZT):=Qn.sound mixed (aaB Bl aq) (b_ _) (by rintro _ _ ⟨_,⟨_,_,rfl,_⟩,_⟩;rfl) aji
def HA:bU bb 39 (c8 true YZ):=abP.sound mixed aq (dQ _ _) (by rintro _ _ ⟨_,⟨_,rfl,_⟩,_⟩;rfl) aka
def Aa:bU bb 34 (bF Uq):=ajw.sound mixed (aaB zP aq) (b_ _) (by rintro _ _ ⟨_,⟨_,_,rfl,_⟩,_⟩;rfl) am9
def Bo:bU bb 30 (bF acq):=ai0.sound mixed (aaB Aa aq) (b_ _) (by rintro _ _ ⟨_,⟨_,rfl,_⟩,_⟩;rfl) aob
def uB:bU bb 192 (sB aqr):=Sm.rJ mixed (aaB rC aq) (by rintro _ _ _ ⟨_,_,_,rfl,_⟩;rfl) aq6
def qK:bU bb 191 (sB akD):=wV.rJ mixed (aaB uB aq) (by rintro _ _ _ ⟨_,_,rfl,_⟩;rfl) alp
def KX:bU bb 139 (c8 false apP):=aaZ.sound mixed (aaB uB (aaB qK aq)) (dQ _ _) (by rintro _ _ ⟨_,⟨_,_,rfl,_⟩,_⟩;rfl) aqX
def vf:bU bb 98 (c8 false H6):=acC.sound mixed (aaB eF (aaB KX (aaB dj (aaB jy aq)))) (dQ _ _) (by rintro _ _ ⟨_,⟨_,_,rfl,_⟩,_⟩;rfl) age
def Ib:bU bb 40 (c8 false Ut):=aet.sound mixed (aaB vf (aaB iQ aq)) (dQ _ _) (by rintro _ _ ⟨_,⟨_,_,rfl,_⟩,_⟩;rfl) ahi
def A4:bU bb 38 (c8 true JF):=ace.sound mixed (aaB vf aq) (dQ _ _) (by rintro _ _ ⟨_,⟨_,_,rfl,_⟩,_⟩;rfl) aev
def L3:bU bb 43 (c8 false Y_):=ahF.sound mixed (aaB ru (aaB bo (aaB EY (aaB eO aq)))) (dQ _ _) (by rintro _ _ ⟨_,⟨_,_,rfl,_⟩,_⟩;rfl) ajn
def I9:bU bb 41 (c8 false UP):=adV.sound mixed (aaB eO (aaB L3 aq)) (dQ _ _) (by rintro _ _ ⟨_,⟨_,_,rfl,_⟩,_⟩;rfl) ahr
def D2:bU bb 6 (ah afK):=XC.sound mixed (aaB nW (aaB sR (aaB eO (aaB HA (aaB A4 (aaB Ib (aaB ox (aaB Bo (aaB I9 (aaB Aa aq)))))))))) (ax _) (by rintro _ _ ⟨_,⟨_,_,rfl,_⟩,_⟩;rfl) afU
end Go.Dv.Try
