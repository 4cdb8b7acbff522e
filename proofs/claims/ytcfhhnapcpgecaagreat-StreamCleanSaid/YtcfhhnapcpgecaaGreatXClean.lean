/- Own work: parts of the proof, shortened and laid together by a tool of our own. -/
import Derived.Test.YtcfhhnapcpgecaaGreatP6
import Derived.Test.YtcfhhnapcpgecaaGreatProg
import Derived.KernelRfl
set_option linter.defProp false
set_option linter.unusedSimpArgs false
set_option linter.unusedVariables false
open List renaming flatMap_append→zaz, range_succ→zdk, mem_range→zbm, map_congr_left→zbE, length_append→zad, flatMap_cons→zan, flatMap_def→zdR, flatMap_map→zdy, flatMap_nil→zdS, append_nil→zbf
namespace Go.Dv.Try
open Go Go.Dv Go.Dv.Sh Go.Proofs.Tryz
def aJa:PC:=r [L 29 2 3,L 30 11 4,c 31 11 [t 29,t 30],u 32 31,m 33 32,Q 33 (f 34 2 5),Q 33 (l 35 34),Q 33 (y 36 35),Q 33 (B 37 .gtr 36 32768),V 38 33 37,m 39 38,Q 39 (L 40 2 3),Q 39 (L 41 11 4),Q 39 (c 42 14 [t 40,t 41]),Q 39 (B 43 .neq 42 0),V 44 39 43,m 45 44,Q 45 (f 46 0 5),Q 45 (l 47 46),Q 45 (c 48 15 [t 47,k 0,k 32768]),Q 45 (u 49 48),V 50 45 49,m 51 50,Q 51 (f 52 0 5),Q 51 (l 53 52),Q 51 (f 54 2 5),Q 51 (l 55 54),Q 51 (y 56 55),Q 51 (b 57 .add 53 56),Q 51 (B 58 .gtr 57 32768),V 59 51 58]
def aJz:PC:=G [3,4,5,7,8] (g (R [m 60 8,L 61 2 3,c 62 32 [t 61],b 63 .lss 60 62] (C 63 w (h 0))) (g (H 1 (R [L 66 2 3,m 67 8,c 68 33 [t 66,t 67],m 9 68] (g (g (D [f 69 1 3,l 70 69,m 71 8,B 72 .quo 71 8,o 73 (.idx (t 70) (t 72)),o 74 (.conv (.toInt .i64) (t 73)),m 75 8,B 76 .rem 75 8,c 77 34 [t 76],b 78 .quo 74 77,B 79 .rem 78 2,B 80 .eql 79 0] [[],[0],[],[2],[1,3],[4],[],[6],[7],[5,8],[9],[10]]) (C 80 (r [c 81 35 [.const (.string (ByteArray.mk (Array.mk [33]))),k 256],m 9 81]) w)) (r [m 82 7,m 83 9,b 84 .add 82 83,m 7 84])))) (r [m 64 8,B 65 .add 64 1,m 8 65])))
def aJb:PC:=E [m 98 7,f 99 1 3,l 100 99,o 101 (.build [.str [],.str []] [⟨0,⟨1,t 98⟩⟩,⟨1,⟨1,t 100⟩⟩]),L 102 11 4,c 103 13 [t 102],f 104 0 5,l 105 104,f 106 2 5,l 107 106,c 108 12 [t 101,t 103,t 105,t 107],m 97 108,e 109 97 0,e 110 97 1,e 111 97 2,o 13 (.alloc 23 (.agg [.str [],.str []])),o 14 (.alloc 26 (.agg [I 0,.str [],I 0,I 0,.bool false,.str [],I 0,.nil 2,I 0,I 0,I 0])),s 2 13 109,s 11 14 110,m 15 111] [[],[],[1],[0,2],[],[4],[],[6],[],[8],[3,5,7,9,5],[10],[11],[11],[11],[],[],[15,12,10,0,1,2,3,4,5,6,7,8,9,10,11,12,15,16],[16,13,17,0,1,2,3,4,5,6,7,8,9,10,11,12,13,15,16,17],[14,18,0,1,2,3,4,5,6,7,8,9,10,11,12,13,14,15,16,17,18]]
def zP:FC:=⟨[0,1,2,3,4,5,6,7,8,9,10,11,12,13,14,15,16,17,18,19,20,21,22,23,24,25,26],[⟨6,none⟩],R [U 3 23 0,U 4 26 1,U 5 30 2,o 6 (.mv F)] (g (R [c 27 10 [],u 28 27] (C 28 (R [o 6 (.mv F)] j) w)) (g (g aJa (C 59 (R [o 6 (.mv T)] j) w)) (R [o 7 (.mv (Y []))] (g (R [M 8 0] (H 0 aJz)) (g (E [L 86 2 3,L 87 11 4,c 88 13 [t 87],f 89 0 5,l 90 89,f 91 2 5,l 92 91,c 93 12 [t 86,t 88,t 90,t 92],m 85 93,e 94 85 0,e 95 85 1,e 96 85 2,o 10 (.alloc 23 (.agg [.str [],.str []])),o 11 (.alloc 26 (.agg [I 0,.str [],I 0,I 0,.bool false,.str [],I 0,.nil 2,I 0,I 0,I 0])),s 2 10 94,s 11 11 95,m 12 96] [[],[],[1],[],[3],[],[5],[0,2,4,6,2],[7],[8],[8],[8],[],[],[12,9,7,0,1,2,3,4,5,6,7,8,9,12,13],[13,10,14,0,1,2,3,4,5,6,7,8,9,10,12,13,14],[11,15,0,1,2,3,4,5,6,7,8,9,10,11,12,13,14,15]]) (g aJb (g (R [m 112 12,m 113 15,b 114 .neq 112 113] (C 114 (R [o 6 (.mv F)] j) w)) (g (R [m 115 12,B 116 .neq 115 0] (C 116 (R [o 6 (.mv T)] j) w)) (R [f 117 1 5,l 118 117,c 119 28 [t 118,k 32769],m 16 119] (R [L 121 2 10,L 122 11 11,m 123 16,c 124 30 [t 121,t 122,t 123],m 120 124,e 125 120 0,e 126 120 1,e 127 120 2,o 17 (.alloc 23 (.agg [.str [],.str []])),o 18 (.alloc 26 (.agg [I 0,.str [],I 0,I 0,.bool false,.str [],I 0,.nil 2,I 0,I 0,I 0])),s 2 17 125,s 11 18 126,m 19 127] (R [L 129 2 13,L 130 11 14,m 131 16,c 132 30 [t 129,t 130,t 131],m 128 132,e 133 128 0,e 134 128 1,e 135 128 2,o 20 (.alloc 23 (.agg [.str [],.str []])),o 21 (.alloc 26 (.agg [I 0,.str [],I 0,I 0,.bool false,.str [],I 0,.nil 2,I 0,I 0,I 0])),s 2 20 133,s 11 21 134,m 22 135] (g (R [m 136 19,m 137 22,b 138 .neq 136 137] (C 138 (R [o 6 (.mv F)] j) w)) (g (R [m 139 19,B 140 .neq 139 0] (C 140 (R [o 6 (.mv T)] j) w)) (R [L 142 2 17,L 143 11 18,c 144 29 [t 142,t 143],m 141 144,e 145 141 0,e 146 141 1,m 23 145,m 24 146] (R [L 148 2 20,L 149 11 21,c 150 29 [t 148,t 149],m 147 150,e 151 147 0,e 152 147 1,m 25 151,m 26 152] (R [m 153 24,B 154 .eql 153 0,m 155 154,q 155 (m 156 26),q 155 (B 157 .eql 156 0),P 158 155 157,m 159 158,q 159 (m 160 23),q 159 (m 161 25),q 159 (b 162 .eql 160 161),P 163 159 162,m 6 163] j))))))))))))))))⟩
def MQ:CO 5 zP 3:=bk f5 ak
end Go.Dv.Try
namespace Go.Dv.Try
open Go Go.Dv
section
structure M5(d e:Dk):Prop where
 len:e.a_.length=d.a_.length
 mp:e.mp=d.mp
 cl:∀c,c<d.n->bH d.mp c=1->eU e.a_ c=eU d.a_ c
def ajT{d e:Dk}(h:M5 d e):e.n=d.n:=by unfold Dk.n;rw[h.len]
def amd{d e:Dk}(h:M5 d e):df e=df d:=by unfold df;rw[h.mp]
def Rz{d e:Dk}{a:At}(h:M5 d e)(h0:aK d a=0):aK e a=0/\aV (ar e a)=aV (ar d a):=by
 obtain⟨ok,oo⟩:=bc h0;have hn:=ajT h;have mE:∀x∈az a.rn.l,x≠ -1->eU e.a_ x.toNat=eU d.a_ x.toNat:=λx hx h1=>by
  have hb:=(ok.pl x hx).resolve_left h1;have pD:=QX h0 (c:=x.toNat) (by rw[show((x.toNat:Nat):Int)=x by omega];exact hx);exact h.cl _ so pD
 have sL:(az a.rn.l).map (tS e.a_)=(az a.rn.l).map (tS d.a_):=zbE λx hx=>by
  unfold tS;split
  ·rfl
  ·rename_i g;exact mE x hx g
 have aDV:rz e.a_ (az a.rn.l)=rz d.a_ (az a.rn.l):=by
  unfold rz;refine Mr λx hx=>?_
  split
  ·rfl
  ·rename_i g;exact mE x hx g
 have fM:∀k,dF e.a_ (bq (az a.rn.l) k)=dF d.a_ (bq (az a.rn.l) k):=λk=>by
  unfold dF;rw[zdR,zdR,<-pZ,<-pZ,sL]
 have aDW:ow e.a_ (chunks (az a.rn.l))=ow d.a_ (chunks (az a.rn.l)):=by
  unfold ow chunks;rw[zdy,zdy];exact Mr λk _=>by rw[fM]
 have aDX:∀v,qw e.a_ v (chunks (az a.rn.l))=qw d.a_ v (chunks (az a.rn.l)):=λv=>by
  unfold qw TE;congr 1;refine zbE λk hk=>?_
  have hk:=zbm.1 hk;rw[om]at hk;rw[p_ _ FO,Option.getD_some];unfold xC;rw[fM]
 have lO:gm e=gm d:=by unfold gm;rw[h.len,hn,h.mp]
 have qG:pG e (az a.rn.l)=pG d (az a.rn.l):=by unfold pG;rw[hn,h.mp]
 constructor
 ·have:=h0;unfold aK at this ⊢;rw[lO,qG,aDX];exact this
 ·unfold aV;show(if a.rs=true then a.vl else nA a (if a.fl%2=1 then ow e.a_ (chunks (az a.rn.l))else rz e.a_ (az a.rn.l)))=(if a.rs=true then a.vl else nA a (if a.fl%2=1 then ow d.a_ (chunks (az a.rn.l))else rz d.a_ (az a.rn.l)))
  rw[aDW,aDV]
def ano{d e:Dk}(h:M5 d e)(hd:wU d):wU e:=⟨by rw[h.len];exact hd.1,by rw[h.mp];exact hd.2⟩
section
variable {d e:Dk} {a:At} {C:List UInt8} {v:Int} {dt:Nat->Prop}
def afe(h:M5 d e):Be (ar e a) C dt=Be (ar d a) C dt:=by
 unfold Be;show CQ (aQ (ar d a) C dt) (az a.rn.l) (pN (aQ (ar d a) C dt) (az a.rn.l) (df e) e.n)=CQ (aQ (ar d a) C dt) (az a.rn.l) (pN (aQ (ar d a) C dt) (az a.rn.l) (df d) d.n);rw[amd h,ajT h]
def anx(h:M5 d e):Gv (ar e a) C v dt=Gv (ar d a) C v dt:=by
 have hL:Cz (ar e a) C dt=Cz (ar d a) C dt:=by
  unfold Cz;rw[afe h];rfl
 unfold Gv;rw[hL];rfl
def anr(h:M5 d e):Md (ar e a) C v dt=Md (ar d a) C v dt:=by
 have hL:Cz (ar e a) C dt=Cz (ar d a) C dt:=by
  unfold Cz;rw[afe h];rfl
 unfold Md;rw[hL,anx h];show(if w_ (aQ (ar d a) C dt) (az a.rn.l) (df e) e.n≠0 then w_ (aQ (ar d a) C dt) (az a.rn.l) (df e) e.n else _)=(if w_ (aQ (ar d a) C dt) (az a.rn.l) (df d) d.n≠0 then w_ (aQ (ar d a) C dt) (az a.rn.l) (df d) d.n else _)
 rw[amd h,ajT h]
def axH(h:M5 d e)(h0:aK d a=0)(hd:wU d)(hn:a.nm.length<=1000000)(hc:GZ (ar d a) C v dt)(Cw:GZ (ar e a) C v dt)(he:Md (ar d a) C v dt=0):M5 (XY (ar d a) C dt) (XY (ar e a) C dt):=by
 have hm:=Xo h0 hd hn hc he;have sL:=Xo (Rz h h0).1 (ano h hd) hn Cw (by rw[anr h];exact he);have hk:=hm.dk;have AP:=sL.dk;have hmp:(XY (ar e a) C dt).mp=(XY (ar d a) C dt).mp:=by
  show mG (cQ (ZJ (pN (aQ (ar d a) C dt) (az a.rn.l) (df e) e.n) (sq (aQ (ar d a) C dt) (az a.rn.l) (df e))) e.n)=mG (cQ (ZJ (pN (aQ (ar d a) C dt) (az a.rn.l) (df d) d.n) (sq (aQ (ar d a) C dt) (az a.rn.l) (df d))) d.n);rw[amd h,ajT h]
 refine⟨by rw[hk.len,AP.len];exact h.len,hmp,λc WS pD=>?_⟩;have cM:c<d.n:=by
  have:=hk.len;unfold Dk.n at WS ⊢;rw[this]at WS;exact WS
 have hP:=afe (a:=a) (C:=C) (dt:=dt) h;have fp:aQ (ar e a) C dt=aQ (ar d a) C dt:=rfl;by_cases g:∃i,jz (aQ (ar d a) C dt) i=true/\Be (ar d a) C dt i=c
 ·obtain⟨i,g1,g2⟩:=g;have e1:=hk.kW i g1;have e2:=AP.kW i (by rw[fp];exact g1);rw[hP]at e2;rw[g2,Int.toNat_natCast]at e1 e2;rw[e1,e2,fp]
 ·have e1:=hk.aBv c cM λi hi hh=>g ⟨i,hi,hh⟩
  have e2:=AP.aBv c (by show c<e.n;rw[ajT h];exact cM) λi hi hh=>g ⟨i,by rw[fp]at hi;exact hi,by rw[hP]at hh;exact hh⟩
  rw[e1,e2];rcases(hk.bit c cM).1 pD with⟨i,_,g1,g2⟩|⟨_,g2⟩
  ·exact absurd ⟨i,g1,g2⟩ g
  ·exact h.cl c cM g2
def ar_(h:M5 d e)(h0:aK d a=0)(hd:wU d)(hn:a.nm.length<=1000000)(hc:GZ (ar d a) C v dt)(Cw:GZ (ar e a) C v dt):cg (ar e a) C v dt=cg (ar d a) C v dt/\(cg (ar d a) C v dt=0->jK (ar e a) C v dt=jK (ar d a) C v dt/\M5 (lQ (ar d a) C v dt) (lQ (ar e a) C v dt)):=by
 have e1:(ar d a).a=a:=rfl;have e2:(ar e a).a=a:=rfl;unfold cg jK lQ;rw[e1,e2,anr h,anx h];by_cases g:a.rs=true/\C.length<=200
 ·simp only[if_pos g];exact⟨trivial,λ_=>⟨trivial,h⟩⟩
 ·simp only[if_neg g];refine⟨trivial,λhe=>?_⟩;simp only[if_pos he];exact⟨trivial,axH h h0 hd hn hc Cw he⟩
end
def aBp{d e:Dk}{a:At}{p:Int}{dat:List UInt8}(h:M5 d e)(h0:aK d a=0)(hd:wU d)(hn:a.nm.length<=1000000)(hp:0<=p)(hl:p+dat.length<=32768):
 AO e a p dat=AO d a p dat/\(AO d a p dat=0->yV e a p dat=yV d a p dat/\M5 (zM d a p dat) (zM e a p dat)):=by
 obtain⟨o1,o2⟩:=Rz h h0;have Gy:yE d a p dat=0:=ZF;have rM:yE e a p dat=0:=by unfold yE iU;rw[if_neg (λe=>e o1),if_neg (λe=>e ab),if_neg ab]
 by_cases cb:dat=[]
 ·unfold AO yV zM;rw[Gy,rM];simp only[if_neg z0,if_pos cb];exact⟨trivial,λ_=>⟨trivial,h⟩⟩
 ·have hc:=aoc (qo h0) hp hl;have Cw:=aoc (qo o1) hp hl;rw[o2]at Cw;have hw:b8 (ar e a) p (p+dat.length)=b8 (ar d a) p (p+dat.length):=rfl;rw[hw]at Cw;have:=ar_ h h0 hd hn hc Cw;unfold AO yV zM;rw[Gy,rM,o2,hw];simp only[if_neg z0,if_neg cb];exact this
def aBN{d e:Dk}{a:At}{n:Int}(h:M5 d e)(h0:aK d a=0)(hd:wU d)(hn:a.nm.length<=1000000)(hp:0<=n/\n<=32768):
 Jb e a n=Jb d a n/\(Jb d a n=0->LA e a n=LA d a n/\M5 (Jf d a n) (Jf e a n)):=by
 obtain⟨o1,o2⟩:=Rz h h0;have Gy:D8 d a n=0:=Z9;have rM:D8 e a n=0:=by unfold D8 iU;rw[if_neg (λe=>e o1),if_neg (λe=>e ab)]
 have hc:=anp (qo h0) hp;have Cw:=anp (qo o1) hp;rw[o2]at Cw;have hw:Yk (ar e a)=Yk (ar d a):=rfl;rw[hw]at Cw;have:=ar_ h h0 hd hn hc Cw;unfold Jb LA Jf;rw[Gy,rM,o2,hw];simp only[if_neg z0];exact this
def D_(d:Dk)(X:List UInt8)(n:Nat):List UInt8:=(List.range n).flatMap λc=>if bH d.mp c=0 then X else eU d.a_ c
def atV{d:Dk}{X:List UInt8}(hX:X.length=256)(hd:d.a_.length%256=0):M5 d ⟨D_ d X d.n,d.mp⟩:=by
 have hf:∀c∈List.range d.n,((λc=>if bH d.mp c=0 then X else eU d.a_ c) c).length=256:=λc hc=>by
  have hc:=zbm.1 hc;show(if bH d.mp c=0 then X else eU d.a_ c).length=256;split
  ·exact hX
  ·exact gI Se
 have hlen:(D_ d X d.n).length=d.a_.length:=by
  have:∀n,n<=d.n->(D_ d X n).length=256*n:=λn=>by
   induction n with
   |zero=>intro _;simp[D_]
   |succ n ih=>
    intro hn;unfold D_ at ih ⊢;rw[zdk,zaz,zad,ih ab];have h5:(if bH d.mp n=0 then X else eU d.a_ n).length=256:=hf n (zbm.2 ab);simp only[zan,zdS,zbf];rw[h5];omega
  rw[this d.n (Nat.le_refl _)];unfold Dk.n;omega
 refine⟨hlen,rfl,λc hc hb=>?_⟩;refine anf (gI (by show(c+1)*256<=(D_ d X d.n).length;unfold Dk.n at hc;omega)) (gI Se) λi hi=>?_
 rw[aaH hi];show(D_ d X d.n)[256*c+i]?=_;unfold D_;rw[flat_get hf hi,List.getElem?_range hc];show(if bH d.mp c=0 then X else eU d.a_ c)[i]?=_;rw[if_neg ab]
end
def aJK{v P:Nat}(hv:v<256)(hP:0<P){K:Int->Prop}(k:K ((v/P:Nat):Int)):(P:Int)≠0∧∀r:Int,r=IntKind.i64.wrap ((v:Int).tdiv (P:Int))->K r:=by
 refine⟨ab,λr hr=>?_⟩;rw[Int.tdiv_eq_ediv_of_nonneg ab]at hr;have hq:v/P<=v:=Nat.div_le_self _ _;have e:r=IntKind.i64.wrap ((v/P:Nat):Int):=hr;generalize v/P=Q at*;have e:=dB e ab;rw[e];exact k
def Pz(ps:List PV)(x:PV):Prop:=∃(d:Dk) (a:At) (p n:Int) (dat:List UInt8) (t:Rn),ps=[d.pv,a.pv,.agg [pI p,pI n,.str dat,pI t.s,pI t.n]]/\x=pB true
set_option maxHeartbeats 8000000 in
def Y3:MT (ay [(10,ah CM),(11,bF sJ),(14,ah aW),(15,bF bG),(32,ah bA),(33,ah iQ),(34,ah jQ),(35,ah Ut),(13,c8 false dK),(12,c8 false fm),(28,ah nW),(30,c8 false ko),(29,c8 true fi)]) zP (ah Pz):=by
 rintro _ K ⟨_,⟨d,a,p,n,dat,t,rfl,rfl⟩,hK⟩;have lD:CM [] (pB true):=⟨rfl,rfl⟩
 by_cases SE:wV d a
 case neg=>
  (repeat'((conv=>whnf);first|refine⟨_,lD,?_⟩|refine⟨_,⟨d,a,rfl,rfl⟩,?_⟩|refine aN ?_|refine bP ?_|refine aw ab ?_|fail))<;>try(conv=>whnf)
  exact aI
 obtain⟨m1,m2,m3,m4,m5⟩:=id SE;have hd:wU d:=⟨ab,ab⟩
 have PI:=pR hd;have hn:a.nm.length<=1000000:=ab;by_cases Aj:dat.length<=32768
 case neg=>
  (repeat'((conv=>whnf);first|refine⟨_,lD,?_⟩|refine⟨_,⟨d,a,rfl,rfl⟩,?_⟩|refine aN ?_|refine au ab ?_|fail))<;>try(conv=>whnf)
  exact aI
 have vv:aW [d.pv,a.pv] (pI (aK d a)):=⟨d,a,rfl,⟨PI,hn⟩,rfl⟩
 by_cases h0:aK d a=0
 case neg=>
  generalize aK d a=E at*
  (repeat'((conv=>whnf);first|refine⟨_,lD,?_⟩|refine⟨_,⟨d,a,rfl,rfl⟩,?_⟩|refine⟨_,vv,?_⟩|refine aN ?_|refine au ab ?_|refine aw ab ?_|fail))<;>try(conv=>whnf)
  exact aI
 rw[h0]at vv;by_cases hp:0<=p/\p<=32768
 case neg=>
  (repeat'((conv=>whnf);first|refine⟨_,lD,?_⟩|refine⟨_,⟨d,a,rfl,rfl⟩,?_⟩|refine⟨_,vv,?_⟩|(refine fe ?_;first|refine aN ?_|refine bP ?_|refine au ab ?_|refine aw ab ?_|refine⟨_,⟨_,_,_,rfl,rfl⟩,?_⟩|fail)))<;>try(conv=>whnf)
  exact aI
 by_cases xp:p+dat.length<=32768
 case neg=>
  (repeat'((conv=>whnf);first|refine⟨_,lD,?_⟩|refine⟨_,⟨d,a,rfl,rfl⟩,?_⟩|refine⟨_,vv,?_⟩|(refine fe ?_;first|refine bj ab ?_|refine aN ?_|refine au ab ?_|refine aw ab ?_|refine⟨_,⟨_,_,_,rfl,rfl⟩,?_⟩|fail)))<;>try(conv=>whnf)
  exact aI
 have na:aK d (aB a)=0:=xJ;have ok:=(bc h0).1;obtain⟨b1,b2,b3,b4,_⟩:=iR ok.bm;have kr:=ok.nb;obtain⟨d1,d2,d3⟩:=rX ok.dk;have Nt:bA [d.pv] (pI d.n):=⟨d,rfl,PI.1,rfl⟩
 have aLt:256*d.n=d.a_.length:=so;obtain⟨X,hX⟩:∃X:List UInt8,X=List.replicate (256:Int).toNat 33:=⟨_,rfl⟩
 have htx:Ut [.str [33],pI 256] (.str X):=⟨33,256,rfl,ab,by rw[hX]⟩
 have hXl:X.length=256:=by rw[hX,List.length_replicate];rfl
 clear hX;have sO:=atV (X:=X) hXl d1
 (repeat'((conv=>whnf);first|refine⟨_,lD,?_⟩|refine⟨_,⟨d,a,rfl,rfl⟩,?_⟩|refine⟨_,vv,?_⟩|(refine fe ?_;first|refine bj ab ?_|refine aN ?_|refine au ab ?_|refine aw ab ?_|refine⟨_,⟨_,_,_,rfl,rfl⟩,?_⟩|fail)))<;>try(conv=>whnf)
 refine⟨λm env σ=>∃c:Nat,c+m=d.n/\σ=[.box 23 [.pv (.str d.a_),.pv (.str d.mp)],.box 26 [.pv (pI a.ty),.pv (.str a.nm),.pv (pI a.id),.pv (pI a.fl),.pv (pB a.rs),.pv (.str a.vl),.pv (pI a.ft),.pv (qF a.rn),.pv (pI a.al),.pv (pI a.sz),.pv (pI a.vd)],.box 30 [.pv (pI p),.pv (pI n),.pv (.str dat),.pv (pI t.s),.pv (pI t.n)]]/\
  env=[(3,.ref 0 0 0),(4,.ref 1 0 0),(5,.ref 2 0 0),(7,.pv (.str (D_ d X c))),eN 8 c],d.n,⟨0,ab,rfl,rfl⟩,?_⟩
 rintro m env σ ⟨c,AQ,rfl,rfl⟩;have sS:(D_ d X c).length=256*c:=by
  have:∀n,n<=d.n->(D_ d X n).length=256*n:=λn=>by
   induction n with
   |zero=>intro _;simp[D_]
   |succ n ih=>
    intro hn;unfold D_ at ih ⊢;rw[zdk,zaz,zad,ih ab];simp only[zan,zdS,zbf];have h5:(if bH d.mp n=0 then X else eU d.a_ n).length=256:=by
     split
     ·exact hXl
     ·exact gI ab
    rw[h5];omega
  exact this c ab
 by_cases aU:c<d.n
 ·have mE:iQ [d.pv,pI c] (.str (eU d.a_ c)):=⟨d,c,rfl,ab,rfl⟩
  have aLu:(eU d.a_ c).length=256:=gI ab;obtain⟨v,hv⟩:∃v,d.mp[c/8]?=some v:=qp;have Oh:d.mp[((c:Int)/8).toNat]?=some v:=by rw[show((c:Int)/8).toNat=c/8 by omega];exact hv
  have Ja:=v.toNat_lt;have AW:jQ [pI ((c:Int)%8)] (pI ((2^(c%8):Nat):Int)):=⟨(c:Int)%8,rfl,ab,by rw[show((c:Int)%8).toNat=c%8 by omega]⟩
  have eQ:=Nat.two_pow_pos (c%8);have y_:bH d.mp c=v.toNat/2^(c%8)%2:=by unfold bH;rw[hv];rfl
  have hT:D_ d X (c+1)=D_ d X c++(if bH d.mp c=0 then X else eU d.a_ c):=by
   unfold D_;rw[zdk,zaz];simp
  generalize 2^(c%8)=P at*;generalize D_ d X c=S at*;generalize eU d.a_ c=CL at*;have hqv:=λ(K:Int->Prop)=>aJK (v:=v.toNat) (P:=P) Ja eQ (K:=K)
  generalize v.toNat/P=Q at*;clear hK ok sO vv;have cM:(c:Int)<600:=ab;by_cases hb:bH d.mp c=0
  ·rw[if_pos hb]at hT
   (repeat'((conv=>whnf);first|refine⟨_,Nt,?_⟩|refine⟨_,mE,?_⟩|refine⟨_,⟨ab,Oh⟩,?_⟩|refine⟨_,AW,?_⟩|refine⟨_,htx,?_⟩|refine oQ ?_|refine hqv _ ?_|refine And.intro (by(rw[sS,hXl];omega)) ?_|refine bj ab ?_|refine au ab ?_|refine l7 ab ?_|refine lW ab ?_|fail))<;>try(conv=>whnf)
   exact⟨m-1,ab,c+1,ab,rfl,rY⟩
  ·rw[if_neg hb]at hT
   (repeat'((conv=>whnf);first|refine⟨_,Nt,?_⟩|refine⟨_,mE,?_⟩|refine⟨_,⟨ab,Oh⟩,?_⟩|refine⟨_,AW,?_⟩|refine oQ ?_|refine hqv _ ?_|refine And.intro (by(rw[sS,aLu];omega)) ?_|refine bj ab ?_|refine au ab ?_|refine aw ab ?_|refine l7 ab ?_|refine lW ab ?_|fail))<;>try(conv=>whnf)
   exact⟨m-1,ab,c+1,ab,rfl,rY⟩
 ·have cM:c=d.n:=by omega
  subst cM;have hp3:bA [d.pv] (pI d.n):=Nt;have Aw:dK [a.pv] (.pv (aB a).pv):=⟨a,rfl,ab,rfl⟩
  have vu:(aB a).rn.l.length<=1000000:=by show a.rn.l.length<=_;omega
  have ard:nW [pI n,pI 32769] (pI (n%32769)):=⟨n,_,rfl,ab,rfl⟩
  have sy:0<=n%32769/\n%32769<=32768:=ab;generalize n%32769=j at*;obtain⟨e,he⟩:∃e:Dk,e=⟨D_ d X d.n,d.mp⟩:=⟨_,rfl⟩
  have aHQ:PV.agg [.str (D_ d X d.n),.str d.mp]=e.pv:=by rw[he];rfl
  rw[<-he]at sO;have hds:wU e:=ano sO hd;obtain⟨v1,v2⟩:=aBp (a:=aB a) (p:=p) (dat:=dat) sO na hd hn hp.1 xp;have Vt:fm [d.pv,(aB a).pv,pI p,.str dat] (.tup [.pv (zM d (aB a) p dat).pv,.pv (yV d (aB a) p dat).pv,.pv (pI (AO d (aB a) p dat))]):=⟨d,aB a,p,dat,rfl,⟨hd,hn,vu,ab⟩,rfl⟩
  have WT:fm [.agg [.str (D_ d X d.n),.str d.mp],(aB a).pv,pI p,.str dat] (.tup [.pv (zM e (aB a) p dat).pv,.pv (yV e (aB a) p dat).pv,.pv (pI (AO d (aB a) p dat))]):=⟨e,aB a,p,dat,by rw[aHQ],⟨hds,hn,vu,ab⟩,by rw[v1]⟩
  have k1:=aw3 (d:=d) (a:=aB a) (p:=p) (dat:=dat) na hd hn hp.1 xp;have nn:(aB a).nm.length=a.nm.length:=rfl;generalize D_ d X d.n=OB at*;clear aHQ he htx hXl;by_cases rM:AO d (aB a) p dat=0
  case neg=>
   clear k1 v1 v2 sO;generalize AO d (aB a) p dat=E1 at*;generalize zM d (aB a) p dat=D1 at*;generalize yV d (aB a) p dat=A1 at*;generalize zM e (aB a) p dat=D2 at*;generalize yV e (aB a) p dat=A2 at*
   (repeat'((conv=>whnf);first|refine oQ ?_|refine⟨_,Nt,?_⟩|refine⟨_,Aw,?_⟩|refine⟨_,Vt,?_⟩|refine⟨_,WT,?_⟩|refine aw (λh=>h rfl) ?_|refine au ab ?_|refine aw ab ?_|fail))<;>try(conv=>whnf)
   exact aI
  obtain⟨v3,v4⟩:=v2 rM;obtain⟨o1,_,s1,n1,r1⟩:=k1 rM;rw[rM]at Vt WT;rw[v3]at WT;generalize zM d (aB a) p dat=D1 at*;generalize yV d (aB a) p dat=A1 at*;generalize zM e (aB a) p dat=D2 at*;clear v1 v2 v3 k1;obtain⟨u1,u2⟩:=aBN (a:=A1) (n:=j) v4 o1 s1 ab sy;have k3:=aB2 (d:=D1) (a:=A1) (n:=j) o1 s1 ab sy;have hz3:ko [D1.pv,A1.pv,pI j] (.tup [.pv (Jf D1 A1 j).pv,.pv (LA D1 A1 j).pv,.pv (pI (Jb D1 A1 j))]):=⟨D1,A1,j,rfl,⟨s1,ab⟩,rfl⟩
  have ye:ko [D2.pv,A1.pv,pI j] (.tup [.pv (Jf D2 A1 j).pv,.pv (LA D2 A1 j).pv,.pv (pI (Jb D1 A1 j))]):=⟨D2,A1,j,rfl,⟨ano v4 s1,ab⟩,by rw[u1]⟩
  by_cases hE3:Jb D1 A1 j=0
  case neg=>
   clear k3 u1 u2;generalize Jb D1 A1 j=E3 at*;generalize Jf D1 A1 j=D3 at*;generalize LA D1 A1 j=A3 at*;generalize Jf D2 A1 j=D4 at*;generalize LA D2 A1 j=A4 at*
   (repeat'((conv=>whnf);first|refine oQ ?_|refine⟨_,Nt,?_⟩|refine⟨_,Aw,?_⟩|refine⟨_,Vt,?_⟩|refine⟨_,WT,?_⟩|refine⟨_,ard,?_⟩|refine⟨_,hz3,?_⟩|refine⟨_,ye,?_⟩|refine aw (λh=>h rfl) ?_|refine au ab ?_|refine aw ab ?_|fail))<;>try(conv=>whnf)
   exact aI
  obtain⟨u3,u4⟩:=u2 hE3;obtain⟨o3,_,s3,n3⟩:=k3 hE3;rw[hE3]at hz3 ye;rw[u3]at ye;generalize Jf D1 A1 j=D3 at*;generalize LA D1 A1 j=A3 at*;generalize Jf D2 A1 j=D4 at*;obtain⟨o4,c4⟩:=Rz u4 o3;have hc3:fi [D3.pv,A3.pv] (.tup [.pv (.str (aV (ar D3 A3))),.pv (pI 0)]):=⟨D3,A3,rfl,⟨pR s3,ab⟩,by unfold abo;rw[if_pos o3,o3]⟩
  have hc4:fi [D4.pv,A3.pv] (.tup [.pv (.str (aV (ar D3 A3))),.pv (pI 0)]):=⟨D4,A3,rfl,⟨pR (ano u4 s3),ab⟩,by unfold abo;rw[if_pos o4,o4,c4]⟩
  generalize aV (ar D3 A3)=U at*;clear u1 u2 u3 k3
  (repeat'((conv=>whnf);first|refine oQ ?_|refine⟨_,Nt,?_⟩|refine⟨_,Aw,?_⟩|refine⟨_,Vt,?_⟩|refine⟨_,WT,?_⟩|refine⟨_,ard,?_⟩|refine⟨_,hz3,?_⟩|refine⟨_,ye,?_⟩|refine⟨_,hc3,?_⟩|refine⟨_,hc4,?_⟩|refine aw (λh=>h rfl) ?_|refine au rfl ?_|refine aw ab ?_|fail))<;>try(conv=>whnf)
  exact aI
def aqp:∀xs,xS [vt,wk,Bl] xs->(ah Pz).run xs λr=>r=.pv (.bool true):=λxs h=>by
 obtain⟨d,a,p,n,dat,t,rfl⟩:=LZ h;exact Sv
def vP:=MQ.snd (by exact⟨eY,dN,bU,bw,bx,dT,dq,x7,bo,gd,jR,gk,gZ,trivial⟩) Y3
end Go.Dv.Try
