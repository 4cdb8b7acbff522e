/- Own work: parts of the proof, shortened and laid together by a tool of our own. -/
import Derived.Test.YtcfhhnapcpgecaaGreatP6
import Derived.Test.YtcfhhnapcpgecaaGreatProg
import Derived.KernelRfl
set_option linter.defProp false
set_option linter.unusedSimpArgs false
set_option linter.unusedVariables false
open List renaming length_take→zal, length_drop→zax, take_length→zcN, drop_zero→zdv
open Int renaming toNat_natCast→zaC
namespace Go.Dv.Try
open Go Go.Dv Go.Dv.Sh Go.Proofs.Tryz
def aJk:PC:=r [L 27 2 3,L 28 11 4,c 29 11 [t 27,t 28],u 30 29,m 31 30,Q 31 (f 32 2 5),Q 31 (l 33 32),Q 31 (y 34 33),Q 31 (B 35 .gtr 34 32768),V 36 31 35,m 37 36,Q 37 (L 38 2 3),Q 37 (L 39 11 4),Q 37 (c 40 14 [t 38,t 39]),Q 37 (B 41 .neq 40 0),V 42 37 41,m 43 42,Q 43 (f 44 0 5),Q 43 (l 45 44),Q 43 (c 46 15 [t 45,k 0,k 32768]),Q 43 (u 47 46),V 48 43 47,m 49 48,Q 49 (f 50 0 5),Q 49 (l 51 50),Q 49 (f 52 2 5),Q 49 (l 53 52),Q 49 (y 54 53),Q 49 (b 55 .add 51 54),Q 49 (B 56 .gtr 55 32768),V 57 49 56]
def aJB:PC:=E [L 78 2 3,L 79 11 4,c 80 13 [t 79],f 81 0 5,l 82 81,f 83 2 5,l 84 83,m 85 10,o 86 (.slcS (t 84) none (some (t 85))),c 87 12 [t 78,t 80,t 82,t 86],m 77 87,e 88 77 0,e 89 77 1,e 90 77 2,o 11 (.alloc 23 (.agg [.str [],.str []])),o 12 (.alloc 26 (.agg [I 0,.str [],I 0,I 0,.bool false,.str [],I 0,.nil 2,I 0,I 0,I 0])),s 2 11 88,s 11 12 89,m 13 90] [[],[],[1],[],[3],[],[5],[],[6,7],[0,2,4,8,2],[9],[10],[10],[10],[],[],[14,11,9,0,1,2,3,4,5,6,7,8,9,10,11,14,15],[15,12,16,0,1,2,3,4,5,6,7,8,9,10,11,12,14,15,16],[13,17,0,1,2,3,4,5,6,7,8,9,10,11,12,13,14,15,16,17]]
def aJq:PC:=D [m 173 23,B 174 .eql 173 0,m 175 174,q 175 (m 176 22),q 175 (y 177 176),q 175 (m 178 14),q 175 (y 179 178),q 175 (b 180 .eql 177 179),P 181 175 180,m 182 181,q 182 (m 183 22),q 182 (m 184 24),q 182 (o 185 (.slcS (t 183) none (some (t 184)))),q 182 (m 186 14),q 182 (m 187 24),q 182 (o 188 (.slcS (t 186) none (some (t 187)))),q 182 (b 189 .eql 185 188),P 190 182 189,m 191 190,q 191 (m 192 22),q 191 (m 193 24),q 191 (o 194 (.slcS (t 192) (some (t 193)) none)),q 191 (c 195 31 [t 194]),P 196 191 195,m 6 196] [[],[0],[1],[2],[3,2],[2],[5,2],[4,6,2],[2,7],[8,2],[9],[9],[10,11,9],[9],[9],[13,14,9],[12,15,9],[9,16],[17,9],[18],[18],[19,20,18],[21,18,18],[18,22],[23,22,0,1,2,3,4,5,6,7,8,9,10,11,12,13,14,15,16,17,18,19,20,21,22,23]]
def zp:FC:=⟨[0,1,2,3,4,5,6,7,8,9,10,11,12,13,14,15,16,17,18,19,20,21,22,23,24],[⟨6,none⟩],R [U 3 23 0,U 4 26 1,U 5 30 2,o 6 (.mv F)] (g (R [c 25 10 [],u 26 25] (C 26 (R [o 6 (.mv F)] j) w)) (g (g aJk (C 57 (R [o 6 (.mv T)] j) w)) (g (E [L 59 2 3,L 60 11 4,c 61 13 [t 60],f 62 0 5,l 63 62,f 64 2 5,l 65 64,c 66 12 [t 59,t 61,t 63,t 65],m 58 66,e 67 58 0,e 68 58 1,e 69 58 2,o 7 (.alloc 23 (.agg [.str [],.str []])),o 8 (.alloc 26 (.agg [I 0,.str [],I 0,I 0,.bool false,.str [],I 0,.nil 2,I 0,I 0,I 0])),s 2 7 67,s 11 8 68,m 9 69] [[],[],[1],[],[3],[],[5],[0,2,4,6,2],[7],[8],[8],[8],[],[],[12,9,7,0,1,2,3,4,5,6,7,8,9,12,13],[13,10,14,0,1,2,3,4,5,6,7,8,9,10,12,13,14],[11,15,0,1,2,3,4,5,6,7,8,9,10,11,12,13,14,15]]) (R [f 70 1 5,l 71 70,f 72 2 5,l 73 72,y 74 73,B 75 .add 74 1,c 76 28 [t 71,t 75],m 10 76] (g aJB (g (R [m 91 9,B 92 .neq 91 0,m 93 92,Q 93 (m 94 13),Q 93 (B 95 .neq 94 0),V 96 93 95] (C 96 (R [o 6 (.mv T)] j) w)) (g (E [L 98 2 11,L 99 11 12,f 100 0 5,l 101 100,m 102 10,b 103 .add 101 102,f 104 2 5,l 105 104,m 106 10,o 107 (.slcS (t 105) (some (t 106)) none),c 108 12 [t 98,t 99,t 103,t 107],m 97 108,e 109 97 0,e 110 97 1,e 111 97 2,s 2 11 109,s 11 12 110,m 13 111] [[],[],[],[2],[],[3,4],[],[6],[],[7,8],[0,1,5,9],[10],[11],[11],[11],[12,10,0,1,2,3,4,5,6,7,8,9,10,11,12],[13,15,0,1,2,3,4,5,6,7,8,9,10,11,12,13,15],[14,16,0,1,2,3,4,5,6,7,8,9,10,11,12,13,14,15,16]]) (g (R [m 112 13,B 113 .neq 112 0] (C 113 (R [o 6 (.mv T)] j) w)) (g (E [L 115 2 7,L 116 11 8,c 117 13 [t 116],c 118 29 [t 115,t 117],m 114 118,e 119 114 0,e 120 114 1,m 14 119,m 15 120] [[],[],[1],[0,2,2],[3],[4],[4],[5,3,0,1,2,3,4,5],[6,7,0,1,2,3,4,5,6,7]]) (R [L 122 2 11,L 123 11 12,c 124 29 [t 122,t 123],m 121 124,e 125 121 0,e 126 121 1,m 16 125,m 17 126] (g (R [m 127 15,B 128 .neq 127 0,m 129 128,Q 129 (m 130 17),Q 129 (B 131 .neq 130 0),V 132 129 131,m 133 132,Q 133 (m 134 14),Q 133 (m 135 16),Q 133 (b 136 .neq 134 135),V 137 133 136] (C 137 (R [o 6 (.mv F)] j) w)) (R [f 138 1 5,l 139 138,c 140 28 [t 139,k 32769],m 18 140] (g (E [L 142 2 7,L 143 11 8,c 144 13 [t 143],m 145 18,c 146 30 [t 142,t 144,t 145],m 141 146,e 147 141 0,e 148 141 1,e 149 141 2,o 19 (.alloc 23 (.agg [.str [],.str []])),o 20 (.alloc 26 (.agg [I 0,.str [],I 0,I 0,.bool false,.str [],I 0,.nil 2,I 0,I 0,I 0])),s 2 19 147,s 11 20 148,m 21 149] [[],[],[1],[],[0,2,3,2],[4],[5],[5],[5],[],[],[9,6,4,0,1,2,3,4,5,6,9,10],[10,7,11,0,1,2,3,4,5,6,7,9,10,11],[8,12,0,1,2,3,4,5,6,7,8,9,10,11,12]]) (g (R [m 150 21,B 151 .neq 150 0] (C 151 (R [o 6 (.mv T)] j) w)) (R [L 153 2 19,L 154 11 20,m 155 14,y 156 155,c 157 30 [t 153,t 154,t 156],m 152 157,e 158 152 0,e 159 152 1,e 160 152 2,s 2 19 158,s 11 20 159,m 21 160] (g (R [m 161 21,B 162 .neq 161 0] (C 162 (R [o 6 (.mv T)] j) w)) (R [L 164 2 19,L 165 11 20,c 166 29 [t 164,t 165],m 163 166,e 167 163 0,e 168 163 1,m 22 167,m 23 168] (R [m 169 18,m 170 14,y 171 170,o 172 (.mm false (t 169) (t 171)),m 24 172] (g aJq j)))))))))))))))))))⟩
def MK:CO 4 zp 3:=bk f4 ak
end Go.Dv.Try
namespace Go.Dv.Try
open Go Go.Dv
section
def aaq{C dat:List UInt8}{p:Nat}(i:Nat):ta (yr C p dat) i=if p<=i/\i<p+dat.length then ta dat (i-p)else ta C i:=by
 by_cases h:dat=[]
 ·subst h;rw[S6,if_neg aj]
 ·rw[Hq h,Py]
def SR(C dat:List UInt8)(p:Nat):(yr C p dat).length=if dat=[]then C.length else max C.length (p+dat.length):=by
 by_cases h:dat=[]
 ·subst h;rw[S6,if_pos rfl]
 ·rw[Hq h,xx,if_neg h]
def atL(C dat:List UInt8){p k:Nat}(hk:k<=dat.length):yr (yr C p (dat.take k)) (p+k) (dat.drop k)=yr C p dat:=by
 have l1:(dat.take k).length=k:=eI;have l2:(dat.drop k).length=dat.length-k:=zax;refine Mv ?_ λi _=>?_
 ·rw[SR,SR,SR];by_cases h0:dat=[]
  ·subst h0;simp
  ·have hp:=List.length_pos_iff.2 h0;by_cases h1:k=0
   ·subst h1;simp[h0]
   ·have n1:dat.take k≠[]:=by
     intro e;rw[e]at l1;simp at l1;omega
    by_cases h2:k=dat.length
    ·have n2:dat.drop k=[]:=by rw[h2,List.drop_length]
     rw[if_pos n2,if_neg n1,if_neg h0,l1];omega
    ·have n2:dat.drop k≠[]:=by
      intro e;rw[e]at l2;simp at l2;omega
     rw[if_neg n2,if_neg n1,if_neg h0,l1,l2];omega
 ·rw[aaq,aaq,aaq,l1,l2,sC,Fs];by_cases g1:p+k<=i/\i<p+k+(dat.length-k)
  ·rw[if_pos g1,if_pos ab,show k+(i-(p+k))=i-p by omega]
  ·rw[if_neg g1];by_cases g2:p<=i/\i<p+k
   ·rw[if_pos g2,if_pos ab,if_pos ab]
   ·rw[if_neg g2,if_neg ab]
section
variable {d e:Dk} {a:At} {C:List UInt8} {v:Int} {dt:Nat->Prop}
end
end
def O5(ps:List PV)(x:PV):Prop:=∃(d:Dk) (a:At) (p n:Int) (dat:List UInt8) (t:Rn),ps=[d.pv,a.pv,.agg [pI p,pI n,.str dat,pI t.s,pI t.n]]/\x=pB true
set_option maxHeartbeats 8000000 in
def Zd:MT (ay [(10,ah CM),(11,bF sJ),(13,c8 false dK),(12,c8 false fm),(30,c8 false ko),(14,ah aW),(15,bF bG),(28,ah nW),(29,c8 true fi),(31,bF Mp)]) zp (ah O5):=by
 rintro _ K ⟨_,⟨d,a,p,n,dat,t,rfl,rfl⟩,hK⟩;have lD:CM [] (pB true):=⟨rfl,rfl⟩
 by_cases SE:wV d a
 case neg=>
  (repeat'((conv=>whnf);first|refine⟨_,lD,?_⟩|refine⟨_,⟨d,a,rfl,rfl⟩,?_⟩|refine aN ?_|refine bP ?_|refine aw ab ?_|fail))<;>try(conv=>whnf)
  exact aI
 obtain⟨m1,m2,m3,m4,m5⟩:=id SE;have hd:wU d:=⟨ab,ab⟩
 have PI:=pR hd;have hn:a.nm.length<=1000000:=ab;by_cases Aj:dat.length<=32768
 case neg=>
  (repeat'((conv=>whnf);first|refine⟨_,lD,?_⟩|refine⟨_,⟨d,a,rfl,rfl⟩,?_⟩|refine aN ?_|refine au ab ?_|fail))<;>try(conv=>whnf)
  exact aI
 have vv:aW [d.pv,a.pv] (pI (aK d a)):=⟨d,a,rfl,⟨PI,hn⟩,rfl⟩
 by_cases h0:aK d a=0
 case neg=>
  generalize aK d a=E at*
  (repeat'((conv=>whnf);first|refine⟨_,lD,?_⟩|refine⟨_,⟨d,a,rfl,rfl⟩,?_⟩|refine⟨_,vv,?_⟩|refine aN ?_|refine au ab ?_|refine aw ab ?_|fail))<;>try(conv=>whnf)
  exact aI
 rw[h0]at vv;by_cases hp:0<=p/\p<=32768
 case neg=>
  (repeat'((conv=>whnf);first|refine⟨_,lD,?_⟩|refine⟨_,⟨d,a,rfl,rfl⟩,?_⟩|refine⟨_,vv,?_⟩|(refine fe ?_;first|refine aN ?_|refine bP ?_|refine au ab ?_|refine aw ab ?_|refine⟨_,⟨_,_,_,rfl,rfl⟩,?_⟩|fail)))<;>try(conv=>whnf)
  exact aI
 by_cases xp:p+dat.length<=32768
 case neg=>
  (repeat'((conv=>whnf);first|refine⟨_,lD,?_⟩|refine⟨_,⟨d,a,rfl,rfl⟩,?_⟩|refine⟨_,vv,?_⟩|(refine fe ?_;first|refine bj ab ?_|refine aN ?_|refine au ab ?_|refine aw ab ?_|refine⟨_,⟨_,_,_,rfl,rfl⟩,?_⟩|fail)))<;>try(conv=>whnf)
  exact aI
 have na:aK d (aB a)=0:=xJ;have Aw:dK [a.pv] (.pv (aB a).pv):=⟨a,rfl,ab,rfl⟩
 have vu:(aB a).rn.l.length<=1000000:=by show a.rn.l.length<=_;omega
 have PA:nW [pI n,pI ((dat.length:Int)+1)] (pI (n%((dat.length:Int)+1))):=⟨n,_,rfl,ab,rfl⟩
 have ard:nW [pI n,pI 32769] (pI (n%32769)):=⟨n,_,rfl,ab,rfl⟩
 have hkb:0<=n%((dat.length:Int)+1)/\n%((dat.length:Int)+1)<=dat.length:=by
  have h1:=Int.emod_nonneg n (show((dat.length:Int)+1)≠0 by omega);have h2:=Int.emod_lt_of_pos n (show 0<((dat.length:Int)+1) by omega);omega
 have sy:0<=n%32769/\n%32769<=32768:=ab;generalize n%((dat.length:Int)+1)=k at*;generalize n%32769=j at*;have Vt:fm [d.pv,(aB a).pv,pI p,.str dat] (.tup [.pv (zM d (aB a) p dat).pv,.pv (yV d (aB a) p dat).pv,.pv (pI (AO d (aB a) p dat))]):=⟨d,aB a,p,dat,rfl,⟨hd,hn,vu,ab⟩,rfl⟩
 obtain⟨X,hX⟩:∃X,X=cut 0 k.toNat dat:=⟨_,rfl⟩
 obtain⟨Y,hY⟩:∃Y,Y=cut k.toNat dat.length dat:=⟨_,rfl⟩
 have hXt:X=dat.take k.toNat:=by rw[hX];unfold cut;rw[zdv]
 have hYt:Y=dat.drop k.toNat:=by rw[hY];unfold cut;rw[zcN]
 have hXl:X.length=k.toNat:=by rw[hXt,zal];omega
 have hYl:Y.length=dat.length-k.toNat:=by rw[hYt,zax]
 have WT:fm [d.pv,(aB a).pv,pI p,.str (cut 0 k.toNat dat)] (.tup [.pv (zM d (aB a) p X).pv,.pv (yV d (aB a) p X).pv,.pv (pI (AO d (aB a) p X))]):=⟨d,aB a,p,X,by rw[hX],⟨hd,hn,vu,ab⟩,rfl⟩
 have k1:=aw3 (d:=d) (a:=aB a) (p:=p) (dat:=dat) na hd hn hp.1 xp;have k2:=aw3 (d:=d) (a:=aB a) (p:=p) (dat:=X) na hd hn hp.1 ab;by_cases rM:AO d (aB a) p dat=0
 case neg=>
  clear k1 k2;generalize AO d (aB a) p dat=E1 at*;generalize AO d (aB a) p X=E2 at*;generalize zM d (aB a) p dat=D1 at*;generalize yV d (aB a) p dat=A1 at*;generalize zM d (aB a) p X=D2 at*;generalize yV d (aB a) p X=A2 at*
  (repeat'((conv=>whnf);first|refine⟨_,lD,?_⟩|refine⟨_,⟨d,a,rfl,rfl⟩,?_⟩|refine⟨_,vv,?_⟩|refine⟨_,Aw,?_⟩|refine⟨_,Vt,?_⟩|refine⟨_,PA,?_⟩|refine⟨_,WT,?_⟩|(refine fe ?_;first|refine bj ab ?_|refine aN ?_|refine au ab ?_|refine aw ab ?_|refine bT ?_|refine⟨_,⟨_,_,_,rfl,rfl⟩,?_⟩|refine wz ?_|fail)))<;>try(conv=>whnf)
  exact aI
 have k1:=k1 rM;rw[rM]at Vt;by_cases Ao:AO d (aB a) p X=0
 case neg=>
  clear k1 k2;generalize AO d (aB a) p X=E2 at*;generalize zM d (aB a) p dat=D1 at*;generalize yV d (aB a) p dat=A1 at*;generalize zM d (aB a) p X=D2 at*;generalize yV d (aB a) p X=A2 at*
  (repeat'((conv=>whnf);first|refine⟨_,lD,?_⟩|refine⟨_,⟨d,a,rfl,rfl⟩,?_⟩|refine⟨_,vv,?_⟩|refine⟨_,Aw,?_⟩|refine⟨_,Vt,?_⟩|refine⟨_,PA,?_⟩|refine⟨_,WT,?_⟩|(refine fe ?_;first|refine bj ab ?_|refine aN ?_|refine au ab ?_|refine aw ab ?_|refine bT ?_|refine⟨_,⟨_,_,_,rfl,rfl⟩,?_⟩|refine wz ?_|fail)))<;>try(conv=>whnf)
  exact aI
 have k2:=k2 Ao;rw[Ao]at WT;obtain⟨o1,c1,s1,n1,r1⟩:=k1;obtain⟨o2,c2,s2,n2,r2⟩:=k2;rw[Hm]at c1 c2;have hcC:=(qo h0).len;generalize zM d (aB a) p dat=D1 at*;generalize yV d (aB a) p dat=A1 at*;generalize zM d (aB a) p X=D2 at*;generalize yV d (aB a) p X=A2 at*;have nn:(aB a).nm.length=a.nm.length:=rfl;rw[nn]at n1 n2;have hw3:fm [D2.pv,A2.pv,pI (p+k),.str (cut k.toNat dat.length dat)] (.tup [.pv (zM D2 A2 (p+k) Y).pv,.pv (yV D2 A2 (p+k) Y).pv,.pv (pI (AO D2 A2 (p+k) Y))]):=⟨D2,A2,p+k,Y,by rw[hY],⟨s2,ab,r2,ab⟩,rfl⟩
 have k3:=aw3 (d:=D2) (a:=A2) (p:=p+k) (dat:=Y) o2 s2 ab ab ab;by_cases hE3:AO D2 A2 (p+k) Y=0
 case neg=>
  clear k3;generalize AO D2 A2 (p+k) Y=E3 at*;generalize zM D2 A2 (p+k) Y=D3 at*;generalize yV D2 A2 (p+k) Y=A3 at*
  (repeat'((conv=>whnf);first|refine⟨_,lD,?_⟩|refine⟨_,⟨d,a,rfl,rfl⟩,?_⟩|refine⟨_,vv,?_⟩|refine⟨_,Aw,?_⟩|refine⟨_,Vt,?_⟩|refine⟨_,PA,?_⟩|refine⟨_,WT,?_⟩|refine⟨_,hw3,?_⟩|(refine fe ?_;first|refine bj ab ?_|refine aN ?_|refine au ab ?_|refine aw ab ?_|refine bT ?_|refine⟨_,⟨_,_,_,rfl,rfl⟩,?_⟩|refine wz ?_|fail)))<;>try(conv=>whnf)
  exact aI
 have k3:=k3 hE3;rw[hE3]at hw3;obtain⟨o3,c3,s3,n3,r3⟩:=k3;generalize zM D2 A2 (p+k) Y=D3 at*;generalize yV D2 A2 (p+k) Y=A3 at*;rw[c2,hXt,hYt,show(p+k).toNat=p.toNat+k.toNat by omega,atL _ _ (show k.toNat<=dat.length by omega),<-c1]at c3;have o1':aK D1 (aB A1)=0:=by rw[kU];exact o1
 have aDU:dK [A1.pv] (.pv (aB A1).pv):=⟨A1,rfl,r1,rfl⟩
 have Oi:fi [D1.pv,(aB A1).pv] (.tup [.pv (.str (aV (ar D1 A1))),.pv (pI 0)]):=⟨D1,aB A1,rfl,⟨pR s1,by show A1.nm.length<=_;omega⟩,by unfold abo;rw[if_pos o1',o1',Hm]⟩
 have hc3:fi [D3.pv,A3.pv] (.tup [.pv (.str (aV (ar D1 A1))),.pv (pI 0)]):=⟨D3,A3,rfl,⟨pR s3,ab⟩,by unfold abo;rw[if_pos o3,o3,c3]⟩
 have hS1:=(qo o1).len;have ye:ko [D1.pv,(aB A1).pv,pI j] (.tup [.pv (Jf D1 (aB A1) j).pv,.pv (LA D1 (aB A1) j).pv,.pv (pI (Jb D1 (aB A1) j))]):=⟨D1,aB A1,j,rfl,⟨s1,by show A1.nm.length<=_;omega⟩,rfl⟩
 have k4:=aB2 (d:=D1) (a:=aB A1) (n:=j) o1' s1 (by show A1.nm.length<=_;omega) sy;have nn1:(aB A1).nm.length=A1.nm.length:=rfl;by_cases hE4:Jb D1 (aB A1) j=0
 case neg=>
  clear k4;generalize Jb D1 (aB A1) j=E4 at*;generalize Jf D1 (aB A1) j=D4 at*;generalize LA D1 (aB A1) j=A4 at*;generalize aV (ar D1 A1)=S at*
  (repeat'((conv=>whnf);first|refine⟨_,lD,?_⟩|refine⟨_,⟨d,a,rfl,rfl⟩,?_⟩|refine⟨_,vv,?_⟩|refine⟨_,Aw,?_⟩|refine⟨_,Vt,?_⟩|refine⟨_,PA,?_⟩|refine⟨_,WT,?_⟩|refine⟨_,hw3,?_⟩|refine⟨_,aDU,?_⟩|refine⟨_,Oi,?_⟩|refine⟨_,hc3,?_⟩|refine aw (λh=>h rfl) ?_|refine⟨_,ard,?_⟩|refine⟨_,ye,?_⟩|(refine fe ?_;first|refine bj ab ?_|refine aN ?_|refine au ab ?_|refine aw ab ?_|refine bT ?_|refine⟨_,⟨_,_,_,rfl,rfl⟩,?_⟩|refine wz ?_|fail)))<;>try(conv=>whnf)
  exact aI
 obtain⟨o4,c4,s4,n4⟩:=k4 hE4;rw[hE4]at ye;rw[Hm]at c4;generalize Jf D1 (aB A1) j=D4 at*;generalize LA D1 (aB A1) j=A4 at*;have hz5:ko [D4.pv,A4.pv,pI (aV (ar D1 A1)).length] (.tup [.pv (Jf D4 A4 (aV (ar D1 A1)).length).pv,.pv (LA D4 A4 (aV (ar D1 A1)).length).pv,.pv (pI (Jb D4 A4 (aV (ar D1 A1)).length))]):=⟨D4,A4,_,rfl,⟨s4,ab⟩,rfl⟩
 have k5:=aB2 (d:=D4) (a:=A4) (n:=(aV (ar D1 A1)).length) o4 s4 ab ab;by_cases hE5:Jb D4 A4 (aV (ar D1 A1)).length=0
 case neg=>
  clear k5;generalize Jb D4 A4 (aV (ar D1 A1)).length=E5 at*;generalize Jf D4 A4 (aV (ar D1 A1)).length=D5 at*;generalize LA D4 A4 (aV (ar D1 A1)).length=A5 at*;generalize aV (ar D1 A1)=S at*
  (repeat'((conv=>whnf);first|refine⟨_,lD,?_⟩|refine⟨_,⟨d,a,rfl,rfl⟩,?_⟩|refine⟨_,vv,?_⟩|refine⟨_,Aw,?_⟩|refine⟨_,Vt,?_⟩|refine⟨_,PA,?_⟩|refine⟨_,WT,?_⟩|refine⟨_,hw3,?_⟩|refine⟨_,aDU,?_⟩|refine⟨_,Oi,?_⟩|refine⟨_,hc3,?_⟩|refine aw (λh=>h rfl) ?_|refine⟨_,ard,?_⟩|refine⟨_,ye,?_⟩|refine⟨_,hz5,?_⟩|(refine fe ?_;first|refine bj ab ?_|refine aN ?_|refine au ab ?_|refine aw ab ?_|refine bT ?_|refine⟨_,⟨_,_,_,rfl,rfl⟩,?_⟩|refine wz ?_|fail)))<;>try(conv=>whnf)
  exact aI
 obtain⟨o5,c5,s5,n5⟩:=k5 hE5;rw[hE5]at hz5;generalize Jf D4 A4 (aV (ar D1 A1)).length=D5 at*;generalize LA D4 A4 (aV (ar D1 A1)).length=A5 at*;have hc5:fi [D5.pv,A5.pv] (.tup [.pv (.str (aV (ar D5 A5))),.pv (pI 0)]):=⟨D5,A5,rfl,⟨pR s5,ab⟩,by unfold abo;rw[if_pos o5,o5]⟩
 have hUl:(aV (ar D5 A5)).length=(aV (ar D1 A1)).length:=by rw[c5,Ag,zaC]
 have hUz:∀i,ta (aV (ar D5 A5)) i=if i<(aV (ar D1 A1)).length then(if i<j.toNat then ta (aV (ar D1 A1)) i else 0)else 0:=λi=>by
  rw[c5,Uv,zaC,c4,Uv]
 generalize aV (ar D5 A5)=U at*;generalize aV (ar D1 A1)=S at*;have j0:cut 0 (min j (S.length:Int)).toNat U=cut 0 (min j (S.length:Int)).toNat S:=by
  unfold cut;rw[zdv,zdv];refine Mv (by rw[zal,zal,hUl]) λi hi=>?_
  rw[zal]at hi;rw[sC,sC,if_pos ab,if_pos ab,hUz,if_pos ab,if_pos ab]
 have hql:(cut (min j (S.length:Int)).toNat U.length U).length=U.length-(min j (S.length:Int)).toNat:=by unfold cut;rw[zcN,zax]
 have jx:cut (min j (S.length:Int)).toNat U.length U=ai (cut (min j (S.length:Int)).toNat U.length U).length:=by
  refine Mv (by rw[bn]) λi hi=>?_
  rw[hql]at hi;rw[L1];unfold cut;rw[zcN,Fs,hUz];split
  ·rw[if_neg ab]
  ·rfl
 have ml:(cut (min j (S.length:Int)).toNat U.length U).length<=1000000:=ab;have aHr:(U.length:Int)=S.length:=ab;clear hUz c1 c2 c3 c4 c5
 (repeat'((conv=>whnf);first|refine⟨_,lD,?_⟩|refine⟨_,⟨d,a,rfl,rfl⟩,?_⟩|refine⟨_,vv,?_⟩|refine⟨_,Aw,?_⟩|refine⟨_,Vt,?_⟩|refine⟨_,PA,?_⟩|refine⟨_,WT,?_⟩|refine⟨_,hw3,?_⟩|refine⟨_,aDU,?_⟩|refine⟨_,Oi,?_⟩|refine⟨_,hc3,?_⟩|refine aw (λh=>h rfl) ?_|refine⟨_,ard,?_⟩|refine⟨_,ye,?_⟩|refine⟨_,hz5,?_⟩|refine⟨_,hc5,?_⟩|refine⟨_,⟨_,rfl,ml,rfl⟩,?_⟩|refine au j0 ?_|refine au jx ?_|(refine fe ?_;first|refine bj ab ?_|refine aN ?_|refine au ab ?_|refine aw ab ?_|refine I8 ?_|refine bT ?_|refine⟨_,⟨_,_,_,rfl,rfl⟩,?_⟩|refine wz ?_|fail)))<;>try(conv=>whnf)
 exact aI
def aqB:∀xs,xS [vt,wk,Bl] xs->(ah O5).run xs λr=>r=.pv (.bool true):=λxs h=>by
 obtain⟨d,a,p,n,dat,t,rfl⟩:=LZ h;exact Sv
def vA:=MK.snd (by exact⟨eY,dN,bo,gd,gk,bU,bw,jR,gZ,ru,trivial⟩) Zd
end Go.Dv.Try
