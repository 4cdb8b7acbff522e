/- Own work: parts of the proof, shortened and laid together by a tool of our own. -/
import Derived.Test.YtcfhhnapcpgecaaGreatP6
import Derived.Test.YtcfhhnapcpgecaaGreatProg
import Derived.KernelRfl
set_option linter.defProp false
set_option linter.unusedSimpArgs false
set_option linter.unusedVariables false
namespace Go.Dv.Try
open Go Go.Dv Go.Dv.Sh Go.Proofs.Tryz
def aJF:PC:=D [m 108 13,u 109 108,m 110 109,q 110 (L 111 2 7),q 110 (L 112 11 8),q 110 (m 113 9),q 110 (m 114 9),q 110 (c 115 16 [t 111,t 112,t 113,t 114]),P 116 110 115,m 117 116,q 117 (L 118 2 3),q 117 (L 119 11 4),q 117 (m 120 9),q 117 (L 121 11 4),q 117 (m 122 12),q 117 (m 123 14),q 117 (c 124 21 [t 121,t 122,t 123]),q 117 (c 125 20 [t 118,t 119,t 120,t 124]),P 126 117 125,m 6 126] [[],[0],[1],[2],[2],[2],[2],[3,4,5,6,2,2],[2,7],[8,7],[9],[9],[9],[9],[9],[9],[13,14,15,9,9],[10,11,12,16,16,9],[9,17],[18,17,0,1,2,3,4,5,6,7,8,9,10,11,12,13,14,15,16,17,18]]
def xH:FC:=⟨[0,1,2,3,4,5,6,7,8,9,10,11,12,13,14,15],[⟨6,none⟩],R [U 3 23 0,U 4 26 1,U 5 30 2,o 6 (.mv F)] (g (R [c 16 10 [],u 17 16] (C 17 (R [o 6 (.mv F)] j) w)) (g (R [L 18 2 3,L 19 11 4,c 20 11 [t 18,t 19],u 21 20,m 22 21,Q 22 (f 23 2 5),Q 22 (l 24 23),Q 22 (y 25 24),Q 22 (B 26 .gtr 25 32868),V 27 22 26] (C 27 (R [o 6 (.mv T)] j) w)) (g (E [L 29 2 3,L 30 11 4,c 31 13 [t 30],f 32 0 5,l 33 32,f 34 2 5,l 35 34,c 36 12 [t 29,t 31,t 33,t 35],m 28 36,e 37 28 0,e 38 28 1,e 39 28 2,o 7 (.alloc 23 (.agg [.str [],.str []])),o 8 (.alloc 26 (.agg [I 0,.str [],I 0,I 0,.bool false,.str [],I 0,.nil 2,I 0,I 0,I 0])),s 2 7 37,s 11 8 38,m 9 39] [[],[],[1],[],[3],[],[5],[0,2,4,6,2],[7],[8],[8],[8],[],[],[12,9,7,0,1,2,3,4,5,6,7,8,9,12,13],[13,10,14,0,1,2,3,4,5,6,7,8,9,10,12,13,14],[11,15,0,1,2,3,4,5,6,7,8,9,10,11,12,13,14,15]]) (R [L 40 2 3,L 41 11 4,c 42 14 [t 40,t 41],m 10 42] (g (R [m 43 10,B 44 .eql 43 0,m 45 44,q 45 (f 46 0 5),q 45 (l 47 46),q 45 (c 48 15 [t 47,k 0,k 32768]),q 45 (u 49 48),P 50 45 49] (C 50 (r [M 10 2]) w)) (g (R [m 51 10,B 52 .eql 51 0,m 53 52,q 53 (f 54 0 5),q 53 (l 55 54),q 53 (f 56 2 5),q 53 (l 57 56),q 53 (y 58 57),q 53 (b 59 .add 55 58),q 53 (B 60 .gtr 59 32768),P 61 53 60] (C 61 (r [M 10 8]) w)) (g (R [m 62 10,B 63 .neq 62 0] (C 63 (R [L 64 2 7,L 65 11 8,m 66 9,m 67 10,c 68 16 [t 64,t 65,t 66,t 67],m 6 68] j) w)) (g (R [f 69 2 5,l 70 69,o 71 (.bin .eql (t 70) (Y []))] (C 71 (R [m 72 9,B 73 .eql 72 0,m 74 73,q 74 (L 75 2 7),q 74 (L 76 2 3),q 74 (o 77 (.eqs false [1,1] (t 75) (t 76))),P 78 74 77,m 79 78,q 79 (L 80 11 8),q 79 (L 81 11 4),q 79 (c 82 17 [t 80,t 81]),P 83 79 82,m 6 83] j) w)) (R [f 84 0 5,l 85 84,f 86 2 5,l 87 86,y 88 87,b 89 .add 85 88,m 11 89] (R [L 90 11 4,c 91 18 [t 90],m 92 11,o 93 (.mm true (t 91) (t 92)),m 12 93] (R [f 94 4 4,l 95 94,m 96 95,q 96 (m 97 12),q 96 (B 98 .leq 97 200),P 99 96 98,m 13 99] (R [L 100 11 4,m 101 12,f 102 0 5,l 103 102,m 104 11,c 105 19 [t 100,t 101,t 103,t 104],m 14 105] (g (R [m 106 9,B 107 .neq 106 0] (C 107 (g aJF j) w)) (g (E [L 127 2 3,L 128 11 4,c 129 23 [t 127,t 128],f 130 0 5,l 131 130,f 132 2 5,l 133 132,c 134 22 [t 129,t 131,t 133],L 135 11 4,c 136 24 [t 135],m 137 11,o 138 (.mm true (t 136) (t 137)),m 139 13,o 140 (.build [.str [],I 0,.bool false] [⟨0,⟨1,t 134⟩⟩,⟨1,⟨1,t 138⟩⟩,⟨2,⟨1,t 139⟩⟩]),o 15 (.alloc 48 (.agg [.str [],I 0,.bool false])),s 3 15 140] [[],[],[0,1],[],[3],[],[5],[2,4,6,2],[],[8,7],[],[9,10],[],[7,11,12],[],[14,13,9,0,1,2,3,4,5,6,7,8,9,10,11,12,13,14]]) (g (R [L 141 2 3,L 142 2 7,L 143 11 4,L 144 11 8,L 145 3 15,c 146 25 [t 141,t 142,t 143,t 144,t 145],u 147 146] (C 147 (R [o 6 (.mv F)] j) w)) (R [m 148 13,m 149 148,Q 149 (L 150 11 4),Q 149 (c 151 26 [t 150,k 2]),Q 149 (u 152 151),V 153 149 152,m 154 153,Q 154 (L 155 11 8),Q 154 (m 156 14),Q 154 (c 157 27 [t 155,t 156]),V 158 154 157,m 6 158] j))))))))))))))))⟩
def Lj:CO 3 xH 3:=bk f3 ak
def IA:FC:=⟨[0,1,2,6],[⟨6,none⟩],R [o 6 (.mv (Y []))] (g (R [m 7 2,o 8 (.bin .eql (t 7) (Y []))] (C 8 (R [m 9 0,m 6 9] j) w)) (R [m 10 0,m 11 0,y 12 11,m 13 1,m 14 2,y 15 14,b 16 .add 13 15,o 17 (.mm true (t 12) (t 16)),c 18 39 [t 10,t 17],m 19 1,m 20 2,c 21 79 [t 18,t 19,t 20],m 6 21] j))⟩
def VB:CO 22 IA 3:=bk f22 ak
end Go.Dv.Try
namespace Go.Dv.Try
open Go Go.Dv
def Mi(ps:List PV)(x:PV):Prop:=∃(s:List UInt8) (p:Int) (dat:List UInt8),ps=[.str s,pI p,.str dat]/\(s.length<=50000/\0<=p/\p+dat.length<=50000)/\x=.str (yr s p.toNat dat)
def acH:MT (ay [(39,ah AI),(79,ah Dp)]) IA (ah Mi):=by
 rintro _ K ⟨_,⟨s,p,dat,rfl,⟨h1,h2,h3⟩,rfl⟩,hK⟩;unfold yr at hK;by_cases hd:dat=[]
 ·rw[if_pos hd]at hK
  (repeat'((conv=>whnf);first|refine au (p:=dat=[]) hd ?_|fail))<;>try(conv=>whnf)
  exact bM
 ·rw[if_neg hd]at hK;have mD:AI [.str s,pI (max (s.length:Int) (p+dat.length))] (.str (M9 s (max s.length (p.toNat+dat.length)))):=⟨s,_,rfl,ab,by congr 2;omega⟩
  have xw:Dp [.str (M9 s (max s.length (p.toNat+dat.length))),pI p,.str dat] (.str (We (M9 s (max s.length (p.toNat+dat.length))) p.toNat dat)):=⟨_,p,dat,rfl,by rw[Ag];omega,rfl⟩
  (repeat'((conv=>whnf);first|refine aw (p:=dat=[]) hd ?_|refine⟨_,mD,?_⟩|refine⟨_,xw,?_⟩|refine bj ab ?_|refine fQ ?_|fail))<;>try(conv=>whnf)
  exact bM
structure WrW(d:Dk)(a:At)(p:Int)(dat:List UInt8)(D:Dk)(A:At)(E:Int):Prop where
 ok:E=0->rL d D a A (yr (aV (ar d a)) p.toNat dat) (max (cG a) (p+dat.length)) (decide (a.rs=true/\max (cf a) (p+dat.length)<=200))/\
  (¬(a.rs=true/\max (cf a) (p+dat.length)<=200)->a.fl/2%2=1->(az A.rn.l).map (λx=>decide (x≠ -1))=nJ a p (p+dat.length) (max (cf a) (p+dat.length)))
 er:E≠0→¬(a.rs=true/\max (cf a) (p+dat.length)<=200)/\D=zD/\A=zA/\Ny d a E (Ns a (max (cf a) (p+dat.length)) (nJ a p (p+dat.length) (max (cf a) (p+dat.length))))
def asQ{d:Dk}{a:At}{p:Int}{dat:List UInt8}(h0:aK d a=0)(hd:wU d)(hn:a.nm.length<=1000000)(hp:0<=p)(hl:p+dat.length<=32768)(cb:dat≠[]):
 WrW d a p dat (zM d (aB a) p dat) (yV d (aB a) p dat) (AO d (aB a) p dat):=by
 have hw:=Uz (d:=d) (a:=aB a) (p:=p) (dat:=dat) xJ hd hn hp hl cb;refine⟨λhe=>?_,λhe=>?_⟩
 ·have:=hw.ok he;rw[Hm,P9]at this;exact this
 ·exact hw.er he
def Jk(ps:List PV)(x:PV):Prop:=∃(d:Dk) (a:At) (p n:Int) (dat:List UInt8) (t:Rn),ps=[d.pv,a.pv,.agg [pI p,pI n,.str dat,pI t.s,pI t.n]]/\x=pB true
set_option maxHeartbeats 8000000 in
def Wj:MT (ay [(10,ah CM),(11,bF sJ),(13,c8 false dK),(12,c8 false fm),(14,ah aW),(15,bF bG),(16,bF Fv),(17,bF Av),(18,ah EA),(19,c8 true Jw),(21,ah lY),(20,bF JD),(23,ah dj),(22,ah Mi),(24,ah tG),(25,bF EC),(26,bF uJ),(27,bF AA)]) xH (ah Jk):=by
 rintro _ K ⟨_,⟨d,a,p,n,dat,t,rfl,rfl⟩,hK⟩;have lD:CM [] (pB true):=⟨rfl,rfl⟩
 by_cases SE:wV d a
 case neg=>
  (repeat'((conv=>whnf);first|refine⟨_,lD,?_⟩|refine⟨_,⟨d,a,rfl,rfl⟩,?_⟩|refine aN ?_|refine bP ?_|refine aw ab ?_|fail))<;>try(conv=>whnf)
  exact aI
 obtain⟨m1,m2,m3,m4,m5⟩:=id SE;have hd:wU d:=⟨ab,ab⟩
 have PI:=pR hd;have hn:a.nm.length<=1000000:=ab;by_cases Aj:dat.length<=32868
 case neg=>
  (repeat'((conv=>whnf);first|refine⟨_,lD,?_⟩|refine⟨_,⟨d,a,rfl,rfl⟩,?_⟩|refine aN ?_|refine au ab ?_|fail))<;>try(conv=>whnf)
  exact aI
 have Aw:dK [a.pv] (.pv (aB a).pv):=⟨a,rfl,ab,rfl⟩
 have kO:fm [d.pv,(aB a).pv,pI p,.str dat] (.tup [.pv (zM d (aB a) p dat).pv,.pv (yV d (aB a) p dat).pv,.pv (pI (AO d (aB a) p dat))]):=⟨d,aB a,p,dat,rfl,⟨hd,hn,by show a.rn.l.length<=_;omega,ab⟩,rfl⟩
 have vv:aW [d.pv,a.pv] (pI (aK d a)):=⟨d,a,rfl,⟨PI,hn⟩,rfl⟩
 by_cases h0:aK d a=0
 case neg=>
  have e0:yE d (aB a) p dat=aK d a:=by unfold yE;rw[kU,if_pos h0]
  have e1:AO d (aB a) p dat=aK d a:=by unfold AO;rw[e0,if_pos h0]
  have e2:zM d (aB a) p dat=zD:=by unfold zM;rw[e0,if_pos h0]
  have e3:yV d (aB a) p dat=zA:=by unfold yV;rw[e0,if_pos h0]
  rw[e1,e2,e3]at kO;have hf:=lC (aK d a);generalize aK d a=E at*
  (repeat'((conv=>whnf);first|refine⟨_,lD,?_⟩|refine⟨_,⟨d,a,rfl,rfl⟩,?_⟩|refine⟨_,Aw,?_⟩|refine⟨_,kO,?_⟩|refine⟨_,vv,?_⟩|refine⟨_,⟨zD,zA,E,E,rfl,ao,rfl⟩,?_⟩|refine aN ?_|refine au ab ?_|refine aw ab ?_|refine bT ?_|fail))<;>try(conv=>whnf)
  exact aI
 have KS:∀e:Int,e≠0->yE d (aB a) p dat=e->AO d (aB a) p dat=e/\zM d (aB a) p dat=zD/\yV d (aB a) p dat=zA:=λe he h=>by
  refine⟨by unfold AO;rw[h,if_pos he],by unfold zM;rw[h,if_pos he],by unfold yV;rw[h,if_pos he]⟩
 have Gy:yE d (aB a) p dat=if ¬iU p then 2 else if 32768-p<dat.length then 8 else 0:=by unfold yE;rw[kU,if_neg (λh=>h h0)]
 have Ax:iU p↔0<=p/\p<=32768:=Iff.rfl;rw[h0]at vv;by_cases hp:0<=p/\p<=32768
 case neg=>
  rw[if_pos (λh=>hp (Ax.1 h))]at Gy;obtain⟨e1,e2,e3⟩:=KS 2 ao Gy;rw[e1,e2,e3]at kO;have hf:=lC 2
  (repeat'((conv=>whnf);first|refine⟨_,lD,?_⟩|refine⟨_,⟨d,a,rfl,rfl⟩,?_⟩|refine⟨_,Aw,?_⟩|refine⟨_,kO,?_⟩|refine⟨_,vv,?_⟩|refine⟨_,⟨zD,zA,2,2,rfl,ao,rfl⟩,?_⟩|(refine fe ?_;first|refine aN ?_|refine bP ?_|refine au ab ?_|refine aw ab ?_|refine bT ?_|refine⟨_,⟨_,_,_,rfl,rfl⟩,?_⟩|fail)))<;>try(conv=>whnf)
  exact aI
 rw[if_neg (λh=>h (Ax.2 hp))]at Gy;by_cases xp:p+dat.length<=32768
 case neg=>
  rw[if_pos ab]at Gy;obtain⟨e1,e2,e3⟩:=KS 8 ao Gy;rw[e1,e2,e3]at kO;have hf:=lC 8
  (repeat'((conv=>whnf);first|refine⟨_,lD,?_⟩|refine⟨_,⟨d,a,rfl,rfl⟩,?_⟩|refine⟨_,Aw,?_⟩|refine⟨_,kO,?_⟩|refine⟨_,vv,?_⟩|refine⟨_,⟨zD,zA,8,8,rfl,ao,rfl⟩,?_⟩|(refine fe ?_;first|refine bj ab ?_|refine aN ?_|refine au ab ?_|refine aw ab ?_|refine bT ?_|refine⟨_,⟨_,_,_,rfl,rfl⟩,?_⟩|fail)))<;>try(conv=>whnf)
  exact aI
 rw[if_neg ab]at Gy;by_cases cb:dat=[]
 ·have e1:AO d (aB a) p dat=0:=by unfold AO;rw[Gy,if_neg z0,if_pos cb]
  have e2:zM d (aB a) p dat=d:=by unfold zM;rw[Gy,if_neg z0,if_pos cb]
  have e3:yV d (aB a) p dat=aB (aB a):=by unfold yV;rw[Gy,if_neg z0,if_pos cb];rfl
  rw[e1,e2,e3]at kO;have HO:Td (aB (aB a)) a:=⟨rfl,rfl,rfl,rfl,rfl,rfl,rfl,rfl,rfl,rfl,rfl⟩
  have kf:(aB (aB a)).rn.l.length<=1000000:=by show a.rn.l.length<=_;omega
  have aLp:a.rn.l.length<=1000000:=ab;have hdd:[PV.str d.a_,PV.str d.mp]=[PV.str d.a_,PV.str d.mp]:=rfl;generalize aB (aB a)=A at*;subst cb;have z_:([]:List UInt8)=[]:=rfl
  (repeat'((conv=>whnf);first|refine⟨_,lD,?_⟩|refine⟨_,⟨d,a,rfl,rfl⟩,?_⟩|refine⟨_,Aw,?_⟩|refine⟨_,kO,?_⟩|refine⟨_,vv,?_⟩|refine⟨_,⟨A,a,rfl,⟨kf,aLp⟩,rfl⟩,?_⟩|(refine fe ?_;first|refine bj ab ?_|refine aN ?_|refine au ab ?_|refine aw ab ?_|refine bT ?_|refine⟨_,⟨_,_,_,rfl,rfl⟩,?_⟩|fail)))<;>try(conv=>whnf)
  exact aI
 have hc:=qo h0;have ok:=(bc h0).1;have hW:=asQ h0 hd hn hp.1 xp cb;have aHM:=xV hc;have mE:=hc.len;have hvb:=hc.vd;have SL:=ok.fl;have mD:EA [a.pv] (pI (cf a)):=⟨a,rfl,rfl⟩
 have iZ:tG [a.pv] (pI (cG a)):=⟨a,rfl,rfl⟩
 have Gq:=List.length_pos_iff.2 cb;have nK:Jw [a.pv,pI (max (cf a) (p+dat.length)),pI p,pI (p+dat.length)] (.fresh 4 1 ((nJ a p (p+dat.length) (max (cf a) (p+dat.length))).map pB)):=⟨a,_,_,_,rfl,⟨ok.rn,ab,ab,ab⟩,rfl⟩
 have bJ:=Jl a p (p+dat.length) (max (cf a) (p+dat.length));rw[F9]at bJ;have CY:dj [d.pv,a.pv] (.str (aV (ar d a))):=⟨d,a,rfl,⟨PI,h0⟩,rfl⟩
 have ji:Mi [.str (aV (ar d a)),pI p,.str dat] (.str (yr (aV (ar d a)) p.toNat dat)):=⟨_,p,dat,rfl,ab,rfl⟩
 have LV:soS d a:=⟨hd,hn,h0⟩
 generalize zM d (aB a) p dat=D at*;generalize yV d (aB a) p dat=A at*;generalize AO d (aB a) p dat=E at*;have hk:lY [a.pv,pI (max (cf a) (p+dat.length)),wq (nJ a p (p+dat.length) (max (cf a) (p+dat.length)))] _:=⟨a,_,_,rfl,⟨ab,ab,ab⟩,rfl⟩
 obtain⟨hWo,hWe⟩:=hW;generalize nJ a p (p+dat.length) (max (cf a) (p+dat.length))=L at*;generalize yr (aV (ar d a)) p.toNat dat=W at*;generalize aV (ar d a)=C at*;by_cases hE:E=0
 case neg=>
  obtain⟨w1,rfl,rfl,w4⟩:=hWe hE;have hf:=lC E;cases c_:a.rs with
  |true=>
   have:¬max (cf a) (p+dat.length)<=200:=λh=>w1 ⟨c_,h⟩
   (repeat'((conv=>whnf);first|refine⟨_,lD,?_⟩|refine⟨_,⟨d,a,rfl,rfl⟩,?_⟩|refine⟨_,Aw,?_⟩|refine⟨_,kO,?_⟩|refine⟨_,vv,?_⟩|refine⟨_,mD,?_⟩|refine tW c_ ?_|refine⟨_,nK,?_⟩|refine⟨_,⟨zD,zA,E,E,rfl,ao,rfl⟩,?_⟩|refine⟨_,hk,?_⟩|refine⟨_,⟨d,a,E,_,rfl,⟨LV,ab⟩,rfl⟩,?_⟩|(refine fe ?_;first|refine bj ab ?_|refine aN ?_|refine bP ?_|refine au ab ?_|refine aw ab ?_|refine fQ ?_|refine bT ?_|refine⟨_,⟨_,_,_,rfl,rfl⟩,?_⟩|fail)))<;>try(conv=>whnf)
   exact aI
  |false=>
   (repeat'((conv=>whnf);first|refine⟨_,lD,?_⟩|refine⟨_,⟨d,a,rfl,rfl⟩,?_⟩|refine⟨_,Aw,?_⟩|refine⟨_,kO,?_⟩|refine⟨_,vv,?_⟩|refine⟨_,mD,?_⟩|refine qT c_ ?_|refine⟨_,nK,?_⟩|refine⟨_,⟨zD,zA,E,E,rfl,ao,rfl⟩,?_⟩|refine⟨_,hk,?_⟩|refine⟨_,⟨d,a,E,_,rfl,⟨LV,ab⟩,rfl⟩,?_⟩|(refine fe ?_;first|refine bj ab ?_|refine aN ?_|refine bP ?_|refine au ab ?_|refine aw ab ?_|refine fQ ?_|refine bT ?_|refine⟨_,⟨_,_,_,rfl,rfl⟩,?_⟩|fail)))<;>try(conv=>whnf)
   exact aI
 subst hE;obtain⟨w1,w2⟩:=hWo rfl;obtain⟨k1,k2,k3,k4,k5⟩:=xT w1 hd;have kP:A.nm.length<=1000000:=by rw[w1.nm];exact hn
 by_cases zl:a.rs=true/\max (cf a) (p+dat.length)<=200
 ·rw[decide_eq_true zl]at w1;obtain⟨c_,CW⟩:=zl
  (repeat'((conv=>whnf);first|refine⟨_,lD,?_⟩|refine⟨_,⟨d,a,rfl,rfl⟩,?_⟩|refine⟨_,Aw,?_⟩|refine⟨_,kO,?_⟩|refine⟨_,vv,?_⟩|refine⟨_,mD,?_⟩|refine⟨_,nK,?_⟩|refine⟨_,CY,?_⟩|refine⟨_,ji,?_⟩|refine⟨_,iZ,?_⟩|refine tW c_ ?_|refine⟨_,⟨d,D,a,A,W,_,true,rfl,⟨LV,k1,kP⟩,rfl⟩,?_⟩|(refine fe ?_;first|refine bj ab ?_|refine aN ?_|refine au ab ?_|refine aw ab ?_|refine fQ ?_|refine bT ?_|refine⟨_,⟨_,_,_,rfl,rfl⟩,?_⟩|fail)))<;>try(conv=>whnf)
  exact aI
 ·have w3:=w2 zl;rw[decide_eq_false zl]at w1;by_cases lk:a.fl/2%2=1
  ·have w3:=w3 lk;cases c_:a.rs with
   |true=>
    have:¬max (cf a) (p+dat.length)<=200:=λh=>zl ⟨c_,h⟩
    (repeat'((conv=>whnf);first|refine⟨_,lD,?_⟩|refine⟨_,⟨d,a,rfl,rfl⟩,?_⟩|refine⟨_,Aw,?_⟩|refine⟨_,kO,?_⟩|refine⟨_,vv,?_⟩|refine⟨_,mD,?_⟩|refine⟨_,nK,?_⟩|refine⟨_,CY,?_⟩|refine⟨_,ji,?_⟩|refine⟨_,iZ,?_⟩|refine tW c_ ?_|refine⟨_,⟨d,D,a,A,W,_,false,rfl,⟨LV,k1,kP⟩,rfl⟩,?_⟩|refine⟨_,⟨a,2,rfl,⟨ab,.inr (.inl rfl)⟩,rfl⟩,?_⟩|refine⟨_,⟨A,L,rfl,k4,rfl⟩,?_⟩|(refine fe ?_;first|refine bj ab ?_|refine aN ?_|refine au ab ?_|refine aw ab ?_|refine fQ ?_|refine bT ?_|refine⟨_,⟨_,_,_,rfl,rfl⟩,?_⟩|fail)))<;>try(conv=>whnf)
    exact aI
   |false=>
    (repeat'((conv=>whnf);first|refine⟨_,lD,?_⟩|refine⟨_,⟨d,a,rfl,rfl⟩,?_⟩|refine⟨_,Aw,?_⟩|refine⟨_,kO,?_⟩|refine⟨_,vv,?_⟩|refine⟨_,mD,?_⟩|refine⟨_,nK,?_⟩|refine⟨_,CY,?_⟩|refine⟨_,ji,?_⟩|refine⟨_,iZ,?_⟩|refine qT c_ ?_|refine⟨_,⟨d,D,a,A,W,_,false,rfl,⟨LV,k1,kP⟩,rfl⟩,?_⟩|refine⟨_,⟨a,2,rfl,⟨ab,.inr (.inl rfl)⟩,rfl⟩,?_⟩|refine⟨_,⟨A,L,rfl,k4,rfl⟩,?_⟩|(refine fe ?_;first|refine bj ab ?_|refine aN ?_|refine au ab ?_|refine aw ab ?_|refine fQ ?_|refine bT ?_|refine⟨_,⟨_,_,_,rfl,rfl⟩,?_⟩|fail)))<;>try(conv=>whnf)
    exact aI
  ·cases c_:a.rs with
   |true=>
    have:¬max (cf a) (p+dat.length)<=200:=λh=>zl ⟨c_,h⟩
    (repeat'((conv=>whnf);first|refine⟨_,lD,?_⟩|refine⟨_,⟨d,a,rfl,rfl⟩,?_⟩|refine⟨_,Aw,?_⟩|refine⟨_,kO,?_⟩|refine⟨_,vv,?_⟩|refine⟨_,mD,?_⟩|refine⟨_,nK,?_⟩|refine⟨_,CY,?_⟩|refine⟨_,ji,?_⟩|refine⟨_,iZ,?_⟩|refine tW c_ ?_|refine⟨_,⟨d,D,a,A,W,_,false,rfl,⟨LV,k1,kP⟩,rfl⟩,?_⟩|refine⟨_,⟨a,2,rfl,⟨ab,.inr (.inl rfl)⟩,rfl⟩,?_⟩|(refine fe ?_;first|refine bj ab ?_|refine aN ?_|refine bP ?_|refine au ab ?_|refine aw ab ?_|refine fQ ?_|refine bT ?_|refine⟨_,⟨_,_,_,rfl,rfl⟩,?_⟩|fail)))<;>try(conv=>whnf)
    exact aI
   |false=>
    (repeat'((conv=>whnf);first|refine⟨_,lD,?_⟩|refine⟨_,⟨d,a,rfl,rfl⟩,?_⟩|refine⟨_,Aw,?_⟩|refine⟨_,kO,?_⟩|refine⟨_,vv,?_⟩|refine⟨_,mD,?_⟩|refine⟨_,nK,?_⟩|refine⟨_,CY,?_⟩|refine⟨_,ji,?_⟩|refine⟨_,iZ,?_⟩|refine qT c_ ?_|refine⟨_,⟨d,D,a,A,W,_,false,rfl,⟨LV,k1,kP⟩,rfl⟩,?_⟩|refine⟨_,⟨a,2,rfl,⟨ab,.inr (.inl rfl)⟩,rfl⟩,?_⟩|(refine fe ?_;first|refine bj ab ?_|refine aN ?_|refine bP ?_|refine au ab ?_|refine aw ab ?_|refine fQ ?_|refine bT ?_|refine⟨_,⟨_,_,_,rfl,rfl⟩,?_⟩|fail)))<;>try(conv=>whnf)
    exact aI
def alb:∀xs,xS [vt,wk,Bl] xs->(ah Jk).run xs λr=>r=.pv (.bool true):=λxs h=>by
 obtain⟨d,a,p,n,dat,t,rfl⟩:=LZ h;exact Sv
def BY:=VB.snd (by exact⟨se,pg,trivial⟩) acH
def tY:=Lj.snd (by exact⟨eY,dN,bo,gd,bU,bw,iK,ff,uN,jT,iC,oz,cS,BY,l9,mf,eO,iE,trivial⟩) Wj
end Go.Dv.Try
