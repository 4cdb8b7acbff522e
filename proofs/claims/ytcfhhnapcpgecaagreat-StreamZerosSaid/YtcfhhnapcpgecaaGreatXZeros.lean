/- Own work: parts of the proof, shortened and laid together by a tool of our own. -/
import Derived.Test.YtcfhhnapcpgecaaGreatP6
import Derived.Test.YtcfhhnapcpgecaaGreatProg
import Derived.KernelRfl
set_option linter.defProp false
set_option linter.unusedSimpArgs false
set_option linter.unusedVariables false
open List renaming getElem?_eq_none→zaK, getElem?_map→za9, length_append→zad, ext_getElem?→zba, length_take→zal, length_map→zav
open Bool renaming and_eq_false_iff→zdR, not_eq_true'→zbs, and_eq_true→zaU
open And renaming intro→zcC
open Int renaming toNat_natCast→zaC
open List renaming length_drop→zax
namespace Go.Dv.Try
open Go Go.Dv Go.Dv.Sh Go.Proofs.Tryz
def aJx:PC:=D [f 66 4 4,l 67 66,u 68 67,m 69 68,q 69 (L 70 11 4),q 69 (c 71 26 [t 70,k 1]),q 69 (m 72 71),Q 72 (L 73 11 4),Q 72 (c 74 26 [t 73,k 2]),q 69 (V 75 72 74),P 76 69 75,m 77 76,q 77 (L 78 2 7),q 77 (L 79 11 8),q 77 (m 80 9),q 77 (m 81 9),q 77 (c 82 16 [t 78,t 79,t 80,t 81]),P 83 77 82,m 84 83,q 84 (L 85 2 3),q 84 (L 86 11 4),q 84 (m 87 9),q 84 (L 88 11 4),q 84 (m 89 11),q 84 (m 90 12),q 84 (c 91 21 [t 88,t 89,t 90]),q 84 (c 92 20 [t 85,t 86,t 87,t 91]),P 93 84 92,m 6 93] [[],[0],[1],[2],[3],[4,3,3],[5,5,3],[6],[7,6,6],[6,8,3],[3,9],[10,8],[11],[11],[11],[11],[12,13,14,15,11,11],[11,16],[17,16],[18],[18],[18],[18],[18],[18],[22,23,24,18,18],[19,20,21,25,25,18],[18,26],[27,26,0,1,2,3,4,5,6,7,8,9,10,11,12,13,14,15,16,17,18,19,20,21,22,23,24,25,26,27]]
def aJE:PC:=G [5,8,11,12,14] (g (R [m 121 14,m 122 12,n 123 122,b 124 .lss 121 123] (C 124 w (h 0))) (g (H 1 (R [m 127 14,B 128 .mul 127 256,m 129 14,B 130 .add 129 1,B 131 .mul 130 256,m 132 11,o 133 (.mm false (t 131) (t 132)),m 15 128,m 16 133] (r [m 134 12,m 135 14,m 136 12,m 137 14,i 138 1 136 137,l 139 138,m 140 139,q 140 (f 141 0 5),q 140 (l 142 141),q 140 (m 143 15),q 140 (b 144 .leq 142 143),q 140 (m 145 144),q 145 (m 146 16),q 145 (f 147 0 5),q 145 (l 148 147),q 145 (f 149 1 5),q 145 (l 150 149),q 145 (b 151 .add 148 150),q 145 (b 152 .leq 146 151),q 140 (P 153 145 152),q 140 (u 154 153),P 155 140 154,i 156 1 134 135,s 1 156 155]))) (r [m 125 14,B 126 .add 125 1,m 14 126])))
def zq:FC:=⟨[0,1,2,3,4,5,6,7,8,9,10,11,12,13,14,15,16],[⟨6,none⟩],R [U 3 23 0,U 4 26 1,U 5 30 2,o 6 (.mv F)] (g (R [c 17 10 [],u 18 17] (C 18 (R [o 6 (.mv F)] j) w)) (g (R [L 19 2 3,L 20 11 4,c 21 11 [t 19,t 20],u 22 21] (C 22 (R [o 6 (.mv T)] j) w)) (g (E [L 24 2 3,L 25 11 4,c 26 13 [t 25],f 27 0 5,l 28 27,f 29 1 5,l 30 29,c 31 40 [t 24,t 26,t 28,t 30],m 23 31,e 32 23 0,e 33 23 1,e 34 23 2,o 7 (.alloc 23 (.agg [.str [],.str []])),o 8 (.alloc 26 (.agg [I 0,.str [],I 0,I 0,.bool false,.str [],I 0,.nil 2,I 0,I 0,I 0])),s 2 7 32,s 11 8 33,m 9 34] [[],[],[1],[],[3],[],[5],[0,2,4,6,2],[7],[8],[8],[8],[],[],[12,9,7,0,1,2,3,4,5,6,7,8,9,12,13],[13,10,14,0,1,2,3,4,5,6,7,8,9,10,12,13,14],[11,15,0,1,2,3,4,5,6,7,8,9,10,11,12,13,14,15]]) (R [L 35 2 3,L 36 11 4,c 37 14 [t 35,t 36],m 10 37] (g (R [m 38 10,B 39 .eql 38 0,m 40 39,q 40 (f 41 0 5),q 40 (l 42 41),q 40 (c 43 15 [t 42,k 0,k 32768]),q 40 (u 44 43),q 40 (m 45 44),Q 45 (f 46 1 5),Q 45 (l 47 46),Q 45 (c 48 15 [t 47,k 0,k 32768]),Q 45 (u 49 48),q 40 (V 50 45 49),P 51 40 50] (C 51 (r [M 10 2]) w)) (g (R [m 52 10,B 53 .neq 52 0] (C 53 (R [L 54 2 7,L 55 11 8,m 56 9,m 57 10,c 58 16 [t 54,t 55,t 56,t 57],m 6 58] j) w)) (R [L 59 11 4,c 60 18 [t 59],m 11 60] (R [L 61 11 4,m 62 11,c 63 19 [t 61,t 62,k 0,k 0],m 12 63] (g (R [m 64 9,B 65 .neq 64 0] (C 65 (g aJx j) w)) (g (E [L 94 2 3,L 95 11 4,c 96 23 [t 94,t 95],f 97 0 5,l 98 97,f 99 1 5,l 100 99,c 101 41 [t 96,t 98,t 100],L 102 11 4,c 103 24 [t 102],f 104 4 4,l 105 104,o 106 (.build [.str [],I 0,.bool false] [⟨0,⟨1,t 101⟩⟩,⟨1,⟨1,t 103⟩⟩,⟨2,⟨1,t 105⟩⟩]),o 13 (.alloc 48 (.agg [.str [],I 0,.bool false])),s 3 13 106] [[],[],[0,1],[],[3],[],[5],[2,4,6,2],[],[8,7],[],[10],[7,9,11],[],[13,12,9,0,1,2,3,4,5,6,7,8,9,10,11,12,13]]) (g (R [L 107 2 3,L 108 2 7,L 109 11 4,L 110 11 8,L 111 3 13,c 112 25 [t 107,t 108,t 109,t 110,t 111],u 113 112] (C 113 (R [o 6 (.mv F)] j) w)) (g (R [f 114 4 4,l 115 114,m 116 115,Q 116 (L 117 11 4),Q 116 (c 118 26 [t 117,k 2]),Q 116 (u 119 118),V 120 116 119] (C 120 (R [o 6 (.mv T)] j) w)) (g (R [M 14 0] (H 0 aJE)) (R [L 157 11 8,m 158 12,c 159 27 [t 157,t 158],m 6 159] j))))))))))))))⟩
def Nd:CO 7 zq 3:=bk f7 ak
def Ir:FC:=⟨[0,1,2,3,4,5,8,9,10,11,12,13,14,15,16],[⟨8,some (⟨true,2⟩)⟩,⟨9,some (⟨true,11⟩)⟩,⟨10,none⟩],R [U 4 23 0,U 5 26 1,o 8 (.alloc 23 (.agg [.str [],.str []])),o 9 (.alloc 26 (.agg [I 0,.str [],I 0,I 0,.bool false,.str [],I 0,.nil 2,I 0,I 0,I 0])),M 10 0] (R [L 18 2 4,L 19 11 5,c 20 57 [t 18,t 19],m 17 20,e 21 17 0,e 22 17 1,o 11 (.alloc 83 (.val (.pointer none))),s 1 11 21,m 12 22] (g (R [m 23 12,m 24 2,c 25 60 [t 24],m 26 25,q 26 (m 27 3),q 26 (c 28 60 [t 27]),P 29 26 28,c 30 59 [t 29,k 2],o 31 (.bslice 33 1 [t 23,t 30]),c 32 58 [t 31],m 12 32] (R [m 33 12,B 34 .neq 33 0] (C 34 (R [o 35 (.build [.str [],.str []] []),o 36 (.build [I 0,.str [],I 0,I 0,.bool false,.str [],I 0,.nil 2,I 0,I 0,I 0] []),m 37 12,s 2 8 35,s 11 9 36,m 10 37] j) w))) (R [l 38 11,c 39 63 [t 38],o 13 (.alloc 9 (.str [])),s 1 13 39] (R [m 40 2,l 41 13,y 42 41,o 43 (.mm false (t 40) (t 42)),m 14 43] (R [l 44 13,y 45 44,m 46 14,m 47 3,b 48 .add 46 47,o 49 (.mm false (t 45) (t 48)),m 15 49] (g (D [l 50 13,m 51 14,o 52 (.slcS (t 50) none (some (t 51))),m 53 15,m 54 14,b 55 .sub 53 54,c 56 90 [t 55],b 57 .add 52 56,l 58 13,m 59 15,o 60 (.slcS (t 58) (some (t 59)) none),b 61 .add 57 60,s 1 13 61] [[],[],[0,1],[],[],[3,4],[5],[2,6],[],[],[8,9],[7,10],[11,6,0,1,2,3,4,5,6,7,8,9,10,11]]) (g (R [l 62 11,o 63 (.nilck (t 62)),f 64 0 63,f 65 4 64,l 66 65] (C 66 (g (D [L 67 2 4,l 68 11,l 69 13,c 70 88 [t 68,t 69],s 2 8 67,s 11 9 70,M 10 0] [[],[],[],[1,2],[0,3,0],[3,4,0,1,2,3,4],[5,0,1,2,3,4,5]]) j) w)) (R [m 71 14,m 72 15,o 73 (.build [I 0,I 0] [⟨0,⟨1,t 71⟩⟩,⟨1,⟨1,t 72⟩⟩]),o 16 (.alloc 92 (.agg [I 0,I 0])),s 2 16 73] (g (E [l 74 11,l 75 13,l 76 11,o 77 (.nilck (t 76)),f 78 0 77,f 79 10 78,l 80 79,o 81 (.mkf 92 [t 11,t 16,t 13]),o 82 (.build [.str [],I 0,.val .nilFunc] [⟨0,⟨1,t 75⟩⟩,⟨1,⟨1,t 80⟩⟩,⟨2,⟨1,t 81⟩⟩]),c 83 91 [t 74,t 82],e 84 83 0,e 85 83 1,e 86 83 2,s 2 8 84,s 11 9 85,m 10 86] [[],[],[],[2],[3],[4],[5],[],[1,6,7],[0,8],[9],[9],[9],[10,9,0,1,2,3,4,5,6,7,8,9,10,11,12],[11,13,0,1,2,3,4,5,6,7,8,9,10,11,12,13],[12,14,0,1,2,3,4,5,6,7,8,9,10,11,12,13,14]]) j)))))))))⟩
def WL:CO 40 Ir 4:=bk f40 ak
def K5:FC:=⟨[0,1,2,6,7,8],[⟨6,none⟩],R [o 6 (.mv (Y []))] (R [m 9 1,m 10 0,y 11 10,o 12 (.mm false (t 9) (t 11)),m 13 1,m 14 2,b 15 .add 13 14,m 16 0,y 17 16,o 18 (.mm false (t 15) (t 17)),m 7 12,m 8 18] (R [m 19 0,m 20 7,m 21 8,m 22 7,b 23 .sub 21 22,c 24 82 [t 23],c 25 79 [t 19,t 20,t 24],m 6 25] j))⟩
def YK:CO 41 K5 3:=bk f41 ak
end Go.Dv.Try
namespace Go.Dv.Try
open Go Go.Dv
def sD(C:List UInt8)(f t:Nat):List UInt8:=C.take f++ai (t-f)++C.drop t
def dz(C:List UInt8)(p:Int):Int:=min p C.length
def dX(C:List UInt8)(p n:Int):Int:=min C.length (dz C p+n)
noncomputable def KF(d:Dk)(a:At)(p n:Int):Int:=if aK d a≠0 then aK d a else if ¬(iU p/\iU n)then 2 else 0
noncomputable def QC(d:Dk)(a:At)(p n:Int):List UInt8:=sD (aV (ar d a)) (dz (aV (ar d a)) p).toNat (dX (aV (ar d a)) p n).toNat
noncomputable def ju(d:Dk)(a:At)(p n:Int):Nat->Prop:=yN (ar d a) (dz (aV (ar d a)) p) (dX (aV (ar d a)) p n) (QC d a p n).length
noncomputable def jm(d:Dk)(a:At)(p n:Int):Int:=if KF d a p n≠0 then KF d a p n else if a.rs=true then 0 else Md (ar d a) (QC d a p n) a.vd (ju d a p n)
noncomputable def jU(d:Dk)(a:At)(p n:Int):Dk:=if KF d a p n≠0 then zD else if a.rs=true then d else if Md (ar d a) (QC d a p n) a.vd (ju d a p n)=0 then XY (ar d a) (QC d a p n) (ju d a p n)else zD
noncomputable def js(d:Dk)(a:At)(p n:Int):At:=if KF d a p n≠0 then zA else if a.rs=true then Hx a (QC d a p n)else if Md (ar d a) (QC d a p n) a.vd (ju d a p n)=0 then Gv (ar d a) (QC d a p n) a.vd (ju d a p n)else zA
def Xa{C:List UInt8}{f t:Nat}(h:f<=t/\t<=C.length):(sD C f t).length=C.length:=by
 unfold sD;simp only[zad,zal,List.length_drop,bn];omega
def Ss(ps:List PV)(r:RV):Prop:=∃(d:Dk) (a:At) (p n:Int),ps=[d.pv,a.pv,pI p,pI n]/\(wU d/\a.nm.length<=1000000)/\
 r=.tup [.pv (jU d a p n).pv,.pv (js d a p n).pv,.pv (pI (jm d a p n))]
set_option maxHeartbeats 1000000 in
def Zw:MT (ay [(57,xt),(60,bF wR),(59,ah dG),(58,ah gB),(63,ah tN),(90,ah EI),(88,ah Fj),(91,c8 false T_)]) Ir (c8 false Ss):=by
 rintro _ K ⟨_,⟨d,a,p,n,rfl,⟨h1,h2⟩,rfl⟩,hK⟩;refine⟨d,a,rfl,⟨pR h1,h2⟩,λh=>?_,λh v hv=>?_⟩
 ·have sM:=(bc h).1;have mE:=Jh sM;have cP:=J5 sM (pR h1);have fM:=sM.st h1 h2;by_cases Ax:(0<=p/\p<=32768)/\(0<=n/\n<=32768)
  ·have he:KF d a p n=0:=by unfold KF iU;rw[if_neg (λe=>e h),if_neg (λe=>e Ax)]
   obtain⟨hp,hn⟩:=Ax;unfold jm jU js at hK;rw[he,if_neg z0,if_neg z0,if_neg z0]at hK;have hN:QC d a p n=sD (aV (ar d a)) (dz (aV (ar d a)) p).toNat (dX (aV (ar d a)) p n).toNat:=rfl;have hQ:ju d a p n=yN (ar d a) (dz (aV (ar d a)) p) (dX (aV (ar d a)) p n) (QC d a p n).length:=rfl;have eK:(QC d a p n).length=(aV (ar d a)).length:=by rw[hN];exact Xa (by unfold dX dz;omega)
   have PA:T_ [sP (ar d a),yJ (QC d a p n) a.vd (.clo 92 [.cptr (sP (ar d a)),.cptr (rV (dz (aV (ar d a)) p) (dX (aV (ar d a)) p n)),.cptr (.str (QC d a p n))])] _:=
    ⟨ar d a,_,_,_,_,rfl,⟨fM,ab,.zero (dz (aV (ar d a)) p) (dX (aV (ar d a)) p n) (QC d a p n)⟩,rfl⟩
   rw[<-hQ]at PA;generalize ju d a p n=Qd at*;unfold dz dX dz sD at*;generalize QC d a p n=N at*;generalize aV (ar d a)=C0 at*;have Oi:cut 0 (min p (C0.length:Int)).toNat C0=C0.take (min p (C0.length:Int)).toNat:=Gm;have Cw:cut (min (C0.length:Int) (min p (C0.length:Int)+n)).toNat C0.length C0=C0.drop (min (C0.length:Int) (min p (C0.length:Int)+n)).toNat:=by unfold cut;rw[List.take_length]
   have hNc:C0.take (min p (C0.length:Int)).toNat++ai (min (C0.length:Int) (min p (C0.length:Int)+n)-min p (C0.length:Int)).toNat++C0.drop (min (C0.length:Int) (min p (C0.length:Int)+n)).toNat=N:=by
    rw[hN];congr 3;omega
   cases c_:a.rs with
   |true=>
    rw[if_pos c_,if_pos c_,if_pos c_]at hK
    (repeat'((conv=>whnf);first|refine au hp ?_|refine au hn ?_|refine oQ ?_|refine⟨_,cP,?_⟩|rw[Oi]|rw[Cw]|refine zcC ah6 ?_|rw[hNc]|refine tW c_ ?_|refine⟨_,⟨ar d a,N,rfl,rfl⟩,?_⟩|(refine fe ?_;first|refine bj ab ?_|refine aw ao ?_|refine I8 ?_|refine⟨_,⟨_,rfl,rfl⟩,?_⟩|refine⟨_,⟨_,_,rfl,rfl⟩,?_⟩|refine⟨_,⟨_,rfl,cZ,rfl⟩,?_⟩|refine wz ?_|refine⟨_,⟨[_,_],rfl,rfl⟩,?_⟩|fail)))<;>try(conv=>whnf)
    exact⟨[.pv d.pv,.pv (Hx a N).pv,.pv (pI _)],⟨rfl,rfl,rfl,trivial⟩,trivial,hK⟩
   |false=>
    have xk:¬a.rs=true:=qD;rw[if_neg xk,if_neg xk,if_neg xk]at hK
    (repeat'((conv=>whnf);first|refine au hp ?_|refine au hn ?_|refine oQ ?_|refine⟨_,cP,?_⟩|rw[Oi]|rw[Cw]|refine zcC ah6 ?_|rw[hNc]|refine qT c_ ?_|refine⟨_,PA,?_⟩|(refine fe ?_;first|refine bj ab ?_|refine aw ao ?_|refine I8 ?_|refine⟨_,⟨_,rfl,rfl⟩,?_⟩|refine⟨_,⟨_,_,rfl,rfl⟩,?_⟩|refine⟨_,⟨_,rfl,cZ,rfl⟩,?_⟩|refine wz ?_|refine⟨_,⟨[_,_],rfl,rfl⟩,?_⟩|fail)))<;>try(conv=>whnf)
    exact KW
  ·have he:KF d a p n=2:=by unfold KF iU;rw[if_neg (λe=>e h),if_pos Ax]
   unfold jm jU js at hK;rw[he,if_pos z2,if_pos z2,if_pos z2]at hK;by_cases hp:0<=p/\p<=32768
   ·have hn:¬(0<=n/\n<=32768):=λhn=>Ax ⟨hp,hn⟩
    (repeat'((conv=>whnf);first|refine au hp ?_|refine aw hn ?_|(refine fe ?_;first|refine au ao ?_|refine bT ?_|refine⟨_,⟨_,rfl,rfl⟩,?_⟩|refine⟨_,⟨_,_,rfl,rfl⟩,?_⟩|refine⟨_,⟨[_,_],rfl,rfl⟩,?_⟩|fail)))<;>try(conv=>whnf)
    exact iN
   ·(repeat'((conv=>whnf);first|refine aw hp ?_|(refine fe ?_;first|refine au ao ?_|refine bT ?_|refine⟨_,⟨_,rfl,rfl⟩,?_⟩|refine⟨_,⟨_,_,rfl,rfl⟩,?_⟩|refine⟨_,⟨[_,_],rfl,rfl⟩,?_⟩|fail)))<;>try(conv=>whnf)
    exact iN
 ·have he:KF d a p n=aK d a:=by unfold KF;rw[if_pos h]
  unfold jm jU js at hK;rw[he,if_pos h,if_pos h,if_pos h]at hK;clear he;rcases hv with rfl|rfl
  all_goals
   (repeat'((conv=>whnf);first|refine au K1 ?_|(refine fe ?_;first|refine de (λ_=>?_) (λ_=>?_)|refine bT ?_|refine⟨_,⟨_,rfl,rfl⟩,?_⟩|refine⟨_,⟨_,_,rfl,rfl⟩,?_⟩|refine⟨_,⟨[_,_],rfl,rfl⟩,?_⟩|fail)))<;>try(conv=>whnf)
   all_goals
    rw[q9 h];exact iN
def PY(C:List UInt8)(p n:Int):List UInt8:=We C (min p C.length).toNat (ai (min (p+n) C.length-min p C.length).toNat)
def Hg(ps:List PV)(x:PV):Prop:=∃(s:List UInt8) (p n:Int),ps=[.str s,pI p,pI n]/\(s.length<=100000/\(0<=p/\p<=100000)/\0<=n/\n<=100000)/\x=.str (PY s p n)
def acn:MT (ay [(82,ah fK),(79,ah Dp)]) K5 (ah Hg):=by
 rintro _ K ⟨_,⟨s,p,n,rfl,⟨h1,h2,h3⟩,rfl⟩,hK⟩;have xi:fK [pI (min (p+n) (s.length:Int)-min p (s.length:Int))] (.str (ai (min (p+n) (s.length:Int)-min p (s.length:Int)).toNat)):=⟨_,rfl,ab,rfl⟩
 have xw:Dp [.str s,pI (min p (s.length:Int)),.str (ai (min (p+n) (s.length:Int)-min p (s.length:Int)).toNat)] (.str (PY s p n)):=⟨_,_,_,rfl,by rw[bn];omega,rfl⟩
 (repeat'((conv=>whnf);first|refine⟨_,xi,?_⟩|refine⟨_,xw,?_⟩|refine bj ab ?_|refine I8 ?_|fail))<;>try(conv=>whnf)
 exact bM
def auk{C:List UInt8}{f t:Nat}(h:f<=t/\t<=C.length)(i:Nat):ta (sD C f t) i=if f<=i/\i<t then 0 else ta C i:=by
 unfold sD;rw[GX,GX,zad,zal,bn,show min f C.length=f by omega,sC,L1,Fs];by_cases h1:i<f
 ·rw[if_pos ab,if_pos h1,if_pos h1,if_neg ab]
 ·by_cases h2:i<t
  ·rw[if_pos ab,if_neg h1,if_pos ⟨ab,h2⟩]
  ·rw[if_neg ab,if_neg ab,show t+(i-(f+(t-f)))=i by omega]
def ay1{d:Dk}{a:At}{p n:Int}(hp:0<=p)(hn:0<=n):(dz (aV (ar d a)) p).toNat<=(dX (aV (ar d a)) p n).toNat/\(dX (aV (ar d a)) p n).toNat<=(aV (ar d a)).length/\0<=dz (aV (ar d a)) p/\0<=dX (aV (ar d a)) p n:=by
 unfold dX dz;omega
def aFf{d:Dk}{a:At}{p n:Int}(hc:ajj d a)(c_:a.rs=false)(hp:0<=p)(hn:0<=n)(Ja:a.vl=[]):GZ (ar d a) (QC d a p n) a.vd (ju d a p n):=by
 have h1:=hc.vd;have h2:=hc.len;have SL:=hc.fl;obtain⟨f1,f2,f3,f4⟩:=ay1 (d:=d) (a:=a) hp hn;have hl:(QC d a p n).length=(aV (ar d a)).length:=Xa ⟨f1,f2⟩;have hv:cG a=a.vd:=by unfold cG;rw[c_];rfl
 have hz:=auk (C:=aV (ar d a)) ⟨f1,f2⟩;refine⟨ab,ab,λi hi=>?_,λhs i uj j hj=>?_⟩
 ·show ta (sD _ _ _) i=0;rw[hz];split
  ·rfl
  ·exact hc.z i ab
 ·have e:(ar d a).a=a:=rfl;rw[e]at hs;show ta (sD _ _ _) _=0;rw[hz];split
  ·rfl
  ·rename_i g;by_cases hd:OS (ar d a) i
   ·have hcv:Cj (dz (aV (ar d a)) p) (dX (aV (ar d a)) p n) i (QC d a p n).length:=Classical.byContradiction λhcv=>uj ⟨hd,hcv⟩
    unfold Cj at hcv;rw[hl]at hcv;exact Sq ab
   ·refine hc.hole ab i hd ?_ j hj;rw[Ja];unfold kG;show ¬((0:Int)<min 0 _/\_);omega
def aeI{f t e:Int}(hf:0<=f)(ht:0<=t)(i:Nat):Cj f t i e↔((((f+255)/256).toNat<=i/\(e<=t\/i<(t/256).toNat))):=by
 unfold Cj;omega
def aFj{d:Dk}{a:At}{f t:Int}{n:Nat}(hf:0<=f)(ht:0<=t):ahC (ar d a) (yN (ar d a) f t n):=by
 intro _;refine⟨[((f+255)/256).toNat,(t/256).toNat],aj,λi h1 hi=>?_⟩;simp only[List.mem_cons,List.not_mem_nil,or_false,not_or]at hi;obtain⟨n1,n2⟩:=hi;have g:Cj f t (i-1:Nat) n↔Cj f t i n:=by
  rw[aeI hf ht,aeI hf ht];omega
 unfold yN;by_cases q:Cj f t i n
 ·exact .inl ⟨λh=>absurd (g.2 q) h.2,λh=>absurd q h.2⟩
 ·exact .inr ⟨⟨λh=>⟨h,λh2=>q (g.1 h2)⟩,λh=>h.1⟩,⟨λh=>⟨h,q⟩,λh=>h.1⟩⟩
def aAy{C:List UInt8}{p n:Int}(hp:0<=p)(hn:0<=n):PY C p n=sD C (dz C p).toNat (dX C p n).toNat:=by
 have hz:(ai (min (p+n) (C.length:Int)-min p (C.length:Int)).toNat).length=(min (p+n) (C.length:Int)-min p (C.length:Int)).toNat:=bn _;have n7:(dz C p).toNat<=(dX C p n).toNat/\(dX C p n).toNat<=C.length:=by unfold dX dz;omega
 unfold PY;refine Mv (by rw[Yn ab,Xa n7]) λi hi=>?_
 rw[anN ab,auk n7,hz,L1];unfold dX dz;by_cases h:(min p (C.length:Int)).toNat<=i/\i<(min p (C.length:Int)).toNat+(min (p+n) (C.length:Int)-min p (C.length:Int)).toNat
 ·rw[if_pos h,if_pos ab]
 ·rw[if_neg h,if_neg ab]
def ax9{d:Dk}{a:At}{C:List UInt8}{v:Int}{dt:Nat->Prop}(h0:aK d a=0)(hd:wU d)(hn:a.nm.length<=1000000)(c_:a.rs=false)(h1:¬a.fl%2=1)(h2:¬a.fl/2%2=1)(UH:GZ (ar d a) C v dt)(hC:(C.length:Int)=a.sz):Md (ar d a) C v dt=0:=by
 obtain⟨ok,oo⟩:=bc h0;obtain⟨_,yB,_⟩:=oo c_;obtain⟨s1,s2,s3,s4,s5⟩:=lE ok.str;have st:=ok.st hd hn;have Es:yw (az a.rn.l):=u0 ok.rn;have hb:=X6 st;have rK:=st.n;have hlen:=st.len;have Cy:(ar d a).pl=az a.rn.l:=rfl;have e1:(ar d a).a=a:=rfl;have WW:(ar d a).d=d:=rfl;rw[Cy]at hb hlen;rw[WW]at hb rK;unfold lJ at yB;rw[if_neg h1]at yB;obtain⟨_,hl,hu⟩:=yB;have hu:=Yu.1 (hu.resolve_left h2);have qG:=sK (ar d a) C dt;rw[e1,if_neg h1]at qG;have hpp:(aQ (ar d a) C dt).length=(az a.rn.l).length:=by rw[qG];omega
 have cb:∀i,jz (aQ (ar d a) C dt) i=true↔i<(az a.rn.l).length:=λi=>by
  rw[Pb (by rw[e1];exact h1),<-hpp,qG];exact⟨λg=>g.1,λg=>⟨g,λh=>absurd h h2⟩⟩
 have sQ:∀i,i<(az a.rn.l).length->(az a.rn.l)[i]?=some (nD (aQ (ar d a) C dt) (az a.rn.l) i)/\nD (aQ (ar d a) C dt) (az a.rn.l) i≠ -1:=λi hi=>by
  have hx:(az a.rn.l)[i]?=some (az a.rn.l)[i]:=List.getElem?_eq_getElem hi;unfold nD;rw[if_pos ((cb i).2 hi),hx,Option.getD_some];exact⟨rfl,hu _ (List.mem_of_getElem? hx)⟩
 have fq:∀i,G8 (aQ (ar d a) C dt) (az a.rn.l) i=false:=λi=>by
  unfold G8;cases h:jz (aQ (ar d a) C dt) i with
  |false=>rfl
  |true=>simp[(sQ i ((cb i).1 h)).2]
 have hmi:lT (aQ (ar d a) C dt) (az a.rn.l)=0:=by
  unfold lT;rw[YH];exact Bn λi _=>fq i
 have hL:Cz (ar d a) C dt=az a.rn.l:=by
  unfold Cz;refine zba λi=>?_
  by_cases hi:i<(az a.rn.l).length
  ·rw[bO ab];unfold Be CQ;rw[Cy,fq i,if_neg ao];exact(sQ i hi).1.symm
  ·rw[zaK kD,zaK ab]
 have HH:=XP (l:=a.rn.l) λr hr=>by
  have:=(bZ ok.rn).2.2.2 r hr;unfold jZ at this;split at this<;>omega
 have iG:=(bZ ok.rn).1;have hv:=UH.vb;have IF:gu (Gv (ar d a) C v dt)=0:=by
  refine al_ s1 s2 UH.len hv (λx hx=>?_) (by rw[hL];exact Es) (by rw[hL];exact hlen) (by rw[hL];omega);rw[hL]at hx;have:=hb x hx;omega
 unfold Md;rw[if_neg,if_neg]
 ·rw[hL];rintro(g|g)
  ·omega
  ·exact g IF
 ·unfold w_;rw[Cy,if_pos hmi];exact λh=>h rfl
def zrL(a:At)(p n:Int):List Bool:=(List.range (((cf a).toNat+255)/256)).map λi=>QT a 0 0 i&&!(decide (p<=(i:Int)*256)&&decide (min (((i:Int)+1)*256) (cf a)<=p+n))
structure ZrL(d:Dk)(a:At)(p n:Int):Prop where
 ok:jm d a p n=0->rL d (jU d a p n) a (js d a p n) (PY (aV (ar d a)) p n) (cG a) a.rs/\
  (a.rs=false->a.fl/2%2=1->(az (js d a p n).rn.l).map (λx=>decide (x≠ -1))=zrL a p n)
 er:jm d a p n≠0->(a.rs=false/\(a.fl%2=1\/a.fl/2%2=1))/\jU d a p n=zD/\js d a p n=zA/\Ny d a (jm d a p n) (Ns a (cf a) (nJ a 0 0 (cf a)))
def aCh{d:Dk}{a:At}{p n:Int}(h0:aK d a=0)(hd:wU d)(hn:a.nm.length<=1000000)(hp:0<=p/\p<=32768)(Cw:0<=n/\n<=32768):ZrL d a p n:=by
 have hc:=qo h0;obtain⟨ok,oo⟩:=bc h0;obtain⟨s1,_⟩:=lE ok.str;have xu:=AD s1;obtain⟨f1,f2,f3,f4⟩:=ay1 (d:=d) (a:=a) hp.1 Cw.1;have Gy:KF d a p n=0:=by unfold KF iU;rw[if_neg (λe=>e h0),if_neg (λe=>e ab)]
 have hE:jm d a p n=if a.rs=true then 0 else Md (ar d a) (QC d a p n) a.vd (ju d a p n):=by unfold jm;rw[Gy,if_neg z0]
 have hD:jU d a p n=if a.rs=true then d else if Md (ar d a) (QC d a p n) a.vd (ju d a p n)=0 then XY (ar d a) (QC d a p n) (ju d a p n)else zD:=by unfold jU;rw[Gy,if_neg z0]
 have hA:js d a p n=if a.rs=true then Hx a (QC d a p n)else if Md (ar d a) (QC d a p n) a.vd (ju d a p n)=0 then Gv (ar d a) (QC d a p n) a.vd (ju d a p n)else zA:=by unfold js;rw[Gy,if_neg z0]
 have hlen:(QC d a p n).length=(aV (ar d a)).length:=Xa ⟨f1,f2⟩;have mD:=xV hc;have hN:QC d a p n=PY (aV (ar d a)) p n:=(aAy hp.1 Cw.1).symm;have qY:=aah h0;cases c_:a.rs with
 |true=>
  rw[c_,if_pos rfl]at hE hD hA;refine⟨λ_=>⟨?_,λh=>by rw[c_]at h;cases h⟩,λhe=>absurd hE he⟩;rw[hD,hA,<-hN,c_];refine aeo h0 c_ (.inr ⟨c_,?_⟩);have h5:cf a=a.vl.length:=by unfold cf;rw[c_];rfl
  omega
 |false=>
  rw[c_,if_neg ao]at hE hD hA;have Ja:=(xu.ot c_).2.1;have UH:=aFf (d:=d) (a:=a) hc c_ hp.1 Cw.1 Ja;have PE:ahC (ar d a) (ju d a p n):=aFj f3 f4;have hv:cG a=a.vd:=by unfold cG;rw[c_];rfl
  have hS:((QC d a p n).length:Int)=cf a:=ab;refine⟨λhe=>?_,λhe=>?_⟩
  ·rw[hE]at he;rw[if_pos he]at hD hA;rw[hD,hA,<-hN,hv,c_];refine⟨aiI h0 hd hn UH he,λ_ hs=>?_⟩;have h5:=Y7 h0 hd hn UH he (qY hs) hs (f:=λi=>QT a 0 0 i&&!(decide (p<=(i:Int)*256)&&decide (min (((i:Int)+1)*256) (cf a)<=p+n))) λi hi=>by
    rw[zaU,afJ h0,zbs,zdR,decide_eq_false_iff_not,decide_eq_false_iff_not];unfold ju yN Yk Cj;have e:(ar d a).a.vl=a.vl:=rfl;rw[e,Ja];have e2:¬kG 0 (([]:List UInt8).length:Nat) i:=by unfold kG;simp only[List.length_nil];omega
    have hsi:256*(i:Int)<cf a:=ab;unfold dz dX;unfold dz;constructor
    ·rintro⟨g1|g1,g2⟩
     ·refine⟨g1,?_⟩;omega
     ·exact absurd g1 e2
    ·rintro⟨g1,g2⟩;refine⟨.inl g1,?_⟩;omega
   rw[h5];unfold zrL;rw[show((QC d a p n).length+255)/256=((cf a).toNat+255)/256 by omega]
  ·rw[hE]at he;rw[if_neg he]at hD hA;rw[hD,hA,hE];have hk:=akW (d:=d) (a:=a) (C:=QC d a p n) (dt:=ju d a p n) (l:=nJ a 0 0 ((QC d a p n).length:Nat)) λg1 g2=>⟨_,Rr _ _ _ _,λi _ h=>(afJ h0 i).2 (.inl h.1)⟩
   rw[hS]at hk;refine⟨⟨c_,?_⟩,rfl,rfl,atg h0 hd hn UH PE he hk⟩;refine Classical.byContradiction λqG=>?_
   have HO:cf a=a.sz:=by unfold cf;rw[c_];rfl
   exact he (ax9 h0 hd hn c_ (λh=>qG (.inl h)) (λh=>qG (.inr h)) UH ab)
structure ZrW(d:Dk)(a:At)(p n:Int)(D:Dk)(A:At)(E:Int):Prop where
 ok:E=0->rL d D a A (PY (aV (ar d a)) p n) (cG a) a.rs/\(a.rs=false->a.fl/2%2=1->(az A.rn.l).map (λx=>decide (x≠ -1))=zrL a p n)
 er:E≠0->(a.rs=false/\(a.fl%2=1\/a.fl/2%2=1))/\D=zD/\A=zA/\Ny d a E (Ns a (cf a) (nJ a 0 0 (cf a)))
def atb{d:Dk}{a:At}{p n:Int}(h0:aK d a=0)(hd:wU d)(hn:a.nm.length<=1000000)(hp:0<=p/\p<=32768)(hc:0<=n/\n<=32768):ZrW d a p n (jU d (aB a) p n) (js d (aB a) p n) (jm d (aB a) p n):=by
 have hw:=aCh (d:=d) (a:=aB a) (p:=p) (n:=n) xJ hd hn hp hc;refine⟨λhe=>?_,λhe=>?_⟩
 ·have:=hw.ok he;rw[Hm,P9]at this;exact this
 ·exact hw.er he
def O0(ps:List PV)(x:PV):Prop:=∃(d:Dk) (a:At) (p n:Int) (dat:PV) (t:Rn),ps=[d.pv,a.pv,.agg [pI p,pI n,dat,pI t.s,pI t.n]]/\x=pB true
set_option maxHeartbeats 8000000 in
def aaC:MT (ay [(10,ah CM),(11,bF sJ),(13,c8 false dK),(40,c8 false Ss),(14,ah aW),(15,bF bG),(16,bF Fv),(18,ah EA),(25,bF EC),(19,c8 true Jw),(21,ah lY),(20,bF JD),(23,ah dj),(41,ah Hg),(24,ah tG),(26,bF uJ),(27,bF AA)]) zq (ah O0):=by
 rintro _ K ⟨_,⟨d,a,p,n,dat,t,rfl,rfl⟩,hK⟩;have lD:CM [] (pB true):=⟨rfl,rfl⟩
 by_cases SE:wV d a
 case neg=>
  (repeat'((conv=>whnf);first|refine⟨_,lD,?_⟩|refine⟨_,⟨d,a,rfl,rfl⟩,?_⟩|refine aN ?_|refine bP ?_|refine aw ab ?_|fail))<;>try(conv=>whnf)
  exact aI
 obtain⟨m1,m2,m3,m4,m5⟩:=id SE;have hd:wU d:=⟨ab,ab⟩
 have PI:=pR hd;have hn:a.nm.length<=1000000:=ab;have Aw:dK [a.pv] (.pv (aB a).pv):=⟨a,rfl,ab,rfl⟩
 have pJ:Ss [d.pv,(aB a).pv,pI p,pI n] (.tup [.pv (jU d (aB a) p n).pv,.pv (js d (aB a) p n).pv,.pv (pI (jm d (aB a) p n))]):=⟨d,aB a,p,n,rfl,⟨hd,hn⟩,rfl⟩
 have vv:aW [d.pv,a.pv] (pI (aK d a)):=⟨d,a,rfl,⟨PI,hn⟩,rfl⟩
 by_cases h0:aK d a=0
 case neg=>
  have e0:KF d (aB a) p n=aK d a:=by unfold KF;rw[kU,if_pos h0]
  have e1:jm d (aB a) p n=aK d a:=by unfold jm;rw[e0,if_pos h0]
  have e2:jU d (aB a) p n=zD:=by unfold jU;rw[e0,if_pos h0]
  have e3:js d (aB a) p n=zA:=by unfold js;rw[e0,if_pos h0]
  rw[e1,e2,e3]at pJ;have hf:=lC (aK d a);generalize aK d a=E at*
  (repeat'((conv=>whnf);first|refine⟨_,lD,?_⟩|refine⟨_,⟨d,a,rfl,rfl⟩,?_⟩|refine⟨_,Aw,?_⟩|refine⟨_,pJ,?_⟩|refine⟨_,vv,?_⟩|refine⟨_,⟨zD,zA,E,E,rfl,ao,rfl⟩,?_⟩|refine aN ?_|refine au ab ?_|refine aw ab ?_|refine bT ?_|fail))<;>try(conv=>whnf)
  exact aI
 rw[h0]at vv;have LV:soS d a:=⟨hd,hn,h0⟩
 have ok:=(bc h0).1;have KS:∀e:Int,e≠0->KF d (aB a) p n=e->jm d (aB a) p n=e/\jU d (aB a) p n=zD/\js d (aB a) p n=zA:=λe he h=>by
  refine⟨by unfold jm;rw[h,if_pos he],by unfold jU;rw[h,if_pos he],by unfold js;rw[h,if_pos he]⟩
 have Gy:KF d (aB a) p n=if ¬(iU p/\iU n)then 2 else 0:=by unfold KF;rw[kU,if_neg (λh=>h h0)]
 have Ax:(iU p/\iU n)↔(0<=p/\p<=32768)/\(0<=n/\n<=32768):=Iff.rfl;by_cases hp:(0<=p/\p<=32768)/\(0<=n/\n<=32768)
 case neg=>
  rw[if_pos (λh=>hp (Ax.1 h))]at Gy;obtain⟨e1,e2,e3⟩:=KS 2 ao Gy;rw[e1,e2,e3]at pJ;have hf:=lC 2;by_cases XN:0<=p/\p<=32768
  ·have eQ:¬(0<=n/\n<=32768):=λh=>hp ⟨XN,h⟩
   (repeat'((conv=>whnf);first|refine⟨_,lD,?_⟩|refine⟨_,⟨d,a,rfl,rfl⟩,?_⟩|refine⟨_,Aw,?_⟩|refine⟨_,pJ,?_⟩|refine⟨_,vv,?_⟩|refine⟨_,⟨zD,zA,2,2,rfl,ao,rfl⟩,?_⟩|(refine fe ?_;first|refine aN ?_|refine bP ?_|refine au ab ?_|refine aw ab ?_|refine bT ?_|refine⟨_,⟨_,_,_,rfl,rfl⟩,?_⟩|fail)))<;>try(conv=>whnf)
   exact aI
  ·(repeat'((conv=>whnf);first|refine⟨_,lD,?_⟩|refine⟨_,⟨d,a,rfl,rfl⟩,?_⟩|refine⟨_,Aw,?_⟩|refine⟨_,pJ,?_⟩|refine⟨_,vv,?_⟩|refine⟨_,⟨zD,zA,2,2,rfl,ao,rfl⟩,?_⟩|(refine fe ?_;first|refine aN ?_|refine bP ?_|refine au ab ?_|refine aw ab ?_|refine bT ?_|refine⟨_,⟨_,_,_,rfl,rfl⟩,?_⟩|fail)))<;>try(conv=>whnf)
   exact aI
 obtain⟨XN,eQ⟩:=hp;have hc:=qo h0;have hW:=atb h0 hd hn XN eQ;have aHM:=xV hc;have mE:=hc.len;have hvb:=hc.vd;have SL:=ok.fl;have mD:EA [a.pv] (pI (cf a)):=⟨a,rfl,rfl⟩
 have iZ:tG [a.pv] (pI (cG a)):=⟨a,rfl,rfl⟩
 have nK:Jw [a.pv,pI (cf a),pI 0,pI 0] (.fresh 4 1 ((nJ a 0 0 (cf a)).map pB)):=⟨a,_,_,_,rfl,⟨ok.rn,ab,ab,ab⟩,rfl⟩
 have bJ:=Jl a 0 0 (cf a);rw[F9]at bJ;have CY:dj [d.pv,a.pv] (.str (aV (ar d a))):=⟨d,a,rfl,⟨PI,h0⟩,rfl⟩
 have ji:Hg [.str (aV (ar d a)),pI p,pI n] (.str (PY (aV (ar d a)) p n)):=⟨_,p,n,rfl,ab,rfl⟩
 generalize jU d (aB a) p n=D at*;generalize js d (aB a) p n=A at*;generalize jm d (aB a) p n=E at*;have hk:lY [a.pv,pI (cf a),wq (nJ a 0 0 (cf a))] _:=⟨a,_,_,rfl,⟨ab,ab,ab⟩,rfl⟩
 obtain⟨hWo,hWe⟩:=hW;generalize PY (aV (ar d a)) p n=W at*;generalize aV (ar d a)=C at*;by_cases hE:E=0
 case neg=>
  obtain⟨⟨w1,w2⟩,rfl,rfl,w4⟩:=hWe hE;have hf:=lC E;generalize nJ a 0 0 (cf a)=L at*;by_cases AQ:a.fl%2=1
  ·have AQ:a.fl/1%2=1:=by omega
   (repeat'((conv=>whnf);first|refine oQ ?_|refine⟨_,lD,?_⟩|refine⟨_,⟨d,a,rfl,rfl⟩,?_⟩|refine⟨_,Aw,?_⟩|refine⟨_,pJ,?_⟩|refine⟨_,vv,?_⟩|refine⟨_,mD,?_⟩|refine⟨_,nK,?_⟩|refine⟨_,⟨a,1,rfl,⟨ab,.inl rfl⟩,rfl⟩,?_⟩|refine⟨_,⟨zD,zA,E,E,rfl,ao,rfl⟩,?_⟩|refine⟨_,hk,?_⟩|refine⟨_,⟨d,a,E,_,rfl,⟨LV,ab⟩,rfl⟩,?_⟩|(refine fe ?_;first|refine aN ?_|refine au ab ?_|refine aw ab ?_|refine⟨_,⟨_,_,_,rfl,rfl⟩,?_⟩|fail)))<;>try(conv=>whnf)
   exact aI
  ·have lk:=w2.resolve_left AQ;have AQ:¬a.fl/1%2=1:=ab
   (repeat'((conv=>whnf);first|refine oQ ?_|refine⟨_,lD,?_⟩|refine⟨_,⟨d,a,rfl,rfl⟩,?_⟩|refine⟨_,Aw,?_⟩|refine⟨_,pJ,?_⟩|refine⟨_,vv,?_⟩|refine⟨_,mD,?_⟩|refine⟨_,nK,?_⟩|refine⟨_,⟨a,1,rfl,⟨ab,.inl rfl⟩,rfl⟩,?_⟩|refine⟨_,⟨a,2,rfl,⟨ab,.inr (.inl rfl)⟩,rfl⟩,?_⟩|refine⟨_,⟨zD,zA,E,E,rfl,ao,rfl⟩,?_⟩|refine⟨_,hk,?_⟩|refine⟨_,⟨d,a,E,_,rfl,⟨LV,ab⟩,rfl⟩,?_⟩|(refine fe ?_;first|refine aN ?_|refine au ab ?_|refine aw ab ?_|refine⟨_,⟨_,_,_,rfl,rfl⟩,?_⟩|fail)))<;>try(conv=>whnf)
   exact aI
 subst hE;obtain⟨w1,w2⟩:=hWo rfl;obtain⟨k1,k2,k3,k4,k5⟩:=xT w1 hd;have kP:A.nm.length<=1000000:=by rw[w1.nm];exact hn
 cases c_:a.rs with
 |true=>
  generalize nJ a 0 0 (cf a)=L at*
  (repeat'((conv=>whnf);first|refine⟨_,lD,?_⟩|refine⟨_,⟨d,a,rfl,rfl⟩,?_⟩|refine⟨_,Aw,?_⟩|refine⟨_,pJ,?_⟩|refine⟨_,vv,?_⟩|refine⟨_,mD,?_⟩|refine⟨_,nK,?_⟩|refine⟨_,CY,?_⟩|refine⟨_,ji,?_⟩|refine⟨_,iZ,?_⟩|refine tW c_ ?_|refine⟨_,⟨d,D,a,A,W,_,a.rs,rfl,⟨LV,k1,kP⟩,rfl⟩,?_⟩|(refine fe ?_;first|refine aN ?_|refine au ab ?_|refine aw ab ?_|refine bT ?_|refine⟨_,⟨_,_,_,rfl,rfl⟩,?_⟩|fail)))<;>try(conv=>whnf)
  exact aI
 |false=>
  by_cases lk:a.fl/2%2=1
  case neg=>
   generalize nJ a 0 0 (cf a)=L at*
   (repeat'((conv=>whnf);first|refine⟨_,lD,?_⟩|refine⟨_,⟨d,a,rfl,rfl⟩,?_⟩|refine⟨_,Aw,?_⟩|refine⟨_,pJ,?_⟩|refine⟨_,vv,?_⟩|refine⟨_,mD,?_⟩|refine⟨_,nK,?_⟩|refine⟨_,CY,?_⟩|refine⟨_,ji,?_⟩|refine⟨_,iZ,?_⟩|refine qT c_ ?_|refine⟨_,⟨d,D,a,A,W,_,a.rs,rfl,⟨LV,k1,kP⟩,rfl⟩,?_⟩|refine⟨_,⟨a,2,rfl,⟨ab,.inr (.inl rfl)⟩,rfl⟩,?_⟩|(refine fe ?_;first|refine aN ?_|refine bP ?_|refine au ab ?_|refine aw ab ?_|refine bT ?_|refine⟨_,⟨_,_,_,rfl,rfl⟩,?_⟩|fail)))<;>try(conv=>whnf)
   exact aI
  have w3:=w2 c_ lk;obtain⟨N,hN⟩:∃N:Nat,N=((cf a).toNat+255)/256:=⟨_,rfl⟩
  obtain⟨f,hf⟩:∃f:Nat->Bool,f=QT a 0 0:=⟨_,rfl⟩
  obtain⟨g,hg⟩:∃g:Nat->Bool,g=λi=>QT a 0 0 i&&!(decide (p<=(i:Int)*256)&&decide (min (((i:Int)+1)*256) (cf a)<=p+n)):=⟨_,rfl⟩
  have hL0:nJ a 0 0 (cf a)=cQ f N:=by
   unfold nJ cQ;rw[hf,F9,hN,show((cf a+255)/256).toNat=((cf a).toNat+255)/256 by omega]
  have hL1:zrL a p n=cQ g N:=by
   unfold zrL cQ;rw[hg,hN]
  rw[hL0]at nK;rw[hL1]at w3;have hgf:∀i,g i=(f i&&!(decide (p<=(i:Int)*256)&&decide (min (((i:Int)+1)*256) (cf a)<=p+n))):=λi=>by rw[hg,hf]
  have hN2:N<=128:=ab;clear hL0 hL1 hf hg hk bJ hWe hWo Gy KS;obtain⟨R,hR⟩:∃R:Nat->List Bool,R=λk=>cQ (λi=>if i<k then g i else f i) N:=⟨_,rfl⟩
  have hR0:R 0=cQ f N:=by rw[hR];rfl
  have hRN:R N=cQ g N:=by
   rw[hR];unfold cQ;exact List.map_congr_left λi hi=>if_pos (List.mem_range.1 hi)
  have hRl:∀k,((R k).map pB).length=N:=λk=>by rw[hR,zav];exact ck
  have hRg:∀k,k<N->((R k).map pB)[(k:Int).toNat]?=some (pB (f k)):=λk hk=>by
   rw[hR,zaC,za9,bO hk,if_neg ab];rfl
  have hRs:∀k,k<N->((R k).map pB).set (k:Int).toNat (pB (g k))=(R (k+1)).map pB:=λk hk=>by
   rw[hR,zaC];refine zba λi=>?_
   rw[List.getElem?_set];by_cases hi:i<N
   ·rw[za9,za9,bO hi,bO hi,zav,ck];by_cases hki:k=i
    ·subst hki;rw[if_pos rfl,if_pos hi,if_pos ab];rfl
    ·rw[if_neg hki];by_cases h:i<k
     ·rw[if_pos h,if_pos ab]
     ·rw[if_neg h,if_neg ab]
   ·rw[if_neg ab,zaK P3,zaK P3]
  clear hR;rw[<-hR0]at nK;rw[<-hRN]at w3
  (repeat'((conv=>whnf);first|refine⟨_,lD,?_⟩|refine⟨_,⟨d,a,rfl,rfl⟩,?_⟩|refine⟨_,Aw,?_⟩|refine⟨_,pJ,?_⟩|refine⟨_,vv,?_⟩|refine⟨_,mD,?_⟩|refine⟨_,nK,?_⟩|refine⟨_,CY,?_⟩|refine⟨_,ji,?_⟩|refine⟨_,iZ,?_⟩|refine qT c_ ?_|refine⟨_,⟨d,D,a,A,W,_,a.rs,rfl,⟨LV,k1,kP⟩,rfl⟩,?_⟩|refine⟨_,⟨a,2,rfl,⟨ab,.inr (.inl rfl)⟩,rfl⟩,?_⟩|(refine fe ?_;first|refine aN ?_|refine au ab ?_|refine aw ab ?_|refine bT ?_|refine⟨_,⟨_,_,_,rfl,rfl⟩,?_⟩|fail)))<;>try(conv=>whnf)
  refine⟨λm env σ=>∃k:Nat,k+m=N/\σ=[.box 30 [.pv (pI p),.pv (pI n),.pv dat,.pv (pI t.s),.pv (pI t.n)],.box 26 [.pv (pI A.ty),.pv (.str A.nm),.pv (pI A.id),.pv (pI A.fl),.pv (pB A.rs),.pv (.str A.vl),.pv (pI A.ft),.pv (qF A.rn),.pv (pI A.al),.pv (pI A.sz),.pv (pI A.vd)],.row 4 1 true ((R k).map pB)]/\
   env=[(5,.ref 0 0 0),(8,.ref 1 0 0),eN 11 (cf a),(12,.own 2),eN 14 k],N,⟨0,ab,rfl,rfl⟩,?_⟩
  rintro m env σ ⟨k,hkm,rfl,rfl⟩;have vu:=hRl k;have hgk:=hgf k;by_cases aU:k<N
  ·have hx:=hRg k aU;have hs:=hRs k aU;have XM:0<=(k:Int)/\(k:Int).toNat<((R k).map pB).length:=⟨ab,KG⟩
   have fin:∀b:Bool,b=g k->((R k).map pB).set (k:Int).toNat (pB b)=(R (k+1)).map pB:=λb hb=>by rw[hb];exact hs
   have hkb:(k:Int)<128:=ab;clear hs nK CY ji hRg hRs hRl hgf pJ vv Aw iZ mD;generalize (R k).map pB=RR at*;cases hfk:f k with
   |true=>
    rw[hfk]at hx hgk
    (repeat'((conv=>whnf);first|refine zcC XM ?_|refine⟨_,hx,?_⟩|refine au (p:=(k:Int)<RR.length) ab ?_|refine de (λ_=>?_) (λ_=>?_)|refine bj ab ?_|refine I8 ?_|refine ez λ_=>?_|refine bT ?_|fail))<;>try(conv=>whnf)
    all_goals first
     |(rename_i x;cases x;done)
     |(rename_i x;exact absurd rfl x)
     |exact⟨m-1,ab,k+1,ab,congrArg (λr=>[_,_,dC.row 4 1 true r]) (fin true (by rw[hgk,eq_comm,Bool.true_and,zbs,zdR,decide_eq_false_iff_not,decide_eq_false_iff_not];omega)),rfl⟩
     |exact⟨m-1,ab,k+1,ab,congrArg (λr=>[_,_,dC.row 4 1 true r]) (fin false (by rw[hgk,eq_comm,Bool.true_and,Bool.not_eq_false',zaU,decide_eq_true_eq,decide_eq_true_eq];omega)),rfl⟩
   |false=>
    rw[hfk]at hx hgk;have fin:=fin false (by rw[hgk];rfl)
    (repeat'((conv=>whnf);first|refine zcC XM ?_|refine⟨_,hx,?_⟩|refine bj ab ?_|refine au ab ?_|refine I8 ?_|refine ez λ_=>?_|refine bT ?_|fail))<;>try(conv=>whnf)
    exact⟨m-1,ab,k+1,ab,by rw[<-fin],rfl⟩
  ·have hkN:k=N:=by omega
   subst hkN;have hQ:AA [A.pv,.sl 1 ((R k).map pB)] ((az A.rn.l).map (λx=>decide (x≠ -1))=R k):=⟨A,R k,rfl,k4,rfl⟩
   clear nK CY ji hRg hRs hRl hgf pJ vv Aw iZ mD;generalize (R k).map pB=RR at*
   (repeat'((conv=>whnf);first|refine⟨_,hQ,?_⟩|refine au ab ?_|refine aw ab ?_|refine ez λ_=>?_|fail))<;>try(conv=>whnf)
   exact aI
def aoV:∀xs,xS [vt,wk,Bl] xs->(ah O0).run xs λr=>r=.pv (.bool true):=λxs h=>by
 obtain⟨d,a,p,n,dat,t,rfl⟩:=LZ h;exact⟨_,⟨d,a,p,n,.str dat,t,rfl,rfl⟩,rfl⟩
def A6:=YK.snd (by exact⟨dc,pg,trivial⟩) acn
def CR:=WL.snd (by exact⟨cY,fh,bL,bY,cw,iI,gM,oM,trivial⟩) Zw
def vH:=Nd.snd (by exact⟨eY,dN,bo,CR,bU,bw,iK,uN,mf,jT,iC,oz,cS,A6,l9,eO,iE,trivial⟩) aaC
end Go.Dv.Try
