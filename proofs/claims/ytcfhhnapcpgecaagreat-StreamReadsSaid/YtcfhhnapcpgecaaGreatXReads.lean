/- Own work: parts of the proof, shortened and laid together by a tool of our own. -/
import Derived.Test.YtcfhhnapcpgecaaGreatP6
import Derived.Test.YtcfhhnapcpgecaaGreatProg
import Derived.KernelRfl
set_option linter.defProp false
set_option linter.unusedSimpArgs false
set_option linter.unusedVariables false
open Nat renaming zero_le→zbV
open And renaming intro→zcC
open List renaming getElem?_eq_getElem→zah, take_of_length_le→za1, drop_eq_nil_of_le→zb8, length_map→zav
open Int renaming toNat_natCast→zaC
namespace Go.Dv
def NO{p:Prop}{K:RV->Prop}(hK:∀r:Bool,(r=true↔p)->K (.pv (.bool r)))(h:¬p):K (.pv (.bool false)):=hK false uQ
end Go.Dv
namespace Go.Dv.Try
open Go Go.Dv Go.Dv.Sh Go.Proofs.Tryz
def aJf:PC:=r [m 82 7,L 83 2 3,c 84 48 [t 83],b 85 .neq 82 84,m 86 85,Q 86 (m 87 16),Q 86 (m 88 18),Q 86 (b 89 .neq 87 88),V 90 86 89,m 91 90,Q 91 (m 92 18),Q 91 (B 93 .eql 92 0),Q 91 (m 94 93),q 94 (L 95 11 15),q 94 (L 96 11 17),q 94 (c 97 17 [t 95,t 96]),q 94 (u 98 97),Q 91 (P 99 94 98),V 100 91 99,m 101 100,Q 101 (m 102 18),Q 101 (B 103 .neq 102 0),Q 101 (m 104 103),q 104 (L 105 11 15),q 104 (o 106 (.build [I 0,.str [],I 0,I 0,.bool false,.str [],I 0,.nil 2,I 0,I 0,I 0] [])),q 104 (c 107 17 [t 105,t 106]),q 104 (u 108 107),Q 101 (P 109 104 108),V 110 101 109]
def jI:FC:=⟨[0,1,2,3,4,5,6,7,8,9,10,11,12,13,14,15,16,17,18,19,20,21],[⟨6,none⟩],R [U 3 23 0,U 4 26 1,U 5 30 2,o 6 (.mv F)] (g (R [c 22 10 [],u 23 22] (C 23 (R [o 6 (.mv F)] j) w)) (g (R [L 24 2 3,L 25 11 4,c 26 11 [t 24,t 25],u 27 26] (C 27 (R [o 6 (.mv T)] j) w)) (R [L 28 2 3,c 29 42 [t 28],m 7 29] (g (E [L 30 2 3,L 31 11 4,c 32 13 [t 31],c 33 43 [t 30,t 32],m 8 33] [[],[],[1],[0,2,2],[3,3,0,1,2,3]]) (g (E [L 35 2 3,L 36 11 4,c 37 13 [t 36],c 38 29 [t 35,t 37],m 34 38,e 39 34 0,e 40 34 1,m 9 39,m 10 40] [[],[],[1],[0,2,2],[3],[4],[4],[5,3,0,1,2,3,4,5],[6,7,0,1,2,3,4,5,6,7]]) (g (E [L 42 2 3,L 43 11 4,c 44 13 [t 43],f 45 0 5,l 46 45,f 47 1 5,l 48 47,c 49 44 [t 42,t 44,t 46,t 48],m 41 49,e 50 41 0,e 51 41 1,m 11 50,m 12 51] [[],[],[1],[],[3],[],[5],[0,2,4,6,2],[7],[8],[8],[9,7,0,1,2,3,4,5,6,7,8,9],[10,11,0,1,2,3,4,5,6,7,8,9,10,11]]) (R [L 53 11 4,c 54 13 [t 53],c 55 45 [t 54],m 52 55,e 56 52 0,e 57 52 1,m 13 56,m 14 57] (R [f 59 1 4,l 60 59,f 61 3 4,l 62 61,f 63 2 4,l 64 63,c 65 46 [t 60,t 62,t 64],m 58 65,e 66 58 0,e 67 58 1,o 15 (.alloc 26 (.agg [I 0,.str [],I 0,I 0,.bool false,.str [],I 0,.nil 2,I 0,I 0,I 0])),s 11 15 66,m 16 67] (R [f 68 1 4,l 69 68,f 70 3 4,l 71 70,f 72 2 4,l 73 72,o 74 (.build [I 0,.str [],I 0,I 0,.bool false,.str [],I 0,.nil 2,I 0,I 0,I 0] [⟨0,⟨1,k 128⟩⟩,⟨1,⟨1,t 69⟩⟩,⟨3,⟨1,t 71⟩⟩,⟨2,⟨1,t 73⟩⟩,⟨4,⟨1,.const (.bool true)⟩⟩]),o 17 (.alloc 26 (.agg [I 0,.str [],I 0,I 0,.bool false,.str [],I 0,.nil 2,I 0,I 0,I 0])),s 11 17 74] (R [L 75 11 17,c 76 47 [t 75],m 18 76] (g (R [m 77 18,B 78 .eql 77 0] (C 78 (r [o 79 (.build [.str [],.str []] []),L 80 11 17,c 81 14 [t 79,t 80],m 18 81]) w)) (g (g aJf (C 110 (R [o 6 (.mv F)] j) w)) (R [L 111 11 4,c 112 47 [t 111],m 18 112] (g (R [m 113 18,B 114 .eql 113 0,m 115 114,q 115 (f 116 4 4),q 115 (l 117 116),P 118 115 117] (C 118 (r [M 18 20]) w)) (g (R [m 119 14,m 120 18,b 121 .neq 119 120,m 122 121,Q 122 (m 123 18),Q 122 (B 124 .neq 123 0),Q 122 (m 125 124),q 125 (m 126 13),q 125 (n 127 126),q 125 (B 128 .neq 127 0),Q 122 (P 129 125 128),V 130 122 129,m 131 130,Q 131 (m 132 18),Q 131 (B 133 .eql 132 0),Q 131 (m 134 133),q 134 (m 135 13),q 134 (L 136 11 4),q 134 (c 137 50 [t 136]),q 134 (c 138 49 [t 135,t 137]),q 134 (u 139 138),Q 131 (P 140 134 139),V 141 131 140] (C 141 (R [o 6 (.mv F)] j) w)) (R [L 142 2 3,L 143 11 4,c 144 14 [t 142,t 143],m 19 144] (g (R [m 145 8,m 146 19,b 147 .neq 145 146] (C 147 (R [o 6 (.mv F)] j) w)) (g (R [m 148 19,B 149 .neq 148 0] (C 149 (R [m 150 10,m 151 19,b 152 .eql 150 151,m 153 152,q 153 (m 154 12),q 153 (m 155 19),q 153 (b 156 .eql 154 155),P 157 153 156,m 158 157,q 158 (m 159 9),q 158 (o 160 (.bin .eql (t 159) (Y []))),P 161 158 160,m 162 161,q 162 (m 163 11),q 162 (o 164 (.bin .eql (t 163) (Y []))),P 165 162 164,m 6 165] j) w)) (R [L 166 2 3,L 167 11 4,c 168 23 [t 166,t 167],m 20 168] (g (R [m 169 10,B 170 .neq 169 0,m 171 170,Q 171 (m 172 9),Q 171 (m 173 20),Q 171 (b 174 .neq 172 173),V 175 171 174] (C 175 (R [o 6 (.mv F)] j) w)) (g (R [f 176 0 5,l 177 176,c 178 15 [t 177,k 0,k 32768],u 179 178,m 180 179,Q 180 (f 181 1 5),Q 180 (l 182 181),Q 180 (c 183 15 [t 182,k 0,k 32768]),Q 180 (u 184 183),V 185 180 184] (C 185 (R [m 186 12,B 187 .eql 186 2,m 188 187,q 188 (m 189 11),q 188 (o 190 (.bin .eql (t 189) (Y []))),P 191 188 190,m 6 191] j) w)) (R [f 192 0 5,l 193 192,m 194 20,y 195 194,o 196 (.mm false (t 193) (t 195)),m 21 196] (R [m 197 12,B 198 .eql 197 0,m 199 198,q 199 (m 200 11),q 199 (m 201 20),q 199 (m 202 21),q 199 (m 203 21),q 199 (f 204 1 5),q 199 (l 205 204),q 199 (b 206 .add 203 205),q 199 (m 207 20),q 199 (y 208 207),q 199 (o 209 (.mm false (t 206) (t 208))),q 199 (o 210 (.slcS (t 201) (some (t 202)) (some (t 209)))),q 199 (b 211 .eql 200 210),P 212 199 211,m 6 212] j)))))))))))))))))))))))⟩
def MM:CO 8 jI 3:=bk f8 ak
def xD:FC:=⟨[0,1,2,3,4,6],[⟨4,none⟩],R [U 2 23 0,U 3 26 1,M 4 0] (R [L 8 2 2,L 9 11 3,c 10 57 [t 8,t 9],m 7 10,e 11 7 0,e 12 7 1,m 5 11,m 6 12] (R [m 13 6,m 4 13] j))⟩
def Kp:CO 43 xD 2:=bk f43 ak
def aFd:PC:=G [5,22,23,24] (R [b 25 .lss 24 23] (g (C 25 w (h 0)) (g (H 1 (R [m 26 24,i 27 1 22 24,l 28 27,m 6 26,m 7 28] (R [m 29 5,n 30 29,m 8 30] (H 2 (R [m 37 7,c 38 86 [t 37],m 36 38] (C 36 w (g (D [m 40 8,B 41 .gtr 40 0,m 42 41,q 42 (m 43 5),q 42 (m 44 8),q 42 (B 45 .sub 44 1),q 42 (i 46 2 43 45),q 42 (f 47 0 46),q 42 (l 48 47),q 42 (m 49 5),q 42 (m 50 8),q 42 (B 51 .sub 50 1),q 42 (i 52 2 49 51),q 42 (f 53 1 52),q 42 (l 54 53),q 42 (b 55 .add 48 54),q 42 (m 56 6),q 42 (b 57 .eql 55 56),P 58 42 57,m 39 58] [[],[0],[1],[2],[2],[4,2],[3,5,2],[6,2],[7,2],[2],[2],[10,2],[9,11,2],[12,2],[13,2],[8,14,2],[2],[15,16,2],[2,17],[18,2]]) (C 39 (r [m 59 5,m 60 8,B 61 .sub 60 1,i 62 2 59 61,f 63 1 62,l 64 63,B 65 .add 64 1,i 66 2 59 61,f 67 1 66,s 1 67 65]) (r [m 31 5,m 32 6,o 33 (.build [I 0,I 0] [⟨0,⟨1,t 32⟩⟩,⟨1,⟨1,k 1⟩⟩]),o 34 (.bslice 28 2 [t 33]),o 35 (.app 28 2 16 (t 31) (t 34)),m 5 35]))))))))) (r [B 68 .add 24 1,m 24 68]))))
def Ik:FC:=⟨[0,1,2,3,4,5,6,7,8,22,23,24],[⟨2,none⟩,⟨3,none⟩],R [U 1 26 0,o 2 (.nilR 28 2),M 3 0] (g (g (D [L 9 11 1,c 10 96 [t 9],f 11 4 1,l 12 11,u 13 12,c 14 59 [t 13,k 20],o 15 (.bslP 33 1 [t 10,t 14]),c 16 58 [t 15],m 4 16] [[],[0],[],[2],[3],[4,1],[1,5],[6,5],[7,7,0,1,2,3,4,5,6,7]]) (R [m 17 4,B 18 .neq 17 0] (C 18 (R [m 19 4,o 2 (.nilR 28 2),m 3 19] j) w))) (R [o 5 (.nilR 28 2)] (g (R [f 20 7 1,l 21 20,c 22 97 [t 21],n 23 22,M 24 0] (H 0 aFd)) (R [m 69 5,m 2 69,M 3 0] j))))⟩
def Wu:CO 45 Ik 1:=bk f45 ak
def aFt:PC:=G [3,4,5] (g (R [m 12 5,m 13 3,n 14 13,b 15 .lss 12 14] (C 15 w (h 0))) (g (H 1 (r [m 18 4,m 19 5,m 20 3,m 21 5,i 22 1 20 21,l 23 22,B 24 .neq 23 (-1),c 25 105 [t 24],i 26 1 18 19,s 1 26 25])) (r [m 16 5,B 17 .add 16 1,m 5 17])))
def Ra:FC:=⟨[0,1,2,3,4,5],[⟨2,none⟩],R [U 1 26 0,o 2 (.nilR 28 2)] (R [f 6 7 1,l 7 6,c 8 71 [t 7],m 3 8] (R [m 9 3,n 10 9,o 11 (.mksl 3 1 8 (.int .i64 0) (t 10) (t 10)),m 4 11] (g (R [M 5 0] (H 0 aFt)) (R [m 27 4,c 28 106 [t 27,k 1],m 2 28] j))))⟩
def af9:CO 50 Ra 1:=bk f50 ak
end Go.Dv.Try
namespace Go.Dv.Try
open Go Go.Dv
def Q4:MT (ay [(57,xt)]) xD (ah aW):=by
 rintro _ K ⟨_,⟨d,a,rfl,⟨h1,h2⟩,rfl⟩,hK⟩;refine⟨d,a,rfl,⟨h1,h2⟩,λh=>?_,λh v _=>?_⟩
 ·rw[h]at hK;exact aG
 ·exact aG
def fu(a:At):Int:=if gu a≠0 then gu a else if a.rs=true then 20 else 0
def qz(a:At):List Rn:=if fu a=0 then bh (Jc (az a.rn.l)) (az a.rn.l).length else[]
def Ca(ps:List PV)(r:RV):Prop:=∃a:At,ps=[a.pv]/\a.nm.length<=1000000/\r=.tup [.fresh 28 2 ((qz a).map Rn.pv),.pv (pI (fu a))]
def Xu{a:At}(h:gu a=0):dU a.rn.l=0:=by
 have g:=Ms h;cases hr:a.rs with
 |true=>
  have e:a.rn.l=[]:=by simpa using(g.rs hr).1
  rw[e];rfl
 |false=>exact(g.ot hr).2.2.2.1
def afQ:MT (ay [(96,ah nC),(59,ah dG),(58,ah gB),(97,c8 false dL),(86,bF GM)]) Ik (c8 true Ca):=by
 rintro _ K ⟨_,⟨a,rfl,h,rfl⟩,hK⟩;by_cases he:gu a=0
 ·cases c_:a.rs with
  |true=>
   have h2:fu a=20:=by unfold fu;rw[if_neg (λe=>e he),if_pos c_]
   unfold qz at hK;rw[h2,if_neg ao]at hK
   (repeat'((conv=>whnf);first|refine oQ ?_|(refine⟨_,⟨a,rfl,h,rfl⟩,?_⟩)|refine aw (p:=a.rs=false) qD ?_|rw[he]|refine au (ZM ao) ?_|(refine fe ?_;first|refine⟨_,⟨_,_,rfl,rfl⟩,?_⟩|refine⟨_,⟨[_,_],rfl,rfl⟩,?_⟩|fail)))<;>try(conv=>whnf)
   exact abm
  |false=>
   have h2:fu a=0:=by unfold fu;rw[if_neg (λe=>e he),if_neg qD]
   unfold qz at hK;rw[h2,if_pos rfl]at hK;have PF:=r8 (Xu he);have IH:=ED (Xu he)
   (repeat'((conv=>whnf);first|refine oQ ?_|(refine⟨_,⟨a,rfl,h,rfl⟩,?_⟩)|refine au (p:=a.rs=false) c_ ?_|refine⟨_,PF,?_⟩|rw[he]|(refine fe ?_;first|refine aw ao ?_|refine ez λ_=>?_|refine⟨_,⟨_,_,rfl,rfl⟩,?_⟩|refine⟨_,⟨[_,_],rfl,rfl⟩,?_⟩|fail)))<;>try(conv=>whnf)
   generalize az a.rn.l=PL at*;refine⟨λm env σ=>∃i:Nat,i+m=PL.length/\σ=[.row 28 2 true (mg (Jc PL) i)]/\env=[(5,.own 0),(22,.pv (rI PL)),eN 23 PL.length,eN 24 i],PL.length,⟨0,ab,rfl,rfl⟩,?_⟩;rintro m env σ ⟨i,hi,rfl,rfl⟩;obtain⟨hr,hl,_⟩:=kI (Jc PL) i;by_cases aU:i<PL.length
   ·obtain⟨x,hx⟩:∃x,PL[i]?=some x:=⟨_,zah aU⟩
    have hxh:Jc PL i=decide (x≠ -1):=by unfold Jc;rw[hx];rfl
    clear hK;have vu:(mg (Jc PL) i).length=(bh (Jc PL) i).length:=zav _;by_cases h0:x= -1
    ·subst h0;have hpf:Jc PL i=false:=by rw[hxh];decide
     (repeat'(refine iM ?_;first|refine bj ab ?_|refine au ab ?_|refine ez λ_=>?_|refine iY aA ?_|refine⟨_,⟨_,rfl,rfl⟩,?_⟩|fail))<;>try(conv=>whnf)
     exact⟨m-1,ab,i+1,ab,by unfold mg;rw[ags hpf],rfl⟩
    ·have xw:Jc PL i=true:=by rw[hxh];simpa using h0
     have PB:=Kv (p:=Jc PL) (n:=i) xw;have azU:=λx y=>TU (p:=Jc PL) (n:=i) (x:=x) (y:=y) xw
     unfold mg at*;cases UB:(bh (Jc PL) i).getLast? with
     |none=>
      have Nv:bh (Jc PL) i=[]:=Ka;have PB:=PB λq hq=>by rw[Nv]at hq;simp at hq
      rw[Nv]at PB ⊢
      (repeat'((conv=>whnf);first|refine aw h0 ?_|refine zcC (by simp;first|done|fail) ?_|(refine fe ?_;first|refine bj ab ?_|refine au ab ?_|refine aw ao ?_|refine ez λ_=>?_|refine iY aA ?_|refine bT ?_|refine⟨_,⟨_,rfl,rfl⟩,?_⟩|fail)))<;>try(conv=>whnf)
      exact⟨m-1,ab,i+1,ab,congrArg (λl=>[dC.row _ _ _ l]) PB,rfl⟩
     |some q=>
      have cb:bh (Jc PL) i≠[]:=by intro e;rw[e]at UB;cases UB
      have Gq:0<(bh (Jc PL) i).length:=List.length_pos_iff.2 cb;have hg:(bh (Jc PL) i)[(((bh (Jc PL) i).length:Nat):Int).toNat-1]?=some q:=by
       rw[<-UB,List.getLast?_eq_getElem?];rfl
      have mU:(bh (Jc PL) i)[(((bh (Jc PL) i).length:Int)-1).toNat]?=some q:=by
       rw[<-hg];congr 1;omega
      have hq:=hr q (List.mem_of_getLast? UB);have hb:=λhe=>azU q q hg he rfl
      have hn:=λ(he:q.s+q.n≠i)=>PB λu hu=>by
       rw[show(bh (Jc PL) i).length-1=(((bh (Jc PL) i).length:Nat):Int).toNat-1 by omega,hg]at hu;rw[<-Option.some.inj hu];exact he
      clear PB azU UB;generalize bh (Jc PL) i=R at*
      (repeat'((conv=>whnf);first|refine aw h0 ?_|(refine fe ?_;first|refine bj ab ?_|refine au ab ?_|refine de (λ_=>?_) (λ_=>?_)|refine ez λ_=>?_|refine iY aA ?_|refine uM aA ?_|refine Q3 ab ?_|refine bT ?_|refine⟨_,⟨_,rfl,rfl⟩,?_⟩|refine zcC cu ?_|fail)))<;>try(conv=>whnf)
      ·rename_i he;exact⟨m-1,ab,i+1,ab,congrArg (λl=>[dC.row _ _ _ l]) (hb he),rfl⟩
      ·rename_i he;exact⟨m-1,ab,i+1,ab,congrArg (λl=>[dC.row _ _ _ l]) (hn he),rfl⟩
   ·have hi:i=PL.length:=by omega
    subst hi
    (repeat'((conv=>whnf);first|refine aw ab ?_|fail))<;>try(conv=>whnf)
    exact abO
 ·have h2:fu a=gu a:=by unfold fu;rw[if_pos he]
  unfold qz at hK;rw[h2,if_neg he]at hK
  (repeat'((conv=>whnf);first|refine oQ ?_|(refine⟨_,⟨a,rfl,h,rfl⟩,?_⟩)|refine au (by rw[q9 he];exact he) ?_|(refine fe ?_;first|refine de (λ_=>?_) (λ_=>?_)|refine⟨_,⟨_,_,rfl,rfl⟩,?_⟩|refine⟨_,⟨[_,_],rfl,rfl⟩,?_⟩|fail)))<;>try(conv=>whnf)
  all_goals
   rw[q9 he];exact abm
def AT(ps:List PV)(r:RV):Prop:=∃a:At,ps=[a.pv]/\dU a.rn.l=0/\r=.fresh 28 2 (mg (Jc (az a.rn.l)) (az a.rn.l).length)
def y5(pl:List Int):List Int:=pl.map λx=>aeU (decide (x≠ -1))
def am9(pl:List Int):(y5 pl).length=pl.length:=zav _
def aon{pl:List Int}{i:Nat}{x:Int}(h:pl[i]?=some x):(y5 pl)[i]?=some (aeU (decide (x≠ -1))):=by unfold y5;rw[List.getElem?_map,h];rfl
set_option maxHeartbeats 1000000 in
def agw:MT (ay [(71,c8 false dL),(105,ah Ci),(106,LL)]) Ra (c8 true AT):=by
 rintro _ K ⟨_,⟨a,rfl,h,rfl⟩,hK⟩;have PF:=r8 h;have IH:=(ED h).1;generalize az a.rn.l=PL at*;have bJ:=am9 PL
 (repeat'((conv=>whnf);first|refine⟨_,PF,?_⟩|refine ez λ_=>?_|refine wz ?_|fail))<;>try(conv=>whnf)
 refine⟨λm env σ=>∃n:Nat,n+m=PL.length/\σ=[.row 3 1 true (((y5 PL).take n++List.replicate ((y5 PL).length-n) 0).map pI)]/\env=[(3,.pv (rI PL)),(4,.own 0),eN 5 n],PL.length,⟨0,ab,?_,rfl⟩,?_⟩
 ·rw[List.take_zero,List.nil_append,Nat.sub_zero,List.map_replicate,bJ];rfl
 rintro m env σ ⟨n,hn,rfl,rfl⟩;have SL:=aj3 (L:=y5 PL) (i:=n) (z:=0) ab;by_cases aU:n<PL.length
 ·obtain⟨x,hx⟩:∃x,PL[n]?=some x:=⟨_,zah aU⟩
  have hs:=ai_ (z:=0) (aon hx)
  (repeat'(refine iM ?_;first|refine bj ab ?_|refine au ab ?_|refine de (λ_=>?_) (λ_=>?_)|refine ez λ_=>?_|refine iY aA ?_|refine Q3 ab ?_|refine aEY ab (λ_ _=>?_)|refine bT ?_|refine⟨_,⟨_,rfl,rfl⟩,?_⟩|fail))<;>try(conv=>whnf)
  ·rename_i h1 _ _;refine⟨m-1,ab,n+1,ab,?_,rfl⟩;rw[decide_eq_true h1]at hs;rw[zaC,<-hs,List.map_set]
  ·rename_i h1 _ _;refine⟨m-1,ab,n+1,ab,?_,rfl⟩;rw[decide_eq_false h1]at hs;rw[zaC,<-hs,List.map_set]
 ·(repeat'((conv=>whnf);first|refine aw ab ?_|refine ez λ_=>?_|fail))<;>try(conv=>whnf)
  rw[<-bJ]at hK;rw[show(y5 PL).length-n=0 by omega,List.replicate_zero,List.append_nil,za1 ab];refine⟨y5 PL,1,Jc PL,rfl,⟨ab,λi x hx=>?_⟩,?_⟩
  ·have hi:=eT hx;obtain⟨y,hy⟩:∃y,PL[i]?=some y:=⟨_,zah (by rw[am9]at hi;omega)⟩
   rw[aon hy]at hx;rw[<-Option.some.inj hx];unfold Jc;rw[hy];by_cases h1:y= -1<;>simp[h1,aeU]
  ·(conv=>whnf)
   exact⟨.fresh _ _ _,⟨rfl,rfl,rfl,rfl⟩,U5 _ _,hK⟩
def awM{a:At}(h:a.rs=true):aK zD a=oT a:=by
 have hd:gm zD=0:=LM;unfold aK;rw[hd,if_neg aj,if_pos h];split
 ·rfl
 ·rename_i g;exact(Decidable.not_not.1 g).symm
def aBc(a:At):gu (aB a)=gu a:=FB
def auE(a:At):fu (aB a)=fu a:=by unfold fu;rw[aBc];rfl
def az8(a:At):qz (aB a)=qz a:=by unfold qz;rw[auE];rfl
def axg(nm:List UInt8)(fl id:Int):oT (fU nm fl id)=if gu (fU nm fl id)=0 then aK zD (fU nm fl id)else gu (fU nm fl id):=by
 rw[awM rfl];split
 ·rfl
 ·rename_i h;unfold oT;rw[if_pos h]
def rdA(a:At)(DL RL:List Rn)(AE DE OE:Int):Prop:=(AE≠0/\OE≠0/\DL=[]/\DE=AE)\/(AE=0/\a.rs=true/\DL=[]/\DE=20)\/(AE=0/\a.rs=false/\DL=RL/\DE=0/\RL.length<=1000000/\AT [a.pv] (.fresh 28 2 (RL.map Rn.pv)))
def rdC(d:Dk)(a:At)(p n:Int)(C CE RN:List UInt8)(OE RE:Int):Prop:=(OE≠0/\CE=[]/\RE=OE/\RN=[])\/(OE=0/\CE=C/\dj [d.pv,a.pv] (.str C)/\C.length<=32768/\
 ((¬(0<=p/\p<=32768)/\RE=2/\RN=[])\/((0<=p/\p<=32768)∧¬(0<=n/\n<=32768)/\RE=2/\RN=[])\/((0<=p/\p<=32768)/\(0<=n/\n<=32768)/\RE=0/\RN=cut (min p C.length).toNat (min (min p C.length+n) C.length).toNat C)))
def rdN(NS N:At)(NA NO NE:Int):Prop:=(NA=0/\NO=0/\NE=0/\Td NS N)\/(NA=0/\NO=NE/\NE≠0/\Td NS zA)\/(NA=NE/\NE≠0/\Td NS zA)
structure RdF(d:Dk)(a:At)(p n:Int)(NS:At)(C CE RN:List UInt8)(DL RL:List Rn)(OE AE DE RE NO NA NE:Int):Prop where
 cp:dK [a.pv] (.pv (aB a).pv)
 cd:dm [d.pv] (pI (gm d))
 cs:aW [d.pv,(aB a).pv] (pI OE)
 cn:fi [d.pv,(aB a).pv] (.tup [.pv (.str CE),.pv (pI OE)])
 ra:oN [d.pv,(aB a).pv,pI p,pI n] (.tup [.pv (.str RN),.pv (pI RE)])
 da:Ca [(aB a).pv] (.tup [.fresh 28 2 (DL.map Rn.pv),.pv (pI DE)])
 ns:gV [.str a.nm,pI a.fl,pI a.id] (.tup [.pv NS.pv,.pv (pI NE)])
 ae:nC [(fU a.nm a.fl a.id).pv] (pI NA)
 oe:aW [zD.pv,(fU a.nm a.fl a.id).pv] (pI NO)
 aa:nC [a.pv] (pI AE)
 er:aW [d.pv,a.pv] (pI OE)
 hA:rdA a DL RL AE DE OE
 hC:rdC d a p n C CE RN OE RE
 hN:rdN NS (fU a.nm a.fl a.id) NA NO NE
 nl:NS.rn.l.length<=1000000
def atY{d:Dk}{a:At}{p n:Int}(SE:wV d a):∃(NS:At) (C CE RN:List UInt8) (DL RL:List Rn) (OE AE DE RE NO NA NE:Int),RdF d a p n NS C CE RN DL RL OE AE DE RE NO NA NE:=by
 obtain⟨m1,m2,m3,m4,m5⟩:=id SE;have hd:wU d:=⟨ab,ab⟩
 have PI:=pR hd;have hn:a.nm.length<=1000000:=ab;have hz:fH zD:=⟨ao,ao⟩
 refine⟨if oT (fU a.nm a.fl a.id)=0 then fU a.nm a.fl a.id else zA,aV (ar d a),abo d (aB a),H2 d (aB a) p n,qz a,bh (Jc (az a.rn.l)) (az a.rn.l).length,aK d a,gu a,fu a,xN d (aB a) p n,aK zD (fU a.nm a.fl a.id),gu (fU a.nm a.fl a.id),oT (fU a.nm a.fl a.id),?_⟩;refine⟨⟨a,rfl,ab,rfl⟩,⟨d,rfl,PI,rfl⟩,⟨d,aB a,rfl,⟨PI,hn⟩,by rw[kU]⟩,⟨d,aB a,rfl,⟨PI,hn⟩,by rw[kU]⟩,⟨d,aB a,p,n,rfl,⟨PI,hn⟩,rfl⟩,⟨aB a,rfl,hn,by rw[auE,az8]⟩,
  ⟨a.nm,a.fl,a.id,rfl,hn,rfl⟩,⟨fU a.nm a.fl a.id,rfl,hn,rfl⟩,⟨zD,fU a.nm a.fl a.id,rfl,⟨hz,hn⟩,rfl⟩,⟨a,rfl,hn,rfl⟩,⟨d,a,rfl,⟨PI,hn⟩,rfl⟩,?_,?_,?_,by split<;>exact zbV _⟩
 ·by_cases g:gu a=0
  ·have hl:(bh (Jc (az a.rn.l)) (az a.rn.l).length).length<=1000000:=by
    have h1:=(ED (Xu g)).1;have h2:=TW (Jc (az a.rn.l)) (az a.rn.l).length;have h3:=ak5 (Xp (Jc (az a.rn.l))) (az a.rn.l).length;omega
   cases g2:a.rs with
   |true=>
    have e:fu a=20:=by unfold fu;rw[if_neg (λh=>h g),if_pos g2]
    exact .inr (.inl ⟨g,g2,by unfold qz;rw[e,if_neg ao],e⟩)
   |false=>
    have e:fu a=0:=by unfold fu;rw[if_neg (λh=>h g),if_neg (by rw[g2];decide)]
    exact .inr (.inr ⟨g,g2,by unfold qz;rw[if_pos e],e,hl,⟨a,rfl,Xu g,rfl⟩⟩)
  ·have e:fu a=gu a:=by unfold fu;rw[if_pos g]
   exact .inl ⟨g,λh=>g (lE (bc h).1.str).1,by unfold qz;rw[e,if_neg g],e⟩
 ·by_cases g:aK d a=0
  ·right;have hc:abo d (aB a)=aV (ar d a):=by unfold abo;rw[kU,Hm,if_pos g]
   refine⟨g,hc,⟨d,a,rfl,⟨PI,g⟩,rfl⟩,(qo g).len,?_⟩;by_cases h1:0<=p/\p<=32768
   ·by_cases h2:0<=n/\n<=32768
    ·have hr:xN d (aB a) p n=0:=by unfold xN;rw[kU,if_neg (λe=>e g),if_pos ⟨h1,h2⟩]
     refine .inr (.inr ⟨h1,h2,hr,?_⟩);unfold H2;rw[if_pos hr,Hm];unfold cut;rw[List.drop_take];generalize aV (ar d a)=C;by_cases h:p<=C.length
     ·rw[show(min p (C.length:Int)).toNat=p.toNat by omega];by_cases h4:p+n<=C.length
      ·congr 1;omega
      ·rw[za1 ef,za1 ef]
     ·rw[zb8 ab,zb8 ab,List.take_nil,List.take_nil]
    ·have hr:xN d (aB a) p n=2:=by unfold xN;rw[kU,if_neg (λe=>e g),if_neg (λe=>h2 e.2)]
     exact .inr (.inl ⟨h1,h2,hr,by unfold H2;rw[hr,if_neg ao]⟩)
   ·have hr:xN d (aB a) p n=2:=by unfold xN;rw[kU,if_neg (λe=>e g),if_neg (λe=>h1 e.1)]
    exact .inl ⟨h1,hr,by unfold H2;rw[hr,if_neg ao]⟩
  ·have hr:xN d (aB a) p n=aK d a:=by unfold xN;rw[kU,if_pos g]
   exact .inl ⟨g,by unfold abo;rw[kU,if_neg g],hr,by unfold H2;rw[hr,if_neg g]⟩
 ·have cb:=axg a.nm a.fl a.id;by_cases g:gu (fU a.nm a.fl a.id)=0
  ·rw[if_pos g]at cb;by_cases g2:oT (fU a.nm a.fl a.id)=0
   ·exact .inl ⟨g,ab,g2,by rw[if_pos g2];exact PJ _⟩
   ·exact .inr (.inl ⟨g,cb.symm,g2,by rw[if_neg g2];exact PJ _⟩)
  ·rw[if_neg g]at cb;exact .inr (.inr ⟨cb.symm,ab,by rw[if_neg ab];exact PJ _⟩)
def Oo(ps:List PV)(x:PV):Prop:=∃(d:Dk) (a:At) (p n:Int) (dat:PV) (t:Rn),ps=[d.pv,a.pv,.agg [pI p,pI n,dat,pI t.s,pI t.n]]/\x=pB true
def ahw(ps:List PV)(x:PV):Prop:=∃(d:Dk) (a:At) (p n:Int) (dat:PV) (t:Rn) (NS:At) (C CE RN:List UInt8) (DL RL:List Rn) (OE AE DE RE NO NA NE:Int),ps=[d.pv,a.pv,.agg [pI p,pI n,dat,pI t.s,pI t.n]]/\(RdF d a p n NS C CE RN DL RL OE AE DE RE NO NA NE/\wV d a/\NA=0/\NO=0/\NE=0/\Td NS (fU a.nm a.fl a.id))/\x=pB true
set_option maxHeartbeats 16000000 in
def Wd:MT (ay [(10,ah CM),(11,bF sJ),(13,c8 false dK),(42,ah dm),(43,ah aW),(29,c8 true fi),(44,c8 true oN),(45,c8 true Ca),(46,c8 false gV),(47,ah nC),(14,ah aW),(48,ah dm),(17,bF Av),(49,bF jW),(50,c8 true AT),(23,ah dj),(15,bF bG)]) jI (ah ahw):=by
 rintro _ K ⟨_,⟨d,a,p,n,dat,t,NS,C,CE,RN,DL,RL,OE,AE,DE,RE,NO,NA,NE,rfl,⟨F,SE,⟨z1,z2,z3,z4⟩⟩,rfl⟩,hK⟩;have lD:CM [] (pB true):=⟨rfl,rfl⟩
 have nk:([]:List UInt8)=[]:=rfl;obtain⟨hA,hC,hN,eK⟩:=zcC F.hA (zcC F.hC (zcC F.hN F.nl));clear hN;rcases hA with⟨a1,a2,rfl,rfl⟩|⟨rfl,c_,rfl,rfl⟩|⟨rfl,c_,rfl,rfl,vu,XH⟩
 ·rcases hC with⟨c1,rfl,rfl,rfl⟩|⟨rfl,_⟩
  ·(repeat'((conv=>whnf);first|refine⟨_,lD,?_⟩|refine⟨_,⟨d,a,rfl,rfl⟩,?_⟩|refine⟨_,F.cp,?_⟩|refine⟨_,F.cd,?_⟩|refine⟨_,F.cs,?_⟩|refine⟨_,F.cn,?_⟩|refine⟨_,F.ra,?_⟩|refine⟨_,F.da,?_⟩|refine⟨_,F.ns,?_⟩|refine⟨_,F.ae,?_⟩|refine⟨_,F.oe,?_⟩|refine⟨_,F.aa,?_⟩|refine⟨_,F.er,?_⟩|refine⟨_,⟨NS,fU a.nm a.fl a.id,rfl,⟨F.nl,zbV _⟩,rfl⟩,?_⟩|refine aw (λh=>h rfl) ?_|refine au rfl ?_|refine aN ?_|refine au ab ?_|refine aw ab ?_|refine ez λ_=>?_|refine bT ?_|fail))<;>try(conv=>whnf)
   exact aI
  ·exact absurd rfl a2
 ·rcases hC with⟨c1,rfl,rfl,rfl⟩|⟨rfl,rfl,CY,mE,⟨c1,rfl,rfl⟩|⟨c1,c2,rfl,rfl⟩|⟨c1,c2,rfl,rfl⟩⟩
  ·(repeat'((conv=>whnf);first|refine⟨_,lD,?_⟩|refine⟨_,⟨d,a,rfl,rfl⟩,?_⟩|refine⟨_,F.cp,?_⟩|refine⟨_,F.cd,?_⟩|refine⟨_,F.cs,?_⟩|refine⟨_,F.cn,?_⟩|refine⟨_,F.ra,?_⟩|refine⟨_,F.da,?_⟩|refine⟨_,F.ns,?_⟩|refine⟨_,F.ae,?_⟩|refine⟨_,F.oe,?_⟩|refine⟨_,F.aa,?_⟩|refine⟨_,F.er,?_⟩|refine⟨_,⟨NS,fU a.nm a.fl a.id,rfl,⟨F.nl,zbV _⟩,rfl⟩,?_⟩|refine tW c_ ?_|refine aw (λh=>h rfl) ?_|refine au rfl ?_|refine aN ?_|refine au ab ?_|refine aw ab ?_|refine ez λ_=>?_|refine bT ?_|fail))<;>try(conv=>whnf)
   exact aI
  ·(repeat'((conv=>whnf);first|refine⟨_,lD,?_⟩|refine⟨_,⟨d,a,rfl,rfl⟩,?_⟩|refine⟨_,F.cp,?_⟩|refine⟨_,F.cd,?_⟩|refine⟨_,F.cs,?_⟩|refine⟨_,F.cn,?_⟩|refine⟨_,F.ra,?_⟩|refine⟨_,F.da,?_⟩|refine⟨_,F.ns,?_⟩|refine⟨_,F.ae,?_⟩|refine⟨_,F.oe,?_⟩|refine⟨_,F.aa,?_⟩|refine⟨_,F.er,?_⟩|refine⟨_,⟨NS,fU a.nm a.fl a.id,rfl,⟨F.nl,zbV _⟩,rfl⟩,?_⟩|refine tW c_ ?_|refine⟨_,CY,?_⟩|refine aw (λh=>h rfl) ?_|refine au rfl ?_|(refine fe ?_;first|refine aN ?_|refine au ab ?_|refine aw ab ?_|refine ez λ_=>?_|refine bT ?_|refine⟨_,⟨_,_,_,rfl,rfl⟩,?_⟩|fail)))<;>try(conv=>whnf)
   exact aI
  ·(repeat'((conv=>whnf);first|refine⟨_,lD,?_⟩|refine⟨_,⟨d,a,rfl,rfl⟩,?_⟩|refine⟨_,F.cp,?_⟩|refine⟨_,F.cd,?_⟩|refine⟨_,F.cs,?_⟩|refine⟨_,F.cn,?_⟩|refine⟨_,F.ra,?_⟩|refine⟨_,F.da,?_⟩|refine⟨_,F.ns,?_⟩|refine⟨_,F.ae,?_⟩|refine⟨_,F.oe,?_⟩|refine⟨_,F.aa,?_⟩|refine⟨_,F.er,?_⟩|refine⟨_,⟨NS,fU a.nm a.fl a.id,rfl,⟨F.nl,zbV _⟩,rfl⟩,?_⟩|refine tW c_ ?_|refine⟨_,CY,?_⟩|refine aw (λh=>h rfl) ?_|refine au rfl ?_|(refine fe ?_;first|refine aN ?_|refine au ab ?_|refine aw ab ?_|refine ez λ_=>?_|refine bT ?_|refine⟨_,⟨_,_,_,rfl,rfl⟩,?_⟩|fail)))<;>try(conv=>whnf)
   exact aI
  ·(repeat'((conv=>whnf);first|refine⟨_,lD,?_⟩|refine⟨_,⟨d,a,rfl,rfl⟩,?_⟩|refine⟨_,F.cp,?_⟩|refine⟨_,F.cd,?_⟩|refine⟨_,F.cs,?_⟩|refine⟨_,F.cn,?_⟩|refine⟨_,F.ra,?_⟩|refine⟨_,F.da,?_⟩|refine⟨_,F.ns,?_⟩|refine⟨_,F.ae,?_⟩|refine⟨_,F.oe,?_⟩|refine⟨_,F.aa,?_⟩|refine⟨_,F.er,?_⟩|refine⟨_,⟨NS,fU a.nm a.fl a.id,rfl,⟨F.nl,zbV _⟩,rfl⟩,?_⟩|refine tW c_ ?_|refine⟨_,CY,?_⟩|refine aw (λh=>h rfl) ?_|refine au rfl ?_|(refine fe ?_;first|refine bj ab ?_|refine aN ?_|refine au ab ?_|refine aw ab ?_|refine I8 ?_|refine ez λ_=>?_|refine bT ?_|refine⟨_,⟨_,_,_,rfl,rfl⟩,?_⟩|refine wz ?_|fail)))<;>try(conv=>whnf)
   exact aI
 ·rcases hC with⟨c1,rfl,rfl,rfl⟩|⟨rfl,rfl,CY,mE,⟨c1,rfl,rfl⟩|⟨c1,c2,rfl,rfl⟩|⟨c1,c2,rfl,rfl⟩⟩
  ·(repeat'((conv=>whnf);first|refine⟨_,lD,?_⟩|refine⟨_,⟨d,a,rfl,rfl⟩,?_⟩|refine⟨_,F.cp,?_⟩|refine⟨_,F.cd,?_⟩|refine⟨_,F.cs,?_⟩|refine⟨_,F.cn,?_⟩|refine⟨_,F.ra,?_⟩|refine⟨_,F.da,?_⟩|refine⟨_,F.ns,?_⟩|refine⟨_,F.ae,?_⟩|refine⟨_,F.oe,?_⟩|refine⟨_,F.aa,?_⟩|refine⟨_,F.er,?_⟩|refine⟨_,⟨NS,fU a.nm a.fl a.id,rfl,⟨F.nl,zbV _⟩,rfl⟩,?_⟩|refine qT c_ ?_|refine⟨_,XH,?_⟩|refine⟨_,⟨.sl DL,.sl DL,rfl,⟨vu,vu⟩,rfl⟩,?_⟩|refine aw (λh=>h rfl) ?_|refine au rfl ?_|refine aN ?_|refine au ab ?_|refine aw ab ?_|refine bT ?_|fail))<;>try(conv=>whnf)
   exact aI
  ·(repeat'((conv=>whnf);first|refine⟨_,lD,?_⟩|refine⟨_,⟨d,a,rfl,rfl⟩,?_⟩|refine⟨_,F.cp,?_⟩|refine⟨_,F.cd,?_⟩|refine⟨_,F.cs,?_⟩|refine⟨_,F.cn,?_⟩|refine⟨_,F.ra,?_⟩|refine⟨_,F.da,?_⟩|refine⟨_,F.ns,?_⟩|refine⟨_,F.ae,?_⟩|refine⟨_,F.oe,?_⟩|refine⟨_,F.aa,?_⟩|refine⟨_,F.er,?_⟩|refine⟨_,⟨NS,fU a.nm a.fl a.id,rfl,⟨F.nl,zbV _⟩,rfl⟩,?_⟩|refine qT c_ ?_|refine⟨_,XH,?_⟩|refine⟨_,⟨.sl DL,.sl DL,rfl,⟨vu,vu⟩,rfl⟩,?_⟩|refine⟨_,CY,?_⟩|refine aw (λh=>h rfl) ?_|refine au rfl ?_|(refine fe ?_;first|refine aN ?_|refine au ab ?_|refine aw ab ?_|refine bT ?_|refine⟨_,⟨_,_,_,rfl,rfl⟩,?_⟩|fail)))<;>try(conv=>whnf)
   exact aI
  ·(repeat'((conv=>whnf);first|refine⟨_,lD,?_⟩|refine⟨_,⟨d,a,rfl,rfl⟩,?_⟩|refine⟨_,F.cp,?_⟩|refine⟨_,F.cd,?_⟩|refine⟨_,F.cs,?_⟩|refine⟨_,F.cn,?_⟩|refine⟨_,F.ra,?_⟩|refine⟨_,F.da,?_⟩|refine⟨_,F.ns,?_⟩|refine⟨_,F.ae,?_⟩|refine⟨_,F.oe,?_⟩|refine⟨_,F.aa,?_⟩|refine⟨_,F.er,?_⟩|refine⟨_,⟨NS,fU a.nm a.fl a.id,rfl,⟨F.nl,zbV _⟩,rfl⟩,?_⟩|refine qT c_ ?_|refine⟨_,XH,?_⟩|refine⟨_,⟨.sl DL,.sl DL,rfl,⟨vu,vu⟩,rfl⟩,?_⟩|refine⟨_,CY,?_⟩|refine aw (λh=>h rfl) ?_|refine au rfl ?_|(refine fe ?_;first|refine aN ?_|refine au ab ?_|refine aw ab ?_|refine bT ?_|refine⟨_,⟨_,_,_,rfl,rfl⟩,?_⟩|fail)))<;>try(conv=>whnf)
   exact aI
  ·(repeat'((conv=>whnf);first|refine⟨_,lD,?_⟩|refine⟨_,⟨d,a,rfl,rfl⟩,?_⟩|refine⟨_,F.cp,?_⟩|refine⟨_,F.cd,?_⟩|refine⟨_,F.cs,?_⟩|refine⟨_,F.cn,?_⟩|refine⟨_,F.ra,?_⟩|refine⟨_,F.da,?_⟩|refine⟨_,F.ns,?_⟩|refine⟨_,F.ae,?_⟩|refine⟨_,F.oe,?_⟩|refine⟨_,F.aa,?_⟩|refine⟨_,F.er,?_⟩|refine⟨_,⟨NS,fU a.nm a.fl a.id,rfl,⟨F.nl,zbV _⟩,rfl⟩,?_⟩|refine qT c_ ?_|refine⟨_,XH,?_⟩|refine⟨_,⟨.sl DL,.sl DL,rfl,⟨vu,vu⟩,rfl⟩,?_⟩|refine⟨_,CY,?_⟩|refine aw (λh=>h rfl) ?_|refine au rfl ?_|(refine fe ?_;first|refine bj ab ?_|refine aN ?_|refine au ab ?_|refine aw ab ?_|refine I8 ?_|refine bT ?_|refine⟨_,⟨_,_,_,rfl,rfl⟩,?_⟩|refine wz ?_|fail)))<;>try(conv=>whnf)
   exact aI
def ajO(ps:List PV)(x:PV):Prop:=∃(d:Dk) (a:At) (p n:Int) (dat:PV) (t:Rn) (NS:At) (C CE RN:List UInt8) (DL RL:List Rn) (OE AE DE RE NO NA NE:Int),ps=[d.pv,a.pv,.agg [pI p,pI n,dat,pI t.s,pI t.n]]/\(RdF d a p n NS C CE RN DL RL OE AE DE RE NO NA NE/\wV d a/\NA=0/\NO=NE/\NE≠0/\Td NS zA)/\x=pB true
set_option maxHeartbeats 16000000 in
def V1:MT (ay [(10,ah CM),(11,bF sJ),(13,c8 false dK),(42,ah dm),(43,ah aW),(29,c8 true fi),(44,c8 true oN),(45,c8 true Ca),(46,c8 false gV),(47,ah nC),(14,ah aW),(48,ah dm),(17,bF Av),(49,bF jW),(50,c8 true AT),(23,ah dj),(15,bF bG)]) jI (ah ajO):=by
 rintro _ K ⟨_,⟨d,a,p,n,dat,t,NS,C,CE,RN,DL,RL,OE,AE,DE,RE,NO,NA,NE,rfl,⟨F,SE,⟨z1,z2,z3,z4⟩⟩,rfl⟩,hK⟩;have lD:CM [] (pB true):=⟨rfl,rfl⟩
 have nk:([]:List UInt8)=[]:=rfl;obtain⟨hA,hC,hN,eK⟩:=zcC F.hA (zcC F.hC (zcC F.hN F.nl));clear hN;rcases hA with⟨a1,a2,rfl,rfl⟩|⟨rfl,c_,rfl,rfl⟩|⟨rfl,c_,rfl,rfl,vu,XH⟩
 ·rcases hC with⟨c1,rfl,rfl,rfl⟩|⟨rfl,_⟩
  ·(repeat'((conv=>whnf);first|refine⟨_,lD,?_⟩|refine⟨_,⟨d,a,rfl,rfl⟩,?_⟩|refine⟨_,F.cp,?_⟩|refine⟨_,F.cd,?_⟩|refine⟨_,F.cs,?_⟩|refine⟨_,F.cn,?_⟩|refine⟨_,F.ra,?_⟩|refine⟨_,F.da,?_⟩|refine⟨_,F.ns,?_⟩|refine⟨_,F.ae,?_⟩|refine⟨_,F.oe,?_⟩|refine⟨_,F.aa,?_⟩|refine⟨_,F.er,?_⟩|refine⟨_,⟨NS,zA,rfl,⟨F.nl,zbV _⟩,rfl⟩,?_⟩|refine aw (λh=>h rfl) ?_|refine au rfl ?_|refine aN ?_|refine au ab ?_|refine aw ab ?_|refine ez λ_=>?_|refine bT ?_|fail))<;>try(conv=>whnf)
   exact aI
  ·exact absurd rfl a2
 ·rcases hC with⟨c1,rfl,rfl,rfl⟩|⟨rfl,rfl,CY,mE,⟨c1,rfl,rfl⟩|⟨c1,c2,rfl,rfl⟩|⟨c1,c2,rfl,rfl⟩⟩
  ·(repeat'((conv=>whnf);first|refine⟨_,lD,?_⟩|refine⟨_,⟨d,a,rfl,rfl⟩,?_⟩|refine⟨_,F.cp,?_⟩|refine⟨_,F.cd,?_⟩|refine⟨_,F.cs,?_⟩|refine⟨_,F.cn,?_⟩|refine⟨_,F.ra,?_⟩|refine⟨_,F.da,?_⟩|refine⟨_,F.ns,?_⟩|refine⟨_,F.ae,?_⟩|refine⟨_,F.oe,?_⟩|refine⟨_,F.aa,?_⟩|refine⟨_,F.er,?_⟩|refine⟨_,⟨NS,zA,rfl,⟨F.nl,zbV _⟩,rfl⟩,?_⟩|refine tW c_ ?_|refine aw (λh=>h rfl) ?_|refine au rfl ?_|refine aN ?_|refine au ab ?_|refine aw ab ?_|refine ez λ_=>?_|refine bT ?_|fail))<;>try(conv=>whnf)
   exact aI
  ·(repeat'((conv=>whnf);first|refine⟨_,lD,?_⟩|refine⟨_,⟨d,a,rfl,rfl⟩,?_⟩|refine⟨_,F.cp,?_⟩|refine⟨_,F.cd,?_⟩|refine⟨_,F.cs,?_⟩|refine⟨_,F.cn,?_⟩|refine⟨_,F.ra,?_⟩|refine⟨_,F.da,?_⟩|refine⟨_,F.ns,?_⟩|refine⟨_,F.ae,?_⟩|refine⟨_,F.oe,?_⟩|refine⟨_,F.aa,?_⟩|refine⟨_,F.er,?_⟩|refine⟨_,⟨NS,zA,rfl,⟨F.nl,zbV _⟩,rfl⟩,?_⟩|refine tW c_ ?_|refine⟨_,CY,?_⟩|refine aw (λh=>h rfl) ?_|refine au rfl ?_|(refine fe ?_;first|refine aN ?_|refine au ab ?_|refine aw ab ?_|refine ez λ_=>?_|refine bT ?_|refine⟨_,⟨_,_,_,rfl,rfl⟩,?_⟩|fail)))<;>try(conv=>whnf)
   exact aI
  ·(repeat'((conv=>whnf);first|refine⟨_,lD,?_⟩|refine⟨_,⟨d,a,rfl,rfl⟩,?_⟩|refine⟨_,F.cp,?_⟩|refine⟨_,F.cd,?_⟩|refine⟨_,F.cs,?_⟩|refine⟨_,F.cn,?_⟩|refine⟨_,F.ra,?_⟩|refine⟨_,F.da,?_⟩|refine⟨_,F.ns,?_⟩|refine⟨_,F.ae,?_⟩|refine⟨_,F.oe,?_⟩|refine⟨_,F.aa,?_⟩|refine⟨_,F.er,?_⟩|refine⟨_,⟨NS,zA,rfl,⟨F.nl,zbV _⟩,rfl⟩,?_⟩|refine tW c_ ?_|refine⟨_,CY,?_⟩|refine aw (λh=>h rfl) ?_|refine au rfl ?_|(refine fe ?_;first|refine aN ?_|refine au ab ?_|refine aw ab ?_|refine ez λ_=>?_|refine bT ?_|refine⟨_,⟨_,_,_,rfl,rfl⟩,?_⟩|fail)))<;>try(conv=>whnf)
   exact aI
  ·(repeat'((conv=>whnf);first|refine⟨_,lD,?_⟩|refine⟨_,⟨d,a,rfl,rfl⟩,?_⟩|refine⟨_,F.cp,?_⟩|refine⟨_,F.cd,?_⟩|refine⟨_,F.cs,?_⟩|refine⟨_,F.cn,?_⟩|refine⟨_,F.ra,?_⟩|refine⟨_,F.da,?_⟩|refine⟨_,F.ns,?_⟩|refine⟨_,F.ae,?_⟩|refine⟨_,F.oe,?_⟩|refine⟨_,F.aa,?_⟩|refine⟨_,F.er,?_⟩|refine⟨_,⟨NS,zA,rfl,⟨F.nl,zbV _⟩,rfl⟩,?_⟩|refine tW c_ ?_|refine⟨_,CY,?_⟩|refine aw (λh=>h rfl) ?_|refine au rfl ?_|(refine fe ?_;first|refine bj ab ?_|refine aN ?_|refine au ab ?_|refine aw ab ?_|refine I8 ?_|refine ez λ_=>?_|refine bT ?_|refine⟨_,⟨_,_,_,rfl,rfl⟩,?_⟩|refine wz ?_|fail)))<;>try(conv=>whnf)
   exact aI
 ·rcases hC with⟨c1,rfl,rfl,rfl⟩|⟨rfl,rfl,CY,mE,⟨c1,rfl,rfl⟩|⟨c1,c2,rfl,rfl⟩|⟨c1,c2,rfl,rfl⟩⟩
  ·(repeat'((conv=>whnf);first|refine⟨_,lD,?_⟩|refine⟨_,⟨d,a,rfl,rfl⟩,?_⟩|refine⟨_,F.cp,?_⟩|refine⟨_,F.cd,?_⟩|refine⟨_,F.cs,?_⟩|refine⟨_,F.cn,?_⟩|refine⟨_,F.ra,?_⟩|refine⟨_,F.da,?_⟩|refine⟨_,F.ns,?_⟩|refine⟨_,F.ae,?_⟩|refine⟨_,F.oe,?_⟩|refine⟨_,F.aa,?_⟩|refine⟨_,F.er,?_⟩|refine⟨_,⟨NS,zA,rfl,⟨F.nl,zbV _⟩,rfl⟩,?_⟩|refine qT c_ ?_|refine⟨_,XH,?_⟩|refine⟨_,⟨.sl DL,.sl DL,rfl,⟨vu,vu⟩,rfl⟩,?_⟩|refine aw (λh=>h rfl) ?_|refine au rfl ?_|refine aN ?_|refine au ab ?_|refine aw ab ?_|refine bT ?_|fail))<;>try(conv=>whnf)
   exact aI
  ·(repeat'((conv=>whnf);first|refine⟨_,lD,?_⟩|refine⟨_,⟨d,a,rfl,rfl⟩,?_⟩|refine⟨_,F.cp,?_⟩|refine⟨_,F.cd,?_⟩|refine⟨_,F.cs,?_⟩|refine⟨_,F.cn,?_⟩|refine⟨_,F.ra,?_⟩|refine⟨_,F.da,?_⟩|refine⟨_,F.ns,?_⟩|refine⟨_,F.ae,?_⟩|refine⟨_,F.oe,?_⟩|refine⟨_,F.aa,?_⟩|refine⟨_,F.er,?_⟩|refine⟨_,⟨NS,zA,rfl,⟨F.nl,zbV _⟩,rfl⟩,?_⟩|refine qT c_ ?_|refine⟨_,XH,?_⟩|refine⟨_,⟨.sl DL,.sl DL,rfl,⟨vu,vu⟩,rfl⟩,?_⟩|refine⟨_,CY,?_⟩|refine aw (λh=>h rfl) ?_|refine au rfl ?_|(refine fe ?_;first|refine aN ?_|refine au ab ?_|refine aw ab ?_|refine bT ?_|refine⟨_,⟨_,_,_,rfl,rfl⟩,?_⟩|fail)))<;>try(conv=>whnf)
   exact aI
  ·(repeat'((conv=>whnf);first|refine⟨_,lD,?_⟩|refine⟨_,⟨d,a,rfl,rfl⟩,?_⟩|refine⟨_,F.cp,?_⟩|refine⟨_,F.cd,?_⟩|refine⟨_,F.cs,?_⟩|refine⟨_,F.cn,?_⟩|refine⟨_,F.ra,?_⟩|refine⟨_,F.da,?_⟩|refine⟨_,F.ns,?_⟩|refine⟨_,F.ae,?_⟩|refine⟨_,F.oe,?_⟩|refine⟨_,F.aa,?_⟩|refine⟨_,F.er,?_⟩|refine⟨_,⟨NS,zA,rfl,⟨F.nl,zbV _⟩,rfl⟩,?_⟩|refine qT c_ ?_|refine⟨_,XH,?_⟩|refine⟨_,⟨.sl DL,.sl DL,rfl,⟨vu,vu⟩,rfl⟩,?_⟩|refine⟨_,CY,?_⟩|refine aw (λh=>h rfl) ?_|refine au rfl ?_|(refine fe ?_;first|refine aN ?_|refine au ab ?_|refine aw ab ?_|refine bT ?_|refine⟨_,⟨_,_,_,rfl,rfl⟩,?_⟩|fail)))<;>try(conv=>whnf)
   exact aI
  ·(repeat'((conv=>whnf);first|refine⟨_,lD,?_⟩|refine⟨_,⟨d,a,rfl,rfl⟩,?_⟩|refine⟨_,F.cp,?_⟩|refine⟨_,F.cd,?_⟩|refine⟨_,F.cs,?_⟩|refine⟨_,F.cn,?_⟩|refine⟨_,F.ra,?_⟩|refine⟨_,F.da,?_⟩|refine⟨_,F.ns,?_⟩|refine⟨_,F.ae,?_⟩|refine⟨_,F.oe,?_⟩|refine⟨_,F.aa,?_⟩|refine⟨_,F.er,?_⟩|refine⟨_,⟨NS,zA,rfl,⟨F.nl,zbV _⟩,rfl⟩,?_⟩|refine qT c_ ?_|refine⟨_,XH,?_⟩|refine⟨_,⟨.sl DL,.sl DL,rfl,⟨vu,vu⟩,rfl⟩,?_⟩|refine⟨_,CY,?_⟩|refine aw (λh=>h rfl) ?_|refine au rfl ?_|(refine fe ?_;first|refine bj ab ?_|refine aN ?_|refine au ab ?_|refine aw ab ?_|refine I8 ?_|refine bT ?_|refine⟨_,⟨_,_,_,rfl,rfl⟩,?_⟩|refine wz ?_|fail)))<;>try(conv=>whnf)
   exact aI
def ajn(ps:List PV)(x:PV):Prop:=∃(d:Dk) (a:At) (p n:Int) (dat:PV) (t:Rn) (NS:At) (C CE RN:List UInt8) (DL RL:List Rn) (OE AE DE RE NO NA NE:Int),ps=[d.pv,a.pv,.agg [pI p,pI n,dat,pI t.s,pI t.n]]/\(RdF d a p n NS C CE RN DL RL OE AE DE RE NO NA NE/\wV d a/\NA=NE/\NE≠0/\Td NS zA)/\x=pB true
set_option maxHeartbeats 16000000 in
def WE:MT (ay [(10,ah CM),(11,bF sJ),(13,c8 false dK),(42,ah dm),(43,ah aW),(29,c8 true fi),(44,c8 true oN),(45,c8 true Ca),(46,c8 false gV),(47,ah nC),(14,ah aW),(48,ah dm),(17,bF Av),(49,bF jW),(50,c8 true AT),(23,ah dj),(15,bF bG)]) jI (ah ajn):=by
 rintro _ K ⟨_,⟨d,a,p,n,dat,t,NS,C,CE,RN,DL,RL,OE,AE,DE,RE,NO,NA,NE,rfl,⟨F,SE,⟨z1,z3,z4⟩⟩,rfl⟩,hK⟩;have lD:CM [] (pB true):=⟨rfl,rfl⟩
 have nk:([]:List UInt8)=[]:=rfl;obtain⟨hA,hC,hN,eK⟩:=zcC F.hA (zcC F.hC (zcC F.hN F.nl));clear hN;rcases hA with⟨a1,a2,rfl,rfl⟩|⟨rfl,c_,rfl,rfl⟩|⟨rfl,c_,rfl,rfl,vu,XH⟩
 ·rcases hC with⟨c1,rfl,rfl,rfl⟩|⟨rfl,_⟩
  ·(repeat'((conv=>whnf);first|refine⟨_,lD,?_⟩|refine⟨_,⟨d,a,rfl,rfl⟩,?_⟩|refine⟨_,F.cp,?_⟩|refine⟨_,F.cd,?_⟩|refine⟨_,F.cs,?_⟩|refine⟨_,F.cn,?_⟩|refine⟨_,F.ra,?_⟩|refine⟨_,F.da,?_⟩|refine⟨_,F.ns,?_⟩|refine⟨_,F.ae,?_⟩|refine⟨_,F.aa,?_⟩|refine⟨_,F.er,?_⟩|refine⟨_,⟨NS,zA,rfl,⟨F.nl,zbV _⟩,rfl⟩,?_⟩|refine aw (λh=>h rfl) ?_|refine au rfl ?_|refine aN ?_|refine au ab ?_|refine aw ab ?_|refine ez λ_=>?_|refine bT ?_|fail))<;>try(conv=>whnf)
   exact aI
  ·exact absurd rfl a2
 ·rcases hC with⟨c1,rfl,rfl,rfl⟩|⟨rfl,rfl,CY,mE,⟨c1,rfl,rfl⟩|⟨c1,c2,rfl,rfl⟩|⟨c1,c2,rfl,rfl⟩⟩
  ·(repeat'((conv=>whnf);first|refine⟨_,lD,?_⟩|refine⟨_,⟨d,a,rfl,rfl⟩,?_⟩|refine⟨_,F.cp,?_⟩|refine⟨_,F.cd,?_⟩|refine⟨_,F.cs,?_⟩|refine⟨_,F.cn,?_⟩|refine⟨_,F.ra,?_⟩|refine⟨_,F.da,?_⟩|refine⟨_,F.ns,?_⟩|refine⟨_,F.ae,?_⟩|refine⟨_,F.aa,?_⟩|refine⟨_,F.er,?_⟩|refine⟨_,⟨NS,zA,rfl,⟨F.nl,zbV _⟩,rfl⟩,?_⟩|refine tW c_ ?_|refine aw (λh=>h rfl) ?_|refine au rfl ?_|refine aN ?_|refine au ab ?_|refine aw ab ?_|refine ez λ_=>?_|refine bT ?_|fail))<;>try(conv=>whnf)
   exact aI
  ·(repeat'((conv=>whnf);first|refine⟨_,lD,?_⟩|refine⟨_,⟨d,a,rfl,rfl⟩,?_⟩|refine⟨_,F.cp,?_⟩|refine⟨_,F.cd,?_⟩|refine⟨_,F.cs,?_⟩|refine⟨_,F.cn,?_⟩|refine⟨_,F.ra,?_⟩|refine⟨_,F.da,?_⟩|refine⟨_,F.ns,?_⟩|refine⟨_,F.ae,?_⟩|refine⟨_,F.aa,?_⟩|refine⟨_,F.er,?_⟩|refine⟨_,⟨NS,zA,rfl,⟨F.nl,zbV _⟩,rfl⟩,?_⟩|refine tW c_ ?_|refine⟨_,CY,?_⟩|refine aw (λh=>h rfl) ?_|refine au rfl ?_|(refine fe ?_;first|refine aN ?_|refine au ab ?_|refine aw ab ?_|refine ez λ_=>?_|refine bT ?_|refine⟨_,⟨_,_,_,rfl,rfl⟩,?_⟩|fail)))<;>try(conv=>whnf)
   exact aI
  ·(repeat'((conv=>whnf);first|refine⟨_,lD,?_⟩|refine⟨_,⟨d,a,rfl,rfl⟩,?_⟩|refine⟨_,F.cp,?_⟩|refine⟨_,F.cd,?_⟩|refine⟨_,F.cs,?_⟩|refine⟨_,F.cn,?_⟩|refine⟨_,F.ra,?_⟩|refine⟨_,F.da,?_⟩|refine⟨_,F.ns,?_⟩|refine⟨_,F.ae,?_⟩|refine⟨_,F.aa,?_⟩|refine⟨_,F.er,?_⟩|refine⟨_,⟨NS,zA,rfl,⟨F.nl,zbV _⟩,rfl⟩,?_⟩|refine tW c_ ?_|refine⟨_,CY,?_⟩|refine aw (λh=>h rfl) ?_|refine au rfl ?_|(refine fe ?_;first|refine aN ?_|refine au ab ?_|refine aw ab ?_|refine ez λ_=>?_|refine bT ?_|refine⟨_,⟨_,_,_,rfl,rfl⟩,?_⟩|fail)))<;>try(conv=>whnf)
   exact aI
  ·(repeat'((conv=>whnf);first|refine⟨_,lD,?_⟩|refine⟨_,⟨d,a,rfl,rfl⟩,?_⟩|refine⟨_,F.cp,?_⟩|refine⟨_,F.cd,?_⟩|refine⟨_,F.cs,?_⟩|refine⟨_,F.cn,?_⟩|refine⟨_,F.ra,?_⟩|refine⟨_,F.da,?_⟩|refine⟨_,F.ns,?_⟩|refine⟨_,F.ae,?_⟩|refine⟨_,F.aa,?_⟩|refine⟨_,F.er,?_⟩|refine⟨_,⟨NS,zA,rfl,⟨F.nl,zbV _⟩,rfl⟩,?_⟩|refine tW c_ ?_|refine⟨_,CY,?_⟩|refine aw (λh=>h rfl) ?_|refine au rfl ?_|(refine fe ?_;first|refine bj ab ?_|refine aN ?_|refine au ab ?_|refine aw ab ?_|refine I8 ?_|refine ez λ_=>?_|refine bT ?_|refine⟨_,⟨_,_,_,rfl,rfl⟩,?_⟩|refine wz ?_|fail)))<;>try(conv=>whnf)
   exact aI
 ·rcases hC with⟨c1,rfl,rfl,rfl⟩|⟨rfl,rfl,CY,mE,⟨c1,rfl,rfl⟩|⟨c1,c2,rfl,rfl⟩|⟨c1,c2,rfl,rfl⟩⟩
  ·(repeat'((conv=>whnf);first|refine⟨_,lD,?_⟩|refine⟨_,⟨d,a,rfl,rfl⟩,?_⟩|refine⟨_,F.cp,?_⟩|refine⟨_,F.cd,?_⟩|refine⟨_,F.cs,?_⟩|refine⟨_,F.cn,?_⟩|refine⟨_,F.ra,?_⟩|refine⟨_,F.da,?_⟩|refine⟨_,F.ns,?_⟩|refine⟨_,F.ae,?_⟩|refine⟨_,F.aa,?_⟩|refine⟨_,F.er,?_⟩|refine⟨_,⟨NS,zA,rfl,⟨F.nl,zbV _⟩,rfl⟩,?_⟩|refine qT c_ ?_|refine⟨_,XH,?_⟩|refine⟨_,⟨.sl DL,.sl DL,rfl,⟨vu,vu⟩,rfl⟩,?_⟩|refine aw (λh=>h rfl) ?_|refine au rfl ?_|refine aN ?_|refine au ab ?_|refine aw ab ?_|refine bT ?_|fail))<;>try(conv=>whnf)
   exact aI
  ·(repeat'((conv=>whnf);first|refine⟨_,lD,?_⟩|refine⟨_,⟨d,a,rfl,rfl⟩,?_⟩|refine⟨_,F.cp,?_⟩|refine⟨_,F.cd,?_⟩|refine⟨_,F.cs,?_⟩|refine⟨_,F.cn,?_⟩|refine⟨_,F.ra,?_⟩|refine⟨_,F.da,?_⟩|refine⟨_,F.ns,?_⟩|refine⟨_,F.ae,?_⟩|refine⟨_,F.aa,?_⟩|refine⟨_,F.er,?_⟩|refine⟨_,⟨NS,zA,rfl,⟨F.nl,zbV _⟩,rfl⟩,?_⟩|refine qT c_ ?_|refine⟨_,XH,?_⟩|refine⟨_,⟨.sl DL,.sl DL,rfl,⟨vu,vu⟩,rfl⟩,?_⟩|refine⟨_,CY,?_⟩|refine aw (λh=>h rfl) ?_|refine au rfl ?_|(refine fe ?_;first|refine aN ?_|refine au ab ?_|refine aw ab ?_|refine bT ?_|refine⟨_,⟨_,_,_,rfl,rfl⟩,?_⟩|fail)))<;>try(conv=>whnf)
   exact aI
  ·(repeat'((conv=>whnf);first|refine⟨_,lD,?_⟩|refine⟨_,⟨d,a,rfl,rfl⟩,?_⟩|refine⟨_,F.cp,?_⟩|refine⟨_,F.cd,?_⟩|refine⟨_,F.cs,?_⟩|refine⟨_,F.cn,?_⟩|refine⟨_,F.ra,?_⟩|refine⟨_,F.da,?_⟩|refine⟨_,F.ns,?_⟩|refine⟨_,F.ae,?_⟩|refine⟨_,F.aa,?_⟩|refine⟨_,F.er,?_⟩|refine⟨_,⟨NS,zA,rfl,⟨F.nl,zbV _⟩,rfl⟩,?_⟩|refine qT c_ ?_|refine⟨_,XH,?_⟩|refine⟨_,⟨.sl DL,.sl DL,rfl,⟨vu,vu⟩,rfl⟩,?_⟩|refine⟨_,CY,?_⟩|refine aw (λh=>h rfl) ?_|refine au rfl ?_|(refine fe ?_;first|refine aN ?_|refine au ab ?_|refine aw ab ?_|refine bT ?_|refine⟨_,⟨_,_,_,rfl,rfl⟩,?_⟩|fail)))<;>try(conv=>whnf)
   exact aI
  ·(repeat'((conv=>whnf);first|refine⟨_,lD,?_⟩|refine⟨_,⟨d,a,rfl,rfl⟩,?_⟩|refine⟨_,F.cp,?_⟩|refine⟨_,F.cd,?_⟩|refine⟨_,F.cs,?_⟩|refine⟨_,F.cn,?_⟩|refine⟨_,F.ra,?_⟩|refine⟨_,F.da,?_⟩|refine⟨_,F.ns,?_⟩|refine⟨_,F.ae,?_⟩|refine⟨_,F.aa,?_⟩|refine⟨_,F.er,?_⟩|refine⟨_,⟨NS,zA,rfl,⟨F.nl,zbV _⟩,rfl⟩,?_⟩|refine qT c_ ?_|refine⟨_,XH,?_⟩|refine⟨_,⟨.sl DL,.sl DL,rfl,⟨vu,vu⟩,rfl⟩,?_⟩|refine⟨_,CY,?_⟩|refine aw (λh=>h rfl) ?_|refine au rfl ?_|(refine fe ?_;first|refine bj ab ?_|refine aN ?_|refine au ab ?_|refine aw ab ?_|refine I8 ?_|refine bT ?_|refine⟨_,⟨_,_,_,rfl,rfl⟩,?_⟩|refine wz ?_|fail)))<;>try(conv=>whnf)
   exact aI
def XT:MT (ay [(10,ah CM),(11,bF sJ),(13,c8 false dK),(42,ah dm),(43,ah aW),(29,c8 true fi),(44,c8 true oN),(45,c8 true Ca),(46,c8 false gV),(47,ah nC),(14,ah aW),(48,ah dm),(17,bF Av),(49,bF jW),(50,c8 true AT),(23,ah dj),(15,bF bG)]) jI (ah Oo):=by
 rintro args K ⟨_,⟨d,a,p,n,dat,t,h0,rfl⟩,hK⟩;by_cases SE:wV d a
 ·obtain⟨NS,C,CE,RN,DL,RL,OE,AE,DE,RE,NO,NA,NE,F⟩:=atY (p:=p) (n:=n) SE;rcases F.hN with h|h|h
  ·exact Wd args K ⟨_,⟨d,a,p,n,dat,t,NS,C,CE,RN,DL,RL,OE,AE,DE,RE,NO,NA,NE,h0,⟨F,SE,h⟩,rfl⟩,hK⟩
  ·exact V1 args K ⟨_,⟨d,a,p,n,dat,t,NS,C,CE,RN,DL,RL,OE,AE,DE,RE,NO,NA,NE,h0,⟨F,SE,h⟩,rfl⟩,hK⟩
  ·exact WE args K ⟨_,⟨d,a,p,n,dat,t,NS,C,CE,RN,DL,RL,OE,AE,DE,RE,NO,NA,NE,h0,⟨F,SE,h⟩,rfl⟩,hK⟩
 ·subst h0;have lD:CM [] (pB true):=⟨rfl,rfl⟩
  (repeat'((conv=>whnf);first|refine⟨_,lD,?_⟩|refine⟨_,⟨d,a,rfl,rfl⟩,?_⟩|refine aN ?_|refine bP ?_|refine aw ab ?_|fail))<;>try(conv=>whnf)
  exact aI
def aql:∀xs,xS [vt,wk,Bl] xs->(ah Oo).run xs λr=>r=.pv (.bool true):=λxs h=>by
 obtain⟨d,a,p,n,dat,t,rfl⟩:=LZ h;exact⟨_,⟨d,a,p,n,.str dat,t,rfl,rfl⟩,rfl⟩
def HF:=af9.snd (by exact⟨bp,nX,sg,trivial⟩) agw
def sf:=Kp.snd (by exact⟨cY,trivial⟩) Q4
def CP:=Wu.snd (by exact⟨dO,bL,bY,jb,dw,trivial⟩) afQ
def vO:=MM.snd (by exact⟨eY,dN,bo,mq,sf,gZ,rr,CP,my,rC,bU,jy,ff,nN,HF,cS,bw,trivial⟩) XT
end Go.Dv.Try
