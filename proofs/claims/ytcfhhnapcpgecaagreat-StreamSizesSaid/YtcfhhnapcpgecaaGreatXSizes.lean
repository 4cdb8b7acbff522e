/- Own work: parts of the proof, shortened and laid together by a tool of our own. -/
import Derived.Test.YtcfhhnapcpgecaaGreatP6
import Derived.Test.YtcfhhnapcpgecaaGreatProg
import Derived.KernelRfl
set_option linter.defProp false
set_option linter.unusedSimpArgs false
set_option linter.unusedVariables false
namespace Go.Dv
open Go
def ax2{k:IntKind}{y:PV}(h:ou [.int k] [y]):∃n:Int,y=.int k n/\(Lit.int k n).wf=true:=by
 simp only[ou,O1]at h;obtain⟨_,_,e,⟨l,rfl,hl⟩,rfl⟩:=h;injection e with e _
 subst e;exact⟨l,rfl,hl⟩
end Go.Dv
namespace Go.Dv.Try
open Go Go.Dv Go.Dv.Sh Go.Proofs.Tryz
def aJe:PC:=E [m 57 12,B 58 .neq 57 0,m 59 58,Q 59 (L 60 2 3),Q 59 (L 61 2 10),Q 59 (L 62 11 4),Q 59 (L 63 11 11),Q 59 (o 64 (.build [.str [],I 0,.bool false] [⟨2,⟨1,.const (.bool true)⟩⟩])),Q 59 (c 65 25 [t 60,t 61,t 62,t 63,t 64]),Q 59 (u 66 65),V 67 59 66,m 68 67,Q 68 (L 69 2 10),Q 68 (c 70 37 [t 69]),Q 68 (L 71 2 3),Q 68 (c 72 37 [t 71]),Q 68 (L 73 11 4),Q 68 (c 74 38 [t 73]),Q 68 (N 75 74),Q 68 (b 76 .add 72 75),Q 68 (b 77 .neq 70 76),V 78 68 77] [[],[0],[1],[2],[2],[2],[2],[2],[3,4,5,6,7,2,2],[8,2],[2,9],[10,8],[11],[12,11,11],[11],[14,13,11],[11],[16,15,11],[17,11],[15,18,11],[13,19,11],[11,20]]
def aJl:PC:=D [m 97 14,u 98 97,m 99 98,q 99 (L 100 2 7),q 99 (L 101 11 8),q 99 (m 102 9),q 99 (m 103 9),q 99 (c 104 16 [t 100,t 101,t 102,t 103]),P 105 99 104,m 106 105,q 106 (L 107 2 3),q 106 (L 108 11 4),q 106 (m 109 9),q 106 (L 110 11 4),q 106 (m 111 2),q 106 (m 112 15),q 106 (c 113 21 [t 110,t 111,t 112]),q 106 (c 114 20 [t 107,t 108,t 109,t 113]),P 115 106 114,m 6 115] [[],[0],[1],[2],[2],[2],[2],[3,4,5,6,2,2],[2,7],[8,7],[9],[9],[9],[9],[9],[9],[13,14,15,9,9],[10,11,12,16,16,9],[9,17],[18,17,0,1,2,3,4,5,6,7,8,9,10,11,12,13,14,15,16,17,18]]
def zL:FC:=⟨[0,1,2,3,4,6,7,8,9,10,11,12,13,14,15,16],[⟨6,none⟩],R [U 3 23 0,U 4 26 1,o 6 (.mv F)] (g (R [c 17 10 [],u 18 17] (C 18 (R [o 6 (.mv F)] j) w)) (g (R [L 19 2 3,L 20 11 4,c 21 11 [t 19,t 20],u 22 21] (C 22 (R [o 6 (.mv T)] j) w)) (g (E [L 24 2 3,L 25 11 4,c 26 13 [t 25],m 27 2,c 28 30 [t 24,t 26,t 27],m 23 28,e 29 23 0,e 30 23 1,e 31 23 2,o 7 (.alloc 23 (.agg [.str [],.str []])),o 8 (.alloc 26 (.agg [I 0,.str [],I 0,I 0,.bool false,.str [],I 0,.nil 2,I 0,I 0,I 0])),s 2 7 29,s 11 8 30,m 9 31] [[],[],[1],[],[0,2,3,2],[4],[5],[5],[5],[],[],[9,6,4,0,1,2,3,4,5,6,9,10],[10,7,11,0,1,2,3,4,5,6,7,9,10,11],[8,12,0,1,2,3,4,5,6,7,8,9,10,11,12]]) (g (E [L 33 2 3,L 34 11 4,c 35 13 [t 34],c 36 36 [t 33,t 35],m 32 36,e 37 32 0,e 38 32 1,e 39 32 2,o 10 (.alloc 23 (.agg [.str [],.str []])),o 11 (.alloc 26 (.agg [I 0,.str [],I 0,I 0,.bool false,.str [],I 0,.nil 2,I 0,I 0,I 0])),s 2 10 37,s 11 11 38,m 12 39] [[],[],[1],[0,2,2],[3],[4],[4],[4],[],[],[8,5,3,0,1,2,3,4,5,8,9],[9,6,10,0,1,2,3,4,5,6,8,9,10],[7,11,0,1,2,3,4,5,6,7,8,9,10,11]]) (R [L 40 2 3,L 41 11 4,c 42 14 [t 40,t 41],m 13 42] (g (R [m 43 13,B 44 .neq 43 0] (C 44 (R [L 45 2 7,L 46 11 8,m 47 9,m 48 13,c 49 16 [t 45,t 46,t 47,t 48],m 50 49,q 50 (L 51 2 10),q 50 (L 52 11 11),q 50 (m 53 12),q 50 (m 54 13),q 50 (c 55 16 [t 51,t 52,t 53,t 54]),P 56 50 55,m 6 56] j) w)) (g (g aJe (C 78 (R [o 6 (.mv F)] j) w)) (g (R [m 79 2,c 80 15 [t 79,k 0,k 32768],u 81 80] (C 81 (R [L 82 2 7,L 83 11 8,m 84 9,c 85 16 [t 82,t 83,t 84,k 2],m 6 85] j) w)) (R [f 86 4 4,l 87 86,m 88 87,q 88 (m 89 2),q 88 (B 90 .leq 89 200),P 91 88 90,m 14 91] (R [L 92 11 4,m 93 2,c 94 19 [t 92,t 93,k 0,k 0],m 15 94] (g (R [m 95 9,B 96 .neq 95 0] (C 96 (g aJl j) w)) (g (E [L 116 2 3,L 117 11 4,c 118 23 [t 116,t 117],m 119 2,c 120 39 [t 118,t 119],L 121 11 4,c 122 24 [t 121],m 123 2,o 124 (.mm false (t 122) (t 123)),m 125 14,o 126 (.build [.str [],I 0,.bool false] [⟨0,⟨1,t 120⟩⟩,⟨1,⟨1,t 124⟩⟩,⟨2,⟨1,t 125⟩⟩]),o 16 (.alloc 48 (.agg [.str [],I 0,.bool false])),s 3 16 126] [[],[],[0,1],[],[2,3,2],[],[5,4],[],[6,7],[],[4,8,9],[],[11,10,6,0,1,2,3,4,5,6,7,8,9,10,11]]) (g (R [L 127 2 3,L 128 2 7,L 129 11 4,L 130 11 8,L 131 3 16,c 132 25 [t 127,t 128,t 129,t 130,t 131],u 133 132] (C 133 (R [o 6 (.mv F)] j) w)) (R [m 134 14,m 135 134,Q 135 (L 136 11 4),Q 135 (c 137 26 [t 136,k 2]),Q 135 (u 138 137),V 139 135 138,m 140 139,Q 140 (L 141 11 8),Q 140 (m 142 15),Q 140 (c 143 27 [t 141,t 142]),V 144 140 143,m 6 144] j))))))))))))))⟩
def M8:CO 6 zL 3:=bk f6 ak
def aFk:PC:=G [2,4,5,7,9,28,29,30] (R [b 31 .lss 30 29] (g (C 31 w (h 0)) (g (H 1 (R [i 32 1 28 30,l 33 32,m 11 33] (R [m 34 11,c 35 86 [t 34],u 36 35] (C 36 (r [m 37 9,m 38 11,i 39 1 37 38,O (.store 1 (t 39) F)]) w)))) (r [B 40 .add 30 1,m 30 40]))))
def JZ:FC:=⟨[0,1,2,3,4,5,6,7,8,9,11,28,29,30],[⟨4,some (⟨true,2⟩)⟩,⟨5,some (⟨true,11⟩)⟩,⟨6,none⟩],R [U 2 23 0,U 3 26 1,o 4 (.alloc 23 (.agg [.str [],.str []])),o 5 (.alloc 26 (.agg [I 0,.str [],I 0,I 0,.bool false,.str [],I 0,.nil 2,I 0,I 0,I 0])),M 6 0] (R [L 13 2 2,L 14 11 3,c 15 57 [t 13,t 14],m 12 15,e 16 12 0,e 17 12 1,m 7 16,m 8 17] (g (R [m 18 8,B 19 .neq 18 0] (C 19 (R [o 20 (.build [.str [],.str []] []),o 21 (.build [I 0,.str [],I 0,I 0,.bool false,.str [],I 0,.nil 2,I 0,I 0,I 0] []),m 22 8,s 2 4 20,s 11 5 21,m 6 22] j) w)) (R [L 23 2 2,c 24 85 [t 23],m 9 24] (g (R [m 25 7,o 26 (.nilck (t 25)),f 27 13 26,l 28 27,n 29 28,M 30 0] (H 0 aFk)) (g (D [f 41 0 2,l 42 41,m 43 9,c 44 87 [t 43],o 45 (.build [.str [],.str []] [⟨0,⟨1,t 42⟩⟩,⟨1,⟨1,t 44⟩⟩]),m 46 7,c 47 88 [t 46,.const (.string (ByteArray.mk (Array.mk [])))],s 2 4 45,s 11 5 47,M 6 0] [[],[0],[],[2],[1,3],[],[5,3],[4,6,0,1,2,3,4],[6,7,0,1,2,3,4,5,6,7],[8,0,1,2,3,4,5,6,7,8]]) j)))))⟩
def ZA:CO 36 JZ 2:=bk f36 ak
end Go.Dv.Try
namespace Go.Dv.Try
open Go Go.Dv
def gP(d:Dk)(pl:List Int)(c:Nat):Bool:=df d c&&!decide ((c:Int)∈pl)
noncomputable def Bx(d:Dk)(a:At):Int:=aK d a
noncomputable def dx(d:Dk)(a:At):Dk:=open Classical in if aK d a≠0 then zD else⟨d.a_,mG (cQ (gP d (az a.rn.l)) d.n)⟩
noncomputable def l6(d:Dk)(a:At):At:=open Classical in if aK d a≠0 then zA else Hx a []
def WZ(ps:List PV)(r:RV):Prop:=∃(d:Dk) (a:At),ps=[d.pv,a.pv]/\(wU d/\a.nm.length<=1000000)/\
 r=.tup [.pv (dx d a).pv,.pv (l6 d a).pv,.pv (pI (Bx d a))]
def ajp:MT (ay [(57,xt),(85,c8 true xj),(86,bF GM),(87,ah Mn),(88,ah Fj)]) JZ (c8 false WZ):=by
 rintro _ K ⟨_,⟨d,a,rfl,⟨h1,h2⟩,rfl⟩,hK⟩;refine⟨d,a,rfl,⟨pR h1,h2⟩,λh=>?_,λh v hv=>?_⟩
 ·have sM:=(bc h).1;have hb:=X6 (sM.st h1 h2);have hb:∀x∈az a.rn.l,-1<=x/\x<d.n:=hb;have Ee:=sM.len;have kr:=sM.nb;unfold Bx dx l6 at hK;have x3:¬aK d a≠0:=λe=>e h
  rw[if_neg x3,if_neg x3,h]at hK;have ab6:xj [d.pv] (.fresh 4 1 ((cQ (df d) d.n).map pB)):=⟨d,rfl,⟨by have:=h1.1;omega,h1.2,sM.bm⟩,by rw[<-W_]⟩
  (repeat'((conv=>whnf);first|refine⟨_,ab6,?_⟩|refine aw ab ?_|refine ez λ_=>?_|fail))<;>try(conv=>whnf)
  have qG:(ar d a).pl=az a.rn.l:=rfl;generalize AU:az a.rn.l=PL at*;have pe:gP d PL=λc=>df d c&&!decide ((c:Int)∈PL.take PL.length):=by rw[List.take_length];rfl
  rw[pe]at hK;refine⟨λm env σ=>∃n:Nat,n+m=PL.length/\σ=[.box 23 [.pv (.str d.a_),.pv (.str d.mp)],.box 23 [.pv (.str []),.pv (.str [])],.box 26 [.pv (pI 0),.pv (.str []),.pv (pI 0),.pv (pI 0),.pv (pB false),.pv (.str []),.pv (pI 0),.pv (.nil 2),.pv (pI 0),.pv (pI 0),.pv (pI 0)],rk (λc=>df d c&&!decide ((c:Int)∈PL.take n)) d.n]/\
   env=[(2,.ref 0 0 0),(4,.ref 1 0 0),(5,.ref 2 0 0),(7,.pv (sP (ar d a))),(9,.own 3),(28,.pv (rI PL)),eN 29 PL.length,eN 30 n],PL.length,⟨0,ab,?_,?_⟩,?_⟩
  ·simp only[rk];rw[show cQ (λc=>df d c&&!decide ((c:Int)∈PL.take 0)) d.n=cQ (df d) d.n from kT λc _=>aj]
  ·rw[qG];rfl
  rintro m env σ ⟨n,hn,rfl,rfl⟩;by_cases aU:n<PL.length
  ·obtain⟨x,hx⟩:∃x,PL[n]?=some x:=⟨_,List.getElem?_eq_getElem aU⟩
   have hxb:=hb x (List.mem_of_getElem? hx);have kv:∀y,y∈PL.take (n+1)↔y∈PL.take n\/y=x:=λy=>by rw[List.take_add_one,hx];simp
   clear hK;by_cases h0:x= -1
   ·subst h0;have hT:cQ (λc=>df d c&&!decide ((c:Int)∈PL.take (n+1))) d.n=cQ (λc=>df d c&&!decide ((c:Int)∈PL.take n)) d.n:=kT λc _=>by
     have:((c:Int)∈PL.take (n+1))↔((c:Int)∈PL.take n):=⟨λh=>((kv _).1 h).elim id (λh=>ab),λh=>(kv _).2 (.inl h)⟩
     simp only[this]
    (repeat'(refine iM ?_;first|refine bj ab ?_|refine aN ?_|refine au ab ?_|refine iY aA ?_|refine⟨_,⟨_,rfl,rfl⟩,?_⟩|fail))<;>try(conv=>whnf)
    exact⟨m-1,ab,n+1,ab,by simp only[rk];rw[hT],rfl⟩
   ·have hT:((cQ (λc=>df d c&&!decide ((c:Int)∈PL.take n)) d.n).map pB).set x.toNat (pB false)=(cQ (λc=>df d c&&!decide ((c:Int)∈PL.take (n+1))) d.n).map pB:=by
     rw[<-List.map_set,oq];congr 1;refine kT λc hc=>?_
     by_cases h:c=x.toNat
     ·have:(c:Int)=x:=by omega
      rw[if_pos h,this];simp[kv]
     ·rw[if_neg h];have:((c:Int)∈PL.take (n+1))↔((c:Int)∈PL.take n):=⟨λh=>((kv _).1 h).elim id (λh=>ab),λh=>(kv _).2 (.inl h)⟩
      simp only[this]
    (repeat'(refine iM ?_;first|refine bj ab ?_|refine bP ?_|refine au ab ?_|refine aw ab ?_|refine iY aA ?_|refine Vx ab ?_|refine Ug ab ?_|refine bT ?_|refine⟨_,⟨_,rfl,rfl⟩,?_⟩|fail))<;>try(conv=>whnf)
    exact⟨m-1,ab,n+1,ab,by simp only[rk];rw[<-hT],rfl⟩
  ·have hn:n=PL.length:=by omega
   subst hn;have aLw:Fj [sP (ar d a),.str []] (Hx a []).pv:=⟨ar d a,[],rfl,rfl⟩
   (repeat'((conv=>whnf);first|refine oQ ?_|refine⟨_,⟨cQ (λc=>df d c&&!decide ((c:Int)∈PL.take PL.length)) d.n,rfl,kD,rfl⟩,?_⟩|refine⟨_,aLw,?_⟩|refine aw ab ?_|fail))<;>try(conv=>whnf)
   exact⟨[.pv (.agg [_,_]),.pv (Hx a []).pv,.pv (pI _)],⟨rfl,rfl,rfl,trivial⟩,trivial,hK⟩
 ·have he:aK d a≠0:=h;unfold Bx dx l6 at hK;rw[if_pos h,if_pos h]at hK;rcases hv with rfl|rfl
  all_goals
   (repeat'((conv=>whnf);first|refine au h ?_|refine bT ?_|fail))<;>try(conv=>whnf)
   exact iN
structure FrL(d:Dk)(a:At):Prop where
 e:Bx d a=0
 snd:rL d (dx d a) a (l6 d a) [] 0 true
 fre:(dx d a).n=d.n/\oF (dx d a).mp d.n+bt (az a.rn.l)=oF d.mp d.n
def aBU{d:Dk}{a:At}(h0:aK d a=0)(hd:wU d)(hn:a.nm.length<=1000000):FrL d a:=by
 obtain⟨ok,oo⟩:=bc h0;have st:=ok.st hd hn;have Es:yw (az a.rn.l):=u0 ok.rn;have hb:=X6 st;have rK:=st.n;have Cy:(ar d a).pl=az a.rn.l:=rfl;have WW:(ar d a).d=d:=rfl;rw[Cy]at hb;rw[WW]at hb rK;obtain⟨d1,d2,d3⟩:=rX ok.dk;have x3:¬aK d a≠0:=λe=>e h0
 have Vv:=DF (l:=cQ (gP d (az a.rn.l)) d.n) kD;rw[ck]at Vv;have hD:dx d a=⟨d.a_,mG (cQ (gP d (az a.rn.l)) d.n)⟩:=by unfold dx;rw[if_neg x3]
 have hA:l6 d a=Hx a []:=by unfold l6;rw[if_neg x3]
 have lO:gm (dx d a)=0:=by
  rw[hD];have e:(⟨d.a_,mG (cQ (gP d (az a.rn.l)) d.n)⟩:Dk).n=d.n:=rfl;unfold gm;rw[e];show(if d.a_.length%256≠0 then(10:Int)else if 512<d.n then 2 else nu (mG (cQ (gP d (az a.rn.l)) d.n)) d.n)=0;rw[Vv.1,if_neg ab,if_neg ab]
 have pD:∀c,c<d.n->bH (dx d a).mp c=mS (gP d (az a.rn.l) c):=λc hc=>by
  rw[hD];show bH (mG _) c=_;rw[Vv.2,if_pos hc,bO hc,Option.getD_some]
 refine⟨h0,⟨by rw[hA];exact aiu h0 lO (.inl aj),⟨⟨by rw[hD],lO⟩,λc hc=>?_⟩,EX,EX,(by rw[hA];intro h;cases h),EX,EX,EX,EX⟩,by rw[hD];rfl,?_⟩
 ·have e:tV (az (l6 d a).rn.l)=[]:=by rw[hA];rfl
  rw[e];unfold E0;have hf:gP d (az a.rn.l) c=true↔bH d.mp c=1/\(c:Int)∉az a.rn.l:=by
   unfold gP df;simp
  have Gn:=mK d.mp c;refine⟨λ⟨g1,_⟩=>⟨?_,by rw[hD]⟩,λ⟨g1,_⟩=>?_,λh=>absurd h aj,λh=>absurd h.1 aj⟩
  ·rw[pD c hc];rw[Dl]at g1;cases h:gP d (az a.rn.l) c with
   |true=>rw[(hf.1 h).1];rfl
   |false=>
    have:¬bH d.mp c=1:=λg=>by rw[hf.2 ⟨g,g1⟩]at h;cases h
    have h5:mS false=0:=rfl;omega
  ·rw[pD c hc];rw[Dl]at g1;cases h:gP d (az a.rn.l) c with
   |true=>exact absurd g1 (hf.1 h).2
   |false=>rfl
 ·have h1:=Mt (n:=d.n) Es λx hx=>by have:=hb x hx;omega
  have h2:=Ed (p:=gP d (az a.rn.l)) (q:=λc=>decide ((c:Int)∈az a.rn.l)) (n:=d.n) λc _=>by
   unfold gP;simp only[Bool.and_eq_true,Bool.not_eq_true',decide_eq_false_iff_not,decide_eq_true_eq];exact λg=>g.1.2 g.2
  have h3:gy (df d) d.n=gy (λc=>gP d (az a.rn.l) c||decide ((c:Int)∈az a.rn.l)) d.n:=jq λc _=>by
   unfold gP;by_cases g:(c:Int)∈az a.rn.l
   ·have:=QX h0 g;have hb:df d c=true:=by unfold df;rw[this];rfl
    simp[g,hb]
   ·simp[g]
  have h4:oF (dx d a).mp d.n=gy (gP d (az a.rn.l)) d.n:=by
   rw[vp];refine jq λc hc=>?_
   rw[pD c hc];cases gP d (az a.rn.l) c<;>simp[mS]
  have h5:gy (df d) d.n=oF d.mp d.n:=(vp d.mp d.n).symm;omega
def aw7{xs:List PV}(h:xS [vt,wk,(false,[.int .i64])] xs):∃(d:Dk) (a:At) (n:Int),xs=[d.pv,a.pv,pI n]:=by
 simp only[xS]at h;obtain⟨y,_,rfl,h1,_,z,_,rfl,h2,_,u,_,rfl,_,h3,rfl⟩:=h;obtain⟨d,rfl⟩:=atp (h1 trivial);obtain⟨a,rfl⟩:=auD (h2 trivial);obtain⟨n,rfl,_⟩:=ax2 (h3 trivial);exact⟨d,a,n,rfl⟩
structure SzW(d:Dk)(a:At)(n:Int)(D:Dk)(A:At)(E:Int):Prop where
 ok:E=0->rL d D a A (M9 (aV (ar d a)) n.toNat) (min (cG a) n) (decide (a.rs=true/\n<=200))/\
  (¬(a.rs=true/\n<=200)->a.fl/2%2=1->(az A.rn.l).map (λx=>decide (x≠ -1))=nJ a 0 0 n)
 er:E≠0→¬(a.rs=true/\n<=200)/\D=zD/\A=zA/\Ny d a E (Ns a n (nJ a 0 0 n))
def as_{d:Dk}{a:At}{n:Int}(h0:aK d a=0)(hd:wU d)(hn:a.nm.length<=1000000)(hp:0<=n/\n<=32768):SzW d a n (Jf d (aB a) n) (LA d (aB a) n) (Jb d (aB a) n):=by
 have hw:=af3 (d:=d) (a:=aB a) (n:=n) xJ hd hn hp;refine⟨λhe=>?_,λhe=>?_⟩
 ·have:=hw.ok he;rw[Hm,P9]at this;exact this
 ·exact hw.er he
def asU{d:Dk}{a:At}(h0:aK d a=0)(hd:wU d)(hn:a.nm.length<=1000000):Bx d (aB a)=0/\rL d (dx d (aB a)) a (l6 d (aB a)) [] 0 true/\(dx d (aB a)).n=d.n/\oF (dx d (aB a)).mp d.n+bt (az a.rn.l)=oF d.mp d.n:=by
 have hw:=aBU (d:=d) (a:=aB a) xJ hd hn;exact⟨hw.e,(P9 _ _ _ _ _ _ _).1 hw.snd,hw.fre⟩
def Pd(ps:List PV)(x:PV):Prop:=∃(d:Dk) (a:At) (n:Int),ps=[d.pv,a.pv,pI n]/\x=pB true
set_option maxHeartbeats 8000000 in
def Zi:MT (ay [(10,ah CM),(11,bF sJ),(13,c8 false dK),(30,c8 false ko),(36,c8 false WZ),(14,ah aW),(15,bF bG),(16,bF Fv),(25,bF EC),(37,ah DO),(38,c8 false QH),(19,c8 true Jw),(21,ah lY),(20,bF JD),(23,ah dj),(39,ah AI),(24,ah tG),(26,bF uJ),(27,bF AA)]) zL (ah Pd):=by
 rintro _ K ⟨_,⟨d,a,n,rfl,rfl⟩,hK⟩;have lD:CM [] (pB true):=⟨rfl,rfl⟩
 by_cases SE:wV d a
 case neg=>
  (repeat'((conv=>whnf);first|refine⟨_,lD,?_⟩|refine⟨_,⟨d,a,rfl,rfl⟩,?_⟩|refine aN ?_|refine bP ?_|refine aw ab ?_|fail))<;>try(conv=>whnf)
  exact aI
 obtain⟨m1,m2,m3,m4,m5⟩:=id SE;have hd:wU d:=⟨ab,ab⟩
 have PI:=pR hd;have hn:a.nm.length<=1000000:=ab;have Aw:dK [a.pv] (.pv (aB a).pv):=⟨a,rfl,ab,rfl⟩
 have QL:ko [d.pv,(aB a).pv,pI n] (.tup [.pv (Jf d (aB a) n).pv,.pv (LA d (aB a) n).pv,.pv (pI (Jb d (aB a) n))]):=⟨d,aB a,n,rfl,⟨hd,hn⟩,rfl⟩
 have pe:WZ [d.pv,(aB a).pv] (.tup [.pv (dx d (aB a)).pv,.pv (l6 d (aB a)).pv,.pv (pI (Bx d (aB a)))]):=⟨d,aB a,rfl,⟨hd,hn⟩,rfl⟩
 have vv:aW [d.pv,a.pv] (pI (aK d a)):=⟨d,a,rfl,⟨PI,hn⟩,rfl⟩
 by_cases h0:aK d a=0
 case neg=>
  have na:aK d (aB a)≠0:=xJ;have e0:D8 d (aB a) n=aK d a:=by unfold D8;rw[kU,if_pos h0]
  have e1:Jb d (aB a) n=aK d a:=by unfold Jb;rw[e0,if_pos h0]
  have e2:Jf d (aB a) n=zD:=by unfold Jf;rw[e0,if_pos h0]
  have e3:LA d (aB a) n=zA:=by unfold LA;rw[e0,if_pos h0]
  have f1:Bx d (aB a)=aK d a:=kU d a;have f2:dx d (aB a)=zD:=by unfold dx;rw[if_pos na]
  have f3:l6 d (aB a)=zA:=by unfold l6;rw[if_pos na]
  rw[e1,e2,e3]at QL;rw[f1,f2,f3]at pe;have hf:=lC (aK d a);generalize aK d a=E at*
  (repeat'((conv=>whnf);first|refine⟨_,lD,?_⟩|refine⟨_,⟨d,a,rfl,rfl⟩,?_⟩|refine⟨_,Aw,?_⟩|refine⟨_,QL,?_⟩|refine⟨_,pe,?_⟩|refine⟨_,vv,?_⟩|refine⟨_,⟨zD,zA,E,E,rfl,ao,rfl⟩,?_⟩|refine aN ?_|refine au ab ?_|refine bT ?_|fail))<;>try(conv=>whnf)
  exact aI
 obtain⟨f1,f2,f3,f4⟩:=asU h0 hd hn;rw[f1]at pe;rw[h0]at vv;have LV:soS d a:=⟨hd,hn,h0⟩
 have ok:=(bc h0).1;obtain⟨q1,q2,q3,q4,q5⟩:=xT f2 hd;have akG:(l6 d (aB a)).nm.length<=1000000:=by rw[f2.nm];exact hn
 obtain⟨_,_,b3,_⟩:=iR ok.bm;obtain⟨_,_,b4,_⟩:=iR (bc f2.op).1.bm;have kr:=ok.nb;have cM:=Bj d.mp d.n;have qG:=ok.len;have Vr:bt (az a.rn.l)<=(az a.rn.l).length:=List.length_filter_le _ _;have xq:DO [d.pv] (pI ((d.n:Int)-oF d.mp d.n)):=⟨d,rfl,⟨PI,ab⟩,rfl⟩
 have AY:DO [(dx d (aB a)).pv] (pI ((d.n:Int)-oF (dx d (aB a)).mp d.n)):=⟨_,rfl,⟨q1,ab⟩,by rw[f3]⟩
 have uR:QH [a.pv] (.pv (rI (tV (az a.rn.l)))):=⟨a,rfl,ok.rn,rfl⟩
 have sS:=Lc (az a.rn.l);have gJ:((tV (az a.rn.l)).map pI).length=(tV (az a.rn.l)).length:=List.length_map _;generalize dx d (aB a)=D2 at*;generalize l6 d (aB a)=A2 at*;have KS:∀e:Int,e≠0->D8 d (aB a) n=e->Jb d (aB a) n=e/\Jf d (aB a) n=zD/\LA d (aB a) n=zA:=λe he h=>by
  refine⟨by unfold Jb;rw[h,if_pos he],by unfold Jf;rw[h,if_pos he],by unfold LA;rw[h,if_pos he]⟩
 have Gy:D8 d (aB a) n=if ¬iU n then 2 else 0:=by unfold D8;rw[kU,if_neg (λh=>h h0)]
 have Ax:iU n↔0<=n/\n<=32768:=Iff.rfl;by_cases hp:0<=n/\n<=32768
 case neg=>
  rw[if_pos (λh=>hp (Ax.1 h))]at Gy;obtain⟨e1,e2,e3⟩:=KS 2 ao Gy;rw[e1,e2,e3]at QL;have hf:=lC 2
  (repeat'((conv=>whnf);first|refine⟨_,lD,?_⟩|refine⟨_,⟨d,a,rfl,rfl⟩,?_⟩|refine⟨_,Aw,?_⟩|refine⟨_,QL,?_⟩|refine⟨_,pe,?_⟩|refine⟨_,vv,?_⟩|refine⟨_,⟨d,D2,a,A2,[],0,true,rfl,⟨LV,q1,akG⟩,rfl⟩,?_⟩|refine⟨_,xq,?_⟩|refine⟨_,AY,?_⟩|refine⟨_,uR,?_⟩|refine⟨_,⟨zD,zA,2,2,rfl,ao,rfl⟩,?_⟩|(refine fe ?_;first|refine bj ab ?_|refine aN ?_|refine bP ?_|refine au ab ?_|refine aw ab ?_|refine bT ?_|refine⟨_,⟨_,_,_,rfl,rfl⟩,?_⟩|fail)))<;>try(conv=>whnf)
  exact aI
 have hc:=qo h0;have hW:=as_ h0 hd hn hp;have aHM:=xV hc;have mE:=hc.len;have hvb:=hc.vd;have SL:=ok.fl;have iZ:tG [a.pv] (pI (cG a)):=⟨a,rfl,rfl⟩
 have nK:Jw [a.pv,pI n,pI 0,pI 0] (.fresh 4 1 ((nJ a 0 0 n).map pB)):=⟨a,_,_,_,rfl,⟨ok.rn,ab,ab,ab⟩,rfl⟩
 have bJ:=Jl a 0 0 n;rw[F9]at bJ;have CY:dj [d.pv,a.pv] (.str (aV (ar d a))):=⟨d,a,rfl,⟨PI,h0⟩,rfl⟩
 have ji:AI [.str (aV (ar d a)),pI n] (.str (M9 (aV (ar d a)) n.toNat)):=⟨_,n,rfl,ab,rfl⟩
 generalize Jf d (aB a) n=D at*;generalize LA d (aB a) n=A at*;generalize Jb d (aB a) n=E at*;have hk:lY [a.pv,pI n,wq (nJ a 0 0 n)] _:=⟨a,_,_,rfl,⟨ab,ab,ab⟩,rfl⟩
 obtain⟨hWo,hWe⟩:=hW;generalize nJ a 0 0 n=L at*;generalize M9 (aV (ar d a)) n.toNat=W at*;generalize aV (ar d a)=C at*;by_cases hE:E=0
 case neg=>
  obtain⟨w1,rfl,rfl,w4⟩:=hWe hE;have hf:=lC E;cases c_:a.rs with
  |true=>
   have:¬n<=200:=λh=>w1 ⟨c_,h⟩
   (repeat'((conv=>whnf);first|refine⟨_,lD,?_⟩|refine⟨_,⟨d,a,rfl,rfl⟩,?_⟩|refine⟨_,Aw,?_⟩|refine⟨_,QL,?_⟩|refine⟨_,pe,?_⟩|refine⟨_,vv,?_⟩|refine⟨_,⟨d,D2,a,A2,[],0,true,rfl,⟨LV,q1,akG⟩,rfl⟩,?_⟩|refine⟨_,xq,?_⟩|refine⟨_,AY,?_⟩|refine⟨_,uR,?_⟩|refine tW c_ ?_|refine⟨_,nK,?_⟩|refine⟨_,⟨zD,zA,E,E,rfl,ao,rfl⟩,?_⟩|refine⟨_,hk,?_⟩|refine⟨_,⟨d,a,E,_,rfl,⟨LV,ab⟩,rfl⟩,?_⟩|(refine fe ?_;first|refine bj ab ?_|refine aN ?_|refine bP ?_|refine au ab ?_|refine aw ab ?_|refine bT ?_|refine⟨_,⟨_,_,_,rfl,rfl⟩,?_⟩|fail)))<;>try(conv=>whnf)
   exact aI
  |false=>
   (repeat'((conv=>whnf);first|refine⟨_,lD,?_⟩|refine⟨_,⟨d,a,rfl,rfl⟩,?_⟩|refine⟨_,Aw,?_⟩|refine⟨_,QL,?_⟩|refine⟨_,pe,?_⟩|refine⟨_,vv,?_⟩|refine⟨_,⟨d,D2,a,A2,[],0,true,rfl,⟨LV,q1,akG⟩,rfl⟩,?_⟩|refine⟨_,xq,?_⟩|refine⟨_,AY,?_⟩|refine⟨_,uR,?_⟩|refine qT c_ ?_|refine⟨_,nK,?_⟩|refine⟨_,⟨zD,zA,E,E,rfl,ao,rfl⟩,?_⟩|refine⟨_,hk,?_⟩|refine⟨_,⟨d,a,E,_,rfl,⟨LV,ab⟩,rfl⟩,?_⟩|(refine fe ?_;first|refine bj ab ?_|refine aN ?_|refine bP ?_|refine au ab ?_|refine aw ab ?_|refine bT ?_|refine⟨_,⟨_,_,_,rfl,rfl⟩,?_⟩|fail)))<;>try(conv=>whnf)
   exact aI
 subst hE;obtain⟨w1,w2⟩:=hWo rfl;obtain⟨k1,k2,k3,k4,k5⟩:=xT w1 hd;have kP:A.nm.length<=1000000:=by rw[w1.nm];exact hn
 by_cases zl:a.rs=true/\n<=200
 ·rw[decide_eq_true zl]at w1;obtain⟨c_,CW⟩:=zl
  (repeat'((conv=>whnf);first|refine⟨_,lD,?_⟩|refine⟨_,⟨d,a,rfl,rfl⟩,?_⟩|refine⟨_,Aw,?_⟩|refine⟨_,QL,?_⟩|refine⟨_,pe,?_⟩|refine⟨_,vv,?_⟩|refine⟨_,⟨d,D2,a,A2,[],0,true,rfl,⟨LV,q1,akG⟩,rfl⟩,?_⟩|refine⟨_,xq,?_⟩|refine⟨_,AY,?_⟩|refine⟨_,uR,?_⟩|refine⟨_,nK,?_⟩|refine⟨_,CY,?_⟩|refine⟨_,ji,?_⟩|refine⟨_,iZ,?_⟩|refine tW c_ ?_|refine⟨_,⟨d,D,a,A,W,_,true,rfl,⟨LV,k1,kP⟩,rfl⟩,?_⟩|(refine fe ?_;first|refine bj ab ?_|refine aN ?_|refine au ab ?_|refine aw ab ?_|refine I8 ?_|refine bT ?_|refine⟨_,⟨_,_,_,rfl,rfl⟩,?_⟩|fail)))<;>try(conv=>whnf)
  exact aI
 ·have w3:=w2 zl;rw[decide_eq_false zl]at w1;by_cases lk:a.fl/2%2=1
  ·have w3:=w3 lk;cases c_:a.rs with
   |true=>
    have:¬n<=200:=λh=>zl ⟨c_,h⟩
    (repeat'((conv=>whnf);first|refine⟨_,lD,?_⟩|refine⟨_,⟨d,a,rfl,rfl⟩,?_⟩|refine⟨_,Aw,?_⟩|refine⟨_,QL,?_⟩|refine⟨_,pe,?_⟩|refine⟨_,vv,?_⟩|refine⟨_,⟨d,D2,a,A2,[],0,true,rfl,⟨LV,q1,akG⟩,rfl⟩,?_⟩|refine⟨_,xq,?_⟩|refine⟨_,AY,?_⟩|refine⟨_,uR,?_⟩|refine⟨_,nK,?_⟩|refine⟨_,CY,?_⟩|refine⟨_,ji,?_⟩|refine⟨_,iZ,?_⟩|refine tW c_ ?_|refine⟨_,⟨d,D,a,A,W,_,false,rfl,⟨LV,k1,kP⟩,rfl⟩,?_⟩|refine⟨_,⟨a,2,rfl,⟨ab,.inr (.inl rfl)⟩,rfl⟩,?_⟩|refine⟨_,⟨A,L,rfl,k4,rfl⟩,?_⟩|(refine fe ?_;first|refine bj ab ?_|refine aN ?_|refine au ab ?_|refine aw ab ?_|refine I8 ?_|refine bT ?_|refine⟨_,⟨_,_,_,rfl,rfl⟩,?_⟩|fail)))<;>try(conv=>whnf)
    exact aI
   |false=>
    (repeat'((conv=>whnf);first|refine⟨_,lD,?_⟩|refine⟨_,⟨d,a,rfl,rfl⟩,?_⟩|refine⟨_,Aw,?_⟩|refine⟨_,QL,?_⟩|refine⟨_,pe,?_⟩|refine⟨_,vv,?_⟩|refine⟨_,⟨d,D2,a,A2,[],0,true,rfl,⟨LV,q1,akG⟩,rfl⟩,?_⟩|refine⟨_,xq,?_⟩|refine⟨_,AY,?_⟩|refine⟨_,uR,?_⟩|refine⟨_,nK,?_⟩|refine⟨_,CY,?_⟩|refine⟨_,ji,?_⟩|refine⟨_,iZ,?_⟩|refine qT c_ ?_|refine⟨_,⟨d,D,a,A,W,_,false,rfl,⟨LV,k1,kP⟩,rfl⟩,?_⟩|refine⟨_,⟨a,2,rfl,⟨ab,.inr (.inl rfl)⟩,rfl⟩,?_⟩|refine⟨_,⟨A,L,rfl,k4,rfl⟩,?_⟩|(refine fe ?_;first|refine bj ab ?_|refine aN ?_|refine au ab ?_|refine aw ab ?_|refine I8 ?_|refine bT ?_|refine⟨_,⟨_,_,_,rfl,rfl⟩,?_⟩|fail)))<;>try(conv=>whnf)
    exact aI
  ·cases c_:a.rs with
   |true=>
    have:¬n<=200:=λh=>zl ⟨c_,h⟩
    (repeat'((conv=>whnf);first|refine⟨_,lD,?_⟩|refine⟨_,⟨d,a,rfl,rfl⟩,?_⟩|refine⟨_,Aw,?_⟩|refine⟨_,QL,?_⟩|refine⟨_,pe,?_⟩|refine⟨_,vv,?_⟩|refine⟨_,⟨d,D2,a,A2,[],0,true,rfl,⟨LV,q1,akG⟩,rfl⟩,?_⟩|refine⟨_,xq,?_⟩|refine⟨_,AY,?_⟩|refine⟨_,uR,?_⟩|refine⟨_,nK,?_⟩|refine⟨_,CY,?_⟩|refine⟨_,ji,?_⟩|refine⟨_,iZ,?_⟩|refine tW c_ ?_|refine⟨_,⟨d,D,a,A,W,_,false,rfl,⟨LV,k1,kP⟩,rfl⟩,?_⟩|refine⟨_,⟨a,2,rfl,⟨ab,.inr (.inl rfl)⟩,rfl⟩,?_⟩|(refine fe ?_;first|refine bj ab ?_|refine aN ?_|refine bP ?_|refine au ab ?_|refine aw ab ?_|refine I8 ?_|refine bT ?_|refine⟨_,⟨_,_,_,rfl,rfl⟩,?_⟩|fail)))<;>try(conv=>whnf)
    exact aI
   |false=>
    (repeat'((conv=>whnf);first|refine⟨_,lD,?_⟩|refine⟨_,⟨d,a,rfl,rfl⟩,?_⟩|refine⟨_,Aw,?_⟩|refine⟨_,QL,?_⟩|refine⟨_,pe,?_⟩|refine⟨_,vv,?_⟩|refine⟨_,⟨d,D2,a,A2,[],0,true,rfl,⟨LV,q1,akG⟩,rfl⟩,?_⟩|refine⟨_,xq,?_⟩|refine⟨_,AY,?_⟩|refine⟨_,uR,?_⟩|refine⟨_,nK,?_⟩|refine⟨_,CY,?_⟩|refine⟨_,ji,?_⟩|refine⟨_,iZ,?_⟩|refine qT c_ ?_|refine⟨_,⟨d,D,a,A,W,_,false,rfl,⟨LV,k1,kP⟩,rfl⟩,?_⟩|refine⟨_,⟨a,2,rfl,⟨ab,.inr (.inl rfl)⟩,rfl⟩,?_⟩|(refine fe ?_;first|refine bj ab ?_|refine aN ?_|refine bP ?_|refine au ab ?_|refine aw ab ?_|refine I8 ?_|refine bT ?_|refine⟨_,⟨_,_,_,rfl,rfl⟩,?_⟩|fail)))<;>try(conv=>whnf)
    exact aI
def apW:∀xs,xS [vt,wk,(false,[.int .i64])] xs->(ah Pd).run xs λr=>r=.pv (.bool true):=λxs h=>by
 obtain⟨d,a,n,rfl⟩:=aw7 h;exact⟨_,⟨d,a,n,rfl,rfl⟩,rfl⟩
def F0:=ZA.snd (by exact⟨cY,jn,dw,jt,gM,trivial⟩) ajp
def vQ:=M8.snd (by exact⟨eY,dN,bo,gk,F0,bU,bw,iK,mf,qg,tj,jT,iC,oz,cS,se,l9,eO,iE,trivial⟩) Zi
end Go.Dv.Try
