/- Own work: parts of the proof, shortened and laid together by a tool of our own. -/
import Derived.Test.YtmdfbbcifbgdnaaGreatP4
import Derived.KernelRfl
set_option linter.defProp false
set_option linter.unusedSimpArgs false
set_option linter.unusedVariables false
open List renaming mem_of_getElem?→Iw, length_map→Jb, getElem?_eq_getElem→Ix, map_congr_left→ND
open Option renaming getD_some→Ns
namespace Go.Dv.Try
open Go Go.Dv
def DT{d:Dk}{a:At}{p:Int}{tr:Rn}(he:dJ d a p tr=0):uR d tr∧∀c:Nat,tr.s<=c->(c:Int)<tr.s+tr.n→¬bH d.mp c=1:=by
 have h0:=Zv he;have hm:SJ (ar d a) p tr=0:=by
  unfold dJ at he;rw[if_neg (λh=>h h0)]at he;split at he
  ·rename_i g;exact absurd he g
  ·rename_i g;exact K6
 unfold SJ at hm;split at hm
 ·exact absurd hm ao
 split at hm
 ·exact absurd hm ao
 rename_i di;have di:=Decidable.not_not.1 di;split at hm
 ·exact absurd hm ao
 split at hm
 ·exact absurd hm ao
 split at hm
 ·exact absurd hm ao
 rename_i F6;unfold Pv at di;have hd:(ar d a).d=d:=rfl;rw[hd]at di F6;refine⟨⟨di.2.1,di.2.2⟩,λc h1 h2 hb=>F6 ?_⟩;rw[jk];refine⟨c-tr.s.toNat,?_⟩;rw[List.getElem?_take_of_lt ab,List.getElem?_drop,show tr.s.toNat+(c-tr.s.toNat)=c by omega,bO ab];unfold df;rw[decide_eq_true hb]
def DM{b:Nat->Bool}{pl:List Int}{p:Int}{tr:Rn}{c:Nat}:∀k:Nat,ON b pl p tr k c=true->b c=true∨∃j:Nat,j<k/\c=(tr.s+j).toNat
 |0,h=>.inl h
 |k+1,h=>by
  unfold ON at h;split at h
  ·rename_i g;exact .inr ⟨k,ab,g⟩
  ·split at h
   ·cases h
   ·rcases DM k h with h|⟨j,hj,e⟩
    ·exact .inl h
    ·exact .inr ⟨j,ab,e⟩
def DJ{B:List UInt8}{pl:List Int}{p:Int}{tr:Rn}{c:Nat}(h:∀k:Nat,(k:Int)<tr.n->0<=tr.s+k/\(tr.s+k+1)*256<=B.length/\((pl[p.toNat+k]?.getD 0).toNat+1)*256<=B.length)(hc:256*(c+1)<=B.length)(ho:∀j:Nat,(j:Int)<tr.n->c≠(tr.s+j).toNat):
 ∀k:Nat,(k:Int)<=tr.n->eU (J2 B pl p tr k) c=eU B c
 |0,_=>rfl
 |k+1,hk=>by
  obtain⟨g1,g2,g3⟩:=h k ab;have hl:=Xk h k ab;have ih:=DJ h hc ho k ab;show eU (MF (J2 B pl p tr k) (tr.s+(k:Int)).toNat (eU B (pl[p.toNat+k]?.getD 0).toNat)) c=_;rw[ahQ ab (gI ab) ab,if_neg (ho k ab),ih]
def ES{d:Dk}{a:At}{p:Int}{tr:Rn}(hd:wU d)(hn:a.nm.length<=1000000)(he:dJ d a p tr=0):
 (∀c:Nat,c<d.n→¬(tr.s<=c/\(c:Int)<tr.s+tr.n)->eU (jM d a p tr).a_ c=eU d.a_ c)∧∀c:Nat,c<d.n->bH (jM d a p tr).mp c=1->bH d.mp c=1\/(tr.s<=c/\(c:Int)<tr.s+tr.n):=by
 have h0:=Zv he;obtain⟨hp,_⟩:=DT he;unfold uR at hp;have hm:SJ (ar d a) p tr=0:=by
  unfold dJ at he;rw[if_neg (λh=>h h0)]at he;split at he
  ·rename_i g;exact absurd he g
  ·rename_i g;exact K6
 have hD:jM d a p tr=⟨J2 d.a_ (az a.rn.l) p tr tr.n.toNat,mG (cQ (ON (df d) (az a.rn.l) p tr tr.n.toNat) d.n)⟩:=by
  unfold jM;rw[if_neg (λh=>h he)]
 rw[hD];have qG:=(bc h0).1.pl;have M8:d.n=d.a_.length/256:=rfl;have Gr:∀k:Nat,(k:Int)<tr.n->0<=tr.s+k/\(tr.s+k+1)*256<=d.a_.length/\(((az a.rn.l)[p.toNat+k]?.getD 0).toNat+1)*256<=d.a_.length:=λk hk=>by
  refine⟨ab,ab,?_⟩;cases hx:(az a.rn.l)[p.toNat+k]? with
  |none=>simp only[Option.getD_none];omega
  |some x=>
   rcases qG x (Iw hx)with g|g
   ·subst g;simp only[Ns];omega
   ·simp only[Ns];omega
 constructor
 ·intro c hc ho;exact DJ Gr ab (λj hj e=>ho ab) tr.n.toNat ab
 ·intro c hc hb;have e:bH (mG (cQ (ON (df d) (az a.rn.l) p tr tr.n.toNat) d.n)) c=mS (ON (df d) (az a.rn.l) p tr tr.n.toNat c):=by
   unfold mG;rw[ck,KI (λi=>Jj _),if_pos hc,bO hc];rfl
  have hb:bH (mG (cQ (ON (df d) (az a.rn.l) p tr tr.n.toNat) d.n)) c=1:=hb;rw[e]at hb;have ht:ON (df d) (az a.rn.l) p tr tr.n.toNat c=true:=by
   cases g:ON (df d) (az a.rn.l) p tr tr.n.toNat c with
   |true=>rfl
   |false=>rw[g]at hb;exact absurd hb ao
  rcases DM _ ht with g|⟨j,hj,e⟩
  ·exact .inl (of_decide_eq_true g)
  ·exact .inr ab
def mk_one{d:Dk}{t:Rn}(h0:nu d.mp d.n=0)(hp:uR d t)(hf:∀c:Nat,t.s<=c->(c:Int)<t.s+t.n→¬bH d.mp c=1):TF d.mp d.n [t] 1=mG (j6 (ey d) t.s.toNat t.n.toNat):=by
 have hr:azh d.n t:=hp;have ji:NX [t] d.n=0:=by
  unfold NX;rw[if_neg aj];show(if azh d.n t then(if aJI (λ_=>false) t.s.toNat t.n.toNat then 23 else 0)else 2)=0;rw[if_pos hr,if_neg];intro g;obtain⟨_,_,_,g⟩:=Ru.1 g;cases g
 unfold uR at hp;have hE:aew d.mp d.n [t] 1=0:=by
  unfold aew Ob;rw[h0,if_neg (λg=>g rfl),ji,if_neg (λg=>g rfl),if_neg];intro g;obtain⟨r,CW,k⟩:=List.any_eq_true.1 g;rw[List.mem_singleton]at CW;rw[CW]at k;obtain⟨j,g1,g2,g3⟩:=Ru.1 k;exact hf j ab ab (of_decide_eq_true g3)
 unfold TF;rw[if_pos hE];unfold mG;rw[gq,fg,Int.toNat_natCast];refine ak_ (ath (mK _) (Nat.le_refl 1)) (λ_=>Jj _) λi hi=>?_
 rw[j7 (by rw[fg];exact hi),C0 hi];have jB:aiC [t] i=true↔t.s.toNat<=i/\i<t.s.toNat+t.n.toNat:=by
  unfold aiC fR;simp only[List.any_cons,List.any_nil,Bool.or_false,decide_eq_true_eq];omega
 unfold Tb;by_cases g:t.s.toNat<=i/\i<t.s.toNat+t.n.toNat
 ·rw[if_pos (jB.2 g),if_pos g];rfl
 ·rw[if_neg (λk=>g (jB.1 k)),if_neg g];have hb:=mK d.mp i;show bH d.mp i=mS (decide (bH d.mp i=1));by_cases k:bH d.mp i=1
  ·rw[k];rfl
  ·rw[decide_eq_false k];show _=0;omega
def Ez{d:Dk}{t:Rn}{c:Nat}(hp:uR d t):bH (mG (j6 (ey d) t.s.toNat t.n.toNat)) c=1↔c<d.n/\(bH d.mp c=1\/(t.s<=c/\(c:Int)<t.s+t.n)):=by
 unfold uR at hp;unfold mG;rw[KI (λ_=>Jj _),gq,fg];by_cases hc:c<d.n
 case neg=>rw[if_neg hc];omega
 rw[if_pos hc,j7 (by rw[fg];exact hc),C0 hc,Ns,Ns];by_cases g:t.s.toNat<=c/\c<t.s.toNat+t.n.toNat
 ·rw[if_pos g];exact⟨λ_=>⟨hc,.inr ab⟩,λ_=>rfl⟩
 ·rw[if_neg g];by_cases k:bH d.mp c=1
  ·rw[decide_eq_true k];exact⟨λ_=>⟨hc,.inl k⟩,λ_=>rfl⟩
  ·rw[decide_eq_false k];refine⟨λh=>?_,λh=>?_⟩
   ·cases h
   ·rcases h.2 with h|h
    ·exact absurd h k
    ·omega
def EO(l:List Rn)(c:Int):bI (cO l c)=bI l+1:=by
 rcases List.eq_nil_or_concat l with rfl|⟨p,q,rfl⟩
 ·rw[Hu];rfl
 ·simp only[List.concat_eq_append];rw[xw];split
  ·rw[J8,J8];show _+(q.n+1+0)=_+(q.n+0)+1;omega
  ·rw[J8];rfl
def DO(s:List UInt8):∀n:Nat,bI (ae (λc=>¬bH s c=1) n)+(oF s n:Int)=n
 |0=>rfl
 |n+1=>by
  have ih:=DO s n;have hb:=mK s n;have e:oF s (n+1)=oF s n+bH s n:=rfl;by_cases g:bH s n=1
  ·rw[GJ (λk=>k g),e,g];omega
  ·rw[N0 g,EO,e];omega
def Du(d:Dk):bI (acZ d)=d.n-(oF d.mp d.n:Int):=by
 have:=DO d.mp d.n;unfold acZ;omega
def DW{v:Vo}{D:Dk}{s:Sl At}(h:Dj v)(hB:fH D)(hs:s.l=v.st.l)(hd:gm D=0)(he:∀a∈v.st.l,acV v.d D a):Dj ⟨D,s⟩/\ac4 ⟨D,s⟩=ac4 v:=by
 obtain⟨h1,h2,h3,h4⟩:=AZ.1 h.2;refine⟨⟨⟨hB,λa ha=>h.1.2.1 a (hs▸ha),hs▸h.1.2.2⟩,AZ.2 ⟨hd,hs▸h2,λa ha=>(PS (he a (hs▸ha)) (h3 a (hs▸ha))).1,hs▸h4⟩⟩,?_⟩;unfold ac4;show s.l.map _=_;rw[hs];exact ND λa ha=>(PS (he a ha) (h3 a ha)).2
structure Gy(v w:Vo)(m:Mv):Prop where
 mp:TF v.d.mp v.d.n [m.t] 1=mG (j6 (ey v.d) m.t.s.toNat m.t.n.toNat)
 pt:uR v.d m.t
 cp:Dj (dv v w m)/\ac4 (dv v w m)=ac4 v
 sw:Dj (ir v w m)/\ac4 (ir v w m)=ac4 v
 fr:bI (acZ w.d)=bI (acZ v.d)
 cl:(dv v w m).st.l=v.st.l
 sl:(ir v w m).st.l=w.st.l
 wl:w.st.l=v.st.l.set m.k.toNat (ni w m.k)
def D2{v:Vo}{m:Mv}(h:Dj v)(hm:ub v m=0):Gy v (nX v m) m:=by
 have hw:=Er h m;have hc:=Dr h m;have e:nX v m=rl v (jM v.d (ni v m.k) m.p m.t) m.k.toNat (jG v.d (ni v m.k) m.p m.t):=by unfold nX;rw[if_neg (λg=>g hm)]
 obtain⟨k0,k1,he⟩:=apm hm;obtain⟨b,hb⟩:∃b,v.st.l[m.k.toNat]?=some b:=⟨_,Ix ab⟩
 have eb:ni v m.k=b:=by unfold ni;rw[hb];rfl
 have kE:=Iw hb;have hn:=h.1.2.1 b kE;obtain⟨o1,o2,o3,o4⟩:=AZ.1 h.2;obtain⟨p1,p2,p3,p4⟩:=AZ.1 hw.2;have WW:=L0 o1;rw[eb]at he e;obtain⟨FQ,pe⟩:=DT he;obtain⟨y1,y2⟩:=ES WW hn he;have ml:=aBQ (Zv he) WW hn he;obtain⟨d1,d2,d3⟩:=rX o1;have Rf:=mk_one d3 FQ pe;have FZ:(nX v m).d=jM v.d b m.p m.t:=by rw[e];rfl
 have F7:(nX v m).st.l=v.st.l.set m.k.toNat (jG v.d b m.p m.t):=by rw[e];rfl
 have hlen:(nX v m).d.a_.length=v.d.a_.length:=by rw[FZ,ml.D];exact ml.len
 have amQ:∀c:Nat,c<v.d.n→¬(m.t.s<=c/\(c:Int)<m.t.s+m.t.n)->eU (nX v m).d.a_ c=eU v.d.a_ c:=by rw[FZ];exact y1
 have FU:∀c:Nat,c<v.d.n->bH (nX v m).d.mp c=1->bH v.d.mp c=1\/(m.t.s<=c/\(c:Int)<m.t.s+m.t.n):=by rw[FZ];exact y2
 have aoA:bI (acZ (nX v m).d)=bI (acZ v.d):=by
  rw[Du,Du,hc.2,FZ,ml.D,ml.gy]
 have H5:=pR (L0 p1);clear y1 y2;generalize nX v m=w at*;have mE:(dv v w m).st.l=v.st.l:=by
  show(v.st.l.set m.k.toNat (ni v m.k))=_;rw[eb];obtain⟨g,rfl⟩:=List.getElem?_eq_some_iff.1 hb;exact List.set_getElem_self g
 have yJ:w.st.l=v.st.l.set m.k.toNat (ni w m.k):=by
  have ew:ni w m.k=jG v.d b m.p m.t:=by
   unfold ni;rw[F7,List.getElem?_set_self ab];rfl
  rw[ew];exact F7
 have qH:(ir v w m).st.l=w.st.l:=by
  show((dv v w m).st.l.set m.k.toNat (ni w m.k))=_;rw[mE];exact yJ.symm
 have hD:(dv v w m).d=⟨w.d.a_,mG (j6 (ey v.d) m.t.s.toNat m.t.n.toNat)⟩:=by
  show(⟨w.d.a_,TF v.d.mp v.d.n [m.t] 1⟩:Dk)=_;rw[Rf]
 have lr:((dv v w m).d.a_).length=v.d.a_.length:=by rw[hD];exact hlen
 have AI:(dv v w m).d.n=v.d.n:=by unfold Dk.n;rw[lr]
 have F9:∀c:Nat,bH (dv v w m).d.mp c=1↔c<v.d.n/\(bH v.d.mp c=1\/(m.t.s<=c/\(c:Int)<m.t.s+m.t.n)):=λc=>by rw[hD];exact Ez FQ
 have FY:gm (dv v w m).d=0:=by
  have kE:=(DF (l:=j6 (ey v.d) m.t.s.toNat m.t.n.toNat) (by rw[gq,fg];omega)).1;rw[gq,fg]at kE;unfold gm;rw[AI,lr,if_neg ab,if_neg ab,hD];exact kE
 have Ga:fH (dv v w m).d:=pR (L0 FY);have F2:(dv v w m).d.a_=w.d.a_:=by rw[hD]
 have aU:∀{d:Dk} {a:At},aK d a=0→∀c:Nat,(c:Int)∈az a.rn.l->c<d.n:=λh0 c hc=>by
  rcases(bc h0).1.pl _ hc with g|g
  ·omega
  ·unfold Dk.n;omega
 have g1:=DW (s:=(dv v w m).st) h Ga mE FY λa ha=>by
  have h0:=o3 a ha;refine⟨lr,FY,λc hc=>(F9 c).2 ⟨aU h0 c hc,.inl (QX h0 hc)⟩,λc hc=>?_⟩;rw[F2];exact amQ c (aU h0 c hc) λg=>pe c g.1 g.2 (QX h0 hc)
 have g2:=DW (s:=(ir v w m).st) hw Ga qH FY λa ha=>by
  have h0:=p3 a ha;have LD:=aU h0;rw[hc.2]at LD;exact⟨by rw[F2],FY,λc hc=>(F9 c).2 ⟨LD c hc,FU c (LD c hc) (QX h0 hc)⟩,λc _=>by rw[F2]⟩
 exact⟨Rf,FQ,g1,⟨g2.1,g2.2.trans hc.1⟩,aoA,mE,qH,yJ⟩
def si(v:Vo):ac4 (bp v)=ac4 v:=by
 unfold ac4;rw[show(bp v).st.l=v.st.l.map aB from rfl,List.map_map];exact ND λa _=>Hm v.d a
def Dj.rn{v:Vo}(h:Dj v):∀a∈v.st.l,a.rn.l.length<=1000000:=(acx h.1 h.2).own.2
def Fc{v:Vo}{m:Mv}(h:Dj v)(hm:ub v m=0):akj (bp v) m=0/\afD (bp v) m=[bp v,Ap v (bp (nX v m)) m,C9 v (bp (nX v m)) m,bp (nX v m)]/\
 (∀x∈[bp v,Ap v (bp (nX v m)) m,C9 v (bp (nX v m)) m,bp (nX v m)],Dj x/\ac4 x=ac4 v)/\bI (acZ (bp (nX v m)).d)=bI (acZ v.d)/\uR v.d m.t/\0<=m.k/\m.k.toNat<v.st.l.length/\m.k.toNat<(bp (nX v m)).st.l.length:=by
 have sL:ub (bp v) m=0:=by rw[akM];exact hm
 have hE:akj (bp v) m=0:=by unfold akj;rw[x_,if_neg (λg=>g h.2),sL]
 have hW:=D2 (axS h) sL;have Hp:=Er (axS h) m;have Gb:=Dr (axS h) m;have Hq:=as2 v m;obtain⟨k0,k1,_⟩:=apm hm;have hL:afD (bp v) m=[bp (bp v),bp (dv (bp v) (nX (bp v) m) m),bp (ir (bp v) (nX (bp v) m) m),bp (nX (bp v) m)]:=by unfold afD;rw[hE,if_neg (λg=>g rfl)]
 rw[si]at Gb;rw[<-Hq];generalize nX (bp v) m=w at*;have An:∀l:List At,(l.map aB).map aB=l.map aB:=λl=>by rw[List.map_map];rfl
 have yJ:(bp w).st.l=w.st.l.map aB:=rfl;have hlen:w.st.l.length=v.st.l.length:=by rw[hW.wl,List.length_set];exact Jb _
 have e1:bp (dv (bp v) w m)=Ap v (bp w) m:=by
  have hl:=hW.cl;have hq:=hW.mp;show(⟨⟨w.d.a_,TF v.d.mp v.d.n [m.t] 1⟩,.sl ((dv (bp v) w m).st.l.map aB)⟩:Vo)=⟨⟨w.d.a_,mG (j6 (ey v.d) m.t.s.toNat m.t.n.toNat)⟩,.sl (v.st.l.map aB)⟩
  rw[hl,show(bp v).st.l=v.st.l.map aB from rfl,An,show TF v.d.mp v.d.n [m.t] 1=_ from hq];rfl
 have e2:bp (ir (bp v) w m)=C9 v (bp w) m:=by
  have hd:(ir (bp v) w m).d=(Ap v (bp w) m).d:=by rw[<-e1];rfl
  have hs:ni (bp w) m.k=aB (ni w m.k):=R2 w m.k ⟨k0,ab⟩;have hl:(ir (bp v) w m).st.l.map aB=(v.st.l.map aB).set m.k.toNat (aB (aB (ni w m.k))):=by
   rw[hW.sl]
   conv=>lhs;rw[hW.wl]
   rw[List.map_set,show(bp v).st.l=v.st.l.map aB from rfl,An];rfl
  show(⟨(ir (bp v) w m).d,.sl ((ir (bp v) w m).st.l.map aB)⟩:Vo)=⟨(Ap v (bp w) m).d,.sl ((v.st.l.map aB).set m.k.toNat (aB (ni (bp w) m.k)))⟩
  rw[hd,hl,hs]
 rw[vE,e1,e2]at hL;refine⟨hE,hL,λx hx=>?_,hW.fr,hW.pt,k0,ab,by rw[yJ,Jb];omega⟩;simp only[List.mem_cons,List.not_mem_nil,or_false]at hx;have g:∀y:Vo,Dj y/\ac4 y=ac4 (bp v)->Dj (bp y)/\ac4 (bp y)=ac4 v:=λy hy=>⟨axS hy.1,by rw[si,hy.2,si]⟩
 rcases hx with rfl|rfl|rfl|rfl
 ·exact⟨axS h,si v⟩
 ·rw[<-e1];exact g _ hW.cp
 ·rw[<-e2];exact g _ hW.sw
 ·exact⟨axS Hp,by rw[si];exact Gb.1⟩
def CQ(ps:List PV)(x:PV):Prop:=∃(v:Vo) (m:Mv),ps=[v.pv,m.pv]/\x=pB true
def EB{v:Vo}{m:Mv}(h:wX v≠0\/(wX v=0/\ub v m≠0)):akj (bp v) m=(if wX v≠0 then wX v else ub v m)/\afD (bp v) m=[]:=by
 have e:akj (bp v) m=if wX v≠0 then wX v else ub v m:=by
  unfold akj;rw[x_,akM]
 refine⟨e,?_⟩;unfold afD;rw[if_pos];rw[e];rcases h with h|⟨h1,h2⟩
 ·rw[if_pos h];exact h
 ·rw[if_neg (λg=>g h1)];exact h2
set_option maxHeartbeats 8000000 in
def Ax:MT (ay [(12,ah KL),(13,bF Wr),(15,c8 false qM),(42,c8 false N7),(16,ah OA),(43,c8 false Y_),(44,c8 false kA),(45,c8 true akH),(34,bF Uq),(46,bF aeY),(26,c8 true Ty)]) gN (ah CQ):=by
 rintro _ K ⟨_,⟨v,m,rfl,rfl⟩,hK⟩;have lD:KL [] (pB true):=⟨rfl,rfl⟩
 have cT:Wr [v.pv] _:=⟨v,rfl,rfl⟩
 by_cases hf:ahf v
 case neg=>
  (repeat'((conv=>whnf);first|refine⟨_,lD,?_⟩|refine⟨_,cT,?_⟩|refine aw hf ?_|refine aN ?_|refine bP ?_|fail))<;>try(conv=>whnf)
  exact⟨.pv (pB true),rfl,trivial,hK⟩
 obtain⟨hb,hr,hn⟩:=hf.b;have hC:qM [v.pv] _:=⟨v,rfl,hn,rfl⟩
 have fM:N7 [(bp v).pv,m.pv] _:=⟨bp v,m,rfl,Og hb,rfl⟩
 have fh:OA [v.pv] _:=⟨v,rfl,⟨hb,hr⟩,rfl⟩
 by_cases he:wX v=0
 case neg=>
  obtain⟨e1,e2⟩:=EB (m:=m) (.inl he);rw[if_pos he]at e1;rw[e1,e2]at fM
  (repeat'((conv=>whnf);first|refine⟨_,lD,?_⟩|refine⟨_,cT,?_⟩|refine au hf ?_|refine⟨_,hC,?_⟩|refine⟨_,fM,?_⟩|refine⟨_,fh,?_⟩|refine au he ?_|refine au rfl ?_|refine aN ?_|refine ez λ_=>?_|refine bT ?_|fail))<;>try(conv=>whnf)
  exact⟨.pv (pB true),rfl,trivial,hK⟩
 have dI:=acx hb he;have uk:Y_ [v.pv,m.pv] _:=⟨v,m,rfl,dI,rfl⟩
 by_cases hm:ub v m=0
 case neg=>
  obtain⟨e1,e2⟩:=EB (.inr ⟨he,hm⟩);rw[if_neg (λg=>g he)]at e1;rw[e1,e2]at fM;rw[he]at fh;rw[show fW v m=TZ by unfold fW;rw[if_pos hm]]at uk
  (repeat'((conv=>whnf);first|refine⟨_,lD,?_⟩|refine⟨_,cT,?_⟩|refine au hf ?_|refine⟨_,hC,?_⟩|refine⟨_,fM,?_⟩|refine⟨_,fh,?_⟩|refine aw (λh=>h rfl) ?_|refine⟨_,uk,?_⟩|refine au hm ?_|refine au rfl ?_|refine aN ?_|refine ez λ_=>?_|refine bT ?_|fail))<;>try(conv=>whnf)
  exact⟨.pv (pB true),rfl,trivial,hK⟩
 obtain⟨e1,e2,nK,aHt,FQ,k0,k1,k2⟩:=Fc (m:=m) ⟨hb,he⟩ hm;have Hw:eW (bp (nX v m)):=((aql dI m).n |>av1)
 rw[show fW v m=bp (nX v m) by unfold fW;rw[if_neg (λg=>g hm)],hm]at uk;rw[e1,e2]at fM;rw[he]at fh;have hS:kA [v.pv,(bp (nX v m)).pv,m.pv] (.fresh 26 3 ([bp v,Ap v (bp (nX v m)) m,C9 v (bp (nX v m)) m,bp (nX v m)].map Vo.pv)):=⟨v,_,m,rfl,⟨P0 hb he,Hw,FQ,k0,k1,k2⟩,by rw[vE]⟩
 have CY:akH [v.pv] _:=⟨v,rfl,⟨⟨hb,he⟩,hr⟩,rfl⟩
 have lp:Ty [v.pv] _:=⟨v,rfl,P0 hb he,rfl⟩
 have H6:([bp v,Ap v (bp (nX v m)) m,C9 v (bp (nX v m)) m,bp (nX v m)]).length=4:=rfl;have jI:([bp v,Ap v (bp (nX v m)) m,C9 v (bp (nX v m)) m,bp (nX v m)])[3]?=some (bp (nX v m)):=rfl;generalize [bp v,Ap v (bp (nX v m)) m,C9 v (bp (nX v m)) m,bp (nX v m)]=L at*;generalize bp (nX v m)=w at*;have mE:(ac4 v).length<=1000000:=by unfold ac4;rw[Jb];exact hb.2.2
 generalize ac4 v=CV at*;have Ib:(L.map Vo.pv).length=L.length:=Jb _
 (repeat'((conv=>whnf);first|refine⟨_,lD,?_⟩|refine⟨_,cT,?_⟩|refine au hf ?_|refine⟨_,hC,?_⟩|refine⟨_,fM,?_⟩|refine⟨_,fh,?_⟩|refine aw (λh=>h rfl) ?_|refine⟨_,uk,?_⟩|refine⟨_,hS,?_⟩|refine⟨_,CY,?_⟩|refine aN ?_|refine de (λ_=>?_) (λ_=>?_)|refine ez λ_=>?_|refine bT ?_|fail))<;>try(conv=>whnf)
 refine⟨λq env σ=>∃n:Nat,n+q=L.length/\σ=[.box 26 [.pv (.str v.d.a_),.pv (.str v.d.mp),.pv (D4 v.st)],.row 26 3 true (L.map Vo.pv),.row 26 3 true (L.map Vo.pv),.row 9 1 true (Px CV)]/\env=[(2,.ref 0 0 0),(5,.own 1),(10,.own 2),(11,.own 3),eN 13 n],L.length,⟨0,ab,rfl,rfl⟩,?_⟩;rintro q env σ ⟨n,Ik,rfl,rfl⟩;by_cases aU:n<L.length
 ·obtain⟨x,hx⟩:∃x,L[n]?=some x:=⟨_,Ix aU⟩
  obtain⟨hG,rM⟩:=nK x (Iw hx);have lF:=hG.rn;have Wk:=oa (f:=Vo.pv) hx;have Gc:eW x:=⟨hG.1.2.2,lF⟩
  have SE:Uq [x.pv,x.pv] _:=⟨x,x,rfl,⟨Gc,Gc⟩,rfl⟩
  have mD:aqV x x:=⟨rfl,rfl,rfl⟩
  have Gh:OA [x.pv] _:=⟨x,rfl,⟨hG.1,lF⟩,rfl⟩
  rw[hG.2]at Gh;have OB:akH [x.pv] _:=⟨x,rfl,⟨hG,lF⟩,rfl⟩
  rw[rM]at OB;have Hx:aeY [.sl 1 (Px CV),.sl 1 (Px CV)] _:=⟨_,_,rfl,⟨mE,mE⟩,rfl⟩
  (repeat'((conv=>whnf);first|refine au ab ?_|refine And.intro ⟨ab,ab⟩ ?_|refine⟨_,Wk,?_⟩|refine⟨_,SE,?_⟩|refine⟨_,Gh,?_⟩|refine aw (λh=>h rfl) ?_|refine⟨_,OB,?_⟩|refine⟨_,Hx,?_⟩|refine au rfl ?_|refine bj ab ?_|refine aN ?_|refine ez λ_=>?_|refine bT ?_|fail))<;>try(conv=>whnf)
  exact⟨q-1,ab,n+1,ab,rfl,rfl⟩
 ·have hg:=oa (f:=Vo.pv) jI;have HA:Ty [w.pv] _:=⟨w,rfl,P0 (nK w (Iw jI)).1.1 (nK w (Iw jI)).1.2,rfl⟩
  have Gv:(eJ w).f=(eJ v).f:=aHt
  (repeat'((conv=>whnf);first|refine aw ab ?_|refine And.intro ⟨ab,ab⟩ ?_|refine⟨_,hg,?_⟩|refine⟨_,HA,?_⟩|refine⟨_,lp,?_⟩|refine au Gv ?_|refine au Gv ?_|refine ez λ_=>?_|refine bT ?_|refine oQ ?_|fail))<;>try(conv=>whnf)
  exact⟨.pv (pB true),rfl,trivial,hK⟩
abbrev aAz:List CT:=[.int .i64,.str,.int .i64,.int .i64,.bool,.str,.int .i64,.sl true [.int .i64,.int .i64],.int .i64,.int .i64,.int .i64]
abbrev kG:Bool×List CT:=(true,[.str,.str,.sl true [.int .i64,.str,.int .i64,.int .i64,.bool,.str,.int .i64,.sl true [.int .i64,.int .i64],.int .i64,.int .i64,.int .i64]])
def ajp{y:PV}(h:∃zs,y=.agg zs/\ou [.str,.str,.sl true aAz] zs):∃v:Vo,y=v.pv:=by
 obtain⟨zs,rfl,h⟩:=h;simp only[ou]at h;obtain⟨_,_,rfl,hb,_,_,rfl,hm,_,_,rfl,hs,rfl⟩:=h;simp only[O1]at hb hm hs;obtain⟨b,rfl,_⟩:=hb;obtain⟨m,rfl,_⟩:=hm;obtain⟨aC,rfl,_,he⟩:=hs;obtain⟨l,rfl,_⟩:=awZ (g:=At.pv) (q:=λ_=>True) λz hz=>by
  obtain⟨a,ha⟩:=auD ((he z hz).1 trivial);exact⟨a,ha,trivial⟩
 exact⟨⟨⟨b,m⟩,.sl l⟩,rfl⟩
def awF{y:PV}(h:∃zs,y=.agg zs/\ou [.int .i64,.int .i64,.int .i64,.int .i64] zs):∃m:Mv,y=m.pv:=by
 obtain⟨zs,rfl,h⟩:=h;simp only[ou,O1]at h;obtain⟨_,_,rfl,⟨k,rfl,_⟩,_,_,rfl,⟨p,rfl,_⟩,_,_,rfl,⟨s,rfl,_⟩,_,_,rfl,⟨n,rfl,_⟩,rfl⟩:=h;exact⟨⟨k,p,⟨s,n⟩⟩,rfl⟩
abbrev G1:Bool×List CT:=(true,[.int .i64,.int .i64,.int .i64,.int .i64])
def E6:∀xs,xS [kG,G1] xs->(ah CQ).run xs λr=>r=.pv (.bool true):=λxs h=>by
 simp only[xS]at h;obtain⟨y,_,rfl,h1,_,u,_,rfl,h3,_,rfl⟩:=h;obtain⟨v,rfl⟩:=ajp (h1 trivial);obtain⟨m,rfl⟩:=awF (h3 trivial);exact⟨_,⟨v,m,rfl,rfl⟩,rfl⟩
def dQ(lone:Bool)(R:List PV->RV->Prop):ajo (c8 lone R):=⟨λe=>cz,λ_ _ h=>h,rfl⟩
def apT:ajo BX:=by
 refine⟨λ_=>⟨rfl,λps K h=>?_⟩,λ_ _ h=>h,rfl⟩;obtain⟨a,b,rfl,h1,h2⟩:=h;by_cases ha:a=0
 ·exact⟨pI b,h2 ha,λK' h=>⟨a,b,rfl,λh'=>absurd ha h',λ_=>h⟩⟩
 ·exact⟨pI a,h1 ha,λK' h=>⟨a,b,rfl,λ_=>h,λh'=>absurd h' ha⟩⟩
def SN:MT (ay []) RZ (ah gB):=kS
def rQ:bU bb 293 (ah jj):=Qi.sound mixed aq (ax _) (by rintro _ _ ⟨_,⟨_,rfl,_⟩,_⟩;rfl) I0
def th:bU bb 276 (ah jj):=Wl.sound mixed (aaB rQ aq) (ax _) (by rintro _ _ ⟨_,⟨_,rfl,_⟩,_⟩;rfl) No
def fJ:bU bb 260 (ah rU):=Ul.sound mixed (aaB th aq) (ax _) (by rintro _ _ ⟨_,⟨_,rfl,_⟩,_⟩;rfl) Ki
def ja:bU bb 295 (ah fF):=Ov.sound mixed (aaB fJ aq) (ax _) (by rintro _ _ ⟨_,⟨_,rfl,_⟩,_⟩;rfl) Hr
def rP:bU bb 294 (ah jl):=Q7.sound mixed aq (ax _) (by rintro _ _ ⟨_,⟨_,_,_,rfl,_⟩,_⟩;rfl) IT
def eZ:bU bb 239 (ah l5):=Rh.sound mixed aq (ax _) (by rintro _ _ ⟨_,⟨_,_,rfl,_⟩,_⟩;rfl) IX
def kL:bU bb 238 (ah qZ):=Tz.sound mixed aq (ax _) (by rintro _ _ ⟨_,⟨_,rfl,_⟩,_⟩;rfl) JC
def ca:bU bb 263 (ah cm):=Sh.sound mixed aq (ax _) (by rintro _ _ ⟨_,⟨_,rfl,_⟩,_⟩;rfl) I5
def c7:bU bb 261 (ah dW):=WK.sound mixed (aaB ca aq) (ax _) (by rintro _ _ ⟨_,⟨_,rfl,_⟩,_⟩;rfl) MP
def vD:bU bb 277 (ah wY):=MA.sound mixed (aaB ca (aaB eZ (aaB kL (aaB rP (aaB ja (aaB c7 aq)))))) (ax _) (by rintro _ _ ⟨_,⟨_,_,rfl,_⟩,_⟩;rfl) Zl
def q8:bU bb 262 oZ:=GU.sound mixed (aaB vD (aaB c7 aq)) (azL _ _) (by rintro _ _ ⟨_,rfl,_⟩;rfl) Qo
def vG:bU bb 241 tf:=M3.sound mixed (aaB ca aq) (azL _ _) (by rintro _ _ ⟨_,rfl,_⟩;rfl) Y2
def pF:bU bb 259 (ah P5):=Si.sound mixed aq (ax _) (by rintro _ _ ⟨_,⟨_,rfl,_⟩,_⟩;rfl) ae4
def Aq:bU bb 237 abr:=RH.sound mixed (aaB pF (aaB eZ aq)) (azL _ _) (by rintro _ _ ⟨_,_,rfl,_⟩;rfl) afO
def yC:bU bb 240 S4:=QZ.sound mixed (aaB fJ (aaB pF (aaB c7 (aaB q8 aq)))) (azL _ _) (by rintro _ _ ⟨_,rfl,_⟩;rfl) afI
def we:bU bb 97 (ah Xs):=Qc.sound mixed aq (ax _) (by rintro _ _ ⟨_,⟨_,rfl,_⟩,_⟩;rfl) akb
def mA:bU bb 242 (ah GS):=MR.sound mixed aq (ax _) (by rintro _ _ ⟨_,⟨_,rfl,_⟩,_⟩;rfl) YU
def uP:bU bb 170 (ah lz):=Iz.sound mixed aq (ax _) (by rintro _ _ ⟨_,⟨_,_,_,rfl,_⟩,_⟩;rfl) M7
def ej:bU bb 172 (ah jw):=Vz.sound mixed aq (ax _) (by rintro _ _ ⟨_,⟨_,_,rfl,_⟩,_⟩;rfl) Nc
def dq:bU bb 129 (ah jQ):=ag5.sound mixed aq (ax _) (by rintro _ _ ⟨_,⟨_,rfl,_⟩,_⟩;rfl) Te
def vS:bU bb 171 (ah ae6):=acL.sound mixed aq (ax _) (by rintro _ _ ⟨_,⟨_,rfl,_⟩,_⟩;rfl) amE
def nU:bU bb 125 (ah HN):=JV.sound mixed (aaB uP (aaB vS (aaB ej aq))) (ax _) (by rintro _ _ ⟨_,⟨_,_,rfl,_⟩,_⟩;rfl) PQ
def lq:bU bb 170 (bF bG):=Iz.sound mixed aq (b_ _) (by rintro _ _ ⟨_,⟨_,_,_,rfl,_⟩,_⟩;rfl) acU
def bw:bU bb 32 (bF bG):=DQ.sound mixed aq (b_ _) (by rintro _ _ ⟨_,⟨_,_,_,rfl,_⟩,_⟩;rfl) acX
def rZ:bU bb 175 (ah awJ):=Pr.sound mixed aq (ax _) (by rintro _ _ ⟨_,⟨_,_,_,rfl,_⟩,_⟩;rfl) as7
def wg:bU bb 173 afd:=acs.sound mixed (aaB nU aq) (azL _ _) (by rintro _ _ ⟨_,_,rfl,_⟩;rfl) alR
def dN:bU bb 174 BX:=Yw.sound mixed aq apT (by rintro _ _ ⟨_,_,rfl,_⟩;rfl) agS
def tO:bU bb 126 XF:=X7.sound mixed (aaB wg (aaB dN (aaB ej (aaB lq (aaB rZ aq))))) (azL _ _) (by rintro _ _ ⟨_,_,_,rfl,_⟩;rfl) ahs
def Gl:bU bb 182 agu:=ZZ.sound mixed (aaB lq (aaB vS aq)) (azL _ _) (by rintro _ _ ⟨_,rfl,_⟩;rfl) aip
def vC:bU bb 201 JN:=Pg.sound mixed (aaB Gl aq) (azL _ _) (by rintro _ _ ⟨_,rfl,_⟩;rfl) V4
def s8:bU bb 227 Sn:=DK.sound mixed aq (azL _ _) (by rintro _ _ ⟨_,_,rfl,_⟩;rfl) agM
def ua:bU bb 195 ah2:=Ac.sound mixed (aaB s8 aq) (azL _ _) (by rintro _ _ ⟨_,_,rfl,_⟩;rfl) VP
def En:bU bb 181 (ah afu):=VK.sound mixed aq (ax _) (by rintro _ _ ⟨_,⟨_,rfl,_⟩,_⟩;rfl) ahJ
def yA:bU bb 128 (ah Ts):=Q_.sound mixed (aaB En aq) (ax _) (by rintro _ _ ⟨_,⟨_,_,rfl,_⟩,_⟩;rfl) adf
def kB:bU bb 148 (ah gB):=QM.sound mixed aq (ax _) (by rintro _ _ ⟨_,⟨_,rfl,_⟩,_⟩;rfl) kS
def Hz:bU bb 243 (ah gB):=adw.sound mixed aq (ax _) (by rintro _ _ ⟨_,⟨_,rfl,_⟩,_⟩;rfl) Qv
def fA:bU bb 149 (ah dG):=OP.sound mixed aq (ax _) (by rintro _ _ ⟨_,⟨_,_,rfl,_⟩,_⟩;rfl) jP
def D9:bU bb 244 (ah dG):=ZC.sound mixed aq (ax _) (by rintro _ _ ⟨_,⟨_,_,rfl,_⟩,_⟩;rfl) OQ
def jo:bU bb 229 (ah dG):=ac9.sound mixed aq (ax _) (by rintro _ _ ⟨_,⟨_,_,rfl,_⟩,_⟩;rfl) RG
def oK:bU bb 152 (bF bG):=OM.sound mixed aq (b_ _) (by rintro _ _ ⟨_,⟨_,_,_,rfl,_⟩,_⟩;rfl) uL
def nr:bU bb 230 (bF bG):=acA.sound mixed aq (b_ _) (by rintro _ _ ⟨_,⟨_,_,_,rfl,_⟩,_⟩;rfl) Sd
def fT:bU bb 233 (bF BJ):=acP.sound mixed aq (b_ _) (by rintro _ _ ⟨_,⟨_,rfl,_⟩,_⟩;rfl) ae1
def Ae:bU bb 246 (ah Ph):=Wh.sound mixed (aaB fT (aaB nr (aaB jo aq))) (ax _) (by rintro _ _ ⟨_,⟨_,rfl,_⟩,_⟩;rfl) Yf
def vV:bU bb 247 (bF Ab):=agd.sound mixed (aaB fT aq) (b_ _) (by rintro _ _ ⟨_,⟨_,_,rfl,_⟩,_⟩;rfl) akf
def sE:bU bb 248 (sB ag6):=Th.rJ mixed (aaB fT aq) (by rintro _ _ _ ⟨_,_,_,rfl,_⟩;rfl) al1
def jr:bU bb 197 (ah iu):=ac8.sound mixed aq (ax _) (by rintro _ _ ⟨_,⟨_,rfl,_⟩,_⟩;rfl) agW
def tE:bU bb 208 (c8 true aae):=TO.sound mixed (aaB Ae (aaB vV (aaB sE (aaB jr (aaB jo aq))))) (dQ _ _) (by rintro _ _ ⟨_,⟨_,rfl,_⟩,_⟩;rfl) Wc
def vk:bU bb 83 (bF YX):=alj.sound mixed aq (b_ _) (by rintro _ _ ⟨_,⟨_,_,rfl,_⟩,_⟩;rfl) aqO
def j_:bU bb 137 (ah wV):=CX.sound mixed aq (ax _) (by rintro _ _ ⟨_,⟨_,_,rfl,_⟩,_⟩;rfl) afU
def FP:bU bb 249 (ah aaw):=acK.sound mixed (aaB nr aq) (ax _) (by rintro _ _ ⟨_,⟨_,rfl,_⟩,_⟩;rfl) afr
def FM:bU bb 250 (c8 true Z0):=adl.sound mixed aq (dQ _ _) (by rintro _ _ ⟨_,⟨_,_,rfl,_⟩,_⟩;rfl) agJ
def lu:bU bb 196 (ah wB):=aaM.sound mixed (aaB tE aq) (ax _) (by rintro _ _ ⟨_,⟨_,rfl,_⟩,_⟩;rfl) ac2
def vL:bU bb 210 (c8 true G7):=QA.sound mixed (aaB lu (aaB fT (aaB FP (aaB FM aq)))) (dQ _ _) (by rintro _ _ ⟨_,⟨_,rfl,_⟩,_⟩;rfl) Uu
def nF:bU bb 281 (bF AM):=uY.sound mixed aq (b_ _) (by rintro _ _ ⟨_,⟨_,_,rfl,_⟩,_⟩;rfl) Uk
def wF:bU bb 266 (bF AM):=MN.sound mixed (aaB nF aq) (b_ _) (by rintro _ _ ⟨_,⟨_,_,rfl,_⟩,_⟩;rfl) Wt
def ka:bU bb 209 (ah xr):=Js.sound mixed aq (ax _) (by rintro _ _ ⟨_,⟨_,rfl,_⟩,_⟩;rfl) Ro
def tU:bU bb 153 (ah E9):=EF.sound mixed (aaB fA (aaB kB aq)) (ax _) (by rintro _ _ ⟨_,⟨_,rfl,_⟩,_⟩;rfl) afP
def FN:bU bb 213 (sB agl):=Wz.rJ mixed aq (by rintro _ _ _ ⟨_,_,_,_,rfl,_⟩;rfl) als
def Ai:bU bb 211 (ah Tj):=TG.sound mixed aq (ax _) (by rintro _ _ ⟨_,⟨_,_,rfl,_⟩,_⟩;rfl) acG
def wN:bU bb 212 (ah Uo):=MJ.sound mixed aq (ax _) (by rintro _ _ ⟨_,⟨_,_,rfl,_⟩,_⟩;rfl) adm
def Ak:bU bb 155 (ah Tp):=MZ.sound mixed (aaB vL (aaB Ai (aaB wN (aaB FN (aaB ka aq))))) (ax _) (by rintro _ _ ⟨_,⟨_,rfl,_⟩,_⟩;rfl) ac6
def lR:bU bb 107 (ah Ci):=aaz.sound mixed aq (ax _) (by rintro _ _ ⟨_,⟨_,rfl,_⟩,_⟩;rfl) CI
def bY:bU bb 111 (ah gB):=agP.sound mixed aq (ax _) (by rintro _ _ ⟨_,⟨_,rfl,_⟩,_⟩;rfl) Pc
def bL:bU bb 113 (ah dG):=VM.sound mixed aq (ax _) (by rintro _ _ ⟨_,⟨_,_,rfl,_⟩,_⟩;rfl) MW
def ri:bU bb 193 (bF bG):=VT.sound mixed aq (b_ _) (by rintro _ _ ⟨_,⟨_,_,_,rfl,_⟩,_⟩;rfl) MU
def dw:bU bb 115 (bF GM):=VF.sound mixed aq (b_ _) (by rintro _ _ ⟨_,⟨_,rfl,_⟩,_⟩;rfl) ML
def d_:bU bb 124 (ah bA):=MV.sound mixed aq (ax _) (by rintro _ _ ⟨_,⟨_,rfl,_⟩,_⟩;rfl) Gg
def rm:bU bb 218 (ah K4):=WM.sound mixed aq (ax _) (by rintro _ _ ⟨_,⟨_,_,rfl,_⟩,_⟩;rfl) Nf
def kz:bU bb 220 (bF K7):=Eh.sound mixed aq (b_ _) (by rintro _ _ ⟨_,⟨_,rfl,_⟩,_⟩;rfl) IV
def cS:bU bb 179 (bF oA):=yF.sound mixed aq (b_ _) (by rintro _ _ ⟨_,⟨_,rfl,_⟩,_⟩;rfl) CC
def fI:bU bb 143 (ah AN):=Fk.sound mixed aq (ax _) (by rintro _ _ ⟨_,⟨_,_,rfl,_⟩,_⟩;rfl) JG
def lS:bU bb 204 (ah QP):=HP.sound mixed (aaB fI aq) (ax _) (by rintro _ _ ⟨_,⟨_,_,rfl,_⟩,_⟩;rfl) MB
def lf:bU bb 194 (ah Uc):=acJ.sound mixed (aaB dw aq) (ax _) (by rintro _ _ ⟨_,⟨_,rfl,_⟩,_⟩;rfl) Rp
def jb:bU bb 114 (c8 false dL):=QY.sound mixed aq (dQ _ _) (by rintro _ _ ⟨_,⟨_,rfl,_⟩,_⟩;rfl) IQ
def lN:bU bb 219 (ah Sx):=GF.sound mixed aq (ax _) (by rintro _ _ ⟨_,⟨_,_,rfl,_⟩,_⟩;rfl) agq
def fV:bU bb 217 (bF uy):=yM.sound mixed aq (b_ _) (by rintro _ _ ⟨_,⟨_,_,rfl,_⟩,_⟩;rfl) Pp
def qX:bU bb 133 (ah Tm):=Cq.sound mixed (aaB fV aq) (ax _) (by rintro _ _ ⟨_,⟨_,_,rfl,_⟩,_⟩;rfl) adk
def nH:bU bb 88 (bF Hj):=ya.sound mixed (aaB qX aq) (b_ _) (by rintro _ _ ⟨_,⟨_,_,rfl,_⟩,_⟩;rfl) SU
def jn:bU bb 142 (c8 true xj):=Zs.sound mixed (aaB d_ (aaB tO aq)) (dQ _ _) (by rintro _ _ ⟨_,⟨_,rfl,_⟩,_⟩;rfl) ajH
def jt:bU bb 144 (ah Mn):=aa6.sound mixed (aaB vC aq) (ax _) (by rintro _ _ ⟨_,⟨_,rfl,_⟩,_⟩;rfl) ajC
def qC:bU bb 177 (ah Lb):=CD.sound mixed (aaB d_ (aaB nH (aaB fV (aaB dw (aaB tO aq))))) (ax _) (by rintro _ _ ⟨_,⟨_,rfl,_⟩,_⟩;rfl) V_
def mq:bU bb 67 (ah dm):=Pw.sound mixed (aaB bL (aaB d_ (aaB nU (aaB bY aq)))) (ax _) (by rintro _ _ ⟨_,⟨_,rfl,_⟩,_⟩;rfl) Wy
def gC:bU bb 135 (c8 true YI):=jS.sound mixed aq (dQ _ _) (by rintro _ _ ⟨_,⟨_,rfl,_⟩,_⟩;rfl) aga
def eP:bU bb 195 (bF Ji):=Ac.sound mixed (aaB s8 aq) (b_ _) (by rintro _ _ ⟨_,⟨_,_,rfl,_⟩,_⟩;rfl) T6
def sY:bU bb 140 (ah Mk):=EH.sound mixed (aaB d_ (aaB ri (aaB bL (aaB bY (aaB jn (aaB lf (aaB eP aq))))))) (ax _) (by rintro _ _ ⟨_,⟨_,_,_,rfl,_⟩,_⟩;rfl) acp
def GA:bU bb 256 (sB arH):=Wn.rJ mixed (aaB vV aq) (by rintro _ _ _ ⟨_,_,rfl,_⟩;rfl) aqm
def y6:bU bb 231 (sB abp):=Pu.rJ mixed (aaB GA aq) (by rintro _ _ _ ⟨_,_,_,rfl,_⟩;rfl) agx
def Nn:bU bb 200 (c8 true YT):=ail.sound mixed (aaB fT aq) (dQ _ _) (by rintro _ _ ⟨_,⟨_,_,_,rfl,_⟩,_⟩;rfl) alA
def yp:bU bb 116 (c8 true Hv):=VZ.sound mixed aq (dQ _ _) (by rintro _ _ ⟨_,⟨_,rfl,_⟩,_⟩;rfl) Tv
def bo:bU bb 55 (c8 false dK):=Jn.sound mixed (aaB yp aq) (dQ _ _) (by rintro _ _ ⟨_,⟨_,rfl,_⟩,_⟩;rfl) acO
def nN:bU bb 18 (bF jW):=V8.sound mixed aq (b_ _) (by rintro _ _ ⟨_,⟨_,_,rfl,_⟩,_⟩;rfl) T0
def Bl:bU bb 138 (bF Av):=JT.sound mixed (aaB nN aq) (b_ _) (by rintro _ _ ⟨_,⟨_,_,rfl,_⟩,_⟩;rfl) aiS
def jy:bU bb 66 (ah gB):=ahj.sound mixed aq (ax _) (by rintro _ _ ⟨_,⟨_,rfl,_⟩,_⟩;rfl) Y1
def dj:bU bb 68 (ah dG):=agB.sound mixed aq (ax _) (by rintro _ _ ⟨_,⟨_,_,rfl,_⟩,_⟩;rfl) YD
def dT:bU bb 92 (bF bG):=af0.sound mixed aq (b_ _) (by rintro _ _ ⟨_,⟨_,_,_,rfl,_⟩,_⟩;rfl) YM
def fU:bU bb 86 (ah bA):=acy.sound mixed aq (ax _) (by rintro _ _ ⟨_,⟨_,rfl,_⟩,_⟩;rfl) SM
def AA:bU bb 69 (c8 true UL):=aj1.sound mixed (aaB fU (aaB tO aq)) (dQ _ _) (by rintro _ _ ⟨_,⟨_,rfl,_⟩,_⟩;rfl) ac3
def y5:bU bb 73 (sB afc):=ahn.rJ mixed aq (by rintro _ _ _ ⟨_,_,_,rfl,_⟩;rfl) amG
def oy:bU bb 75 (c8 true HB):=Q5.sound mixed (aaB AA (aaB y5 aq)) (dQ _ _) (by rintro _ _ ⟨_,⟨_,rfl,_⟩,_⟩;rfl) ajZ
def Vg:bU bb 78 (ah ajs):=anc.sound mixed aq (ax _) (by rintro _ _ ⟨_,⟨_,rfl,_⟩,_⟩;rfl) aoW
def pg:bU bb 64 (c8 true H7):=QO.sound mixed aq (dQ _ _) (by rintro _ _ ⟨_,⟨_,_,_,rfl,_⟩,_⟩;rfl) afX
def yY:bU bb 77 (bF amX):=acz.sound mixed aq (b_ _) (by rintro _ _ ⟨_,⟨_,rfl,_⟩,_⟩;rfl) agR
def D1:bU bb 103 (bF ajL):=SK.sound mixed (aaB dT aq) (b_ _) (by rintro _ _ ⟨_,⟨_,_,rfl,_⟩,_⟩;rfl) XI
def DU:bU bb 76 (c8 true aeM):=VX.sound mixed (aaB oy (aaB yY (aaB D1 aq))) (dQ _ _) (by rintro _ _ ⟨_,⟨_,_,_,rfl,_⟩,_⟩;rfl) akP
def bx:bU bb 134 (c8 false Np):=iH.sound mixed aq (dQ _ _) (by rintro _ _ ⟨_,⟨_,rfl,_⟩,_⟩;rfl) ajh
def mQ:bU bb 100 (c8 false GC):=VD.sound mixed (aaB bx aq) (dQ _ _) (by rintro _ _ ⟨_,⟨_,_,_,_,rfl,_⟩,_⟩;rfl) amd
def iQ:bU bb 90 (c8 false Ks):=Xz.sound mixed (aaB bx (aaB gC aq)) (dQ _ _) (by rintro _ _ ⟨_,⟨_,rfl,_⟩,_⟩;rfl) aoy
def sJ:bU bb 53 (c8 true BU):=aj2.sound mixed aq (dQ _ _) (by rintro _ _ ⟨_,⟨_,rfl,_⟩,_⟩;rfl) akp
def Pq:bU bb 81 (ah aeN):=ahe.sound mixed (aaB sJ (aaB vk aq)) (ax _) (by rintro _ _ ⟨_,⟨_,rfl,_⟩,_⟩;rfl) alF
def Q6:bU bb 46 (bF aeY):=akr.sound mixed aq (b_ _) (by rintro _ _ ⟨_,⟨_,_,rfl,_⟩,_⟩;rfl) amT
def zP:bU bb 96 (bF ZT):=Qn.sound mixed (aaB Bl aq) (b_ _) (by rintro _ _ ⟨_,⟨_,_,rfl,_⟩,_⟩;rfl) aji
def zV:bU bb 65 (c8 false aa7):=QD.sound mixed (aaB bo aq) (dQ _ _) (by rintro _ _ ⟨_,⟨_,rfl,_⟩,_⟩;rfl) aky
def eO:bU bb 15 (c8 false qM):=aj6.sound mixed (aaB zV aq) (dQ _ _) (by rintro _ _ ⟨_,⟨_,rfl,_⟩,_⟩;rfl) alu
def Aa:bU bb 34 (bF Uq):=ajw.sound mixed (aaB zP aq) (b_ _) (by rintro _ _ ⟨_,⟨_,_,rfl,_⟩,_⟩;rfl) am9
def rO:bU bb 31 (ah bA):=acr.sound mixed aq (ax _) (by rintro _ _ ⟨_,⟨_,rfl,_⟩,_⟩;rfl) acj
def x7:bU bb 82 (bF NK):=agI.sound mixed (aaB dq aq) (b_ _) (by rintro _ _ ⟨_,⟨_,_,rfl,_⟩,_⟩;rfl) akm
def lT:bU bb 94 (c8 true A4):=Dn.sound mixed (aaB rO (aaB x7 aq)) (dQ _ _) (by rintro _ _ ⟨_,⟨_,rfl,_⟩,_⟩;rfl) C2
def vt:bU bb 19 (c8 true A3):=ag8.sound mixed (aaB sJ aq) (dQ _ _) (by rintro _ _ ⟨_,⟨_,rfl,_⟩,_⟩;rfl) afz
def N1:bU bb 84 (c8 true abT):=akE.sound mixed (aaB rO (aaB x7 aq)) (dQ _ _) (by rintro _ _ ⟨_,⟨_,rfl,_⟩,_⟩;rfl) akJ
def vv:bU bb 183 (sB aps):=VC.rJ mixed aq (by rintro _ _ _ ⟨_,_,_,_,_,rfl,_⟩;rfl) arj
def G0:bU bb 130 adt:=ac7.sound mixed (aaB wg (aaB Gl (aaB rZ (aaB vv aq)))) (azL _ _) (by rintro _ _ ⟨_,_,_,rfl,_⟩;rfl) ag2
def yS:bU bb 80 (ah alV):=acw.sound mixed (aaB yA aq) (ax _) (by rintro _ _ ⟨_,⟨_,_,rfl,_⟩,_⟩;rfl) aq_
def iK:bU bb 79 aoV:=mC.sound mixed (aaB yS aq) (azL _ _) (by rintro _ _ ⟨_,_,rfl,_⟩;rfl) ao1
def KT:bU bb 26 (c8 true Ty):=ahg.sound mixed (aaB vt (aaB N1 aq)) (dQ _ _) (by rintro _ _ ⟨_,⟨_,rfl,_⟩,_⟩;rfl) ahk
def sR:bU bb 13 (bF Wr):=amU.sound mixed aq (b_ _) (by rintro _ _ ⟨_,⟨_,rfl,_⟩,_⟩;rfl) aqF
def ru:bU bb 17 (ah adG):=acF.sound mixed (aaB bw aq) (ax _) (by rintro _ _ ⟨_,⟨_,_,rfl,_⟩,_⟩;rfl) aq2
def xK:bU bb 226 XZ:=Ni.sound mixed (aaB lq (aaB ua aq)) (azL _ _) (by rintro _ _ ⟨_,_,_,rfl,_⟩;rfl) agy
def GQ:bU bb 190 (sB aov):=Wf.rJ mixed (aaB xK (aaB rZ (aaB vv aq))) (by rintro _ _ _ ⟨_,_,_,_,_,rfl,_⟩;rfl) aoG
def Dp:bU bb 136 Ye:=acn.sound mixed (aaB wg (aaB GQ aq)) (azL _ _) (by rintro _ _ ⟨_,_,_,_,rfl,_⟩;rfl) agw
def Hf:bU bb 93 (c8 true Pf):=ad7.sound mixed (aaB Dp aq) (dQ _ _) (by rintro _ _ ⟨_,⟨_,_,_,rfl,_⟩,_⟩;rfl) ag1
def Oa:bU bb 62 (c8 false akG):=afS.sound mixed (aaB we aq) (dQ _ _) (by rintro _ _ ⟨_,⟨rfl,_⟩,_⟩;rfl) an0
def hH:bU bb 95 (ah kx):=Bo.sound mixed (aaB lR (aaB dq (aaB j_ aq))) (ax _) (by rintro _ _ ⟨_,⟨_,rfl,_⟩,_⟩;rfl) Br
def jR:bU bb 44 (c8 false kA):=CP.sound mixed (aaB lT (aaB eO (aaB hH (aaB bo aq)))) (dQ _ _) (by rintro _ _ ⟨_,⟨_,_,_,rfl,_⟩,_⟩;rfl) CR
def vU:bU bb 228 (ah gB):=afb.sound mixed aq (ax _) (by rintro _ _ ⟨_,⟨_,rfl,_⟩,_⟩;rfl) SN
def pQ:bU bb 131 (ah Lo):=aqk
def mH:bU bb 297 (ah qc):=af6
def jJ:bU bb 258 L7:=alX aq
def qk:bU bb 206 (c8 true Xi):=aus
def vB:bU bb 235 aeV:=Hi.sound mixed (aaB jJ aq) (azL _ _) (by rintro _ _ ⟨_,rfl,_⟩;rfl) ahK
def tX:bU bb 257 auV:=Bs.sound mixed (aaB jJ aq) (azL _ _) (by rintro _ _ ⟨_,rfl,_⟩;rfl) VJ
def vM:bU bb 234 Ti:=Km.sound mixed (aaB tX aq) (azL _ _) (by rintro _ _ ⟨_,rfl,_⟩;rfl) acY
def rj:bU bb 236 (ah Xj):=TY.sound mixed (aaB pQ aq) (ax _) (by rintro _ _ ⟨_,⟨_,rfl,_⟩,_⟩;rfl) aiO
def mB:bU bb 203 By:=I4.sound mixed (aaB rj (aaB Aq (aaB eZ (aaB kL (aaB yC (aaB vG (aaB mA aq))))))) (azL _ _) (by rintro _ _ ⟨_,rfl,_⟩;rfl) To
def uO:bU bb 280 (ah qc):=MC.sound mixed (aaB mH aq) (ax _) (by rintro _ _ ⟨_,⟨_,_,rfl,_⟩,_⟩;rfl) Wb
def zi:bU bb 265 (bF L8):=Nk.sound mixed (aaB uO aq) (b_ _) (by rintro _ _ ⟨_,⟨_,rfl,_⟩,_⟩;rfl) RU
def vN:bU bb 279 (bF O9):=M6.sound mixed (aaB zi aq) (b_ _) (by rintro _ _ ⟨_,⟨_,rfl,_⟩,_⟩;rfl) RS
def oh:bU bb 296 (ah HK):=zj.sound mixed (aaB vN aq) (ax _) (by rintro _ _ ⟨_,⟨_,rfl,_⟩,_⟩;rfl) Un
def lv:bU bb 278 (bF yH):=vI.sound mixed (aaB oh aq) (b_ _) (by rintro _ _ ⟨_,⟨_,rfl,_⟩,_⟩;rfl) Nq
def yv:bU bb 264 (bF OW):=S9.sound mixed (aaB lv aq) (b_ _) (by rintro _ _ ⟨_,⟨_,rfl,_⟩,_⟩;rfl) ZY
def B9:bU bb 245 (bF Uw):=V3.sound mixed (aaB yv (aaB wF aq)) (b_ _) (by rintro _ _ ⟨_,⟨_,rfl,_⟩,_⟩;rfl) adg
def B0:bU bb 207 (ah LY):=Sg.sound mixed (aaB D9 (aaB B9 (aaB Hz aq))) (ax _) (by rintro _ _ ⟨_,⟨_,rfl,_⟩,_⟩;rfl) VR
def yD:bU bb 150 (bF EV):=O8.sound mixed (aaB qk aq) (b_ _) (by rintro _ _ ⟨_,⟨_,rfl,_⟩,_⟩;rfl) ae5
def vJ:bU bb 151 (ah Ps):=MX.sound mixed (aaB B0 (aaB fA aq)) (ax _) (by rintro _ _ ⟨_,⟨_,rfl,_⟩,_⟩;rfl) Z7
def wm:bU bb 154 (ah Fa):=KZ.sound mixed (aaB qk (aaB fA (aaB kB (aaB oK (aaB tE (aaB ka aq)))))) (ax _) (by rintro _ _ ⟨_,⟨_,rfl,_⟩,_⟩;rfl) afi
def dO:bU bb 112 (ah nC):=Bp.sound mixed (aaB yD (aaB fA (aaB vJ (aaB oK (aaB kB (aaB tU (aaB wm (aaB Ak aq)))))))) (ax _) (by rintro _ _ ⟨_,⟨_,rfl,_⟩,_⟩;rfl) JJ
def iI:bU bb 165 (ah EI):=Zn.sound mixed (aaB pQ aq) (ax _) (by rintro _ _ ⟨_,⟨_,rfl,_⟩,_⟩;rfl) zQ
def ij:bU bb 157 (ah Bf):=WH.sound mixed (aaB iI aq) (ax _) (by rintro _ _ ⟨_,⟨_,_,rfl,_⟩,_⟩;rfl) Na
def iB:bU bb 202 P8:=IL.sound mixed (aaB vB (aaB vM aq)) (azL _ _) (by rintro _ _ ⟨_,rfl,_⟩;rfl) aiX
def wS:bU bb 205 (ah agE):=IS.sound mixed (aaB ij aq) (ax _) (by rintro _ _ ⟨_,⟨_,_,rfl,_⟩,_⟩;rfl) ahL
def cw:bU bb 145 (ah tN):=Fx.sound mixed (aaB cS (aaB iB (aaB lS (aaB mB (aaB wS (aaB iI (aaB fI aq))))))) (ax _) (by rintro _ _ ⟨_,⟨_,rfl,_⟩,_⟩;rfl) acW
def rN:bU bb 178 (ah OX):=Ei.sound mixed (aaB lf (aaB cS (aaB rm (aaB iB (aaB lN (aaB kz (aaB bL aq))))))) (ax _) (by rintro _ _ ⟨_,⟨_,rfl,_⟩,_⟩;rfl) abw
def mw:bU bb 176 (ah Dy):=OK.sound mixed (aaB dO (aaB bL (aaB bY aq))) (ax _) (by rintro _ _ ⟨_,⟨_,rfl,_⟩,_⟩;rfl) VO
def rA:bU bb 180 (ah OG):=DR.sound mixed (aaB iB (aaB lS (aaB mB (aaB lf (aaB iI aq))))) (ax _) (by rintro _ _ ⟨_,⟨_,rfl,_⟩,_⟩;rfl) abH
def cY:bU bb 127 xt:=acu.sound mixed (aaB mq (aaB mw (aaB bY (aaB jb (aaB qC (aaB rN (aaB cS (aaB rA aq)))))))) (azL _ _) (by rintro _ _ ⟨_,_,rfl,_⟩;rfl) ajq
def sf:bU bb 72 (ah tQ):=Kp.sound mixed (aaB cY aq) (ax _) (by rintro _ _ ⟨_,⟨_,_,rfl,_⟩,_⟩;rfl) Q4
def gZ:bU bb 102 (c8 true fi):=Pe.sound mixed (aaB cY (aaB cw aq)) (dQ _ _) (by rintro _ _ ⟨_,⟨_,_,rfl,_⟩,_⟩;rfl) VN
def El:bU bb 232 (sB ak4):=SW.rJ mixed (aaB sE (aaB jo (aaB jr (aaB vU aq)))) (by rintro _ _ _ ⟨_,rfl,_⟩;rfl) al3
def Kg:bU bb 199 (c8 true Xb):=aiQ.sound mixed (aaB y6 (aaB El aq)) (dQ _ _) (by rintro _ _ ⟨_,⟨_,rfl,_⟩,_⟩;rfl) ai7
def ym:bU bb 198 (ah Dz):=Ud.sound mixed (aaB lu (aaB nr (aaB jo (aaB jr (aaB vU aq))))) (ax _) (by rintro _ _ ⟨_,⟨_,_,_,rfl,_⟩,_⟩;rfl) VV
def Ad:bU bb 141 (c8 true Hs):=VE.sound mixed (aaB lu (aaB jr (aaB ym (aaB Nn (aaB Kg aq))))) (dQ _ _) (by rintro _ _ ⟨_,⟨_,_,_,rfl,_⟩,_⟩;rfl) aao
def EY:bU bb 101 (c8 false W9):=ZH.sound mixed (aaB cY (aaB sY (aaB Ad (aaB dO (aaB jn (aaB fI (aaB jt aq))))))) (dQ _ _) (by rintro _ _ ⟨_,⟨_,_,_,_,rfl,_⟩,_⟩;rfl) aj8
def sa:bU bb 71 (sB ajO):=OH.rJ mixed (aaB sf (aaB y5 (aaB dj aq))) (by rintro _ _ _ ⟨_,_,_,_,_,rfl,_⟩;rfl) aoC
def qg:bU bb 70 (sB akk):=wI.rJ mixed (aaB sa aq) (by rintro _ _ _ ⟨_,_,_,_,rfl,_⟩;rfl) anm
def uc:bU bb 20 (c8 true aco):=Vm.sound mixed (aaB mq (aaB dj (aaB jy (aaB AA (aaB sa (aaB qg aq)))))) (dQ _ _) (by rintro _ _ ⟨_,⟨_,rfl,_⟩,_⟩;rfl) abN
def eF:bU bb 74 (c8 false q6):=ajc.sound mixed (aaB uc aq) (dQ _ _) (by rintro _ _ ⟨_,⟨_,rfl,_⟩,_⟩;rfl) acR
def DE:bU bb 63 (c8 false ZQ):=X0.sound mixed (aaB eF (aaB dT (aaB dj (aaB jy aq)))) (dQ _ _) (by rintro _ _ ⟨_,⟨_,_,rfl,_⟩,_⟩;rfl) adu
def rC:bU bb 99 (c8 false Lq):=Ri.sound mixed (aaB dT (aaB EY (aaB mQ aq))) (dQ _ _) (by rintro _ _ ⟨_,⟨_,_,rfl,_⟩,_⟩;rfl) akA
def xT:bU bb 23 (c8 true H4):=ahl.sound mixed (aaB mq (aaB bo (aaB sf (aaB Pq aq)))) (dQ _ _) (by rintro _ _ ⟨_,⟨_,rfl,_⟩,_⟩;rfl) ahd
def tw:bU bb 14 (c8 false A8):=aci.sound mixed (aaB DE (aaB pg aq)) (dQ _ _) (by rintro _ _ ⟨_,⟨_,_,rfl,_⟩,_⟩;rfl) agD
def Jg:bU bb 85 (c8 false TM):=adZ.sound mixed (aaB eF (aaB dT (aaB dj (aaB jy (aaB iQ (aaB fU (aaB G0 (aaB pQ aq)))))))) (dQ _ _) (by rintro _ _ ⟨_,⟨_,_,_,_,rfl,_⟩,_⟩;rfl) ag_
def DD:bU bb 27 (c8 false IE):=acQ.sound mixed (aaB fU (aaB Jg aq)) (dQ _ _) (by rintro _ _ ⟨_,⟨_,_,rfl,_⟩,_⟩;rfl) afw
def wk:bU bb 22 (c8 true HW):=aef.sound mixed (aaB eF (aaB yY (aaB DU (aaB Vg (aaB yS (aaB iK (aaB pg aq))))))) (dQ _ _) (by rintro _ _ ⟨_,⟨_,rfl,_⟩,_⟩;rfl) ah1
def ox:bU bb 16 (ah OA):=abG.sound mixed (aaB xT aq) (ax _) (by rintro _ _ ⟨_,⟨_,rfl,_⟩,_⟩;rfl) aow
def DV:bU bb 42 (c8 false N7):=acv.sound mixed (aaB eF (aaB rC (aaB mQ (aaB fU (aaB Hf (aaB iQ aq)))))) (dQ _ _) (by rintro _ _ ⟨_,⟨_,_,rfl,_⟩,_⟩;rfl) af5
def L3:bU bb 43 (c8 false Y_):=ahF.sound mixed (aaB ru (aaB bo (aaB EY (aaB eO aq)))) (dQ _ _) (by rintro _ _ ⟨_,⟨_,_,rfl,_⟩,_⟩;rfl) ajn
def KV:bU bb 45 (c8 true akH):=acH.sound mixed (aaB bo (aaB gZ aq)) (dQ _ _) (by rintro _ _ ⟨_,⟨_,rfl,_⟩,_⟩;rfl) aou
def nW:bU bb 12 (ah KL):=ahh.sound mixed (aaB Oa (aaB wk (aaB tw (aaB DV (aaB DD (aaB nN aq)))))) (ax _) (by rintro _ _ ⟨_,⟨rfl,_⟩,_⟩;rfl) an8
def gK:bU bb 7 (ah CQ):=tu.sound mixed (aaB nW (aaB sR (aaB eO (aaB DV (aaB ox (aaB L3 (aaB jR (aaB KV (aaB Aa (aaB Q6 (aaB KT aq))))))))))) (ax _) (by rintro _ _ ⟨_,⟨_,_,rfl,_⟩,_⟩;rfl) Ax
end Go.Dv.Try
