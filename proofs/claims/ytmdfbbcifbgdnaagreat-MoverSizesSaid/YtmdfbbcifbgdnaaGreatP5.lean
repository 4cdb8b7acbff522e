/- Own work: parts of the proof, shortened and laid together by a tool of our own. -/
import Derived.Test.YtmdfbbcifbgdnaaGreatP4
import Derived.KernelRfl
set_option linter.defProp false
set_option linter.unusedSimpArgs false
set_option linter.unusedVariables false
open Int renaming toNat_natCast→MM
open List renaming take_append_of_le_length→Y9, getElem?_take_of_lt→UI, map_map→S8, take_of_length_le→OC, getElem?_eq_none→Ng, length_replicate→L1, map_congr_left→RI, length_append→K3, length_take→LI, flatMap_def→XO, length_map→Md
open Option renaming getD_some→Rx
namespace Go.Dv.Try
open Go Go.Dv
def CV{l:List Bool}{n:Nat}(h:l.length=n)(hn:n<=4096):nu (mG l) n=0∧∀i,bH (mG l) i=1↔i<n/\l[i]?=some true:=by
 subst h;obtain⟨h1,h2⟩:=DF hn;refine⟨h1,λi=>?_⟩;rw[h2 i];by_cases hi:i<l.length
 ·rw[if_pos hi,List.getElem?_eq_getElem hi,Rx];cases l[i]<;>simp[mS,hi]
 ·rw[if_neg hi];simp[hi]
def FY{d:Dk}{i:Nat}:(ey d)[i]?=some true↔i<d.n/\bH d.mp i=1:=by
 by_cases h:i<d.n
 ·rw[C0 h];simp[h]
 ·rw[Ng (by rw[fg];omega)];simp[h]
def IJ{v:Vo}(h:Dj v){c:Nat}(h1:1<=c)(h2:c<=v.d.n):(Fx v c->fB (bp v) c 1 v.d.n=0)/\(¬Fx v c->fB (bp v) c 1 v.d.n=18)/\gz (bp v) c 1 v.d.n=Gh v c:=by
 have hk:=P0 h.1 h.2;obtain⟨d1,d2,d3⟩:=rX hk.dk;have hz:fx (c:Int)=0:=by unfold fx;rw[if_pos ab]
 have hh:aJI (λi=>decide (bH v.d.mp i=1)) ((c:Nat):Int).toNat (((v.d.n:Nat):Int).toNat-((c:Nat):Int).toNat)=true↔¬Fx v c:=by
  rw[Ru,MM,MM];unfold Fx;constructor
  ·rintro⟨j,g1,g2,g3⟩ g;exact g j g1 ab (of_decide_eq_true g3)
  ·intro g;apply Classical.byContradiction;intro k;exact g λj g1 g2 g3=>k ⟨j,g1,ab,decide_eq_true g3⟩
 have hr:aos v.d.mp v.d.n c=if aJI (λi=>decide (bH v.d.mp i=1)) ((c:Nat):Int).toNat (((v.d.n:Nat):Int).toNat-((c:Nat):Int).toNat)then 18 else 0:=by
  unfold aos;rw[d3,if_neg (λg=>g rfl),hz,if_neg (λg=>g rfl)]
 have hE:fB (bp v) c 1 v.d.n=aos v.d.mp v.d.n c:=by
  unfold fB;rw[x_,if_neg (λg=>g h.2),if_pos ab];rfl
 have e1:Fx v c->fB (bp v) c 1 v.d.n=0:=λg=>by rw[hE,hr,if_neg (λk=>hh.1 k g)]
 have e2:¬Fx v c->fB (bp v) c 1 v.d.n=18:=λg=>by rw[hE,hr,if_pos (hh.2 g)]
 refine⟨e1,e2,?_⟩;by_cases g:Fx v c
 case neg=>unfold gz Gh;rw[e2 g,if_pos ao,if_neg g]
 have hm:axA v.d.mp v.d.n c=mG ((ey v.d).take c):=by
  have h0:=e1 g;rw[hE]at h0;have hl:((ey v.d).take c).length=c:=by rw[LI,fg];omega
  obtain⟨m1,m2⟩:=CV hl ab;unfold axA;rw[if_pos h0,MM];refine F7 (asp (mK _) ab) m1 λi hi=>?_
  rw[KI (mK _),if_pos hi,m2 i,UI hi,FY];exact⟨λk=>⟨hi,ab,k⟩,λk=>k.2.2⟩
 have hb:nh (bp v) c=v.d.a_.take (c*256):=by
  show v.d.a_.take (min (v.d.n:Int) c*256).toNat++alf [0] (max 0 ((c:Int)-v.d.n)*256).toNat=_;rw[show(min (v.d.n:Int) c*256).toNat=c*256 by omega,show(max 0 ((c:Int)-v.d.n)*256).toNat=0 by omega];exact List.append_nil _
 unfold gz Gh;rw[e1 g,if_neg (λk=>k rfl),if_pos g,hb,show axA (bp v).d.mp (bp v).d.n c=_ from hm];show(⟨_,.sl ((v.st.l.map aB).map aB)⟩:Vo)=_;rw[S8];rfl
def FL{v:Vo}{c:Nat}(h:v.d.n<=c):(EB v c).length=c:=by unfold EB;rw[K3,fg,L1];omega
def qK{v:Vo}{c i:Nat}:(EB v c)[i]?=some true↔i<v.d.n/\bH v.d.mp i=1:=by
 unfold EB;by_cases h:i<v.d.n
 ·rw[List.getElem?_append_left (by rw[fg];exact h),FY]
 ·rw[List.getElem?_append_right (by rw[fg];omega),List.getElem?_replicate];constructor
  ·intro g;split at g<;>cases g
  ·intro g;exact absurd g.1 h
def Jf{v:Vo}(h:Dj v){c:Nat}(h1:v.d.n<=c)(h2:c<=512):fB (bp v) c v.d.n 512=0/\gz (bp v) c v.d.n 512=jR v c:=by
 have hk:=P0 h.1 h.2;obtain⟨d1,d2,d3⟩:=rX hk.dk;have hz:fx (c:Int)=0:=by unfold fx;rw[if_pos ab]
 have hr:aos v.d.mp v.d.n c=0:=by
  unfold aos;rw[d3,if_neg (λg=>g rfl),hz,if_neg (λg=>g rfl),show((v.d.n:Nat):Int).toNat-((c:Nat):Int).toNat=0 by omega];rfl
 have hE:fB (bp v) c v.d.n 512=0:=by
  unfold fB;rw[x_,if_neg (λg=>g h.2),if_pos ab];exact hr
 refine⟨hE,?_⟩;have hm:axA v.d.mp v.d.n c=mG (EB v c):=by
  obtain⟨m1,m2⟩:=CV (FL h1) ab;unfold axA;rw[if_pos hr,MM];refine F7 (asp (mK _) ab) m1 λi hi=>?_
  rw[KI (mK _),if_pos hi,m2 i,qK];refine⟨λk=>⟨hi,?_,k⟩,λk=>k.2.2⟩;obtain⟨_,_,b3,_,b5⟩:=iR d3;apply Classical.byContradiction;intro g;by_cases q:i<8*v.d.mp.length
  ·rw[b5 i q ab]at k;cases k
  ·unfold bH at k;rw[Ng ab]at k;simp at k
 have hb:nh (bp v) c=v.d.a_++ai ((c-v.d.n)*256):=by
  show v.d.a_.take (min (v.d.n:Int) c*256).toNat++alf [0] (max 0 ((c:Int)-v.d.n)*256).toNat=_;have hn:v.d.n=v.d.a_.length/256:=rfl;rw[OC ab,show(max 0 ((c:Int)-v.d.n)*256).toNat=(c-v.d.n)*256 by omega,Zh]
 unfold gz jR;rw[hE,if_neg (λk=>k rfl),hb,show axA (bp v).d.mp (bp v).d.n c=_ from hm];show(⟨_,.sl ((v.st.l.map aB).map aB)⟩:Vo)=_;rw[S8];rfl
structure JA(d e:Dk)(a:At):Prop where
 len:d.n<=e.n
 dk:gm e=0
 bit:∀c:Nat,(c:Int)∈az a.rn.l->bH e.mp c=1
 cl:∀c:Nat,(c:Int)∈az a.rn.l->eU e.a_ c=eU d.a_ c
def IP{d e:Dk}{a:At}(h:JA d e a)(h0:aK d a=0):aK e a=0:=by
 obtain⟨ok,oo⟩:=bc h0;have hn:=h.len;have mE:∀x∈az a.rn.l,x≠ -1->eU e.a_ x.toNat=eU d.a_ x.toNat:=λx hx h1=>by
  have hb:=(ok.pl x hx).resolve_left h1;exact h.cl _ (by rw[show((x.toNat:Nat):Int)=x by omega];exact hx)
 have sL:(az a.rn.l).map (tS e.a_)=(az a.rn.l).map (tS d.a_):=RI λx hx=>by
  unfold tS;split
  ·rfl
  ·rename_i g;exact mE x hx g
 have fM:∀k,dF e.a_ (bq (az a.rn.l) k)=dF d.a_ (bq (az a.rn.l) k):=λk=>by
  unfold dF;rw[XO,XO,<-pZ,<-pZ,sL]
 have aDX:∀v,qw e.a_ v (chunks (az a.rn.l))=qw d.a_ v (chunks (az a.rn.l)):=λv=>by
  unfold qw TE;congr 1;refine RI λk hk=>?_
  have hk:=List.mem_range.1 hk;rw[om]at hk;rw[p_ _ FO,Rx];unfold xC;rw[fM]
 by_cases c_:a.rs=true
 ·unfold aK;rw[h.dk,ok.str,if_neg aj,if_neg aj,if_pos c_]
 ·have c_:a.rs=false:=by simpa using c_
  obtain⟨o1,o2,o3⟩:=oo c_;have hp:pG e (az a.rn.l)=0:=by
   unfold pG;rw[if_neg,if_neg]
   ·rintro⟨x,hx,h1,h2⟩;have hb:=(ok.pl x hx).resolve_left h1;have:=h.bit x.toNat (by rw[show((x.toNat:Nat):Int)=x by omega];exact hx);omega
   ·rintro⟨x,hx,h1⟩;rcases ok.pl x hx with h2|h2
    ·omega
    ·unfold Dk.n at h1 hn;omega
  unfold aK;rw[h.dk,ok.str,if_neg aj,if_neg aj,if_neg qD,hp,if_neg aj];unfold iW;rw[if_pos o2,if_neg aj];split
  ·rename_i g;rw[aDX];exact o3 g
  ·rfl
def Jd{v:Vo}(h:Dj v){c:Nat}(h1:v.d.n<=c)(h2:c<=512):Dj (jR v c)/\(jR v c).d.n=c:=by
 obtain⟨o1,o2,o3,o4⟩:=AZ.1 h.2;obtain⟨d1,d2,d3⟩:=rX o1;obtain⟨m1,m2⟩:=CV (FL h1) ab;have hn:v.d.n=v.d.a_.length/256:=rfl;have hD:(jR v c).d=⟨v.d.a_++ai ((c-v.d.n)*256),mG (EB v c)⟩:=rfl;have hL:(jR v c).st.l=v.st.l.map aB:=rfl;have hl:(jR v c).d.a_.length=c*256:=by rw[hD];show(_++ai _).length=_;rw[K3,show ∀k,(ai k).length=k from λk=>L1];omega
 have M8:(jR v c).d.n=c:=by unfold Dk.n;rw[hl];omega
 have hd:gm (jR v c).d=0:=by
  unfold gm;rw[hl,M8,if_neg ab,if_neg ab];exact m1
 refine⟨⟨⟨pR (L0 hd),λa ha=>?_,by rw[hL,Md];exact h.1.2.2⟩,AZ.2 ⟨hd,by rw[hL,Md];exact o2,λa ha=>?_,?_⟩⟩,M8⟩
 ·rw[hL]at ha;obtain⟨b,hb,rfl⟩:=List.mem_map.1 ha;exact h.1.2.1 b hb
 ·rw[hL]at ha;obtain⟨b,hb,rfl⟩:=List.mem_map.1 ha;rw[kU];have h0:=o3 b hb;have aU:∀k:Nat,(k:Int)∈az b.rn.l->k<v.d.n:=λk hk=>by
   rcases(bc h0).1.pl _ hk with g|g
   ·omega
   ·unfold Dk.n;omega
  refine IP ⟨ab,hd,λk hk=>(m2 k).2 ⟨by have:=aU k hk;omega,qK.2 ⟨aU k hk,QX h0 hk⟩⟩,λk hk=>?_⟩ h0;have:=aU k hk;rw[hD,axK,axK];show((v.d.a_++_).drop _).take _=_;rw[List.drop_append_of_le_length ab,Y9 ef]
 ·rw[hL,List.pairwise_map];exact o4
def back_eq{v:Vo}(h:Dj v){c:Nat}(h0:1<=v.d.n)(h1:v.d.n<=c)(h2:c<=512):fB (bp (jR v c)) v.d.n 1 (jR v c).d.n=0/\aqV (gz (bp (jR v c)) v.d.n 1 (jR v c).d.n) v:=by
 obtain⟨g1,g2⟩:=Jd h h1 h2;obtain⟨o1,_,_,_⟩:=AZ.1 h.2;obtain⟨d1,d2,d3⟩:=rX o1;obtain⟨m1,m2⟩:=CV (FL h1) ab;have hn:v.d.n=v.d.a_.length/256:=rfl;obtain⟨s1,s2,s3⟩:=IJ g1 (c:=v.d.n) h0 ab;have hb:Fx (jR v c) v.d.n:=λk k1 k2 k3=>by
  have:=qK.1 ((m2 k).1 k3).2;omega
 refine⟨s1 hb,?_⟩;rw[s3];unfold Gh;rw[if_pos hb];refine⟨?_,?_,?_⟩
 ·show(v.d.a_++_).take (v.d.n*256)=_;rw[Y9 ab,OC ab]
 ·show mG ((ey (jR v c).d).take v.d.n)=_;have hl:((ey (jR v c).d).take v.d.n).length=v.d.n:=by rw[LI,fg];omega
  obtain⟨q1,q2⟩:=CV hl ab;refine F7 q1 d3 λi hi=>?_
  rw[q2 i,UI hi,FY,g2];constructor
  ·rintro⟨_,_,k⟩;exact(qK.1 ((m2 i).1 k).2).2
  ·intro k;exact⟨hi,ab,(m2 i).2 ⟨ab,qK.2 ⟨hi,k⟩⟩⟩
 ·show((v.st.l.map aB).map aB).map aB=_;rw[S8,S8];rfl
def Hp(ps:List PV)(x:PV):Prop:=∃(v:Vo) (c:Int) (t:Rn),ps=[v.pv,pI c,t.pv]/\x=pB true
def Jl{v:Vo}{c:Int}{t:Rn}(h:wX v≠0):(∀lo hi,fB (bp v) c lo hi=wX v/\gz (bp v) c lo hi=TZ)/\wS (bp v) t=wX v/\A3 (bp v) t=TZ:=by
 have h2:wX (bp v)≠0:=by rw[x_];exact h
 have e1:∀lo hi,fB (bp v) c lo hi=wX v:=λlo hi=>by unfold fB;rw[if_pos h2,x_]
 have eo:IM (bp v) t=wX v:=by unfold IM;rw[if_pos h2,x_]
 have e2:wS (bp v) t=wX v:=by unfold wS;rw[eo,if_pos h]
 refine⟨λlo hi=>⟨e1 lo hi,?_⟩,e2,?_⟩
 ·unfold gz;rw[e1,if_pos h]
 ·unfold A3;rw[e2,if_pos h]
def IZ{v:Vo}{c lo hi:Int}(h:wX v=0)(hc:¬(lo<=c/\c<=hi)):fB (bp v) c lo hi=2/\gz (bp v) c lo hi=TZ:=by
 have e:fB (bp v) c lo hi=2:=by unfold fB;rw[x_,if_neg (λg=>g h),if_neg hc]
 refine⟨e,?_⟩;unfold gz;rw[e,if_pos ao]
def I9{v:Vo}{c:Int}(h:Dj v):(¬(1<=c/\c<=v.d.n)/\fB (bp v) c 1 v.d.n=2/\gz (bp v) c 1 v.d.n=TZ)\/
 ((1<=c/\c<=v.d.n)/\BN [v.pv,pI c] (.tup [.pv (gz (bp v) c 1 v.d.n).pv,.pv (pB true)])/\fB (bp v) c 1 v.d.n=0/\eW (gz (bp v) c 1 v.d.n))\/
 ((1<=c/\c<=v.d.n)/\BN [v.pv,pI c] (.tup [.pv TZ.pv,.pv (pB false)])/\fB (bp v) c 1 v.d.n=18/\gz (bp v) c 1 v.d.n=TZ):=by
 by_cases hc:1<=c/\c<=v.d.n
 case neg=>exact .inl ⟨hc,IZ h.2 hc⟩
 obtain⟨k,rfl⟩:∃k:Nat,c=k:=⟨c.toNat,ab⟩
 have hk:=P0 h.1 h.2;obtain⟨s1,s2,s3⟩:=IJ h (c:=k) ab ab;by_cases g:Fx v k
 ·refine .inr (.inl ⟨hc,⟨v,k,true,rfl,⟨hk,ab,⟨λ_=>g,λ_=>rfl⟩⟩,by rw[s3]⟩,s1 g,?_⟩);rw[s3];unfold Gh;rw[if_pos g];exact av1 (v:=v) hk.N
 ·have ez:Gh v k=TZ:=by unfold Gh;rw[if_neg g]
  exact .inr (.inr ⟨hc,⟨v,k,false,rfl,⟨hk,ab,⟨λe=>cz,λe=>absurd e g⟩⟩,by rw[ez]⟩,s2 g,by rw[s3,ez]⟩)
def Jc(v G:Vo):Prop:=qM [G.pv] (.agg [.pv (.str G.d.a_),.pv (.str G.d.mp),.fresh 41 11 ((G.st.l.map aB).map At.pv)])∧∃B:Vo,IE [(bp G).pv,pI v.d.n] (.tup [.pv B.pv,.pv (pI 0)])/\Uq [B.pv,v.pv] True
def Jb{v:Vo}{c:Int}(h:Dj v):(¬(v.d.n<=c/\c<=512)/\fB (bp v) c v.d.n 512=2/\gz (bp v) c v.d.n 512=TZ)\/
 ((v.d.n<=c/\c<=512)/\Fc [v.pv,pI c] (.pv (gz (bp v) c v.d.n 512).pv)/\fB (bp v) c v.d.n 512=0/\eW (gz (bp v) c v.d.n 512)/\(1<=v.d.n->Jc v (gz (bp v) c v.d.n 512))):=by
 by_cases hc:v.d.n<=c/\c<=512
 case neg=>exact .inl ⟨hc,IZ h.2 hc⟩
 obtain⟨k,rfl⟩:∃k:Nat,c=k:=⟨c.toNat,ab⟩
 have hk:=P0 h.1 h.2;obtain⟨g1,g2⟩:=Jf h (c:=k) ab ab;obtain⟨q1,q2⟩:=Jd h (c:=k) ab ab;have hN:eW (jR v k):=av1 (v:=v) hk.N;refine .inr ⟨hc,⟨v,k,rfl,⟨hk,ab,ab⟩,by rw[g2]⟩,g1,by rw[g2];exact hN,λh0=>?_⟩;rw[g2];obtain⟨b1,b2⟩:=back_eq h h0 (c:=k) ab ab;refine⟨⟨jR v k,rfl,hN,rfl⟩,gz (bp (jR v k)) v.d.n 1 (jR v k).d.n,⟨bp (jR v k),v.d.n,rfl,Og q1.1,by rw[show(bp (jR v k)).d.n=(jR v k).d.n from rfl,b1]⟩,_,v,rfl,⟨?_,hk.N⟩,(eq_true b2).symm⟩;have h3:=(IJ q1 (c:=v.d.n) h0 ab).2.2;rw[h3];unfold Gh;split
 ·exact av1 (v:=jR v k) hN
 ·exact amO
def I2{v:Vo}{t:Rn}(h:Dj v):(gp [v.pv,t.pv] (pI 2)/\wS (bp v) t=2/\A3 (bp v) t=TZ)\/
 (gp [v.pv,t.pv] (pI 0)/\zU [v.pv,t.pv] (.tup [.pv (A3 (bp v) t).pv,.pv (pB true)])/\wS (bp v) t=0/\eW (A3 (bp v) t))\/
 (gp [v.pv,t.pv] (pI 0)/\zU [v.pv,t.pv] (.tup [.pv TZ.pv,.pv (pB false)])/\wS (bp v) t=18/\A3 (bp v) t=TZ):=by
 have hk:=P0 h.1 h.2;have AP:=P0 (Og h.1) (axS h).2;have mW:v.d.a_.length<=1000000:=h.1.1.1;by_cases hp:uR v.d t
 case neg=>
  have ho:IM (bp v) t=2:=by unfold IM;rw[x_,if_neg (λg=>g h.2),if_neg (show ¬uR (bp v).d t from hp)]
  have e:wS (bp v) t=2:=by unfold wS;rw[ho,if_pos ao]
  exact .inl ⟨⟨v,t,rfl,mW,by rw[if_neg hp]⟩,e,by unfold A3;rw[e,if_pos ao]⟩
 obtain⟨b1,b2⟩:=Ju hk AP h.2 hp;have um:gp [v.pv,t.pv] (pI 0):=⟨v,t,rfl,mW,by rw[if_pos hp]⟩
 by_cases g:0<vt v t t.n.toNat
 ·rw[if_pos g]at b1;have e:IC v t=TZ:=by unfold IC;rw[if_pos g]
  exact .inr (.inr ⟨um,⟨v,t,rfl,⟨hk,hp⟩,by rw[e,decide_eq_false (λk=>k g)]⟩,b1,by rw[b2,e]⟩)
 ·rw[if_neg g]at b1;refine .inr (.inl ⟨um,⟨v,t,rfl,⟨hk,hp⟩,by rw[b2,decide_eq_true g]⟩,b1,?_⟩);rw[b2];unfold IC;rw[if_neg g];exact av1 (v:=v) hk.N
set_option maxHeartbeats 16000000 in
def Zi:MT (ay [(12,ah KL),(13,bF Wr),(15,c8 false qM),(27,c8 false IE),(28,c8 false Dr),(29,c8 false tB),(16,ah OA),(30,bF acq),(31,ah bA),(32,bF bG),(33,c8 false BN),(34,bF Uq),(35,c8 false Fc),(36,ah gp),(37,c8 false zU)]) si (ah Hp):=by
 rintro _ K ⟨_,⟨v,c,t,rfl,rfl⟩,hK⟩;have lD:KL [] (pB true):=⟨rfl,rfl⟩
 have cT:Wr [v.pv] _:=⟨v,rfl,rfl⟩
 by_cases hf:ahf v
 case neg=>
  (repeat'((conv=>whnf);first|refine⟨_,lD,?_⟩|refine⟨_,cT,?_⟩|refine aw hf ?_|refine aN ?_|refine bP ?_|fail))<;>try(conv=>whnf)
  exact⟨.pv (pB true),rfl,trivial,hK⟩
 by_cases hg:c<=90\/512<c
 case neg=>
  (repeat'((conv=>whnf);first|refine⟨_,lD,?_⟩|refine⟨_,cT,?_⟩|refine au hf ?_|refine au ab ?_|refine aN ?_|fail))<;>try(conv=>whnf)
  exact⟨.pv (pB true),rfl,trivial,hK⟩
 obtain⟨hb,hr,hn⟩:=hf.b;have hC:qM [v.pv] _:=⟨v,rfl,hn,rfl⟩
 have yB:IE [(bp v).pv,pI c] (.tup [.pv (gz (bp v) c 1 v.d.n).pv,.pv (pI (fB (bp v) c 1 v.d.n))]):=⟨bp v,c,rfl,Og hb,rfl⟩
 have n9:Dr [(bp v).pv,pI c] (.tup [.pv (gz (bp v) c v.d.n 512).pv,.pv (pI (fB (bp v) c v.d.n 512))]):=⟨bp v,c,rfl,Og hb,rfl⟩
 have kE:tB [(bp v).pv,t.pv] (.tup [.pv (A3 (bp v) t).pv,.pv (pI (wS (bp v) t))]):=⟨bp v,t,rfl,Og hb,rfl⟩
 have fh:OA [v.pv] _:=⟨v,rfl,⟨hb,hr⟩,rfl⟩
 have tT:acq [TZ.pv] _:=⟨TZ,rfl,amO,rfl⟩
 have mD:aqV TZ TZ:=⟨rfl,rfl,rfl⟩
 by_cases he:wX v=0
 case neg=>
  obtain⟨s1,s2,s3⟩:=Jl (c:=c) (t:=t) he;rw[(s1 _ _).1,(s1 _ _).2]at yB n9;rw[s2,s3]at kE;rcases hg with hg|hg<;>
  ·(repeat'((conv=>whnf);first|refine⟨_,lD,?_⟩|refine⟨_,cT,?_⟩|refine au hf ?_|refine au ab ?_|refine aw ab ?_|refine⟨_,hC,?_⟩|refine⟨_,yB,?_⟩|refine⟨_,n9,?_⟩|refine⟨_,kE,?_⟩|refine⟨_,fh,?_⟩|refine⟨_,tT,?_⟩|refine aN ?_|refine bT ?_|fail))<;>try(conv=>whnf)
   exact⟨.pv (pB true),rfl,trivial,hK⟩
 have hG:Dj v:=⟨hb,he⟩
 rw[he]at fh;have mE:bA [v.d.pv] (pI v.d.n):=⟨v.d,rfl,hb.1.1,rfl⟩
 have Vt:bG [pI c,pI 1,pI v.d.n] (1<=c/\c<=v.d.n):=⟨c,1,v.d.n,rfl,rfl⟩
 have WT:bG [pI c,pI v.d.n,pI 512] (v.d.n<=c/\c<=512):=⟨c,v.d.n,512,rfl,rfl⟩
 have same:∀X:Vo,eW X->Uq [X.pv,X.pv] True:=λX h=>⟨X,X,rfl,⟨h,h⟩,(eq_true ⟨rfl,rfl,rfl⟩).symm⟩
 have a1:=I9 (c:=c) hG;have a2:=Jb (c:=c) hG;have a3:=I2 (t:=t) hG;generalize gz (bp v) c 1 v.d.n=SV at*;generalize fB (bp v) c 1 v.d.n=SE at*;generalize gz (bp v) c v.d.n 512=GV at*;generalize fB (bp v) c v.d.n 512=GE at*;generalize A3 (bp v) t=BV at*;generalize wS (bp v) t=BE at*;have KN:v.d.n<=512:=(rX (P0 hb he).dk).2.1;have a2:(¬(v.d.n<=c/\c<=512)/\GE=2/\GV=TZ)\/((v.d.n<=c/\c<=512)/\Fc [v.pv,pI c] (.pv GV.pv)/\GE=0/\eW GV/\(v.d.n=0\/(1<=v.d.n/\Jc v GV))):=a2.imp id λ⟨g1,g2,g3,g4,g5⟩=>⟨g1,g2,g3,g4,by
  by_cases h0:1<=v.d.n
  ·exact .inr ⟨h0,g5 h0⟩
  ·exact .inl ab⟩
 rcases hg with hg|hg
 all_goals rcases a1 with⟨w1,rfl,rfl⟩|⟨w1,hS,rfl,nS⟩|⟨w1,hS,rfl,rfl⟩
 all_goals rcases a2 with⟨w2,rfl,rfl⟩|⟨w2,Kr,rfl,nG,h0|⟨h0,Ku,B,Kv,Ky⟩⟩
 all_goals first|(exfalso;omega)|skip
 all_goals rcases a3 with⟨hp,rfl,rfl⟩|⟨hp,hM,rfl,nB⟩|⟨hp,hM,rfl,rfl⟩
 all_goals(repeat'((conv=>whnf);first|refine⟨_,lD,?_⟩|refine⟨_,cT,?_⟩|refine au hf ?_|refine au rfl ?_|refine aw (λh=>h rfl) ?_|refine au w1 ?_|refine aw w1 ?_|refine au w2 ?_|refine aw w2 ?_|refine au mD ?_|refine au trivial ?_|refine au ao ?_|refine aw ao ?_|refine au ab ?_|refine aw ab ?_|refine⟨_,hC,?_⟩|refine⟨_,yB,?_⟩|refine⟨_,n9,?_⟩|refine⟨_,kE,?_⟩|refine⟨_,fh,?_⟩|refine⟨_,mE,?_⟩|refine⟨_,Vt,?_⟩|refine⟨_,tT,?_⟩|refine⟨_,WT,?_⟩|refine⟨_,hS,?_⟩|refine⟨_,Kr,?_⟩|refine⟨_,Ku,?_⟩|refine⟨_,Kv,?_⟩|refine⟨_,Ky,?_⟩|refine⟨_,hp,?_⟩|refine⟨_,hM,?_⟩|refine⟨_,hM,?_⟩|refine⟨_,same _ nS,?_⟩|refine⟨_,same _ nG,?_⟩|refine⟨_,same _ nB,?_⟩|refine bT ?_|fail))<;>try(conv=>whnf)
 all_goals exact⟨.pv (pB true),rfl,trivial,hK⟩
abbrev aAz:List CT:=[.int .i64,.str,.int .i64,.int .i64,.bool,.str,.int .i64,.sl true [.int .i64,.int .i64],.int .i64,.int .i64,.int .i64]
abbrev kG:Bool×List CT:=(true,[.str,.str,.sl true [.int .i64,.str,.int .i64,.int .i64,.bool,.str,.int .i64,.sl true [.int .i64,.int .i64],.int .i64,.int .i64,.int .i64]])
abbrev tu:Bool×List CT:=(false,[.int .i64])
def ajp{y:PV}(h:∃zs,y=.agg zs/\ou [.str,.str,.sl true aAz] zs):∃v:Vo,y=v.pv:=by
 obtain⟨zs,rfl,h⟩:=h;simp only[ou]at h;obtain⟨_,_,rfl,hb,_,_,rfl,hm,_,_,rfl,hs,rfl⟩:=h;simp only[O1]at hb hm hs;obtain⟨b,rfl,_⟩:=hb;obtain⟨m,rfl,_⟩:=hm;obtain⟨aC,rfl,_,he⟩:=hs;obtain⟨l,rfl,_⟩:=awZ (g:=At.pv) (q:=λ_=>True) λz hz=>by
  obtain⟨a,ha⟩:=auD ((he z hz).1 trivial);exact⟨a,ha,trivial⟩
 exact⟨⟨⟨b,m⟩,.sl l⟩,rfl⟩
abbrev JX:Bool×List CT:=(true,[.int .i64,.int .i64])
def Jh{y:PV}(h:∃zs,y=.agg zs/\ou [.int .i64,.int .i64] zs):∃t:Rn,y=t.pv:=by
 obtain⟨zs,rfl,h⟩:=h;simp only[ou,O1]at h;obtain⟨_,_,rfl,⟨s,rfl,_⟩,_,_,rfl,⟨n,rfl,_⟩,rfl⟩:=h;exact⟨⟨s,n⟩,rfl⟩
def Jv:∀xs,xS [kG,tu,JX] xs->(ah Hp).run xs λr=>r=.pv (.bool true):=λxs h=>by
 simp only[xS]at h;obtain⟨y,_,rfl,h1,_,u,_,rfl,_,h3,w,_,rfl,h4,_,rfl⟩:=h;obtain⟨v,rfl⟩:=ajp (h1 trivial);obtain⟨n,rfl,_⟩:=ax2 (h3 trivial);obtain⟨t,rfl⟩:=Jh (h4 trivial);exact⟨_,⟨v,n,t,rfl,rfl⟩,rfl⟩
def dQ(lone:Bool)(R:List PV->RV->Prop):ajo (c8 lone R):=⟨λe=>cz,λ_ _ h=>h,rfl⟩
def apT:ajo BX:=by
 refine⟨λ_=>⟨rfl,λps K h=>?_⟩,λ_ _ h=>h,rfl⟩;obtain⟨a,b,rfl,h1,h2⟩:=h;by_cases ha:a=0
 ·exact⟨pI b,h2 ha,λK' h=>⟨a,b,rfl,λh'=>absurd ha h',λ_=>h⟩⟩
 ·exact⟨pI a,h1 ha,λK' h=>⟨a,b,rfl,λ_=>h,λh'=>absurd h' ha⟩⟩
def SN:MT (ay []) RZ (ah gB):=kS
def rQ:bU bb 293 (ah jj):=Qi.sound mixed aq (ax _) (by rintro _ _ ⟨_,⟨_,rfl,_⟩,_⟩;rfl) I0
def th:bU bb 276 (ah jj):=Wl.sound mixed (aaB rQ aq) (ax _) (by rintro _ _ ⟨_,⟨_,rfl,_⟩,_⟩;rfl) No
def fJ:bU bb 260 (ah rU):=Ul.sound mixed (aaB th aq) (ax _) (by rintro _ _ ⟨_,⟨_,rfl,_⟩,_⟩;rfl) Ki
def ja:bU bb 295 (ah fF):=Ov.sound mixed (aaB fJ aq) (ax _) (by rintro _ _ ⟨_,⟨_,rfl,_⟩,_⟩;rfl) Hr
def rP:bU bb 294 (ah jl):=Q7.sound mixed aq (ax _) (by rintro _ _ ⟨_,⟨_,_,_,rfl,_⟩,_⟩;rfl) IT
def eZ:bU bb 239 (ah l5):=Rh.sound mixed aq (ax _) (by rintro _ _ ⟨_,⟨_,_,rfl,_⟩,_⟩;rfl) IX
def kL:bU bb 238 (ah qZ):=Tz.sound mixed aq (ax _) (by rintro _ _ ⟨_,⟨_,rfl,_⟩,_⟩;rfl) JC
def ca:bU bb 263 (ah cm):=Sh.sound mixed aq (ax _) (by rintro _ _ ⟨_,⟨_,rfl,_⟩,_⟩;rfl) I5
def c7:bU bb 261 (ah dW):=WK.sound mixed (aaB ca aq) (ax _) (by rintro _ _ ⟨_,⟨_,rfl,_⟩,_⟩;rfl) MP
def vD:bU bb 277 (ah wY):=MA.sound mixed (aaB ca (aaB eZ (aaB kL (aaB rP (aaB ja (aaB c7 aq)))))) (ax _) (by rintro _ _ ⟨_,⟨_,_,rfl,_⟩,_⟩;rfl) Zl
def q8:bU bb 262 oZ:=GU.sound mixed (aaB vD (aaB c7 aq)) (azL _ _) (by rintro _ _ ⟨_,rfl,_⟩;rfl) Qo
def vG:bU bb 241 tf:=M3.sound mixed (aaB ca aq) (azL _ _) (by rintro _ _ ⟨_,rfl,_⟩;rfl) Y2
def pF:bU bb 259 (ah P5):=Si.sound mixed aq (ax _) (by rintro _ _ ⟨_,⟨_,rfl,_⟩,_⟩;rfl) ae4
def Aq:bU bb 237 abr:=RH.sound mixed (aaB pF (aaB eZ aq)) (azL _ _) (by rintro _ _ ⟨_,_,rfl,_⟩;rfl) afO
def yC:bU bb 240 S4:=QZ.sound mixed (aaB fJ (aaB pF (aaB c7 (aaB q8 aq)))) (azL _ _) (by rintro _ _ ⟨_,rfl,_⟩;rfl) afI
def we:bU bb 97 (ah Xs):=Qc.sound mixed aq (ax _) (by rintro _ _ ⟨_,⟨_,rfl,_⟩,_⟩;rfl) akb
def mA:bU bb 242 (ah GS):=MR.sound mixed aq (ax _) (by rintro _ _ ⟨_,⟨_,rfl,_⟩,_⟩;rfl) YU
def uP:bU bb 170 (ah lz):=Iz.sound mixed aq (ax _) (by rintro _ _ ⟨_,⟨_,_,_,rfl,_⟩,_⟩;rfl) M7
def ej:bU bb 172 (ah jw):=Vz.sound mixed aq (ax _) (by rintro _ _ ⟨_,⟨_,_,rfl,_⟩,_⟩;rfl) Nc
def dq:bU bb 129 (ah jQ):=ag5.sound mixed aq (ax _) (by rintro _ _ ⟨_,⟨_,rfl,_⟩,_⟩;rfl) Te
def vS:bU bb 171 (ah ae6):=acL.sound mixed aq (ax _) (by rintro _ _ ⟨_,⟨_,rfl,_⟩,_⟩;rfl) amE
def nU:bU bb 125 (ah HN):=JV.sound mixed (aaB uP (aaB vS (aaB ej aq))) (ax _) (by rintro _ _ ⟨_,⟨_,_,rfl,_⟩,_⟩;rfl) PQ
def lq:bU bb 170 (bF bG):=Iz.sound mixed aq (b_ _) (by rintro _ _ ⟨_,⟨_,_,_,rfl,_⟩,_⟩;rfl) acU
def bw:bU bb 32 (bF bG):=DQ.sound mixed aq (b_ _) (by rintro _ _ ⟨_,⟨_,_,_,rfl,_⟩,_⟩;rfl) acX
def rZ:bU bb 175 (ah awJ):=Pr.sound mixed aq (ax _) (by rintro _ _ ⟨_,⟨_,_,_,rfl,_⟩,_⟩;rfl) as7
def wg:bU bb 173 afd:=acs.sound mixed (aaB nU aq) (azL _ _) (by rintro _ _ ⟨_,_,rfl,_⟩;rfl) alR
def dN:bU bb 174 BX:=Yw.sound mixed aq apT (by rintro _ _ ⟨_,_,rfl,_⟩;rfl) agS
def tO:bU bb 126 XF:=X7.sound mixed (aaB wg (aaB dN (aaB ej (aaB lq (aaB rZ aq))))) (azL _ _) (by rintro _ _ ⟨_,_,_,rfl,_⟩;rfl) ahs
def Gl:bU bb 182 agu:=ZZ.sound mixed (aaB lq (aaB vS aq)) (azL _ _) (by rintro _ _ ⟨_,rfl,_⟩;rfl) aip
def vC:bU bb 201 JN:=Pg.sound mixed (aaB Gl aq) (azL _ _) (by rintro _ _ ⟨_,rfl,_⟩;rfl) V4
def s8:bU bb 227 Sn:=DK.sound mixed aq (azL _ _) (by rintro _ _ ⟨_,_,rfl,_⟩;rfl) agM
def ua:bU bb 195 ah2:=Ac.sound mixed (aaB s8 aq) (azL _ _) (by rintro _ _ ⟨_,_,rfl,_⟩;rfl) VP
def En:bU bb 181 (ah afu):=VK.sound mixed aq (ax _) (by rintro _ _ ⟨_,⟨_,rfl,_⟩,_⟩;rfl) ahJ
def yA:bU bb 128 (ah Ts):=Q_.sound mixed (aaB En aq) (ax _) (by rintro _ _ ⟨_,⟨_,_,rfl,_⟩,_⟩;rfl) adf
def kB:bU bb 148 (ah gB):=QM.sound mixed aq (ax _) (by rintro _ _ ⟨_,⟨_,rfl,_⟩,_⟩;rfl) kS
def Hz:bU bb 243 (ah gB):=adw.sound mixed aq (ax _) (by rintro _ _ ⟨_,⟨_,rfl,_⟩,_⟩;rfl) Qv
def fA:bU bb 149 (ah dG):=OP.sound mixed aq (ax _) (by rintro _ _ ⟨_,⟨_,_,rfl,_⟩,_⟩;rfl) jP
def D9:bU bb 244 (ah dG):=ZC.sound mixed aq (ax _) (by rintro _ _ ⟨_,⟨_,_,rfl,_⟩,_⟩;rfl) OQ
def jo:bU bb 229 (ah dG):=ac9.sound mixed aq (ax _) (by rintro _ _ ⟨_,⟨_,_,rfl,_⟩,_⟩;rfl) RG
def oK:bU bb 152 (bF bG):=OM.sound mixed aq (b_ _) (by rintro _ _ ⟨_,⟨_,_,_,rfl,_⟩,_⟩;rfl) uL
def nr:bU bb 230 (bF bG):=acA.sound mixed aq (b_ _) (by rintro _ _ ⟨_,⟨_,_,_,rfl,_⟩,_⟩;rfl) Sd
def fT:bU bb 233 (bF BJ):=acP.sound mixed aq (b_ _) (by rintro _ _ ⟨_,⟨_,rfl,_⟩,_⟩;rfl) ae1
def Ae:bU bb 246 (ah Ph):=Wh.sound mixed (aaB fT (aaB nr (aaB jo aq))) (ax _) (by rintro _ _ ⟨_,⟨_,rfl,_⟩,_⟩;rfl) Yf
def vV:bU bb 247 (bF Ab):=agd.sound mixed (aaB fT aq) (b_ _) (by rintro _ _ ⟨_,⟨_,_,rfl,_⟩,_⟩;rfl) akf
def sE:bU bb 248 (sB ag6):=Th.rJ mixed (aaB fT aq) (by rintro _ _ _ ⟨_,_,_,rfl,_⟩;rfl) al1
def jr:bU bb 197 (ah iu):=ac8.sound mixed aq (ax _) (by rintro _ _ ⟨_,⟨_,rfl,_⟩,_⟩;rfl) agW
def tE:bU bb 208 (c8 true aae):=TO.sound mixed (aaB Ae (aaB vV (aaB sE (aaB jr (aaB jo aq))))) (dQ _ _) (by rintro _ _ ⟨_,⟨_,rfl,_⟩,_⟩;rfl) Wc
def vk:bU bb 83 (bF YX):=alj.sound mixed aq (b_ _) (by rintro _ _ ⟨_,⟨_,_,rfl,_⟩,_⟩;rfl) aqO
def j_:bU bb 137 (ah wV):=CX.sound mixed aq (ax _) (by rintro _ _ ⟨_,⟨_,_,rfl,_⟩,_⟩;rfl) afU
def FP:bU bb 249 (ah aaw):=acK.sound mixed (aaB nr aq) (ax _) (by rintro _ _ ⟨_,⟨_,rfl,_⟩,_⟩;rfl) afr
def FM:bU bb 250 (c8 true Z0):=adl.sound mixed aq (dQ _ _) (by rintro _ _ ⟨_,⟨_,_,rfl,_⟩,_⟩;rfl) agJ
def lu:bU bb 196 (ah wB):=aaM.sound mixed (aaB tE aq) (ax _) (by rintro _ _ ⟨_,⟨_,rfl,_⟩,_⟩;rfl) ac2
def vL:bU bb 210 (c8 true G7):=QA.sound mixed (aaB lu (aaB fT (aaB FP (aaB FM aq)))) (dQ _ _) (by rintro _ _ ⟨_,⟨_,rfl,_⟩,_⟩;rfl) Uu
def nF:bU bb 281 (bF AM):=uY.sound mixed aq (b_ _) (by rintro _ _ ⟨_,⟨_,_,rfl,_⟩,_⟩;rfl) Uk
def wF:bU bb 266 (bF AM):=MN.sound mixed (aaB nF aq) (b_ _) (by rintro _ _ ⟨_,⟨_,_,rfl,_⟩,_⟩;rfl) Wt
def ka:bU bb 209 (ah xr):=Js.sound mixed aq (ax _) (by rintro _ _ ⟨_,⟨_,rfl,_⟩,_⟩;rfl) Ro
def tU:bU bb 153 (ah E9):=EF.sound mixed (aaB fA (aaB kB aq)) (ax _) (by rintro _ _ ⟨_,⟨_,rfl,_⟩,_⟩;rfl) afP
def FN:bU bb 213 (sB agl):=Wz.rJ mixed aq (by rintro _ _ _ ⟨_,_,_,_,rfl,_⟩;rfl) als
def Ai:bU bb 211 (ah Tj):=TG.sound mixed aq (ax _) (by rintro _ _ ⟨_,⟨_,_,rfl,_⟩,_⟩;rfl) acG
def wN:bU bb 212 (ah Uo):=MJ.sound mixed aq (ax _) (by rintro _ _ ⟨_,⟨_,_,rfl,_⟩,_⟩;rfl) adm
def Ak:bU bb 155 (ah Tp):=MZ.sound mixed (aaB vL (aaB Ai (aaB wN (aaB FN (aaB ka aq))))) (ax _) (by rintro _ _ ⟨_,⟨_,rfl,_⟩,_⟩;rfl) ac6
def lR:bU bb 107 (ah Ci):=aaz.sound mixed aq (ax _) (by rintro _ _ ⟨_,⟨_,rfl,_⟩,_⟩;rfl) CI
def bY:bU bb 111 (ah gB):=agP.sound mixed aq (ax _) (by rintro _ _ ⟨_,⟨_,rfl,_⟩,_⟩;rfl) Pc
def bL:bU bb 113 (ah dG):=VM.sound mixed aq (ax _) (by rintro _ _ ⟨_,⟨_,_,rfl,_⟩,_⟩;rfl) MW
def ri:bU bb 193 (bF bG):=VT.sound mixed aq (b_ _) (by rintro _ _ ⟨_,⟨_,_,_,rfl,_⟩,_⟩;rfl) MU
def dw:bU bb 115 (bF GM):=VF.sound mixed aq (b_ _) (by rintro _ _ ⟨_,⟨_,rfl,_⟩,_⟩;rfl) ML
def d_:bU bb 124 (ah bA):=MV.sound mixed aq (ax _) (by rintro _ _ ⟨_,⟨_,rfl,_⟩,_⟩;rfl) Gg
def rm:bU bb 218 (ah K4):=WM.sound mixed aq (ax _) (by rintro _ _ ⟨_,⟨_,_,rfl,_⟩,_⟩;rfl) Nf
def kz:bU bb 220 (bF K7):=Eh.sound mixed aq (b_ _) (by rintro _ _ ⟨_,⟨_,rfl,_⟩,_⟩;rfl) IV
def cS:bU bb 179 (bF oA):=yF.sound mixed aq (b_ _) (by rintro _ _ ⟨_,⟨_,rfl,_⟩,_⟩;rfl) CC
def fI:bU bb 143 (ah AN):=Fk.sound mixed aq (ax _) (by rintro _ _ ⟨_,⟨_,_,rfl,_⟩,_⟩;rfl) JG
def lS:bU bb 204 (ah QP):=HP.sound mixed (aaB fI aq) (ax _) (by rintro _ _ ⟨_,⟨_,_,rfl,_⟩,_⟩;rfl) MB
def lf:bU bb 194 (ah Uc):=acJ.sound mixed (aaB dw aq) (ax _) (by rintro _ _ ⟨_,⟨_,rfl,_⟩,_⟩;rfl) Rp
def jb:bU bb 114 (c8 false dL):=QY.sound mixed aq (dQ _ _) (by rintro _ _ ⟨_,⟨_,rfl,_⟩,_⟩;rfl) IQ
def lN:bU bb 219 (ah Sx):=GF.sound mixed aq (ax _) (by rintro _ _ ⟨_,⟨_,_,rfl,_⟩,_⟩;rfl) agq
def fV:bU bb 217 (bF uy):=yM.sound mixed aq (b_ _) (by rintro _ _ ⟨_,⟨_,_,rfl,_⟩,_⟩;rfl) Pp
def qX:bU bb 133 (ah Tm):=Cq.sound mixed (aaB fV aq) (ax _) (by rintro _ _ ⟨_,⟨_,_,rfl,_⟩,_⟩;rfl) adk
def nH:bU bb 88 (bF Hj):=ya.sound mixed (aaB qX aq) (b_ _) (by rintro _ _ ⟨_,⟨_,_,rfl,_⟩,_⟩;rfl) SU
def jn:bU bb 142 (c8 true xj):=Zs.sound mixed (aaB d_ (aaB tO aq)) (dQ _ _) (by rintro _ _ ⟨_,⟨_,rfl,_⟩,_⟩;rfl) ajH
def jt:bU bb 144 (ah Mn):=aa6.sound mixed (aaB vC aq) (ax _) (by rintro _ _ ⟨_,⟨_,rfl,_⟩,_⟩;rfl) ajC
def qC:bU bb 177 (ah Lb):=CD.sound mixed (aaB d_ (aaB nH (aaB fV (aaB dw (aaB tO aq))))) (ax _) (by rintro _ _ ⟨_,⟨_,rfl,_⟩,_⟩;rfl) V_
def mq:bU bb 67 (ah dm):=Pw.sound mixed (aaB bL (aaB d_ (aaB nU (aaB bY aq)))) (ax _) (by rintro _ _ ⟨_,⟨_,rfl,_⟩,_⟩;rfl) Wy
def gC:bU bb 135 (c8 true YI):=jS.sound mixed aq (dQ _ _) (by rintro _ _ ⟨_,⟨_,rfl,_⟩,_⟩;rfl) aga
def eP:bU bb 195 (bF Ji):=Ac.sound mixed (aaB s8 aq) (b_ _) (by rintro _ _ ⟨_,⟨_,_,rfl,_⟩,_⟩;rfl) T6
def sY:bU bb 140 (ah Mk):=EH.sound mixed (aaB d_ (aaB ri (aaB bL (aaB bY (aaB jn (aaB lf (aaB eP aq))))))) (ax _) (by rintro _ _ ⟨_,⟨_,_,_,rfl,_⟩,_⟩;rfl) acp
def GA:bU bb 256 (sB arH):=Wn.rJ mixed (aaB vV aq) (by rintro _ _ _ ⟨_,_,rfl,_⟩;rfl) aqm
def y6:bU bb 231 (sB abp):=Pu.rJ mixed (aaB GA aq) (by rintro _ _ _ ⟨_,_,_,rfl,_⟩;rfl) agx
def Nn:bU bb 200 (c8 true YT):=ail.sound mixed (aaB fT aq) (dQ _ _) (by rintro _ _ ⟨_,⟨_,_,_,rfl,_⟩,_⟩;rfl) alA
def yp:bU bb 116 (c8 true Hv):=VZ.sound mixed aq (dQ _ _) (by rintro _ _ ⟨_,⟨_,rfl,_⟩,_⟩;rfl) Tv
def bo:bU bb 55 (c8 false dK):=Jn.sound mixed (aaB yp aq) (dQ _ _) (by rintro _ _ ⟨_,⟨_,rfl,_⟩,_⟩;rfl) acO
def nN:bU bb 18 (bF jW):=V8.sound mixed aq (b_ _) (by rintro _ _ ⟨_,⟨_,_,rfl,_⟩,_⟩;rfl) T0
def Bl:bU bb 138 (bF Av):=JT.sound mixed (aaB nN aq) (b_ _) (by rintro _ _ ⟨_,⟨_,_,rfl,_⟩,_⟩;rfl) aiS
def jy:bU bb 66 (ah gB):=ahj.sound mixed aq (ax _) (by rintro _ _ ⟨_,⟨_,rfl,_⟩,_⟩;rfl) Y1
def dj:bU bb 68 (ah dG):=agB.sound mixed aq (ax _) (by rintro _ _ ⟨_,⟨_,_,rfl,_⟩,_⟩;rfl) YD
def dT:bU bb 92 (bF bG):=af0.sound mixed aq (b_ _) (by rintro _ _ ⟨_,⟨_,_,_,rfl,_⟩,_⟩;rfl) YM
def fU:bU bb 86 (ah bA):=acy.sound mixed aq (ax _) (by rintro _ _ ⟨_,⟨_,rfl,_⟩,_⟩;rfl) SM
def vE:bU bb 132 (bF Er):=Hm.sound mixed (aaB fU (aaB dT aq)) (b_ _) (by rintro _ _ ⟨_,⟨_,_,rfl,_⟩,_⟩;rfl) Ir
def AA:bU bb 69 (c8 true UL):=aj1.sound mixed (aaB fU (aaB tO aq)) (dQ _ _) (by rintro _ _ ⟨_,⟨_,rfl,_⟩,_⟩;rfl) ac3
def y5:bU bb 73 (sB afc):=ahn.rJ mixed aq (by rintro _ _ _ ⟨_,_,_,rfl,_⟩;rfl) amG
def oy:bU bb 75 (c8 true HB):=Q5.sound mixed (aaB AA (aaB y5 aq)) (dQ _ _) (by rintro _ _ ⟨_,⟨_,rfl,_⟩,_⟩;rfl) ajZ
def Vg:bU bb 78 (ah ajs):=anc.sound mixed aq (ax _) (by rintro _ _ ⟨_,⟨_,rfl,_⟩,_⟩;rfl) aoW
def pg:bU bb 64 (c8 true H7):=QO.sound mixed aq (dQ _ _) (by rintro _ _ ⟨_,⟨_,_,_,rfl,_⟩,_⟩;rfl) afX
def yY:bU bb 77 (bF amX):=acz.sound mixed aq (b_ _) (by rintro _ _ ⟨_,⟨_,rfl,_⟩,_⟩;rfl) agR
def D1:bU bb 103 (bF ajL):=SK.sound mixed (aaB dT aq) (b_ _) (by rintro _ _ ⟨_,⟨_,_,rfl,_⟩,_⟩;rfl) XI
def DU:bU bb 76 (c8 true aeM):=VX.sound mixed (aaB oy (aaB yY (aaB D1 aq))) (dQ _ _) (by rintro _ _ ⟨_,⟨_,_,_,rfl,_⟩,_⟩;rfl) akP
def bx:bU bb 134 (c8 false Np):=iH.sound mixed aq (dQ _ _) (by rintro _ _ ⟨_,⟨_,rfl,_⟩,_⟩;rfl) ajh
def mQ:bU bb 100 (c8 false GC):=VD.sound mixed (aaB bx aq) (dQ _ _) (by rintro _ _ ⟨_,⟨_,_,_,_,rfl,_⟩,_⟩;rfl) amd
def iQ:bU bb 90 (c8 false Ks):=Xz.sound mixed (aaB bx (aaB gC aq)) (dQ _ _) (by rintro _ _ ⟨_,⟨_,rfl,_⟩,_⟩;rfl) aoy
def sJ:bU bb 53 (c8 true BU):=aj2.sound mixed aq (dQ _ _) (by rintro _ _ ⟨_,⟨_,rfl,_⟩,_⟩;rfl) akp
def Pq:bU bb 81 (ah aeN):=ahe.sound mixed (aaB sJ (aaB vk aq)) (ax _) (by rintro _ _ ⟨_,⟨_,rfl,_⟩,_⟩;rfl) alF
def zP:bU bb 96 (bF ZT):=Qn.sound mixed (aaB Bl aq) (b_ _) (by rintro _ _ ⟨_,⟨_,_,rfl,_⟩,_⟩;rfl) aji
def zV:bU bb 65 (c8 false aa7):=QD.sound mixed (aaB bo aq) (dQ _ _) (by rintro _ _ ⟨_,⟨_,rfl,_⟩,_⟩;rfl) aky
def eO:bU bb 15 (c8 false qM):=aj6.sound mixed (aaB zV aq) (dQ _ _) (by rintro _ _ ⟨_,⟨_,rfl,_⟩,_⟩;rfl) alu
def Aa:bU bb 34 (bF Uq):=ajw.sound mixed (aaB zP aq) (b_ _) (by rintro _ _ ⟨_,⟨_,_,rfl,_⟩,_⟩;rfl) am9
def rO:bU bb 31 (ah bA):=acr.sound mixed aq (ax _) (by rintro _ _ ⟨_,⟨_,rfl,_⟩,_⟩;rfl) acj
def x7:bU bb 82 (bF NK):=agI.sound mixed (aaB dq aq) (b_ _) (by rintro _ _ ⟨_,⟨_,_,rfl,_⟩,_⟩;rfl) akm
def lT:bU bb 94 (c8 true A4):=Dn.sound mixed (aaB rO (aaB x7 aq)) (dQ _ _) (by rintro _ _ ⟨_,⟨_,rfl,_⟩,_⟩;rfl) C2
def ID:bU bb 25 (c8 true NY):=agX.sound mixed (aaB rO (aaB x7 (aaB sJ (aaB vk aq)))) (dQ _ _) (by rintro _ _ ⟨_,⟨_,rfl,_⟩,_⟩;rfl) agb
def vv:bU bb 183 (sB aps):=VC.rJ mixed aq (by rintro _ _ _ ⟨_,_,_,_,_,rfl,_⟩;rfl) arj
def G0:bU bb 130 adt:=ac7.sound mixed (aaB wg (aaB Gl (aaB rZ (aaB vv aq)))) (azL _ _) (by rintro _ _ ⟨_,_,_,rfl,_⟩;rfl) ag2
def yS:bU bb 80 (ah alV):=acw.sound mixed (aaB yA aq) (ax _) (by rintro _ _ ⟨_,⟨_,_,rfl,_⟩,_⟩;rfl) aq_
def iK:bU bb 79 aoV:=mC.sound mixed (aaB yS aq) (azL _ _) (by rintro _ _ ⟨_,_,rfl,_⟩;rfl) ao1
def mb:bU bb 36 (ah gp):=F2.sound mixed (aaB rO (aaB bw aq)) (ax _) (by rintro _ _ ⟨_,⟨_,_,rfl,_⟩,_⟩;rfl) Hw
def sR:bU bb 13 (bF Wr):=amU.sound mixed aq (b_ _) (by rintro _ _ ⟨_,⟨_,rfl,_⟩,_⟩;rfl) aqF
def xK:bU bb 226 XZ:=Ni.sound mixed (aaB lq (aaB ua aq)) (azL _ _) (by rintro _ _ ⟨_,_,_,rfl,_⟩;rfl) agy
def GQ:bU bb 190 (sB aov):=Wf.rJ mixed (aaB xK (aaB rZ (aaB vv aq))) (by rintro _ _ _ ⟨_,_,_,_,_,rfl,_⟩;rfl) aoG
def Dp:bU bb 136 Ye:=acn.sound mixed (aaB wg (aaB GQ aq)) (azL _ _) (by rintro _ _ ⟨_,_,_,_,rfl,_⟩;rfl) agw
def Hf:bU bb 93 (c8 true Pf):=ad7.sound mixed (aaB Dp aq) (dQ _ _) (by rintro _ _ ⟨_,⟨_,_,_,rfl,_⟩,_⟩;rfl) ag1
def Bo:bU bb 30 (bF acq):=ai0.sound mixed (aaB Aa aq) (b_ _) (by rintro _ _ ⟨_,⟨_,rfl,_⟩,_⟩;rfl) aob
def Oa:bU bb 62 (c8 false akG):=afS.sound mixed (aaB we aq) (dQ _ _) (by rintro _ _ ⟨_,⟨rfl,_⟩,_⟩;rfl) an0
def ew:bU bb 95 (ah kx):=Gc.sound mixed (aaB lR (aaB dq (aaB j_ aq))) (ax _) (by rintro _ _ ⟨_,⟨_,rfl,_⟩,_⟩;rfl) Br
def y1:bU bb 33 (c8 false BN):=Gb.sound mixed (aaB lT (aaB eO (aaB ew aq))) (dQ _ _) (by rintro _ _ ⟨_,⟨_,_,_,rfl,_⟩,_⟩;rfl) Iq
def As:bU bb 35 (c8 false Fc):=HA.sound mixed (aaB lT (aaB eO (aaB we (aaB ew aq)))) (dQ _ _) (by rintro _ _ ⟨_,⟨_,_,rfl,_⟩,_⟩;rfl) Iw
def v7:bU bb 48 (ah DT):=Gv.sound mixed (aaB ID (aaB lR aq)) (ax _) (by rintro _ _ ⟨_,⟨_,_,rfl,_⟩,_⟩;rfl) H5
def sy:bU bb 37 (c8 false zU):=Gy.sound mixed (aaB v7 (aaB lT (aaB eO (aaB ew aq)))) (dQ _ _) (by rintro _ _ ⟨_,⟨_,_,rfl,_⟩,_⟩;rfl) Hx
def ij:bU bb 89 (bF F9):=CP.sound mixed aq (b_ _) (by rintro _ _ ⟨_,⟨_,rfl,_⟩,_⟩;rfl) DO
def gM:bU bb 91 (bF F6):=C9.sound mixed (aaB dT aq) (b_ _) (by rintro _ _ ⟨_,⟨_,_,rfl,_⟩,_⟩;rfl) DM
def fW:bU bb 133 (ah Io):=Cq.sound mixed (aaB ij aq) (ax _) (by rintro _ _ ⟨_,⟨_,rfl,_⟩,_⟩;rfl) Ix
def fi:bU bb 88 (bF F5):=ya.sound mixed (aaB fW aq) (b_ _) (by rintro _ _ ⟨_,⟨_,rfl,_⟩,_⟩;rfl) It
def gZ:bU bb 76 (c8 true DW):=VX.sound mixed (aaB oy (aaB gM aq)) (dQ _ _) (by rintro _ _ ⟨_,⟨_,_,rfl,_⟩,_⟩;rfl) H6
def vU:bU bb 228 (ah gB):=afb.sound mixed aq (ax _) (by rintro _ _ ⟨_,⟨_,rfl,_⟩,_⟩;rfl) SN
def pQ:bU bb 131 (ah Lo):=aqk
def mH:bU bb 297 (ah qc):=af6
def jJ:bU bb 258 L7:=alX aq
def qk:bU bb 206 (c8 true Xi):=aus
def vB:bU bb 235 aeV:=Hi.sound mixed (aaB jJ aq) (azL _ _) (by rintro _ _ ⟨_,rfl,_⟩;rfl) ahK
def tX:bU bb 257 auV:=Bs.sound mixed (aaB jJ aq) (azL _ _) (by rintro _ _ ⟨_,rfl,_⟩;rfl) VJ
def vM:bU bb 234 Ti:=Km.sound mixed (aaB tX aq) (azL _ _) (by rintro _ _ ⟨_,rfl,_⟩;rfl) acY
def rj:bU bb 236 (ah Xj):=TY.sound mixed (aaB pQ aq) (ax _) (by rintro _ _ ⟨_,⟨_,rfl,_⟩,_⟩;rfl) aiO
def mB:bU bb 203 By:=I4.sound mixed (aaB rj (aaB Aq (aaB eZ (aaB kL (aaB yC (aaB vG (aaB mA aq))))))) (azL _ _) (by rintro _ _ ⟨_,rfl,_⟩;rfl) To
def uO:bU bb 280 (ah qc):=MC.sound mixed (aaB mH aq) (ax _) (by rintro _ _ ⟨_,⟨_,_,rfl,_⟩,_⟩;rfl) Wb
def zi:bU bb 265 (bF L8):=Nk.sound mixed (aaB uO aq) (b_ _) (by rintro _ _ ⟨_,⟨_,rfl,_⟩,_⟩;rfl) RU
def vN:bU bb 279 (bF O9):=M6.sound mixed (aaB zi aq) (b_ _) (by rintro _ _ ⟨_,⟨_,rfl,_⟩,_⟩;rfl) RS
def oh:bU bb 296 (ah HK):=zj.sound mixed (aaB vN aq) (ax _) (by rintro _ _ ⟨_,⟨_,rfl,_⟩,_⟩;rfl) Un
def lv:bU bb 278 (bF yH):=vI.sound mixed (aaB oh aq) (b_ _) (by rintro _ _ ⟨_,⟨_,rfl,_⟩,_⟩;rfl) Nq
def yv:bU bb 264 (bF OW):=S9.sound mixed (aaB lv aq) (b_ _) (by rintro _ _ ⟨_,⟨_,rfl,_⟩,_⟩;rfl) ZY
def B9:bU bb 245 (bF Uw):=V3.sound mixed (aaB yv (aaB wF aq)) (b_ _) (by rintro _ _ ⟨_,⟨_,rfl,_⟩,_⟩;rfl) adg
def B0:bU bb 207 (ah LY):=Sg.sound mixed (aaB D9 (aaB B9 (aaB Hz aq))) (ax _) (by rintro _ _ ⟨_,⟨_,rfl,_⟩,_⟩;rfl) VR
def yD:bU bb 150 (bF EV):=O8.sound mixed (aaB qk aq) (b_ _) (by rintro _ _ ⟨_,⟨_,rfl,_⟩,_⟩;rfl) ae5
def vJ:bU bb 151 (ah Ps):=MX.sound mixed (aaB B0 (aaB fA aq)) (ax _) (by rintro _ _ ⟨_,⟨_,rfl,_⟩,_⟩;rfl) Z7
def wm:bU bb 154 (ah Fa):=KZ.sound mixed (aaB qk (aaB fA (aaB kB (aaB oK (aaB tE (aaB ka aq)))))) (ax _) (by rintro _ _ ⟨_,⟨_,rfl,_⟩,_⟩;rfl) afi
def dO:bU bb 112 (ah nC):=Bp.sound mixed (aaB yD (aaB fA (aaB vJ (aaB oK (aaB kB (aaB tU (aaB wm (aaB Ak aq)))))))) (ax _) (by rintro _ _ ⟨_,⟨_,rfl,_⟩,_⟩;rfl) JJ
def iI:bU bb 165 (ah EI):=Zn.sound mixed (aaB pQ aq) (ax _) (by rintro _ _ ⟨_,⟨_,rfl,_⟩,_⟩;rfl) zQ
def iB:bU bb 202 P8:=IL.sound mixed (aaB vB (aaB vM aq)) (azL _ _) (by rintro _ _ ⟨_,rfl,_⟩;rfl) aiX
def rN:bU bb 178 (ah OX):=Ei.sound mixed (aaB lf (aaB cS (aaB rm (aaB iB (aaB lN (aaB kz (aaB bL aq))))))) (ax _) (by rintro _ _ ⟨_,⟨_,rfl,_⟩,_⟩;rfl) abw
def mw:bU bb 176 (ah Dy):=OK.sound mixed (aaB dO (aaB bL (aaB bY aq))) (ax _) (by rintro _ _ ⟨_,⟨_,rfl,_⟩,_⟩;rfl) VO
def rA:bU bb 180 (ah OG):=DR.sound mixed (aaB iB (aaB lS (aaB mB (aaB lf (aaB iI aq))))) (ax _) (by rintro _ _ ⟨_,⟨_,rfl,_⟩,_⟩;rfl) abH
def cY:bU bb 127 xt:=acu.sound mixed (aaB mq (aaB mw (aaB bY (aaB jb (aaB qC (aaB rN (aaB cS (aaB rA aq)))))))) (azL _ _) (by rintro _ _ ⟨_,_,rfl,_⟩;rfl) ajq
def sf:bU bb 72 (ah tQ):=Kp.sound mixed (aaB cY aq) (ax _) (by rintro _ _ ⟨_,⟨_,_,rfl,_⟩,_⟩;rfl) Q4
def El:bU bb 232 (sB ak4):=SW.rJ mixed (aaB sE (aaB jo (aaB jr (aaB vU aq)))) (by rintro _ _ _ ⟨_,rfl,_⟩;rfl) al3
def Kg:bU bb 199 (c8 true Xb):=aiQ.sound mixed (aaB y6 (aaB El aq)) (dQ _ _) (by rintro _ _ ⟨_,⟨_,rfl,_⟩,_⟩;rfl) ai7
def ym:bU bb 198 (ah Dz):=Ud.sound mixed (aaB lu (aaB nr (aaB jo (aaB jr (aaB vU aq))))) (ax _) (by rintro _ _ ⟨_,⟨_,_,_,rfl,_⟩,_⟩;rfl) VV
def Ad:bU bb 141 (c8 true Hs):=VE.sound mixed (aaB lu (aaB jr (aaB ym (aaB Nn (aaB Kg aq))))) (dQ _ _) (by rintro _ _ ⟨_,⟨_,_,_,rfl,_⟩,_⟩;rfl) aao
def EY:bU bb 101 (c8 false W9):=ZH.sound mixed (aaB cY (aaB sY (aaB Ad (aaB dO (aaB jn (aaB fI (aaB jt aq))))))) (dQ _ _) (by rintro _ _ ⟨_,⟨_,_,_,_,rfl,_⟩,_⟩;rfl) aj8
def sa:bU bb 71 (sB ajO):=OH.rJ mixed (aaB sf (aaB y5 (aaB dj aq))) (by rintro _ _ _ ⟨_,_,_,_,_,rfl,_⟩;rfl) aoC
def qg:bU bb 70 (sB akk):=wI.rJ mixed (aaB sa aq) (by rintro _ _ _ ⟨_,_,_,_,rfl,_⟩;rfl) anm
def uc:bU bb 20 (c8 true aco):=Vm.sound mixed (aaB mq (aaB dj (aaB jy (aaB AA (aaB sa (aaB qg aq)))))) (dQ _ _) (by rintro _ _ ⟨_,⟨_,rfl,_⟩,_⟩;rfl) abN
def eF:bU bb 74 (c8 false q6):=ajc.sound mixed (aaB uc aq) (dQ _ _) (by rintro _ _ ⟨_,⟨_,rfl,_⟩,_⟩;rfl) acR
def DE:bU bb 63 (c8 false ZQ):=X0.sound mixed (aaB eF (aaB dT (aaB dj (aaB jy aq)))) (dQ _ _) (by rintro _ _ ⟨_,⟨_,_,rfl,_⟩,_⟩;rfl) adu
def sw:bU bb 87 (c8 false D2):=FU.sound mixed (aaB eF (aaB vE (aaB dj (aaB jy aq)))) (dQ _ _) (by rintro _ _ ⟨_,⟨_,_,rfl,_⟩,_⟩;rfl) Ga
def rC:bU bb 99 (c8 false Lq):=Ri.sound mixed (aaB dT (aaB EY (aaB mQ aq))) (dQ _ _) (by rintro _ _ ⟨_,⟨_,_,rfl,_⟩,_⟩;rfl) akA
def xT:bU bb 23 (c8 true H4):=ahl.sound mixed (aaB mq (aaB bo (aaB sf (aaB Pq aq)))) (dQ _ _) (by rintro _ _ ⟨_,⟨_,rfl,_⟩,_⟩;rfl) ahd
def tw:bU bb 14 (c8 false A8):=aci.sound mixed (aaB DE (aaB pg aq)) (dQ _ _) (by rintro _ _ ⟨_,⟨_,_,rfl,_⟩,_⟩;rfl) agD
def Jg:bU bb 85 (c8 false TM):=adZ.sound mixed (aaB eF (aaB dT (aaB dj (aaB jy (aaB iQ (aaB fU (aaB G0 (aaB pQ aq)))))))) (dQ _ _) (by rintro _ _ ⟨_,⟨_,_,_,_,rfl,_⟩,_⟩;rfl) ag_
def DD:bU bb 27 (c8 false IE):=acQ.sound mixed (aaB fU (aaB Jg aq)) (dQ _ _) (by rintro _ _ ⟨_,⟨_,_,rfl,_⟩,_⟩;rfl) afw
def ru:bU bb 28 (c8 false Dr):=F4.sound mixed (aaB fU (aaB Jg aq)) (dQ _ _) (by rintro _ _ ⟨_,⟨_,_,rfl,_⟩,_⟩;rfl) Hq
def wk:bU bb 22 (c8 true HW):=aef.sound mixed (aaB eF (aaB yY (aaB DU (aaB Vg (aaB yS (aaB iK (aaB pg aq))))))) (dQ _ _) (by rintro _ _ ⟨_,⟨_,rfl,_⟩,_⟩;rfl) ah1
def ox:bU bb 16 (ah OA):=abG.sound mixed (aaB xT aq) (ax _) (by rintro _ _ ⟨_,⟨_,rfl,_⟩,_⟩;rfl) aow
def DV:bU bb 42 (c8 false N7):=acv.sound mixed (aaB eF (aaB rC (aaB mQ (aaB fU (aaB Hf (aaB iQ aq)))))) (dQ _ _) (by rintro _ _ ⟨_,⟨_,_,rfl,_⟩,_⟩;rfl) af5
def nW:bU bb 12 (ah KL):=ahh.sound mixed (aaB Oa (aaB wk (aaB tw (aaB DV (aaB DD (aaB nN aq)))))) (ax _) (by rintro _ _ ⟨_,⟨rfl,_⟩,_⟩;rfl) an8
def gK:bU bb 29 (c8 false tB):=ES.sound mixed (aaB sw (aaB oy (aaB fi (aaB iQ (aaB fU (aaB gZ (aaB Hf aq))))))) (dQ _ _) (by rintro _ _ ⟨_,⟨_,_,rfl,_⟩,_⟩;rfl) FZ
def ma:bU bb 5 (ah Hp):=DJ.sound mixed (aaB nW (aaB sR (aaB eO (aaB DD (aaB ru (aaB gK (aaB ox (aaB Bo (aaB rO (aaB bw (aaB y1 (aaB Aa (aaB As (aaB mb (aaB sy aq))))))))))))))) (ax _) (by rintro _ _ ⟨_,⟨_,_,_,rfl,_⟩,_⟩;rfl) Zi
end Go.Dv.Try
