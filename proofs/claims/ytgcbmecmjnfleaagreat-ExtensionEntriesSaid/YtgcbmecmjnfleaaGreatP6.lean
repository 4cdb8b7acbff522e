/- Own work: parts of the proof, shortened and laid together by a tool of our own. -/
import Derived.Test.YtgcbmecmjnfleaaGreatP5
import Derived.KernelRfl
set_option linter.defProp false
set_option linter.unusedSimpArgs false
set_option linter.unusedVariables false
open List renaming getElem?_eq_getElem→zak, map_congr_left→zbA, getElem?_map→zbC, map_map→zcR, mem_singleton→zbs, getElem?_eq_some_iff→zaa, mem_cons_self→zcM, mem_cons→zay, not_mem_nil→zc7, map_flatten→zc9, mem_of_getElem?→zad, mem_cons_of_mem→zcS, zipIdx_map_fst→zda, getElem?_range→zbM, pairwise_iff_getElem→zbv, getElem_mem→zcI, pairwise_singleton→zdb, foldl_cons→zbh, length_map→zan, mem_append→zax, getElem?_eq_none→zaK, getElem?_zipIdx→zdc, pairwise_append→zdd, map_singleton→zde, ext_getElem?→zbb, pairwise_map→zdf, length_cons→zap
open And renaming intro→zco
open Decidable renaming not_not→zba
set_option maxHeartbeats 16000000
noncomputable section
namespace Go.Dv.Try
open Go Go.Dv
def gI(l:List At)(i:Nat):List At:=(Lq l)[i]?.getD []
def SO(s:As)(i:Nat):K6 (K5 s) i=gI s.l i:=by
 unfold K6 gI;rw[<-afi,zbC];cases (K5 s)[i]?<;>rfl
def we(f:Wh)(refs:List Rf):gE f refs=(List.range (nA f.at_.l)).map λi=>lF f refs (gO f.at_.l) i (gI f.at_.l i):=by
 unfold gE;exact zbA λi _=>by rw[SO]
def Vo(f:Wh)(refs:List Rf):fq f refs=(List.range (nA f.at_.l)).flatMap λi=>JN (gO f.at_.l) (pk refs i) (gI f.at_.l i):=by
 unfold fq nL;refine congrArg List.flatten (zbA λi _=>?_);rw[SO]
def mL(f:Wh)(refs:List Rf):bG f refs=lF f refs (gO f.at_.l) 0 (gI f.at_.l 0):=by
 unfold bG;rw[SO]
def aio(l:List At)(i:Nat)(hf:gO l=true\/(eb l).flatten=l):(gI l i).Sublist l:=by
 unfold gI;cases h:(Lq l)[i]? with
 |none=>exact List.nil_sublist _
 |some g=>
  have hm:=zad h;show g.Sublist l;unfold Lq at hm;split at hm
  ·rw[zbs.1 hm];exact List.Sublist.refl _
  ·rename_i hz;rcases hf with hf|hf
   ·exact absurd (of_decide_eq_true hf) hz
   ·have:=Q8 hm;rwa[hf]at this
def yf.ty{l:List At}(h:yf l):(l.Pairwise λx y=>x.ty<=y.ty)∧∀a∈l,16<=a.ty:=by
 refine⟨h.2.2.2.imp λ{x y} g=>?_,λa ha=>?_⟩
 ·rcases g with(g|⟨g,_⟩)|⟨g,_⟩
  ·exact Int.le_of_lt g
  ·exact Int.le_of_eq g
  ·exact Int.le_of_eq (aab g)
 ·have:=(qJ (h.2.1 a ha)).Cz;unfold Go.Dv.Try.Cz at this;simp only[zay,zc7,or_false]at this;omega
def OT{al:Bool}{g:List At}{i:Nat}:(ji al g)[i]?=(g[i]?).map λa=>HL al a i:=by
 unfold ji;rw[zbC,zdc];cases g[i]?<;>simp
def Ya{al:Bool}{g:List At}{R:At->At->Prop}(h:∀(i j:Nat) x y,i<j->g[i]?=some x->g[j]?=some y->R (HL al x i) (HL al y j)):(ji al g).Pairwise R:=by
 rw[zbv];intro i j hi hj iT;have e1:=OT (al:=al) (g:=g) (i:=i);have e2:=OT (al:=al) (g:=g) (i:=j);rw[zak hi]at e1;rw[zak hj]at e2;rw[Ax]at hi hj;rw[zak hi]at e1;rw[zak hj]at e2;rw[Option.some.inj e1,Option.some.inj e2];exact h i j _ _ iT (zak hi) (zak hj)
def U7{α:Type}{R:α->α->Prop}{l:List α}(h:l.Pairwise R){i j:Nat}{x y:α}(iT:i<j)(hx:l[i]?=some x)(hy:l[j]?=some y):R x y:=by
 have hi:=(zaa.1 hx).1;have hj:=(zaa.1 hy).1;have:=zbv.1 h i j hi hj iT;rw[zak hi]at hx;rw[zak hj]at hy;rw[<-Option.some.inj hx,<-Option.some.inj hy];exact this
def zm{al:Bool}{g:List At}(h:yf g):yf (ji al g):=by
 refine⟨by rw[Ax];exact h.1,λx hx=>?_,Ya λi j x y iT hx hy=>?_,Ya λi j x y iT hx hy=>?_⟩
 ·obtain⟨a,ha,k,hk,rfl⟩:=nT hx;have:=Yf (al:=al) (h.2.1 a ha) (k:=k) (by have:=h.1;omega);exact HO (h.2.1 a ha) this
 ·have h1:=U7 h.2.2.1 iT hx hy;show(if al=true then x.id else(i:Int))≠(if al=true then y.id else(j:Int));split
  ·exact h1
  ·omega
 ·have h1:=U7 h.2.2.2 iT hx hy;rcases h1 with h1|⟨h1,h2,h3⟩
  ·exact .inl h1
  ·refine .inr ⟨h1,h2,?_⟩;show(if al=true then x.id else(i:Int))<(if al=true then y.id else(j:Int));split
   ·exact h3
   ·omega
def U4{al:Bool}{g:List At}(h:yf g):cz (ji al g)=cz g:=by
 have h1:∀a∈g,fF (er al a)=fF a:=λa ha=>(L7 (h.2.1 a ha)).2.1
 have h2:∀a∈ji al g,fF (er al a)=fF a:=λa ha=>(L7 ((zm h).2.1 a ha)).2.1
 rw[<-OA h1,<-OA h2];unfold ji;rw[zcR];have:(g.zipIdx.map (er al∘λp=>HL al p.1 p.2))=g.zipIdx.map (λp=>er al p.1):=zbA λp _=>by cases al<;>rfl
 rw[this,show(g.zipIdx.map λp:At×Nat=>er al p.1)=(g.zipIdx.map Prod.fst).map (er al) by rw[zcR];rfl,zda]
def S7(al:Bool)(g:List At):(ji al g).map (er al)=g.map (er al):=by
 unfold ji;rw[zcR];have:(g.zipIdx.map (er al∘λp=>HL al p.1 p.2))=g.zipIdx.map (λp=>er al p.1):=zbA λp _=>by cases al<;>rfl
 rw[this,show(g.zipIdx.map λp:At×Nat=>er al p.1)=(g.zipIdx.map Prod.fst).map (er al) by rw[zcR];rfl,zda]
def foldl_max{l:List At}:∀{m:Int},m<=l.foldl (λm a=>max m (a.id+1)) m/\(∀a∈l,a.id+1<=l.foldl (λm a=>max m (a.id+1)) m)∧∀B,m<=B->(∀a∈l,a.id+1<=B)->l.foldl (λm a=>max m (a.id+1)) m<=B:=by
 induction l with
 |nil=>
  intro m;refine⟨Int.le_refl m,?_,?_⟩
  ·intro a h;cases h
  ·intro B h _;exact h
 |cons a l ih=>
  intro m;obtain⟨h1,h2,h3⟩:=ih (m:=max m (a.id+1));refine⟨?_,λb hb=>?_,λB hB h=>?_⟩
  ·rw[zbh];omega
  ·rw[zbh];rcases zay.1 hb with rfl|hb
   ·omega
   ·exact h2 b hb
  ·rw[zbh];exact h3 B (by have:=h a (zcM ..);omega) λb hb=>h b (zcS _ hb)
def ZW{al:Bool}{g:List At}{a:At}(h:a∈ji al g):a.id<Hv al g:=by
 have:=(foldl_max (l:=ji al g) (m:=0)).2.1 a h;unfold Hv;omega
def XY(al:Bool)(g:List At):0<=Hv al g:=(foldl_max (l:=ji al g) (m:=0)).1
def aao{al:Bool}{g:List At}{B:Int}(h0:0<=B)(h:∀a∈ji al g,a.id+1<=B):Hv al g<=B:=(foldl_max (l:=ji al g) (m:=0)).2.2 B h0 h
def SE{r:Rc}(h:∀a∈r.at_.l,a.id<r.nx):jk r<0:=by
 unfold jk;exact(HD (p:=λa:At=>decide (r.nx<=a.id)=true) r.at_.l).2 λa ha g=>by
  have:=h a ha;have g:=of_decide_eq_true g;omega
def L_{r:Rc}(h1:FQ r)(h2:sK (fo r)=0)(h3:r.fl%2=1)(h4:yf r.at_.l)(h5:∀a∈r.at_.l,a.id<r.nx)(h6:cz r.at_.l<=440):(ef r).2=0:=by
 have h7:=SE h5;unfold ef;rw[if_neg (λg=>g h1),if_neg (λg=>g h2),if_neg (λg=>g (.inl h3)),if_neg (λg=>g (rN.2 h4)),if_neg aa,if_pos h6]
def Jw:∀{l:List Rn},(∀r∈l,oT r)->(l.length:Int)<=fI l
 |[],_=>Int.le_refl _
 |r::l,h=>by
  have h1:=Jw λr hr=>h r (zcS _ hr)
  have h2:=h r (zcM ..);have e:fI (r::l)=r.n+fI l:=by simp[fI]
  unfold oT at h2;rw[e,zap];split at h2<;>omega
def ZU{nx:Int}{S:List UInt8}(h:0<=nx/\nx<=65535)(hS:S.length<=400):iu (fi nx S)=0:=by
 have h1:AX (fi nx S)=0:=by
  unfold AX;rw[if_neg (by show ¬(32:Int)∉Go.Dv.Try.Cz;decide),if_neg (λg=>g (.inl rfl)),if_neg (λg=>g ⟨h,by show(0:Int)<=0/\(0:Int)<=7;decide⟩)];show zO (fi nx S)=0;unfold zO;rw[if_neg (λg=>g ⟨rfl,rfl,rfl,rfl,rfl⟩),if_neg (by show ¬400<S.length;omega)]
 unfold iu;rw[if_neg (λg=>g h1),if_neg];rw[sF];have:uf (fi nx S)=pf (pf (24+0)+S.length):=rfl;rw[this];unfold pf;omega
def Wm{nx:Int}{S:List UInt8}{lr:List Rn}(h:0<=nx/\nx<=65535)(hS:S.length<=2048)(hr:(dD lr).2=0)(hn:fI lr=yb S):iu (eT nx S lr)=0:=by
 have hr:jY lr=0:=hr;have hd:0<=yb S/\yb S<=8:=by unfold yb;omega
 obtain⟨_,_,_,ho⟩:=ju hr;have hl:=Jw ho;have h1:AX (eT nx S lr)=0:=by
  unfold AX;rw[if_neg (by show ¬(32:Int)∉Go.Dv.Try.Cz;decide),if_neg (λg=>g (.inl rfl)),if_neg (λg=>g ⟨h,by show(0:Int)<=0/\(0:Int)<=7;decide⟩)];show yN (eT nx S lr)=0;have s1:mn (eT nx S lr):=by
   refine⟨⟨?_,?_⟩,⟨?_,?_⟩,⟨?_,?_⟩⟩
   ·show 0<=yb S*256;omega
   ·show yb S*256<=_;omega
   ·show(0:Int)<=S.length;omega
   ·show(S.length:Int)<=_;omega
   ·show(0:Int)<=S.length;omega
   ·show(S.length:Int)<=_;omega
  unfold yN;rw[if_neg (by show ¬(32:Int)∈LC;decide),if_neg (λg=>g rfl),if_neg (λg=>g (by show(0:Int)<=0/\(0:Int)<=4096;omega)),if_neg (λg=>g hr),if_neg (λg=>absurd g.1 (by show ¬(0:Int)<0;omega)),
   if_neg (by show ¬4096<0+fI lr;omega),if_neg (λg=>absurd g.1 (by show ¬(0:Int)<0;omega)),if_neg (λg=>g s1),if_neg (by show ¬(S.length:Int)<S.length;omega)]
 unfold iu;rw[if_neg (λg=>g h1),if_neg];rw[sF];have:uf (eT nx S lr)=pf (pf (40+0)+(iZ lr).length):=rfl;have he:=yS lr lr.length (Nat.le_refl _);have hb:(iZ lr).length<=5*lr.length+1:=by unfold iZ;rw[List.length_append,List.length_singleton];omega
 rw[this];unfold pf;omega
def ahS{a:At}(h:iu a=0):24<=fF a:=by
 unfold fF;rw[if_pos h];have h1:=dX (x9 a+a.nm.length);have h2:=dX (Zt a+(JE a).length);have h3:Zt a=pf (x9 a+a.nm.length):=rfl;have h4:uf a=pf (Zt a+(JE a).length):=rfl;have h5:24<=x9 a:=by unfold x9;split<;>omega
 omega
def ah2{l:List At}(h:∀a∈l,iu a=0):24*l.length<=cz l:=by
 induction l with
 |nil=>exact Nat.le_refl _
 |cons a l ih=>
  have h1:=ahS (h a (zcM ..));have h2:=ih λa ha=>h a (zcS _ ha)
  have e:cz (a::l)=fF a+cz l:=vu;rw[e,zap];omega
section
def NS(f:Wh):Wh:=⟨f.fl,f.lk,f.ls,.sl (ji (gO f.at_.l) f.at_.l)⟩
structure fL(f:Wh)(refs:List Rf):Prop where
 arU:q8 f
 ord:yf f.at_.l
 nol:∀a∈f.at_.l,a.ty≠32/\a.id<65535
 n12:nA f.at_.l<=12
 len:refs.length=nA f.at_.l
 ref:∀x∈refs,xT x
def YU{f:Wh}{refs:List Rf}{lr:List Rn}(h:x5 f refs lr=0):fL f refs:=by
 obtain⟨h1,h2,h3,_⟩:=Ff h;obtain⟨n1,n2,n3⟩:=yC h1;obtain⟨_,c2,c3,_,c5⟩:=Dz n1;exact⟨c2,rN.1 c3,c5,n2,aa,Mg h2⟩
def Ri{f:Wh}(h1:q8 f)(h2:yf f.at_.l)(h3:∀a∈f.at_.l,a.ty≠32/\a.id<65535):(nk f).2=0:=by
 have hl:zp f.at_.l<0:=by
  unfold zp;exact(HD (p:=λa:At=>decide (a.ty=32)=true) f.at_.l).2 λa ha g=>(h3 a ha).1 (of_decide_eq_true g)
 unfold nk;rw[if_neg (λg=>g h1),if_neg (λg=>g (rN.2 h2)),if_neg aa,eD λi hi=>?_];unfold BR;rw[zak hi];exact if_pos (h3 _ (zcI hi)).2
section
variable {f:Wh} {refs:List Rf} {lr:List Rn}
def fL.flat(h:fL f refs):(eb f.at_.l).flatten=f.at_.l:=Wx h.ord.ty.1 h.ord.ty.2
def fL.sub(h:fL f refs)(i:Nat):(gI f.at_.l i).Sublist f.at_.l:=aio _ i (.inr h.flat)
def fL.ad9(h:fL f refs)(i:Nat):yf (gI f.at_.l i):=h.ord.sub (h.sub i)
def fL.rfI(h:fL f refs){i:Nat}(hi:i<nA f.at_.l):xT (pk refs i):=by
 unfold pk;obtain⟨y,hy⟩:∃y,refs[i]?=some y:=⟨_,zak (by rw[h.len];exact hi)⟩
 rw[hy];exact h.ref y (zad hy)
def X2{r:Rf}(h:xT r):sK r=0:=by
 unfold sK;split
 ·rfl
 ·exact if_pos h
def fL.idI(h:fL f refs){i:Nat}{a:At}(ha:a∈ji (gO f.at_.l) (gI f.at_.l i)):a.id+1<=65535:=by
 obtain⟨b,hb,k,hk,rfl⟩:=nT ha;have h1:=(h.nol b ((h.sub i).subset hb)).2;have h2:=(h.sub i).length_le;have h3:=h.ord.1;show(if gO f.at_.l=true then b.id else(k:Int))+1<=65535;split<;>omega
def fL.aul(h:fL f refs){i:Nat}(hi:i<nA f.at_.l)(hs:cz (gI f.at_.l i)<=440):(ef (lF f refs (gO f.at_.l) i (gI f.at_.l i))).2=0:=by
 have hN:=(FU f.at_.l).1;have hr:=h.rfI hi;have VO:=h.rfI (i:=0) aa;unfold xT at hr;have vW:=XY (gO f.at_.l) (gI f.at_.l i);have hx:=aao (B:=65535) aa (λa ha=>h.idI (i:=i) ha);obtain⟨n1,n2,n3⟩:=h.arU;refine L_ ⟨hr.2,?_,?_,⟨vW,hx⟩,n3⟩ ?_ ?_ (zm (h.ad9 i)) (λa ha=>ZW ha) (by show cz (ji _ _)<=440;rw[U4 (h.ad9 i)];exact hs)
 ·show 0<=(if i=0 then f.lk else 0)/\(if i=0 then f.lk else 0)<=65535;split<;>omega
 ·show 0<=(if i=0 then f.fl else 1)/\(if i=0 then f.fl else 1)<=3;split<;>omega
 ·show sK ⟨if i=0 then 0 else(pk refs 0).r,if i=0 then 0 else(pk refs 0).s⟩=0;by_cases h0:i=0
  ·rw[if_pos h0,if_pos h0];rfl
  ·rw[if_neg h0,if_neg h0];exact X2 VO
 ·show(if i=0 then f.fl else 1)%2=1;split<;>omega
def fL.nfG(h:fL f refs):cz (ji (gO f.at_.l) f.at_.l)=cz f.at_.l/\gO (ji (gO f.at_.l) f.at_.l)=gO f.at_.l/\(∀i,ji (gO f.at_.l) (gI (ji (gO f.at_.l) f.at_.l) i)=ji (gO f.at_.l) (gI f.at_.l i))/\nA (ji (gO f.at_.l) f.at_.l)=nA f.at_.l:=by
 have h1:=U4 (al:=gO f.at_.l) h.ord;have h2:gO (ji (gO f.at_.l) f.at_.l)=gO f.at_.l:=by unfold gO at*;rw[h1]
 have hO:=zm (al:=gO f.at_.l) h.ord;have hf1:∀a∈f.at_.l,(er (gO f.at_.l) a).ty=a.ty/\fF (er (gO f.at_.l) a)=fF a:=λa ha=>⟨(L7 (h.ord.2.1 a ha)).2.2.1,(L7 (h.ord.2.1 a ha)).2.1⟩
 have hf2:∀a∈ji (gO f.at_.l) f.at_.l,(er (gO f.at_.l) a).ty=a.ty/\fF (er (gO f.at_.l) a)=fF a:=λa ha=>⟨(L7 (hO.2.1 a ha)).2.2.1,(L7 (hO.2.1 a ha)).2.1⟩
 have hg:(Lq (ji (gO f.at_.l) f.at_.l)).map (List.map (er (gO f.at_.l)))=(Lq f.at_.l).map (List.map (er (gO f.at_.l))):=by
  unfold Lq;rw[h1];split
  ·rw[zde,zde,S7]
  ·rw[<-QP hf1,<-QP hf2,S7]
 refine⟨h1,h2,λi=>?_,?_⟩
 ·have e:(gI (ji (gO f.at_.l) f.at_.l) i).map (er (gO f.at_.l))=(gI f.at_.l i).map (er (gO f.at_.l)):=by
   have:=congrArg (λl:List (List At)=>l[i]?) hg;simp only[zbC]at this;unfold gI;cases ha:(Lq (ji (gO f.at_.l) f.at_.l))[i]? with
   |none=>
    rw[ha]at this;cases hb:(Lq f.at_.l)[i]? with
    |none=>rfl
    |some y=>rw[hb]at this;cases this
   |some x=>
    rw[ha]at this;cases hb:(Lq f.at_.l)[i]? with
    |none=>rw[hb]at this;cases this
    |some y=>rw[hb]at this;exact Option.some.inj this
  rw[<-Z5,e,Z5]
 ·have:=congrArg List.length hg;rw[zan,zan,HP,HP]at this;exact this
def fL.WE(h:fL f refs)(h0:x5 f refs lr=0):spread (NS f) refs lr=spread f refs lr:=by
 obtain⟨e1,e2,e3,e4⟩:=h.nfG;have EN:(NS f).at_.l=ji (gO f.at_.l) f.at_.l:=rfl;have CE:∀i,lF (NS f) refs (gO f.at_.l) i (gI (ji (gO f.at_.l) f.at_.l) i)=lF f refs (gO f.at_.l) i (gI f.at_.l i):=λi=>by
  have e5:Hv (gO f.at_.l) (gI (ji (gO f.at_.l) f.at_.l) i)=Hv (gO f.at_.l) (gI f.at_.l i):=by unfold Hv;rw[e3]
  unfold lF;rw[e3,e5];rfl
 have eR:gE (NS f) refs=gE f refs:=by
  rw[we,we,EN,e2,e4];exact zbA λi _=>CE i
 have eE:fq (NS f) refs=fq f refs:=by
  rw[Vo,Vo,EN,e2,e4];refine congrArg List.flatten (zbA λi _=>?_);unfold JN;rw[e3]
 have eB:bG (NS f) refs=bG f refs:=by
  rw[mL,mL,EN,e2];exact CE 0
 have hn:jC (NS f)=jC f:=by
  have hc:(nk (NS f)).2=0:=Ri h.arU (zm h.ord) λa ha=>by
   obtain⟨b,hb,k,hk,rfl⟩:=nT ha;have h1:=h.nol b hb;have h2:=h.ord.1;refine⟨h1.1,?_⟩;show(if gO f.at_.l=true then b.id else(k:Int))<65535;split<;>omega
  have LZ:=(yC (Ff h0).1).1;have m1:jC (NS f)=if 12<nA (NS f).at_.l then(0,16)else(((nA (NS f).at_.l:Nat):Int),0):=if_neg (λg=>g hc);have m2:jC f=if 12<nA f.at_.l then(0,16)else(((nA f.at_.l:Nat):Int),0):=if_neg (λg=>g LZ);rw[m1,m2,EN,e4]
 have eS:x5 (NS f) refs lr=x5 f refs lr:=by
  unfold x5 GC;rw[hn,EN,e2,eE,eB]
 have eP:Hu (NS f) refs lr=Hu f refs lr:=by
  unfold Hu;rw[EN,e2,eE,eB,eR]
 unfold spread;rw[eS,eP]
def adp{l:List At}(h:∀a∈l,a.ty≠32/\EL a=a):qM l=l:=by
 unfold qM;rw[List.filter_eq_self.2 λa ha=>by simp[(h a ha).1]];exact(zbA λa ha=>(h a ha).2).trans (List.map_id _)
def fL.aBx(h:fL f refs)(i:Nat):qM (ji (gO f.at_.l) (gI f.at_.l i))=ji (gO f.at_.l) (gI f.at_.l i):=adp λx hx=>by
 obtain⟨a,ha,k,hk,rfl⟩:=nT hx;exact⟨(h.nol a ((h.sub i).subset ha)).1,rfl⟩
def fL.axN(h:fL f refs):jf (gE f refs)=(List.range (nA f.at_.l)).flatMap λi=>ji (gO f.at_.l) (gI f.at_.l i):=by
 unfold jf;rw[we,List.flatMap_map];refine congrArg List.flatten (zbA λi _=>?_);exact h.aBx i
def UH(h:fL f refs):((List.range (nA f.at_.l)).map (gI f.at_.l)).flatten=f.at_.l:=by
 have e:(List.range (nA f.at_.l)).map (gI f.at_.l)=Lq f.at_.l:=by
  refine zbb λi=>?_
  rw[zbC];have hl:=HP f.at_.l;by_cases hi:i<nA f.at_.l
  ·rw[zbM hi];obtain⟨g,hg⟩:∃g,(Lq f.at_.l)[i]?=some g:=⟨_,zak aa⟩
   show some ((Lq f.at_.l)[i]?.getD [])=_;rw[hg];rfl
  ·rw[zaK aT,zaK aa];rfl
 rw[e];unfold Lq;split
 ·simp
 ·exact h.flat
def ac1(al:Bool)(g:List At):(ji al g).map At.key=g.map At.key:=by
 unfold ji;rw[zcR,show(At.key∘λp:At×Nat=>HL al p.1 p.2)=(At.key∘Prod.fst)from rfl,<-zcR,zda]
def aaG{l m:List At}(h1:∀a∈l,EL a=a)(h:l.map (er false)=m.map (er false)):Ba l=ji false m:=by
 refine zbb λi=>?_
 have:=congrArg (λl:List At=>l[i]?) h;simp only[zbC]at this;unfold Ba;rw[OT,zbC,zdc];cases ha:l[i]? with
 |none=>
  rw[ha]at this;cases hb:m[i]? with
  |none=>rfl
  |some y=>rw[hb]at this;cases this
 |some x=>
  rw[ha]at this;cases hb:m[i]? with
  |none=>rw[hb]at this;cases this
  |some y=>
   rw[hb]at this;have e:XF x 0=XF y 0:=Option.some.inj this;show some ({ x with id:=((0+i:Nat):Int) }:At)=some (XF y i);have e2:({ x with id:=((0+i:Nat):Int) }:At)={ EL x with id:=((0+i:Nat):Int) }:=by rw[h1 x (zad ha)]
   rw[e2,Nat.zero_add];have e3:=congrArg (λz:At=>({ z with id:=(i:Int) }:At)) e;exact congrArg some e3
def X_{l m:List At}(h:l.map At.key=m.map At.key)(hm:adg m):adg l:=by
 have h1:(m.map At.key).Pairwise λx y=>¬O9 y x:=zdf.2 hm
 rw[<-h]at h1;exact zdf.1 h1
def fL.ayV(h:fL f refs)(s9:gO f.at_.l=true):kI (gE f refs)=NS f:=by
 have hN:nA f.at_.l=1:=if_pos (of_decide_eq_true s9);have hg:gI f.at_.l 0=f.at_.l:=by unfold gI Lq;rw[if_pos (of_decide_eq_true s9)];rfl
 have eR:gE f refs=[lF f refs true 0 f.at_.l]:=by
  rw[we,hN,s9];show[lF f refs true 0 (gI f.at_.l 0)]=_;rw[hg]
 have h0:=h.axN;rw[hN,s9]at h0;have h1:jf (gE f refs)=ji true f.at_.l:=by rw[h0];show ji true (gI f.at_.l 0)++[]=_;rw[hg,List.append_nil]
 have hL:¬Tp (lF f refs true 0 f.at_.l):=by
  rintro⟨a,ha,h2⟩;have ha:a∈ji true f.at_.l:=ha;obtain⟨b,hb,k,_,rfl⟩:=nT ha;exact(h.nol b hb).1 h2
 unfold kI NS;rw[h1,eR,s9];show(⟨f.fl,f.lk,f.ls,_⟩:Wh)=_;rw[show rc0 [lF f refs true 0 f.at_.l]=lF f refs true 0 f.at_.l from rfl,if_neg hL]
def fL.awx(h:fL f refs)(s9:gO f.at_.l=false){a:At}(ha:a.ty=32):kI ((gE f refs).set 0 ((bG f refs).plus a))=NS f:=by
 have hN:=(FU f.at_.l).1;obtain⟨r,rs,Xy⟩:∃r rs,gE f refs=r::rs:=by
  cases hh:gE f refs with
  |nil=>have:=congrArg List.length hh;rw[we,zan,List.length_range]at this;simp at this;omega
  |cons r rs=>exact⟨r,rs,rfl⟩
 have hr:r=bG f refs:=by
  have:(gE f refs)[0]?=some (bG f refs):=by
   rw[we,zbC,zbM aa,mL];rfl
  rw[Xy]at this;exact Option.some.inj this
 have h1:jf ((gE f refs).set 0 ((bG f refs).plus a))=jf (gE f refs):=by
  rw[Xy,hr];show qM ((bG f refs).at_.l++[a])++jf rs=qM (bG f refs).at_.l++jf rs;have:qM ((bG f refs).at_.l++[a])=qM (bG f refs).at_.l:=by
   unfold qM;rw[List.filter_append,List.map_append];simp[ha]
  rw[this]
 have h2:=h.axN;have h3:((List.range (nA f.at_.l)).flatMap λi=>ji (gO f.at_.l) (gI f.at_.l i)).map At.key=f.at_.l.map At.key:=by
  have:=congrArg (List.map At.key) (UH h);rw[<-this];show(List.map At.key (List.flatten _))=List.map At.key (List.flatten _);rw[zc9,zc9,zcR,zcR];exact congrArg List.flatten (zbA λi _=>ac1 _ _)
 have h4:((List.range (nA f.at_.l)).flatMap λi=>ji (gO f.at_.l) (gI f.at_.l i)).map (er false)=f.at_.l.map (er false):=by
  have:=congrArg (List.map (er false)) (UH h);rw[<-this];show(List.map (er false) (List.flatten _))=List.map (er false) (List.flatten _);rw[zc9,zc9,zcR,zcR,s9];exact congrArg List.flatten (zbA λi _=>S7 false _)
 have hL:Tp ((bG f refs).plus a):=⟨a,zax.2 (.inr (zbs.2 rfl)),ha⟩
 have hs:stS (jf (gE f refs))=jf (gE f refs):=aiS (by rw[h2];exact X_ h3 h.ord.k);unfold kI NS;rw[h1,Xy,hr];show(⟨f.fl,f.lk,f.ls,.sl (if Tp ((bG f refs).plus a)then _ else _)⟩:Wh)=_;rw[if_pos hL,<-hr,<-Xy,hs,h2,s9,aaG (m:=f.at_.l) (λx hx=>?_) (by rw[s9]at h4;exact h4)];obtain⟨i,_,hx⟩:=List.mem_flatMap.1 hx;obtain⟨b,_,k,_,rfl⟩:=nT hx;rfl
end
end
section
section
variable {f:Wh} {refs:List Rf} {lr:List Rn}
def PB(h:(dD lr).2=0)(hs:fI lr=0):lr=[]:=by
 obtain⟨_,_,_,ho⟩:=ju h;have:=Jw ho;exact List.eq_nil_of_length_eq_zero aa
def Zg{S:List UInt8}{g:List At}(h:gP S g=0):S.length<=2048/\cz g<=440:=by
 unfold gP at h;split at h
 ·cases h
 ·split at h
  ·cases h
  ·omega
def aai(h:x5 f refs lr=0)(s9:gO f.at_.l=false):
 fI lr=K9 false (bG f refs) (aM (fq f refs))/\gP (aM (fq f refs)) ((bG f refs).plus (mO (bG f refs) (aM (fq f refs)) lr)).at_.l=0:=by
 have h6:=(Ff h).2.2.2.2.2;unfold GC at h6;rw[s9]at h6;split at h6
 ·cases h6
 ·rename_i g;exact⟨zba.1 g,by rw[if_neg af]at h6;exact h6⟩
def fL.auB(h:fL f refs)(h0:x5 f refs lr=0)(s9:gO f.at_.l=false):(ef ((bG f refs).plus (mO (bG f refs) (aM (fq f refs)) lr))).2=0:=by
 obtain⟨s1,s2⟩:=aai h0 s9;obtain⟨l1,l2⟩:=Zg s2;obtain⟨_,_,_,hr,_,_⟩:=Ff h0;have hN:=(FU f.at_.l).1;have VO:=h.rfI (i:=0) aa;unfold xT at VO;have hO:yf (bG f refs).at_.l:=by rw[mL];exact zm (h.ad9 0)
 have EN:(bG f refs).at_.l=ji false (gI f.at_.l 0):=by rw[mL,s9];rfl
 have hnx:(bG f refs).nx=Hv false (gI f.at_.l 0):=by rw[mL,s9];rfl
 have hlen:(bG f refs).at_.l.length<=32:=hO.1;have vW:=XY false (gI f.at_.l 0);have hx:(bG f refs).nx<=32:=by
  rw[hnx];refine aao aa λa ha=>?_
  obtain⟨b,hb,k,hk,rfl⟩:=nT ha;have:=(h.ad9 0).1;show(k:Int)+1<=32;omega
 rw[<-hnx]at vW;have hgt:∀a∈(bG f refs).at_.l,a.id<(bG f refs).nx:=λa ha=>by rw[EN]at ha;rw[hnx];exact ZW ha
 have hls:iu (mO (bG f refs) (aM (fq f refs)) lr)=0/\(mO (bG f refs) (aM (fq f refs)) lr).ty=32/\(mO (bG f refs) (aM (fq f refs)) lr).id=(bG f refs).nx:=by
  unfold mO;unfold K9 at s1;split
  ·rename_i hf;exact⟨ZU ⟨vW,aa⟩ hf.1,rfl,rfl⟩
  ·rename_i hf;rw[if_neg (λg=>g.elim (λg=>by cases g) hf)]at s1;exact⟨Wm ⟨vW,aa⟩ l1 hr s1,rfl,rfl⟩
 generalize mO (bG f refs) (aM (fq f refs)) lr=a at*;have h16:∀b∈(bG f refs).at_.l,b.ty=16:=λb hb=>by
  rw[EN]at hb;obtain⟨c,hc,k,_,rfl⟩:=nT hb;show c.ty=16;have hz:¬cz f.at_.l<=440:=of_decide_eq_false s9;unfold gI Lq at hc;rw[if_neg hz]at hc;cases hg:(eb f.at_.l)[0]? with
  |none=>rw[hg]at hc;cases hc
  |some g=>rw[hg]at hc;exact(YX f.at_.l).2.2 g hg c hc
 obtain⟨n1,n2,n3⟩:=h.arU;have Sc:((bG f refs).plus a).at_.l=(bG f refs).at_.l++[a]:=rfl;rw[Sc]at l2;have pK:∀x∈(bG f refs).at_.l++[a],iu x=0:=λx hx=>by
  rcases zax.1 hx with hx|hx
  ·exact hO.2.1 x hx
  ·rw[zbs.1 hx];exact hls.1
 have R5:=ah2 pK;have hsq:((bG f refs).plus a).sq=(pk refs 0).s:=by rw[mL];rfl
 have XK:((bG f refs).plus a).lk=f.lk:=by rw[mL];rfl
 have hfl:((bG f refs).plus a).fl=f.fl:=by rw[mL];rfl
 have aDt:((bG f refs).plus a).ls=f.ls:=by rw[mL];rfl
 have aAP:((bG f refs).plus a).nx=(bG f refs).nx+1:=rfl;refine L_ ⟨by rw[hsq];omega,by rw[XK];omega,by rw[hfl];omega,by rw[aAP];omega,by rw[aDt];omega⟩ (by rw[show fo ((bG f refs).plus a)=⟨0,0⟩ by rw[mL];rfl];rfl) (by rw[hfl];omega) ?_ (λx hx=>?_) (by rw[Sc];exact l2)
 ·rw[Sc];refine⟨aa,pK,zdd.2 ⟨hO.2.2.1,zdb _ _,λx hx y hy=>?_⟩,zdd.2 ⟨hO.2.2.2,zdb _ _,λx hx y hy=>?_⟩⟩
  ·rw[zbs.1 hy,hls.2.2];have:=hgt x hx;omega
  ·rw[zbs.1 hy];refine .inl (.inl ?_);show x.ty<a.ty;rw[h16 x hx,hls.2.1];decide
 ·rw[Sc]at hx;rw[aAP];rcases zax.1 hx with hx|hx
  ·have:=hgt x hx;omega
  ·rw[zbs.1 hx,hls.2.2];omega
def Dq(f:Wh)(refs:List Rf):(gE f refs).length=nA f.at_.l:=by simp[gE]
def Qx{i:Nat}(h:i<nA f.at_.l):(gE f refs)[i]?=some (lF f refs (gO f.at_.l) i (gI f.at_.l i)):=by
 rw[we,zbC,zbM h];rfl
def fL.parts(h:fL f refs)(h0:x5 f refs lr=0):(Hu f refs lr).rf.l=refs/\(Hu f refs lr).rn.l=lr/\(Hu f refs lr).rc.l.length=nA f.at_.l/\kI (Hu f refs lr).rc.l=NS f∧∀r∈(Hu f refs lr).rc.l,(ef r).2=0:=by
 obtain⟨_,_,_,hr,_,h6⟩:=Ff h0;have hN:=(FU f.at_.l).1;by_cases s9:gO f.at_.l=true
 ·have hz:cz f.at_.l<=440:=of_decide_eq_true s9;have hs:fI lr=0:=by
   unfold GC at h6;split at h6
   ·cases h6
   ·rename_i g;have:=zba.1 g;rw[this];exact if_pos (.inl s9)
  have e:Hu f refs lr=⟨.sl refs,.sl (gE f refs),[],.nil⟩:=if_pos s9;rw[e];refine⟨rfl,(PB hr hs).symm,Dq f refs,h.ayV s9,λr hr=>?_⟩;obtain⟨i,hi⟩:=ee.1 hr;have hil:=aZ hi;have hil:i<nA f.at_.l:=by rw[<-Dq f refs];exact hil
  have hi:(gE f refs)[i]?=some r:=hi;rw[Qx hil]at hi;rw[<-Option.some.inj hi];refine h.aul hil ?_;have:nA f.at_.l=1:=if_pos hz;rw[show i=0 by omega];unfold gI Lq;rw[if_pos hz];exact hz
 ·have abe:gO f.at_.l=false:=by cases hh:gO f.at_.l with|true=>exact absurd hh s9|false=>rfl
  obtain⟨s1,_⟩:=aai h0 abe;have hb:=h.auB h0 abe;have Nb:(mO (bG f refs) (aM (fq f refs)) lr).ty=32:=by unfold mO;split<;>rfl
  have hg:=h.awx abe Nb;have CE:∀r∈(gE f refs).set 0 ((bG f refs).plus (mO (bG f refs) (aM (fq f refs)) lr)),(ef r).2=0:=λr hr=>by
   obtain⟨i,hi⟩:=ee.1 hr;rw[List.getElem?_set]at hi;split at hi
   ·split at hi
    ·cases hi;exact hb
    ·cases hi
   ·rename_i qY;have hil:i<nA f.at_.l:=by rw[<-Dq f refs];exact(zaa.1 hi).1
    rw[Qx hil]at hi;rw[<-Option.some.inj hi];refine h.aul hil ?_;have hz:¬cz f.at_.l<=440:=of_decide_eq_false abe;unfold gI Lq;rw[if_neg hz];obtain⟨g,hg⟩:∃g,(eb f.at_.l)[i]?=some g:=⟨_,zak (by have:nA f.at_.l=(eb f.at_.l).length:=if_neg hz;omega)⟩
    rw[hg];exact((YX f.at_.l).2.1 i g aa hg).2.1
  have hlen:((gE f refs).set 0 ((bG f refs).plus (mO (bG f refs) (aM (fq f refs)) lr))).length=nA f.at_.l:=by rw[List.length_set,Dq]
  unfold Hu;rw[if_neg s9];refine⟨rfl,?_,hlen,hg,CE⟩;show(if zT _ _ then(Sl.nil:Rs)else .sl lr).l=lr;split
  ·rename_i hf;exact(PB hr (s1.trans (if_pos (.inr hf)))).symm
  ·rfl
def fL.accepted(h:fL f refs)(h0:x5 f refs lr=0):(bN (Hu f refs lr)).2=0:=by
 obtain⟨p1,p2,p3,p4,p5⟩:=h.parts h0;have hN:=(FU f.at_.l).1;have Xm:spread f refs lr=(Hu f refs lr,0):=by unfold spread;rw[h0,if_pos rfl]
 have hs:=h.WE h0;rw[Xm]at hs;have VL:=h.n12;have hE:(dc (qi (Hu f refs lr)) 0 (Hu f refs lr).rc.l.length).2=0:=by
  rw[eD λi hi=>?_];unfold qi;rw[p1,zak hi,zak (by rw[h.len,<-p3];exact hi)];simp only;rw[if_neg (λg=>g (if_pos (h.ref _ (zcI _))))];exact p5 _ (zcI hi)
 unfold bN;rw[if_neg aa,p1,if_neg (by rw[h.len];omega),if_neg aa,if_neg (λg=>g hE),p4,p2,hs];show(if _ then(0:Int)else 19)=0;rw[if_pos ⟨rfl,rfl,rfl,rfl,rfl⟩]
end
end
def exA(n:List UInt8)(i:Int)(ty:Int)(k:Nat):At:=⟨ty,n,i,0,true,ab k,0,.nil,0,0,0⟩
def exL:List At:=[exA [] 0 16 24,exA [97] 1 128 200,exA [98] 2 128 200,exA [99] 3 128 200]
def BC:Wh:=⟨1,1,0,.sl exL⟩
def E0:List Rf:=[⟨20,1⟩,⟨21,1⟩,⟨30,4⟩,⟨31,1⟩]
def Ym(ps:List PV)(r:RV):Prop:=ps=[]/\r=.pv BC.pv
def Zx(ps:List PV)(r:RV):Prop:=ps=[]/\r=.fresh 76 2 (E0.map Rf.pv)
def TZ:ay (ax []) Eg C2 D0 (gR true Zx):=by
 rintro _ K ⟨_,⟨rfl,rfl⟩,hK⟩
 (repeat'((conv=>whnf);first|refine cw ?_|fail))<;>try(conv=>whnf)
 exact⟨.fresh _ _ _,⟨rfl,rfl,rfl,rfl⟩,L9 E0,hK⟩
def TG:ay (ax [(110,ah Au)]) DZ Dn CP (gR false Ym):=by
 rintro _ K ⟨_,⟨rfl,rfl⟩,hK⟩
 (repeat'((conv=>whnf);first|refine⟨_,⟨24,rfl,af,rfl⟩,?_⟩|refine cw ?_|fail))<;>try(conv=>whnf)
 refine⟨λm env σ=>∃n:Nat,n+m=3/\σ=[.box 24 [.pv (pI 0),.pv (pI 0),.pv (pI 0),.pv (.nil 11)],.box 24 [.pv (pI 1),.pv (pI 1),.pv (pI 0),.own 3],.row 9 1 true [.str [97],.str [98],.str [99]],.row 71 11 true ((exL.take (n+1)).map At.pv)]/\env=[(0,.ref 0 0 0),(1,.ref 1 0 0),(2,.own 2),eN 3 n],3,⟨0,aa,rfl,rfl⟩,?_⟩;rintro m env σ ⟨n,hn,rfl,rfl⟩;have:n=0\/n=1\/n=2\/n=3:=aa;rcases this with rfl|rfl|rfl|rfl
 ·(repeat'((conv=>whnf);first|refine ai af ?_|refine⟨_,⟨200,rfl,af,rfl⟩,?_⟩|refine zco ⟨af,af⟩ ?_|(refine ko ?_;first|refine dJ aa ?_|refine cw ?_|refine⟨_,rfl,?_⟩|fail)))<;>try(conv=>whnf)
  exact⟨m-1,aa,1,aa,rfl,rfl⟩
 ·(repeat'((conv=>whnf);first|refine ai af ?_|refine⟨_,⟨200,rfl,af,rfl⟩,?_⟩|refine zco ⟨af,af⟩ ?_|(refine ko ?_;first|refine dJ aa ?_|refine cw ?_|refine⟨_,rfl,?_⟩|fail)))<;>try(conv=>whnf)
  exact⟨m-1,aa,2,aa,rfl,rfl⟩
 ·(repeat'((conv=>whnf);first|refine ai af ?_|refine⟨_,⟨200,rfl,af,rfl⟩,?_⟩|refine zco ⟨af,af⟩ ?_|(refine ko ?_;first|refine dJ aa ?_|refine cw ?_|refine⟨_,rfl,?_⟩|fail)))<;>try(conv=>whnf)
  exact⟨m-1,aa,3,aa,rfl,rfl⟩
 ·(repeat'((conv=>whnf);first|refine ar af ?_|refine cw ?_|fail))<;>try(conv=>whnf)
  exact⟨.pv BC.pv,rfl,trivial,hK⟩
def aam{a:At}(h:iu a=0):a.rn.l.length<=64:=by
 have ho:=qJ h;cases hr:a.rs with
 |true=>have:=(ho.rs hr).1;omega
 |false=>exact(ju (ho.ot hr).2.2.2.1).1
def arf{p:Fp}(h1:p.rc.l.length<=100)(h2:∀r∈p.rc.l,(ef r).2=0)(h3:p.rf.l.length<=1000000)(h4:p.rn.l.length<=1000000):fpB p:=by
 refine⟨h1,λr hr=>?_,h3,h4⟩;have hO:=rN.1 (Aa (h2 r hr)).2.2.2.1;have hl:=hO.1;refine⟨⟨aa,λa ha=>?_⟩,λa ha=>?_⟩
 ·have:=(qJ (hO.2.1 a ha)).nmL;omega
 ·have:=aam (hO.2.1 a ha);omega
def S0:∀a∈exL,iu a=0:=by
 intro a ha;unfold exL at ha;simp only[zay,zc7,or_false]at ha;rcases ha with rfl|rfl|rfl|rfl<;>kernel_rfl
def ZG:nA exL=4:=bP
def S3:gO exL=false:=bP
def aid:yf exL:=by
 refine⟨af,S0,?_,?_⟩
 ·unfold exL;simp only[List.pairwise_cons,zay,zc7,or_false,List.Pairwise.nil,and_true];simp[exA]
 ·refine TF (R:=oR) (λ_ _ _=>Q2) λi x y hx hy=>?_
  have hi:=aZ hy;have:i=0\/i=1\/i=2:=by have:i+1<4:=hi;omega
  rcases this with rfl|rfl|rfl
  ·cases hx;cases hy;exact .inl (.inl af)
  ·cases hx;cases hy;exact .inl (.inr ⟨rfl,.inl af⟩)
  ·cases hx;cases hy;exact .inl (.inr ⟨rfl,.inl af⟩)
def ayO:(nk BC).2=0:=Ri ⟨.inl rfl,af,af⟩ aid λa ha=>by
 have ha:a∈exL:=ha;unfold exL at ha;simp only[zay,zc7,or_false]at ha;rcases ha with rfl|rfl|rfl|rfl<;>decide
def Vh:jC BC=(4,0):=by
 unfold jC;rw[if_neg (λg=>g ayO),show nA BC.at_.l=4 from ZG];rfl
def anX:(nG E0).2=0:=by
 unfold nG;rw[eD λi hi=>?_];have:i=0\/i=1\/i=2\/i=3:=by have:i<4:=hi;omega
 have hd:∀i,i<4→¬TY E0 i:=by
  rintro i hi ⟨x,hx,y,hy,e⟩;have:i=0\/i=1\/i=2\/i=3:=aa;rcases this with rfl|rfl|rfl|rfl<;>cases hx<;>simp[E0]at hy<;>(try(rcases hy with rfl|rfl|rfl))<;>(try(rcases hy with rfl|rfl))<;>simp_all
 unfold PJ;have hn:=hd i hi;rcases this with rfl|rfl|rfl|rfl
 all_goals
  show(if AW _≠0 then AW _ else if TY E0 _ then(23:Int)else 0)=0;rw[if_neg af,if_neg hn]
def MW:List Le:=[⟨⟨16,[],0⟩,⟨20,1⟩,0⟩,⟨⟨128,[97],0⟩,⟨21,1⟩,0⟩,⟨⟨128,[98],0⟩,⟨30,4⟩,0⟩,⟨⟨128,[99],0⟩,⟨31,1⟩,0⟩]
def Hs:fq BC E0=MW:=bP
def ack:(aM MW).length=128:=bP
def Oi:zT (bG BC E0).at_.l (fi (bG BC E0).nx (aM MW)):=of_decide_eq_true bP
def aeq:gP (aM MW) ((bG BC E0).plus (fi (bG BC E0).nx (aM MW))).at_.l=0:=bP
def afo:mO (bG BC E0) (aM (fq BC E0)) []=fi (bG BC E0).nx (aM MW):=by
 rw[Hs];exact if_pos Oi
def NF:x5 BC E0 []=0:=by
 have h1:GC BC E0 []=0:=by
  unfold GC;rw[if_neg,show gO BC.at_.l=false from S3,if_neg af,afo,Hs]
  ·exact aeq
  ·rw[show gO BC.at_.l=false from S3,Hs];intro g;exact g (Eq.symm (if_pos (.inr Oi)))
 unfold x5;rw[Vh,if_neg af,if_neg (λg=>g anX),if_neg af,if_neg af,if_neg af];exact h1
def NH:Fp:=⟨.sl E0,.sl ((gE BC E0).set 0 ((bG BC E0).plus (fi (bG BC E0).nx (aM MW)))),[],.nil⟩
def SD:Hu BC E0 []=NH:=by
 unfold Hu;rw[if_neg (by rw[show gO BC.at_.l=false from S3];decide),afo,Hs,if_pos Oi,if_pos Oi];rfl
def VV:spread BC E0 []=(NH,0):=by
 unfold spread;rw[NF,if_pos rfl,SD]
def Vv:fL BC E0:=YU NF
def Sy:(bN NH).2=0:=by rw[<-SD];exact Vv.accepted NF
def vt:kI NH.rc.l=NS BC/\NH.rc.l.length=4∧∀r∈NH.rc.l,(ef r).2=0:=by
 have:=Vv.parts NF;rw[SD]at this;exact⟨this.2.2.2.1,this.2.2.1.trans ZG,this.2.2.2.2⟩
def Zj:fpB NH:=arf (by rw[vt.2.1];decide) vt.2.2 af af
def YB:U5 NH=MW:=by
 unfold U5;rw[if_pos Sy,vt.1];kernel_rfl
def exK:Ky:=⟨128,[98],0⟩
def Y_:vY exK NH.rc.l=(2,0,0):=bP
def ZR:IG NH exK=(2,0):=by
 unfold IG;rw[if_neg (λg=>g Sy),if_neg af,Y_]
def ah7:cz (rc0 NH.rc.l).at_.l=200:=bP
def abP:(dT MW).2=0:=by
 unfold dT;rw[if_neg af,eD λi hi=>?_];have hi:i<4:=hi;have:i=0\/i=1\/i=2\/i=3:=aa;have hd:¬MJ MW i:=by
  rintro⟨k,hk,y,x,h1,h2,h3,h4⟩;have kV:k=0\/k=1\/k=2:=aa;rcases this with rfl|rfl|rfl|rfl<;>rcases kV with rfl|rfl|rfl<;>first|omega|(cases h1;cases h2;exact absurd h3 af)
 unfold gT;rw[if_neg hd];have h2:lV MW i=0:=by rcases this with rfl|rfl|rfl|rfl<;>kernel_rfl
 rw[if_neg (λg=>g h2)]
def Rl{P:Program}{g:FuncId}{lone:Bool}{R R':List PV->RV->Prop}(h:bM P g (gR lone R))(hR:∀ps r,R' ps r→∃ps',R ps' r∧∀(ok:Nat->Prop) (w:World) (vs:List Value),cE ok w ps vs->cE ok w ps' vs):bM P g (gR lone R'):=by
 refine⟨λe=>fJ,λe=>fJ,λw ok ps vs K L0 ep iY ec=>?_,h.2.2.2.1,λ_ _ _ _ _ _ _ _ L0=>(by cases L0)⟩;obtain⟨r,hr,hk⟩:=ec;obtain⟨ps',h1,h2⟩:=hR ps r hr;exact h.2.2.1 w ok ps' vs K L0 ep (h2 _ _ _ iY) ⟨r,h1,hk⟩
def Ae(ps:List PV)(r:RV):Prop:=∃(f:Wh) (refs:XE),ps=[f.pv,LU refs,.nil 0]/\(whB f/\refs.l.length<=1000000)/\r=.tup [.pv (spread f refs.l []).1.pv,.pv (pI (spread f refs.l []).2)]
def TM(h:bM bQ 18 (gR false C8)):bM bQ 18 (gR false Ae):=Rl h λps r hr=>by
 obtain⟨f,refs,rfl,⟨h1,h2⟩,rfl⟩:=hr;refine⟨[f.pv,LU refs,.nil 2],⟨f,refs,.nil,rfl,⟨h1,h2,af⟩,rfl⟩,λok w vs hv=>?_⟩;simpa only[cE,Rd]using hv
set_option maxRecDepth 20000 in
def Pp:ay (ax [(14,gR true yz),(52,gR false Ym),(18,gR false Ae),(53,gR true Zx),(26,gR false tk),(27,gR true Nf),(46,gR true D9),(39,ah TE)]) BB By Bh HH:=by
 rintro _ K ⟨rfl,hK⟩;have hW:whB BC:=⟨⟨af,λa ha=>by have:=(qJ (S0 a ha)).nmL;omega⟩,λa ha=>by have:=aam (S0 a ha);omega⟩
 have hN:yz [BC.pv] (.tup [.pv (pI 4),.pv (pI 0)]):=⟨BC,rfl,hW.1,by rw[Vh]⟩
 have hS:Ae [BC.pv,.sl 2 (E0.map Rf.pv),.nil 0] (.tup [.pv NH.pv,.pv (pI 0)]):=⟨BC,.sl E0,rfl,⟨hW,af⟩,by show _=RV.tup [.pv (spread BC E0 []).1.pv,.pv (pI (spread BC E0 []).2)];rw[VV]⟩
 have hE:tk [NH.pv] (.tup [.fresh 80 6 (MW.map Le.pv),.pv (pI 0)]):=⟨NH,rfl,Zj,by rw[YB,Sy]⟩
 have hH:Nf [NH.pv,exK.pv] (.tup [.pv (pI 2),.pv (pI 0)]):=⟨NH,exK,rfl,Zj,by rw[ZR]⟩
 have hC:D9 [.sl 6 (MW.map Le.pv)] (.tup [.pv (.str (aM MW)),.pv (pI 0)]):=⟨.sl MW,rfl,by show MW.length<=_;decide,by show _=RV.tup [.pv (.str (if (dT MW).2=0 then aM MW else[])),.pv (pI (dT MW).2)];rw[abP,if_pos rfl]⟩
 obtain⟨r0,rs,VO⟩:∃r rs,NH.rc.l=r::rs:=by
  cases h:NH.rc.l with
  |nil=>have:=vt.2.1;rw[h]at this;cases this
  |cons r rs=>exact⟨r,rs,rfl⟩
 have hO:=rN.1 (Aa (vt.2.2 r0 (by rw[VO];exact zcM ..))).2.2.2.1;have aDu:cz r0.at_.l=200:=by have:=ah7;rw[VO]at this;exact this
 have hD:TE [nd r0.at_] (pI 200):=⟨r0.at_,rfl,⟨by have:=hO.1;omega,hO.2.1⟩,by rw[aDu];rfl⟩
 have hl4:=vt.2.1;have aGF:=ack;have s8:(MW.map Le.pv)[2]?=some (⟨⟨128,[98],0⟩,⟨30,4⟩,0⟩:Le).pv:=rfl;have O8:NH.rc.l[0]?=some r0:=by rw[VO];rfl
 (repeat'((conv=>whnf);first|refine⟨_,⟨rfl,rfl⟩,?_⟩|refine⟨_,hN,?_⟩|refine⟨_,hS,?_⟩|refine⟨_,hE,?_⟩|refine⟨_,hH,?_⟩|refine⟨_,hC,?_⟩|refine⟨_,hD,?_⟩|refine zco ⟨af,af⟩ ?_|refine⟨_,s8,?_⟩|refine ai rfl ?_|refine ar (λh=>h rfl) ?_|refine gF λ_=>?_|refine aok bL ?_|refine cw ?_|fail))<;>try(conv=>whnf)
 exact zb
def arW(h1:bM bQ 157 (ah OS))(h2:bM bQ 218 (x3 Y0)):∀k,bM bQ 211 (x3 (U0 k)):=by
 intro k
 induction k with
 |zero=>
  refine⟨λe=>fJ,λe=>fJ,λ_ _ _ _ _ e=>fJ,λ_ _ _ _ _ _ _ _ h=>(show False from h).elim,?_⟩;rintro w ok ep σ0 cX xs vs K _ asE o_ ⟨ap,f,N,a,m,b,c,jG,_,_,hp,_⟩;exfalso;omega
 |succ k ih=>
  exact gz.Zm mixed (bT h1 (bT h2 (bT ih wI))) (by rintro _ _ _ ⟨_,_,_,_,_,_,_,_,rfl,_⟩;rfl) (WT k)
def cZ:=Dh.snd aE gx
def wq:=Lr.snd aE DB
def bb:=Ds.snd aE xS
def vm:=Jr.snd aE Cb
def bK:=B9.snd aE ej
def tZ:=Iz.snd aE B8
def lD:=Ls.snd aE D8
def bl:=B0.snd aE vX
def jP:=GX.snd aE AZ
def iP:=Cn.snd aE fS
def fu:=Li.snd aE Dw
def lS:=LW.snd aE Dp
def dP:=B_.snd aE wD
def jU:=Hf.snd aE AL
def fv:=Lj.snd aE N_
def qT:=He.snd (by exact⟨fv,lS,lD,trivial⟩) Jt
def xK:=Nr.snd (by exact⟨fv,trivial⟩) Rm
def ud:=E4.IQ (by exact⟨fv,trivial⟩) Tz
def uJ:=Lp.snd aE N7
def uq:=H4.snd aE IM
def hZ:=FK.snd (by exact⟨qT,xK,ud,uJ,lD,trivial⟩) GH
def ml:=TB.snd aE Ik
def xR:=OC.snd aE RE
def km:=Qq.snd (by exact⟨xR,trivial⟩) SV
def Dl:=TL.snd aE Wd
def D5:=TR.snd aE WA
def fw:=LI.snd aE OF
def qL:=GZ.snd aE VT
def qU:=GI.snd aE Kg
def eU:=NJ.snd aE Qz
def sw:=Js.snd (by exact⟨fu,fw,ml,trivial⟩) J0
def vE:=Lu.snd (by exact⟨lS,trivial⟩) N1
def vv:=Ly.snd aE NU
def sW:=HX.snd (by exact⟨hZ,trivial⟩) Lo
def mU:=Dg.snd (by exact⟨sW,fv,vE,vv,trivial⟩) EV
def rZ:=Kw.snd (by exact⟨sw,fw,eU,trivial⟩) J1
def ir:=mE.snd aE EZ
def nC:=A5.snd (by exact⟨ir,trivial⟩) GW
def wc:=LJ.snd aE LH
def uu:=GY.snd (by exact⟨wc,trivial⟩) Lx
def gG:=yR.snd aE HY
def lY:=uW.snd (by exact⟨bK,cZ,trivial⟩) Nw
def t_:=KH.snd (by exact⟨D5,trivial⟩) IP
def k8:=uB.snd (by exact⟨uu,trivial⟩) GO
def vp:=GP.IQ aE Tf
def uy:=GU.IQ aE OH
def uc:=FI.snd aE Tc
def nO:=AT.snd aE K_
def je:=A4.snd (by exact⟨mU,uc,nO,vp,gG,trivial⟩) LB
def uv:=Kj.snd (by exact⟨km,eU,trivial⟩) OW
def wx:=Ii.snd (by exact⟨rZ,km,fw,Dl,ml,uq,eU,uv,trivial⟩) Jo
def v7:=G7.snd aE Gx
def sU:=CA.snd aE B1
def j_:=DH.snd (by exact⟨v7,trivial⟩) DL
def iK:=y3.snd (by exact⟨sU,trivial⟩) zd
def uE:=GS.snd aE GJ
def ni:=NO.snd aE Y7
def ek:=Er.snd aE QC
def ja:=AI.snd (by exact⟨j_,iK,ni,trivial⟩) KP
def qV:=A_.snd (by exact⟨j_,iK,ni,trivial⟩) Ju
def qO:=AP.snd (by exact⟨uE,trivial⟩) AR
def nK:=AQ.snd aE Ln
def k_:=uj.snd aE Hb
def fC:=Cm.snd aE D6
def kH:=sQ.snd aE A2
def ph:=Cj.snd aE Of
def mQ:=ux.snd aE SI
def oQ:=y7.snd (by exact⟨fC,ek,trivial⟩) H7
def lX:=sS.snd (by exact⟨bl,trivial⟩) AG
def gm:=iO.snd (by exact⟨lX,trivial⟩) Pv
def gC:=B3.snd (by exact⟨dP,bl,trivial⟩) OB
def wC:=Hg.snd (by exact⟨jU,jP,trivial⟩) Ll
def xW:=Kv.snd (by exact⟨fu,trivial⟩) I1
def sV:=FO.snd (by exact⟨wC,trivial⟩) Lw
def nE:=yp.snd aE IW
def xJ:=IC.snd (by exact⟨t_,k8,fu,trivial⟩) Ir
def jM:=nH.snd aE V3
def cF:=dK.snd (by exact⟨jM,trivial⟩) NA
def cf:=du.snd (by exact⟨cF,trivial⟩) Hc
def hJ:=zt.snd (by exact⟨xJ,xW,fu,qO,trivial⟩) yZ
def qK:=Ch.snd (by exact⟨hJ,trivial⟩) Cf
def jQ:=C9.snd (by exact⟨uy,trivial⟩) Px
def l4:=Kr.snd (by exact⟨km,fw,eU,trivial⟩) KI
def jb:=AN.snd (by exact⟨jQ,trivial⟩) LD
def v8:=H2.snd (by exact⟨l4,trivial⟩) JF
def xQ:=KC.snd (by exact⟨qU,l4,qK,trivial⟩) Kf
def yD:=OQ.snd (by exact⟨wx,trivial⟩) NT
def pj:=AU.snd aE C0
def gV:=vI.snd (by exact⟨ek,ja,trivial⟩) TK
def eZ:=gn.IQ aE TH
def fA:=gN.IQ (by exact⟨eZ,trivial⟩) Xc
def eu:=fy.IQ (by exact⟨gV,trivial⟩) Wu
def bO:=fV.snd aE OO
def eh:=fR.snd aE No
def iQ:=Cw.snd (by exact⟨bO,trivial⟩) OY
def nz:=zD.snd aE QS
def ou:=xV.snd aE SU
def dS:=fc.snd (by exact⟨ou,trivial⟩) Ny
def dj:=eV.snd (by exact⟨dS,trivial⟩) GM
def lU:=uh.snd aE Pr
def dR:=fk.snd (by exact⟨lU,trivial⟩) Oe
def di:=eO.snd (by exact⟨dR,trivial⟩) G0
def oB:=xP.snd (by exact⟨di,gC,bl,bb,trivial⟩) GL
def ik:=kz.snd (by exact⟨oB,trivial⟩) QN
def eQ:=fP.snd aE Wz
def bV:=fW.snd aE V6
def jg:=oy.snd (by exact⟨ek,bV,trivial⟩) OL
def aW:=aX.snd (by exact⟨jg,trivial⟩) SF
def kj:=rX.snd (by exact⟨aW,trivial⟩) Od
def lh:=ui.snd (by exact⟨kj,trivial⟩) Oh
def aY:=bj.snd (by exact⟨lh,trivial⟩) TJ
def nP:=xI.snd (by exact⟨eQ,bV,aY,trivial⟩) Rk
def uz:=GN.snd aE OU
def za:=NZ.snd aE TZ
def zI:=Nh.snd (by exact⟨eU,trivial⟩) TG
def gZ:bM bQ 225 (ah lE):=Nd
def jq:bM bQ 200 (gR true HE):=aaz
def fa:bM bQ 211 (x3 N2):=arW gV fA 100000
def mo:=AM.snd (by exact⟨gZ,trivial⟩) Ha
def pr:=A9.snd (by exact⟨mo,trivial⟩) Dx
def mS:=AH.snd (by exact⟨pr,trivial⟩) Dk
def iB:=pD.snd (by exact⟨mS,trivial⟩) FP
def gD:=mR.snd (by exact⟨iB,trivial⟩) AY
def pC:=Fw.snd (by exact⟨gD,trivial⟩) JH
def sv:=G_.snd (by exact⟨pC,nC,trivial⟩) LF
def jv:=DT.snd (by exact⟨tZ,sv,wq,trivial⟩) Hh
def pt:=Ci.snd (by exact⟨jq,trivial⟩) O1
def mT:=AK.snd (by exact⟨jv,bK,trivial⟩) Kl
def nM:=yG.snd (by exact⟨jq,bK,cZ,iP,hZ,gG,trivial⟩) ON
def gp:=sJ.snd (by exact⟨pt,bK,mT,iP,cZ,lY,nM,je,trivial⟩) zw
def ka:=Ck.snd (by exact⟨nE,bl,jv,dP,bb,trivial⟩) NK
def kP:=qN.snd (by exact⟨ka,gC,dP,bl,bb,ja,cf,trivial⟩) xM
def gl:=iS.snd (by exact⟨kP,trivial⟩) Rz
def dQ:=ur.snd (by exact⟨gl,trivial⟩) Cq
def f_:=sR.snd (by exact⟨dQ,jb,trivial⟩) AO
def l7:=sY.snd (by exact⟨qL,jQ,dQ,trivial⟩) Oq
def ld:=qI.snd (by exact⟨gp,je,trivial⟩) LS
def fB:=gK.IQ (by exact⟨eu,fa,trivial⟩) WW
def cg:=de.IQ (by exact⟨fB,trivial⟩) NI
def ic:=A7.snd (by exact⟨ld,trivial⟩) LR
def e_:=FC.snd (by exact⟨ic,trivial⟩) I0
def uQ:=GR.snd (by exact⟨ic,trivial⟩) Np
def mD:=vF.snd (by exact⟨e_,trivial⟩) Qh
def aD:=dL.snd (by exact⟨k_,kH,fC,mD,mQ,oQ,trivial⟩) Ot
def aL:=dv.snd (by exact⟨aD,trivial⟩) GV
def pE:=xL.snd (by exact⟨aL,gp,bK,cZ,trivial⟩) Gy
def gQ:=wj.snd (by exact⟨pE,qV,bK,nK,cZ,trivial⟩) EY
def mV:=wv.snd (by exact⟨dP,gQ,aD,gm,trivial⟩) FL
def iF:bM bQ 62 (gR false uw):=B5.O0 mixed (bT e_ (bT ph wI)) (Jb _ _) KL N9
def hU:=yd.snd (by exact⟨mV,iF,aL,trivial⟩) Kq
def ib:=A6.IQ (by exact⟨iF,eh,iQ,ek,trivial⟩) LQ
def jK:=sP.IQ (by exact⟨e_,trivial⟩) KE (ha:=by rintro _ _ _ ⟨_,_,_,_,_,_,_,_,_,_,_,rfl,_⟩;rfl)
def ky:=ue.IQ (by exact⟨jb,jK,nz,bO,e_,bl,bb,trivial⟩) Lh
def iL:bM bQ 92 (gR false E8):=x8.O0 mixed (bT fC (bT iQ (bT aL (bT cg wI)))) (Jb _ _) KL JD
def iG:bM bQ 18 (gR false C8):=Cp.O0 mixed (bT hU (bT ik (bT dj (bT hZ (bT bb (bT ib (bT ky wI))))))) (Jb _ _) (by rintro _ _ ⟨_,⟨_,_,_,rfl,_⟩,_⟩;rfl) OJ
def nF:=yw.snd (by exact⟨jU,jP,sV,uz,vm,gQ,aD,uQ,trivial⟩) CW
def lf:=sX.snd (by exact⟨nF,gC,bb,trivial⟩) A8
def gL:=jl.snd (by exact⟨lf,trivial⟩) Q4
def k7:=wH.snd (by exact⟨bl,bb,gL,iL,iG,nP,trivial⟩) Fm
def il:=yY.snd (by exact⟨k7,trivial⟩) J7
def rq:=D1.snd (by exact⟨aD,trivial⟩) Qi
def pF:=A3.snd (by exact⟨il,ka,bb,rq,trivial⟩) Lt
def kY:bM bQ 26 (gR false tk):=xO.O0 mixed (bT il (bT iL (bT ib wI))) (Jb _ _) KL GF
def nY:bM bQ 18 (gR false Ae):=TM iG
def v_:bM bQ 10 HH:=Lf.sound mixed (bT hU (bT zI (bT nY (bT za (bT kY (bT pF (bT f_ (bT yD wI)))))))) Zh (by rintro _ _ ⟨rfl,_⟩;rfl) Pp
def mC:=ug.snd (by exact⟨v_,dQ,f_,l7,hJ,xQ,pj,v8,trivial⟩) Tk
end Go.Dv.Try
end
