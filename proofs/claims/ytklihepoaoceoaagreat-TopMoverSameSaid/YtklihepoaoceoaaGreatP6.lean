/- Own work: parts of the proof, shortened and laid together by a tool of our own. -/
import Derived.Test.YtklihepoaoceoaaGreatP5
import Derived.KernelRfl
set_option linter.defProp false
set_option linter.unusedSimpArgs false
set_option linter.unusedVariables false
open List renaming getElem?_eq_getElem→zah, mem_of_getElem?→zag, getElem?_eq_some_iff→zaa, length_map→zaw, length_append→zad, append_nil→zbg, getElem?_append_right→zak, append_assoc→zaj, getElem?_map→zaD, mem_map→zaX, mem_cons→zax, mem_iff_getElem?→zaG, length_take→zal, map_congr_left→zbG, mem_append→zaA, getElem?_take_of_lt→zcV, take_of_length_le→za1, getElem?_set_self→zbO, not_mem_nil→zb6, length_cons→zap, flatMap_def→zdA, getElem?_eq_none→zaM, mem_cons_of_mem→zdM, map_append→zaY, length_set→za0, mem_append_left→zbw, filter_append→zbV, flatMap_cons→zan, pairwise_iff_getElem→zdw, getElem_mem→zdn, map_map→zdN, mem_append_right→zbs, length_replicate→zaq, take_add_one→zcM, pairwise_map→zdI, getElem?_set→zaR, mem_flatMap→zbB, flatMap_map→zdy, mem_filter→zbq, nil_prefix→zdP, mem_range→zbp
open And renaming intro→zcv
open Int renaming le_refl→zdJ, toNat_natCast→zaC
open Nat renaming le_refl→zai, sub_self→zcc, lt_or_eq_of_le→zcQ, le_of_lt_succ→zcR, le_of_not_lt→zdO, min_eq_left→zat, not_lt_zero→zbM
open Decidable renaming not_not→zcN
open Option renaming getD_some→zbE
set_option maxHeartbeats 16000000
noncomputable section
namespace Go.Dv.Try
open Go Go.Dv Go.RowKit
def apT(ep:CK)(L:List (CK)):Prop:=∃(v:Vo) (t:Rn),ep=[.cptr v.pv,.cptr t.pv]/\az3 v t/\L=(mH t 0 v.st.l).map λs=>[s.pv]
def vX{α:Type}(hr:List α->(Nat->Prop)->World->Prop)(y:α->CK)(hk:List (Nat×PV))(D:ZS)(a:Act)(hi:World):Prop:=
 ∃VJ X pre,M0 73 VJ hi a hk/\(∀b,VJ b→¬X b)/\hr pre X hi/\pre.map y=D.map λs=>[s.pv]
def vX.adv{α:Type}{hr:List α->(Nat->Prop)->World->Prop}{y:α->CK}{B:Nat}(hJ:∀X,AbidesFrom B λpre=>hr pre X)(hX:∀pre X W1,hr pre X W1→∀b,X b->b<W1.heap.size)(hΓ:Sound Go.Proofs.Tryz.prog (ao []))
 {hk E':List (Nat×PV)} {D:ZS} {a:Act} {hi:World} (hb:vX hr y hk D a hi) {c:Code} {pc:PC} (F:eT Go.Proofs.Tryz.prog 73 c=some (strip pc)) (hs:dm pc=true) {l:XU} (hv:vc (ao []) [] psI pc (itQ l E') (rT hk) []) (m:Nat) {R:Exit->Act->World->Prop}
 (h:∀a' W',vX hr y E' D a' W'->R .normal a' W'):c.wpIn Fence.wide m Go.Proofs.Tryz.prog R a hi:=by
 obtain⟨VJ,X,pre,hb,hd,hj,hp⟩:=hb;refine hb.piece hΓ mixed F hs l hv m λaB9 a' W' I' hg hn=>h a' W' ⟨_,X,_,I',λb I T=>?_,hJ X pre hi W' none hj hg (λr e=>bh),hp⟩
 rcases hn b I with g|g
 ·grind
 ·have:=hX pre X hi hj b T;omega
def vX.num{α:Type}{hr:List α->(Nat->Prop)->World->Prop}{y:α->CK}{hk:List (Nat×PV)}{D:ZS}{a:Act}{hi:World}(hb:vX hr y hk D a hi){p:Nat}{x:Int}(h:(p,pI x)∈hk):a.tmps.getD p undef=.int .i64 x:=by
 obtain⟨_,_,_,hb,_⟩:=hb;have:=hb.get h;assumption
def vX.bool{α:Type}{hr:List α->(Nat->Prop)->World->Prop}{y:α->CK}{hk:List (Nat×PV)}{D:ZS}{a:Act}{hi:World}(hb:vX hr y hk D a hi){p:Nat}{b:Bool}(h:(p,pB b)∈hk):a.tmps.getD p undef=.bool b:=by
 obtain⟨_,_,_,hb,_⟩:=hb;have:=hb.get h;assumption
def vX.sub{α:Type}{hr:List α->(Nat->Prop)->World->Prop}{y:α->CK}{hk E':List (Nat×PV)}{D:ZS}{a:Act}{hi:World}(hb:vX hr y hk D a hi)(h:∀q∈E',q∈hk):vX hr y E' D a hi:=by
 obtain⟨VJ,X,pre,hb,r⟩:=hb;exact⟨_,X,_,hb.sub h,r⟩
def vX.ops{α:Type}{hr:List α->(Nat->Prop)->World->Prop}{y:α->CK}{B:Nat}(hJ:∀X,AbidesFrom B λpre=>hr pre X)(hX:∀pre X W1,hr pre X W1→∀b,X b->b<W1.heap.size)(hΓ:Sound Go.Proofs.Tryz.prog (ao []))
 {hk E':List (Nat×PV)} {D:ZS} {a:Act} {hi:World} (hb:vX hr y hk D a hi) {os:Array Oper} (hl:Ae (w_ Go.Proofs.Tryz.prog false os 73) os.toList=some abR) (i k:Nat) (js:QK) (E:i+k<=24)
 (hv:HV (ao []) (λenv _=>iB E' env) ((abR.drop i).take k) (rT hk) []) (m:Nat) {Q:Exit->Act->World->Prop} (h:∀a' W',vX hr y E' D a' W'->wpOpsIn Fence.wide m Go.Proofs.Tryz.prog os Q js a' W'):wpOpsIn Fence.wide m Go.Proofs.Tryz.prog os Q (List.range' i k++js) a hi:=by
 obtain⟨VJ,X,pre,hb,hd,hj,hp⟩:=hb;refine hb.ops hΓ hl i k js E hv λaB9 a' W' I' hg hn=>h a' W' ⟨_,X,_,I',λb I T=>?_,hJ X pre hi W' none hj hg (λr e=>bh),hp⟩
 rcases hn b I with g|g
 ·grind
 ·have:=hX pre X hi hj b T;omega
def aAr{os:Array Oper}(h:Ae (w_ Go.Proofs.Tryz.prog false os 73) os.toList=some abR):os.size=24:=by
 obtain⟨hl,_,_⟩:=uI h ⟨none,none,.nilS 0⟩;exact hl.symm
def adF(hΓ:Sound Go.Proofs.Tryz.prog (ao [])):apO Go.Proofs.Tryz.prog 206 apT:=by
 intro m w dV ep vs L b_ lf hit;obtain⟨v,t,rfl,hI,rfl⟩:=hit;have hf:Go.Proofs.Tryz.prog.funcs[206]?=some Go.Proofs.Tryz.f206:=ae;obtain⟨A,B,C,D,hk,hc,G,h2,σ,aa,W1,id,os,o21,o8,BG,cA,cB,cC,cD,cE,cF,cG,cH,cZ,cV,cW,cO,g21,g8,d8,og,od,cc,oop,aGa,aGb⟩:=arV;refine⟨?_,Go.Proofs.enters_of hf ae BG⟩;obtain⟨v1,v2,rfl,r1,r2⟩:∃v1 v2,vs= #[v1,v2]/\Rd dV w (.cptr v.pv) v1/\Rd dV w (.cptr t.pv) v2:=by
  simp only[cz]at lf;obtain⟨v1,x,e1,r1,v2,x2,rfl,r2,rfl⟩:=lf;exact⟨v1,v2,TZ,r1,r2⟩
 let Ls:=mH t 0 v.st.l
 let y:{ k:Nat//k<Ls.length }->CK:=λk=>[(Ls[k.1]'k.2).pv]
 let en:{ k:Nat//k<Ls.length }->Array Value:=λk=> #[.agg #[.int .i64 (Ls[k.1]'k.2).k,.int .i64 (Ls[k.1]'k.2).p,.int .i64 (Ls[k.1]'k.2).c]]
 have tU:∀{ok:Nat->Prop} {hi:World} (s:Sh) (u:Value),Rd ok hi s.pv u↔u=.agg #[.int .i64 s.k,.int .i64 s.p,.int .i64 s.c]:=λs u=>by
  unfold Sh.pv;simp only[Rd,cz];constructor
  ·rintro⟨_,vs,rfl,a,r,e,rfl,b,r2,rfl,rfl,c,r3,rfl,rfl,rfl⟩;rw[show vs= #[.int .i64 s.k,.int .i64 s.p,.int .i64 s.c] by rw[<-Array.toList_inj];exact e]
  ·rintro rfl;refine⟨λc F=>?_,_,rfl,_,_,rfl,rfl,_,_,rfl,rfl,_,_,rfl,rfl,rfl⟩;simp only[zax,zb6,or_false]at F;rcases F with rfl|rfl|rfl<;>rfl
 refine⟨{ k:Nat//k<Ls.length },y,en,λk=>⟨zaX.2 ⟨(Ls[k.1]'k.2),zdn k.2,rfl⟩,?_⟩,?_⟩
 ·show cz dV w [(Ls[k.1]'k.2).pv] [_];simp only[cz];exact⟨_,_,rfl,(tU _ _).2 rfl,rfl⟩
 intro yy hr Jx hi I hJ hJx hX hY X0 h0 hj0;refine callsIn_of_wp hf BG trivial ?_;obtain⟨hK,hYd⟩:∃hK,hK=Value.func (.yield yy) #[] #[]:=⟨_,rfl⟩
 have hcW:∀b o,dV b->hi.cell? ⟨b,o,none⟩=w.cell? ⟨b,o,none⟩:=λb o nN=>World.cell?_of_block (I.block b (b_ b nN))
 have it0:vX hr y [(0,.val hK),(1,.cptr v.pv),(2,.cptr t.pv)] [] { tmps:=(#[Value.func (.yield yy) #[] #[]]++ #[v1,v2])++Array.replicate (Go.Proofs.Tryz.f206.ntmps-(#[Value.func (.yield yy) #[] #[]]++ #[v1,v2]).size) undef,defers:=[] } hi:=by
  have hn:Go.Proofs.Tryz.f206.ntmps-(#[Value.func (.yield yy) #[] #[]]++ #[v1,v2]).size=70:=by
   rw[show Go.Proofs.Tryz.f206.ntmps=73 by kernel_rfl];rfl
  rw[hn];obtain⟨a0,a1,a2,a3⟩:=LQ (Value.func (.yield yy) #[] #[]) v1 v2 70;refine⟨dV,X0,[],⟨a3,rfl,λb nN=>Nat.lt_of_lt_of_le (b_ b nN) I.size,λq hq=>?_⟩,h0,hj0,rfl⟩;simp only[zax,zb6,or_false]at hq;rcases hq with rfl|rfl|rfl
  ·show Rd _ _ _ (Array.getD _ 0 undef);rw[a0,hYd];simp only[Rd];exact⟨trivial,rfl⟩
  ·show Rd _ _ _ (Array.getD _ 1 undef);rw[a1];exact Rd.mono (λ_ h=>h) hcW _ _ r1
  ·show Rd _ _ _ (Array.getD _ 2 undef);rw[a2];exact Rd.mono (λ_ h=>h) hcW _ _ r2
 generalize ({ tmps:=(#[Value.func (.yield yy) #[] #[]]++ #[v1,v2])++Array.replicate (Go.Proofs.Tryz.f206.ntmps-(#[Value.func (.yield yy) #[] #[]]++ #[v1,v2]).size) undef,defers:=[] }:Act)=aBg at it0;refine wpIn_seq (it0.adv hJ hX hΓ cA rfl aDs m λaBh WA i1=>?_);refine wpIn_block ?_;refine wpIn_loop (λact hi=>∃i:Nat,vX hr y (eO (.val hK) v t (ub v.st) v.st.l.length i) (mH t 0 (v.st.l.take i)) act hi/\i<=v.st.l.length) (λact _=>((v.st.l.length:Int)+1-intOf (act.tmps.getD 15 undef)).toNat) ⟨0,i1,V⟩ ?_;clear i1 it0;rintro act W2 ⟨i,I2,MG⟩;have t15:=I2.num (p:=15) (x:=i) (by simp[eO]);have hlen:=hI.len;refine wpIn_seq (I2.adv hJ hX hΓ cB rfl (aD0 rfl) m λat2 W3 I3=>?_);by_cases aM:i<v.st.l.length
 case neg=>
  rw[decide_eq_false aM]at I3;refine wpIn_seq (wpIn_cond_false (I3.bool (p:=16) (b:=false) ab) (wpIn_exit ?_));obtain⟨VJ,X,pre,hb,hd,hj,hp⟩:=I3;refine⟨hb.defs,.tuple #[],results_none rfl _ _ _,⟨_,rfl⟩,.inl ⟨pre,X,?_,hj⟩⟩;show pre.map y=_;rw[hp,za1 V]
 rw[decide_eq_true aM]at I3;refine wpIn_seq (wpIn_cond_true (I3.bool (p:=16) (b:=true) ab) (wpIn_skip ?_));replace I3:=I3.sub (E':=eO (.val hK) v t (ub v.st) v.st.l.length i) (λq hq=>zdM _ hq);obtain⟨a,ha⟩:∃a,v.st.l[i]?=some a:=⟨_,zah aM⟩
 have ham:=zag ha;have hS:ub v.st=.sl 11 (v.st.l.map At.pv):=Sl.SW ha;have Xo:=hI.rl a ham;have lV:=hI.rb a ham;refine wpIn_seq (wpIn_block ?_);rw[hS]at I3 ⊢;refine wpIn_seq (I3.adv hJ hX hΓ cC rfl (aDR ha) m λaxY W4 I4=>?_);refine wpIn_seq (I4.adv hJ hX hΓ cD rfl aDD m λKL W5 I5=>?_);refine wpIn_seq (I5.adv hJ hX hΓ cE rfl aDS m λaqE W6 I6=>?_);refine wpIn_block ?_;refine wpIn_loop (λwm hi=>∃j:Nat,vX hr y (eR (.val hK) v t (.sl 11 (v.st.l.map At.pv)) v.st.l.length i (uF a.rn) a.rn.l.length (aF (a.rn.l.take j)) j) (mH t 0 (v.st.l.take i)++nC t i 0 (a.rn.l.take j)) wm hi/\j<=a.rn.l.length) (λwm _=>((a.rn.l.length:Int)+1-intOf (wm.tmps.getD 23 undef)).toNat) ⟨0,by rw[List.take_zero];show vX hr y _ (_++[]) _ _;rw[zbg];exact I6,V⟩ ?_;clear I2 I3 I4 I5 I6;rintro aBl W7 ⟨j,I7,hjn⟩;have t23:=I7.num (p:=23) (x:=j) (by simp[eR]);refine wpIn_seq (I7.adv hJ hX hΓ cF rfl (aD4 rfl) m λaLr W8 I8=>?_);by_cases xJ:j<a.rn.l.length
 case neg=>
  rw[decide_eq_false xJ]at I8;refine wpIn_seq (wpIn_cond_false (I8.bool (p:=24) (b:=false) ab) (wpIn_exit ?_));replace I8:=I8.sub (E':=eR (.val hK) v t (.sl 11 (v.st.l.map At.pv)) v.st.l.length i (uF a.rn) a.rn.l.length (aF (a.rn.l.take j)) j) (λq hq=>zdM _ hq);refine I8.adv hJ hX hΓ cW rfl (aDA V) m λVM W9 I9=>?_
  rw[za1 (show a.rn.l.length<=j by omega),<-acV ha]at I9;refine⟨⟨i+1,I9,V⟩,?_⟩;have u15:=I9.num (p:=15) (x:=((i+1:Nat):Int)) (by simp[eO]);rw[t15,u15];show((v.st.l.length:Int)+1-((i+1:Nat):Int)).toNat<((v.st.l.length:Int)+1-(i:Int)).toNat;omega
 rw[decide_eq_true xJ]at I8;refine wpIn_seq (wpIn_cond_true (I8.bool (p:=24) (b:=true) ab) (wpIn_skip ?_));replace I8:=I8.sub (E':=eR (.val hK) v t (.sl 11 (v.st.l.map At.pv)) v.st.l.length i (uF a.rn) a.rn.l.length (aF (a.rn.l.take j)) j) (λq hq=>zdM _ hq);obtain⟨r,J⟩:∃r,a.rn.l[j]?=some r:=⟨_,zah xJ⟩
 have hrr:=lV r (zag J);have hR:uF a.rn=.sl 2 (a.rn.l.map Rn.pv):=Sl.SW J;have hsb:=Yx (l:=a.rn.l.take j) λx T=>(lV x (List.mem_of_mem_take T)).2
 rw[zal,zat hjn]at hsb;have ZZ:aF (a.rn.l.take (j+1))=aF (a.rn.l.take j)+r.n:=by
  rw[zcM,J,show(some r).toList=[r]from rfl,pE];show _+(r.n+0)=_;omega
 have alu:=awc (t:=t) ha (j+1);rw[Q4 J]at alu;rw[hR]at I8 ⊢;have fin:∀(VM:Act) (W9:World),vX hr y ((66,pB false)::(8,.cptr r.pv)::eR (.val hK) v t (.sl 11 (v.st.l.map At.pv)) v.st.l.length i (.sl 2 (a.rn.l.map Rn.pv)) a.rn.l.length (aF (a.rn.l.take j)) j) (mH t 0 (v.st.l.take i)++nC t i 0 (a.rn.l.take (j+1))) VM W9->
  ∀{Q:Exit->Act->World->Prop},(∀act hi,vX hr y (eR (.val hK) v t (.sl 11 (v.st.l.map At.pv)) v.st.l.length i (.sl 2 (a.rn.l.map Rn.pv)) a.rn.l.length (aF (a.rn.l.take (j+1))) j) (mH t 0 (v.st.l.take i)++nC t i 0 (a.rn.l.take (j+1))) act hi->Q .normal act hi)->σ.wpIn Fence.wide m Go.Proofs.Tryz.prog Q VM W9:=by
  intro VM W9 I9 Q hQ;rw[ZZ]at hQ;exact I9.adv hJ hX hΓ cZ rfl (aDP hrr V) m hQ
 refine wpIn_seq (wpIn_block ?_);refine wpIn_seq (I8.adv hJ hX hΓ cG rfl (aDO J) m λVM W9 I9=>?_);refine wpIn_seq (I9.adv hJ hX hΓ cH rfl (aDF hrr hI.tb) m λaIj W10 I10=>?_);have last:∀(VM:Act) (W9:World),vX hr y ((66,pB false)::(8,.cptr r.pv)::eR (.val hK) v t (.sl 11 (v.st.l.map At.pv)) v.st.l.length i (.sl 2 (a.rn.l.map Rn.pv)) a.rn.l.length (aF (a.rn.l.take j)) j) (mH t 0 (v.st.l.take i)++nC t i 0 (a.rn.l.take (j+1))) VM W9->
  ∀{Q:Exit->Act->World->Prop},(∀act hi,vX hr y (eR (.val hK) v t (.sl 11 (v.st.l.map At.pv)) v.st.l.length i (.sl 2 (a.rn.l.map Rn.pv)) a.rn.l.length (aF (a.rn.l.take (j+1))) j) (mH t 0 (v.st.l.take i)++nC t i 0 (a.rn.l.take (j+1))) act hi->Q .normal act hi)->(Code.cond (.tmp 66) .ret .skip).wpIn Fence.wide m Go.Proofs.Tryz.prog (Exit.then (σ.wpIn Fence.wide m Go.Proofs.Tryz.prog Q) Q) VM W9:=by
  intro VM W9 I9 Q hQ;exact wpIn_cond_false (I9.bool (p:=66) (b:=false) ab) (wpIn_skip (fin VM W9 I9 hQ))
 have hinv:∀(act:Act) (hi:World),vX hr y (eR (.val hK) v t (.sl 11 (v.st.l.map At.pv)) v.st.l.length i (.sl 2 (a.rn.l.map Rn.pv)) a.rn.l.length (aF (a.rn.l.take (j+1))) j) (mH t 0 (v.st.l.take i)++nC t i 0 (a.rn.l.take (j+1))) act hi->True:=λ_ _ _=>trivial
 refine wpIn_seq (wpIn_seq (wpIn_region ?_));rw[aAr cO];by_cases agU:YO t r
 case neg=>
  have e:nC t i 0 (a.rn.l.take (j+1))=nC t i 0 (a.rn.l.take j):=by rw[Q4 J];unfold NW;rw[if_neg agU,zbg]
  rw[<-e]at I10;refine I10.ops hJ hX hΓ cO 0 24 [] ai (aAw agU) m λUl W11 I11=>?_
  refine last Ul W11 I11 λaIk W12 I12=>?_
  refine I12.adv hJ hX hΓ cV rfl (az_ V) m λaIl W13 I13=>?_
  refine⟨⟨j+1,I13,V⟩,?_⟩;have u23:=I13.num (p:=23) (x:=((j+1:Nat):Int)) (by simp[eR]);rw[t23,u23];show((a.rn.l.length:Int)+1-((j+1:Nat):Int)).toNat<((a.rn.l.length:Int)+1-(j:Int)).toNat;omega
 have zy:NW t i (aF (a.rn.l.take j)) r=[⟨i,aF (a.rn.l.take j)+max r.s t.s-r.s,min (r.s+r.n) (t.s+t.n)-max r.s t.s⟩]:=by unfold NW;rw[if_pos agU]
 have e:mH t 0 (v.st.l.take i)++nC t i 0 (a.rn.l.take (j+1))=(mH t 0 (v.st.l.take i)++nC t i 0 (a.rn.l.take j))++[⟨i,aF (a.rn.l.take j)+max r.s t.s-r.s,min (r.s+r.n) (t.s+t.n)-max r.s t.s⟩]:=by rw[Q4 J,zy,zaj]
 rw[zy,<-zaj]at alu;refine I10.ops hJ hX hΓ cO 0 21 [21,22,23] ai (aAd hrr hI.tb V agU) m λUl W11 I11=>?_
 rw[e]at last;generalize (⟨i,aF (a.rn.l.take j)+max r.s t.s-r.s,min (r.s+r.n) (t.s+t.n)-max r.s t.s⟩:Sh)=sh at*;generalize hD:mH t 0 (v.st.l.take i)++nC t i 0 (a.rn.l.take j)=D at*;have t51:=I11.bool (p:=51) (b:=true) ab;obtain⟨VJ,X,pre,hb,hd,hj,hp⟩:=I11;have y52:Ul.tmps.getD 52 undef=.func (.yield yy) #[] #[]:=by
  have:=hb.get (p:=52) (x:=.val hK) ab;rw[<-hYd];simp only[Rd]at this;exact this.1
 have y63:=(tU _ _).1 (hb.get (p:=63) (x:=sh.pv) ab);have E:D.length<Ls.length:=by
  have:=alu.length_le;rw[zad,List.length_singleton]at this;exact this
 have hlk:Ls[D.length]'E=sh:=by
  obtain⟨x,T⟩:=alu;have:Ls[D.length]?=some sh:=by
   show(mH t 0 v.st.l)[D.length]?=some sh;rw[<-T,zaj,zak (zai _),zcc];rfl
  rw[zah E]at this;exact Option.some.inj this
 have qk:pre.length=D.length:=by
  have:=congrArg List.length hp;simpa using this
 have als:(pre++[(⟨D.length,E⟩:{ k:Nat//k<Ls.length })]).map y=(D++[sh]).map λs=>[s.pv]:=by
  rw[zaY,zaY,hp];show _++[[(Ls[D.length]'E).pv]]=_;rw[hlk];rfl
 obtain⟨fn,tm,asg,bd,hy,hRr⟩:=hY pre ⟨D.length,E⟩ X W11 hj (by show(Ls.map λs=>[s.pv])[pre.length]?=_;rw[qk,zaD,zah E];rfl);refine ao6 g21 (ake og g8 d8 t51) od oop aGa aGb (l:=yy) y52 ?_;have hen:en ⟨D.length,E⟩= #[Ul.tmps.getD 63 undef]:=by
  rw[y63];show #[Value.agg #[.int .i64 (Ls[D.length]'E).k,.int .i64 (Ls[D.length]'E).p,.int .i64 (Ls[D.length]'E).c]]=_;rw[hlk]
 rw[hen]at hy;refine⟨fn,tm,asg,bd,hy,hRr.mono ?_⟩;rintro e2 W12 (⟨rfl,X',j12,k12⟩|⟨rfl,jx⟩)
 ·refine⟨_,rfl,?_⟩;obtain⟨I12,aGg⟩:=hb.round k12 hd;have I13:vX hr y ((64,pB true)::(51,pB true)::(8,.cptr r.pv)::eR (.val hK) v t (.sl 11 (v.st.l.map At.pv)) v.st.l.length i (.sl 2 (a.rn.l.map Rn.pv)) a.rn.l.length (aF (a.rn.l.take j)) j) (D++[sh]) (Ul.put (some 64) (.bool true)) W12:=by
   refine⟨VJ,X',_,I12.put (x:=pB true) ai ck (λq hq=>?_),aGg,j12,als⟩;rcases zax.1 hq with rfl|hq
   ·exact .inl rfl
   ·refine .inr ⟨?_,?_⟩
    ·rcases zax.1 hq with rfl|hq
     ·simp
     ·simp[hq]
    ·unfold eR at hq;simp only[zax,zb6,or_false]at hq;rcases hq with rfl|rfl|rfl|rfl|rfl|rfl|rfl|rfl|rfl|rfl|rfl|rfl|rfl<;>simp
  refine I13.ops hJ hX hΓ cO 22 2 [] ai azW m λaqS W14 I14=>?_
  refine last aqS W14 I14 λaIm W15 I15=>?_
  refine I15.adv hJ hX hΓ cV rfl (az_ V) m λaIn W16 I16=>?_
  rw[<-e]at I16;refine⟨⟨j+1,I16,V⟩,?_⟩;have u23:=I16.num (p:=23) (x:=((j+1:Nat):Int)) (by simp[eR]);rw[t23,u23];show((a.rn.l.length:Int)+1-((j+1:Nat):Int)).toNat<((a.rn.l.length:Int)+1-(j:Int)).toNat;omega
 ·refine⟨_,rfl,?_⟩;have I13:M0 73 (λ_=>False) W12 (Ul.put (some 64) (.bool false)) [(64,pB false),(51,pB true)]:=by
   have I0:M0 73 (λ_=>False) W12 Ul [(51,pB true)]:=⟨hb.size,hb.defs,λ_ h=>h.elim,λq hq=>by
    rw[List.mem_singleton]at hq;subst hq;simp only[Rd];exact t51⟩
   refine I0.put (x:=pB false) ai ck (λq hq=>?_);simp only[zax,zb6,or_false]at hq;rcases hq with rfl|rfl
   ·exact .inl rfl
   ·exact .inr ⟨ab,ai⟩
  refine I13.ops hΓ cO 22 2 [] ai azT λaB9 aqS W14 I14 hg hn=>?_
  have t66:aqS.tmps.getD 66 undef=.bool true:=by
   have:=I14.get (p:=66) (x:=pB true) ab;simpa only[Rd]using this
  refine wpIn_cond_true t66 (wpIn_ret ?_);refine⟨I14.defs,.tuple #[],results_none rfl _ _ _,⟨_,rfl⟩,.inr ⟨_,?_,hJx _ W12 W14 none jx hg (λr e=>bh)⟩⟩;show(pre++[(⟨D.length,E⟩:{ k:Nat//k<Ls.length })]).map y<+:_;rw[als];exact alu.map _
end Go.Dv.Try
namespace Go.Dv.Try
open Go Go.Dv
def Ph(ps:CK)(y:PV):Prop:=∃(l:UH) (x:Rn),ps=[.sl 2 (l.map Rn.pv),x.pv]/\(x∈l/\l.length<=1000000)/\y=pI (JG l x)
def aau:MT (ao []) cU (ah Ph):=by
 rintro _ K ⟨_,⟨l,x,rfl,⟨T,hl⟩,rfl⟩,Y⟩;have FJ:(l.map Rn.pv).length=l.length:=zaw _
 (repeat'((conv=>whnf);first|refine cT λ_=>?_|fail))
 refine⟨λm env Z=>∃n:Nat,(n+m=l.length/\x∈l.drop n/\JG l x=n+JG (l.drop n) x)/\Z=[.box 103 [.pv (pI x.s),.pv (pI x.n)]]/\env=[(0,.pv (.sl 2 (l.map Rn.pv))),(3,.ref 0 0 0),eN 7 l.length,eN 8 n],l.length,⟨0,⟨V,T,ab⟩,rfl,rfl⟩,?_⟩;rintro m env Z ⟨n,⟨hn,hxn,he⟩,rfl,rfl⟩;by_cases aM:n<l.length
 case neg=>rw[List.drop_of_length_le V]at hxn;cases hxn
 obtain⟨a,ha⟩:∃a,l[n]?=some a:=⟨_,zah aM⟩
 have hga:=nH (f:=Rn.pv) ha;rw[drop_cons ha]at hxn he;by_cases e:x.s=a.s/\x.n=a.n
 ·have h0:JG l x=n:=by rw[he];unfold JG;rw[if_pos e];rfl
  rw[h0]at Y;have e2:[pI x.s,pI x.n]=[pI a.s,pI a.n]:=by rw[e.1,e.2]
  (repeat'((conv=>whnf);first|refine ak V ?_|refine⟨_,⟨V,hga⟩,?_⟩|refine aY ?_|fail))
  exact⟨.pv (pI n),rfl,trivial,Y⟩
 ·have U:x∈l.drop (n+1):=by
   rcases zax.1 hxn with h|h
   ·exact absurd ⟨by rw[h],by rw[h]⟩ e
   ·exact h
  have H:JG l x=(n+1)+JG (l.drop (n+1)) x:=by
   rw[he];show n+(if _ then 0 else JG (l.drop (n+1)) x+1)=_;rw[if_neg e];omega
  have e2:¬[pI x.s,pI x.n]=[pI a.s,pI a.n]:=λh=>by
   simp only[List.cons.injEq,PV.int.injEq,true_and,and_true]at h;exact e h
  (repeat'((conv=>whnf);first|refine ak V ?_|refine⟨_,⟨V,hga⟩,?_⟩|refine ar e2 ?_|refine bu V ?_|refine aY ?_|fail))
  exact⟨m-1,V,n+1,⟨V,U,H⟩,rfl,rfl⟩
def HT(ps:CK)(y:PV):Prop:=∃(b:Rn) (l:UH),ps=[.sl 2 ((b::l).map Rn.pv),.clo 88 []]/\l.length<=1000000/\y=(sK b l).pv
def ZE:MT (ao [(88,ah Ng)]) bA (ah HT):=by
 rintro args K ⟨_,⟨b,l,U,H,rfl⟩,Y⟩;exact afy args K ⟨b,l,U,H,Y⟩
def AP:Spec:={ lone:=false,fn:=false,run:=λ_ _=>False,iter:=apT,mu:=false,j0:=λ_ _ _=>False }
def adG(hΓ:Sound Go.Proofs.Tryz.prog (ao [])):bQ Go.Proofs.Tryz.prog 206 AP:=
 ⟨(λe=>bh),(λe=>bh),(λ_ _ _ _ _ _ _ _ h=>(show False from h).elim),adF hΓ,(λ_ _ _ _ _ _ _ _ e=>bh)⟩
def aaU:Spec:=AT false false λps K=>∃(v:Vo) (t:Rn),ps=[v.pv,t.pv]/\K (.pv (.clo 206 [.cptr v.pv,.cptr t.pv]))
def UN:MT (ao [(206,AP)]) qm aaU:=by
 rintro _ K ⟨v,t,rfl,Y⟩;obtain⟨⟨b,m⟩,s⟩:=v;cases s<;>
 ·(conv=>whnf)
  exact rC
def auy(t:Rn)(w:Vo)(m:Mv):Prop:=
 (1<=m.t.n∧∀c:Int,m.t.s<=c->c<m.t.s+m.t.n→¬(t.s<=c/\c<t.s+t.n))/\
 (0<=m.k/\0<=m.p)∧∃b,w.st.l[m.k.toNat]?=some b/\(∀j:Nat,m.p<=j->(j:Int)<m.p+m.t.n→∃x,(aq b.rn.l)[j]?=some x/\t.s<=x/\x<t.s+t.n)/\
  ∃b',(jm w m).st.l=w.st.l.set m.k.toNat b'∧∀j:Nat,¬(m.p<=j/\(j:Int)<m.p+m.t.n)->(aq b'.rn.l)[j]?=(aq b.rn.l)[j]?
def A4(t:Rn):Vo->XM->Vo->Prop
 |w,[],w'=>w'=w
 |w,m::l,w'=>(jN w m=0/\auy t w m)/\A4 t (jm w m) l w'
def Mk{t:Rn}:∀{l m:XM} {w w1 w2:Vo},A4 t w l w1->A4 t w1 m w2->A4 t w (l++m) w2
 |[],m,w,w1,w2,h,k=>by have h:w1=w:=h;grind
 |x::l,m,w,w1,w2,h,k=>⟨h.1,Mk (l:=l) h.2 k⟩
def DH{t:Rn}:∀{l:XM} {w w1:Vo},A4 t w l w1→∀(i:Int) (rest:XM),Ce w i (l++rest)=Ce w1 (i+l.length) rest
 |[],w,w1,h,i,rest=>by
  have h:w1=w:=h
  grind
 |x::l,w,w1,h,i,rest=>by
  show(if jN w x≠0 then _ else Ce (jm w x) (i+1) (l++rest))=_;rw[if_neg (λg=>g h.1.1),DH (l:=l) h.2]
  grind
structure ClI(v:Vo)(t:Rn)(w:Vo)(R:UH)(lo:Nat->Nat)(cl:Nat->QK):Prop where
 g:sS w
 Vt:Y9 w=Y9 v
 n:w.d.n=v.d.n
 len:w.st.l.length=v.st.l.length
 fr:aF (Zn w.d)=aF (Zn v.d)
 st:∀k a,v.st.l[k]?=some a→∃b,w.st.l[k]?=some b/\b.rs=a.rs/\(aq b.rn.l).length=(aq a.rn.l).length/\(∀j,lo k<=j->(aq b.rn.l)[j]?=(aq a.rn.l)[j]?)/\(∀j x,j<lo k->(aq b.rn.l)[j]?=some x→¬(t.s<=x/\x<t.s+t.n))/\
  ∀i,i<(aq a.rn.l).length->HF (pAt (aq b.rn.l)) i=true->i∈cl k
 rm:RmI w t R
def pF{α:Type}(f:Nat->α)(k:Nat)(x:α)(i:Nat):α:=if i=k then x else f i
def nI{α:Type}(f:Nat->α)(k:Nat)(x:α):pF f k x k=x:=if_pos rfl
def LO{α:Type}(f:Nat->α){k i:Nat}(x:α)(h:i≠k):pF f k x i=f i:=if_neg h
def Dt(l:QK)(i:Nat):QK:=if i∈l then l else i::l
def zj(l:QK)(i x:Nat):x∈l\/x=i->x∈Dt l i:=by
 unfold Dt
 grind
def ab5(l:QK)(i:Nat):(Dt l i).length<=l.length+(if i∈l then 0 else 1):=by
 unfold Dt;grind
def aaw(v:Vo)(R:UH):Prop:=(∃a∈v.st.l,16<a.rn.l.length)\/16<R.length
def as2{v:Vo}{t:Rn}{k:Nat}{a:At}(ha:v.st.l[k]?=some a)(fx:a.rs=false){p:Nat}{w:Vo}{R:UH}{lo:Nat->Nat}{cl:Nat->QK}(hb:ClI v t w R lo cl)(A6:lo k<=p)
 (hbt:∀j,lo k<=j->j<p→∀x,(aq a.rn.l)[j]?=some x→¬(t.s<=x/\x<t.s+t.n)) {m:Nat} (hm:1<=m) (hpt:∀j,p<=j->j<p+m→∃x,(aq a.rn.l)[j]?=some x/\x≠ -1/\t.s<=x/\x<t.s+t.n) (ca:R≠[]) (hmn:(m:Int)<=(dK R).n):
 (jN w ⟨k,p,⟨(dK R).s,m⟩⟩=0/\auy t w ⟨k,p,⟨(dK R).s,m⟩⟩/\ClI v t (jm w ⟨k,p,⟨(dK R).s,m⟩⟩) (Um R m) (pF lo k (p+m)) (pF cl k (Dt (Dt (cl k) p) (p+m))))\/
 (jN w ⟨k,p,⟨(dK R).s,m⟩⟩=8/\64<(Dt (Dt (cl k) p) (p+m)).length):=by
 obtain⟨b,I,hbr,A8,xI,nj,Z5⟩:=hb.st k a ha;have hkl:=(zaa.1 I).1;have lV:=hb.rm.b _ (ux ca);have hrf:=hb.rm.fre _ (ux ca);have qk:p+m<=(aq a.rn.l).length:=by
  obtain⟨x,T,_⟩:=hpt (p+m-1) V V;have:=(zaa.1 T).1;omega
 have hd:∀j,p<=j->j<p+m->FY (aq b.rn.l) j=true:=λj U H=>by
  obtain⟨x,T,sB,_⟩:=hpt j U H;unfold FY;rw[xI j V,T,zbE];exact decide_eq_true sB
 have Us:=arq (s:=(dK R).s) hb.g I (by rw[hbr];exact fx) hm V hd lV.1.1 V (λc c1 c2=>(hrf c c1 V).1);have hP:∀j:Nat,(tB (aq b.rn.l) p ⟨(dK R).s,m⟩ m)[j]?=if p<=j/\j<p+m then some ((dK R).s+((j-p:Nat):Int))else(aq b.rn.l)[j]?:=λj=>by
  have g:=uq (pl:=aq b.rn.l) (p:=(p:Int)) (tr:=⟨(dK R).s,m⟩) V (k:=m) V j;rw[zaC]at g;exact g
 have hPl:(tB (aq b.rn.l) p ⟨(dK R).s,m⟩ m).length=(aq a.rn.l).length:=(Pd _ _ _ _).trans A8;have iX:∀i,i<(aq a.rn.l).length->HF (pAt (tB (aq b.rn.l) p ⟨(dK R).s,m⟩ m)) i=true->i∈Dt (Dt (cl k) p) (p+m):=λi W h=>by
  rcases awD hP lV.1.1 h with g|g|g
  ·exact zj _ _ _ (.inl (zj _ _ _ (.inl (Z5 i W g))))
  ·exact zj _ _ _ (.inl (zj _ _ _ (.inr g)))
  ·exact zj _ _ _ (.inr g)
 have FI:∀x∈tB (aq b.rn.l) p ⟨(dK R).s,m⟩ m,-1<=x:=λx T=>by
  obtain⟨j,hj⟩:=zaG.1 T;rw[hP]at hj;split at hj
  ·have:=Option.some.inj hj;omega
  ·have:=(aL ((bL.1 hb.g.2).2.2.1 b (zag I))).1.pl x (zag hj);rcases this with g|g<;>omega
 by_cases Uj:(gT (tB (aq b.rn.l) p ⟨(dK R).s,m⟩ m)).length<=64
 case neg=>
  refine .inr ⟨Us.2 Uj,?_⟩;have:=Mi _ iX;rw[<-hPl,<-acu FI]at this;omega
 obtain⟨h0,M⟩:=Us.1 Uj;have ql:(jm w ⟨k,p,⟨(dK R).s,m⟩⟩).st.l=w.st.l.set k { b with rn:=.sl (gT (tB (aq b.rn.l) p ⟨(dK R).s,m⟩ m)) }:=M.st;refine .inl ⟨h0,⟨⟨IV,λc c1 c2=>?_⟩,⟨IV,IV⟩,b,I,λj j1 j2=>?_,_,ql,λj hj=>?_⟩,M.g,M.Vt.trans hb.Vt,M.n.trans hb.n,by rw[ql,za0];exact hb.len,M.fr.trans hb.fr,λk' a' ha'=>?_,?_⟩
 ·simp only at c1 c2;have:=(hrf c.toNat V V).2;rwa[show((c.toNat:Nat):Int)=c by omega]at this
 ·simp only at j1 j2;obtain⟨x,T,_,A7⟩:=hpt j V V;exact⟨x,by rw[xI j V];exact T,A7⟩
 ·simp only at hj;show(aq (gT (tB (aq b.rn.l) p ⟨(dK R).s,m⟩ m)))[j]?=_;rw[M.pl,hP,if_neg V]
 ·by_cases E:k'=k
  ·subst E;rw[ha]at ha';have e:=Option.some.inj ha';subst e;refine⟨{ b with rn:=.sl (gT (tB (aq b.rn.l) p ⟨(dK R).s,m⟩ m)) },by rw[ql,zbO hkl],hbr,?_,λj hj=>?_,λj x hj T=>?_,λi W hi2=>?_⟩
   ·show(aq (gT _)).length=_;rw[M.pl];exact hPl
   ·rw[nI]at hj;show(aq (gT (tB (aq b.rn.l) p ⟨(dK R).s,m⟩ m)))[j]?=_;rw[M.pl,hP,if_neg V];exact xI j V
   ·rw[nI]at hj;have T:(aq (gT (tB (aq b.rn.l) p ⟨(dK R).s,m⟩ m)))[j]?=some x:=T;rw[M.pl,hP]at T;split at T
    ·have:=Option.some.inj T;have:=(hrf ((dK R).s.toNat+(j-p)) V V).2;rwa[show(((dK R).s.toNat+(j-p):Nat):Int)=x by omega]at this
    ·by_cases xJ:j<lo k'
     ·exact nj j x xJ T
     ·rw[xI j V]at T;exact hbt j V V x T
   ·have hi2:HF (pAt (aq (gT (tB (aq b.rn.l) p ⟨(dK R).s,m⟩ m)))) i=true:=hi2;rw[M.pl]at hi2;rw[nI];exact iX i W hi2
  ·obtain⟨b',q1,q2,q3,q4,q5,q6⟩:=hb.st k' a' ha';refine⟨b',by rw[ql,List.getElem?_set_ne V];exact q1,q2,q3,λj hj=>q4 j JA,λj x hj T=>q5 j x JA T,λi W hi2=>?_⟩;rw[LO _ _ E];exact q6 i W hi2
 ·exact hb.rm.use ca V M.n λc c1 c2=>M.bit c c1 c2
def pT(l:ZS):Int:=(l.map λs=>s.c).sum
def pL(l m:ZS):pT (l++m)=pT l+pT m:=by unfold pT;simp
def ClI.raise{v:Vo}{t:Rn}{w:Vo}{R:UH}{lo:Nat->Nat}{cl:Nat->QK}(hb:ClI v t w R lo cl){k q:Nat}(h:∀a,v.st.l[k]?=some a→∀j,lo k<=j->j<q→∀x,(aq a.rn.l)[j]?=some x→¬(t.s<=x/\x<t.s+t.n))(hq:lo k<=q):ClI v t w R (pF lo k q) cl:=by
 refine⟨hb.g,hb.Vt,hb.n,hb.len,hb.fr,λk' a ha=>?_,hb.rm⟩;obtain⟨b,q1,q2,q3,q4,q5,q6⟩:=hb.st k' a ha;by_cases E:k'=k
 ·subst E;refine⟨b,q1,q2,q3,λj hj=>q4 j (by rw[nI]at hj;omega),λj x hj T=>?_,q6⟩;rw[nI]at hj
  grind
 ·exact⟨b,q1,q2,q3,λj hj=>q4 j JA,λj x hj T=>q5 j x JA T,q6⟩
def ahc{α:Type}(f:Nat->α)(k:Nat)(x y:α):pF (pF f k x) k y=pF f k y:=by
 unfold pF
 grind
def awR{w:Vo}{m:Mv}{l:XM}{i e:Int}(h:jN w m=e)(he:e≠0):(Ce w i (m::l)).2.2=e:=by
 show(if jN w m≠0 then(_,_,jN w m)else Ce (jm w m) (i+1) l:Vo×Int×Int).2.2=e
 grind
def VU{v:Vo}{t:Rn}{k:Nat}{a:At}(ha:v.st.l[k]?=some a)(fx:a.rs=false):∀(f p c:Nat) (w:Vo) (R:UH) (lo:Nat->Nat) (cl:Nat->QK),c<=f->1<=c->ClI v t w R lo cl->lo k<=p->
 (∀j,lo k<=j->j<p→∀x,(aq a.rn.l)[j]?=some x→¬(t.s<=x/\x<t.s+t.n))->(∀j,p<=j->j<p+c→∃x,(aq a.rn.l)[j]?=some x/\x≠ -1/\t.s<=x/\x<t.s+t.n)->(c:Int)<=aF R->
 (∃w' cl',A4 t w (By k f p c R).1 w'/\ClI v t w' (By k f p c R).2 (pF lo k (p+c)) cl'/\(∀i,i≠k->cl' i=cl i)/\(cl' k).length+OT R<=(cl k).length+OT (By k f p c R).2+(if p∈cl k then 1 else 2)/\
   aF (By k f p c R).2=aF R-c/\(By k f p c R).2.length=R.length/\(By k f p c R).1.length+OT R<=OT (By k f p c R).2+1)\/
 ((∀(i:Int) (rest:XM),(Ce w i ((By k f p c R).1++rest)).2.2=8)/\64+OT R<(cl k).length+(if p∈cl k then 1 else 2)+R.length)
 |0,p,c,w,R,lo,cl,hf,F,_,_,_,_,_=>by omega
 |f+1,p,c,w,R,lo,cl,hf,F,hb,A6,hbt,hpt,ZZ=>by
  obtain⟨ca,hpk⟩:=aeN (R:=R) V;have hxe:=afs R;obtain⟨m,hm⟩:∃m:Nat,min (c:Int) (dK R).n=m:=⟨(min (c:Int) (dK R).n).toNat,V⟩
  have hm1:1<=m/\m<=c/\(m:Int)<=(dK R).n/\(m<c->(m:Int)=(dK R).n):=V;rw[Y3 (by omega:(0:Int)<(c:Int)),hm];have e1:(p:Int)+(m:Int)=((p+m:Nat):Int):=V;have e2:(c:Int)-(m:Int)=((c-m:Nat):Int):=V;rw[e1,e2];have sB:=ar3 (n:=(m:Int)) ca hpk;have nk:=Zx ca (m:Int);have VH:=Ys R (m:Int);have ha1:=ab5 (cl k) p;have ha2:=ab5 (Dt (cl k) p) (p+m);have ha3:(Dt (Dt (cl k) p) (p+m)).length<=(cl k).length+(if p∈cl k then 1 else 2):=by
   grind
  rcases as2 ha fx hb A6 hbt hm1.1 (λj U H=>hpt j U V) ca hm1.2.2.1 with⟨g1,g2,g3⟩|⟨g1,g2⟩
  case inr=>
   refine .inr ⟨λi rest=>awR g1 ai,V⟩
  by_cases aiM:m=c
  ·subst aiM;have e3:∀q:Int,By k f q ((m-m:Nat):Int) (Um R m)=([],Um R m):=λq=>PM _ _ _ V f
   rw[e3];refine .inl ⟨_,_,⟨⟨g1,g2⟩,rfl⟩,g3,λi W=>LO _ _ W,?_,nk,VH,?_⟩
   ·rw[nI]
    grind
   grind
  have hmc:(m:Int)=(dK R).n:=hm1.2.2.2 V;rw[if_pos hmc]at sB;have MG:p+m∈pF cl k (Dt (Dt (cl k) p) (p+m)) k:=by rw[nI];exact zj _ _ _ (.inr rfl)
  rcases VU ha fx f (p+m) (c-m) (jm w ⟨k,p,⟨(dK R).s,m⟩⟩) (Um R m) (pF lo k (p+m)) (pF cl k (Dt (Dt (cl k) p) (p+m))) V V g3 (by rw[nI];omega) (λj U H=>by rw[nI]at U;omega) (λj U H=>hpt j V V) V with⟨w',cl',r1,r2,r3,r4,r5,r6,r7⟩|⟨r1,r2⟩
  ·rw[ahc,show p+m+(c-m)=p+c by omega]at r2;rw[if_pos MG,nI]at r4;refine .inl ⟨w',cl',⟨⟨g1,g2⟩,r1⟩,r2,λi W=>(r3 i W).trans (LO _ _ W),?_,?_,r6.trans VH,?_⟩
   ·grind
   ·grind
   grind
  ·rw[if_pos MG,nI]at r2;refine .inr ⟨λi rest=>?_,V⟩;show(if jN w _≠0 then _ else Ce (jm w _) (i+1) ((By k f (p+m:Nat) (c-m:Nat) (Um R m)).1++rest):Vo×Int×Int).2.2=8
   grind
def akx(r:Rn):(jd r).length=r.n.toNat:=by unfold jd;simp
def ZT:∀{l:UH},(∀r∈l,0<=r.n)->((aq l).length:Int)=aF l
 |[],_=>rfl
 |r::l,h=>by
  have e:aq (r::l)=jd r++aq l:=zan;rw[e,zad,akx];have:=ZT (l:=l) λx T=>h x bP
  have:=h r ab;show _=r.n+aF l;omega
def avW{pre l:UH}{r:Rn}{j:Nat}(U:(aq pre).length<=j)(H:(j:Int)<(aq pre).length+r.n):(aq (pre++r::l))[j]?=some (if r.s= -1 then-1 else r.s+((j-(aq pre).length:Nat):Int)):=by
 have e:aq (pre++r::l)=aq pre++(jd r++aq l):=by unfold aq;simp
 rw[e];unfold jd
 grind
def aAt{d:Dk}{a:At}(h0:aI d a=0){r t:Rn}(J:r∈a.rn.l)(h:YO t r):a.rs=false:=by
 cases g:a.rs with
 |false=>rfl
 |true=>
  have U:GY a=[]:=by unfold GY;grind
  rw[vt h0]at U;obtain⟨H,h3⟩:=h;have:r.s.toNat∈qC a.rn.l:=zbB.2 ⟨r,J,by unfold U1;grind⟩
  grind
def agC{v:Vo}{t:Rn}{k:Nat}{a:At}(hv:sS v)(ht:0<=t.s)(ha:v.st.l[k]?=some a):∀(l pre:UH) (w:Vo) (R:UH) (lo:Nat->Nat) (cl:Nat->QK),a.rn.l=pre++l->ClI v t w R lo cl->lo k=(aq pre).length->
 (cl k).length<=a.rn.l.length+2*pre.length+OT R->pT (nC t k (aF pre) l)<=aF R->
 (∃w' lo' cl',A4 t w (mI (nC t k (aF pre) l) R).1 w'/\ClI v t w' (mI (nC t k (aF pre) l) R).2 lo' cl'/\(∀i,i≠k->lo' i=lo i/\cl' i=cl i)/\(aq a.rn.l).length<=lo' k/\
   aF (mI (nC t k (aF pre) l) R).2=aF R-pT (nC t k (aF pre) l)/\(mI (nC t k (aF pre) l) R).2.length=R.length/\(mI (nC t k (aF pre) l) R).1.length+OT R<=OT (mI (nC t k (aF pre) l) R).2+l.length)\/
 ((∀(i:Int) (rest:XM),(Ce w i ((mI (nC t k (aF pre) l) R).1++rest)).2.2=8)/\(16<a.rn.l.length\/16<R.length)):=by
 have h0:=(bL.1 hv.2).2.2.1 a (zag ha);have hon:=λr J=>lY h0 r J
 have hrn:=(bz (aL h0).1.rn).2.2.2;have hn0:∀r∈a.rn.l,0<=r.n:=λr J=>by have:=pM (hrn r J);omega
 intro l
 induction l with
 |nil=>
  intro pre w R lo cl hp hb A6 iX hs;rw[zbg]at hp;refine .inl ⟨w,lo,cl,rfl,hb,λ_ _=>⟨rfl,rfl⟩,by rw[hp,A6];exact zai _,?_,rfl,?_⟩
  ·show aF R=aF R-0;omega
  ·show 0+OT R<=OT R+0;omega
 |cons r l ih=>
  intro pre w R lo cl hp hb A6 iX hs;have hrm:r∈a.rn.l:=by rw[hp];simp
  have hrr:=hon r hrm;have hr0:=hn0 r hrm;have qk:=ZT (l:=pre) λx T=>hn0 x (by rw[hp];simp[T])
  have Xm:a.rn.l=(pre++[r])++l:=by rw[hp];simp
  have hsp:aF (pre++[r])=aF pre+r.n:=by
   rw[pE];show _+(r.n+0)=_;omega
  have aLz:(aq (pre++[r])).length=(aq pre).length+r.n.toNat:=by
   have:=ZT (l:=pre++[r]) λx T=>hn0 x (by rw[Xm];exact zbw _ T)
   omega
  have ad5:(pre++[r]).length=pre.length+1:=ab;have Ea:∀j,(aq pre).length<=j->j<(aq pre).length+r.n.toNat->(aq a.rn.l)[j]?=some (if r.s= -1 then-1 else r.s+((j-(aq pre).length:Nat):Int)):=λj U H=>by
   rw[hp];exact avW U V
  have at6:nC t k (aF pre) (r::l)=NW t k (aF pre) r++nC t k (aF (pre++[r])) l:=by rw[hsp];rfl
  rw[at6]at hs ⊢;have hxl:=afs R;by_cases MG:YO t r
  case neg=>
   have e:NW t k (aF pre) r=[]:=by unfold NW;rw[if_neg MG]
   rw[e,List.nil_append]at hs ⊢;have I2:=hb.raise (k:=k) (q:=(aq (pre++[r])).length) (λa' ha' j j1 j2 x T=>by
    rw[ha]at ha';have e:=Option.some.inj ha';subst e;rw[Ea j V V]at T;have T:=Option.some.inj T;split at T
    ·omega
    ·rename_i g;intro q;exact MG ⟨g,V⟩) V
   rcases ih (pre++[r]) w R _ cl Xm I2 (nI _ _ _) (by rw[ad5];omega) hs with⟨w',lo',cl',r1,r2,r3,r4,r5,r6,r7⟩|r1
   ·exact .inl ⟨w',lo',cl',r1,r2,λi W=>⟨(r3 i W).1.trans (LO _ _ W),(r3 i W).2⟩,r4,r5,r6,by rw[zap];omega⟩
   ·exact .inr r1
  have agU:=MG;obtain⟨n1,n2⟩:=MG;have fx:=aAt h0 hrm agU;have tT:=hrr.resolve_left n1;have e:NW t k (aF pre) r=[⟨k,aF pre+max r.s t.s-r.s,min (r.s+r.n) (t.s+t.n)-max r.s t.s⟩]:=by unfold NW;rw[if_pos agU]
  rw[e]at hs ⊢;rw[pL]at hs ⊢;obtain⟨p,hpp⟩:∃p:Nat,aF pre+max r.s t.s-r.s=p:=⟨(aF pre+max r.s t.s-r.s).toNat,V⟩
  obtain⟨c,hcc⟩:∃c:Nat,min (r.s+r.n) (t.s+t.n)-max r.s t.s=c:=⟨(min (r.s+r.n) (t.s+t.n)-max r.s t.s).toNat,V⟩
  rw[hpp,hcc]at hs ⊢;have nk:pT [(⟨k,p,c⟩:Sh)]=c:=Int.add_zero _;rw[nk]at hs ⊢;have hnn:∀(l:UH) (q:Int),0<=pT (nC t k q l):=by
   intro l
   induction l with
   |nil=>intro q;exact zdJ _
   |cons y l ih=>
    intro q;show 0<=pT (NW t k q y++nC t k (q+y.n) l);rw[pL];have:=ih (q+y.n);unfold NW;split
    ·rename_i g;show 0<=(_+0)+_;simp only;have:=g.2;omega
    ·show 0<=0+_;omega
  have aGj:=hnn l (aF (pre++[r]));have hgA:mI ([(⟨k,p,c⟩:Sh)]++nC t k (aF (pre++[r])) l) R=((By k c p c R).1++(mI (nC t k (aF (pre++[r])) l) (By k c p c R).2).1,(mI (nC t k (aF (pre++[r])) l) (By k c p c R).2).2):=rfl;rw[hgA];have hsb:(if p∈cl k then 1 else 2)<=2:=by split<;>omega
  have hpq:a.rn.l.length=pre.length+(l.length+1):=by rw[hp,zad,zap]
  rcases VU ha fx c p c w R lo cl (zai _) V hb V (λj j1 j2 x T=>by
   rw[Ea j V V]at T;have T:=Option.some.inj T;rw[if_neg n1]at T;omega) (λj j1 j2=>⟨_,by rw[Ea j V V,if_neg n1],V,V,V⟩) V with⟨w1,cl1,r1,r2,r3,r4,r5,r6,r7⟩|⟨r1,r2⟩
  case inr=>
   refine .inr ⟨λi rest=>by show(Ce w i ((_++_)++rest)).2.2=8;rw[zaj];exact r1 i _,V⟩
  have I2:=r2.raise (k:=k) (q:=(aq (pre++[r])).length) (λa' ha' j j1 j2 x T=>by
   rw[ha]at ha';have e:=Option.some.inj ha';subst e;rw[nI]at j1;rw[Ea j V V]at T;have T:=Option.some.inj T;rw[if_neg n1]at T;omega) (by rw[nI];omega)
  rw[ahc]at I2;generalize hq:By k c p c R=q at*;rcases ih (pre++[r]) w1 q.2 _ cl1 Xm I2 (nI _ _ _) (by rw[ad5];omega) V with⟨w',lo',cl',s1,s2,s3,s4,s5,s6,s7⟩|⟨s1,s2⟩
  ·refine .inl ⟨w',lo',cl',Mk r1 s1,s2,λi W=>⟨(s3 i W).1.trans (LO _ _ W),(s3 i W).2.trans (r3 i W)⟩,s4,?_,s6.trans r6,?_⟩
   ·show aF (mI _ q.2).2=_;rw[s5,r5];omega
   ·show(q.1++(mI _ q.2).1).length+OT R<=OT (mI _ q.2).2+(l.length+1);rw[zad];omega
  ·refine .inr ⟨λi rest=>?_,by rw[r6]at s2;exact s2⟩;show(Ce w i ((q.1++(mI _ q.2).1)++rest)).2.2=8;rw[zaj,DH r1];exact s1 _ _
def as0{v:Vo}{t:Rn}(hv:sS v)(ht:0<=t.s):∀(l pre:UD) (w:Vo) (R:UH) (lo:Nat->Nat) (cl:Nat->QK),v.st.l=pre++l->ClI v t w R lo cl->
 (∀k a,pre.length<=k->v.st.l[k]?=some a->lo k=0/\(cl k).length<=a.rn.l.length)->(∀k a,k<pre.length->v.st.l[k]?=some a->(aq a.rn.l).length<=lo k)->pT (mH t pre.length l)<=aF R->
 (∃w' lo' cl',A4 t w (mI (mH t pre.length l) R).1 w'/\ClI v t w' (mI (mH t pre.length l) R).2 lo' cl'/\(∀k a,v.st.l[k]?=some a->(aq a.rn.l).length<=lo' k)/\(mI (mH t pre.length l) R).2.length=R.length/\
   (mI (mH t pre.length l) R).1.length+OT R<=OT (mI (mH t pre.length l) R).2+(l.map λa=>a.rn.l.length).sum)\/
 ((∀(i:Int) (rest:XM),(Ce w i ((mI (mH t pre.length l) R).1++rest)).2.2=8)/\aaw v R):=by
 intro l
 induction l with
 |nil=>
  intro pre w R lo cl hp hb _ H hs;rw[zbg]at hp;exact .inl ⟨w,lo,cl,rfl,hb,λk a ha=>H k a (by rw[<-hp];exact(zaa.1 ha).1) ha,rfl,by show 0+OT R<=OT R+0;omega⟩
 |cons a l ih=>
  intro pre w R lo cl hp hb U H hs;have ha:v.st.l[pre.length]?=some a:=by rw[hp,zak (zai _),zcc];rfl
  have Xm:v.st.l=(pre++[a])++l:=by rw[hp];simp
  have FL:(pre++[a]).length=pre.length+1:=ab;obtain⟨g1,g2⟩:=U _ a (zai _) ha;have e:mH t pre.length (a::l)=nC t pre.length (aF []) a.rn.l++mH t ((pre++[a]).length:Nat) l:=by
   show nC t pre.length 0 a.rn.l++mH t ((pre.length:Int)+1) l=_;rw[FL];rfl
  rw[e]at hs ⊢;rw[pL]at hs;rw[ZQ];have hnn:∀(l:UD) (i:Int),0<=pT (mH t i l):=by
   intro l
   induction l with
   |nil=>intro i;exact zdJ _
   |cons b l ih=>
    intro i;show 0<=pT (nC t i 0 b.rn.l++mH t (i+1) l);rw[pL];have:=ih (i+1);have:∀(l:UH) (q:Int),0<=pT (nC t i q l):=by
     intro l
     induction l with
     |nil=>intro q;exact zdJ _
     |cons y l ih=>
      intro q;show 0<=pT (NW t i q y++nC t i (q+y.n) l);rw[pL];have:=ih (q+y.n);unfold NW;split
      ·rename_i g;show 0<=(_+0)+_;simp only;have:=g.2;omega
      ·show 0<=0+_;omega
    have:=this b.rn.l 0;omega
  have aGj:=hnn l ((pre++[a]).length:Nat);rcases agC hv ht ha a.rn.l [] w R lo cl rfl hb g1 aH V with⟨w1,lo1,cl1,r1,r2,r3,r4,r5,r6,r7⟩|⟨r1,r2⟩
  case inr=>
   refine .inr ⟨λi rest=>by rw[zaj];exact r1 i _,?_⟩;rcases r2 with r2|r2
   ·exact .inl ⟨a,zag ha,r2⟩
   ·exact .inr r2
  generalize mI (nC t pre.length (aF []) a.rn.l) R=q at*;rcases ih (pre++[a]) w1 q.2 lo1 cl1 Xm r2 (λk b E I=>by
   rw[FL]at E;rw[(r3 k V).1,(r3 k V).2];exact U k b V I) (λk b E I=>by
   rw[FL]at E;by_cases g:k=pre.length
   ·subst g;rw[ha]at I;cases I;exact r4
   ·rw[(r3 k g).1];exact H k b V I) V with⟨w',lo',cl',s1,s2,s3,s4,s5⟩|⟨s1,s2⟩
  ·refine .inl ⟨w',lo',cl',Mk r1 s1,s2,s3,s4.trans r6,?_⟩;show(q.1++(mI _ q.2).1).length+OT R<=OT (mI _ q.2).2+_;rw[zad,List.map_cons,List.sum_cons];omega
  ·refine .inr ⟨λi rest=>?_,?_⟩
   ·rw[zaj,DH r1];exact s1 _ _
   ·rcases s2 with s2|s2
    ·exact .inl s2
    ·exact .inr (by rw[r6]at s2;exact s2)
def agE(t:Rn)(c:Int):Prop:=¬(t.s<=c/\c<=t.s+t.n-1)
def Cd(v:Vo)(t:Rn):UH:=Db (LP v (agE t)) (eW v).length
def an8{v:Vo}(h:BN v)(t:Rn):Cd v t=Db (λc=>¬aU v.d.mp c=1/\agE t c) v.d.n:=by
 unfold Cd;rw[oz];refine WW _ λc F=>?_
 unfold LP;rw[amo h F]
def Wm{v:Vo}(h:BN v){t:Rn}:RmI v t (Cd v t):=by
 rw[an8 h];have I:=(Nc (λc=>¬aU v.d.mp c=1/\agE t c) v.d.n).1;obtain⟨U,H⟩:=ag2 (λc:Nat=>¬aU v.d.mp c=1/\agE t c) v.d.n;refine⟨λr J=>au,λr J c c1 c2=>?_,λi j a b sC ha hbb c F=>?_⟩
 ·have:=((U c).1 ⟨r,J,Zl.2 ⟨c1,c2⟩⟩).2;exact⟨this.1,λg=>this.2 V⟩
 ·obtain⟨W,rfl⟩:=zaa.1 ha;obtain⟨hj,rfl⟩:=zaa.1 hbb;have h0:=I _ (zdn W);have key:∀x y,(∀c,¬(HH x c=true/\HH y c=true))->0<=x.s→¬((x.s<=c/\c<x.s+x.n)/\y.s<=c/\c<y.s+y.n):=λx y q h0 g=>q c.toNat ⟨Zl.2 V,Zl.2 V⟩
  rcases Nat.lt_or_ge i j with g|g
  ·exact key _ _ (zdw.1 H i j W hj g) h0.1 F
  ·have h3:=I _ (zdn hj);exact key _ _ (zdw.1 H j i hj W V) h3.1 ⟨F.2,F.1⟩
def Qi(v:Vo)(t:Rn):XM:=(mI (mH t 0 v.st.l) (Cd v t)).1
structure az5(v:Vo)(t:Rn)(w:Vo):Prop where
 ch:A4 t v (Qi v t) w
 g:sS w
 Vt:Y9 w=Y9 v
 n:w.d.n=v.d.n
 fr:aF (Zn w.d)=aF (Zn v.d)
 no:∀a∈w.st.l,∀x∈aq a.rn.l,¬(t.s<=x/\x<t.s+t.n)
def ak9{v:Vo}{t:Rn}(hv:sS v)(ht:0<=t.s)(hs:pT (mH t 0 v.st.l)<=aF (Cd v t)):
 (∃w,az5 v t w/\((Qi v t).length<=300\/aaw v (Cd v t)))\/((Ce v 0 (Qi v t)).2.2=8/\aaw v (Cd v t)):=by
 have E:=rA hv.1 hv.2;obtain⟨o1,o2,o3,o4⟩:=bL.1 hv.2
 let cl0:Nat->QK:=λk=>match v.st.l[k]? with
  |some a=>(List.range (aq a.rn.l).length).filter (HF (pAt (aq a.rn.l)))
  |none=>[]
 have aGl:∀k a,v.st.l[k]?=some a->cl0 k=(List.range (aq a.rn.l).length).filter (HF (pAt (aq a.rn.l))):=λk a ha=>by
  grind
 have hb:ClI v t v (Cd v t) (λ_=>0) cl0:=by
  refine⟨hv,rfl,rfl,rfl,rfl,λk a ha=>⟨a,ha,rfl,rfl,λ_ _=>rfl,λj x hj=>absurd hj (zbM _),λi W h=>?_⟩,Wm E⟩
  grind
 have fu:∀k a,v.st.l[k]?=some a->(cl0 k).length<=a.rn.l.length:=λk a ha=>by
  have h0:=(aL (o3 a (zag ha))).1;rw[aGl k a ha,Qa,<-acu λx T=>by rcases h0.pl x T with g|g<;>omega];exact Kt λr J=>by
   have:=(bz h0.rn).2.2.2 r J;unfold ir at this
   grind
 rcases as0 hv ht v.st.l [] v (Cd v t) _ cl0 rfl hb (λk a _ ha=>⟨rfl,fu k a ha⟩) (λk a E=>absurd E (zbM _)) hs with⟨w,lo,cl,r1,r2,r3,r4,r5⟩|⟨r1,r2⟩
 ·refine .inl ⟨w,⟨r1,r2.g,r2.Vt,r2.n,r2.fr,λb I x T=>?_⟩,?_⟩
  ·obtain⟨k,E⟩:=zaG.1 I;have hkl:=(zaa.1 E).1;rw[r2.len]at hkl;obtain⟨a,ha⟩:∃a,v.st.l[k]?=some a:=⟨_,zah hkl⟩
   obtain⟨b',q1,q2,q3,q4,q5,_⟩:=r2.st k a ha;rw[E]at q1;cases q1;obtain⟨j,hj⟩:=zaG.1 T
   grind
  ·by_cases g:aaw v (Cd v t)
   ·grind
   ·refine .inl ?_;have g1:∀a∈v.st.l,a.rn.l.length<=16:=λa ha=>zdO λh=>g (.inl ⟨a,ha,h⟩)
    have g2:(Cd v t).length<=16:=zdO λh=>g (.inr h)
    have T:=afs (mI (mH t 0 v.st.l) (Cd v t)).2;have hr4:(mI (mH t 0 v.st.l) (Cd v t)).2.length=(Cd v t).length:=r4;have hr5:(mI (mH t 0 v.st.l) (Cd v t)).1.length+OT (Cd v t)<=OT (mI (mH t 0 v.st.l) (Cd v t)).2+(v.st.l.map λa=>a.rn.l.length).sum:=r5;have ZZ:∀l:UD,(∀a∈l,a.rn.l.length<=16)->(l.map λa=>a.rn.l.length).sum<=16*l.length:=by
     intro l
     induction l with
     |nil=>simp
     |cons a l ih=>
      grind
    have:=ZZ v.st.l g1;show(mI (mH t 0 v.st.l) (Cd v t)).1.length<=300;omega
 ·refine .inr ⟨?_,r2⟩;have:=r1 0 [];rw[zbg]at this;exact this
def inQ(t:Rn)(c:Nat):Bool:=decide (t.s<=(c:Int)/\(c:Int)<t.s+t.n)
def abo{t:Rn}(s:Nat):∀n:Nat,(((List.range' s n).filter (inQ t)).length:Int)=max 0 (min ((s:Int)+n) (t.s+t.n)-max (s:Int) t.s)
 |0=>by grind
 |n+1=>by
  rw[List.range'_1_concat,zbV];have ih:=abo (t:=t) s n;by_cases h:inQ t (s+n)=true
  ·rw[List.filter_cons_of_pos h];unfold inQ at h
   grind
  ·rw[List.filter_cons_of_neg h];unfold inQ at h
   grind
def azi{t r:Rn}(i p:Int)(ht:0<=t.s)(h:r.s= -1\/(0<=r.s/\0<=r.n)):pT (NW t i p r)=(((U1 r).filter (inQ t)).length:Int):=by
 unfold NW U1;by_cases hs:r.s= -1
 ·rw[if_neg (λg=>g.1 hs),if_pos hs];rfl
 ·rw[if_neg hs,abo];by_cases g:YO t r
  ·rw[if_pos g];have g2:=g.2;show min (r.s+r.n) (t.s+t.n)-max r.s t.s+0=_;omega
  ·rw[if_neg g];have g2:¬max r.s t.s<min (r.s+r.n) (t.s+t.n):=λq=>g ⟨hs,q⟩
   show(0:Int)=_;omega
def auH{t:Rn}(ht:0<=t.s)(i:Int):∀(l:UH) (p:Int),(∀r∈l,r.s= -1\/(0<=r.s/\0<=r.n))->pT (nC t i p l)=(((qC l).filter (inQ t)).length:Int)
 |[],_,_=>rfl
 |r::l,p,h=>by
  have e:qC (r::l)=U1 r++qC l:=zan;show pT (NW t i p r++nC t i (p+r.n) l)=_;rw[pL,e,zbV,zad,azi i p ht (h r ab),auH ht i l _ λx T=>h x bP];omega
def auk{t:Rn}(ht:0<=t.s):∀(l:UD) (i:Int),(∀a∈l,∀r∈a.rn.l,r.s= -1\/(0<=r.s/\0<=r.n))->pT (mH t i l)=(((csA l).filter (inQ t)).length:Int)
 |[],_,_=>rfl
 |a::l,i,h=>by
  have e:csA (a::l)=qC a.rn.l++csA l:=zan;show pT (nC t i 0 a.rn.l++mH t (i+1) l)=_;rw[pL,e,zbV,zad,auH ht i a.rn.l 0 (h a ab),auk ht l _ λx T=>h x bP];omega
def azs{d:Dk}{a:At}(h:aI d a=0):∀r∈a.rn.l,r.s= -1\/(0<=r.s/\0<=r.n):=λr J=>(lY h r J).imp id λg=>⟨g.1,g.2.1⟩
def adw{v:Vo}(h:BN v){c:Nat}(F:c<v.d.n):0<=(owR v)[c]?.getD 0↔c∈csA v.st.l:=by
 have hm:c∈csA v.st.l↔∃a∈v.st.l,c∈GY a:=by
  unfold csA;rw[zbB];exact⟨λ⟨a,ha,g⟩=>⟨a,ha,by rw[vt (h.op a ha)];exact g⟩,λ⟨a,ha,g⟩=>⟨a,ha,by rw[vt (h.op a ha)]at g;exact g⟩⟩
 rw[Zg F];rcases aoo h F with⟨g1,_,g3⟩|⟨g1,g2⟩
 ·grind
 ·have:qL v.d c=if aU v.d.mp c=1 then-2 else-1:=rfl
  grind
def avY{v:Vo}(h:sS v){t:Rn}(hp:my v.d t):((awW v t t.n.toNat:Nat):Int)=pT (mH t 0 v.st.l):=by
 have E:=rA h.1 h.2;obtain⟨U,H,h3,h4,_⟩:=ahp.1 h.2;unfold my at hp;rw[auk hp.1.1 _ _ λa ha=>azs (h3 a ha)];refine congrArg Nat.cast (List.Perm.length_eq ?_);refine(List.perm_ext_iff_of_nodup (List.Pairwise.filter _ List.nodup_range') (List.Pairwise.filter _ h4)).2 λc=>?_
 rw[zbq,zbq,List.mem_range'_1,decide_eq_true_eq];unfold inQ;rw[decide_eq_true_eq];constructor
 ·rintro⟨g1,g2⟩;exact⟨(adw E V).1 g2,V⟩
 ·rintro⟨g1,g2⟩;exact⟨V,(adw E V).2 g1⟩
def apd(d:Dk)(a:At)(s:Sp):V4 d (aS a) s=V4 d a s:=dw
def aDo(d:Dk)(a:At)(s:Sp):stD d (aS a) s=stD d a s:=dw
def aDN(d:Dk)(a:At)(s:Sp):stA d (aS a) s=stA d a s:=dw
def apV(d:Dk)(a:At)(p n:Int):rN d (aS a) p n=rN d a p n:=dw
def amW(d:Dk)(a:At)(p n:Int):wQ d (aS a) p n=wQ d a p n:=dw
def asd(v:Vo)(s:Sp):N_ (aV v) s=N_ v s:=by
 unfold N_;rw[show(aV v).st.l.length=v.st.l.length from zaw _];split
 ·rfl
 ·rename_i h;rw[acR v s.i (zcN.1 h),show(aV v).d=v.d from rfl,amW,apV,apd]
def aoF(v:Vo)(d:Dk)(i:Nat)(a:At):aV (lC (aV v) d i a)=aV (lC v d i a):=by
 unfold aV lC;simp only[show ∀l:UD,(Sl.sl l).l=l from λ_=>rfl,List.map_set,zdN];rfl
def arL(v:Vo)(s:Sp):aV (B0 (aV v) s)=aV (B0 v s):=by
 unfold B0;rw[show(aV v).st.l.length=v.st.l.length from zaw _];split
 ·exact Is v
 ·rename_i h;rw[acR v s.i (zcN.1 h),show(aV v).d=v.d from rfl,apd];split
  ·exact Is v
  ·split
   ·exact Is v
   ·exact aoF _ _ _ _
def X_:∀(l:List Sp) (v:Vo),qe (aV v) l=qe v l/\aV (mP (aV v) l)=aV (mP v l)
 |[],v=>⟨rfl,Is v⟩
 |s::r,v=>by
  obtain⟨U,H⟩:=X_ r (B0 (aV v) s);obtain⟨h3,h4⟩:=X_ r (B0 v s);rw[arL]at U H;constructor
  ·show N_ (aV v) s::qe (B0 (aV v) s) r=N_ v s::qe (B0 v s) r;rw[asd,<-U,h3]
  ·show aV (mP (B0 (aV v) s) r)=aV (mP (B0 v s) r)
   grind
def awJ(l:List Sp):Int:=if l.length<=40 then(ekN 0 l).2 else 8
def azf{v:Vo}{s:Sl Sp}(h:Av v=0)(he:awJ s.l=0):rsE (aV v) (.sl s.l)=0/\rsA (aV v) (.sl s.l)=qe v s.l/\rsV (aV v) (.sl s.l)=aV (mP v s.l):=by
 obtain⟨b1,b2⟩:=X_ s.l v;have hl:(Sl.sl s.l).l=s.l:=rfl;have e:rsE (aV v) (.sl s.l)=0:=by
  unfold rsE;rw[Px,if_neg (λg=>g h),hl];exact he
 refine⟨e,?_,?_⟩
 ·unfold rsA;rw[if_neg (λg=>g e)];exact b1
 ·unfold rsV;rw[if_neg (λg=>g e)];exact b2
def sS.rn{v:Vo}(h:sS v):∀a∈v.st.l,a.rn.l.length<=1000000:=(YH h.1 h.2).own.2
section
open Classical in
def NT(v:Vo)(t:Rn):Int:=if otE v t≠0 then otE v t else if aF (Cd v t)<pT (mH t 0 v.st.l)then 16 else lk v (.sl (Qi v t))
open Classical in
def M1(v:Vo)(t:Rn):XM:=if NT v t≠0 then[]else Qi v t
def Kg(ps:CK)(r:RV):Prop:=∃(v:Vo) (t:Rn),ps=[v.pv,t.pv]/\Un v/\r=.tup [.pv (.sl 4 ((M1 v t).map Mv.pv)),.pv (pI (NT v t))]
def ahw{v:Vo}{t:Rn}(h:sS v)(hp:my v.d t):
 (aF (Cd v t)<pT (mH t 0 v.st.l)/\NT v t=16/\M1 v t=[])\/(¬aF (Cd v t)<pT (mH t 0 v.st.l)/\NT v t=8/\M1 v t=[]/\aaw v (Cd v t))\/
 (¬aF (Cd v t)<pT (mH t 0 v.st.l)/\NT v t=0/\M1 v t=Qi v t/\(Qi v t).length<=300∧∃w,az5 v t w):=by
 have ho:otE v t=0:=by unfold otE;rw[if_neg (λg=>g h.2),if_pos hp]
 have hE:NT v t=if aF (Cd v t)<pT (mH t 0 v.st.l)then 16 else lk v (.sl (Qi v t)):=by unfold NT;omega
 have hL:∀e,NT v t=e->e≠0->M1 v t=[]:=λe U H=>by unfold M1;grind
 by_cases hs:aF (Cd v t)<pT (mH t 0 v.st.l)
 ·grind
 rw[if_neg hs]at hE;rcases ak9 h hp.1.1 V with⟨w,hi,aGm⟩|⟨g1,g2⟩
 ·have I:(Ce v 0 (Qi v t)).2.2=0:=by
   have:=DH hi.ch 0 [];rw[zbg]at this;rw[this];rfl
  by_cases hl:(Qi v t).length<=300
  ·have e:lk v (.sl (Qi v t))=0:=by
    unfold lk;rw[show(Sl.sl (Qi v t)).l=Qi v t from rfl,if_neg (λg=>g I),if_pos hl]
   rw[e]at hE;exact .inr (.inr ⟨hs,hE,by unfold M1;grind,hl,w,hi⟩)
  ·have e:lk v (.sl (Qi v t))=8:=by
    unfold lk;rw[show(Sl.sl (Qi v t)).l=Qi v t from rfl,if_neg (λg=>g I),if_neg hl]
   grind
 ·have e:lk v (.sl (Qi v t))=8:=by
   unfold lk;rw[show(Sl.sl (Qi v t)).l=Qi v t from rfl,g1,if_pos ai]
  grind
def arI{v:Vo}{t:Rn}(h:otE v t≠0):NT v t=otE v t/\M1 v t=[]:=by
 have e:NT v t=otE v t:=by unfold NT;omega
 exact⟨e,by unfold M1;grind⟩
end
def rmB(R:UH):Prop:=∀r∈R,(0<=r.s/\0<=r.n)/\r.s+r.n<=512
def anL(k:Int):∀(f:Nat) (p c:Int) (R:UH),0<=c->c<=f->rmB R->c<=aF R->aF (By k f p c R).2=aF R-c/\rmB (By k f p c R).2/\(By k f p c R).2.length=R.length/\((By k f p c R).1.length:Int)<=c
 |0,p,c,R,h0,hf,I,_=>by
  have:c=0:=V;subst this;exact⟨by show aF R=aF R-0;omega,I,rfl,zdJ _⟩
 |f+1,p,c,R,h0,hf,I,hs=>by
  by_cases F:0<c
  ·obtain⟨ca,hpk⟩:=aeN (R:=R) V;rw[Y3 F];have hu:=Zx ca (min c (dK R).n);obtain⟨i1,i2,i3,i4⟩:=anL k f (p+min c (dK R).n) (c-min c (dK R).n) (Um R (min c (dK R).n)) V V (anv ca V I) V;refine⟨au,i2,i3.trans (Ys _ _),?_⟩
   grind
  ·rw[PM k p R F]
   grind
def agD:∀(l:ZS) (R:UH),(∀s∈l,1<=s.c)->rmB R->pT l<=aF R->aF (mI l R).2=aF R-pT l/\rmB (mI l R).2/\(mI l R).2.length=R.length/\((mI l R).1.length:Int)<=pT l
 |[],R,_,I,_=>⟨by show aF R=aF R-0;omega,I,rfl,zdJ _⟩
 |s::l,R,hp,I,hs=>by
  have F:=hp s ab;have hl:∀x∈l,1<=x.c:=λx T=>hp x bP
  have hl0:∀l,(∀x∈l,1<=x.c)->0<=pT l:=by
   intro l
   induction l with
   |nil=>trivial
   |cons y l ih=>
    intro h;have:=h y ab;have:=ih λx T=>h x bP
    show 0<=y.c+pT l;omega
  have hl0:=hl0 l hl;have hs:s.c+pT l<=aF R:=hs;obtain⟨i1,i2,i3,i4⟩:=anL s.k s.c.toNat s.p s.c R V V I V;obtain⟨j1,j2,j3,j4⟩:=agD l (By s.k s.c.toNat s.p s.c R).2 hl i2 V;refine⟨by show aF (mI l _).2=aF R-(s.c+pT l);omega,j2,j3.trans i3,?_⟩;show(((By s.k s.c.toNat s.p s.c R).1++(mI l (By s.k s.c.toNat s.p s.c R).2).1).length:Int)<=s.c+pT l
  grind
structure GrI(s:Sh)(G:XM×UH)(f:Nat)(p c:Int)(R:UH)(M:XM):Prop where
 c0:0<=c/\c<=f
 m:M++(By s.k f p c R).1=G.1
 r:(By s.k f p c R).2=G.2
 b:rmB R
 len:R.length<=512
 sum:c<=aF R
 ml:(M.length:Int)+c<=512
 pb:0<=p/\p+c<=4000000000000
def GrI.stop{s:Sh}{G:XM×UH}{f:Nat}{p c:Int}{R:UH}{M:XM}(hb:GrI s G f p c R M)(h:¬0<c):M=G.1/\R=G.2:=by
 have U:=hb.m;have H:=hb.r;rw[PM s.k p R h]at U H
 grind
def GrI.step{s:Sh}{G:XM×UH}{f:Nat}{p c:Int}{R:UH}{M:XM}(hb:GrI s G f p c R M)(h:0<c):R≠[]/\1<=min c (dK R).n/\
 ∃f',GrI s G f' (p+min c (dK R).n) (c-min c (dK R).n) (Um R (min c (dK R).n)) (M++[⟨s.k,p,⟨(dK R).s,min c (dK R).n⟩⟩]):=by
 have hs:=hb.sum;have h0:=hb.c0;have hml:=hb.ml;have hpb:=hb.pb;obtain⟨ca,hpk⟩:=aeN (R:=R) V;obtain⟨g,rfl⟩:∃g,f=g+1:=⟨f-1,V⟩
 have U:=hb.m;have H:=hb.r;rw[Y3 h]at U H;have hu:=Zx ca (min c (dK R).n);refine⟨ca,V,g,⟨V,V⟩,au,H,anv ca V hb.b,by rw[Ys];exact hb.len,V,?_,V⟩
 grind
def GrI.start{l:ZS}{s:Sh}{R0:UH}(I:rmB R0)(hl:R0.length<=512)(F:∀x∈l++[s],1<=x.c)(hs:pT (l++[s])<=aF R0)(h5:pT (l++[s])<=512)(hp:0<=s.p/\s.p<=2000000000000):
 GrI s (mI (l++[s]) R0) s.c.toNat s.p s.c (mI l R0).2 (mI l R0).1:=by
 have e:pT (l++[s])=pT l+s.c:=by rw[pL];show _+(s.c+0)=_;omega
 have hsc:=F s ab;obtain⟨i1,i2,i3,i4⟩:=agD l R0 (λx T=>F x (zbw _ T)) I V;have ea:mI (l++[s]) R0=((mI l R0).1++((By s.k s.c.toNat s.p s.c (mI l R0).2).1++[]),(By s.k s.c.toNat s.p s.c (mI l R0).2).2):=ZQ l [s] R0;rw[ea,zbg];exact⟨V,rfl,rfl,i2,V,V,V,V⟩
def auO{t:Rn}(i:Int):∀(l:UH) (p:Int),(∀r∈l,0<=r.n/\r.n<=1000000)→∀s∈nC t i p l,p<=s.p/\s.p<=p+1000000*(l.length:Int)
 |[],_,_,s,h=>by cases h
 |r::l,p,I,s,h=>by
  have J:=I r ab;have e:((r::l).length:Int)=l.length+1:=ab;rcases zaA.1 (show s∈NW t i p r++nC t i (p+r.n) l from h)with h|h
  ·unfold NW at h;split at h
   ·rename_i g;have:=g.2
    grind
   grind
  ·have:=auO i l (p+r.n) (λx T=>I x bP) s h;omega
def auW{t:Rn}:∀(l:UD) (i:Int),(∀a∈l,a.rn.l.length<=1000000∧∀r∈a.rn.l,0<=r.n/\r.n<=1000000)→∀s∈mH t i l,0<=s.p/\s.p<=1000000000000
 |[],_,_,s,h=>by cases h
 |a::l,i,I,s,h=>by
  obtain⟨U,H⟩:=I a ab;rcases zaA.1 (show s∈nC t i 0 a.rn.l++mH t (i+1) l from h)with h|h
  ·have:=auO i a.rn.l 0 H s h;omega
  ·exact auW l _ (λx T=>I x bP) s h
def aDt{v:Vo}(h:BN v){t:Rn}(hp:my v.d t):az3 v t:=by
 obtain⟨U,H,h3,h4⟩:=h.n8;unfold my at hp;refine⟨by have:=h.len;omega,λa ha=>?_,λa ha r J=>?_,V⟩
 ·have:=(bz (aL (h.op a ha)).1.rn).1;omega
 ·have h6:=pM ((bz (aL (h.op a ha)).1.rn).2.2.2 r J);omega
def am4{l m:ZS}(h:(l.map λs=>[s.pv])=m.map λs=>[s.pv]):l=m:=
 (List.map_inj_right (f:=λs:Sh=>[s.pv]) (λx y e=>by
   cases x;cases y;simp only[Sh.pv,List.cons.injEq,PV.agg.injEq,PV.int.injEq,true_and,and_true]at e
   grind)).1 h
def ah_{l L:ZS}{x:CK}(h:(L.map λs=>[s.pv])[(l.map λs=>[s.pv]).length]?=some x)(hp:l<+:L):∃s,x=[s.pv]/\l++[s]<+:L:=by
 rw[zaD]at h;cases hs:L[l.length]? with
 |none=>grind
 |some s=>
  obtain⟨m,rfl⟩:=hp;rw[zak (zai _)]at hs;cases m with
  |nil=>cases hs
  |cons y m=>
   simp_all
def asx(t r:Rn)(i p:Int):∀s∈NW t i p r,1<=s.c:=by
 unfold NW;split
 ·rename_i g;have:=g.2
  grind
 simp
def aht(t:Rn)(i:Int):∀(l:UH) (p:Int),∀s∈nC t i p l,1<=s.c
 |[],_,s,h=>by cases h
 |r::l,p,s,h=>by
  rcases zaA.1 (show s∈NW t i p r++nC t i (p+r.n) l from h)with h|h
  ·exact asx t r i p s h
  ·exact aht t i l _ s h
def X9(t:Rn):∀(l:UD) (i:Int),∀s∈mH t i l,1<=s.c
 |[],_,s,h=>by cases h
 |a::l,i,s,h=>by
  rcases zaA.1 (show s∈nC t i 0 a.rn.l++mH t (i+1) l from h)with h|h
  ·exact aht t i a.rn.l 0 s h
  ·exact X9 t l _ s h
def Zc:∀{l:ZS},(∀s∈l,1<=s.c)->(l.length:Int)<=pT l
 |[],_=>zdJ _
 |s::l,h=>by
  have U:=h s ab;have H:=Zc (l:=l) λx T=>h x bP
  show((l.length+1:Nat):Int)<=s.c+pT l;omega
def atj{v:Vo}(h:sS v){t:Rn}(hp:my v.d t){l:ZS}(hl:l<+:mH t 0 v.st.l):0<=pT l/\pT l<=512/\(∀s∈l,1<=s.c):=by
 obtain⟨m,hm⟩:=hl;have zR:=X9 t v.st.l 0;rw[<-hm]at zR;have U:=Zc λs hs=>zR s (zbw m hs)
 have H:=Zc λs hs=>zR s (zbs l hs)
 have h3:=avY h hp;rw[<-hm,pL]at h3;have h4:=as1 v t t.n.toNat;have h5:=(df (rA h.1 h.2).dk).2.1;unfold my at hp
 grind
def aoO{v:Vo}{t:Rn}{LS l:ZS}(e:mH t 0 v.st.l=LS)(hl:l<+:LS)(h:sS v)(hp:my v.d t):pT l<=pT LS:=by
 obtain⟨m,rfl⟩:=hl;rw[pL];have zR:=X9 t v.st.l 0;rw[e]at zR;have:=Zc λs hs=>zR s (zbs l hs)
 omega
def NP:MT (ao [(141,dz false TV),(84,dz true JO),(142,dU Yw),(143,aaU),(206,AP),(82,ah TL),(144,ah Ph),(145,ah HT),(88,ah Ng),(90,dz false AR)]) xr (dz false Kg):=by
 rintro _ K ⟨_,⟨v,t,rfl,U,rfl⟩,Y⟩;have ho:TV [v.pv,t.pv] _:=⟨v,t,rfl,U,rfl⟩
 by_cases hE:otE v t=0
 case neg=>
  obtain⟨e1,e2⟩:=arI hE;rw[e1,e2]at Y
  (repeat'((conv=>whnf);first|refine⟨_,ho,?_⟩|(refine ak hE ?_)|refine aY ?_|fail))
  exact PU
 have pQ:Av v=0:=by
  apply Classical.byContradiction;intro g;unfold otE at hE;rw[if_pos g]at hE;exact g hE
 have hp:my v.d t:=by
  apply Classical.byContradiction;intro g;unfold otE at hE;rw[if_neg (λh=>h pQ),if_neg g]at hE;exact absurd hE ai
 have E:=rA U pQ;have MG:=aDt E hp;have hd5:v.d.n<=512:=(df E.dk).2.1;have hpp:=hp;unfold my at hpp;have KJ:JO [v.pv,.clo 142 [.cptr t.pv]] (.fresh 103 2 ((Cd v t).map Rn.pv)):=⟨v,_,_,rfl,⟨E,.out t MG.tb⟩,rfl⟩
 have hEE:NT v t=if aF (Cd v t)<pT (mH t 0 v.st.l)then 16 else lk v (.sl (Qi v t)):=by unfold NT;rw[if_neg (λg=>g hE)]
 have hrI:=Wm E (t:=t);have Xo:(Cd v t).length<=512:=by
  have:=(Nc (LP v (agE t)) (eW v).length).2;have:=oz v;unfold Cd;omega
 have hsm:TL [.sl 2 ((Cd v t).map Rn.pv)] (pI (aF (Cd v t))):=⟨_,rfl,⟨V,λr J=>SP⟩,rfl⟩
 have aqT:=λ(l:ZS) (h:l<+:mH t 0 v.st.l)=>atj (v:=v) ⟨U,pQ⟩ hp h
 have fx:0<=aF (Cd v t)/\aF (Cd v t)<=512*512:=by
  have:=Yx (B:=512) (l:=Cd v t) λr J=>SP
  omega
 obtain⟨R0,hR0⟩:∃R0,Cd v t=R0:=⟨_,rfl⟩
 rw[hR0]at KJ hsm hrI Xo hEE fx;obtain⟨LS,hLS⟩:∃LS,mH t 0 v.st.l=LS:=⟨_,rfl⟩
 have hrB:rmB R0:=λr J=>SP
 have hLp:=auW (t:=t) v.st.l 0 λa ha=>⟨MG.rl a ha,λr J=>(MG.rb a ha r J).2⟩
 have hit:apT [.cptr v.pv,.cptr t.pv] (LS.map λ(s:Sh)=>[s.pv]):=⟨v,t,rfl,MG,by rw[hLS]⟩
 rw[hLS]at hEE aqT
 (repeat'((conv=>whnf);first|refine⟨_,ho,?_⟩|(refine ar (λh=>h hE) ?_)|refine⟨_,KJ,?_⟩|refine⟨v,t,rfl,?_⟩|refine aY ?_|fail))
 refine⟨LS.map λ(s:Sh)=>[s.pv],λpre Z=>∃l:ZS,(pre=(l.map λ(s:Sh)=>[s.pv])/\l<+:LS)/\Z=[.box 49 [.pv (.str v.d.aT),.pv (.str v.d.mp),.pv (ub v.st)],.fz (.cptr t.pv),.row 146 4 true [],.box 128 [.pv (.str v.d.aT),.pv (.str v.d.mp),.pv (ub v.st)],.row 103 2 true (R0.map Rn.pv),.box 29 [.own 4],.box 3 [.pv (pI (pT l))]],hit,λx T=>by obtain⟨_,_,rfl⟩:=zaX.1 T;rfl,⟨rfl,[],⟨rfl,zdP⟩,rfl⟩,?_,?_⟩
 ·rintro pre x Z T hnx ⟨l,⟨rfl,hl⟩,rfl⟩;obtain⟨s,rfl,FL⟩:=ah_ hnx hl;have xI:=aqT l hl;have nj:=aqT _ FL;have PA:pT (l++[s])=pT l+s.c:=by rw[pL];show _+(s.c+0)=_;omega
  rw[PA]at nj
  (repeat'((conv=>whnf);first|refine bu V ?_|refine aY ?_|fail))
  exact⟨l++[s],⟨sv,FL⟩,by rw[PA]⟩
 rintro Z ⟨l,⟨VH,_⟩,rfl⟩;have:=am4 VH;subst this;by_cases aM:aF R0<pT LS
 ·rw[if_pos aM]at hEE;have eL:M1 v t=[]:=by unfold M1;rw[if_pos (by rw[hEE];decide)]
  rw[hEE,eL]at Y
  (repeat'((conv=>whnf);first|refine⟨_,hsm,?_⟩|refine ak V ?_|refine aY ?_|fail))
  exact QM
 rw[if_neg aM]at hEE
 (repeat'((conv=>whnf);first|refine⟨_,hsm,?_⟩|refine ar V ?_|refine⟨v,t,rfl,?_⟩|refine aY ?_|fail))
 refine⟨LS.map λ(s:Sh)=>[s.pv],λpre Z=>∃l:ZS,(pre=(l.map λ(s:Sh)=>[s.pv])/\l<+:LS)/\(((mI l R0).1=[]/\Z=[.box 49 [.pv (.str v.d.aT),.pv (.str v.d.mp),.pv (ub v.st)],.fz (.cptr t.pv),.row 146 4 true [],.box 128 [.pv (.str v.d.aT),.pv (.str v.d.mp),.pv (ub v.st)],.row 103 2 true ((mI l R0).2.map Rn.pv),.box 29 [.own 4],.box 3 [.pv (pI (pT LS))],.box 61 [.pv (.nil 4)]])\/Z=[.box 49 [.pv (.str v.d.aT),.pv (.str v.d.mp),.pv (ub v.st)],.fz (.cptr t.pv),.row 146 4 true [],.box 128 [.pv (.str v.d.aT),.pv (.str v.d.mp),.pv (ub v.st)],.row 103 2 true ((mI l R0).2.map Rn.pv),.box 29 [.own 4],.box 3 [.pv (pI (pT LS))],.box 61 [.own 8],.row 146 4 true ((mI l R0).1.map Mv.pv)]),hit,λx T=>by obtain⟨_,_,rfl⟩:=zaX.1 T;rfl,⟨rfl,[],⟨rfl,zdP⟩,.inl ⟨rfl,rfl⟩⟩,?_,?_⟩
 ·rintro pre x Z T hnx ⟨l,⟨rfl,hl⟩,hσ⟩;obtain⟨s,rfl,FL⟩:=ah_ hnx hl;obtain⟨b1,b2,b3⟩:=aqT _ FL;have hsp:=hLp s (by rw[<-hLS]at T;obtain⟨x,A7,e⟩:=zaX.1 T;cases x;cases s;simp only[Sh.pv,List.cons.injEq,PV.agg.injEq,PV.int.injEq,true_and,and_true]at e;obtain⟨rfl,rfl,rfl⟩:=e;exact A7);have hle:=aoO hLS FL ⟨U,pQ⟩ hp;have fu:GrI s (mI (l++[s]) R0) s.c.toNat s.p s.c (mI l R0).2 (mI l R0).1:=GrI.start hrB Xo b3 V b2 V;rcases hσ with⟨hM,rfl⟩|rfl
  ·(repeat'((conv=>whnf);first|refine aY ?_|fail))
   refine⟨λq env Z=>∃(f:Nat) (p c:Int) (R:UH) (M:XM),(q=c.toNat/\GrI s (mI (l++[s]) R0) f p c R M)/\((M=[]/\Z=[.box 49 [.pv (.str v.d.aT),.pv (.str v.d.mp),.pv (ub v.st)],.fz (.cptr t.pv),.row 146 4 true [],.box 128 [.pv (.str v.d.aT),.pv (.str v.d.mp),.pv (ub v.st)],.row 103 2 true (R.map Rn.pv),.box 29 [.own 4],.box 3 [.pv (pI (pT LS))],.box 61 [.pv (.nil 4)],.box 187 [.pv (pI s.k),.pv (pI p),.pv (pI c)]])\/Z=[.box 49 [.pv (.str v.d.aT),.pv (.str v.d.mp),.pv (ub v.st)],.fz (.cptr t.pv),.row 146 4 true [],.box 128 [.pv (.str v.d.aT),.pv (.str v.d.mp),.pv (ub v.st)],.row 103 2 true (R.map Rn.pv),.box 29 [.own 4],.box 3 [.pv (pI (pT LS))],.box 61 [.own 9],.box 187 [.pv (pI s.k),.pv (pI p),.pv (pI c)],.row 146 4 true (M.map Mv.pv)])/\env=[(8,.ref 5 0 0),(11,.ref 7 0 0),(12,.ref 8 0 0)],s.c.toNat,⟨_,_,_,_,_,⟨rfl,fu⟩,.inl ⟨hM,rfl⟩,rfl⟩,?_⟩;rintro q env Z ⟨f,p,c,R,M,⟨rfl,hb⟩,hσ,rfl⟩;have I:=hb.b;have hlen:=hb.len;have hc0:=hb.c0;have hml:=hb.ml;have hpb:=hb.pb;have hMm:(M.map Mv.pv).length=M.length:=zaw _;have hRm:(R.map Rn.pv).length=R.length:=zaw _;by_cases F:0<c
   case neg=>
    obtain⟨e1,e2⟩:=hb.stop F;rcases hσ with⟨rfl,rfl⟩|rfl
    all_goals
     (repeat'((conv=>whnf);first|refine ar F ?_|refine aY ?_|fail))
     first
      |exact⟨l++[s],⟨sv,FL⟩,.inl ⟨e1.symm,by rw[e2]⟩⟩
      |exact⟨l++[s],⟨sv,FL⟩,.inr (by rw[e1,e2])⟩
   obtain⟨ca,hn1,f',hr⟩:=hb.step F;have hmx:HT [.sl 2 (R.map Rn.pv),.clo 88 []] (dK R).pv:=by
    cases R with
    |nil=>exact absurd rfl ca
    |cons b r=>exact⟨b,r,rfl,by rw[zap]at hlen;omega,rfl⟩
   have hpm:=ux ca;have VG:Ph [.sl 2 (R.map Rn.pv),(dK R).pv] (pI (JG R (dK R))):=⟨R,dK R,rfl,⟨hpm,V⟩,rfl⟩
   have hg:=nH (f:=Rn.pv) (t_ hpm);have Xp:=(zaa.1 (t_ hpm)).1;have hpk:=I _ hpm;have Uq:((R.map Rn.pv).set (JG R (dK R)) (PV.agg [pI ((dK R).s+min c (dK R).n),pI (dK R).n])).set (JG R (dK R)) (PV.agg [pI ((dK R).s+min c (dK R).n),pI ((dK R).n-min c (dK R).n)])=(Um R (min c (dK R).n)).map Rn.pv:=aaD;have T9:((R.map Rn.pv).set (JG R (dK R)) (PV.agg [pI ((dK R).s+min c (dK R).n),pI (dK R).n]))[((JG R (dK R):Nat):Int).toNat]?=some (PV.agg [pI ((dK R).s+min c (dK R).n),pI (dK R).n]):=by
    rw[zaC,zbO (by rw[hRm];exact Xp)]
   have zT:((R.map Rn.pv).set (JG R (dK R)) (PV.agg [pI ((dK R).s+min c (dK R).n),pI (dK R).n])).length=R.length:=by rw[za0,hRm]
   generalize hP:R.map Rn.pv=P at*;generalize dK R=k at*;generalize hI:JG R k=ix at*;rcases hσ with⟨rfl,rfl⟩|rfl
   all_goals
    (repeat'((conv=>whnf);first|refine ak F ?_|refine⟨_,hmx,?_⟩|refine⟨_,VG,?_⟩|refine zcv ⟨V,V⟩ ?_|refine⟨_,hg,?_⟩|refine⟨_,T9,?_⟩|refine zcv ⟨lP,lP⟩ ?_|refine zcv ⟨J6,J6⟩ ?_|refine bu V ?_|refine U7 ?_|refine aY ?_|refine zcv bJ ?_|fail))
    exact⟨(c-min c k.n).toNat,V,f',_,_,_,_,⟨rfl,hr⟩,.inr (by rw[<-Uq,zaY];rfl),rfl⟩
  ·(repeat'((conv=>whnf);first|refine aY ?_|fail))
   refine⟨λq env Z=>∃(f:Nat) (p c:Int) (R:UH) (M:XM),(q=c.toNat/\GrI s (mI (l++[s]) R0) f p c R M)/\(Z=[.box 49 [.pv (.str v.d.aT),.pv (.str v.d.mp),.pv (ub v.st)],.fz (.cptr t.pv),.row 146 4 true [],.box 128 [.pv (.str v.d.aT),.pv (.str v.d.mp),.pv (ub v.st)],.row 103 2 true (R.map Rn.pv),.box 29 [.own 4],.box 3 [.pv (pI (pT LS))],.box 61 [.own 8],.row 146 4 true (M.map Mv.pv),.box 187 [.pv (pI s.k),.pv (pI p),.pv (pI c)]]\/Z=[.box 49 [.pv (.str v.d.aT),.pv (.str v.d.mp),.pv (ub v.st)],.fz (.cptr t.pv),.row 146 4 true [],.box 128 [.pv (.str v.d.aT),.pv (.str v.d.mp),.pv (ub v.st)],.row 103 2 true (R.map Rn.pv),.box 29 [.own 4],.box 3 [.pv (pI (pT LS))],.box 61 [.own 10],.dead,.box 187 [.pv (pI s.k),.pv (pI p),.pv (pI c)],.row 146 4 true (M.map Mv.pv)])/\env=[(8,.ref 5 0 0),(11,.ref 7 0 0),(12,.ref 9 0 0)],s.c.toNat,⟨_,_,_,_,_,⟨rfl,fu⟩,.inl rfl,rfl⟩,?_⟩;rintro q env Z ⟨f,p,c,R,M,⟨rfl,hb⟩,hσ,rfl⟩;have I:=hb.b;have hlen:=hb.len;have hc0:=hb.c0;have hml:=hb.ml;have hpb:=hb.pb;have hMm:(M.map Mv.pv).length=M.length:=zaw _;have hRm:(R.map Rn.pv).length=R.length:=zaw _;by_cases F:0<c
   case neg=>
    obtain⟨e1,e2⟩:=hb.stop F;rcases hσ with rfl|rfl
    all_goals
     (repeat'((conv=>whnf);first|refine ar F ?_|refine aY ?_|fail))
     first
      |exact⟨l++[s],⟨sv,FL⟩,.inl ⟨e1.symm,by rw[e2]⟩⟩
      |exact⟨l++[s],⟨sv,FL⟩,.inr (by rw[e1,e2])⟩
   obtain⟨ca,hn1,f',hr⟩:=hb.step F;have hmx:HT [.sl 2 (R.map Rn.pv),.clo 88 []] (dK R).pv:=by
    cases R with
    |nil=>exact absurd rfl ca
    |cons b r=>exact⟨b,r,rfl,by rw[zap]at hlen;omega,rfl⟩
   have hpm:=ux ca;have VG:Ph [.sl 2 (R.map Rn.pv),(dK R).pv] (pI (JG R (dK R))):=⟨R,dK R,rfl,⟨hpm,V⟩,rfl⟩
   have hg:=nH (f:=Rn.pv) (t_ hpm);have Xp:=(zaa.1 (t_ hpm)).1;have hpk:=I _ hpm;have Uq:((R.map Rn.pv).set (JG R (dK R)) (PV.agg [pI ((dK R).s+min c (dK R).n),pI (dK R).n])).set (JG R (dK R)) (PV.agg [pI ((dK R).s+min c (dK R).n),pI ((dK R).n-min c (dK R).n)])=(Um R (min c (dK R).n)).map Rn.pv:=aaD;have T9:((R.map Rn.pv).set (JG R (dK R)) (PV.agg [pI ((dK R).s+min c (dK R).n),pI (dK R).n]))[((JG R (dK R):Nat):Int).toNat]?=some (PV.agg [pI ((dK R).s+min c (dK R).n),pI (dK R).n]):=by
    rw[zaC,zbO (by rw[hRm];exact Xp)]
   have zT:((R.map Rn.pv).set (JG R (dK R)) (PV.agg [pI ((dK R).s+min c (dK R).n),pI (dK R).n])).length=R.length:=by rw[za0,hRm]
   generalize hP:R.map Rn.pv=P at*;generalize dK R=k at*;generalize hI:JG R k=ix at*;rcases hσ with rfl|rfl
   all_goals
    (repeat'((conv=>whnf);first|refine ak F ?_|refine⟨_,hmx,?_⟩|refine⟨_,VG,?_⟩|refine zcv ⟨V,V⟩ ?_|refine⟨_,hg,?_⟩|refine⟨_,T9,?_⟩|refine zcv ⟨J6,J6⟩ ?_|refine bu V ?_|refine U7 ?_|refine aY ?_|refine zcv bJ ?_|fail))
    exact⟨(c-min c k.n).toNat,V,f',_,_,_,_,⟨rfl,hr⟩,.inr (by rw[<-Uq,zaY];rfl),rfl⟩
 rintro Z ⟨l,⟨VH,_⟩,hσ⟩;have:=am4 VH;subst this;have hcS:Qi v t=(mI LS R0).1:=by unfold Qi;rw[hLS,hR0]
 obtain⟨b1,b2,b3⟩:=aqT LS (List.prefix_refl _);obtain⟨g1,g2,g3,g4⟩:=agD LS R0 b3 hrB V;rw[hcS]at hEE;have hLL:M1 v t=if lk v (.sl (mI LS R0).1)≠0 then[]else(mI LS R0).1:=by unfold M1;rw[hEE,hcS]
 rw[hLL,hEE]at Y;have hvs:=R8 U pQ;generalize (mI LS R0).2=RR at*;generalize (mI LS R0).1=MM at*;rcases hσ with⟨rfl,rfl⟩|rfl
 ·have Pz:AR [v.pv,.nil 4] (.tup [.pv (if lk v (.sl [])≠0 then .sl 4 []else .nil 4),.pv (pI (lk v (.sl [])))]):=⟨v,.nil,rfl,⟨hvs,Nat.zero_le _⟩,rfl⟩
  generalize lk v (.sl [])=e at*;by_cases he:e=0
  ·rw[if_neg (λg=>g he)]at Pz Y
   (repeat'((conv=>whnf);first|refine⟨_,Pz,?_⟩|fail))
   exact⟨[.pv (.sl 4 []),.pv (pI _)],⟨Or.inr rfl,rfl,trivial⟩,trivial,Y⟩
  ·rw[if_pos he]at Pz Y
   (repeat'((conv=>whnf);first|refine⟨_,Pz,?_⟩|fail))
   exact PU
 ·have Pz:AR [v.pv,.sl 4 (MM.map Mv.pv)] (.tup [.pv (if lk v (.sl MM)≠0 then .sl 4 []else .sl 4 (MM.map Mv.pv)),.pv (pI (lk v (.sl MM)))]):=⟨v,.sl MM,rfl,⟨hvs,by show MM.length<=_;omega⟩,rfl⟩
  have e:(if lk v (.sl MM)≠0 then PV.sl 4 []else .sl 4 (MM.map Mv.pv))=.sl 4 ((if lk v (.sl MM)≠0 then[]else MM).map Mv.pv):=by split<;>rfl
  rw[e]at Pz
  (repeat'((conv=>whnf);first|refine⟨_,Pz,?_⟩|fail))
  exact QL
def awS{y:PV}(h:∃zs,y=.agg zs/\jO [.int .i64,.str,.int .i64,.int .i64,.bool,.str,.int .i64,.sl true [.int .i64,.int .i64],.int .i64,.int .i64,.int .i64] zs):∃a:At,y=a.pv:=by
 obtain⟨zs,rfl,h⟩:=h;simp only[jO,Fb]at h;obtain⟨_,_,rfl,⟨ty,rfl,_⟩,_,_,rfl,⟨nm,rfl,_⟩,_,_,rfl,⟨id,rfl,_⟩,_,_,rfl,⟨fl,rfl,_⟩,_,_,rfl,⟨rs,rfl⟩,_,_,rfl,⟨vl,rfl,_⟩,_,_,rfl,⟨ft,rfl,_⟩,_,_,rfl,⟨aw,rfl,_,he⟩,_,_,rfl,⟨al,rfl,_⟩,_,_,rfl,⟨sz,rfl,_⟩,_,_,rfl,⟨vd,rfl,_⟩,rfl⟩:=h;obtain⟨l,rfl,_⟩:=Pu (g:=Rn.pv) (q:=λ_=>True) λz hz=>by
  obtain⟨zs,rfl,y,ys,rfl,⟨a,rfl,_⟩,y2,ys2,rfl,⟨b,rfl,_⟩,rfl⟩:=(he z hz).1 trivial;exact⟨⟨a,b⟩,rfl,trivial⟩
 exact⟨⟨ty,nm,id,fl,rs,vl,ft,.sl l,al,sz,vd⟩,rfl⟩
def Dg{l:QE}{n:Nat}(h:l.length=n)(hn:n<=4096):gP (gm l) n=0∧∀i,aU (gm l) i=1↔i<n/\l[i]?=some true:=by
 subst h;obtain⟨U,H⟩:=xi hn;refine⟨U,λi=>?_⟩;rw[H i];by_cases W:i<l.length
 ·cases l[i]<;>simp[jS,W]
 grind
def Es{d:Dk}{i:Nat}:(vZ d)[i]?=some true↔i<d.n/\aU d.mp i=1:=by
 by_cases h:i<d.n
 ·rw[akV h];simp[h]
 ·rw[zaM (by rw[uG];omega)];simp[h]
def awr{v:Vo}(h:sS v){c:Nat}(U:1<=c)(H:c<=v.d.n):(GN v c->Uz (aV v) c 1 v.d.n=0)/\(¬GN v c->Uz (aV v) c 1 v.d.n=18)/\Y6 (aV v) c 1 v.d.n=mS v c:=by
 have E:=rA h.1 h.2;obtain⟨d1,d2,d3⟩:=df E.dk;have hz:cM (c:Int)=0:=by unfold cM;omega
 have hh:Zs (λi=>decide (aU v.d.mp i=1)) ((c:Nat):Int).toNat (((v.d.n:Nat):Int).toNat-((c:Nat):Int).toNat)=true↔¬GN v c:=by
  rw[Tj,zaC];unfold GN
  grind
 have J:Rz v.d.mp v.d.n c=if Zs (λi=>decide (aU v.d.mp i=1)) ((c:Nat):Int).toNat (((v.d.n:Nat):Int).toNat-((c:Nat):Int).toNat)then 18 else 0:=by
  unfold Rz;omega
 have hE:Uz (aV v) c 1 v.d.n=Rz v.d.mp v.d.n c:=by
  unfold Uz;rw[Px,if_neg (λg=>g h.2),if_pos V];rfl
 have e1:GN v c->Uz (aV v) c 1 v.d.n=0:=λg=>au
 have e2:¬GN v c->Uz (aV v) c 1 v.d.n=18:=λg=>au
 refine⟨e1,e2,?_⟩;by_cases g:GN v c
 case neg=>unfold Y6 mS;grind
 have hm:YU v.d.mp v.d.n c=gm ((vZ v.d).take c):=by
  have h0:=e1 g;rw[hE]at h0;have hl:((vZ v.d).take c).length=c:=by rw[zal,uG];omega
  obtain⟨m1,m2⟩:=Dg hl V;unfold YU;rw[if_pos h0,zaC];refine ag8 (P3 (fV _) V) m1 λi W=>?_
  rw[rF (fV _),if_pos W,m2 i,zcV W,Es];omega
 have I:rzB (aV v) c=v.d.aT.take (c*256):=by
  show v.d.aT.take (min (v.d.n:Int) c*256).toNat++Mw [0] (max 0 ((c:Int)-v.d.n)*256).toNat=_;rw[show(min (v.d.n:Int) c*256).toNat=c*256 by omega,show(max 0 ((c:Int)-v.d.n)*256).toNat=0 by omega];exact zbg _
 unfold Y6 mS;rw[e1 g,if_pos g,I,show YU (aV v).d.mp (aV v).d.n c=_ from hm];show(⟨_,.sl ((v.st.l.map aS).map aS)⟩:Vo)=_;rw[zdN];rfl
def Mf{v:Vo}{c:Nat}(h:v.d.n<=c):(NA v c).length=c:=by unfold NA;rw[zad,uG,zaq];omega
def Hh{v:Vo}{c i:Nat}:(NA v c)[i]?=some true↔i<v.d.n/\aU v.d.mp i=1:=by
 unfold NA;by_cases h:i<v.d.n
 ·rw[List.getElem?_append_left (by rw[uG];exact h),Es]
 ·rw[zak (by rw[uG];omega)]
  grind
def awv{v:Vo}(h:sS v){c:Nat}(U:v.d.n<=c)(H:c<=512):Uz (aV v) c v.d.n 512=0/\Y6 (aV v) c v.d.n 512=uw v c:=by
 have E:=rA h.1 h.2;obtain⟨d1,d2,d3⟩:=df E.dk;have hz:cM (c:Int)=0:=by unfold cM;omega
 have J:Rz v.d.mp v.d.n c=0:=by
  unfold Rz;rw[d3,hz,show((v.d.n:Nat):Int).toNat-((c:Nat):Int).toNat=0 by omega];rfl
 have hE:Uz (aV v) c v.d.n 512=0:=by
  unfold Uz;rw[Px,if_neg (λg=>g h.2),if_pos V];exact J
 refine⟨hE,?_⟩;have hm:YU v.d.mp v.d.n c=gm (NA v c):=by
  obtain⟨m1,m2⟩:=Dg (Mf U) V;unfold YU;rw[if_pos J];refine ag8 (P3 (fV _) V) m1 λi W=>?_
  rw[rF (fV _),if_pos W,m2 i,Hh];refine⟨λk=>⟨W,?_,k⟩,λk=>k.2.2⟩;obtain⟨_,_,b3,_,b5⟩:=lj d3;by_cases q:i<8*v.d.mp.length
  ·grind
  ·unfold aU at k;rw[zaM V]at k;simp at k
 have I:rzB (aV v) c=v.d.aT++aC ((c-v.d.n)*256):=by
  show v.d.aT.take (min (v.d.n:Int) c*256).toNat++Mw [0] (max 0 ((c:Int)-v.d.n)*256).toNat=_;have hn:v.d.n=v.d.aT.length/256:=rfl;rw[za1 V,show(max 0 ((c:Int)-v.d.n)*256).toNat=(c-v.d.n)*256 by omega,Hv]
 unfold Y6 uw;rw[hE,I,show YU (aV v).d.mp (aV v).d.n c=_ from hm];show(⟨_,.sl ((v.st.l.map aS).map aS)⟩:Vo)=_;rw[zdN];rfl
structure aDz(d e:Dk)(a:At):Prop where
 len:d.n<=e.n
 dk:dj e=0
 bit:∀c:Nat,(c:Int)∈aq a.rn.l->aU e.mp c=1
 cl:∀c:Nat,(c:Int)∈aq a.rn.l->ee e.aT c=ee d.aT c
def ak8{d e:Dk}{a:At}(h:aDz d e a)(h0:aI d a=0):aI e a=0:=by
 obtain⟨ok,oo⟩:=aL h0;have hn:=h.len;have iX:∀x∈aq a.rn.l,x≠ -1->ee e.aT x.toNat=ee d.aT x.toNat:=λx T U=>by
  have I:=(ok.pl x T).resolve_left U;exact h.cl _ au
 have hm2:(aq a.rn.l).map (lU e.aT)=(aq a.rn.l).map (lU d.aT):=zbG λx T=>by
  unfold lU
  grind
 have fu:∀k,fw e.aT (cP (aq a.rn.l) k)=fw d.aT (cP (aq a.rn.l) k):=λk=>by
  unfold fw;rw[zdA,zdA,<-fF,<-fF,hm2]
 have aqQ:∀v,kg e.aT v (chunks (aq a.rn.l))=kg d.aT v (chunks (aq a.rn.l)):=λv=>by
  unfold kg Lf;congr 1;refine zbG λk E=>?_
  have E:=zbp.1 E;rw[jY]at E;rw[qZ _ az,zbE];unfold BD;rw[fu]
 by_cases fx:a.rs=true
 ·unfold aI;rw[h.dk,ok.str,if_neg ab,if_neg ab,if_pos fx]
 ·have hp:mq e (aq a.rn.l)=0:=by
   unfold mq;rw[if_neg,if_neg]
   ·rintro⟨x,T,U,H⟩;have I:=(ok.pl x T).resolve_left U;have:=h.bit x.toNat au;omega
   ·rintro⟨x,T,U⟩;rcases ok.pl x T with H|H
    ·omega
    ·unfold Dk.n at U hn;omega
  unfold aI;rw[h.dk,ok.str,if_neg ab,if_neg ab,if_neg V,hp];unfold lh
  grind
def auK{v:Vo}(h:sS v){c:Nat}(U:v.d.n<=c)(H:c<=512):sS (uw v c)/\(uw v c).d.n=c:=by
 obtain⟨o1,o2,o3,o4⟩:=bL.1 h.2;obtain⟨d1,d2,d3⟩:=df o1;obtain⟨m1,m2⟩:=Dg (Mf U) V;have hn:v.d.n=v.d.aT.length/256:=rfl;have hD:(uw v c).d=⟨_,_⟩:=rfl;have hL:(uw v c).st.l=v.st.l.map aS:=rfl;have hl:(uw v c).d.aT.length=c*256:=by rw[hD];rw[zad,show ∀k,(aC k).length=k from λk=>zaq];omega
 have hdn:(uw v c).d.n=c:=uX;have hd:dj (uw v c).d=0:=by
  unfold dj
  grind
 refine⟨⟨⟨DM (mX hd),λa ha=>?_,au⟩,bL.2 ⟨hd,au,λa ha=>?_,?_⟩⟩,hdn⟩
 ·obtain⟨b,I,rfl⟩:=zaX.1 ha;exact h.1.2.1 b I
 ·obtain⟨b,I,rfl⟩:=zaX.1 ha;rw[Pb];have h0:=o3 b I;have aM:∀k:Nat,(k:Int)∈aq b.rn.l->k<v.d.n:=λk E=>by
   rcases(aL h0).1.pl _ E with g|g
   ·omega
   omega
  refine ak8 ⟨V,hd,λk E=>(m2 k).2 ⟨au,Hh.2 ⟨aM k E,nq h0 E⟩⟩,λk E=>?_⟩ h0;rw[AJ,AJ]
  grind
 ·rw[hL,zdI];exact o4
abbrev aD8:XE:=[.int .i64,.str,.int .i64,.int .i64,.bool,.str,.int .i64,.sl true [.int .i64,.int .i64],.int .i64,.int .i64,.int .i64]
abbrev cVo:Bool×XE:=(true,[.str,.str,.sl true [.int .i64,.str,.int .i64,.int .i64,.bool,.str,.int .i64,.sl true [.int .i64,.int .i64],.int .i64,.int .i64,.int .i64]])
abbrev cIn:Bool×XE:=(false,[.int .i64])
def awZ{y:PV}(h:∃zs,y=.agg zs/\jO [.str,.str,.sl true aD8] zs):∃v:Vo,y=v.pv:=by
 obtain⟨zs,rfl,h⟩:=h;obtain⟨_,_,rfl,I,_,_,rfl,hm,_,_,rfl,hs,rfl⟩:=h;simp only[Fb]at I hm hs;obtain⟨b,rfl,_⟩:=I;obtain⟨m,rfl,_⟩:=hm;obtain⟨aw,rfl,_,he⟩:=hs;obtain⟨l,rfl,_⟩:=Pu (g:=At.pv) (q:=λ_=>True) λz hz=>by
  obtain⟨a,ha⟩:=awS ((he z hz).1 trivial)
  grind
 exact⟨⟨⟨b,m⟩,.sl l⟩,rfl⟩
def anr{y:PV}(h:∃zs,y=.agg zs/\jO [.int .i64,.int .i64,.int .i64,.int .i64,.str,.int .i64,.int .i64] zs):∃s:Sp,y=s.pv:=by
 obtain⟨zs,rfl,h⟩:=h;obtain⟨_,_,rfl,⟨k,rfl,_⟩,_,_,rfl,⟨i,rfl,_⟩,_,_,rfl,⟨p,rfl,_⟩,_,_,rfl,⟨n,rfl,_⟩,_,_,rfl,⟨d,rfl,_⟩,_,_,rfl,⟨a,rfl,_⟩,_,_,rfl,⟨b,rfl,_⟩,rfl⟩:=h;exact⟨⟨k,i,p,n,d,⟨a,b⟩⟩,rfl⟩
section
structure pR(d:Dk)(a:At)(e:Dk)(b:At):Prop where
 f:b={ a with rn:=b.rn }
 h:∀i,x5 (aj d a) i↔x5 (aj e b) i
 u:br (aq a.rn.l)=br (aq b.rn.l)
 c:ba (aj d a)=ba (aj e b)
structure OnD(d:Dk)(a:At):Prop where
 o:aI d a=0
 d:D8 d
 n:a.nm.length<=1000000
section
variable {d e:Dk} {a b:At} {C:P8} {v:Int} {dt:Nat->Prop}
def ae3(h:OnD d a)(F:yX (aj d a) C v dt)(he:zW (aj d a) C v dt=0):
 (∀i,x5 (aj (FT (aj d a) C dt) (yf (aj d a) C v dt)) i↔i<(aJ (aj d a) C dt).length/\gB (aJ (aj d a) C dt) i=true)/\br (aq (yf (aj d a) C v dt).rn.l)=Zd (aJ (aj d a) C dt):=by
 have hm:=HW h.o h.d h.n F he;have E:∀i,i<(aJ (aj d a) C dt).length->(Ax (aj d a) C dt i≠ -1↔gB (aJ (aj d a) C dt) i=true):=λi W=>by
  constructor
  ·intro g;cases ca:gB (aJ (aj d a) C dt) i with
   |false=>exact absurd (hm.pl.no i ca) g
   |true=>rfl
  ·intro g;have:=hm.pl.yes i W g;omega
 constructor
 ·intro i;show(∃x,(aq (yf (aj d a) C v dt).rn.l)[i]?=some x/\x≠ -1)↔_;rw[hm.plc];unfold zX;by_cases W:i<(aJ (aj d a) C dt).length
  ·rw[bw W]
   grind
  ·rw[zaM (by simp_all)]
   grind
 ·rw[hm.plc];unfold zX Zd;rw[Ko];refine fj λi W=>?_
  grind
def ON(h:OnD d a)(F:yX (aj d a) C v dt)(he:zW (aj d a) C v dt=0):
 iq (FT (aj d a) C dt).mp d.n+br (aq a.rn.l)=iq d.mp d.n+Zd (aJ (aj d a) C dt)/\(FT (aj d a) C dt).n=d.n:=by
 have hs:=aeB.1 (Qr h.o h.d h.n F he);have:=QI hs.2.1 h.o hs.1;rw[(ae3 h F he).2]at this;exact⟨this,by unfold Dk.n;rw[hs.2.1.1.1]⟩
def apa(S:pR d a e b)(h:OnD d a)(h':OnD e b)(hn:d.n=e.n)(FN:iq d.mp d.n=iq e.mp e.n)(F:yX (aj d a) C v dt)(PG:Ig (aj d a) dt)(KK:yX (aj e b) C v dt)(aui:Ig (aj e b) dt):
 (zW (aj d a) C v dt=zW (aj e b) C v dt\/zW (aj d a) C v dt=8\/zW (aj e b) C v dt=8)/\
 (zW (aj d a) C v dt=0->zW (aj e b) C v dt=0->pR (FT (aj d a) C dt) (yf (aj d a) C v dt) (FT (aj e b) C dt) (yf (aj e b) C v dt)/\iq (FT (aj d a) C dt).mp (FT (aj d a) C dt).n=iq (FT (aj e b) C dt).mp (FT (aj e b) C dt).n/\(FT (aj d a) C dt).n=(FT (aj e b) C dt).n):=by
 have PB:b.fl=a.fl:=by rw[S.f]
 have hp:aJ (aj e b) C dt=aJ (aj d a) C dt:=by
  unfold aJ;rw[show(aj e b).a.fl=(aj d a).a.fl from PB]
 have hu:=S.u;constructor
 ·by_cases z1:zW (aj d a) C v dt=0
  ·obtain⟨r1,_⟩:=ON h F z1;have c1:=Ks (FT (aj d a) C dt).mp d.n;by_cases z2:zW (aj e b) C v dt=0
   ·omega
   ·have r2:=P4 h'.o h'.d h'.n KK aui z2 (zdJ _);unfold Nq at r2;rw[SK,hp]at r2;omega
  ·have r1:=P4 h.o h.d h.n F PG z1 (zdJ _);unfold Nq at r1;rw[SK]at r1;rcases r1 with r1|r1
   ·omega
   by_cases z2:zW (aj e b) C v dt=0
   ·obtain⟨r2,_⟩:=ON h' KK z2;have c2:=Ks (FT (aj e b) C dt).mp e.n
    grind
   ·have r2:=P4 h'.o h'.d h'.n KK aui z2 (zdJ _);unfold Nq at r2;omega
 ·intro z1 z2;obtain⟨r1,n1⟩:=ON h F z1;obtain⟨r2,n2⟩:=ON h' KK z2;obtain⟨a1,a2⟩:=ae3 h F z1;obtain⟨b1,b2⟩:=ae3 h' KK z2;have m1:=HW h.o h.d h.n F z1;have m2:=HW h'.o h'.d h'.n KK z2;rw[hp]at r2 b1 b2;refine⟨⟨?_,λi=>(a1 i).trans (b1 i).symm,a2.trans b2.symm,m1.Vt.trans m2.Vt.symm⟩,au,V⟩;have u1:br (zX (aj d a) C dt)=br (zX (aj e b) C dt):=by rw[<-m1.plc,<-m2.plc,a2,b2]
  have e1:(aj e b).a=b:=rfl;have e2:(aj d a).a=a:=rfl;unfold yf;rw[e1,e2,u1,S.f]
def amn(S:pR d a e b)(h:OnD d a)(h':OnD e b)(hn:d.n=e.n)(FN:iq d.mp d.n=iq e.mp e.n)(F:yX (aj d a) C v dt)(PG:Ig (aj d a) dt)(KK:yX (aj e b) C v dt)(aui:Ig (aj e b) dt):
 (Wg (aj d a) C v dt=Wg (aj e b) C v dt\/Wg (aj d a) C v dt=8\/Wg (aj e b) C v dt=8)/\
 (Wg (aj d a) C v dt=0->Wg (aj e b) C v dt=0->pR (ZU (aj d a) C v dt) (chA (aj d a) C v dt) (ZU (aj e b) C v dt) (chA (aj e b) C v dt)/\iq (ZU (aj d a) C v dt).mp (ZU (aj d a) C v dt).n=iq (ZU (aj e b) C v dt).mp (ZU (aj e b) C v dt).n/\(ZU (aj d a) C v dt).n=(ZU (aj e b) C v dt).n):=by
 have fx:b.rs=a.rs:=by rw[S.f]
 have e1:(aj e b).a.rs=b.rs:=rfl;have e2:(aj d a).a.rs=a.rs:=rfl;unfold Wg ZU chA;rw[e1,e2,fx];by_cases g:a.rs=true/\C.length<=200
 ·simp only[if_pos g];refine⟨.inl trivial,λ_ _=>⟨⟨?_,λi=>Iff.rfl,rfl,rfl⟩,FN,hn⟩⟩;rw[S.f];rfl
 ·obtain⟨m1,m2⟩:=apa S h h' hn FN F PG KK aui
  grind
end
end
section
section
variable {d e:Dk} {a b:At}
structure arD(hk hc:Int)(d':Dk)(a':At)(e':Dk)(b':At):Prop where
 er:hk=hc\/hk=8\/hc=8
 ok:hk=0->hc=0->pR d' a' e' b'/\iq d'.mp d'.n=iq e'.mp e'.n/\d'.n=e'.n
def pR.ait(S:pR d a e b):pR d (aS a) e (aS b):=by
 refine⟨?_,S.h,S.u,?_⟩
 ·have:=S.f;unfold aS;rw[this]
 ·exact S.c
def avI(S:pR d a e b)(h:OnD d a)(h':OnD e b)(hn:d.n=e.n)(FN:iq d.mp d.n=iq e.mp e.n)(p:Int)(dat:P8):
 arD (NX d a p dat) (NX e b p dat) (Uo d a p dat) (QN d a p dat) (Uo e b p dat) (QN e b p dat):=by
 have h0:sQ d a p dat=sQ e b p dat:=by unfold sQ;rw[h.o,h'.o]
 by_cases z:sQ d a p dat=0
 case neg=>
  have e1:NX d a p dat=sQ d a p dat:=by unfold NX;omega
  have e2:NX e b p dat=sQ d a p dat:=by unfold NX;omega
  exact RN
 have z':=h0▸z;have hp:=z;unfold sQ fP at hp;have FK:0<=p/\p<=32768:=Classical.byContradiction λg=>V
 by_cases he:dat=[]
 ·have e1:NX d a p dat=0:=by unfold NX;grind
  have e2:NX e b p dat=0:=by unfold NX;grind
  refine⟨.inl (e1.trans e2.symm),λ_ _=>?_⟩;have d1:Uo d a p dat=d:=by unfold Uo;grind
  have d2:Uo e b p dat=e:=by unfold Uo;grind
  have a1:QN d a p dat=aS a:=by unfold QN;rw[z,if_pos he];rfl
  have a2:QN e b p dat=aS b:=by unfold QN;rw[z',if_neg z0,if_pos he];rfl
  rw[d1,d2,a1,a2];exact⟨S.ait,FN,hn⟩
 have hv:dh b=dh a:=by rw[S.f];rfl
 have hw:VP (aj e b) p (p+dat.length)=VP (aj d a) p (p+dat.length):=funext λi=>propext (by
  unfold VP;rw[S.h i,show(aj e b).a.vl=(aj d a).a.vl by show b.vl=a.vl;rw[S.f]])
 have c1:=apf (zZ h.o) (dat:=dat) FK.1 V;have t1:=an9 (d:=d) (a:=a) (f:=p) (t:=p+dat.length) FK.1 V;have c2:=apf (zZ h'.o) (dat:=dat) FK.1 V;have t2:=an9 (d:=e) (a:=b) (f:=p) (t:=p+dat.length) FK.1 V;rw[hw,hv,<-S.c]at c2;rw[hw]at t2;have m:=amn S h h' hn FN c1 t1 c2 t2;unfold NX Uo QN;rw[z,z',if_neg z0,if_neg he,if_neg he,if_neg he,if_neg he,if_neg he,if_neg he,hw,hv,<-S.c];exact⟨m.1,m.2⟩
def awj(S:pR d a e b)(h:OnD d a)(h':OnD e b)(hn:d.n=e.n)(FN:iq d.mp d.n=iq e.mp e.n)(n:Int):
 arD (VN d a n) (VN e b n) (szD d a n) (szA d a n) (szD e b n) (szA e b n):=by
 have h0:x9 d a n=x9 e b n:=by unfold x9;rw[h.o,h'.o]
 by_cases z:x9 d a n=0
 case neg=>
  have e1:VN d a n=x9 d a n:=by unfold VN;omega
  have e2:VN e b n=x9 d a n:=by unfold VN;omega
  exact RN
 have z':=h0▸z;have hp:=z;unfold x9 fP at hp;have FK:0<=n/\n<=32768:=Classical.byContradiction λg=>V
 have hv:dh b=dh a:=by rw[S.f];rfl
 have hw:Vh (aj e b)=Vh (aj d a):=funext λi=>propext (by
  unfold Vh;rw[S.h i,show(aj e b).a.vl=(aj d a).a.vl by show b.vl=a.vl;rw[S.f]])
 have c1:=am1 (zZ h.o) FK;have t1:=apR (d:=d) (a:=a);have c2:=am1 (zZ h'.o) FK;have t2:=apR (d:=e) (a:=b);rw[hw,hv,<-S.c]at c2;rw[hw]at t2;have m:=amn S h h' hn FN c1 t1 c2 t2;unfold VN szD szA;rw[z,z',hw,hv,<-S.c];exact⟨m.1,m.2⟩
def av6(S:pR d a e b)(h:OnD d a)(h':OnD e b)(hn:d.n=e.n)(FN:iq d.mp d.n=iq e.mp e.n)(p n:Int):
 arD (WS d a p n) (WS e b p n) (zrD d a p n) (zrA d a p n) (zrD e b p n) (zrA e b p n):=by
 have h0:wJ d a p n=wJ e b p n:=by unfold wJ;rw[h.o,h'.o]
 by_cases z:wJ d a p n=0
 case neg=>
  have e1:WS d a p n=wJ d a p n:=by unfold WS;omega
  have e2:WS e b p n=wJ d a p n:=by unfold WS;omega
  exact RN
 have z':wJ e b p n=0:=h0▸z;have hp:=z;unfold wJ fP at hp;rw[if_neg (λg=>g h.o)]at hp;have FK:(0<=p/\p<=32768)/\0<=n/\n<=32768:=Classical.byContradiction λg=>V
 have fx:b.rs=a.rs:=by rw[S.f]
 have hvd:b.vd=a.vd:=by rw[S.f]
 have hN:HJ e b p n=HJ d a p n:=by unfold HJ;rw[S.c]
 have hw:UC e b p n=UC d a p n:=funext λi=>propext (by
  unfold UC zrP;rw[hN,S.h i,S.c])
 unfold WS zrD zrA;rw[z,z',if_neg z0,if_neg z0,if_neg z0,if_neg z0,if_neg z0,if_neg z0,fx,hvd,hN,hw];by_cases g:a.rs=true
 ·simp only[if_pos g];refine⟨.inl rfl,λ_ _=>⟨⟨?_,λi=>Iff.rfl,rfl,rfl⟩,FN,hn⟩⟩;rw[S.f];rfl
 ·simp only[if_neg g];have g1:a.rs=false:=au;have v1:a.vl=[]:=((kI (iV (aL h.o).1.str).1).ot g1).2.1;have g2:b.rs=false:=fx.trans g1;have v2:b.vl=[]:=((kI (iV (aL h'.o).1.str).1).ot g2).2.1;have c1:=amD (zZ h.o) g1 FK.1.1 FK.2.1 v1;have c2:=amD (zZ h'.o) g2 FK.1.1 FK.2.1 v2;obtain⟨_,_,f3,f4⟩:=ahq (d:=d) (a:=a) FK.1.1 FK.2.1;obtain⟨_,_,k3,k4⟩:=ahq (d:=e) (a:=b) FK.1.1 FK.2.1;have t1:Ig (aj d a) (UC d a p n):=amG f3 f4;have t2:Ig (aj e b) (UC e b p n):=amG k3 k4;rw[hN,hw,hvd]at c2;rw[hw]at t2;obtain⟨m1,m2⟩:=apa S h h' hn FN c1 t1 c2 t2;refine⟨m1,λz1 z2=>?_⟩
  grind
def aww(S:pR d a e b)(h:OnD d a)(h':OnD e b)(hn:d.n=e.n)(FN:iq d.mp d.n=iq e.mp e.n)(s:Sp)(E:s.k=1\/s.k=2\/s.k=3):
 arD (V4 d a s) (V4 e b s) (stD d a s) (stA d a s) (stD e b s) (stA e b s):=by
 unfold V4 stD stA;rcases E with E|E|E
 ·simp only[if_pos E];exact avI S h h' hn FN _ _
 ·simp only[if_neg (show ¬s.k=1 by omega),if_pos E];exact awj S h h' hn FN _
 ·simp only[if_neg (show ¬s.k=1 by omega),if_neg (show ¬s.k=2 by omega),if_pos E];exact av6 S h h' hn FN _ _
def awM(S:pR d a e b)(h:OnD d a)(h':OnD e b)(p n:Int):wQ d a p n=wQ e b p n/\rN d a p n=rN e b p n:=by
 have U:rN d a p n=rN e b p n:=by unfold rN;rw[h.o,h'.o]
 refine⟨?_,U⟩;unfold wQ;rw[U,S.c]
end
end
structure kJ(w u:Vo):Prop where
 g:sS w
 g':sS u
 n:w.d.n=u.d.n
 c:iq w.d.mp w.d.n=iq u.d.mp u.d.n
 len:w.st.l.length=u.st.l.length
 s:∀(i:Nat) a b,w.st.l[i]?=some a->u.st.l[i]?=some b->pR w.d a u.d b
def kJ.refl{v:Vo}(h:sS v):kJ v v:=
 ⟨h,h,rfl,rfl,rfl,λi a b U H=>by rw[U]at H;cases H;exact⟨rfl,λ_=>Iff.rfl,rfl,rfl⟩⟩
def sS.on{v:Vo}(h:sS v){i:Nat}{a:At}(ha:v.st.l[i]?=some a):OnD v.d a:=by
 obtain⟨o1,_,o3,_⟩:=bL.1 h.2;exact⟨o3 a (zag ha),mX o1,h.1.2.1 a (zag ha)⟩
def pR.azn{d e d' e':Dk}{a b:At}(S:pR d a e b)(U:ba (aj d' a)=ba (aj d a))(H:ba (aj e' b)=ba (aj e b)):pR d' a e' b:=
 ⟨S.f,S.h,S.u,U.trans (S.c.trans H.symm)⟩
def arM{w u:Vo}(S:kJ w u)(x:Sp)(E:x.k=0\/x.k=1\/x.k=2\/x.k=3):(N_ w x=N_ u x/\kJ (B0 w x) (B0 u x))\/(N_ w x).e=8\/(N_ u x).e=8:=by
 have hl:=S.len;by_cases W:0<=x.i/\x.i<=(w.st.l.length:Int)-1
 case neg=>
  unfold N_ B0
  grind
 obtain⟨a,ha⟩:∃a,w.st.l[x.i.toNat]?=some a:=⟨_,zah V⟩
 obtain⟨b,I⟩:∃b,u.st.l[x.i.toNat]?=some b:=⟨_,zah V⟩
 have ea:fB w x.i=a:=DR;have eb:fB u x.i=b:=DR;have SA:=S.s _ a b ha I;have oa:=S.g.on ha;have ob:=S.g'.on I;have n1:N_ w x=if x.k=0 then⟨wQ w.d a x.p x.n,rN w.d a x.p x.n⟩else⟨[],V4 w.d a x⟩:=by unfold N_;grind
 have v1:B0 w x=if x.k=0 then w else if V4 w.d a x≠0 then w else lC w (stD w.d a x) x.i.toNat (stA w.d a x):=by unfold B0;grind
 have n2:N_ u x=if x.k=0 then⟨wQ u.d b x.p x.n,rN u.d b x.p x.n⟩else⟨[],V4 u.d b x⟩:=by unfold N_;grind
 have v2:B0 u x=if x.k=0 then u else if V4 u.d b x≠0 then u else lC u (stD u.d b x) x.i.toNat (stA u.d b x):=by unfold B0;grind
 rw[n1,v1,n2,v2];by_cases k0:x.k=0
 ·obtain⟨r1,r2⟩:=awM SA oa ob x.p x.n
  grind
 rw[if_neg k0,if_neg k0,if_neg k0,if_neg k0];obtain⟨er,ok⟩:=aww SA oa ob S.n S.c x V;rcases er with er|er|er
 case inr.inl=>grind
 case inr.inr=>grind
 by_cases z:V4 w.d a x=0
 case neg=>
  grind
 have z':V4 u.d b x=0:=er▸z;rw[if_neg (λg=>g z),if_neg (λg=>g z'),z,z'];obtain⟨q1,q2,q3⟩:=ok z z';obtain⟨C,sp⟩:=YD oa.d oa.n z;obtain⟨C',sp'⟩:=YD ob.d ob.n z';obtain⟨_,w2,w3⟩:=JI S.g.1 S.g.2 ha sp;obtain⟨_,u2,u3⟩:=JI S.g'.1 S.g'.2 I sp';refine .inl ⟨rfl,OR S.g ha sp,OR S.g' I sp',q3,q2,?_,λj a' b' U H=>?_⟩
 ·show(w.st.l.set _ _).length=(u.st.l.set _ _).length
  grind
 ·have U:(w.st.l.set x.i.toNat (stA w.d a x))[j]?=some a':=U;have H:(u.st.l.set x.i.toNat (stA u.d b x))[j]?=some b':=H;rw[zaR]at U H;by_cases g:x.i.toNat=j
  ·rw[if_pos g,if_pos V]at U H;cases U;cases H;exact q1
  ·rw[if_neg g]at U H;exact(S.s j a' b' U H).azn (w2 j a' (λe=>g e.symm) U) (u2 j b' (λe=>g e.symm) H)
def ate{d:Dk}{a:At}{p:Int}{tr:Rn}(h0:aI d a=0)(hd:D8 d)(he:Cc d a p tr=0):∀i,x5 (aj (MK d a p tr) (HK a p tr)) i↔x5 (aj d a) i:=by
 have T:mxE d a p tr=0:=by rw[<-(ahP h0).1];exact he
 have hm:MD (aj d a) p tr=0:=by
  unfold mxE at T;split at T
  ·exact T
  ·rename_i g;exact DT
 have mo:=Ra hm;have E:=mo.ok;unfold L8 at E;have hlen:p+tr.n<=(aq a.rn.l).length:=mo.len;have KN:∀k:Nat,(k:Int)<tr.n→∃x,(aq a.rn.l)[p.toNat+k]?=some x/\x≠ -1:=mo.from_;have hsn:(aj d a).d=d:=rfl;rw[hsn]at E;obtain⟨ok,_⟩:=aL h0;have hn5:=ok.nb;have hg:∀i:Nat,(aq (HK a p tr).rn.l)[i]?=if p.toNat<=i/\i<p.toNat+tr.n.toNat then some (tr.s+((i-p.toNat:Nat):Int))else(aq a.rn.l)[i]?:=λi=>by
  have e:aq (HK a p tr).rn.l=tB (aq a.rn.l) p tr tr.n.toNat:=by
   refine zh λx T=>?_
   obtain⟨j,hj⟩:=zaG.1 T;rw[uq E.1 V]at hj;split at hj
   ·have:=Option.some.inj hj;omega
   ·have hdn:d.n=d.aT.length/256:=rfl;rcases ok.pl x (zag hj)with g|g<;>omega
  rw[e,uq E.1 V]
 intro i;unfold x5;show(∃x,(aq (HK a p tr).rn.l)[i]?=some x/\x≠ -1)↔∃x,(aq a.rn.l)[i]?=some x/\x≠ -1;rw[hg i];by_cases g:p.toNat<=i/\i<p.toNat+tr.n.toNat
 ·rw[if_pos g];constructor
  ·intro _;have:=KN (i-p.toNat) V;rwa[show p.toNat+(i-p.toNat)=i by omega]at this
  ·intro _;exact⟨_,rfl,V⟩
 ·rw[if_neg g]
def aso{w u:Vo}(S:kJ w u)(m:Mv):kJ (jm w m) u:=by
 by_cases he:jN w m=0
 case neg=>unfold jm;rw[if_pos he];exact S
 have hG:=apc S.g m;have F:=abD S.g m;obtain⟨k0,k1,hm⟩:=as8 he;obtain⟨a,ha⟩:∃a,w.st.l[m.k.toNat]?=some a:=⟨_,zah V⟩
 have ea:fB w m.k=a:=by unfold fB;rw[ha];rfl
 have e:jm w m=lC w (MW w.d (fB w m.k) m.p m.t) m.k.toNat (Uw w.d (fB w m.k) m.p m.t):=TA;rw[ea]at hm e;have oa:=S.g.on ha;have ml:=CU oa.o oa.d oa.n hm;have mh:=ate oa.o oa.d hm;rw[ml.D,ml.A]at e;obtain⟨_,w2,w3⟩:=JI S.g.1 S.g.2 ha ⟨ml.op,ml.Vt,ml.oth,oa.n⟩;have hf:=QI ml.oth oa.o ml.op;rw[ml.eJ]at hf;rw[e]at hG F ⊢;have hn:(MK w.d a m.p m.t).n=w.d.n:=ml.n;refine⟨hG,S.g',F.2.trans S.n,?_,?_,λj a' b' U H=>?_⟩
 ·show iq (MK w.d a m.p m.t).mp (MK w.d a m.p m.t).n=_;rw[hn,ml.eJ];exact S.c
 ·show(w.st.l.set _ _).length=_;rw[za0];exact S.len
 ·have U:(w.st.l.set m.k.toNat (HK a m.p m.t))[j]?=some a':=U;rw[zaR]at U;by_cases g:m.k.toNat=j
  ·rw[if_pos g,if_pos V]at U;cases U;rw[g]at ha;have SA:=S.s j a b' ha H;refine⟨?_,λi=>(mh i).trans (SA.h i),by have:=SA.u;omega,ml.Vt.trans SA.c⟩;rw[SA.f];rfl
  ·rw[if_neg g]at U;exact(S.s j a' b' U H).azn (w2 j a' (λe=>g e.symm) U) rfl
def anR:∀{l:List Sp} {i:Int},(ekN i l).2=0↔∀s∈l,ekE s.k=0
 |[],i=>by simp[ekN]
 |s::l,i=>by
  unfold ekN;by_cases g:ekE s.k=0
  ·rw[if_neg (λk=>k g),anR (l:=l)];simp[g]
  grind
def aca(v:Vo):∀(l m:List Sp),mP v (l++m)=mP (mP v l) m
 |[],m=>rfl
 |s::l,m=>aca (B0 v s) l m
def aaf(v:Vo):∀(l m:List Sp),qe v (l++m)=qe v l++qe (mP v l) m
 |[],m=>rfl
 |s::l,m=>by
  show N_ v s::qe (B0 v s) (l++m)=N_ v s::(qe (B0 v s) l++qe (mP (B0 v s) l) m);rw[aaf (B0 v s) l m]
def IH(v:Vo):∀l:List Sp,(qe v l).length=l.length
 |[]=>rfl
 |s::l=>by show(qe (B0 v s) l).length+1=l.length+1;rw[IH (B0 v s) l]
def abO{v:Vo}{l:List Sp}{n:Nat}{x:Sp}(h:l[n]?=some x):(qe v l)[n]?=some (N_ (mP v (l.take n)) x):=by
 have hn:=(zaa.1 h).1;have e:l=l.take n++x::l.drop (n+1):=by rw[<-drop_cons h,List.take_append_drop]
 have hl:(qe v (l.take n)).length=n:=by rw[IH,zal];omega
 conv=>lhs;rw[e]
 rw[aaf,zak V,hl,zcc];rfl
def aag{v:Vo}{l:List Sp}{n:Nat}{x:Sp}(h:l[n]?=some x):mP v (l.take (n+1))=B0 (mP v (l.take n)) x:=by
 rw[zcM,h,aca];rfl
structure art(d e:Dk)(a:At):Prop where
 lt:∀c:Nat,(c:Int)∈aq a.rn.l->c<e.n
 dk:dj e=0
 bit:∀c:Nat,(c:Int)∈aq a.rn.l->aU e.mp c=1
 cl:∀c:Nat,(c:Int)∈aq a.rn.l->ee e.aT c=ee d.aT c
def Xc{d e:Dk}{a:At}(h:art d e a)(h0:aI d a=0):aI e a=0/\ba (aj e a)=ba (aj d a):=by
 obtain⟨ok,oo⟩:=aL h0;have iX:∀x∈aq a.rn.l,x≠ -1->ee e.aT x.toNat=ee d.aT x.toNat:=λx T U=>by
  have I:=(ok.pl x T).resolve_left U;exact h.cl _ au
 have hm2:(aq a.rn.l).map (lU e.aT)=(aq a.rn.l).map (lU d.aT):=zbG λx T=>by
  unfold lU
  grind
 have aym:mJ e.aT (aq a.rn.l)=mJ d.aT (aq a.rn.l):=by
  unfold mJ;refine Ey λx T=>?_
  grind
 have fu:∀k,fw e.aT (cP (aq a.rn.l) k)=fw d.aT (cP (aq a.rn.l) k):=λk=>by
  unfold fw;rw[zdA,zdA,<-fF,<-fF,hm2]
 have ayn:nt e.aT (chunks (aq a.rn.l))=nt d.aT (chunks (aq a.rn.l)):=by
  unfold nt chunks;rw[zdy,zdy]
  grind
 have aqQ:∀v,kg e.aT v (chunks (aq a.rn.l))=kg d.aT v (chunks (aq a.rn.l)):=λv=>by
  unfold kg Lf;congr 1;refine zbG λk E=>?_
  have E:=zbp.1 E;rw[jY]at E;rw[qZ _ az,zbE];unfold BD;rw[fu]
 constructor
 ·by_cases fx:a.rs=true
  ·unfold aI;rw[h.dk,ok.str,if_neg ab,if_neg ab,if_pos fx]
  ·have fx:a.rs=false:=by grind
   have hp:mq e (aq a.rn.l)=0:=by
    unfold mq;rw[if_neg,if_neg]
    ·rintro⟨x,T,U,H⟩;have I:=(ok.pl x T).resolve_left U;have:=h.bit x.toNat au;omega
    ·rintro⟨x,T,U⟩;rcases ok.pl x T with H|H
     ·omega
     ·have:=h.lt x.toNat au;omega
   unfold aI;rw[h.dk,ok.str,if_neg ab,if_neg ab,if_neg V,hp,if_neg ab];unfold lh
   grind
 ·unfold ba;show(if a.rs=true then a.vl else jt a (if a.fl%2=1 then nt e.aT (chunks (aq a.rn.l))else mJ e.aT (aq a.rn.l)))=(if a.rs=true then a.vl else jt a (if a.fl%2=1 then nt d.aT (chunks (aq a.rn.l))else mJ d.aT (aq a.rn.l)))
  grind
def pR.trans{d e k:Dk}{a b c:At}(S:pR d a e b)(hx:pR e b k c):pR d a k c:=by
 refine⟨?_,λi=>(S.h i).trans (hx.h i),S.u.trans hx.u,S.c.trans hx.c⟩;have h:=hx.f;rw[S.f]at h;exact h
def pR.cp{d e:Dk}{a:At}(h:ba (aj e a)=ba (aj d a)):pR e (aS a) d a:=by
 have U:(aS a).rn.l=a.rn.l:=dw;refine⟨?_,λi=>?_,by rw[U],az⟩
 ·rfl
 rfl
def auF{v:Vo}(h:sS v){D:Dk}(hd:dj D=0)(he:∀a∈v.st.l,art v.d D a):sS (aay v D)∧∀(i:Nat) a b,(aay v D).st.l[i]?=some a->v.st.l[i]?=some b->pR D a v.d b:=by
 obtain⟨o1,o2,o3,o4⟩:=bL.1 h.2;have hL:(aay v D).st.l=v.st.l.map aS:=rfl;refine⟨⟨⟨DM (mX hd),λa ha=>?_,au⟩,bL.2 ⟨hd,au,λa ha=>?_,?_⟩⟩,λi a b ha I=>?_⟩
 ·obtain⟨b,I,rfl⟩:=zaX.1 ha;exact h.1.2.1 b I
 ·obtain⟨b,I,rfl⟩:=zaX.1 ha;exact(Xc (he b I) (o3 b I)).1
 ·rw[hL,zdI];exact o4
 ·rw[hL,zaD,I]at ha;have ha:=Option.some.inj ha;subst ha;exact pR.cp (Xc (he b (zag I)) (o3 b (zag I))).2
def Zq{d:Dk}{a:At}(h0:aI d a=0){k:Nat}(E:(k:Int)∈aq a.rn.l):k<d.n:=by
 rcases(aL h0).1.pl _ E with g|g
 ·omega
 ·unfold Dk.n;omega
def aum{v:Vo}(h:sS v){c:Nat}(U:1<=c)(H:c<=v.d.n)(I:GN v c):
 sS (mS v c)/\(mS v c).d.n=c/\(mS v c).st.l.length=v.st.l.length/\(∀(i:Nat) a b,(mS v c).st.l[i]?=some a->v.st.l[i]?=some b->pR (mS v c).d a v.d b)/\
  ∀i,aU (mS v c).d.mp i=1↔i<c/\aU v.d.mp i=1:=by
 obtain⟨o1,o2,o3,o4⟩:=bL.1 h.2;obtain⟨d1,d2,d3⟩:=df o1;have hn:v.d.n=v.d.aT.length/256:=rfl;have VF:((vZ v.d).take c).length=c:=by rw[zal,uG];omega
 obtain⟨m1,m2⟩:=Dg VF V;have hV:mS v c=aay v ⟨v.d.aT.take (c*256),gm ((vZ v.d).take c)⟩:=by unfold mS;grind
 rw[hV];have hdn:(⟨v.d.aT.take (c*256),gm ((vZ v.d).take c)⟩:Dk).n=c:=by unfold Dk.n;grind
 have sD:∀i,aU (gm ((vZ v.d).take c)) i=1↔i<c/\aU v.d.mp i=1:=λi=>by
  rw[m2 i];constructor
  ·rintro⟨k1,k2⟩;rw[zcV k1,Es]at k2;omega
  ·rintro⟨k1,k2⟩;rw[zcV k1,Es];omega
 have hd:dj ⟨v.d.aT.take (c*256),gm ((vZ v.d).take c)⟩=0:=by
  unfold dj
  grind
 have he:∀a∈v.st.l,art v.d ⟨v.d.aT.take (c*256),gm ((vZ v.d).take c)⟩ a:=λa ha=>by
  have h0:=o3 a ha;have aM:∀k:Nat,(k:Int)∈aq a.rn.l->k<c:=λk E=>by
   apply Classical.byContradiction;intro g;exact I k V (Zq h0 E) (nq h0 E)
  refine⟨λk E=>au,hd,λk E=>(sD k).2 ⟨aM k E,nq h0 E⟩,λk E=>?_⟩;have:=aM k E;rw[AJ,AJ];rw[List.drop_take,List.take_take,zat V]
 obtain⟨g1,g2⟩:=auF h hd he;exact⟨g1,hdn,by show(v.st.l.map aS).length=_;simp,g2,sD⟩
def aAB{v:Vo}(h:sS v){c:Nat}(U:v.d.n<=c)(H:c<=512):
 sS (uw v c)/\(uw v c).d.n=c/\(uw v c).st.l.length=v.st.l.length/\(∀(i:Nat) a b,(uw v c).st.l[i]?=some a->v.st.l[i]?=some b->pR (uw v c).d a v.d b)/\
  ∀i,aU (uw v c).d.mp i=1↔i<v.d.n/\aU v.d.mp i=1:=by
 obtain⟨g1,g2⟩:=auK h U H;obtain⟨o1,o2,o3,o4⟩:=bL.1 h.2;obtain⟨p1,_⟩:=bL.1 g1.2;obtain⟨m1,m2⟩:=Dg (Mf U) V;have hn:v.d.n=v.d.aT.length/256:=rfl;have sD:∀i,aU (gm (NA v c)) i=1↔i<v.d.n/\aU v.d.mp i=1:=λi=>by
  rw[m2 i,Hh];omega
 have he:∀a∈v.st.l,art v.d (uw v c).d a:=λa ha=>by
  have h0:=o3 a ha;refine⟨λk E=>by have:=Zq h0 E;omega,p1,λk E=>(sD k).2 ⟨Zq h0 E,nq h0 E⟩,λk E=>?_⟩;have:=Zq h0 E;rw[AJ,AJ];show((v.d.aT++_).drop _).take _=_
  grind
 obtain⟨k1,k2⟩:=auF h p1 he;exact⟨g1,g2,by show(v.st.l.map aS).length=_;simp,k2,sD⟩
def as3{w u:Vo}(S:kJ w u){c:Nat}(U:1<=c)(H:c<=w.d.n)(I:GN w c):kJ (uw (mS w c) w.d.n) u:=by
 obtain⟨o1,_⟩:=bL.1 S.g.2;obtain⟨d1,d2,d3⟩:=df o1;obtain⟨a1,a2,a3,a4,a5⟩:=aum S.g U H I;obtain⟨b1,b2,b3,b4,b5⟩:=aAB a1 (c:=w.d.n) V V;have hl:=S.len;refine⟨b1,S.g',b2.trans S.n,?_,V,λi a b ha nN=>?_⟩
 ·rw[b2,<-S.c,oG,oG];refine fj λi W=>decide_eq_decide.2 ?_
  rw[b5 i,a5 i];constructor
  ·omega
  ·intro k;have:i<c:=Classical.byContradiction λg=>I i V W k
   omega
 ·have W:=(zaa.1 ha).1;obtain⟨x,T⟩:∃x,(mS w c).st.l[i]?=some x:=⟨_,zah V⟩
  obtain⟨y,hy⟩:∃y,w.st.l[i]?=some y:=⟨_,zah V⟩
  exact((b4 i a x ha T).trans (a4 i x y T hy)).trans (S.s i y b hy nN)
def kJ.own{w u:Vo}(S:kJ w u):kJ (aV w) u:=by
 have hl:=S.len;refine⟨S6 S.g,S.g',S.n,S.c,by show(w.st.l.map aS).length=_;rw[zaw];exact hl,λi a b ha I=>?_⟩;rw[show(aV w).st.l=w.st.l.map aS from rfl,zaD]at ha;have W:i<w.st.l.length:=by have:=(zaa.1 I).1;omega
 obtain⟨x,T⟩:∃x,w.st.l[i]?=some x:=⟨_,zah W⟩
 rw[T]at ha;have ha:=Option.some.inj ha;subst ha;exact(pR.cp rfl).trans (S.s i x b T I)
def agW{u:Vo}:∀(l:XM) {w:Vo} (i:Int),kJ w u->kJ (Ce w i l).1 u
 |[],w,i,S=>S
 |m::l,w,i,S=>by
  show kJ (if jN w m≠0 then(w,i,jN w m)else Ce (jm w m) (i+1) l).1 u;split
  ·exact S
  ·exact agW l (i+1) (aso S m)
def Qj{w u:Vo}(S:kJ w u){l:XM}(hl:l.length<=300)(h:(Ce w 0 l).2.2=0):(WR w (.sl l)).2.2=0/\kJ (mbV w (.sl l)) u:=by
 have e:WR w (.sl l)=Ce w 0 l:=by
  unfold WR;rw[if_neg (λg=>g S.g.2),show(Sl.sl l).l=l from rfl,if_pos hl]
 refine⟨by rw[e];exact h,?_⟩;unfold mbV;rw[e,if_neg (λg=>g h)];exact(agW l 0 S).own
def asw{w u:Vo}(S:kJ w u){i:Nat}(W:i<w.st.l.length)(h0:ZV w i=0):(Zj w i).length<=300/\(WR w (.sl (Zj w i))).2.2=0/\kJ (mbV w (.sl (Zj w i))) u:=by
 have ho:oiE w i=0:=by unfold oiE;rw[if_neg (λg=>g S.g.2),if_pos V]
 by_cases hp:(KO (fB w i).rn.l).length<=1
 ·have e:Zj w i=[]:=by unfold Zj;rw[if_pos (.inr (.inl hp))]
  rw[e];exact⟨by show(0:Nat)<=300;omega,Qj S (l:=[]) (by show(0:Nat)<=300;omega) rfl⟩
 ·have e:Zj w i=onS w i:=by unfold Zj;rw[if_neg (by rintro(g|g|g);exact g ho;exact hp g;exact g h0)]
  have U:(if onR w i=[]then 16 else lk w (.sl (onS w i)))=0:=by
   have h:=h0;unfold ZV at h;rwa[if_neg (λg=>g ho),if_neg hp]at h
  have H:lk w (.sl (onS w i))=0:=by
   split at U
   ·cases U
   ·exact U
  unfold lk at H;rw[show(Sl.sl (onS w i)).l=onS w i from rfl]at H;rw[e];split at H
  ·rename_i g;exact absurd H g
  ·rename_i g;split at H
   ·rename_i g2;exact⟨g2,Qj S g2 (zcN.1 g)⟩
   ·cases H
def aAs{w:Vo}(h:sS w){t:Rn}(hp:my w.d t):NT w t=0\/NT w t=16\/NT w t=8:=by
 rcases ahw h hp with⟨_,e,_⟩|⟨_,e,_⟩|⟨_,e,_⟩
 ·exact .inr (.inl e)
 ·exact .inr (.inr e)
 ·exact .inl e
def asH{w u:Vo}(S:kJ w u){t:Rn}(hp:my w.d t)(h:NT w t=0):(M1 w t).length<=300/\(WR w (.sl (M1 w t))).2.2=0/\kJ (mbV w (.sl (M1 w t))) u:=by
 rcases ahw S.g hp with⟨_,e,_⟩|⟨_,e,_⟩|⟨_,_,e,hl,w1,hi⟩
 ·rw[e]at h;exact pf
 ·rw[e]at h;exact pf
 ·rw[e];have I:=DH hi.ch 0 [];rw[zbg]at I;exact⟨hl,Qj S hl (by rw[I];rfl)⟩
def aoH{w u:Vo}{l:List Sp}{n:Nat}{x:Sp}(h:l[n]?=some x)(E:0<=x.k/\x.k<=3)(S:kJ (mP w (l.take n)) (mP u (l.take n))):
 ∃y z:An,(qe w l)[n]?=some y/\(qe u l)[n]?=some z/\(y.e=8\/z.e=8\/(y=z/\kJ (mP w (l.take (n+1))) (mP u (l.take (n+1))))):=by
 refine⟨_,_,abO h,abO h,?_⟩;rcases arM S x V with⟨g1,g2⟩|g|g
 ·refine .inr (.inr ⟨g1,?_⟩);rw[aag h,aag h];exact g2
 ·exact .inl g
 ·exact .inr (.inl g)
def UQ(l:List Sp):Prop:=l.length<=8∧∀x∈l,(0<=x.k/\x.k<=3)/\x.dat.length<=3000
def arO{l:List Sp}(h:UQ l):awJ l=0:=by
 have:=h.1;unfold awJ;rw[if_pos V];refine anR.2 λs hs=>?_
 have:=(h.2 s hs).1;unfold ekE;rw[if_pos V]
def sS.apart{v:Vo}(h:sS v):v.st.l.Pairwise apS:=(bL.1 h.2).2.2.2
def acL:∀{l:UD} {seen:QK} {i:Int},l.Pairwise (λa b=>∀c∈GY a,c∉GY b)->(∀a∈l,∀c∈GY a,c∉seen)->clG seen i l= -1
 |[],_,_,_,_=>rfl
 |b::l,seen,i,hp,hs=>by
  obtain⟨p1,p2⟩:=List.pairwise_cons.1 hp;show(if ∃c∈GY b,c∈seen then i else clG (seen++GY b) (i+1) l)= -1;rw[if_neg]
  ·refine acL p2 λa ha c F g=>?_
   rcases zaA.1 g with g|g
   ·exact hs a (by simp[ha]) c F g
   ·exact p1 a ha c g F
  ·rintro⟨c,F,g⟩;exact hs b ab c F g
def aga{v:Vo}(h:sS v):clG [] 0 v.st.l= -1:=by
 obtain⟨o1,o2,o3,o4⟩:=bL.1 h.2;refine acL (o4.imp_of_mem λ{a b} ha I hab c F g=>?_) λa _ c _=>ab
 rw[vt (o3 a ha)]at F;rw[vt (o3 b I)]at g;have EV:=lY (o3 a ha);have lV:=lY (o3 b I);exact hab c ((Ai λr h=>(EV r h).imp id (·.1)).1 F) ((Ai λr h=>(lV r h).imp id (·.1)).1 g)
def smA(a:At):Prop:=a.rn.l.length<=12/\a.vl.length<=1000/\a.nm.length<=60
def smP(v:Vo):Prop:=(v.d.aT.length<=20480/\v.d.mp.length<=12/\v.st.l.length<=6)∧∀a∈v.st.l,smA a
def T2(ps:CK)(p:Prop):Prop:=∃v:Vo,ps=[v.pv]/\p=smP v
def Xw:MT (ao []) y0 (dU T2):=by
 rintro _ K ⟨_,⟨v,rfl,rfl⟩,Y⟩;have FJ:(v.st.l.map At.pv).length=v.st.l.length:=zaw _;by_cases F:v.d.aT.length<=20480/\v.d.mp.length<=12/\v.st.l.length<=6
 case neg=>
  have hn:¬smP v:=λh=>F h.1
  (repeat'((conv=>whnf);first|refine tD ?_|refine ak V ?_|refine dc (λ_=>?_) (λ_=>?_)|refine cT λ_=>?_|fail))
  all_goals first
   |(exfalso;omega)
   |exact CR
 obtain⟨c1,c2,c3⟩:=F
 (repeat'((conv=>whnf);first|refine tD ?_|refine ar V ?_|refine cT λ_=>?_|fail))
 refine⟨λm env Z=>∃n:Nat,(n+m=v.st.l.length∧∀j a,j<n->v.st.l[j]?=some a->smA a)/\Z=[.box 49 [.pv (.str v.d.aT),.pv (.str v.d.mp),.pv (ub v.st)]]/\env=[(1,.ref 0 0 0),eN 3 n],v.st.l.length,⟨0,⟨V,λj a h=>V⟩,rfl,rfl⟩,?_⟩;rintro m env Z ⟨n,⟨hn,rk⟩,rfl,rfl⟩;by_cases aM:n<v.st.l.length
 ·obtain⟨a,ha⟩:∃a,v.st.l[n]?=some a:=⟨_,zah aM⟩
  have zT:ub v.st=.sl 11 (v.st.l.map At.pv):=Sl.SW ha;have hga:=nH (f:=At.pv) ha;have hlr:(a.rn.l.map Rn.pv).length=a.rn.l.length:=zaw _;rw[zT];by_cases hf:smA a
  ·obtain⟨f1,f2,f3⟩:=hf
   (repeat'((conv=>whnf);first|refine tD ?_|refine ak V ?_|refine⟨_,⟨V,hga⟩,?_⟩|refine ar V ?_|refine bu V ?_|refine cT λ_=>?_|fail))
   refine⟨m-1,V,n+1,⟨V,λj b hj I=>?_⟩,rfl,rfl⟩;rcases zcQ (zcR hj)with U|U
   ·exact rk j b U I
   ·subst U;rw[ha]at I;cases I;exact⟨f1,f2,f3⟩
  ·have hn:¬smP v:=λh=>hf (h.2 a (zag ha))
   unfold smA at hf
   (repeat'((conv=>whnf);first|refine tD ?_|refine ak V ?_|refine⟨_,⟨V,hga⟩,?_⟩|refine dc (λ_=>?_) (λ_=>?_)|refine cT λ_=>?_|fail))
   all_goals first
    |(exfalso;omega)
    |exact CR
 ·have hy:smP v:=⟨⟨c1,c2,c3⟩,λa ha=>by
   obtain⟨j,hj⟩:=iU.1 ha;exact rk j a (by have:=fo hj;omega) hj⟩
  (repeat'((conv=>whnf);first|refine tD ?_|refine ar V ?_|refine cT λ_=>?_|fail))
  exact⟨.pv (.bool true),rfl,trivial,Y true (by simp only[hy])⟩
def smP.b{v:Vo}(h:smP v):Un v/\(∀a∈v.st.l,a.rn.l.length<=1000000)/\v.st.l.length<=1000000:=by
 obtain⟨⟨U,H,h3⟩,h4⟩:=h;exact⟨⟨⟨V,V⟩,λa ha=>by have:=(h4 a ha).2.2;omega,V⟩,λa ha=>by have:=(h4 a ha).1;omega,V⟩
def XJ(ps:CK)(p:Prop):Prop:=∃s:Sl Sp,ps=[vu s]/\p=UQ s.l
def aeT:MT (ao [(29,dU cf)]) tG (dU XJ):=by
 rintro _ K ⟨_,⟨s,rfl,rfl⟩,Y⟩;have FJ:(s.l.map Sp.pv).length=s.l.length:=zaw _;by_cases F:s.l.length<=8
 case neg=>
  have hn:¬UQ s.l:=λh=>F h.1
  (repeat'((conv=>whnf);first|refine tD ?_|refine ak V ?_|refine cT λ_=>?_|fail))
  exact CR
 (repeat'((conv=>whnf);first|refine tD ?_|refine ar V ?_|refine cT λ_=>?_|fail))
 refine⟨λm env Z=>∃n:Nat,(n+m=s.l.length∧∀j a,j<n->s.l[j]?=some a->(0<=a.k/\a.k<=3)/\a.dat.length<=3000)/\Z=[]/\env=[(0,.pv (vu s)),eN 3 n],s.l.length,⟨0,⟨V,λj a h=>V⟩,rfl,rfl⟩,?_⟩;rintro m env Z ⟨n,⟨hn,rk⟩,rfl,rfl⟩;by_cases aM:n<s.l.length
 ·obtain⟨a,ha⟩:∃a,s.l[n]?=some a:=⟨_,zah aM⟩
  have zT:vu s=.sl 7 (s.l.map Sp.pv):=Sl.SW ha;have hga:=nH (f:=Sp.pv) ha;have hwi:cf [pI a.k,pI 0,pI 3] _:=⟨a.k,0,3,rfl,rfl⟩
  rw[zT];by_cases E:0<=a.k/\a.k<=3
  case neg=>
   have hn:¬UQ s.l:=λh=>E (h.2 a (zag ha)).1
   (repeat'((conv=>whnf);first|refine ak V ?_|refine⟨_,⟨V,hga⟩,?_⟩|refine⟨_,hwi,?_⟩|refine ar E ?_|refine ec ?_|refine cT λ_=>?_|fail))
   all_goals first
    |(exfalso;omega)
    |exact CR
  by_cases hf:a.dat.length<=3000
  ·(repeat'((conv=>whnf);first|refine ak V ?_|refine⟨_,⟨V,hga⟩,?_⟩|refine⟨_,hwi,?_⟩|refine ar V ?_|refine bu V ?_|refine bR ?_|refine cT λ_=>?_|fail))
   refine⟨m-1,V,n+1,⟨V,λj b hj I=>?_⟩,rfl,rfl⟩;rcases zcQ (zcR hj)with U|U
   ·exact rk j b U I
   ·subst U;rw[ha]at I;cases I;exact⟨E,hf⟩
  ·have hn:¬UQ s.l:=λh=>hf (h.2 a (zag ha)).2
   (repeat'((conv=>whnf);first|refine ak V ?_|refine⟨_,⟨V,hga⟩,?_⟩|refine⟨_,hwi,?_⟩|refine bR ?_|refine cT λ_=>?_|fail))
   all_goals first
    |(exfalso;omega)
    |exact CR
 ·have hy:UQ s.l:=⟨F,λa ha=>by
   obtain⟨j,hj⟩:=iU.1 ha;exact rk j a (by have:=fo hj;omega) hj⟩
  (repeat'((conv=>whnf);first|refine tD ?_|refine ar V ?_|refine cT λ_=>?_|fail))
  exact⟨.pv (.bool true),rfl,trivial,Y true (by simp only[hy])⟩
def Ej(ps:CK)(x:PV):Prop:=∃v:Vo,ps=[v.pv]/\sS v/\x=pB true
def adB:MT (ao [(92,ah Yd)]) yI (ah Ej):=by
 rintro _ K ⟨_,⟨v,rfl,h,rfl⟩,Y⟩;obtain⟨o1,o2,o3,o4⟩:=bL.1 h.2;have F:Yd [ub v.st] (pI (-1)):=⟨v.st,rfl,⟨V,λa ha=>by
  obtain⟨c1,c2,c3⟩:=al6 (o3 a ha);exact⟨V,c3,V⟩⟩,by rw[aga h]⟩
 (repeat'((conv=>whnf);first|refine⟨_,F,?_⟩|refine ak ai ?_|fail))
 exact pn
section
def Dl(v:Vo)(c:Nat):Rn:=⟨c,(v.d.n:Int)-c⟩
def rz(v:Vo)(c:Nat):Vo:=mbV (aV v) (.sl (M1 (aV v) (Dl v c)))
open Classical in
def aoX(v:Vo)(c:Nat):Vo:=if NT (aV v) (Dl v c)≠0 then v else if GN (rz v c) c then uw (mS (rz v c) c) v.d.n else rz v c
def adq{v:Vo}{c:Nat}(H:c+1<=v.d.n):my (aV v).d (Dl v c):=by
 unfold my;rw[show(aV v).d=v.d from rfl,show(Dl v c).s=(c:Int)from rfl,show(Dl v c).n=(v.d.n:Int)-c from rfl];omega
def acr{w u:Vo}(S:kJ w u){c:Nat}(H:c+1<=w.d.n)(h:NT (aV w) (Dl w c)=0):
 (M1 (aV w) (Dl w c)).length<=300/\(WR (aV w) (.sl (M1 (aV w) (Dl w c)))).2.2=0/\kJ (rz w c) u:=asH S.own (adq H) h
def aot{w u:Vo}(S:kJ w u){c:Nat}(U:1<=c)(H:c+1<=w.d.n):kJ (aoX w c) u:=by
 unfold aoX;by_cases h:NT (aV w) (Dl w c)=0
 case neg=>grind
 rw[if_neg (λg=>g h)];have hx:=(acr S H h).2.2;have hn:=hx.n.trans S.n.symm;by_cases g:GN (rz w c) c
 ·rw[if_pos g,<-hn];exact as3 hx U V g
 grind
def asR(v:Vo)(D:Dk):aV (aay v D)=aay v D:=by
 show(⟨D,.sl ((v.st.l.map aS).map aS)⟩:Vo)=⟨D,_⟩
 rw[zdN];rfl
def asO{w:Vo}(h:sS w){c:Nat}(U:1<=c)(H:c<=w.d.n):
 (¬GN w c/\Uz (aV w) c 1 w.d.n=18)\/
 (GN w c/\Uz (aV w) c 1 w.d.n=0/\Y6 (aV w) c 1 w.d.n=mS w c/\sS (mS w c)/\Uz (mS w c) w.d.n (mS w c).d.n 512=0/\Y6 (mS w c) w.d.n (mS w c).d.n 512=uw (mS w c) w.d.n/\sS (uw (mS w c) w.d.n)/\(uw (mS w c) w.d.n).d.n=w.d.n):=by
 obtain⟨s1,s2,s3⟩:=awr h U H;by_cases g:GN w c
 case neg=>grind
 obtain⟨a1,a2,_⟩:=aum h U H g;have hd:=(df (bL.1 h.2).1).2.1;obtain⟨g1,g2⟩:=awv a1 (c:=w.d.n) V V;obtain⟨b1,b2⟩:=auK a1 (c:=w.d.n) V V;have ho:aV (mS w c)=mS w c:=by unfold mS;rw[if_pos g];exact asR w _
 grind
def BV:Vo:=⟨⟨aC 2048,[1]⟩,.nil⟩
def atv:BV.d.n=8:=by
 unfold Dk.n BV;rw[bB]
def aDp:dj BV.d=0:=by
 unfold dj;rw[atv,show BV.d.aT=aC 2048 from rfl,bB];rfl
def aof:LC BV=(0,0):=by
 unfold LC;rw[if_neg (λg=>g aDp)];rfl
def afA:sS BV:=⟨⟨⟨by show(aC 2048).length<=_;rw[bB];decide,ai⟩,λa ha=>(by cases ha),ai⟩,by unfold Av;rw[aof]⟩
def am7:NT BV ⟨4,4⟩=0/\M1 BV ⟨4,4⟩=[]:=by
 have hp:my BV.d ⟨4,4⟩:=by unfold my;rw[atv];decide
 have ho:otE BV ⟨4,4⟩=0:=by unfold otE;rw[if_neg (λg=>g afA.2),if_pos hp]
 have F:Qi BV ⟨4,4⟩=[]:=rfl;have hs:¬aF (Cd BV ⟨4,4⟩)<pT (mH ⟨4,4⟩ 0 BV.st.l):=by
  rw[an8 (rA afA.1 afA.2)];show ¬_<(0:Int);have:=amR (l:=Db (λc=>¬aU BV.d.mp c=1/\agE ⟨4,4⟩ c) BV.d.n) λq hq=>by have:=((Nc (λc=>¬aU BV.d.mp c=1/\agE ⟨4,4⟩ c) BV.d.n).1 q hq).2.1;omega
  omega
 have e:NT BV ⟨4,4⟩=0:=by
  unfold NT;rw[if_neg (λg=>g ho),if_neg hs];rfl
 exact⟨e,by unfold M1;grind⟩
def aov:Uz BV 4 1 BV.d.n=0/\(Y6 BV 4 1 BV.d.n).d.aT.length=1024:=by
 have r4:Rz [1] 8 4=0:=dw;have e:Uz BV 4 1 BV.d.n=0:=by
  unfold Uz;rw[atv,if_neg (λh=>h afA.2)];exact r4
 refine⟨e,?_⟩;unfold Y6;rw[if_neg (λg=>g e)];unfold rzB;rw[atv,zad,zal,show BV.d.aT=aC 2048 from rfl,bB];decide
end
def SZ(ps:CK)(x:PV):Prop:=ps=[]/\x=pB true
def Zo:MT (ao [(48,ah YN),(21,dz true Hk),(63,dz false Kg),(64,dz false uU)]) zt (ah SZ):=by
 rintro _ K ⟨_,⟨rfl,rfl⟩,Y⟩;have hz:YN [pI 2048] (.str (aC 2048)):=⟨2048,rfl,ai,rfl⟩
 have hv:BV.pv=.agg [.str (aC 2048),.str [1],ub .nil]:=rfl;have F:Hk [BV.pv] (.tup [.pv (pI 0),.pv (pI 0)]):=⟨BV,rfl,afA.1,by rw[aof]⟩
 have iX:Kg [BV.pv,.agg [pI 4,pI 4]] (.tup [.pv (.sl 4 []),.pv (pI 0)]):=⟨BV,⟨4,4⟩,rfl,afA.1,by rw[am7.1,am7.2];rfl⟩
 have zy:uU [BV.pv,pI 4] (.tup [.pv (Y6 BV 4 1 BV.d.n).pv,.pv (pI 0)]):=⟨BV,4,rfl,afA.1,by rw[aov.1]⟩
 have hl:=aov.2;generalize Y6 BV 4 1 BV.d.n=X at*;rw[hv]at F iX zy;generalize aC 2048=σ at*
 (repeat'((conv=>whnf);first|refine⟨_,hz,?_⟩|refine⟨_,F,?_⟩|refine⟨_,iX,?_⟩|refine⟨_,zy,?_⟩|refine ak rfl ?_|refine ak V ?_|refine cT λ_=>?_|refine aY ?_|fail))
 exact pn
def aeR(ps:CK)(r:RV):Prop:=∃(v:Vo) (c:Nat),ps=[v.pv,pI c,pI v.d.n]/\(sS v/\1<=c/\c+1<=v.d.n)/\r=.tup [.pv (aoX v c).pv,.pv (pB true)]
def aeD:MT (ao [(22,dz false uf),(63,dz false Kg),(26,dz false yE),(27,ah Ej),(64,dz false uU),(93,dz false L3),(28,ah bk)]) Cr (dz false aeR):=by
 rintro _ K ⟨_,⟨v,c,rfl,⟨hG,U,H⟩,rfl⟩,Y⟩;have hC:uf [v.pv] _:=⟨v,rfl,(rA hG.1 hG.2).N,rfl⟩
 have hGo:=S6 hG;have hcp:Kg [(aV v).pv,.agg [pI c,pI ((v.d.n:Int)-c)]] (.tup [.pv (.sl 4 ((M1 (aV v) (Dl v c)).map Mv.pv)),.pv (pI (NT (aV v) (Dl v c)))]):=⟨aV v,Dl v c,rfl,hGo.1,rfl⟩
 have hd:=(df (bL.1 hG.2).1).2.1;have A6:∀w0:Vo,(aV w0).pv=.agg [.str w0.d.aT,.str w0.d.mp,.sl 11 ((w0.st.l.map aS).map At.pv)]:=λw0=>rfl
 unfold aoX at Y;by_cases he:NT (aV v) (Dl v c)=0
 case neg=>
  rw[if_pos he]at Y;rcases aAs hGo (adq H)with e|e|e
  ·exact absurd e he
  all_goals
   rw[e]at hcp;rw[A6]at hcp
   (repeat'((conv=>whnf);first|refine⟨_,hC,?_⟩|refine⟨_,hcp,?_⟩|refine bu V ?_|refine ak V ?_|refine ar V ?_|refine aY ?_|fail))
   exact⟨[.pv v.pv,.pv (pB true)],⟨rfl,rfl,trivial⟩,trivial,Y⟩
 rw[if_neg (λg=>g he)]at Y;obtain⟨q1,q2,S1⟩:=acr (kJ.refl hG) H he;rw[he]at hcp;have hWG:=S1.g;have hWn:(rz v c).d.n=v.d.n:=S1.n;have Gw:yE [(aV v).pv,.sl 4 ((M1 (aV v) (Dl v c)).map Mv.pv)] (.tup [.pv (rz v c).pv,.pv (pI 0)]):=⟨aV v,.sl (M1 (aV v) (Dl v c)),rfl,⟨hGo.1,by show(M1 (aV v) (Dl v c)).length<=_;omega⟩,by rw[q2];rfl⟩
 have hCW:uf [(rz v c).pv] _:=⟨rz v c,rfl,(rA hWG.1 hWG.2).N,rfl⟩
 have hap:Ej [(rz v c).pv] _:=⟨rz v c,rfl,hWG,rfl⟩
 have zy:uU [(aV (rz v c)).pv,pI c] (.tup [.pv (Y6 (aV (rz v c)) c 1 v.d.n).pv,.pv (pI (Uz (aV (rz v c)) c 1 v.d.n))]):=⟨aV (rz v c),c,rfl,JK hWG.1,by rw[show(aV (rz v c)).d.n=v.d.n from hWn]⟩
 have cr:=asO hWG U V;rw[hWn]at cr;generalize M1 (aV v) (Dl v c)=L at*;rcases cr with⟨g,e⟩|⟨g,e1,e2,gS,e3,e4,gG,gn⟩
 ·rw[if_neg g]at Y;rw[e]at zy;generalize Y6 (aV (rz v c)) c 1 v.d.n=RZ at*;rw[A6]at hcp Gw zy;generalize rz v c=hi at*
  (repeat'((conv=>whnf);first|refine⟨_,hC,?_⟩|refine⟨_,hcp,?_⟩|refine⟨_,Gw,?_⟩|refine⟨_,hap,?_⟩|refine⟨_,hCW,?_⟩|refine⟨_,zy,?_⟩|refine bu V ?_|refine bR ?_|refine ak V ?_|refine ar V ?_|refine aY ?_|fail))
  exact⟨[.pv hi.pv,.pv (pB true)],⟨rfl,rfl,trivial⟩,trivial,Y⟩
 ·rw[if_pos g]at Y;rw[e1,e2]at zy;have hgr:L3 [(mS (rz v c) c).pv,pI v.d.n] (.tup [.pv (uw (mS (rz v c) c) v.d.n).pv,.pv (pI 0)]):=⟨mS (rz v c) c,v.d.n,rfl,gS.1,by rw[e3,e4]⟩
  have iX:bk [(uw (mS (rz v c) c) v.d.n).d.pv] (pI v.d.n):=⟨_,rfl,gG.1.1.1,by rw[gn]⟩
  generalize uw (mS (rz v c) c) v.d.n=G at*;generalize mS (rz v c) c=h2 at*;rw[A6]at hcp Gw zy;generalize rz v c=hi at*
  (repeat'((conv=>whnf);first|refine⟨_,hC,?_⟩|refine⟨_,hcp,?_⟩|refine⟨_,Gw,?_⟩|refine⟨_,hap,?_⟩|refine⟨_,hCW,?_⟩|refine⟨_,zy,?_⟩|refine⟨_,hgr,?_⟩|refine⟨_,iX,?_⟩|refine ak rfl ?_|refine bu V ?_|refine bR ?_|refine ar V ?_|refine aY ?_|fail))
  exact⟨[.pv G.pv,.pv (pB true)],⟨rfl,rfl,trivial⟩,trivial,Y⟩
def kJ.aDW{w u:Vo}(S:kJ w u):kJ (aV w) (aV u):=by
 have hl:=S.len;refine⟨S6 S.g,S6 S.g',S.n,S.c,by show(w.st.l.map aS).length=(u.st.l.map aS).length;grind,λi a b ha I=>?_⟩;rw[show(aV w).st.l=w.st.l.map aS from rfl,zaD]at ha;rw[show(aV u).st.l=u.st.l.map aS from rfl,zaD]at I;cases T:w.st.l[i]? with
 |none=>grind
 |some x=>
  cases hy:u.st.l[i]? with
  |none=>grind
  |some y=>
   rw[T]at ha;rw[hy]at I;cases ha;cases I;exact(S.s i x y T hy).ait
def Sf{w:Vo}(hw:sS w){t:Sl Sp}(ht:UQ t.l):u4 [(aV w).pv,.sl 7 (t.l.map Sp.pv)] (.tup [.fresh 70 2 ((qe w t.l).map An.pv),.pv (aV (mP w t.l)).pv,.pv (pI 0)]):=by
 have hl:=ht.1;obtain⟨e1,e2,e3⟩:=azf (s:=t) hw.2 (arO ht);refine⟨_,.sl t.l,rfl,⟨JK hw.1,by show t.l.length<=_;omega,λx T=>by have:=(ht.2 x T).2;omega⟩,?_⟩
 grind
def aaJ{u S:Vo}(hx:kJ u S){t:Sl Sp}(ht:UQ t.l):∃(A B:List An) (X hK:Vo) (hr:Nat->Prop),
 u4 [(aV u).pv,.sl 7 (t.l.map Sp.pv)] (.tup [.fresh 70 2 (A.map An.pv),.pv (aV X).pv,.pv (pI 0)])/\
 u4 [(aV S).pv,.sl 7 (t.l.map Sp.pv)] (.tup [.fresh 70 2 (B.map An.pv),.pv (aV hK).pv,.pv (pI 0)])/\
 A.length=t.l.length/\B.length=t.l.length/\hr 0/\
 (∀(n:Nat) (x:Sp),t.l[n]?=some x->hr n→∃y z:An,A[n]?=some y/\B[n]?=some z/\(y.e=8\/z.e=8\/(y=z/\hr (n+1))))/\
 (hr t.l.length->kJ (aV X) (aV hK)):=by
 refine⟨_,_,_,_,λn=>kJ (mP u (t.l.take n)) (mP S (t.l.take n)),Sf hx.g ht,Sf hx.g' ht,IH u t.l,IH S t.l,hx,λn x h hr=>aoH h (ht.2 x (zag h)).1 hr,λhr=>?_⟩;have hr:kJ (mP u (t.l.take t.l.length)) (mP S (t.l.take t.l.length)):=hr;rw[List.take_length]at hr;exact hr.aDW
def ary{X hK:Vo}(S:kJ X hK){n:Nat}{a b:At}(ha:X.st.l[n]?=some a)(I:hK.st.l[n]?=some b):
 U2 X.d (aS a)=U2 hK.d (aS b)/\aI X.d (aS a)=0/\aI hK.d (aS b)=0:=by
 have o1:=(S.g.on ha).o;have o2:=(S.g'.on I).o;have c:=(S.s n a b ha I).c;rw[<-Pb]at o1 o2;refine⟨?_,o1,o2⟩;unfold U2;rw[if_pos o1,if_pos o2];exact c
def arA{w:Vo}{s:Sl Mv}(h:(WR w s).2.2=0):mbV w s=aV (WR w s).1:=by unfold mbV;grind
def kC(w0:Vo):(aV w0).pv=.agg [.str w0.d.aT,.str w0.d.mp,.sl 11 ((w0.st.l.map aS).map At.pv)]:=rfl
def ahr(ps:CK)(x:PV):Prop:=∃(v:Vo) (s t:Sl Sp) (c:Int),ps=[v.pv,.agg [vu s,vu t],pI c]/\x=pB true
def acF:MT (ao [(18,ah SZ),(19,dU T2),(20,dU XJ),(22,dz false uf),(21,dz true Hk),(24,dz true HR),(23,dz false u4),(25,dz false GH),(26,dz false yE),(27,ah Ej),(28,ah bk),(29,dU cf),(30,dz false aeR),(10,dz false uK),(31,dz true wW)]) vT (ah ahr):=by
 rintro _ K ⟨_,⟨v,s,t,c,rfl,rfl⟩,Y⟩;have haw:SZ [] (pB true):=⟨rfl,rfl⟩
 have hsm:T2 [v.pv] _:=⟨v,rfl,rfl⟩
 have wL:XJ [vu s] _:=⟨s,rfl,rfl⟩
 have tT:XJ [vu t] _:=⟨t,rfl,rfl⟩
 by_cases hf:smP v
 case neg=>
  (repeat'((conv=>whnf);first|refine⟨_,haw,?_⟩|refine⟨_,hsm,?_⟩|refine ar hf ?_|refine bR ?_|refine ec ?_|fail))
  exact pn
 by_cases hs:UQ s.l
 case neg=>
  (repeat'((conv=>whnf);first|refine⟨_,haw,?_⟩|refine⟨_,hsm,?_⟩|refine ak hf ?_|refine⟨_,wL,?_⟩|refine ar hs ?_|refine bR ?_|refine ec ?_|fail))
  exact pn
 by_cases ht:UQ t.l
 case neg=>
  (repeat'((conv=>whnf);first|refine⟨_,haw,?_⟩|refine⟨_,hsm,?_⟩|refine ak hf ?_|refine⟨_,wL,?_⟩|refine ak hs ?_|refine⟨_,tT,?_⟩|refine ar ht ?_|refine bR ?_|refine ec ?_|fail))
  exact pn
 obtain⟨I,J,hn⟩:=hf.b;have hC:uf [v.pv] _:=⟨v,rfl,⟨hn,J⟩,rfl⟩
 have FM:Hk [(aV v).pv] (.tup [.pv (pI (LC (aV v)).1),.pv (pI (Av (aV v)))]):=⟨aV v,rfl,JK I,rfl⟩
 rw[Px]at FM;generalize (LC (aV v)).1=I0 at*;by_cases he:Av v=0
 case neg=>
  rw[kC]at FM
  (repeat'((conv=>whnf);first|refine⟨_,haw,?_⟩|refine⟨_,hsm,?_⟩|refine ak hf ?_|refine⟨_,wL,?_⟩|refine ak hs ?_|refine⟨_,tT,?_⟩|refine ak ht ?_|refine⟨_,hC,?_⟩|refine⟨_,FM,?_⟩|refine ak he ?_|refine bR ?_|fail))
  exact pn
 rw[he]at FM;have hs8:=hs.1;have ht8:=ht.1;have hCs:HR [vu s] _:=⟨s,rfl,V,rfl⟩
 have hCt:HR [vu t] _:=⟨t,rfl,V,rfl⟩
 have fx:=Sf (w:=v) ⟨I,he⟩ hs;have hSG:sS (aV (mP v s.l)):=S6 (avD ⟨I,he⟩);generalize qe v s.l=A0 at*;rw[kC]at FM fx;generalize aV (mP v s.l)=S at*;have hSf:S.pv=.agg [.str S.d.aT,.str S.d.mp,ub S.st]:=rfl;have hCS:uf [S.pv] _:=⟨S,rfl,(rA hSG.1 hSG.2).N,rfl⟩
 have A6:(S.st.l.map aS).length=S.st.l.length:=zaw _
 (repeat'((conv=>whnf);first|refine⟨_,haw,?_⟩|refine⟨_,hsm,?_⟩|refine ak hf ?_|refine⟨_,wL,?_⟩|refine ak hs ?_|refine⟨_,tT,?_⟩|refine ak ht ?_|refine⟨_,hC,?_⟩|refine⟨_,FM,?_⟩|refine ar (λh=>h rfl) ?_|refine⟨_,hCs,?_⟩|refine⟨_,fx,?_⟩|refine⟨_,hCS,?_⟩|refine bR ?_|refine aY ?_|fail))
 refine⟨λm env Z=>∃(n:Nat) (w:Vo) (X:CK),(n+m=w.st.l.length/\kJ w S/\X.length=w.st.l.length/\w.pv=.agg [.str w.d.aT,.str w.d.mp,.sl 11 X])/\
  (Z=[.box 51 [.pv (vu s),.pv (vu t)],.box 49 [.pv (.str S.d.aT),.pv (.str S.d.mp),.pv (ub S.st)],.box 49 [.pv (.str w.d.aT),.pv (.str w.d.mp),.own 3],.row 31 11 true X]\/
   Z=[.box 51 [.pv (vu s),.pv (vu t)],.box 49 [.pv (.str S.d.aT),.pv (.str S.d.mp),.pv (ub S.st)],.box 49 [.pv (.str w.d.aT),.pv (.str w.d.mp),.own 3],.fz (.sl 11 X)]\/
   Z=[.box 51 [.pv (vu s),.pv (vu t)],.box 49 [.pv (.str S.d.aT),.pv (.str S.d.mp),.pv (ub S.st)],.box 49 [.pv (.str w.d.aT),.pv (.str w.d.mp),.pv (.sl 11 X)]])/\
  env=[eN 2 c,(4,.ref 0 0 0),(10,.ref 1 0 0),(12,.ref 2 0 0),eN 13 n],S.st.l.length,
  ⟨0,aV S,(S.st.l.map aS).map At.pv,⟨by show 0+_=(S.st.l.map aS).length;omega,(kJ.refl hSG).own,vL,kC S⟩,.inl rfl,rfl⟩,?_⟩
 rintro m env Z ⟨n,w,X,⟨hnm,hx,hXl,hX⟩,hσ,rfl⟩;have hwn:=hx.n;have aIv:=(df (bL.1 hx.g.2).1).2.1;have hCw:uf [w.pv] _:=⟨w,rfl,(rA hx.g.1 hx.g.2).N,rfl⟩
 by_cases aM:n<w.st.l.length
 ·have pQ:GH [(aV w).pv,pI n] (.tup [.pv (.sl 4 ((Zj (aV w) n).map Mv.pv)),.pv (pI (ZV (aV w) n))]):=⟨aV w,n,rfl,JK hx.g.1,rfl⟩
  rw[hX]at hCw;by_cases ho:ZV (aV w) n=0
  case neg=>
   rw[kC]at pQ;generalize Zj (aV w) n=L at*;rcases hσ with rfl|rfl|rfl
   ·(repeat'((conv=>whnf);first|refine ak V ?_|refine⟨_,hCw,?_⟩|refine⟨_,pQ,?_⟩|refine bu V ?_|refine cT λ_=>?_|fail))
    exact⟨m-1,V,n+1,w,X,⟨V,hx,hXl,hX⟩,.inr (.inl rfl),rfl⟩
   ·(repeat'((conv=>whnf);first|refine ak V ?_|refine⟨_,hCw,?_⟩|refine⟨_,pQ,?_⟩|refine bu V ?_|refine cT λ_=>?_|fail))
    exact⟨m-1,V,n+1,w,X,⟨V,hx,hXl,hX⟩,.inr (.inl rfl),rfl⟩
   ·(repeat'((conv=>whnf);first|refine ak V ?_|refine⟨_,hCw,?_⟩|refine⟨_,pQ,?_⟩|refine bu V ?_|refine cT λ_=>?_|fail))
    exact⟨m-1,V,n+1,w,X,⟨V,hx,hXl,hX⟩,.inr (.inr rfl),rfl⟩
  obtain⟨q1,q2,h1⟩:=asw hx.own (i:=n) (by show n<(w.st.l.map aS).length;rw[zaw];exact aM) ho;rw[ho]at pQ;have Gw:yE [(aV w).pv,.sl 4 ((Zj (aV w) n).map Mv.pv)] (.tup [.pv (mbV (aV w) (.sl (Zj (aV w) n))).pv,.pv (pI 0)]):=⟨aV w,.sl (Zj (aV w) n),rfl,⟨JK hx.g.1,by show(Zj (aV w) n).length<=_;omega⟩,by rw[q2]⟩
  have hap:Ej [(mbV (aV w) (.sl (Zj (aV w) n))).pv] _:=⟨mbV (aV w) (.sl (Zj (aV w) n)),rfl,h1.g,rfl⟩
  have VF:=h1.len;have htl:=hx.len;rw[arA q2]at Gw hap h1 VF;rw[kC w]at pQ Gw;rw[kC]at Gw hap;generalize (WR (aV w) (.sl (Zj (aV w) n))).1=σ at*;have hzl:(σ.st.l.map aS).length=w.st.l.length:=VF.trans htl.symm;have hzm:((σ.st.l.map aS).map At.pv).length=w.st.l.length:=by rw[zaw];exact hzl
  generalize Zj (aV w) n=L at*;rcases hσ with rfl|rfl|rfl
  all_goals
   (repeat'((conv=>whnf);first|refine ak V ?_|refine⟨_,hCw,?_⟩|refine⟨_,pQ,?_⟩|refine ar (λh=>h rfl) ?_|refine⟨_,Gw,?_⟩|refine⟨_,hap,?_⟩|refine bu V ?_|refine bR ?_|refine cT λ_=>?_|refine aY ?_|fail))
   exact⟨m-1,V,n+1,aV σ,(σ.st.l.map aS).map At.pv,⟨by show n+1+(m-1)=(σ.st.l.map aS).length;omega,h1,vL,kC σ⟩,.inr (.inr rfl),rfl⟩
 have iX:bk [w.d.pv] (pI w.d.n):=⟨w.d,rfl,hx.g.1.1.1,rfl⟩
 have hwi:cf [pI c,pI 1,pI ((w.d.n:Int)-1)] (1<=c/\c<=(w.d.n:Int)-1):=⟨c,1,(w.d.n:Int)-1,rfl,rfl⟩
 by_cases F:1<=c/\c<=(w.d.n:Int)-1
 case' pos=>
  obtain⟨k,rfl⟩:∃k:Nat,c=k:=⟨c.toNat,V⟩
  have h1:=aot hx (c:=k) V V;have PG:aeR [w.pv,pI k,pI w.d.n] _:=⟨w,k,rfl,⟨hx.g,V,V⟩,rfl⟩
  rw[hX]at PG;generalize aoX w k=u at*;have hCu:uf [u.pv] _:=⟨u,rfl,(rA h1.g.1 h1.g.2).N,rfl⟩
  obtain⟨A,B,X1,Y1,hr,hA,hB,hAl,hBl,J0,JS,JE⟩:=aaJ h1 ht;have hAm:(A.map An.pv).length=A.length:=zaw _;have hBm:(B.map An.pv).length=B.length:=zaw _;rw[kC,kC]at hA hB;rcases hσ with rfl|rfl|rfl
  all_goals
   (repeat'((conv=>whnf);first|refine ar V ?_|refine⟨_,iX,?_⟩|refine⟨_,hwi,?_⟩|refine ak F ?_|refine⟨_,PG,?_⟩|refine⟨_,hCu,?_⟩|refine⟨_,hCt,?_⟩|refine⟨_,hA,?_⟩|refine⟨_,hCS,?_⟩|refine⟨_,hB,?_⟩|refine tD ?_|refine bu V ?_|refine bR ?_|refine cT λ_=>?_|refine aY ?_|fail))
 case' neg=>
  obtain⟨A,B,X1,Y1,hr,hA,hB,hAl,hBl,J0,JS,JE⟩:=aaJ hx ht;have hAm:(A.map An.pv).length=A.length:=zaw _;have hBm:(B.map An.pv).length=B.length:=zaw _;rw[kC,kC]at hA hB;rw[hX]at hCw;rcases hσ with rfl|rfl|rfl
  all_goals
   (repeat'((conv=>whnf);first|refine ar V ?_|refine⟨_,iX,?_⟩|refine⟨_,hwi,?_⟩|refine⟨_,hCw,?_⟩|refine⟨_,hCt,?_⟩|refine⟨_,hA,?_⟩|refine⟨_,hCS,?_⟩|refine⟨_,hB,?_⟩|refine tD ?_|refine bu V ?_|refine cT λ_=>?_|refine aY ?_|fail))
 all_goals
  refine⟨λq env Z=>∃i:Nat,(i+q=t.l.length/\hr i)/\Z=[.row 70 2 true (A.map An.pv),.box 49 [.pv (.str X1.d.aT),.pv (.str X1.d.mp),.pv (.sl 11 ((X1.st.l.map aS).map At.pv))],.row 70 2 true (B.map An.pv),.box 49 [.pv (.str Y1.d.aT),.pv (.str Y1.d.mp),.pv (.sl 11 ((Y1.st.l.map aS).map At.pv))]]/\
   env=[(21,.own 0),(22,.ref 1 0 0),(24,.own 2),(25,.ref 3 0 0),eN 27 i],t.l.length,⟨0,⟨V,J0⟩,rfl,rfl⟩,?_⟩
  rintro q env Z ⟨i,⟨hiq,hJ⟩,rfl,rfl⟩;by_cases W:i<t.l.length
  ·obtain⟨x,T⟩:∃x,t.l[i]?=some x:=⟨_,zah W⟩
   obtain⟨y,z,hy,hz,hyz⟩:=JS i x T hJ;have hgy:=nH (f:=An.pv) hy;have hgz:=nH (f:=An.pv) hz;have hny:=(zaa.1 hy).1;have hnz:=(zaa.1 hz).1;by_cases hy8:y.e=8
   ·(repeat'((conv=>whnf);first|refine ak V ?_|refine zcv ⟨V,V⟩ ?_|refine⟨_,hgy,?_⟩|refine cT λ_=>?_|fail))
    exact pn
   by_cases hz8:z.e=8
   ·(repeat'((conv=>whnf);first|refine ak V ?_|refine zcv ⟨V,V⟩ ?_|refine⟨_,hgy,?_⟩|refine ar hy8 ?_|refine⟨_,hgz,?_⟩|refine cT λ_=>?_|fail))
    exact pn
   obtain⟨hyz,hJ2⟩:=(hyz.resolve_left hy8).resolve_left hz8;subst hyz
   (repeat'((conv=>whnf);first|refine ak V ?_|refine zcv ⟨V,V⟩ ?_|refine⟨_,hgy,?_⟩|refine ar hy8 ?_|refine⟨_,hgz,?_⟩|refine ar (λh=>h rfl) ?_|refine bu V ?_|refine cT λ_=>?_|refine aY ?_|fail))
   exact⟨q-1,V,i+1,⟨V,hJ2⟩,rfl,rfl⟩
  have S2:=JE (by have e:i=t.l.length:=by omega
                  rw[<-e];exact hJ)
  have hXl:(X1.st.l.map aS).length=(Y1.st.l.map aS).length:=S2.len;have hXm:((X1.st.l.map aS).map At.pv).length=(X1.st.l.map aS).length:=zaw _;have hYm:((Y1.st.l.map aS).map At.pv).length=(Y1.st.l.map aS).length:=zaw _;have hap:Ej [(aV X1).pv] _:=⟨aV X1,rfl,S2.g,rfl⟩
  rw[kC]at hap;have hcg:∀(n:Nat) (a b:At),(X1.st.l.map aS)[n]?=some a->(Y1.st.l.map aS)[n]?=some b->U2 X1.d (aS a)=U2 Y1.d (aS b)/\aI X1.d (aS a)=0/\aI Y1.d (aS b)=0:=λn a b ha I=>ary S2 ha I
  have hrx:=λ(a:At) (ha:a∈X1.st.l.map aS)=>zcv (S2.g.rn a ha) (S2.g.1.2.1 a ha)
  have hry:=λ(a:At) (ha:a∈Y1.st.l.map aS)=>zcv (S2.g'.rn a ha) (S2.g'.1.2.1 a ha)
  have hdx:dkB X1.d:=S2.g.1.1;have hdy:dkB Y1.d:=S2.g'.1.1;generalize X1.st.l.map aS=XL at*;generalize Y1.st.l.map aS=YL at*
  (repeat'((conv=>whnf);first|refine ar V ?_|refine cT λ_=>?_|fail))
  refine⟨λq env Z=>∃i:Nat,i+q=XL.length/\Z=[.box 49 [.pv (.str X1.d.aT),.pv (.str X1.d.mp),.pv (.sl 11 (XL.map At.pv))],.box 49 [.pv (.str Y1.d.aT),.pv (.str Y1.d.mp),.pv (.sl 11 (YL.map At.pv))]]/\
   env=[(22,.ref 0 0 0),(25,.ref 1 0 0),eN 28 i],XL.length,⟨0,V,rfl,rfl⟩,?_⟩
  rintro q2 env Z ⟨j,hjq,rfl,rfl⟩;by_cases hj:j<XL.length
  ·obtain⟨a,ha⟩:∃a,XL[j]?=some a:=⟨_,zah hj⟩
   obtain⟨b,I⟩:∃b,YL[j]?=some b:=⟨_,zah V⟩
   have hga:=nH (f:=At.pv) ha;have hgb:=nH (f:=At.pv) I;obtain⟨c1,c2,c3⟩:=hcg j a b ha I;obtain⟨n1,n2⟩:=hrx a (zag ha);obtain⟨n3,n4⟩:=hry b (zag I);have aGt:uK [a.pv] _:=⟨a,rfl,n1,rfl⟩
   have aGu:uK [b.pv] _:=⟨b,rfl,n3,rfl⟩
   have hca:wW [X1.d.pv,(aS a).pv] (.tup [.pv (.str (U2 X1.d (aS a))),.pv (pI 0)]):=⟨X1.d,aS a,rfl,⟨hdx,n2⟩,by rw[c2]⟩
   have hcb:wW [Y1.d.pv,(aS b).pv] (.tup [.pv (.str (U2 Y1.d (aS b))),.pv (pI 0)]):=⟨Y1.d,aS b,rfl,⟨hdy,n4⟩,by rw[c3]⟩
   rw[c1]at hca;generalize U2 Y1.d (aS b)=C at*
   (repeat'((conv=>whnf);first|refine ak V ?_|refine⟨_,⟨V,hga⟩,?_⟩|refine⟨_,aGt,?_⟩|refine⟨_,hca,?_⟩|refine⟨_,⟨V,hgb⟩,?_⟩|refine⟨_,aGu,?_⟩|refine⟨_,hcb,?_⟩|refine ar (λh=>h rfl) ?_|refine bu V ?_|refine cT λ_=>?_|refine aY ?_|fail))
   exact⟨q2-1,V,j+1,V,rfl,rfl⟩
  ·(repeat'((conv=>whnf);first|refine ar V ?_|refine⟨_,hap,?_⟩|refine ak V ?_|refine cT λ_=>?_|fail))
   exact pn
end Go.Dv.Try
namespace Go.Dv.Try
open Go Go.Dv Go.Deep
abbrev aDq:Bool×XE:=(true,[.sl true [.int .i64,.int .i64,.int .i64,.int .i64,.str,.int .i64,.int .i64],.sl true [.int .i64,.int .i64,.int .i64,.int .i64,.str,.int .i64,.int .i64]])
def ajm:∀xs,M_ [cVo,aDq,cIn] xs->(ah ahr).run xs λr=>r=.pv (.bool true):=λxs h=>by
 simp only[M_]at h;obtain⟨y,_,rfl,U,_,u,_,rfl,H,_,z,_,rfl,_,h3,rfl⟩:=h;obtain⟨v,rfl⟩:=awZ (U trivial);obtain⟨c,rfl,_⟩:=asL (h3 trivial);obtain⟨zs,rfl,h6⟩:=H trivial;simp only[jO]at h6;obtain⟨_,_,rfl,h4,_,_,rfl,h5,rfl⟩:=h6;simp only[Fb]at h4 h5;obtain⟨e1,rfl,_,g1⟩:=h4;obtain⟨e2,rfl,_,g2⟩:=h5;obtain⟨l1,rfl,_⟩:=Pu (g:=Sp.pv) (q:=λ_=>True) λz hz=>by
  obtain⟨a,ha⟩:=anr ((g1 z hz).1 trivial);exact⟨a,ha,trivial⟩
 obtain⟨l2,rfl,_⟩:=Pu (g:=Sp.pv) (q:=λ_=>True) λz hz=>by
  obtain⟨a,ha⟩:=anr ((g2 z hz).1 trivial);exact⟨a,ha,trivial⟩
 exact⟨_,⟨v,.sl l1,.sl l2,c,rfl,rfl⟩,rfl⟩
end Go.Dv.Try
namespace Go.Dv.Try
open Go Go.Dv
def mK:=Jm.snd aD BK
def nv:=OH.snd (by exact⟨mK,trivial⟩) Fq
def dS:=Ld.snd (by exact⟨nv,trivial⟩) C_
def fG:=GR.snd (by exact⟨dS,trivial⟩) z_
def mG:=Jd.snd aD B_
def dA:=IN.snd aD BM
def ia:=KS.snd aD Dw
def bC:=Kr.snd aD B7
def bS:=N4.snd (by exact⟨bC,trivial⟩) FH
def eC:=Dj.snd (by exact⟨fG,trivial⟩) yc
def jq:=BY.snd (by exact⟨eC,trivial⟩) wI
def iy:=yN.snd aD uz
def oB:=Oz.snd aD ae9
def yz:=N1.snd (by exact⟨oB,trivial⟩) afE
def sH:=BW.wC aD akj
def ni:=BU.snd (by exact⟨bC,dS,oB,trivial⟩) LJ
def qc:=E3.snd (by exact⟨bC,dA,ia,mG,fG,bS,trivial⟩) Q0
def lX:=AX.snd (by exact⟨qc,bS,trivial⟩) Jf
def pU:=FE.snd (by exact⟨bC,trivial⟩) R_
def kX:=IM.snd aD XO
def uo:=Ik.snd (by exact⟨kX,dA,trivial⟩) YR
def sZ:=Ic.snd (by exact⟨dS,kX,bS,lX,trivial⟩) ZJ
def BX:=ZP.snd aD ac0
def jk:=Fh.snd aD Qx
def o_:=Ba.snd aD E5
def cX:=NK.snd aD Fg
def qv:=UK.snd aD afY
def jT:=Dm.snd (by exact⟨o_,qv,cX,trivial⟩) H9
def iD:=Ba.snd aD Vj
def nV:=Ve.snd aD Vq
def iZ:=Hp.snd aD apt
def kO:=Vv.snd (by exact⟨jT,trivial⟩) aeM
def eZ:=vD.snd (by exact⟨iZ,trivial⟩) Ln
def sO:=Ds.snd (by exact⟨eZ,trivial⟩) agm
def ig:=zC.snd (by exact⟨sO,eZ,trivial⟩) UT
def je:bQ prg 180 vO:=Qt.sound mixed Ep akg (by rintro _ _ ⟨_,_,rfl,_⟩;rfl) Xz
def jy:=S9.snd (by exact⟨kO,je,cX,iD,iZ,trivial⟩) aaX
def om:=Te.snd (by exact⟨iD,qv,trivial⟩) aa5
def qd:=Hz.snd (by exact⟨om,trivial⟩) Oo
def nJ:=ya.snd aD ZM
def xT:=OC.snd aD ade
def kv:=JX.snd (by exact⟨xT,trivial⟩) UL
def Hi:=X7.snd aD al9
def qx:=UU.snd aD aeF
def gq:=Cq.snd (by exact⟨Hi,kv,qx,trivial⟩) aeu
def gE:=jv.wC aD aev
def iA:=kB.wC (by exact⟨gE,trivial⟩) ala
def fM:=iz.wC (by exact⟨gq,trivial⟩) akC
def uy:=Lj.snd (by exact⟨kO,je,cX,iD,trivial⟩) UE
def dR:=zG.snd aD Vx
def dP:=cm.snd (by exact⟨dR,trivial⟩) X5
def dM:=cg.wC (by exact⟨dP,dR,trivial⟩) Yn
def tc:=Da.snd (by exact⟨ig,dM,dR,trivial⟩) af3
def sR:=D6.snd (by exact⟨tc,qx,trivial⟩) ae5
def gW:=JR.snd aD fa
def AI:=U6.snd aD IE
def dL:=Ha.snd aD gH
def xZ:=PT.snd aD Hq
def fS:=Vp.snd aD JB
def kx:=Hx.snd aD pe
def ju:=Vg.snd aD JN
def dY:=Uy.snd aD Y0
def tX:=NG.snd (by exact⟨dY,ju,fS,trivial⟩) Tp
def qE:=Zw.snd (by exact⟨dY,trivial⟩) aah
def na:=KU.wC (by exact⟨dY,trivial⟩) agp
def fT:=U_.snd aD YJ
def nZ:=K4.snd (by exact⟨tX,qE,na,fT,fS,trivial⟩) NU
def H6:=aeK.snd aD akP
def zB:=Vk.snd (by exact⟨ju,trivial⟩) Yk
def yt:=Vc.snd aD Xx
def iE:=QU.snd (by exact⟨nZ,trivial⟩) UZ
def qi:=Jq.snd (by exact⟨iE,dY,zB,yt,trivial⟩) LB
def jM:=oT.snd aD Ml
def q8:=EZ.snd (by exact⟨jM,trivial⟩) Ox
def gL:=CH.snd aD Kc
def oE:=yx.snd (by exact⟨dL,gW,trivial⟩) Yv
def yj:=Oy.wC aD agz
def uk:=Mu.snd aD Vw
def qU:=Fl.snd aD Va
def tY:=E0.snd (by exact⟨qi,uk,qU,yj,gL,trivial⟩) Vz
def bx:=Tx.snd aD GW
def bg:=N7.snd aD Fu
def mA:=OI.snd aD FA
def da:=N6.snd aD Fw
def cN:=Fc.snd aD zP
def mw:=Og.snd aD Ff
def dF:=Ia.snd (by exact⟨mA,trivial⟩) B8
def g_:=xQ.snd aD B1
def bE:=sF.snd aD wo
def dT:=zq.snd aD CG
def iP:=AG.snd (by exact⟨dT,trivial⟩) Fa
def im:=Vn.snd (by exact⟨da,trivial⟩) Ij
def eF:=Fx.snd (by exact⟨da,trivial⟩) Mz
def lx:=Fp.snd aD K0
def jE:=BJ.snd aD GQ
def iO:=BS.snd aD Dd
def q9:=DY.snd aD EW
def fH:=JC.snd aD BI
def wu:=NL.snd (by exact⟨da,trivial⟩) FB
def iN:=Ab.snd aD Xq
def lu:=wD.snd (by exact⟨iN,trivial⟩) Ol
def eh:=td.snd aD GJ
def l9:=vB.snd (by exact⟨eh,trivial⟩) UX
def jR:=r8.snd (by exact⟨l9,trivial⟩) MB
def jB:=PX.snd (by exact⟨cN,jy,trivial⟩) acn
def jz:=Qw.snd (by exact⟨qd,trivial⟩) aaQ
def lO:=wy.snd (by exact⟨cN,jR,eh,da,jy,trivial⟩) N8
def jh:=GS.snd (by exact⟨bg,cN,jT,bx,trivial⟩) N0
def iR:=zY.snd aD ZL
def wv:=Fj.snd (by exact⟨eF,iO,lx,trivial⟩) apZ
def wE:=Fi.snd (by exact⟨eF,iO,lx,trivial⟩) anu
def x_:=GM.snd (by exact⟨eF,q9,trivial⟩) aoy
def bU:=gK.snd aD Zb
def kL:=um.snd (by exact⟨nJ,trivial⟩) Lc
def nE:=yW.snd (by exact⟨cN,mA,bg,bx,jB,im,kL,trivial⟩) U5
def AS:=Oe.wC (by exact⟨qE,trivial⟩) ajx
def sL:=Hw.wC (by exact⟨AS,trivial⟩) XB
def qF:=Zp.snd aD KZ
def x4:=Mn.wC (by exact⟨na,fS,fT,qF,trivial⟩) agl
def EX:=adC.snd (by exact⟨dY,trivial⟩) afM
def DQ:=ada.snd (by exact⟨sL,x4,trivial⟩) adf
def sn:=La.snd (by exact⟨iE,ju,fS,fT,qF,trivial⟩) Of
def uB:=NO.snd (by exact⟨iE,fT,sn,EX,DQ,trivial⟩) To
def rS:=NY.snd aD LG
def jj:=Cy.snd (by exact⟨rS,trivial⟩) Vm
def cq:=VA.snd aD Kw
def bo:=SB.snd aD GC
def bY:=TI.snd aD Hu
def cd:=LR.snd aD DF
def x8:=Q9.snd (by exact⟨cd,bY,trivial⟩) Xr
def qJ:=Zu.snd (by exact⟨cd,jy,trivial⟩) LD
def pg:=UI.wC aD adz
def oX:=BZ.snd (by exact⟨qJ,pg,trivial⟩) ZK
def tu:=aae.snd aD aeQ
def oK:=B3.snd aD Rm
def oh:=KX.snd aD SR
def ku:=Cl.snd (by exact⟨bY,trivial⟩) GF
def kG:=EY.snd (by exact⟨oX,oh,ku,trivial⟩) ac9
def bp:=ei.snd aD YC
def kE:=E8.snd (by exact⟨bp,trivial⟩) aaz
def hH:=G8.snd (by exact⟨bp,bU,trivial⟩) ae7
def lq:=Fs.snd (by exact⟨bY,bo,trivial⟩) akF
def jc:=l8.snd (by exact⟨lq,trivial⟩) acM
def vv:=Fy.wC aD aj8
def uv:=Mo.snd (by exact⟨kO,om,iZ,vv,trivial⟩) Tr
def fp:=yC.snd aD ajL
def dO:=cm.snd (by exact⟨fp,trivial⟩) Yp
def dI:=cg.wC (by exact⟨dO,fp,trivial⟩) Vf
def fW:=Lx.snd (by exact⟨kv,trivial⟩) ajS
def eG:=f_.snd (by exact⟨fW,trivial⟩) agt
def AK:=XH.snd aD YQ
def Af:=UP.snd (by exact⟨AK,H6,trivial⟩) abB
def pX:=B6.snd (by exact⟨jj,trivial⟩) Yf
def qo:=Yt.snd (by exact⟨pX,trivial⟩) acO
def uA:=Kl.snd aD Y4
def jG:=KV.snd aD Lt
def eK:=gD.snd aD aau
def ej:=fZ.snd (by exact⟨fW,trivial⟩) ZE
def wh:=Li.snd aD Xw
def ur:=Ft.snd (by exact⟨nV,trivial⟩) aeT
def mB:=Le.snd (by exact⟨Af,trivial⟩) adB
def c_:bQ prg 316 r9:=XF (zm eC (zm jq Ep))
def ij:bQ prg 174 (ah vW):=ak2
def fe:bQ prg 268 (lZ wX):=Zh
def nB:bQ prg 231 (lZ RY):=ajM
def jl:bQ prg 321 (ah n_):=XG
def gy:bQ prg 255 ES:=aez Ep
def gR:bQ prg 310 (lZ X8):=awO gq iA 100000
def lr:bQ prg 245 (dz true Pn):=anW
def gu:bQ prg 206 AP:=adG Ep
def gZ:=yV.snd (by exact⟨c_,trivial⟩) Vu
def mF:=yb.snd (by exact⟨gZ,c_,trivial⟩) Sw
def nK:=yH.snd (by exact⟨gZ,c_,trivial⟩) Uu
def sM:=D5.snd (by exact⟨mF,trivial⟩) afO
def qY:=BO.snd (by exact⟨sM,trivial⟩) abe
def nM:=yp.snd (by exact⟨qY,iy,nK,bS,trivial⟩) UW
def kM:=uc.wC (by exact⟨fe,trivial⟩) Ot
def jw:=sx.wC (by exact⟨fe,trivial⟩) Jv
def wB:=Ma.snd (by exact⟨bC,ni,bS,kM,jw,sH,nB,yz,trivial⟩) abm
def mz:=KT.snd (by exact⟨ij,trivial⟩) adl
def qb:=E9.snd (by exact⟨mz,nM,wB,jk,trivial⟩) QC
def ji:=BP.snd (by exact⟨mz,uo,dA,ia,sZ,pU,jk,trivial⟩) LU
def iv:=kr.wC (by exact⟨fM,gR,trivial⟩) akR
def du:=eP.wC (by exact⟨iv,trivial⟩) Yu
def pW:=Ak.snd (by exact⟨gy,trivial⟩) abG
def oC:=wb.snd (by exact⟨gy,trivial⟩) Ow
def pZ:=Ch.snd (by exact⟨oC,trivial⟩) UM
def ri:=Ke.snd (by exact⟨uy,sR,ig,du,gq,je,cX,trivial⟩) Oh
def pj:=FF.snd (by exact⟨jl,trivial⟩) OD
def sX:=Fe.snd (by exact⟨pj,trivial⟩) Kq
def qh:=E7.snd (by exact⟨sX,trivial⟩) Kv
def jX:=tf.snd (by exact⟨qh,trivial⟩) Md
def iF:=qf.snd (by exact⟨jX,trivial⟩) E6
def s9:=L_.snd (by exact⟨iF,trivial⟩) R4
def vg:=NQ.snd (by exact⟨s9,q8,trivial⟩) Vd
def vF:=Kn.snd (by exact⟨xZ,vg,AI,trivial⟩) OF
def s8:=GU.snd (by exact⟨lr,trivial⟩) ZF
def qg:=FG.snd (by exact⟨vF,dL,trivial⟩) PR
def rh:=DX.snd (by exact⟨lr,dL,gW,kx,nZ,gL,trivial⟩) YW
def cw:=vm.snd (by exact⟨s8,dL,qg,kx,gW,oE,rh,tY,trivial⟩) DB
def fC:=Q6.snd (by exact⟨ij,trivial⟩) Ho
def eV:=Oc.snd (by exact⟨fC,trivial⟩) E1
def fi:=B4.snd (by exact⟨pW,pZ,trivial⟩) aas
def qT:=B5.snd (by exact⟨eV,trivial⟩) abc
def bH:=yh.snd (by exact⟨bE,fi,iP,ji,qT,fC,dT,trivial⟩) UO
def mD:=xL.snd (by exact⟨im,bE,mw,fi,iN,g_,bg,trivial⟩) TQ
def pY:=GD.snd (by exact⟨cw,bg,bx,trivial⟩) OE
def mE:=xR.snd (by exact⟨fi,iP,ji,im,fC,trivial⟩) T4
def cu:=Vl.snd (by exact⟨jh,pY,bx,fH,lO,mD,bE,mE,trivial⟩) aar
def mN:=C6.snd (by exact⟨cu,trivial⟩) Km
def p_:=Hy.snd (by exact⟨cu,bH,trivial⟩) NS
def wq:=OJ.snd (by exact⟨cu,dF,bg,bx,bH,trivial⟩) XX
def oY:=Al.snd (by exact⟨bE,eV,qb,mw,g_,wv,wE,x_,trivial⟩) YT
def oV:=AU.wC (by exact⟨eF,da,lu,jz,ri,fH,trivial⟩) XY
def ky:=DG.snd (by exact⟨oY,jB,oV,wu,im,cw,jz,trivial⟩) agk
def hZ:=yU.snd (by exact⟨iR,ky,trivial⟩) U4
def ud:=K8.snd (by exact⟨cu,dF,bg,bx,bU,bH,eV,jE,hZ,trivial⟩) UG
def tW:=Lq.snd (by exact⟨cu,dF,bg,bx,bH,eV,jE,hZ,trivial⟩) NN
def wA:=Oq.snd (by exact⟨cu,dF,bg,bx,bH,fC,iR,ky,trivial⟩) Rb
def wF:=NV.snd (by exact⟨cw,bg,bx,fH,da,trivial⟩) ZA
def nW:=SS.snd (by exact⟨cu,nE,uB,cw,jB,dT,jz,trivial⟩) aak
def jA:=AM.wC (by exact⟨mN,pg,bo,trivial⟩) aeO
def ja:=mc.wC (by exact⟨jA,trivial⟩) abY
def gF:=Fm.snd (by exact⟨jh,bo,cq,qJ,jA,ja,trivial⟩) JQ
def fc:=Za.snd (by exact⟨gF,trivial⟩) Lr
def sI:=Hl.snd (by exact⟨fc,bY,bo,cq,trivial⟩) Lu
def uW:=L6.snd (by exact⟨fc,x8,bo,cq,trivial⟩) Qm
def rf:=C8.snd (by exact⟨bY,nW,kE,trivial⟩) Zy
def kU:=Dh.wC (by exact⟨rf,trivial⟩) akS
def iY:=l_.wC (by exact⟨kU,trivial⟩) aai
def mR:=Jy.snd (by exact⟨kU,iY,trivial⟩) ajW
def ko:=E4.snd (by exact⟨mR,bo,cq,trivial⟩) ab6
def ug:=K1.snd (by exact⟨fc,mR,bo,cq,trivial⟩) Tk
def lN:=NH.snd (by exact⟨ug,hH,trivial⟩) Vr
def sW:=Fk.snd (by exact⟨bY,wq,ud,tW,wA,nW,kE,trivial⟩) acG
def ta:=Mq.snd (by exact⟨fc,bo,cq,lq,jc,sW,hH,trivial⟩) Qg
def lB:=Oi.snd (by exact⟨fc,bY,bo,cq,hH,cd,uv,ij,trivial⟩) Vy
def kq:=LN.snd (by exact⟨cd,lB,trivial⟩) SU
def uR:=N2.snd (by exact⟨cd,lB,trivial⟩) Uv
def pK:=Dc.snd (by exact⟨sI,oK,tu,oh,kG,fp,dI,fW,eG,wF,ko,trivial⟩) QO
def qa:=Ca.snd (by exact⟨gu,trivial⟩) UN
def lL:=JU.snd (by exact⟨uW,kG,ku,qa,gu,tu,eK,ej,fW,ko,trivial⟩) NP
def uZ:=Mt.snd (by exact⟨BX,gF,lL,kq,trivial⟩) Zo
def AW:=QQ.snd (by exact⟨qo,lL,lN,mB,kq,uR,jG,trivial⟩) aeD
def ua:=GX.snd (by exact⟨uZ,wh,ur,qo,gF,uA,ta,pK,lN,mB,jG,nV,AW,jj,p_,trivial⟩) acF
end Go.Dv.Try
end
