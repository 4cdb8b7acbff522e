/- Own work: parts of the proof, shortened and laid together by a tool of our own. -/
import Derived.Test.YtmdfbbcifbgdnaaGreatP3
import Derived.KernelRfl
set_option linter.defProp false
set_option linter.unusedSimpArgs false
set_option linter.unusedVariables false
open List renaming getElem?_eq_getElem→zah, mem_of_getElem?→zag, length_map→zaw, take_of_length_le→za1, getElem?_map→za9, length_append→zad, take_add_one→zck, mem_singleton→zcS, map_append→zbs, getElem?_eq_some_iff→zaa, getElem?_eq_none→zaK, mem_append→zaA, length_set→za0, length_cons→zam, getElem?_append_right→zak, length_take→zal, eq_nil_or_concat→zcT, concat_eq_append→zcU, append_assoc→zaj, ext_getElem?→zba, take_length→zcV, pairwise_iff_getElem→zcW, mem_range→zbm, mem_map→zaX, mem_flatMap→zbA, drop_of_length_le→zcX, nil_append→zaZ, set_append_right→zcY, mem_of_mem_take→zaL, flatMap_cons→zao, getElem?_range→zbz, mem_iff_getElem?→zaE, getElem?_append_left→zar, pairwise_flatMap→zcZ, foldl_append→zc0, getElem?_set→zaS, map_set→zc1, getElem?_take_of_lt→zch, flatMap_def→zc2, mem_cons→zax, getElem?_drop→zaB, getElem?_set_self→zcm, mem_range'_1→zc4, mem_of_getLast?→zc5, dropLast_concat→zc6, map_drop→zc7, length_pos_iff→zb8, flatMap_append→zaz, map_congr_left→zbC, append_nil→zbf, foldl_cons→zbg, drop_eq_getElem_cons→zb3, mem_or_eq_of_mem_set→zc8, getLast?_singleton→zc9, map_cons→zau, mem_flatten→zda, flatMap_map→zdb, length_singleton→zbM, length_nil→zaY, getLast?_eq_some_getLast→zdd, drop_zero→zde, dropLast_concat_getLast→zdf, map_take→zdg, cons_append→zbd, map_nil→zdh, getElem_mem→zcN, range_succ→zdj, nodup_cons→zdk, drop_eq_nil_of_le→zb1, getElem?_dropLast→zdl, flatMap_singleton→zdm, take_append_drop→zaD, dropLast_subset→zdn, getElem?_set_ne→zct, mem_of_mem_drop→zbw, length_dropLast→zdo, getLast?_concat→zdp, getLast?_append→zdq, sum_cons→zdr, map_replicate→zci, length_range'→zds, pairwise_map→zdt, nodup_append→zcc, take_append→zdu, drop_append→zdv, all_eq_true→zbp, not_mem_nil→zcp, getElem_set→zdw, drop_take→zdy
open And renaming intro→zcd
open Int renaming toNat_natCast→zaC, natCast_add→zdc
open Decidable renaming not_not→zb2
open Option renaming getD_some→zbx, toList_some→zc3, map_some→zbJ, or_some→zdz, some_or→zdA
open Nat renaming le_refl→zai, lt_or_eq_of_le→zcb, le_of_lt_succ→zcl, sub_self→zcH, mul_comm→zdi, lt_trichotomy→zbE
open Bool renaming false_eq_true→zbZ, not_eq_true'→zbr, and_eq_true→zaU, eq_iff_iff→zaN, or_eq_true→zbB
open UInt8 renaming toNat_inj→zdx
namespace Go.Dv.Try
open Go Go.Dv
def ash{A bs:List UInt8}{z g at_:Nat}(e:at_=A.length+g)(h:g+bs.length<=z):IU (A++ai z) at_ bs=A++ai g++bs++ai (z-g-bs.length):=by
 subst e;unfold IU ai;rw[zdu,za1 ab,zdv,zb1 ab,zaZ,show A.length+g-A.length=g by omega,show A.length+g+bs.length-A.length=g+bs.length by omega,List.take_replicate,List.drop_replicate,show min g z=g by omega,show z-(g+bs.length)=z-g-bs.length by omega]
def atG{A X C bs:List UInt8}{at_:Nat}(e:at_=A.length)(h:X.length=bs.length):IU (A++(X++C)) at_ bs=A++(bs++C):=by
 subst e;unfold IU;rw[List.take_left,<-h,show A.length+X.length=(A++X).length by simp,<-zaj A X C,List.drop_left,zaj]
def fL:List UInt8->Nat->List UInt8->List UInt8
 |B,_,[]=>B
 |B,at_,b::bs=>fL (B.set at_ b) (at_+1) bs
def LF(bs:List UInt8):∀(B:List UInt8) (at_:Nat),(fL B at_ bs).length=B.length:=by
 induction bs with
 |nil=>intro B at_;rfl
 |cons b bs ih=>intro B at_;rw[fL,ih,za0]
def aoP{B bs:List UInt8}{at_:Nat}{b:UInt8}(h:at_+bs.length<B.length):IU B at_ (b::bs)=IU (B.set at_ b) (at_+1) bs:=by
 unfold IU;have h1:(B.set at_ b).take (at_+1)=B.take at_++[b]:=by
  rw[zck,List.take_set_of_le (zai _),zcm ab];rfl
 have h2:(B.set at_ b).drop (at_+1+bs.length)=B.drop (at_+(b::bs).length):=by
  rw[List.drop_set_of_lt ab];simp only[zam];congr 1;omega
 rw[h1,h2];simp
def Xw(bs:List UInt8):∀(B:List UInt8) (at_:Nat),at_+bs.length<=B.length->fL B at_ bs=IU B at_ bs:=by
 induction bs with
 |nil=>intro B at_ _;rw[ajN];rfl
 |cons b bs ih=>
  intro B at_ h;simp only[zam]at h;rw[fL,ih _ _ (by rw[za0];omega),aoP ab]
def agl(xs:List AV)(σ:aF)(K:AV->aF->Prop):Prop:=∃(B:List UInt8) (at_ k:Nat) (n:Int),xs=[.own 0,.pv (pI at_),.pv (pI k),.pv (pI n)]/\(at_+k<=B.length/\B.length<=1000000)/\σ=[.row 5 1 true (B.map aL)]/\K (.tup []) [.row 5 1 true ((fL B at_ (aJ n k)).map aL)]
def awI{xs:List AV}{σ:aF}{K:AV->aF->Prop}(h:agl xs σ K):ayY xs σ K:=by
 obtain⟨B,at_,k,n,h1,h2,h3,h4⟩:=h;rw[Xw _ _ _ (by rw[gL];exact h2.1)]at h4;exact⟨B,at_,k,n,h1,h2,h3,h4⟩
def als:gO (ay []) yG (sB agl):=λxs σ K h=>apz xs σ K (awI h)
def afm{B ys:List UInt8}{lo n:Nat}(h:n=B.length-lo)(h2:lo+ys.length<=B.length):
 (B.map aL).take lo++(ys.map aL).take n++(B.map aL).drop (lo+min (ys.map aL).length n)=(fL B lo ys).map aL:=by
 rw[Xw _ _ _ h2];unfold IU;have h3:(ys.map aL).take n=ys.map aL:=za1 oP;have h4:min (ys.map aL).length n=ys.length:=oP;rw[h3,h4,<-zdg,<-zc7,zbs,zbs]
def aih(W:Nat):List.replicate W (PV.int .u8 0)=(ai W).map aL:=by unfold ai;rw[zci];rfl
def Tj(ps:List PV)(x:PV):Prop:=∃(b:Bool) (h:Int),ps=[pB b]/\h=(if b=true then 24 else 40)/\x=pI h
def acG:MT (ay []) Fl (ah Tj):=by
 rintro _ K ⟨_,⟨b,h,rfl,rfl,rfl⟩,hK⟩;cases b
 ·exact aG
 ·exact aG
def Uo(ps:List PV)(x:PV):Prop:=∃(n:Int) (m:Nat),ps=[pI n]/\(0<=n/\n<=1000000/\m=B5 n.toNat)/\x=pI m
def adm:MT (ay []) zo (ah Uo):=by
 rintro _ K ⟨_,⟨n,m,rfl,⟨h1,h2,rfl⟩,rfl⟩,hK⟩;unfold B5 at hK
 (repeat'((conv=>whnf);first|refine bj ab ?_|refine l7 ab ?_|fail))<;>try(conv=>whnf)
 refine⟨.pv (pI _),bu ?_,trivial,hK⟩;omega
def f_{P bs:List UInt8}{z g at_ n:Nat}(e:at_=P.length+g)(h:g+bs.length<=z)(e2:n=z-g-bs.length):fL (P++ai z) at_ bs=P++ai g++bs++ai n:=by
 rw[Xw _ _ _ (by rw[zad,bE];omega),ash e h,e2]
def asB{P X C bs:List UInt8}{at_:Nat}(e:at_=P.length)(h:X.length=bs.length):fL (P++(X++C)) at_ bs=P++(bs++C):=by
 rw[Xw _ _ _ (by simp only[zad];omega),atG e h]
def bC(g n:Nat){P bs:List UInt8}{z at_:Nat}(e:at_=P.length+g:=by simp only[List.length_append,gL,bE,List.length_nil]<;>omega)(h:g+bs.length<=z:=by(try simp only[gL])<;>omega)(e2:n=z-g-bs.length:=by(try simp only[gL])<;>omega):fL (P++ai z) at_ bs=P++ai g++bs++ai n:=f_ e h e2
def aw6{ty fl id:Int}{nm vl:List UInt8}{W A:Nat}(h1:24+nm.length<=A)(h2:A+vl.length<=W):
 fL (fL (fL (fL (fL (fL (fL (fL (fL (fL (ai W) 0 (aJ ty 4)) 4 (aJ (W:Nat) 4)) 9 (aJ (nm.length:Nat) 1)) 10 (aJ 24 2)) 12 (aJ fl 2)) 14 (aJ id 2)) 16 (aJ (vl.length:Nat) 4)) 20 (aJ (A:Nat) 4)) 24 nm) A vl=
 aJ ty 4++aJ (W:Nat) 4++aJ 0 1++aJ (nm.length:Nat) 1++aJ 24 2++aJ fl 2++aJ id 2++(aJ (vl.length:Nat) 4++aJ (A:Nat) 4)++nm++ai (A-24-nm.length)++vl++ai (W-A-vl.length):=by
 rw[<-zaZ (ai W),bC 0 (W-4),bC 0 (W-8),bC 1 (W-10),bC 0 (W-12),bC 0 (W-14),bC 0 (W-16),bC 0 (W-20),bC 0 (W-24),bC 0 (W-24-nm.length),bC (A-24-nm.length) (W-A-vl.length)];have z0:ai 0=[]:=rfl;have z1:ai 1=aJ 0 1:=rfl;rw[z0,z1];simp only[zaZ,zbf,zaj]
def aya{ty fl id ft la al sz vd:Int}{nm vl:List UInt8}{W A:Nat}(h1:40+nm.length<=A)(h2:A+vl.length<=W):
 fL (fL (fL (fL (fL (fL (fL (fL (fL (fL (fL (fL (fL (fL (fL (ai W) 0 (aJ ty 4)) 4 (aJ (W:Nat) 4)) 9 (aJ (nm.length:Nat) 1)) 10 (aJ 40 2)) 12 (aJ fl 2)) 14 (aJ id 2)) 8 (aJ 1 1)) 16 (aJ ft 4)) 20 (aJ la 4)) 24 (aJ (A:Nat) 2)) 28 (aJ al 4)) 32 (aJ sz 4)) 36 (aJ vd 4)) 40 nm) A vl=
 aJ ty 4++aJ (W:Nat) 4++aJ 1 1++aJ (nm.length:Nat) 1++aJ 40 2++aJ fl 2++aJ id 2++(aJ ft 4++aJ la 4++aJ (A:Nat) 2++ai 2++aJ al 4++aJ sz 4++aJ vd 4)++nm++ai (A-40-nm.length)++vl++ai (W-A-vl.length):=by
 rw[<-zaZ (ai W),bC 0 (W-4),bC 0 (W-8),bC 1 (W-10),bC 0 (W-12),bC 0 (W-14),bC 0 (W-16)];have m:=asB (P:=([]:List UInt8)++ai 0++aJ ty 4++ai 0++aJ (W:Nat) 4) (X:=ai 1) (C:=aJ (nm.length:Nat) 1++(ai 0++(aJ 40 2++(ai 0++(aJ fl 2++(ai 0++(aJ id 2++ai (W-16)))))))) (at_:=8) (bs:=aJ 1 1) (by simp only[zad,gL,bE,zaY]) (by rw[gL,bE]);simp only[<-zaj]at m ⊢;rw[m,bC 0 (W-20),bC 0 (W-24),bC 0 (W-26),bC 2 (W-32),bC 0 (W-36),bC 0 (W-40),bC 0 (W-40-nm.length),bC (A-40-nm.length) (W-A-vl.length)];have z0:ai 0=[]:=rfl;rw[z0];simp only[zaZ,zbf,zaj]
def Tp(ps:List PV)(x:PV):Prop:=∃a:At,ps=[a.pv]/\TI a=0/\x=.str (T5 a)
def ac6:MT (ay [(210,c8 true G7),(211,ah Tj),(212,ah Uo),(213,sB agl),(209,ah xr)]) zr (ah Tp):=by
 rintro _ K ⟨_,⟨a,rfl,ha,rfl⟩,hK⟩;have hA:=acN.of ha;obtain⟨ty,nm,id,fl,rs,vl,ft,rn,al,sz,vd⟩:=a;have kp:=hA.DL;simp only at kp;simp only[At.pv];cases rs with
 |true=>
  obtain⟨_,_,Ja⟩:=hA.rs rfl;simp only at Ja;have h1:=i_ (24+nm.length);have h2:=i_ (B5 (24+nm.length)+vl.length);obtain⟨W,hW⟩:∃W,W=B5 (B5 (24+nm.length)+vl.length):=⟨_,rfl⟩
  obtain⟨A,hA⟩:∃A,A=B5 (24+nm.length):=⟨_,rfl⟩
  rw[<-hA]at h1 h2 hW;rw[<-hW]at h2;have Oi:∀B:List UInt8,B.length=W->(B.map aL).take (Int.toNat 24)++(nm.map aL).take ((B.map aL).length-Int.toNat 24)++(B.map aL).drop (Int.toNat 24+min (nm.map aL).length ((B.map aL).length-Int.toNat 24))=(fL B 24 nm).map aL:=
   λB hB=>afm (lo:=24) Lh ab
  have Cw:∀B:List UInt8,B.length=W->(B.map aL).take (A:Int).toNat++(vl.map aL).take ((B.map aL).length-(A:Int).toNat)++(B.map aL).drop ((A:Int).toNat+min (vl.map aL).length ((B.map aL).length-(A:Int).toNat))=(fL B A vl).map aL:=
   λB hB=>afm (lo:=A) Lh ab
  (repeat'((conv=>whnf);first|refine⟨_,⟨true,24,rfl,rfl,rfl⟩,?_⟩|(rw[aih,zaC])|(simp only[Oi,Cw,LF,bE])|refine Or.inr ?_|refine zcd (by(simp only[if_true,zaw,LF,bE];omega)) ?_|refine⟨_,0,4,_,rfl,⟨br,br⟩,rfl,?_⟩|refine⟨_,4,4,_,rfl,⟨br,br⟩,rfl,?_⟩|refine⟨_,9,1,_,rfl,⟨br,br⟩,rfl,?_⟩|refine⟨_,10,2,_,rfl,⟨br,br⟩,rfl,?_⟩|refine⟨_,12,2,_,rfl,⟨br,br⟩,rfl,?_⟩|refine⟨_,14,2,_,rfl,⟨br,br⟩,rfl,?_⟩|refine⟨_,16,4,_,rfl,⟨br,br⟩,rfl,?_⟩|refine⟨_,20,4,_,rfl,⟨br,br⟩,rfl,?_⟩|refine⟨_,⟨_,W,rfl,⟨ab,ab,by rw[hW];exact congrArg B5 ab⟩,rfl⟩,?_⟩|(refine fe ?_;first|refine bj ab ?_|refine aN ?_|refine dq λ_=>?_|refine yR ?_|refine bT ?_|refine⟨_,⟨_,_,rfl,dY,rfl⟩,?_⟩|refine wz ?_|fail)))<;>try(conv=>whnf)
  rw[show T5 ⟨ty,nm,id,fl,true,vl,ft,rn,al,sz,vd⟩=aJ ty 4++aJ (W:Nat) 4++aJ 0 1++aJ (nm.length:Nat) 1++aJ 24 2++aJ fl 2++aJ id 2++(aJ (vl.length:Nat) 4++aJ (A:Nat) 4)++nm++ai (A-24-nm.length)++vl++ai (W-A-vl.length)from by rw[hW,hA];rfl,<-aw6 h1.1 h2.1]at hK;exact bM
 |false=>
  obtain⟨_,rfl,n7,hz,JL,mD,_⟩:=hA.ot rfl;simp only[pL]at n7 hz JL mD;have hs:=TT hz;have vu:=(bZ hz).1;have lj:(qL rn.l).length<=400:=by
   unfold qL;have:=JP rn.l rn.l.length (zai _);simp only[zad,zam,zaY];omega
  obtain⟨vl,Ja⟩:∃vl,vl=qL rn.l:=⟨_,rfl⟩
  rw[<-Ja]at lj;have h1:=i_ (40+nm.length);have h2:=i_ (B5 (40+nm.length)+vl.length);obtain⟨W,hW⟩:∃W,W=B5 (B5 (40+nm.length)+vl.length):=⟨_,rfl⟩
  obtain⟨A,hA⟩:∃A,A=B5 (40+nm.length):=⟨_,rfl⟩
  rw[<-hA]at h1 h2 hW;rw[<-hW]at h2;have Oi:∀B:List UInt8,B.length=W->(B.map aL).take (Int.toNat 40)++(nm.map aL).take ((B.map aL).length-Int.toNat 40)++(B.map aL).drop (Int.toNat 40+min (nm.map aL).length ((B.map aL).length-Int.toNat 40))=(fL B 40 nm).map aL:=
   λB hB=>afm (lo:=40) Lh ab
  have Cw:∀B:List UInt8,B.length=W->(B.map aL).take (A:Int).toNat++(vl.map aL).take ((B.map aL).length-(A:Int).toNat)++(B.map aL).drop ((A:Int).toNat+min (vl.map aL).length ((B.map aL).length-(A:Int).toNat))=(fL B A vl).map aL:=
   λB hB=>afm (lo:=A) Lh ab
  (repeat'((conv=>whnf);first|refine⟨_,⟨false,40,rfl,rfl,rfl⟩,?_⟩|refine⟨RV.tup [.pv (.str vl),.pv (pI 0)],⟨rn,rfl,by rw[hz,if_pos rfl,Ja]⟩,?_⟩|(simp only[Oi,Cw,LF,bE])|(rw[aih,zaC])|refine Or.inr ?_|refine zcd (by(simp only[if_true,zaw,LF,bE];omega)) ?_|refine⟨_,0,4,_,rfl,⟨br,br⟩,rfl,?_⟩|refine⟨_,4,4,_,rfl,⟨br,br⟩,rfl,?_⟩|refine⟨_,9,1,_,rfl,⟨br,br⟩,rfl,?_⟩|refine⟨_,10,2,_,rfl,⟨br,br⟩,rfl,?_⟩|refine⟨_,12,2,_,rfl,⟨br,br⟩,rfl,?_⟩|refine⟨_,14,2,_,rfl,⟨br,br⟩,rfl,?_⟩|refine⟨_,8,1,_,rfl,⟨br,br⟩,rfl,?_⟩|refine⟨_,16,4,_,rfl,⟨br,br⟩,rfl,?_⟩|refine⟨_,20,4,_,rfl,⟨br,br⟩,rfl,?_⟩|refine⟨_,24,2,_,rfl,⟨br,br⟩,rfl,?_⟩|refine⟨_,28,4,_,rfl,⟨br,br⟩,rfl,?_⟩|refine⟨_,32,4,_,rfl,⟨br,br⟩,rfl,?_⟩|refine⟨_,36,4,_,rfl,⟨br,br⟩,rfl,?_⟩|refine⟨_,⟨⟨ty,nm,id,fl,false,[],ft,rn,al,sz,vd⟩,rfl,GB hz,rfl⟩,?_⟩|refine⟨_,⟨_,W,rfl,⟨ab,ab,by rw[hW];exact congrArg B5 ab⟩,rfl⟩,?_⟩|(refine fe ?_;first|refine bj ab ?_|refine au ao ?_|refine dq λ_=>?_|refine yR ?_|refine bT ?_|refine⟨_,⟨_,_,rfl,dY,rfl⟩,?_⟩|refine wz ?_|fail)))<;>try(conv=>whnf)
  rw[show T5 ⟨ty,nm,id,fl,false,[],ft,rn,al,sz,vd⟩=aJ ty 4++aJ (W:Nat) 4++aJ 1 1++aJ (nm.length:Nat) 1++aJ 40 2++aJ fl 2++aJ id 2++(aJ ft 4++aJ (ft+bI rn.l-1) 4++aJ (A:Nat) 2++ai 2++aJ al 4++aJ sz 4++aJ vd 4)++nm++ai (A-40-nm.length)++vl++ai (W-A-vl.length)from by rw[hW,hA,Ja];rfl,<-aya h1.1 h2.1]at hK;exact bM
def aoR{a:At}{c5 c6 c3 c2 c9:Bool}(hs:0<=a.ft)(h5:c5=true↔¬(0<a.ft/\a.rn.l.length=0))(h6:c6=true↔a.ft+bI a.rn.l<=4096)
 (h3:c3=true↔¬(0<a.ft∧¬(a.al=0/\a.sz=0/\a.vd=0))) (h2:c2=true↔pL a) (h9:c9=true↔a.vd<=a.sz):
 (if 0<a.ft/\a.rn.l.length=0 then 17 else if 4096<a.ft+bI a.rn.l then 8 else if 0<a.ft∧¬(a.al=0/\a.sz=0/\a.vd=0)then 3 else if ¬pL a then 2 else if a.sz<a.vd then 9 else 0)=
 bQ [if c5=true then 0 else 17,if c6=true then 0 else 8,if c3=true then 0 else 3,if c2=true then 0 else 2,if c9=true then 0 else 9]:=by
 simp only[bQ,h5,h6,h3,h2,h9]
 (repeat' split)<;>first|rfl|omega|contradiction
set_option maxRecDepth 8000 in
set_option maxHeartbeats 4000000 in
def afi:MT (ay [(206,c8 true Xi),(149,ah dG),(148,ah gB),(152,bF bG),(208,c8 true aae),(209,ah xr)]) xW (ah Fa):=by
 rintro _ K ⟨_,⟨a,rfl,rfl⟩,hK⟩
 (repeat'((conv=>whnf);first|refine⟨_,⟨rfl,rfl⟩,?_⟩|refine λ(b:Bool) hb=>?_|(refine fe ?_;first|refine bT ?_|refine⟨_,⟨_,_,rfl,rfl⟩,?_⟩|refine⟨_,⟨_,_,_,rfl,rfl⟩,?_⟩|refine⟨_,⟨[_,_,_],rfl,rfl⟩,?_⟩|fail)))<;>try(conv=>whnf)
 rename_i b2 h2 b3 h3 b4 h4;have h2:b2=true↔a.ty∉VG:=by rw[h2,<-aBj];simp
 have h3:b3=true↔a.vl=[]:=h3;have e1:bQ [if b2=true then 0 else 20,if b3=true then 0 else 3,if b4=true then 0 else 2]=if a.ty∈VG then 20 else if a.vl≠[]then 3 else if ¬(0<=a.ft/\a.ft<=4096)then 2 else 0:=by
  simp only[bQ,h2,h3,h4];by_cases g1:a.ty∈VG<;>by_cases g2:a.vl=[]<;>by_cases g3:0<=a.ft/\a.ft<=4096<;>simp[g1,g2,g3]
 rw[e1]at hb;unfold GG at hK;cases b with
 |true=>
  have hb:=hb.1 rfl;refine⟨.pv (pI _),bu ?_,trivial,hK⟩;rw[e1];by_cases g1:a.ty∈VG
  ·simp[g1]
  by_cases g2:a.vl=[]
  ·by_cases g3:0<=a.ft/\a.ft<=4096
   ·exact absurd (by simp[g1,g2,g3]) hb
   ·simp[g1,g2,g3]
  ·simp[g1,g2]
 |false=>
 have hb:¬_:=λh=>absurd (hb.2 h) ao
 have g1:a.ty∉VG:=λh=>hb uQ
 have g2:a.vl=[]:=zb2.1 λh=>hb (by simp[h,g1])
 have g3:0<=a.ft/\a.ft<=4096:=zb2.1 λh=>hb (by simp[h,g1,g2])
 rw[if_neg g1,if_neg (λh=>h g2),if_neg (λh=>h g3)]at hK;clear hb e1 h2 h3 h4;by_cases hz:dU a.rn.l=0
 case neg=>
  rw[if_pos hz]at hK
  (repeat'((conv=>whnf);first|refine⟨_,⟨a.rn,rfl,rfl⟩,?_⟩|refine au hz ?_|fail))<;>try(conv=>whnf)
  exact aG
 rw[if_neg (λh=>h hz)]at hK;have hs:=TT hz;have gJ:(List.map Rn.pv a.rn.l).length=a.rn.l.length:=zaw _
 (repeat'((conv=>whnf);first|refine KP ?_|refine⟨_,⟨a.rn,rfl,rfl⟩,?_⟩|refine aw (λh=>h hz) ?_|refine⟨_,⟨a,rfl,GB hz,rfl⟩,?_⟩|(refine λ(b5:Bool) (U9:b5=true↔(0:Int)<((List.map Rn.pv a.rn.l).length:Nat))=>?_)|(refine λ(b6:Bool) (yQ:b6=true↔a.ft+bI a.rn.l<=4096)=>?_)|(refine λ(b7:Bool) (yU:b7=true↔a.vd<=a.sz)=>?_)|refine⟨_,⟨[_,_,_,_,_],rfl,rfl⟩,?_⟩|(refine fe ?_;first|refine bj ab ?_|refine aN ?_|refine bP ?_|refine au ab ?_|refine de (λ_=>?_) (λ_=>?_)|refine bT ?_|refine⟨_,⟨_,_,rfl,rfl⟩,?_⟩|refine⟨_,⟨_,_,_,rfl,rfl⟩,?_⟩|fail)))<;>try(conv=>whnf)
 all_goals
  refine⟨.pv (pI _),bu (aoR (a:=a) ab ?_ ?_ ?_ ?_ ?_),trivial,hK⟩;all_goals first
   |(rw[yQ];done)
   |(rw[yU];done)
   |(simp only[true_iff];(try unfold pL);omega)
   |(simp only[zbZ,false_iff];(try unfold pL);omega)
   |(rw[U9,gJ];omega)
def nC(ps:List PV)(x:PV):Prop:=∃a:At,ps=[a.pv]/\a.nm.length<=1000000/\x=pI (gu a)
def ad6{a:At}(h1:a.ty∈S3)(h2:fy a.nm)(h3:yi a):TI a=Iv a:=by
 unfold TI;rw[if_neg (λh=>h h1),if_neg (λh=>h h2),if_neg (λh=>h h3)]
def aom(a:At):gu a=if a.ty∉S3 then 15 else if ¬fy a.nm then 4 else if ¬yi a then 2 else if Iv a≠0 then Iv a else if 440<(T5 a).length then 16 else 0:=by
 unfold gu TI;by_cases h1:a.ty∈S3<;>by_cases h2:fy a.nm<;>by_cases h3:yi a<;>simp[h1,h2,h3]
def XE(p q r:Prop)[Decidable p][Decidable q][Decidable r](c1 c3:Bool)(h1:c1=true↔p)(h3:c3=true↔r):bQ [if c1=true then 0 else 15,if q then 0 else 4,if c3=true then 0 else 2]=if ¬p then 15 else if ¬q then 4 else if ¬r then 2 else 0:=by
 simp only[bQ,h1,h3];by_cases g1:p<;>by_cases g2:q<;>by_cases g3:r<;>simp[g1,g2,g3]
def JJ:MT (ay [(150,bF EV),(149,ah dG),(151,ah Ps),(152,bF bG),(148,ah gB),(153,ah E9),(154,ah Fa),(155,ah Tp)]) qn (ah nC):=by
 rintro _ K ⟨_,⟨a,rfl,hn,rfl⟩,hK⟩;rw[aom]at hK;obtain⟨ty,nm,id,fl,rs,vl,ft,rn,al,sz,vd⟩:=a;simp only at hn hK;simp only[At.pv];by_cases g:ty∈S3/\fy nm/\yi ⟨ty,nm,id,fl,rs,vl,ft,rn,al,sz,vd⟩
 ·obtain⟨g1,g2,g3⟩:=g;rw[if_neg (λh=>h g1),if_neg (λh=>h g2),if_neg (λh=>h g3)]at hK;have e0:bQ [if true=true then 0 else 15,if fy nm then 0 else 4,if true=true then 0 else 2]=0:=by simp[bQ,g2]
  have g4:=g3;simp only[yi]at g4;have h0:TI ⟨ty,nm,id,fl,rs,vl,ft,rn,al,sz,vd⟩=Iv ⟨ty,nm,id,fl,rs,vl,ft,rn,al,sz,vd⟩:=ad6 g1 g2 g3;by_cases hk:Iv ⟨ty,nm,id,fl,rs,vl,ft,rn,al,sz,vd⟩=0
  ·rw[if_neg (λh=>h hk)]at hK;rw[hk]at h0;cases rs with
   |true=>
    have AP:Hy ⟨ty,nm,id,fl,true,vl,ft,rn,al,sz,vd⟩=0:=hk
    (repeat'((conv=>whnf);first|refine au g1 ?_|refine au g4.1 ?_|refine au g4.2 ?_|refine aw (λh=>h e0) ?_|refine aw (λh=>h AP) ?_|refine⟨_,⟨nm,rfl,rfl⟩,?_⟩|refine⟨_,⟨[_,_,_],rfl,rfl⟩,?_⟩|refine⟨_,⟨⟨ty,nm,id,fl,true,vl,ft,rn,al,sz,vd⟩,rfl,rfl⟩,?_⟩|refine⟨_,⟨⟨ty,nm,id,fl,true,vl,ft,rn,al,sz,vd⟩,rfl,h0,rfl⟩,?_⟩|(refine fe ?_;first|refine de (λ_=>?_) (λ_=>?_)|refine bT ?_|refine⟨_,⟨_,rfl,rfl⟩,?_⟩|refine⟨_,⟨_,_,rfl,rfl⟩,?_⟩|refine⟨_,⟨_,_,_,rfl,rfl⟩,?_⟩|fail)))<;>try(conv=>whnf)
    ·rw[if_neg ab]at hK;exact aG
    ·rw[if_pos ab]at hK;exact aG
   |false=>
    have AP:GG ⟨ty,nm,id,fl,false,vl,ft,rn,al,sz,vd⟩=0:=hk
    (repeat'((conv=>whnf);first|refine au g1 ?_|refine au g4.1 ?_|refine au g4.2 ?_|refine aw (λh=>h e0) ?_|refine aw (λh=>h AP) ?_|refine⟨_,⟨nm,rfl,rfl⟩,?_⟩|refine⟨_,⟨[_,_,_],rfl,rfl⟩,?_⟩|refine⟨_,⟨⟨ty,nm,id,fl,false,vl,ft,rn,al,sz,vd⟩,rfl,rfl⟩,?_⟩|refine⟨_,⟨⟨ty,nm,id,fl,false,vl,ft,rn,al,sz,vd⟩,rfl,h0,rfl⟩,?_⟩|(refine fe ?_;first|refine de (λ_=>?_) (λ_=>?_)|refine bT ?_|refine⟨_,⟨_,rfl,rfl⟩,?_⟩|refine⟨_,⟨_,_,rfl,rfl⟩,?_⟩|refine⟨_,⟨_,_,_,rfl,rfl⟩,?_⟩|fail)))<;>try(conv=>whnf)
    ·rw[if_neg ab]at hK;exact aG
    ·rw[if_pos ab]at hK;exact aG
  ·rw[if_pos hk]at hK;clear h0;cases rs with
   |true=>
    have AP:Hy ⟨ty,nm,id,fl,true,vl,ft,rn,al,sz,vd⟩≠0:=hk
    (repeat'((conv=>whnf);first|refine au g1 ?_|refine au g4.1 ?_|refine au g4.2 ?_|refine aw (λh=>h e0) ?_|refine au AP ?_|refine⟨_,⟨nm,rfl,rfl⟩,?_⟩|refine⟨_,⟨[_,_,_],rfl,rfl⟩,?_⟩|refine⟨_,⟨⟨ty,nm,id,fl,true,vl,ft,rn,al,sz,vd⟩,rfl,rfl⟩,?_⟩|(refine fe ?_;first|refine bT ?_|refine⟨_,⟨_,rfl,rfl⟩,?_⟩|refine⟨_,⟨_,_,rfl,rfl⟩,?_⟩|refine⟨_,⟨_,_,_,rfl,rfl⟩,?_⟩|fail)))<;>try(conv=>whnf)
    exact aG
   |false=>
    have AP:GG ⟨ty,nm,id,fl,false,vl,ft,rn,al,sz,vd⟩≠0:=hk
    (repeat'((conv=>whnf);first|refine au g1 ?_|refine au g4.1 ?_|refine au g4.2 ?_|refine aw (λh=>h e0) ?_|refine au AP ?_|refine⟨_,⟨nm,rfl,rfl⟩,?_⟩|refine⟨_,⟨[_,_,_],rfl,rfl⟩,?_⟩|refine⟨_,⟨⟨ty,nm,id,fl,false,vl,ft,rn,al,sz,vd⟩,rfl,rfl⟩,?_⟩|(refine fe ?_;first|refine bT ?_|refine⟨_,⟨_,rfl,rfl⟩,?_⟩|refine⟨_,⟨_,_,rfl,rfl⟩,?_⟩|refine⟨_,⟨_,_,_,rfl,rfl⟩,?_⟩|fail)))<;>try(conv=>whnf)
    exact aG
 ·have dI:(if ¬ty∈S3 then 15 else if ¬fy nm then 4 else if ¬yi ⟨ty,nm,id,fl,rs,vl,ft,rn,al,sz,vd⟩then 2 else(0:Int))≠0:=by
   by_cases h1:ty∈S3<;>by_cases h2:fy nm<;>by_cases h3:yi ⟨ty,nm,id,fl,rs,vl,ft,rn,al,sz,vd⟩<;>simp_all
  have hK:K (.pv (pI (if ¬ty∈S3 then 15 else if ¬fy nm then 4 else if ¬yi ⟨ty,nm,id,fl,rs,vl,ft,rn,al,sz,vd⟩then 2 else 0))):=by
   have e:∀x:Int,(if ¬ty∈S3 then 15 else if ¬fy nm then 4 else if ¬yi ⟨ty,nm,id,fl,rs,vl,ft,rn,al,sz,vd⟩then 2 else x)=(if ¬ty∈S3 then 15 else if ¬fy nm then 4 else if ¬yi ⟨ty,nm,id,fl,rs,vl,ft,rn,al,sz,vd⟩then 2 else 0):=by
    intro x;by_cases h1:ty∈S3<;>by_cases h2:fy nm<;>by_cases h3:yi ⟨ty,nm,id,fl,rs,vl,ft,rn,al,sz,vd⟩<;>simp_all
   rw[e]at hK;exact hK
  (repeat'((conv=>whnf);first|(refine λ(b1:Bool) (G1:b1=true↔ty∈S3)=>?_)|refine⟨_,⟨nm,rfl,rfl⟩,?_⟩|refine⟨_,⟨[_,_,_],rfl,rfl⟩,?_⟩|(refine au (by rw[XE (ty∈S3) (fy nm) (yi ⟨ty,nm,id,fl,rs,vl,ft,rn,al,sz,vd⟩) b1 true G1 (by simp only[yi,true_iff];omega)];exact dI) ?_)|(refine au (by rw[XE (ty∈S3) (fy nm) (yi ⟨ty,nm,id,fl,rs,vl,ft,rn,al,sz,vd⟩) b1 false G1 (by simp only[yi,zbZ,false_iff];omega)];exact dI) ?_)|(refine fe ?_;first|refine de (λ_=>?_) (λ_=>?_)|refine bT ?_|refine⟨_,⟨_,rfl,rfl⟩,?_⟩|refine⟨_,⟨_,_,rfl,rfl⟩,?_⟩|refine⟨_,⟨_,_,_,rfl,rfl⟩,?_⟩|fail)))<;>try(conv=>whnf)
  all_goals
   first
    |(rw[<-XE (ty∈S3) (fy nm) (yi ⟨ty,nm,id,fl,rs,vl,ft,rn,al,sz,vd⟩) b1 true G1 (by simp only[yi,true_iff];omega)]at hK;exact aG)
    |(rw[<-XE (ty∈S3) (fy nm) (yi ⟨ty,nm,id,fl,rs,vl,ft,rn,al,sz,vd⟩) b1 false G1 (by simp only[yi,zbZ,false_iff];omega)]at hK;exact aG)
def aeU(b:Bool):Int:=match b with|true=>1|false=>0
def Ci(ps:List PV)(x:PV):Prop:=∃b:Bool,ps=[pB b]/\x=pI (aeU b)
def CI:MT (ay []) CJ (ah Ci):=by
 rintro _ K ⟨_,⟨b,rfl,rfl⟩,hK⟩;cases b with
 |true=>exact aG
 |false=>exact aG
def Pc:MT (ay []) JS (ah gB):=kS
def MW:MT (ay []) Ij (ah dG):=jP
def MU:MT (ay []) Ic (bF bG):=by
 rintro _ K ⟨_,⟨n,lo,hi,rfl,rfl⟩,hK⟩
 (repeat'((conv=>whnf);first|refine de (λ_=>?_) (λ_=>?_)|fail))<;>try(conv=>whnf)
 all_goals exact kQ
structure Dk where
 a_:List UInt8
 mp:List UInt8
def Dk.pv(d:Dk):PV:=.agg [.str d.a_,.str d.mp]
def Dk.n(d:Dk):Nat:=d.a_.length/256
def eU(B:List UInt8)(n:Nat):List UInt8:=cut (n*256) ((n+1)*256) B
def gI{B:List UInt8}{n:Nat}(h:(n+1)*256<=B.length):(eU B n).length=256:=by
 unfold eU;rw[wL _ _ _ h];omega
structure St where
 a:At
 d:Dk
 pl:List Int
def St.pv(s:St):PV:=.agg [pI s.a.ty,.str s.a.nm,pI s.a.id,pI s.a.fl,pB s.a.rs,.str s.a.vl,pI s.a.ft,qF s.a.rn,pI s.a.al,pI s.a.sz,pI s.a.vd,.str s.d.a_,.str s.d.mp,rI s.pl]
abbrev sP(s:St):PV:=.cptr s.pv
def GM(ps:List PV)(p:Prop):Prop:=∃n:Int,ps=[pI n]/\p=(n= -1)
def ML:MT (ay []) HV (bF GM):=by
 rintro _ K ⟨_,⟨n,rfl,rfl⟩,hK⟩
 (repeat'((conv=>whnf);first|refine de (λ_=>?_) (λ_=>?_)|fail))<;>try(conv=>whnf)
 all_goals exact kQ
def bA(ps:List PV)(x:PV):Prop:=∃d:Dk,ps=[d.pv]/\d.a_.length<=1000000/\x=pI d.n
def Gg:MT (ay []) zy (ah bA):=by
 rintro _ K ⟨_,⟨d,rfl,h,rfl⟩,hK⟩
 (repeat'((conv=>whnf);first|refine l7 ab ?_|fail))<;>try(conv=>whnf)
 exact⟨.pv (pI _),bu so,trivial,hK⟩
def K4(ps:List PV)(x:PV):Prop:=∃n m:Int,ps=[pI n,pI m]/\(0<=n/\n<=1000000/\0<m/\m<=1000000)/\x=pI ((n+m-1)/m)
def Nf:MT (ay []) H8 (ah K4):=by
 rintro _ K ⟨_,⟨n,m,rfl,h,rfl⟩,hK⟩
 (repeat'((conv=>whnf);first|refine bj ab ?_|refine l7 ab ?_|fail))<;>try(conv=>whnf)
 exact aG
def EI(ps:List PV)(x:PV):Prop:=∃n:Int,ps=[pI n]/\n<=1000000/\x=.str (ai n.toNat)
def zQ:MT (ay [(131,ah Lo)]) KU (ah EI):=by
 rintro _ K ⟨_,⟨n,rfl,h,rfl⟩,hK⟩
 (repeat'((conv=>whnf);first|refine⟨_,⟨[0],_,rfl,⟨ab,ab,aj⟩,rfl⟩,?_⟩|refine fQ ?_|fail))<;>try(conv=>whnf)
 rw[Zh,show(max 0 n).toNat=n.toNat by omega];exact bM
def Py(ps:List PV)(x:PV):Prop:=∃(s:List UInt8) (n:Int),ps=[.str s,pI n]/\(s.length<=1000000/\ -1000000<=n/\n<=1000000)/\x=.str (s++ai (n-s.length).toNat)
def Na:MT (ay [(165,ah EI)]) HS (ah Py):=by
 rintro _ K ⟨_,⟨s,n,rfl,h,rfl⟩,hK⟩
 (repeat'((conv=>whnf);first|refine zcd (by(simp only[bE];omega)) ?_|(refine fe ?_;first|refine bj ab ?_|refine⟨_,⟨_,rfl,dY,rfl⟩,?_⟩|fail)))<;>try(conv=>whnf)
 exact bM
def aBF{a:Int}(h:0<=a/\a<=7):iz .and .i64 a 2=2*(a/2%2):=by
 obtain⟨n,rfl⟩:∃n:Nat,a=n:=⟨a.toNat,ab⟩
 obtain rfl|rfl|rfl|rfl|rfl|rfl|rfl|rfl:n=0\/n=1\/n=2\/n=3\/n=4\/n=5\/n=6\/n=7:=ab;all_goals rfl
def K7(ps:List PV)(p:Prop):Prop:=∃s:St,ps=[sP s]/\(0<=s.a.fl/\s.a.fl<=7)/\p=(s.a.fl/2%2=1)
def IV:MT (ay []) eS (bF K7):=by
 rintro _ K ⟨_,⟨s,rfl,h,rfl⟩,hK⟩
 (repeat'((conv=>whnf);first|(refine aFZ ?_;rw[aBF h])|refine de (λ_=>?_) (λ_=>?_)|fail))<;>try(conv=>whnf)
 all_goals exact kQ
def oA(ps:List PV)(p:Prop):Prop:=∃s:St,ps=[sP s]/\(0<=s.a.fl/\s.a.fl<=7)/\p=(s.a.fl%2=1)
def CC:MT (ay []) oS (bF oA):=by
 rintro _ K ⟨_,⟨s,rfl,h,rfl⟩,hK⟩
 (repeat'((conv=>whnf);first|refine de (λ_=>?_) (λ_=>?_)|refine aGr ab ?_|fail))<;>try(conv=>whnf)
 all_goals exact kQ
def AN(ps:List PV)(x:PV):Prop:=∃(s:St) (n:Nat),ps=[sP s,pI n]/\((n+1)*256<=s.d.a_.length/\s.d.a_.length<=1000000)/\x=.str (eU s.d.a_ n)
def JG:MT (ay []) tP (ah AN):=by
 rintro _ K ⟨_,⟨s,n,rfl,h,rfl⟩,hK⟩
 (repeat'((conv=>whnf);first|refine bj ab ?_|refine wz ?_|fail))<;>try(conv=>whnf)
 rw[show((n:Int)*256).toNat=n*256 by omega,show(((n:Int)+1)*256).toNat=(n+1)*256 by omega];exact bM
def MH(B:List UInt8)(l:List Int):Prop:=∀n∈l,n= -1\/(0<=n/\(n+1)*256<=B.length)
def tS(B:List UInt8)(n:Int):List UInt8:=if n= -1 then[]else eU B n.toNat
def dF(B:List UInt8)(l:List Int):List UInt8:=l.flatMap (tS B)
def AJ(B:List UInt8)(l:List Int):(dF B l).length<=256*l.length:=by
 unfold dF
 induction l with
 |nil=>simp
 |cons n l ih=>
  rw[zao,zad,zam];have:(tS B n).length<=256:=by
   unfold tS;split
   ·simp
   ·unfold eU cut;simp;omega
  omega
def QP(ps:List PV)(x:PV):Prop:=∃(s:St) (l:List Int),ps=[sP s,rI l]/\(s.d.a_.length<=1000000/\l.length<=100000/\MH s.d.a_ l)/\x=.str (dF s.d.a_ l)
def MB:MT (ay [(143,ah AN)]) va (ah QP):=by
 rintro _ K ⟨_,⟨s,l,rfl,⟨h1,h2,h3⟩,rfl⟩,hK⟩
 (repeat'((conv=>whnf);first|refine dq λ_=>?_|fail))<;>try(conv=>whnf)
 refine⟨λm env σ=>∃(n:Nat),n+m=l.length/\σ=[]/\env=[(0,.pv (sP s)),(5,.pv (.str (dF s.d.a_ (l.take n)))),(8,.pv (rI l)),eN 9 l.length,eN 10 n],l.length,⟨0,ab,rfl,rfl⟩,?_⟩;rintro m env σ ⟨n,hn,rfl,rfl⟩;have hb:=AJ s.d.a_ (l.take n);rw[zal]at hb;by_cases aU:n<l.length
 ·obtain⟨a,ha⟩:∃a,l[n]?=some a:=⟨_,zah aU⟩
  have hp:=h3 a (zag ha);have hT:dF s.d.a_ (l.take (n+1))=dF s.d.a_ (l.take n)++tS s.d.a_ a:=by
   rw[zck,ha];simp[dF]
  by_cases h0:a= -1
  ·subst h0
   (repeat'((conv=>whnf);first|refine bj ab ?_|refine au ab ?_|refine aw ab ?_|refine iY aA ?_|fail))<;>try(conv=>whnf)
   exact⟨m-1,ab,n+1,ab,rfl,by rw[hT];simp[tS]⟩
  ·obtain⟨k,rfl⟩:∃k:Nat,a=k:=⟨a.toNat,ab⟩
   have mE:(eU s.d.a_ k).length=256:=gI ab
   (repeat'((conv=>whnf);first|refine⟨_,⟨s,k,rfl,ab,rfl⟩,?_⟩|refine zcd (by rw[mE];omega) ?_|refine bj ab ?_|refine au ab ?_|refine iY aA ?_|fail))<;>try(conv=>whnf)
   exact⟨m-1,ab,n+1,ab,rfl,by rw[hT,tS,if_neg h0];rfl⟩
 ·(repeat'((conv=>whnf);first|refine aw ab ?_|fail))<;>try(conv=>whnf)
  rw[za1 ab];exact bM
def bt(l:List Int):Nat:=(l.filter λn=>decide (n≠ -1)).length
def oG(l:List Int):bt l<=l.length:=List.length_filter_le ..
def ao2{l:List Int}{n:Nat}{a:Int}(h:l[n]?=some a):bt (l.take (n+1))=bt (l.take n)+if a= -1 then 0 else 1:=by
 rw[zck,h];unfold bt;rw[List.filter_append,zad];congr 1;by_cases h0:a= -1<;>simp[h0]
def Uc(ps:List PV)(x:PV):Prop:=∃l:List Int,ps=[rI l]/\l.length<=1000000/\x=pI (bt l)
def Rp:MT (ay [(115,bF GM)]) NQ (ah Uc):=by
 rintro _ K ⟨_,⟨l,rfl,h2,rfl⟩,hK⟩
 (repeat'((conv=>whnf);first|refine dq λ_=>?_|fail))<;>try(conv=>whnf)
 refine⟨λm env σ=>∃(n:Nat),n+m=l.length/\σ=[]/\env=[eN 3 (bt (l.take n)),(6,.pv (rI l)),eN 7 l.length,eN 8 n],l.length,⟨0,ab,rfl,rfl⟩,?_⟩;rintro m env σ ⟨n,hn,rfl,rfl⟩;have hb:=oG (l.take n);rw[zal]at hb;by_cases aU:n<l.length
 ·obtain⟨a,ha⟩:∃a,l[n]?=some a:=⟨_,zah aU⟩
  have hT:=ao2 ha
  (repeat'(refine iM ?_;first|refine bj ab ?_|refine aN ?_|refine bP ?_|refine au ab ?_|refine de (λ_=>?_) (λ_=>?_)|refine iY aA ?_|refine⟨_,⟨_,rfl,rfl⟩,?_⟩|fail))<;>try(conv=>whnf)
  ·exact⟨m-1,ab,n+1,ab,rfl,by rw[hT,if_pos aA];rfl⟩
  ·exact⟨m-1,ab,n+1,ab,rfl,by rw[hT,if_neg aA];rfl⟩
 ·(repeat'((conv=>whnf);first|refine aw ab ?_|fail))<;>try(conv=>whnf)
  rw[za1 ab];exact aG
def wx(r:Rn):Prop:=(0<=r.n/\r.n<=4096)/\(-1<=r.s/\r.s<=1000000)
def iV(r:Rn):List Int:=(List.range r.n.toNat).map λ(i:Nat)=>if r.s= -1 then(-1:Int)else r.s+(i:Int)
def az(l:List Rn):List Int:=l.flatMap iV
def EK(r:Rn):(iV r).length=r.n.toNat:=by simp[iV]
def La{l:List Rn}(h:∀r∈l,wx r):(az l).length<=4096*l.length:=by
 unfold az
 induction l with
 |nil=>simp
 |cons r l ih=>
  rw[zao,zad,zam,EK];have:=ih λq hq=>h q kF
  have:=(h r aj).1;omega
def dL(ps:List PV)(r:RV):Prop:=∃s:Rs,ps=[qF s]/\(s.l.length<=1000∧∀r∈s.l,wx r)/\r=.pv (rI (az s.l))
def IQ:MT (ay []) DC (c8 false dL):=by
 rintro _ K ⟨_,⟨s,rfl,⟨h1,h2⟩,rfl⟩,hK⟩
 (repeat'((conv=>whnf);first|refine KP ?_|refine dq λ_=>?_|fail))<;>try(conv=>whnf)
 refine⟨λm env σ=>∃(n:Nat),n+m=s.l.length/\σ=[.row 3 1 true ((az (s.l.take n)).map pI)]/\env=[(3,.own 0),(7,.pv (qF s)),eN 8 s.l.length,eN 9 n],s.l.length,⟨0,ab,rfl,rfl⟩,?_⟩;rintro m env σ ⟨n,hn,rfl,rfl⟩;have hb:(az (s.l.take n)).length<=4096*(s.l.take n).length:=La λr hr=>h2 r (zaL hr)
 rw[zal]at hb;have gJ:(s.l.map Rn.pv).length=s.l.length:=zaw _;by_cases aU:n<s.l.length
 ·obtain⟨a,ha⟩:∃a,s.l[n]?=some a:=⟨_,zah aU⟩
  have hp:=h2 a (zag ha);have hT:az (s.l.take (n+1))=az (s.l.take n)++iV a:=by
   rw[zck,ha];simp[az]
  have hl:=EK a
  (repeat'((conv=>whnf);first|refine Ek ha ?_|refine au ab ?_|refine bT ?_|fail))<;>try(conv=>whnf)
  refine⟨λm' env σ=>∃(i:Nat),(i:Int)+m'=a.n/\σ=[.row 3 1 true ((az (s.l.take n)++(iV a).take i).map pI),.box 37 [.pv (pI a.s),.pv (pI a.n)]]/\env=[(3,.own 0),(5,.ref 1 0 0),(7,.pv (qF s)),eN 8 s.l.length,eN 9 n,eN 14 a.n,eN 15 i],a.n.toNat,⟨0,by unfold wx at hp;omega,aj,rfl⟩,?_⟩;rintro m' env σ ⟨i,hi,rfl,rfl⟩;unfold wx at hp;have jm:(az (s.l.take n)++(iV a).take i).length<=4096000+4096:=by
   rw[zad,zal];omega
  by_cases j9:(i:Int)<a.n
  ·have hg:(iV a)[i]?=some (if a.s= -1 then-1 else a.s+(i:Int)):=by
    unfold iV;rw[za9,zbz ab];rfl
   generalize hG:az (s.l.take n)++(iV a).take i=G at*
   (repeat'((conv=>whnf);first|refine bj ab ?_|refine au ab ?_|refine de (λ_=>?_) (λ_=>?_)|refine bT ?_|refine zcd cu ?_|fail))<;>try(conv=>whnf)
   ·refine⟨m'-1,ab,i+1,ab,?_,rfl⟩;rename_i hh;rw[zck,hg,if_pos hh,<-zaj,hG];simp
   ·refine⟨m'-1,ab,i+1,ab,?_,rfl⟩;rename_i hh;rw[zck,hg,if_neg hh,<-zaj,hG];simp
  ·(repeat'((conv=>whnf);first|refine bj ab ?_|refine aw ab ?_|fail))<;>try(conv=>whnf)
   refine⟨m-1,ab,n+1,ab,?_,rfl⟩;rw[hT,za1 (l:=iV a) (show(iV a).length<=i by omega)]
 ·(repeat'((conv=>whnf);first|refine aw ab ?_|fail))<;>try(conv=>whnf)
  rw[<-za1 (l:=s.l) (show s.l.length<=n by omega)]at hK;exact abL
def qV(acc:List Rn)(a:Int):List Rn:=
 match acc.getLast? with
 |some r=>if (a= -1/\r.s= -1)\/(a≠ -1/\r.s≠ -1/\r.s+r.n=a)then acc.dropLast++[⟨r.s,r.n+1⟩]else acc++[⟨a,1⟩]
 |none=>[⟨a,1⟩]
def IA(l:List Int):List Rn:=l.foldl qV []
def Fh{l:List Int}{n:Nat}{a:Int}(h:l[n]?=some a):IA (l.take (n+1))=qV (IA (l.take n)) a:=by
 rw[zck,h];simp[IA]
def abJ(acc:List Rn)(a:Int):(qV acc a).length<=acc.length+1:=by
 unfold qV;split
 ·split
  ·simp
  ·simp
 ·simp
def yO(k:Nat)(r:Rn):Prop:=(1<=r.n/\r.n<=k)/\(-1<=r.s/\r.s<=1000000)
def atn{acc:List Rn}{a:Int}{k:Nat}(h:∀r∈acc,yO k r)(ha: -1<=a/\a<=1000000):∀r∈qV acc a,yO (k+1) r:=by
 have up:∀r,yO k r->yO (k+1) r:=λr hr=>⟨⟨hr.1.1,by have:=hr.1.2;omega⟩,hr.2⟩
 have new:yO (k+1) ⟨a,1⟩:=⟨⟨aj,aH⟩,ha⟩
 intro r hr;unfold qV at hr;split at hr
 ·rename_i q hq;have hm:=h q (zc5 hq);split at hr
  ·rcases zaA.1 hr with h1|h1
   ·exact up r (h r (zdn _ h1))
   ·simp at h1;subst h1;exact⟨⟨by have:=hm.1.1;show 1<=q.n+1;omega,by have:=hm.1.2;show q.n+1<=_;omega⟩,hm.2⟩
  ·rcases zaA.1 hr with h1|h1
   ·exact up r (h r h1)
   ·rw[zcS.1 h1];exact new
 ·rw[zcS.1 hr];exact new
def agT{l:List Int}(h:∀a∈l,-1<=a/\a<=1000000):∀n,(IA (l.take n)).length<=min n l.length∧∀r∈IA (l.take n),yO n r:=by
 intro n
 induction n with
 |zero=>simp[IA]
 |succ n ih=>
  by_cases aU:n<l.length
  ·have ha:l[n]?=some l[n]:=zah aU;rw[Fh ha];refine⟨?_,atn ih.2 (h _ (zag ha))⟩;have:=abJ (IA (l.take n)) l[n];have:=ih.1;omega
  ·rw[za1 ab]at ih ⊢;exact⟨by have:=ih.1;omega,λr hr=>by have:=ih.2 r hr;exact⟨⟨this.1.1,by have:=this.1.2;omega⟩,this.2⟩⟩
def axP{l:List Int}{v:Int}{n:Nat}{x:Int}(h0:∀j,j<n→∀y,l[j]?=some y→¬y=v)(hx:l[n]?=some x)(dI:¬x=v):∀j,j<n+1→∀y,l[j]?=some y→¬y=v:=by
 intro j hj y hy;rcases zcb (zcl hj)with h1|h1
 ·exact h0 j h1 y hy
 ·subst h1;rw[hx]at hy;cases hy;exact dI
def Sx(ps:List PV)(x:PV):Prop:=∃(l:List Int) (v:Int),ps=[rI l,pI v]/\l.length<=1000000/\x=pI (WD (λy=>y=v) l)
def agq:MT (ay []) u7 (ah Sx):=by
 rintro _ K ⟨_,⟨l,v,rfl,hl,rfl⟩,hK⟩
 (repeat'((conv=>whnf);first|refine dq λ_=>?_|fail))<;>try(conv=>whnf)
 refine⟨λm env σ=>∃n:Nat,(n+m=l.length∧∀j,j<n→∀y,l[j]?=some y→¬y=v)/\σ=[]/\env=[(0,.pv (rI l)),eN 1 v,eN 7 l.length,eN 8 n],l.length,⟨0,⟨ab,λj hj=>ab⟩,rfl,rfl⟩,?_⟩;rintro m env σ ⟨n,⟨hn,h0⟩,rfl,rfl⟩
 (repeat'((conv=>whnf);first|refine bj ab ?_|refine de (λ_=>?_) (λ_=>?_)|refine aii ab (λ_ _=>?_)|fail))<;>try(conv=>whnf)
 ·rename_i x hx h;exact⟨.pv (pI _),bu (alT h0 hx h.symm),trivial,hK⟩
 ·rename_i x hx h;exact⟨m-1,ab,n+1,⟨ab,axP h0 hx (λe=>h e.symm)⟩,rfl,rfl⟩
 ·refine⟨.pv (pI _),bu (aaK λx hx=>?_),trivial,hK⟩;obtain⟨k,hk⟩:=jk.1 hx;exact h0 k vg x hk
def uy(ps:List PV)(p:Prop):Prop:=∃(a n:Int),ps=[pI a,.cptr (pI n)]/\p=(n<=a)
def Pp:MT (ay []) oI (bF uy):=by
 rintro _ K ⟨_,⟨a,n,rfl,rfl⟩,hK⟩
 (repeat'((conv=>whnf);first|refine de (λ_=>?_) (λ_=>?_)|fail))<;>try(conv=>whnf)
 all_goals exact kQ
abbrev aCg(n:Int):PV:=.clo 217 [.cptr (pI n)]
def Tm(ps:List PV)(x:PV):Prop:=∃(l:List Int) (v:Int),ps=[rI l,aCg v]/\l.length<=1000000/\x=pI (WD (λy=>v<=y) l)
def adk:MT (ay [(217,bF uy)]) qE (ah Tm):=by
 rintro _ K ⟨_,⟨l,v,rfl,hl,rfl⟩,hK⟩
 (repeat'((conv=>whnf);first|refine dq λ_=>?_|fail))<;>try(conv=>whnf)
 refine⟨λm env σ=>∃n:Nat,(n+m=l.length∧∀j,j<n→∀y,l[j]?=some y→¬v<=y)/\σ=[]/\env=[(0,.pv (rI l)),(1,.pv (aCg v)),eN 7 l.length,eN 8 n],l.length,⟨0,⟨ab,λj hj=>ab⟩,rfl,rfl⟩,?_⟩;rintro m env σ ⟨n,⟨hn,h0⟩,rfl,rfl⟩
 (repeat'((conv=>whnf);first|refine⟨_,⟨_,_,rfl,rfl⟩,?_⟩|refine bj ab ?_|refine de (λ_=>?_) (λ_=>?_)|refine aii ab (λ_ _=>?_)|fail))<;>try(conv=>whnf)
 ·rename_i x hx h;exact⟨.pv (pI _),bu (alT h0 hx h),trivial,hK⟩
 ·rename_i x hx h;refine⟨m-1,ab,n+1,⟨ab,λj hj y hy=>?_⟩,rfl,rfl⟩;rcases zcb (zcl hj)with h1|h1
  ·exact h0 j h1 y hy
  ·subst h1;rw[hx]at hy;cases hy;exact h
 ·refine⟨.pv (pI _),bu (aaK λx hx=>?_),trivial,hK⟩;obtain⟨k,hk⟩:=jk.1 hx;exact h0 k vg x hk
def Hj(ps:List PV)(p:Prop):Prop:=∃(l:List Int) (v:Int),ps=[rI l,aCg v]/\l.length<=1000000/\p=(∃a∈l,v<=a)
def SU:MT (ay [(133,ah Tm)]) nT (bF Hj):=by
 rintro _ K ⟨_,⟨l,v,rfl,hl,rfl⟩,hK⟩;have e:(∃a∈l,v<=a)↔0<=WD (λy=>v<=y) l:=(ak7 l).symm;rw[e]at hK
 (repeat'((conv=>whnf);first|refine⟨_,⟨l,v,rfl,hl,rfl⟩,?_⟩|refine de (λ_=>?_) (λ_=>?_)|fail))<;>try(conv=>whnf)
 all_goals exact JH
def P8:Spec:=EM false false λps K=>∃s:St,ps=[sP s]/\s.pl.length<=1000000/\K (.pv (nP (chunks s.pl)))
def aiX:MT (ay [(235,aeV),(234,Ti)]) vW P8:=by
 rintro _ K ⟨s,rfl,hl,hK⟩;refine⟨s.pl,rfl,?_⟩;refine⟨s.pl,rfl,hl,?_⟩;cases h:chunks s.pl with
 |nil=>rw[h]at hK;exact Zg
 |cons d cs=>rw[h]at hK;exact FI
def auP{x:UInt8}{k:Nat}(hk:k<8)(h:x.toNat/2^k%2=0):Po x k 0=x:=by
 apply zdx.1;rw[ug x hk ab,h];simp
def aCi{b:List UInt8}{i:Nat}(hi:i<8*b.length)(h:bH b i=0):aau b i 0=b:=by
 unfold aau;obtain⟨x,hx⟩:∃x,b[i/8]?=some x:=⟨_,zah ab⟩
 unfold bH at h;rw[hx,zbx]at h ⊢;rw[auP ab h];apply zba;intro j;by_cases hj:j=i/8
 ·subst hj;rw[zcm ab,hx]
 ·rw[zct ab]
def mS(b:Bool):Nat:=if b=true then 1 else 0
def Jj(b:Bool):mS b<=1:=by cases b<;>decide
def mG(l:List Bool):List UInt8:=VA (λi=>mS (l[i]?.getD false)) l.length
def aAf:(List.range 8).all (λk=>(List.range 256).all λn=>Nat.beq (n/2^k%2) 1||Nat.beq (n|||2^k) (n+2^k))=true:=ak
def aBV{n k:Nat}(hn:n<256)(hk:k<8)(h:n/2^k%2=0):n|||2^k=n+2^k:=by
 have h1:=zbp.1 (zbp.1 aAf k (zbm.2 hk)) n (zbm.2 hn);rw[h]at h1;simpa using h1
def Mn(ps:List PV)(x:PV):Prop:=∃l:List Bool,ps=[.sl 1 (l.map pB)]/\l.length<=4096/\x=.str (mG l)
def qf(d:Dk):List Bool:=(List.range d.n).map λi=>decide (bH d.mp i=1)
def awO(d:Dk):(qf d).length=d.n:=by simp[qf]
def xj(ps:List PV)(r:RV):Prop:=∃d:Dk,ps=[d.pv]/\(d.a_.length<=1000000/\d.mp.length<=1000000/\nu d.mp d.n=0)/\r=.fresh 4 1 ((qf d).map pB)
def ajH:MT (ay [(124,ah bA),(126,XF)]) Lf (c8 true xj):=by
 rintro _ K ⟨_,⟨d,rfl,⟨h1,h2,h3⟩,rfl⟩,hK⟩;have hn:d.n<=1000000:=so
 (repeat'(refine iM ?_;first|refine⟨_,⟨_,rfl,dY,rfl⟩,?_⟩|fail))<;>try(conv=>whnf)
 refine⟨λm env σ=>∃n:Nat,n+m=d.n/\σ=[.box 23 [.pv (.str d.a_),.pv (.str d.mp)],.row 4 1 true (((qf d).take n).map pB)]/\env=[(1,.ref 0 0 0),(3,.own 1),eN 4 d.n,eN 10 d.n,eN 11 n],d.n,⟨0,ab,rfl,rfl⟩,?_⟩;rintro m env σ ⟨n,hn,rfl,rfl⟩;have gJ:((qf d).take n).length<=1000000:=eI;by_cases aU:n<d.n
 ·have hb:aqn d.mp d.n n=bH d.mp n:=by
   unfold aqn ac0;rw[h3];simp;intro h;omega
  have hT:(qf d).take (n+1)=(qf d).take n++[decide (bH d.mp n=1)]:=by
   rw[zck];congr 1;unfold qf;rw[za9,zbz aU];rfl
  generalize hG:(qf d).take n=G at*
  (repeat'(refine iM ?_;first|refine bj ab ?_|refine au ab ?_|refine de (λ_=>?_) (λ_=>?_)|refine bT ?_|refine⟨_,_,_,rfl,dY,?_⟩|refine zcd cu ?_|fail))<;>try(conv=>whnf)
  ·rename_i x;exact⟨m-1,ab,n+1,ab,by rw[hT,decide_eq_true ab];simp,rfl⟩
  ·rename_i x;exact⟨m-1,ab,n+1,ab,by rw[hT,decide_eq_false ab];simp,rfl⟩
 ·(repeat'((conv=>whnf);first|refine aw ab ?_|fail))<;>try(conv=>whnf)
  rw[za1 (by rw[awO];omega)];exact⟨.fresh _ _ _,⟨rfl,rfl,rfl,rfl⟩,(by intro c hc;rw[zaX]at hc;obtain⟨x,_,rfl⟩:=hc;trivial),hK⟩
def atw{b:List UInt8}{i:Nat}{x:UInt8}(hx:b[i/8]?=some x)(h:bH b i=0):
 (b.map aL).set (i/8) (.int .u8 ((x.toNat+2^(i%8):Nat):Int))=(aau b i 1).map aL:=by
 have hb:x.toNat/2^(i%8)%2=0:=by unfold bH at h;rw[hx]at h;exact h
 unfold aau;rw[hx,zbx,zc1];congr 1;unfold aL;rw[ug x ab ab,hb];congr 2;omega
def or_val{x:UInt8}{k:Nat}(hk:k<8)(h:x.toNat/2^k%2=0):
 (((BitVec.ofInt IntKind.u8.bits (x.toNat:Int)|||BitVec.ofInt IntKind.u8.bits (1*2^min k IntKind.u8.bits%256)).toNat:Nat):Int)%256=((x.toNat+2^k:Nat):Int):=by
 have hx:=x.toNat_lt;have h2:2^k<=128:=by
  have:2^k<=2^7:=Nat.pow_le_pow_right ab ab;omega
 have hm:min k IntKind.u8.bits=k:=by show min k 8=k;omega
 have hp:(1*2^k%256:Int)=((2^k:Nat):Int):=by
  rw[Int.one_mul,show(2:Int)^k=((2^k:Nat):Int) by simp];generalize 2^k=q at h2;omega
 rw[hm,hp];show(((BitVec.ofInt 8 (x.toNat:Int)|||BitVec.ofInt 8 ((2^k:Nat):Int)).toNat:Nat):Int)%256=_;rw[BitVec.toNat_or,BitVec.toNat_ofInt,BitVec.toNat_ofInt];have hq:(((2^k:Nat):Int)%((2^8:Nat):Int)).toNat=2^k:=by
  generalize 2^k=q at h2;omega
 rw[show((x.toNat:Int)%((2^8:Nat):Int)).toNat=x.toNat by omega,hq];rw[aBV hx hk h];have:x.toNat+2^k<256:=by
  have e:=ug x hk (v:=1) ab;have:=(Po x k 1).toNat_lt;rw[h]at e;omega
 generalize 2^k=q at*;omega
def ajC:MT (ay [(201,JN)]) J_ (ah Mn):=by
 rintro _ K ⟨_,⟨l,rfl,h1,rfl⟩,hK⟩;have hs:fx l.length=0:=by unfold fx;rw[if_pos ab]
 have PB:axV l.length=ai (qO l.length):=by unfold axV;rw[if_pos hs];congr 1
 have Jd:(ai (qO l.length)).length=qO l.length:=by simp[ai]
 (repeat'((conv=>whnf);first|rw[PB]|refine zcd (by(rw[Jd];unfold qO;omega)) ?_|(refine fe ?_;first|refine dq λ_=>?_|refine⟨_,rfl,?_⟩|fail)))<;>try(conv=>whnf)
 refine⟨λm env σ=>∃n:Nat,n+m=l.length/\σ=[.row 5 1 false ((Nj (λi=>mS (l[i]?.getD false)) (ai (qO l.length)) n).map aL)]/\env=[(5,.own 0),(16,.pv (.sl 1 (l.map pB))),eN 17 l.length,eN 18 n],l.length,⟨0,ab,rfl,rfl⟩,?_⟩;rintro m env σ ⟨n,hn,rfl,rfl⟩;have hf:∀i:Nat,mS (l[i]?.getD false)<=1:=λi=>Jj _
 have bB:=Rw (λi=>mS (l[i]?.getD false)) (ai (qO l.length)) n;by_cases aU:n<l.length
 ·obtain⟨a,ha⟩:∃a,l[n]?=some a:=⟨_,zah aU⟩
  have pD:=Z_ hf n (z:=ai (qO l.length)) (by rw[Jd];unfold qO;omega) n;rw[if_neg ab]at pD;have hT:Nj (λi=>mS (l[i]?.getD false)) (ai (qO l.length)) (n+1)=aau (Nj (λi=>mS (l[i]?.getD false)) (ai (qO l.length)) n) n (mS a):=by
   simp only[Nj];rw[ha];rfl
  rw[Ou]at pD;generalize hG:Nj (λi=>mS (l[i]?.getD false)) (ai (qO l.length)) n=G at*;have yV:n<8*G.length:=by rw[bB,Jd];unfold qO;omega
  obtain⟨x,hx⟩:∃x,G[n/8]?=some x:=⟨_,zah ab⟩
  have LO:=atw hx pD;cases a with
  |false=>
   (repeat'((conv=>whnf);first|refine bj ab ?_|refine au ab ?_|refine iY aA ?_|fail))<;>try(conv=>whnf)
   exact⟨m-1,ab,n+1,ab,by rw[hT,show mS false=0 from rfl,aCi yV pD],rfl⟩
  |true=>
   (repeat'((conv=>whnf);first|refine bj ab ?_|refine au ab ?_|refine l7 ab ?_|refine lW ab ?_|refine Oo ?_|refine iY aA ?_|refine uM aA ?_|refine Q3 ab ?_|refine bT ?_|refine wz ?_|fail))<;>try(conv=>whnf)
   refine⟨m-1,ab,n+1,ab,?_,rfl⟩;have hv:=or_val (k:=n%8) ab (show x.toNat/2^(n%8)%2=0 by unfold bH at pD;rw[hx]at pD;exact pD);rw[show((n:Int)/8).toNat=n/8 by omega,show((n:Int)%8).toNat=n%8 by omega,hv,LO,hT];rfl
 ·(repeat'((conv=>whnf);first|refine aw ab ?_|refine yR ?_|fail))<;>try(conv=>whnf)
  rw[show n=l.length by omega];exact bM
def mF(l:List UInt8)(n:Nat):List UInt8:=l++ai (n-l.length)
def nA(a:At)(out:List UInt8):List UInt8:=(mF (out.take a.vd.toNat) a.sz.toNat).take a.sz.toNat
def agE(ps:List PV)(x:PV):Prop:=∃(s:St) (b:List UInt8),ps=[sP s,.str b]/\(b.length<=1000000/\(0<=s.a.vd/\s.a.vd<=1000000)/\(0<=s.a.sz/\s.a.sz<=1000000))/\x=.str (nA s.a b)
def ahL:MT (ay [(157,ah Py)]) lx (ah agE):=by
 rintro _ K ⟨_,⟨s,b,rfl,⟨h1,h2,h3⟩,rfl⟩,hK⟩;have e:cut 0 (min (b.length:Int) s.a.vd).toNat b=b.take s.a.vd.toNat:=by
  unfold cut;rw[zde];by_cases h:(b.length:Int)<=s.a.vd
  ·rw[za1 ab,za1 ab]
  ·congr 1;omega
 have hl:(b.take s.a.vd.toNat).length<=1000000:=eI;have e2:cut 0 s.a.sz.toNat (b.take s.a.vd.toNat++ai (s.a.sz-(b.take s.a.vd.toNat).length).toNat)=nA s.a b:=by
  unfold cut nA mF;rw[zde];congr 3;omega
 (repeat'((conv=>whnf);first|(rw[e])|refine zcd (by(rw[zad,aW];omega)) ?_|(refine fe ?_;first|refine MIN ?_|refine bT ?_|refine⟨_,⟨_,_,rfl,dY,rfl⟩,?_⟩|refine wz ?_|fail)))<;>try(conv=>whnf)
 rw[e2];exact bM
def rz(B:List UInt8)(l:List Int):List UInt8:=l.flatMap λn=>if n= -1 then ai 256 else eU B n.toNat
def ow(B:List UInt8)(cs:List (List Int)):List UInt8:=cs.flatMap λc=>(b9 (dF B c)).1
def aV(s:St):List UInt8:=
 if s.a.rs=true then s.a.vl else nA s.a (if s.a.fl%2=1 then ow s.d.a_ (chunks s.pl)else rz s.d.a_ s.pl)
def L2(s:List UInt8):(b9 s).1.length<=4096:=by
 unfold b9;split
 ·simp
 split
 ·simp[aW]
 split
 ·simp;omega
 split
 ·simp
 split
 ·simp
 split
 ·simp
 split
 ·simp
 split
 ·simp
 rename_i h;have h:=zb2.1 h;split
 ·simp
 ·simp only;omega
def YO{B:List UInt8}{l:List Int}(h:MH B l):(rz B l).length=256*l.length:=by
 unfold rz
 induction l with
 |nil=>simp
 |cons n l ih=>
  rw[zao,zad,zam,ih λx hx=>h x iP];have:(if n= -1 then ai 256 else eU B n.toNat).length=256:=by
   split
   ·exact aW _
   ·rename_i hn;rcases h n aj with h|h
    ·exact absurd h hn
    ·exact gI ab
  omega
def ajz(B:List UInt8)(cs:List (List Int)):(ow B cs).length<=4096*cs.length:=by
 unfold ow
 induction cs with
 |nil=>simp
 |cons c cs ih=>
  rw[zao,zad,zam];have:=L2 (dF B c);omega
def Ur{l:List Int}{c:List Int}(h:c∈chunks l):c.length<=16∧∀x∈c,x∈l:=by
 unfold chunks at h;rw[zaX]at h;obtain⟨k,_,rfl⟩:=h;refine⟨by rw[yb];omega,λx hx=>?_⟩;unfold bq at hx;exact zbw (zaL hx)
def om{α:Type}(l:List α):(chunks l).length=(l.length+15)/16:=by simp[chunks,ew]
def au9(a:At):Prop:=(0<=a.fl/\a.fl<=7)/\(0<=a.vd/\a.vd<=1000000)/\(0<=a.sz/\a.sz<=1000000)
def Lc(ps:List PV)(x:PV):Prop:=∃s:St,ps=[sP s]/\(s.d.a_.length<=1000000/\s.pl.length<=128/\MH s.d.a_ s.pl/\au9 s.a)/\x=.str (aV s)
def acW:MT (ay [(179,bF oA),(202,P8),(204,ah QP),(203,By),(205,ah agE),(165,ah EI),(143,ah AN)]) tB (ah Lc):=by
 rintro _ K ⟨_,⟨s,rfl,⟨h1,h2,h3,h4⟩,rfl⟩,hK⟩;obtain⟨h5,h6,h7⟩:=h4;unfold aV at hK;cases c_:s.a.rs with
 |true=>
  rw[if_pos c_]at hK
  (repeat'((conv=>whnf);first|rw[c_]|fail))<;>try(conv=>whnf)
  exact bM
 |false=>
  rw[if_neg qD]at hK;by_cases hc:s.a.fl%2=1
  ·rw[if_pos hc]at hK
   (repeat'((conv=>whnf);first|rw[c_]|(refine⟨_,⟨s,rfl,h5,rfl⟩,?_⟩)|refine CS (σ:=[]) (λ_=>?_)|(refine fe ?_;first|refine au ab ?_|refine dq λ_=>?_|refine⟨_,rfl,dY,?_⟩|fail)))<;>try(conv=>whnf)
   have mE:=om s.pl;have AQ:∀c∈chunks s.pl,c.length<=16∧∀x∈c,x∈s.pl:=λc hc=>Ur hc
   generalize chunks s.pl=cs at*;refine⟨λm env σ=>∃(n:Nat),n+m=cs.length/\σ=[]/\env=[(0,.pv (sP s)),(3,.pv (.str (ow s.d.a_ (cs.take n)))),(23,.pv (nP cs)),eN 24 cs.length,eN 25 n],cs.length,⟨0,ab,rfl,by simp[ow,GO]⟩,?_⟩;rintro m env σ ⟨n,hn,rfl,rfl⟩;have Vr:=ajz s.d.a_ (cs.take n);rw[zal]at Vr;by_cases aU:n<cs.length
   ·obtain⟨c,WS⟩:∃c,cs[n]?=some c:=⟨_,zah aU⟩
    have YZ:=AQ c (zag WS);have qH:=AJ s.d.a_ c;have hT:ow s.d.a_ (cs.take (n+1))=ow s.d.a_ (cs.take n)++(b9 (dF s.d.a_ c)).1:=by
     rw[zck,WS];simp[ow]
    have xf:=L2 (dF s.d.a_ c);have dI:nP cs=.sl 1 (cs.map rI):=alP aaV
    (repeat'((conv=>whnf);first|rw[dI]|refine⟨_,⟨s,c,rfl,⟨ab,ab,λx hx=>h3 x (YZ.2 x hx)⟩,rfl⟩,?_⟩|(refine fe ?_;first|refine bj ab ?_|refine au ab ?_|refine iY aA ?_|refine⟨_,rfl,dY,?_⟩|refine wz ?_|fail)))<;>try(conv=>whnf)
    exact Bq
   ·(repeat'(refine iM ?_;first|refine aw ab ?_|refine⟨_,⟨_,_,rfl,dY,rfl⟩,?_⟩|fail))<;>try(conv=>whnf)
    rw[za1 ab];exact bM
  ·rw[if_neg hc]at hK
   (repeat'((conv=>whnf);first|rw[c_]|(refine⟨_,⟨s,rfl,h5,rfl⟩,?_⟩)|refine aw ab ?_|refine dq λ_=>?_|fail))<;>try(conv=>whnf)
   refine⟨λm env σ=>∃(n:Nat),n+m=s.pl.length/\σ=[]/\env=[(0,.pv (sP s)),(3,.pv (.str (rz s.d.a_ (s.pl.take n)))),(46,.pv (rI s.pl)),eN 47 s.pl.length,eN 48 n],s.pl.length,⟨0,ab,rfl,by simp[rz,GO]⟩,?_⟩;rintro m env σ ⟨n,hn,rfl,rfl⟩;have vu:=YO (B:=s.d.a_) (l:=s.pl.take n) (λx hx=>h3 x (zaL hx));rw[zal]at vu;by_cases aU:n<s.pl.length
   ·obtain⟨c,WS⟩:∃c,s.pl[n]?=some c:=⟨_,zah aU⟩
    have hT:rz s.d.a_ (s.pl.take (n+1))=rz s.d.a_ (s.pl.take n)++(if c= -1 then ai 256 else eU s.d.a_ c.toNat):=by
     rw[zck,WS];simp[rz]
    have YZ:=h3 c (zag WS);by_cases h0:c= -1
    ·subst h0;rw[if_pos rfl]at hT
     (repeat'((conv=>whnf);first|refine zcd aiY ?_|(refine fe ?_;first|refine bj ab ?_|refine au ab ?_|refine iY aA ?_|refine⟨_,⟨_,rfl,dY,rfl⟩,?_⟩|fail)))<;>try(conv=>whnf)
     exact Bq
    ·obtain⟨k,rfl⟩:∃k:Nat,c=k:=⟨c.toNat,ab⟩
     have mE:(eU s.d.a_ k).length=256:=gI ab;rw[if_neg h0]at hT
     (repeat'((conv=>whnf);first|refine⟨_,⟨s,k,rfl,ab,rfl⟩,?_⟩|refine zcd (by(rw[vu,mE];omega)) ?_|refine bj ab ?_|refine au ab ?_|refine aw ab ?_|refine iY aA ?_|fail))<;>try(conv=>whnf)
     exact Bq
   ·(repeat'(refine iM ?_;first|refine aw ab ?_|refine⟨_,⟨_,_,rfl,dY,rfl⟩,?_⟩|fail))<;>try(conv=>whnf)
    rw[za1 ab];exact bM
def pG(d:Dk)(pl:List Int):Int:=if ∃a∈pl,(d.n:Int)<=a then 2 else if ∃a∈pl,a≠ -1/\bH d.mp a.toNat=0 then 14 else 0
def Lb(ps:List PV)(x:PV):Prop:=∃s:St,ps=[sP s]/\(s.d.a_.length<=1000000/\s.d.mp.length<=1000000/\nu s.d.mp s.d.n=0/\s.pl.length<=1000000∧∀a∈s.pl,-1<=a)/\x=pI (pG s.d s.pl)
def V_:MT (ay [(124,ah bA),(88,bF Hj),(217,bF uy),(115,bF GM),(126,XF)]) rq (ah Lb):=by
 rintro _ K ⟨_,⟨s,rfl,⟨h1,h2,h3,h4,h5⟩,rfl⟩,hK⟩;unfold pG at hK
 (repeat'((conv=>whnf);first|refine⟨_,⟨s.d,rfl,h1,rfl⟩,?_⟩|refine⟨_,⟨s.pl,(s.d.n:Int),rfl,h4,rfl⟩,?_⟩|refine de (λ_=>?_) (λ_=>?_)|refine dq λ_=>?_|refine bT ?_|fail))<;>try(conv=>whnf)
 ·rename_i x;rw[if_pos x]at hK;exact aG
 rename_i tT _;rw[if_neg tT]at hK;refine⟨λm env σ=>∃(n:Nat),n+m=s.pl.length/\(∀j,j<n→∀y,s.pl[j]?=some y→¬(y≠ -1/\bH s.d.mp y.toNat=0))/\σ=[.fz (.cptr (pI s.d.n))]/\env=[(0,.pv (sP s)),(3,.ref 0 0 0),(22,.pv (rI s.pl)),eN 23 s.pl.length,eN 24 n],s.pl.length,⟨0,ab,λj hj=>ab,rfl,rfl⟩,?_⟩;rintro m env σ ⟨n,hn,aHp,rfl,rfl⟩;by_cases aU:n<s.pl.length
 ·obtain⟨c,WS⟩:∃c,s.pl[n]?=some c:=⟨_,zah aU⟩
  have hm:=zag WS;have YZ:=h5 c hm;have aym:¬(s.d.n:Int)<=c:=λh=>tT ⟨c,hm,h⟩
  have Gs:¬(c≠ -1/\bH s.d.mp c.toNat=0)→∀j,j<n+1→∀y,s.pl[j]?=some y→¬(y≠ -1/\bH s.d.mp y.toNat=0):=by
   intro hh j hj y hy;rcases zcb (zcl hj)with h1|h1
   ·exact aHp j h1 y hy
   ·subst h1;rw[WS]at hy;cases hy;exact hh
  by_cases h0:c= -1
  ·subst h0
   (repeat'(refine iM ?_;first|refine bj ab ?_|refine aN ?_|refine au ab ?_|refine iY aA ?_|refine⟨_,⟨_,rfl,rfl⟩,?_⟩|fail))<;>try(conv=>whnf)
   exact⟨m-1,ab,n+1,ab,Gs (λh=>h.1 rfl),rfl,rfl⟩
  ·have hb:aqn s.d.mp s.d.n c=bH s.d.mp c.toNat:=by
    unfold aqn ac0;rw[h3];simp;intro h;omega
   (repeat'((conv=>whnf);first|refine⟨s.d.mp,(s.d.n:Int),c,rfl,h2,?_⟩|(refine fe ?_;first|refine bj ab ?_|refine bP ?_|refine au ab ?_|refine aw ab ?_|refine de (λ_=>?_) (λ_=>?_)|refine iY aA ?_|refine bT ?_|refine⟨_,⟨_,rfl,rfl⟩,?_⟩|fail)))<;>try(conv=>whnf)
   ·rename_i x;rw[if_pos ⟨c,hm,h0,ab⟩]at hK;exact aG
   ·rename_i x;exact⟨m-1,ab,n+1,ab,Gs (λh=>ab),rfl,rfl⟩
 ·rw[if_neg (by rintro⟨a,ha,hh⟩;obtain⟨k,hk⟩:=jk.1 ha;exact aHp k vg a hk hh)]at hK
  (repeat'((conv=>whnf);first|refine aw ab ?_|fail))<;>try(conv=>whnf)
  exact aG
def aa(c:List Int):Prop:=WD (λy=>y= -1) c<0\/bt (c.drop (WD (λy=>y= -1) c).toNat)=0
def lJ(a:At)(pl:List Int):Prop:=a.al=bt pl*256/\if a.fl%2=1 then(pl.length:Int)=(a.sz+4095)/4096*16∧∀c∈chunks pl,aa c else(pl.length:Int)=(a.sz+255)/256/\(a.fl/2%2=1\/bt pl=pl.length)
noncomputable def iW(a:At)(pl:List Int):Int:=open Classical in if lJ a pl then 0 else 3
def aFl(c:List Int)(k:Nat):[PV.sl 1 (cut k (c.map pI).length (c.map pI))]=[rI (c.drop k)]:=by
 unfold cut;rw[zcV,<-zc7]
def OX(ps:List PV)(x:PV):Prop:=∃s:St,ps=[sP s]/\(s.pl.length<=10000/\au9 s.a)/\x=pI (iW s.a s.pl)
def abw:MT (ay [(194,ah Uc),(179,bF oA),(218,ah K4),(202,P8),(219,ah Sx),(220,bF K7),(113,ah dG)]) gz (ah OX):=by
 rintro _ K ⟨_,⟨s,rfl,⟨h1,h2⟩,rfl⟩,hK⟩;obtain⟨h5,h6,h7⟩:=h2;have Vr:=oG s.pl;have mE:=om s.pl;have AQ:∀c∈chunks s.pl,c.length<=16∧∀x∈c,x∈s.pl:=λc hc=>Ur hc
 by_cases hc:s.a.fl%2=1
 ·have hS:lJ s.a s.pl↔(s.a.al=bt s.pl*256/\(s.pl.length:Int)=(s.a.sz+4095)/4096*16)∧∀c∈chunks s.pl,aa c:=by
   unfold lJ;rw[if_pos hc,and_assoc]
  have gR:∀r:Bool,(r=true↔(s.a.al=bt s.pl*256/\(s.pl.length:Int)=(s.a.sz+4095)/4096*16)∧∀c∈chunks s.pl,aa c)->K (.pv (pI (if r=true then 0 else 3))):=by
   intro r hr;unfold iW at hK;rw[<-hS]at hr;by_cases h:lJ s.a s.pl
   ·rw[if_pos h]at hK;rw[if_pos (hr.2 h)];exact hK
   ·rw[if_neg h]at hK;rw[if_neg (λe=>h (hr.1 e))];exact hK
  clear hS hK;generalize hP:(s.a.al=bt s.pl*256/\(s.pl.length:Int)=(s.a.sz+4095)/4096*16)=P at*;generalize sH:chunks s.pl=cs at*
  (repeat'((conv=>whnf);first|refine⟨_,⟨s.pl,rfl,ab,rfl⟩,?_⟩|(refine⟨_,⟨s,rfl,h5,rfl⟩,?_⟩)|refine⟨s,rfl,ab,?_⟩|rw[sH]|refine CS (σ:=[]) (λ_=>?_)|(refine fe ?_;first|refine bj ab ?_|refine au ab ?_|refine de (λ_=>?_) (λ_=>?_)|refine dq λ_=>?_|refine bT ?_|refine⟨_,⟨_,_,rfl,dY,rfl⟩,?_⟩|fail)))<;>try(conv=>whnf)
  all_goals
   refine⟨λm env σ=>∃(n:Nat) (r:Bool),n+m=cs.length/\(r=true↔P∧∀c∈cs.take n,aa c)/\σ=[]/\env=[(3,.pv (.bool r)),(71,.pv (nP cs)),eN 72 cs.length,eN 73 n],cs.length,⟨0,_,ab,?_,rfl,rfl⟩,?_⟩
   ·have e0:(s.pl.map pI).length=s.pl.length:=zaw _;rw[<-hP];simp<;>omega
   rintro m env σ ⟨n,r,hn,hr,rfl,rfl⟩;by_cases aU:n<cs.length
   ·obtain⟨c,WS⟩:∃c,cs[n]?=some c:=⟨_,zah aU⟩
    have YZ:=AQ c (zag WS);have dI:nP cs=.sl 1 (cs.map rI):=alP aaV;have hT:(∀x∈cs.take (n+1),aa x)↔(∀x∈cs.take n,aa x)/\aa c:=by
     rw[zck,WS];simp only[zc3,zaA,zcS];exact⟨λh=>⟨λx hx=>h x (.inl hx),h c (.inr rfl)⟩,λh x hx=>hx.elim (h.1 x) λe=>e▸h.2⟩
    have ayC:∀r':Bool,(r'=true↔r=true/\aa c)->(r'=true↔P∧∀x∈cs.take (n+1),aa x):=λr' ic=>by
     rw[ic,hr,hT,and_assoc]
    clear hr hT gR;cases r with
    |false=>
     (repeat'((conv=>whnf);first|rw[dI]|refine⟨_,⟨c,-1,rfl,ab,rfl⟩,?_⟩|refine bj ab ?_|refine au ab ?_|refine iY aA ?_|fail))<;>try(conv=>whnf)
     exact⟨m-1,ab,n+1,false,ab,ayC false aj,rfl,rfl⟩
    |true=>
     have xf:=oG (c.drop (WD (λy=>y= -1) c).toNat);have XM: -1<=WD (λy=>y= -1) c/\WD (λy=>y= -1) c<=c.length:=by
      rcases Az (p:=λy=>y=(-1:Int)) c with⟨h,_⟩|⟨i,x,h,h2,_⟩
      ·omega
      ·have:=eT h2;omega
     (repeat'((conv=>whnf);first|rw[dI]|refine⟨_,⟨c,-1,rfl,ab,rfl⟩,?_⟩|refine⟨_,⟨c.drop (WD (λy=>y= -1) c).toNat,aFl _ _,aH,rfl⟩,?_⟩|refine bj ab ?_|refine au ab ?_|refine de (λ_=>?_) (λ_=>?_)|refine iY aA ?_|refine zcd cu ?_|fail))<;>try(conv=>whnf)
     ·rename_i x;exact⟨m-1,ab,n+1,true,ab,ayC true (by simp[aa,x]),rfl,rfl⟩
     ·rename_i x y;exact⟨m-1,ab,n+1,true,ab,ayC true (by simp[aa];right;omega),rfl,rfl⟩
     ·rename_i x y;exact⟨m-1,ab,n+1,false,ab,ayC false (by simp[aa];omega),rfl,rfl⟩
   ·have:=gR r (by rw[hr,za1 ab]);clear gR
    (repeat'(refine iM ?_;first|refine aw ab ?_|refine⟨_,⟨_,_,rfl,rfl⟩,?_⟩|fail))<;>try(conv=>whnf)
    exact⟨.pv (pI _),rfl,trivial,this⟩
 ·have hS:lJ s.a s.pl↔(s.a.al=bt s.pl*256/\(s.pl.length:Int)=(s.a.sz+255)/256/\(s.a.fl/2%2=1\/bt s.pl=s.pl.length)):=by
   unfold lJ;rw[if_neg hc]
  have gR:∀r:Bool,(r=true↔(s.a.al=bt s.pl*256/\(s.pl.length:Int)=(s.a.sz+255)/256/\(s.a.fl/2%2=1\/bt s.pl=s.pl.length)))->K (.pv (pI (if r=true then 0 else 3))):=by
   intro r hr;unfold iW at hK;rw[<-hS]at hr;by_cases h:lJ s.a s.pl
   ·rw[if_pos h]at hK;rw[if_pos (hr.2 h)];exact hK
   ·rw[if_neg h]at hK;rw[if_neg (λe=>h (hr.1 e))];exact hK
  clear hS hK;have e0:(s.pl.map pI).length=s.pl.length:=zaw _;refine oQ ?_;refine⟨_,⟨s.pl,rfl,ab,rfl⟩,?_⟩;refine bj ab ?_;refine de (λh8=>?_) (λh8=>?_)
  ·refine⟨_,⟨s,rfl,h5,rfl⟩,?_⟩;refine aw hc ?_;refine oQ ?_;refine⟨_,⟨_,_,rfl,ab,rfl⟩,?_⟩;refine de (λh9=>?_) (λh9=>?_)
   ·refine⟨_,⟨s,rfl,h5,rfl⟩,?_⟩;refine de (λXK=>?_) (λXK=>?_)
    ·refine⟨_,⟨true,3,rfl,rfl⟩,?_⟩;exact⟨.pv (pI _),rfl,trivial,gR true aH⟩
    ·refine⟨_,⟨s.pl,rfl,ab,rfl⟩,?_⟩;refine de (λgT=>?_) (λgT=>?_)
     ·refine⟨_,⟨true,3,rfl,rfl⟩,?_⟩;exact⟨.pv (pI _),rfl,trivial,gR true aH⟩
     ·refine⟨_,⟨false,3,rfl,rfl⟩,?_⟩;exact Yl
   ·refine⟨_,⟨false,3,rfl,rfl⟩,?_⟩;exact Yl
  ·refine⟨_,⟨s,rfl,h5,rfl⟩,?_⟩;refine aw hc ?_;refine oQ ?_;refine⟨_,⟨false,3,rfl,rfl⟩,?_⟩;exact Yl
def gm(d:Dk):Int:=if d.a_.length%256≠0 then 10 else if 512<d.n then 2 else nu d.mp d.n
def dm(ps:List PV)(x:PV):Prop:=∃d:Dk,ps=[d.pv]/\(d.a_.length<=1000000/\d.mp.length<=1000000)/\x=pI (gm d)
def Wy:MT (ay [(113,ah dG),(124,ah bA),(125,ah HN),(111,ah gB)]) Bm (ah dm):=by
 rintro _ K ⟨_,⟨d,rfl,⟨h1,h2⟩,rfl⟩,hK⟩;have hn:d.n<=10000:=so
 (repeat'((conv=>whnf);first|refine oQ ?_|(refine⟨_,⟨d,rfl,ab,rfl⟩,?_⟩)|(refine⟨_,⟨d.mp,min (d.n:Int) 512,rfl,ab,rfl⟩,?_⟩)|(refine fe ?_;first|refine de (λ_=>?_) (λ_=>?_)|refine MIN ?_|refine lW ab ?_|refine⟨_,⟨_,_,rfl,rfl⟩,?_⟩|refine⟨_,⟨[_,_,_],rfl,rfl⟩,?_⟩|fail)))<;>try(conv=>whnf)
 all_goals
  refine⟨.pv (pI _),?_,trivial,hK⟩;refine bu ?_;simp only[bQ,if_true,zbZ,if_false];unfold gm;split<;>(try split)<;>(try omega)
 all_goals(try rw[show(min (d.n:Int) 512)=d.n by omega])
 all_goals simp_all
def oT(a:At):Int:=if gu a≠0 then gu a else if a.ty≠128\/4<=a.fl\/a.fl=3 then 15 else if a.ft≠0 then 20 else if 32768<a.sz then 2 else 0
def Dy(ps:List PV)(x:PV):Prop:=∃a:At,ps=[a.pv]/\a.nm.length<=1000000/\x=pI (oT a)
def aAJ{a:Int}(h:0<=a/\a<=7):iz .and .i64 a 4=4*(a/4%2):=by
 obtain⟨n,rfl⟩:∃n:Nat,a=n:=⟨a.toNat,ab⟩
 obtain rfl|rfl|rfl|rfl|rfl|rfl|rfl|rfl:n=0\/n=1\/n=2\/n=3\/n=4\/n=5\/n=6\/n=7:=ab;all_goals rfl
def aB7{a:Int}(h:0<=a/\a<=7):iz .and .i64 a 3=a%4:=by
 obtain⟨n,rfl⟩:∃n:Nat,a=n:=⟨a.toNat,ab⟩
 obtain rfl|rfl|rfl|rfl|rfl|rfl|rfl|rfl:n=0\/n=1\/n=2\/n=3\/n=4\/n=5\/n=6\/n=7:=ab;all_goals rfl
def afv{a:At}(h:gu a=0):0<=a.fl/\a.fl<=7:=by
 unfold gu at h;split at h
 ·rename_i g;exact sF
 ·rename_i g;exact(acN.of (zb2.1 g)).GZ.2
def VO:MT (ay [(112,ah nC),(113,ah dG),(111,ah gB)]) B3 (ah Dy):=by
 rintro _ K ⟨_,⟨a,rfl,h1,rfl⟩,hK⟩
 (repeat'((conv=>whnf);first|refine oQ ?_|(refine⟨_,⟨a,rfl,h1,rfl⟩,?_⟩)|(refine⟨_,⟨[_,_,_,_],rfl,rfl⟩,?_⟩)|(refine fe ?_;first|refine aN ?_|refine bP ?_|refine de (λ_=>?_) (λ_=>?_)|refine aFZ ?_|refine⟨_,⟨_,_,rfl,rfl⟩,?_⟩|fail)))<;>try(conv=>whnf)
 all_goals
  refine⟨.pv (pI _),?_,trivial,hK⟩;refine bu ?_;simp only[bQ,if_true,zbZ,if_false];unfold oT;by_cases hz:gu a=0
  ·have hf:=afv hz;have h4:=aAJ hf;have h3:=aB7 hf;simp only[hz,ne_eq,not_true_eq_false,if_false];split<;>(try split)<;>(try split)<;>(try omega)
   all_goals(try(rename_i h;exact absurd trivial h))
   all_goals(try rw[h4]at*)
   all_goals(try rw[h3]at*)
   all_goals first
    |omega
    |(simp_all;done)
    |(simp_all<;>omega)
  ·simp[hz]
def TE(f:Nat->Int)(n:Nat):Int:=bQ ((List.range n).map f)
def amm(a b:List Int):bQ (a++b)=if bQ a=0 then bQ b else bQ a:=by
 induction a with
 |nil=>simp[bQ]
 |cons x a ih=>
  simp only[zbd,bQ];by_cases h:x=0
  ·simp only[h,if_true];exact ih
  ·simp[h]
def adU(f:Nat->Int)(n:Nat):TE f (n+1)=if TE f n=0 then f n else TE f n:=by
 unfold TE;rw[zdj,zbs,amm];by_cases h:f n=0<;>simp[bQ,h]
def AG{f:Nat->Int}:∀{n:Nat},TE f n=0↔∀j,j<n->f j=0
 |0=>by simp[TE,bQ]
 |n+1=>by
  rw[adU];constructor
  ·intro h j hj;split at h
   ·rename_i g;rcases zcb (zcl hj)with h1|h1
    ·exact AG.1 g j h1
    ·rw[h1];exact h
   ·rename_i g;exact sF
  ·intro h;rw[if_pos (AG.2 λj hj=>h j ab)];exact h n ab
def agf{f:Nat->Int}{i:Nat}:∀{n:Nat},(∀j,j<i->f j=0)->i<n->f i≠0->TE f n=f i
 |0,_,h,_=>by omega
 |n+1,h0,h,dI=>by
  rw[adU];by_cases hi:i<n
  ·rw[agf h0 hi dI,if_neg dI]
  ·have:i=n:=by omega
   subst this;rw[if_pos (AG.2 h0)]
def mZ(vd:Int)(i:Nat):Nat:=(min (max 0 (vd-i*4096)) 4096).toNat
def xC(B:List UInt8)(vd:Int)(i:Nat)(c:List Int):Int:=
 if (b9 (dF B c)).2≠0 then(b9 (dF B c)).2
 else if (0<bt c/\(b9 (dF B c)).1=ai 4096)\/(b9 (dF B c)).1.drop (mZ vd i)≠ai (4096-mZ vd i)then 19 else 0
def qw(B:List UInt8)(vd:Int)(cs:List (List Int)):Int:=TE (λi=>xC B vd i (cs[i]?.getD [])) cs.length
def HC{s:List UInt8}(h:(b9 s).2=0):(b9 s).1.length=4096:=by
 unfold b9 at h ⊢;split
 ·rename_i g;rw[if_pos g]at h;cases h
 rename_i g;rw[if_neg g]at h;split
 ·exact aW _
 rename_i g;rw[if_neg g]at h;split
 ·assumption
 rename_i g;rw[if_neg g]at h;split
 ·rename_i g;rw[if_pos g]at h;cases h
 rename_i g;rw[if_neg g]at h;split
 ·rename_i g;rw[if_pos g]at h;cases h
 rename_i g;rw[if_neg g]at h;split
 ·rename_i g;rw[if_pos g]at h;cases h
 rename_i g;rw[if_neg g]at h;split
 ·rename_i g;rw[if_pos g]at h;exact sF
 rename_i g;rw[if_neg g]at h;split
 ·rename_i g;rw[if_pos g]at h;cases h
 rename_i g;rw[if_neg g]at h;split
 ·rename_i g;rw[if_pos g]at h;cases h
 ·exact zb2.1 aA
def SZ{α:Type}(k:Nat)(l:List α):cut k l.length l=l.drop k:=by unfold cut;rw[zcV]
def OG(ps:List PV)(x:PV):Prop:=∃s:St,ps=[sP s]/\(s.d.a_.length<=1000000/\s.pl.length<=10000/\MH s.d.a_ s.pl/\au9 s.a)/\x=pI (qw s.d.a_ s.a.vd (chunks s.pl))
def abH:MT (ay [(202,P8),(204,ah QP),(203,By),(194,ah Uc),(165,ah EI)]) sm (ah OG):=by
 rintro _ K ⟨_,⟨s,rfl,⟨h1,h2,h3,h4⟩,rfl⟩,hK⟩;obtain⟨h5,h6,h7⟩:=h4;unfold qw at hK;have mE:=om s.pl;have AQ:∀c∈chunks s.pl,c.length<=16∧∀x∈c,x∈s.pl:=λc hc=>Ur hc
 generalize sH:chunks s.pl=cs at*;generalize hF:(λi=>xC s.d.a_ s.a.vd i (cs[i]?.getD []))=F at*
 (repeat'((conv=>whnf);first|refine⟨s,rfl,ab,?_⟩|rw[sH]|refine CS (σ:=[]) (λ_=>?_)|refine dq λ_=>?_|fail))<;>try(conv=>whnf)
 refine⟨λm env σ=>∃n:Nat,n+m=cs.length/\(∀j,j<n->F j=0)/\σ=[]/\env=[(0,.pv (sP s)),(10,.pv (nP cs)),eN 11 cs.length,eN 12 n],cs.length,⟨0,ab,λj hj=>ab,rfl,rfl⟩,?_⟩;rintro m env σ ⟨n,hn,h0,rfl,rfl⟩;by_cases aU:n<cs.length
 ·obtain⟨c,WS⟩:∃c,cs[n]?=some c:=⟨_,zah aU⟩
  have YZ:=AQ c (zag WS);have qH:=AJ s.d.a_ c;have dI:nP cs=.sl 1 (cs.map rI):=alP aaV;have lY:F n=xC s.d.a_ s.a.vd n c:=by rw[<-hF];simp only;rw[WS];rfl
  have LU:xC s.d.a_ s.a.vd n c≠0->K (.pv (pI (xC s.d.a_ s.a.vd n c))):=λh=>by
   rw[agf h0 aU (by rw[lY];exact h),lY]at hK;exact hK
  have aoH:xC s.d.a_ s.a.vd n c=0→∀j,j<n+1->F j=0:=λh j hj=>by
   rcases zcb (zcl hj)with h1|h1
   ·exact h0 j h1
   ·rw[h1,lY];exact h
  have Vr:=oG c;clear hK hF;unfold xC at LU aoH;have hlen:(b9 (dF s.d.a_ c)).2=0->(b9 (dF s.d.a_ c)).1.length=4096:=HC;generalize hU:b9 (dF s.d.a_ c)=U at*;obtain⟨own,e⟩:=U;simp only at LU aoH hlen;have G1:e≠0->K (.pv (pI e)):=λh=>by
   have:=LU (by rw[if_pos h];exact h);rw[if_pos h]at this;exact this
  have t_:¬e≠0->((0<(bt c:Int)/\own=ai (4096:Int).toNat)\/cut (min (max 0 (s.a.vd-n*4096)) 4096).toNat own.length own≠ai (4096-min (max 0 (s.a.vd-n*4096)) 4096).toNat)->K (.pv (pI 19)):=λh h2=>by
   rw[SZ,show(4096-min (max 0 (s.a.vd-n*4096)) 4096).toNat=4096-mZ s.a.vd n by unfold mZ;omega]at h2;have h2:(0<bt c/\own=ai 4096)\/own.drop (mZ s.a.vd n)≠ai (4096-mZ s.a.vd n):=h2.imp (λh=>⟨ab,h.2⟩) id;have:=LU (by rw[if_neg h,if_pos h2];decide);rw[if_neg h,if_pos h2]at this;exact this
  have hg:¬e≠0→¬((0<(bt c:Int)/\own=ai (4096:Int).toNat)\/cut (min (max 0 (s.a.vd-n*4096)) 4096).toNat own.length own≠ai (4096-min (max 0 (s.a.vd-n*4096)) 4096).toNat)→∀j,j<n+1->F j=0:=λh h2=>by
   rw[SZ,show(4096-min (max 0 (s.a.vd-n*4096)) 4096).toNat=4096-mZ s.a.vd n by unfold mZ;omega]at h2;have h2:¬((0<bt c/\own=ai 4096)\/own.drop (mZ s.a.vd n)≠ai (4096-mZ s.a.vd n)):=λg=>h2 (g.imp (λh=>⟨ab,h.2⟩) id)
   exact aoH (by rw[if_neg h,if_neg h2])
  clear LU aoH
  (repeat'((conv=>whnf);first|rw[dI]|refine⟨_,⟨s,c,rfl,⟨ab,ab,λx hx=>h3 x (YZ.2 x hx)⟩,rfl⟩,?_⟩|rw[hU]|(refine fe ?_;first|refine bj ab ?_|refine au ab ?_|refine de (λ_=>?_) (λ_=>?_)|refine fQ ?_|refine MIN ?_|refine iY aA ?_|refine bT ?_|refine⟨_,⟨_,rfl,dY,rfl⟩,?_⟩|refine⟨_,rfl,dY,?_⟩|refine zcd cu ?_|fail)))<;>try(conv=>whnf)
  ·rename_i x;exact⟨.pv (pI _),rfl,trivial,G1 x⟩
  ·rename_i x y z;exact⟨.pv (pI _),rfl,trivial,t_ x (.inl ⟨y,z⟩)⟩
  ·rename_i x y z w;exact⟨.pv (pI _),rfl,trivial,t_ x (.inr w)⟩
  ·rename_i x y z w;exact⟨m-1,ab,n+1,ab,hg x (λg=>g.elim (λg=>z g.2) (λg=>w g)),rfl,rfl⟩
  ·rename_i x y w;exact⟨.pv (pI _),rfl,trivial,t_ x (.inr w)⟩
  ·rename_i x y w;exact⟨m-1,ab,n+1,ab,hg x (λg=>g.elim (λg=>y g.1) (λg=>w g)),rfl,rfl⟩
 ·rw[AG.2 λj hj=>h0 j ab]at hK
  (repeat'((conv=>whnf);first|refine aw ab ?_|fail))<;>try(conv=>whnf)
  exact aG
def xA{l:List Rn}(h:∀r∈l,0<=r.n):((az l).length:Int)=bI l:=by
 unfold az
 induction l with
 |nil=>simp[bI]
 |cons r l ih=>
  rw[zao,zad,EK];have:=ih λq hq=>h q kF
  have:=h r aj;simp only[bI,zau,zdr]at*;omega
def aia{l:List Rn}{a:Int}(h:a∈az l):∃r∈l,∃i:Nat,(i:Int)<r.n/\a=if r.s= -1 then-1 else r.s+(i:Int):=by
 unfold az at h;rw[zbA]at h;obtain⟨r,hr,ha⟩:=h;unfold iV at ha;rw[zaX]at ha;obtain⟨i,hi,rfl⟩:=ha;exact⟨r,hr,i,by have:=zbm.1 hi;omega,rfl⟩
def rG{r:Rn}(h:jZ r):(1<=r.n/\r.n<=4096)/\(-1<=r.s/\r.s<=511)/\(r.s≠ -1->r.s+r.n<=512):=by
 unfold jZ at h;split at h<;>omega
def arU{l:List Rn}(h:∀r∈l,jZ r):∀a∈az l,-1<=a/\a<=511:=by
 intro a ha;obtain⟨r,hr,i,hi,rfl⟩:=aia ha;have:=rG (h r hr);split<;>omega
def ar(d:Dk)(a:At):St:=⟨a,d,az a.rn.l⟩
noncomputable def aK(d:Dk)(a:At):Int:=
 if gm d≠0 then gm d else if oT a≠0 then oT a else if a.rs=true then 0
 else if pG d (az a.rn.l)≠0 then pG d (az a.rn.l)else if iW a (az a.rn.l)≠0 then iW a (az a.rn.l)
 else if a.fl%2=1 then qw d.a_ a.vd (chunks (az a.rn.l))else 0
def fH(d:Dk):Prop:=d.a_.length<=1000000/\d.mp.length<=1000000
def xt:Spec:=EM false false λps K=>∃(d:Dk) (a:At),ps=[d.pv,a.pv]/\(fH d/\a.nm.length<=1000000)/\(aK d a=0->K (.tup [.pv (sP (ar d a)),.pv (pI 0)]))/\(aK d a≠0→∀v,v=.val (.pointer none)\/v=sP (ar d a)->K (.tup [.pv v,.pv (pI (aK d a))]))
def lE{a:At}(h:oT a=0):gu a=0/\a.ty=128/\(0<=a.fl/\a.fl<=2)/\a.ft=0/\a.sz<=32768:=by
 unfold oT at h;split at h
 ·rename_i g;exact sF
 rename_i g;have g:=zb2.1 g;have:=afv g;split at h
 ·cases h
 split at h
 ·cases h
 split at h
 ·cases h
 ·refine⟨g,ab,ab,ab,ab⟩
def Ms{a:At}(h:gu a=0):acN a:=by
 unfold gu at h;split at h
 ·rename_i g;exact sF
 ·rename_i g;exact acN.of (zb2.1 g)
def tH{a:At}(h:oT a=0):dU a.rn.l=0:=by
 have g:=Ms (lE h).1;cases hr:a.rs with
 |true=>
  have:=(g.rs hr).1;have e:a.rn.l=[]:=by simpa using this
  rw[e];rfl
 |false=>exact(g.ot hr).2.2.2.1
def ai5{a:At}(h:oT a=0):(az a.rn.l).length<=4096∧∀x∈az a.rn.l,-1<=x/\x<=511:=by
 have g:=bZ (tH h);have h1:=xA (l:=a.rn.l) λr hr=>by have:=rG (g.2.2.2 r hr);omega
 exact⟨ab,arU g.2.2.2⟩
def rX{d:Dk}(h:gm d=0):d.a_.length%256=0/\d.n<=512/\nu d.mp d.n=0:=by
 unfold gm at h;split at h
 ·cases h
 split at h
 ·cases h
 ·exact⟨ab,ab,h⟩
def abC{d:Dk}{pl:List Int}(hb:∀x∈pl,-1<=x)(h:pG d pl=0):MH d.a_ pl:=by
 unfold pG at h;split at h
 ·cases h
 rename_i g;intro n hn;have h1:=hb n hn;have h2:¬(d.n:Int)<=n:=λe=>g ⟨n,hn,e⟩
 by_cases h3:n= -1
 ·exact .inl h3
 ·refine .inr ⟨ab,?_⟩;unfold Dk.n at h2;omega
def tW{b:Bool}{P Q:Prop}:b=true->P->(match b with|true=>P|false=>Q):=by intro h k;subst h;exact k
def qT{b:Bool}{P Q:Prop}:b=false->Q->(match b with|true=>P|false=>Q):=by intro h k;subst h;exact k
def ajq:MT (ay [(67,ah dm),(176,ah Dy),(111,ah gB),(114,c8 false dL),(177,ah Lb),(178,ah OX),(179,bF oA),(180,ah OG)]) Of xt:=by
 rintro _ K ⟨d,a,rfl,⟨⟨h1,h2⟩,h3⟩,Gt,xy⟩;have hf:bQ [gm d,oT a]=if gm d=0 then oT a else gm d:=by
  show(if gm d=0 then(if oT a=0 then 0 else oT a)else gm d)=_;split
  ·split
   ·omega
   ·rfl
  ·rfl
 by_cases he:bQ [gm d,oT a]=0
 ·rw[hf]at he;have hd:gm d=0:=by
   by_cases h:gm d=0
   ·exact h
   ·rw[if_neg h]at he;exact he
  have hs:oT a=0:=by rw[if_pos hd]at he;exact he
  obtain⟨g1,g2,g3,g4,g5⟩:=lE hs;have ga:=Ms g1;obtain⟨q1,q2,q3⟩:=rX hd;have gr:=bZ (tH hs);obtain⟨gl,gb⟩:=ai5 hs;have hO:aK d a=if a.rs=true then 0 else if pG d (az a.rn.l)≠0 then pG d (az a.rn.l)else if iW a (az a.rn.l)≠0 then iW a (az a.rn.l)
   else if a.fl%2=1 then qw d.a_ a.vd (chunks (az a.rn.l))else 0:=by unfold aK;rw[if_neg ab,if_neg ab]
  have akC:dL [qF a.rn] (.pv (rI (az a.rn.l))):=⟨a.rn,rfl,⟨ab,λr hr=>abM⟩,rfl⟩
  have BB:sP (ar d a)=.cptr (.agg [pI a.ty,.str a.nm,pI a.id,pI a.fl,pB a.rs,.str a.vl,pI a.ft,qF a.rn,pI a.al,pI a.sz,pI a.vd,.str d.a_,.str d.mp,rI (az a.rn.l)]):=rfl;cases c_:a.rs with
  |true=>
   rw[if_pos c_]at hO
   (repeat'((conv=>whnf);first|refine oQ ?_|(refine⟨_,⟨d,rfl,ab,rfl⟩,?_⟩)|(refine⟨_,⟨a,rfl,h3,rfl⟩,?_⟩)|refine aw (by rw[hf];omega) ?_|refine⟨_,akC,?_⟩|refine tW c_ ?_|(refine fe ?_;first|refine⟨_,⟨[_,_],rfl,rfl⟩,?_⟩|fail)))<;>try(conv=>whnf)
   exact⟨[.pv _,.pv (pI _)],⟨rfl,rfl,trivial⟩,trivial,Gt hO⟩
  |false=>
   rw[if_neg qD]at hO;have Mi:=ga.ot c_;have LV:=Mi.2.2.2.2.2.1;unfold pL at LV;have aHq:au9 a:=⟨⟨ab,ab⟩,⟨ab,ab⟩,ab,ab⟩
   (repeat'((conv=>whnf);first|refine oQ ?_|(refine⟨_,⟨d,rfl,ab,rfl⟩,?_⟩)|(refine⟨_,⟨a,rfl,h3,rfl⟩,?_⟩)|refine aw (by rw[hf];omega) ?_|refine⟨_,akC,?_⟩|refine qT c_ ?_|refine⟨_,⟨ar d a,rfl,⟨h1,h2,q3,by show(az a.rn.l).length<=_;omega,λx hx=>(gb x hx).1⟩,rfl⟩,?_⟩|(refine fe ?_;first|refine de (λ_=>?_) (λ_=>?_)|refine⟨_,⟨[_,_],rfl,rfl⟩,?_⟩|fail)))<;>try(conv=>whnf)
   ·rename_i x;have x:pG d (az a.rn.l)≠0:=x;rw[if_pos x]at hO;rw[hO]at xy;exact⟨[.pv _,.pv (pI _)],⟨rfl,rfl,trivial⟩,trivial,xy x _ (.inl rfl)⟩
   rename_i x;have x:¬pG d (az a.rn.l)≠0:=x;rw[if_neg x]at hO;have avT:=abC (λx hx=>(gb x hx).1) (zb2.1 x)
   (repeat'((conv=>whnf);first|refine⟨_,⟨ar d a,rfl,⟨by show(az a.rn.l).length<=_;omega,aHq⟩,rfl⟩,?_⟩|(refine⟨_,⟨ar d a,rfl,⟨by show(0:Int)<=a.fl;omega,by show a.fl<=7;omega⟩,rfl⟩,?_⟩)|refine⟨_,⟨ar d a,rfl,⟨h1,by show(az a.rn.l).length<=_;omega,avT,aHq⟩,rfl⟩,?_⟩|refine de (λ_=>?_) (λ_=>?_)|fail))<;>try(conv=>whnf)
   all_goals
    have nK:K (.tup [.pv (sP (ar d a)),.pv (pI (aK d a))]):=by
     by_cases h0:aK d a=0
     ·have:=Gt h0;rw[h0];exact this
     ·exact xy h0 _ (.inr rfl)
   ·rename_i y z;have y:iW a (az a.rn.l)=0:=y;have z:a.fl%2=1:=z;rw[hO,if_neg ab,if_pos z]at nK;exact XU
   ·rename_i y z;have y:iW a (az a.rn.l)=0:=y;have z:¬a.fl%2=1:=z;rw[hO,if_neg ab,if_neg z,<-y]at nK;exact XU
   ·rename_i y;have y:¬iW a (az a.rn.l)=0:=y;rw[hO,if_pos y]at nK;exact XU
 ·have dI:aK d a=bQ [gm d,oT a]:=by
   rw[hf]at he ⊢;unfold aK;by_cases h:gm d=0
   ·rw[if_pos h]at he ⊢;rw[if_neg ab,if_pos he]
   ·rw[if_neg h]at he ⊢;rw[if_pos h]
  rw[dI]at xy;have xy:=xy he;clear dI Gt
  (repeat'((conv=>whnf);first|refine oQ ?_|(refine⟨_,⟨d,rfl,ab,rfl⟩,?_⟩)|(refine⟨_,⟨a,rfl,h3,rfl⟩,?_⟩)|refine au he ?_|(refine fe ?_;first|refine⟨_,⟨[_,_],rfl,rfl⟩,?_⟩|fail)))<;>try(conv=>whnf)
  exact⟨[.pv _,.pv (pI _)],⟨rfl,rfl,trivial⟩,trivial,xy _ (.inl rfl)⟩
def tQ(ps:List PV)(x:PV):Prop:=∃(d:Dk) (a:At),ps=[d.pv,a.pv]/\(fH d/\a.nm.length<=1000000)/\x=pI (aK d a)
def Q4:MT (ay [(127,xt)]) xD (ah tQ):=by
 rintro _ K ⟨_,⟨d,a,rfl,⟨h1,h2⟩,rfl⟩,hK⟩;refine⟨d,a,rfl,⟨h1,h2⟩,λh=>?_,λh v _=>?_⟩
 ·rw[h]at hK;exact aG
 ·exact aG
structure atF(d:Dk)(a:At):Prop where
 dk:gm d=0
 str:oT a=0
 nb:d.n<=512
 bm:nu d.mp d.n=0
 rn:dU a.rn.l=0
 fl:0<=a.fl/\a.fl<=2
 num:au9 a
 pl:MH d.a_ (az a.rn.l)
 len:(az a.rn.l).length<=128
 res:a.rs=true->a.rn.l=[]/\a.vl.length<=400
def aeg{a:At}{pl:List Int}:iW a pl=0↔lJ a pl:=by
 unfold iW;by_cases h:lJ a pl
 ·rw[if_pos h];simp[h]
 ·rw[if_neg h];simp[h]
def bc{d:Dk}{a:At}(h:aK d a=0):atF d a/\(a.rs=false->pG d (az a.rn.l)=0/\lJ a (az a.rn.l)/\(a.fl%2=1->qw d.a_ a.vd (chunks (az a.rn.l))=0)):=by
 unfold aK at h;split at h
 ·rename_i g;exact sF
 rename_i hd;have hd:=zb2.1 hd;split at h
 ·rename_i g;exact sF
 rename_i hs;have hs:=zb2.1 hs;obtain⟨g1,g2,g3,g4,g5⟩:=lE hs;have ga:=Ms g1;obtain⟨q1,q2,q3⟩:=rX hd;obtain⟨gl,gb⟩:=ai5 hs;split at h
 ·rename_i hr;obtain⟨r1,⟨_,_,r2,r3⟩,r4⟩:=ga.rs hr;have r1:a.rn.l=[]:=by simpa using r1
  refine⟨⟨hd,hs,q2,q3,tH hs,g3,⟨⟨ab,ab⟩,ab,ab⟩,?_,?_,λ_=>⟨r1,r4⟩⟩,λCW=>by rw[hr]at CW;cases CW⟩
  ·rw[r1];intro n hn;simp[az]at hn
  ·rw[r1];simp[az]
 rename_i hr;have hr:a.rs=false:=by simpa using hr
 have LV:=(ga.ot hr).2.2.2.2.2.1;unfold pL at LV;have BI:=(ga.ot hr).2.2.2.2.2.2;split at h
 ·rename_i g;exact sF
 rename_i hp;have hp:=zb2.1 hp;split at h
 ·rename_i g;exact sF
 rename_i yB;have yB:=aeg.1 (zb2.1 yB);have hl:(az a.rn.l).length<=128:=by
  have:=yB.2;split at this<;>omega
 refine⟨⟨hd,hs,q2,q3,tH hs,g3,⟨⟨ab,ab⟩,ab,ab⟩,abC (λx hx=>(gb x hx).1) hp,hl,λCW=>by rw[hr]at CW;cases CW⟩,λ_=>⟨hp,yB,λhc=>?_⟩⟩;rw[if_pos hc]at h;exact h
def q9{e:Int}{l:List Int}(h:e≠0):bQ (e::l)=e:=by simp[bQ,h]
def J5{d:Dk}{a:At}(h:atF d a)(hb:fH d):Lc [sP (ar d a)] (.str (aV (ar d a))):=
 ⟨ar d a,rfl,⟨hb.1,h.len,h.pl,h.num⟩,rfl⟩
noncomputable def auS(d:Dk)(a:At):List UInt8:=open Classical in if aK d a=0 then aV (ar d a)else[]
def Fc(ps:List PV)(r:RV):Prop:=∃(d:Dk) (a:At),ps=[d.pv,a.pv]/\(fH d/\a.nm.length<=1000000)/\r=.tup [.pv (.str (auS d a)),.pv (pI (aK d a))]
def VN:MT (ay [(127,xt),(145,ah Lc)]) BN (c8 true Fc):=by
 rintro _ K ⟨_,⟨d,a,rfl,⟨h1,h2⟩,rfl⟩,hK⟩;unfold auS at hK;refine⟨d,a,rfl,⟨h1,h2⟩,λh=>?_,λh v _=>?_⟩
 ·have sM:=(bc h).1;rw[if_pos h,h]at hK
  (repeat'((conv=>whnf);first|refine⟨_,J5 sM h1,?_⟩|refine aw ab ?_|fail))<;>try(conv=>whnf)
  exact dA
 ·rw[if_neg h]at hK
  (repeat'((conv=>whnf);first|refine au h ?_|fail))<;>try(conv=>whnf)
  exact dA
def zA:At:=⟨0,[],0,0,false,[],0,.nil,0,0,0⟩
def aeF:∀n:Nat,n<256->n=n/2^0%2*1+n/2^1%2*2+n/2^2%2*4+n/2^3%2*8+n/2^4%2*16+n/2^5%2*32+n/2^6%2*64+n/2^7%2*128:=by
 intro n hn;simp only[Nat.reducePow];omega
def aqe{a b:List UInt8}(hl:a.length=b.length)(h:∀i,i<8*a.length->bH a i=bH b i):a=b:=by
 apply zba;intro i;by_cases hi:i<a.length
 case neg=>rw[zaK ab,zaK ab]
 rw[zah hi,zah ab];congr 1;apply zdx.1;have hk:∀k,k<8->a[i].toNat/2^k%2=b[i].toNat/2^k%2:=by
  intro k hk;have:=h (8*i+k) ab;unfold bH at this;rw[show(8*i+k)/8=i by omega,show(8*i+k)%8=k by omega,zah hi,zah ab]at this;simpa using this
 rw[aeF _ a[i].toNat_lt,aeF _ b[i].toNat_lt,hk 0 ab,hk 1 ab,hk 2 ab,hk 3 ab,hk 4 ab,hk 5 ab,hk 6 ab,hk 7 ab]
def Zf(f:Nat->Nat)(n:Nat):(VA f n).length=qO n:=by simp[VA,Rw,ai]
def KI{f:Nat->Nat}(hf:∀i,f i<=1)(n j:Nat):bH (VA f n) j=if j<n then f j else 0:=by
 unfold VA;rw[Z_ hf n (by simp[ai,qO];omega),Ou]
def aFT{B:List UInt8}{f:Nat->Nat}{n:Nat}(hf:∀i,f i<=1)(hl:B.length=qO n)(h:∀j,j<n->bH B j=f j)(h0:∀j,n<=j->j<8*B.length->bH B j=0):B=VA f n:=by
 apply aqe (by rw[hl,Zf]);intro j hj;rw[KI hf];split
 ·exact h j aA
 ·exact h0 j ab hj
def ak_{f g:Nat->Nat}{n:Nat}(hf:∀i,f i<=1)(hg:∀i,g i<=1)(h:∀i,i<n->f i=g i):VA f n=VA g n:=by
 apply aFT hg (Zf f n)
 ·intro j hj;rw[KI hf,if_pos hj];exact h j hj
 ·intro j hj _;rw[KI hf,if_neg ab]
def fR(r:Rn)(i:Nat):Bool:=decide (r.s<=i/\(i:Int)<r.s+r.n)
def aJI(t:Nat->Bool)(s:Nat):Nat->Bool
 |0=>false
 |k+1=>aJI t s k||t (s+k)
def Ru{t:Nat->Bool}{s:Nat}:∀{k:Nat},aJI t s k=true↔∃j,s<=j/\j<s+k/\t j=true:=by
 intro k
 induction k with
 |zero=>simp[aJI];omega
 |succ k ih=>
  simp only[aJI,zbB,ih];constructor
  ·rintro(⟨j,h1,h2,h3⟩|h)
   ·exact⟨j,h1,ab,h3⟩
   ·exact⟨s+k,ab,ab,h⟩
  ·rintro⟨j,h1,h2,h3⟩;by_cases h:j=s+k
   ·subst h;exact .inr h3
   ·exact .inl ⟨j,h1,ab,h3⟩
def ki(t:Nat->Bool)(r:Rn):Nat->Bool:=λi=>t i||fR r i
def Kd(n:Int):(Nat->Bool)->List Rn->Int
 |_,[]=>0
 |t,r::l=>if azh n r then(if aJI t r.s.toNat r.n.toNat then 23 else Kd n (ki t r) l)else 2
def NX(l:List Rn)(n:Int):Int:=if 64<l.length then 8 else Kd n (λ_=>false) l
def aiC(l:List Rn)(i:Nat):Bool:=l.any λr=>fR r i
def Ob(f:Nat->Nat)(n:Int)(l:List Rn)(v:Nat):Int:=
 if NX l n≠0 then NX l n else if l.any (λr=>aJI (λi=>decide (f i=v)) r.s.toNat r.n.toNat)then 18 else 0
def aq0{n:Int}:∀{l:List Rn} {t:Nat->Bool},Kd n t l=0->(∀r∈l,azh n r)/\(∀r∈l,∀i,fR r i=true->t i=false)/\l.Pairwise (λa b=>∀i,¬(fR a i=true/\fR b i=true)):=by
 intro l
 induction l with
 |nil=>intro t _;exact⟨λ_ h=>bV,λ_ h=>bV,.nil⟩
 |cons r l ih=>
  intro t h;simp only[Kd]at h;by_cases hr:azh n r
  case neg=>rw[if_neg hr]at h;cases h
  rw[if_pos hr]at h;by_cases hh:aJI t r.s.toNat r.n.toNat=true
  case pos=>rw[if_pos hh]at h;cases h
  rw[if_neg hh]at h;obtain⟨h1,h2,h3⟩:=ih h;refine⟨λx hx=>?_,λx hx i hi=>?_,.cons (λb hb i hi=>?_) h3⟩
  ·rcases zax.1 hx with rfl|hx
   ·exact hr
   ·exact h1 x hx
  ·rcases zax.1 hx with rfl|hx
   ·cases ht:t i with
    |false=>rfl
    |true=>
     refine absurd (Ru.2 ⟨i,?_,?_,ht⟩) hh<;>(simp[fR,azh]at hi hr;omega)
   ·have:=h2 x hx i hi;simp[ki]at this;exact this.1
  ·have:=h2 b hb i hi.2;simp[ki,hi.1]at this
def agU{n:Int}{l:List Rn}(h:NX l n=0):l.length<=64/\(∀r∈l,azh n r)/\l.Pairwise (λa b=>∀i,¬(fR a i=true/\fR b i=true)):=by
 unfold NX at h;split at h
 ·cases h
 ·obtain⟨h1,_,h3⟩:=aq0 h;exact⟨ab,h1,h3⟩
def gS(r:Rn)(l:List Rn):bI (r::l)=r.n+bI l:=by simp[bI]
def aew(s:List UInt8)(n:Int)(l:List Rn)(v:Nat):Int:=if nu s n≠0 then nu s n else Ob (bH s) n l v
def asp{f:Nat->Nat}(hf:∀i,f i<=1){k:Nat}(h:k<=4096):nu (VA f k) k=0:=by
 have hz:fx (k:Int)=0:=by unfold fx;rw[if_pos ab]
 unfold nu;rw[if_neg (λh=>h hz),if_neg,if_pos]
 ·intro i hi BK;rw[KI hf,if_neg ab]
 ·rw[Zf,abD ab,zaC];exact λh=>h rfl
abbrev rk(b:Nat->Bool)(n:Nat):dC:=.row 4 1 true ((cQ b n).map pB)
def DF{l:List Bool}(h:l.length<=4096):nu (mG l) l.length=0∧∀i,bH (mG l) i=if i<l.length then mS (l[i]?.getD false)else 0:=
 ⟨asp (λ_=>Jj _) h,λi=>KI (λ_=>Jj _) _ i⟩
def MF(B:List UInt8)(k:Nat)(p:List UInt8):List UInt8:=B.take (256*k)++p++B.drop (256*k+256)
def Yb{B p:List UInt8}{k:Nat}(h:(k+1)*256<=B.length)(hp:p.length=256):(MF B k p).length=B.length:=by
 unfold MF;simp[hp];omega
def df(d:Dk)(c:Nat):Bool:=decide (bH d.mp c=1)
def W_(d:Dk):qf d=cQ (df d) d.n:=rfl
def zD:Dk:=⟨[],[]⟩
structure adA(s:St):Prop where
 a_:s.d.a_.length<=200000
 mp:s.d.mp.length<=1000000
 n:s.d.n<=512
 bm:nu s.d.mp s.d.n=0
 fl:0<=s.a.fl/\s.a.fl<=7
 len:s.pl.length<=128
 pl:MH s.d.a_ s.pl
 nm:s.a.nm.length<=1000000
def X6{s:St}(h:adA s):∀a∈s.pl,-1<=a/\a<s.d.n:=λa ha=>by
 rcases h.pl a ha with h|h
 ·omega
 ·unfold Dk.n;omega
def anB{Q p:List UInt8}{k:Int}(hk:0<=k/\(k+1)*256<=Q.length)(hp:p.length=256):
 (Q.map aL).take (k*256).toNat++(p.map aL).take ((Q.map aL).length-(k*256).toNat)++(Q.map aL).drop ((k*256).toNat+min (p.map aL).length ((Q.map aL).length-(k*256).toNat))=(MF Q k.toNat p).map aL:=by
 unfold MF;rw[zaw,zaw,hp,show(k*256).toNat=256*k.toNat by omega,show min 256 (Q.length-256*k.toNat)=256 by omega,
  za1 (l:=p.map aL) oP,zbs,zbs,zdg,zc7]
def YI(ps:List PV)(r:RV):Prop:=∃s:Rs,ps=[qF s]/\s.l.length<=1000000/\r=.fresh 37 2 (s.l.map Rn.pv)
def aga:MT (ay []) eu (c8 true YI):=by
 rintro _ K ⟨_,⟨s,rfl,h,rfl⟩,hK⟩;cases s with
 |nil=>
  (conv=>whnf)
  exact⟨.fresh _ _ _,⟨rfl,rfl,rfl,rfl⟩,(λ_ h=>bV),hK⟩
 |sl l=>
  refine λr hr=>?_
  cases r with
  |true=>
   have hl:l=[]:=by
    cases l with
    |nil=>rfl
    |cons x l=>exact absurd (hr aj) ao
   subst hl
   (conv=>whnf)
   exact⟨.fresh _ _ _,⟨rfl,rfl,rfl,rfl⟩,(λ_ h=>bV),hK⟩
  |false=>
   have h:l.length<=1000000:=h;have gJ:(l.map Rn.pv).length=l.length:=zaw _
   (repeat'((conv=>whnf);first|refine zcd aH ?_|refine bT ?_|fail))<;>try(conv=>whnf)
   exact vj
def wU(d:Dk):Prop:=d.a_.length<=200000/\d.mp.length<=1000000
def pR{d:Dk}(h:wU d):fH d:=⟨by have:=h.1;omega,h.2⟩
def atF.st{d:Dk}{a:At}(h:atF d a)(hd:wU d)(hn:a.nm.length<=1000000):adA (ar d a):=
 ⟨hd.1,hd.2,h.nb,h.bm,⟨h.fl.1,by show a.fl<=7;have:=h.fl.2;omega⟩,h.len,h.pl,hn⟩
def z0:¬(0:Int)≠0:=ao
def z8:(8:Int)≠0:=ao
def Jc(pl:List Int)(i:Nat):Bool:=decide (pl[i]?.getD (-1)≠ -1)
def Ji(ps:List PV)(p:Prop):Prop:=∃(l:List Bool) (v:Bool),ps=[.sl 1 (l.map pB),pB v]/\l.length<=1000000/\p=(v∈l)
def T6:MT (ay [(227,Sn)]) jO (bF Ji):=by
 rintro args K ⟨_,⟨l,v,h1,h2,rfl⟩,hK⟩;exact VP args K ⟨l,v,h1,h2,hK⟩
def Pv(s:St)(p:Int)(tr:Rn):Prop:=0<=p/\(0<=tr.s/\tr.s<=s.d.n-1)/\(1<=tr.n/\tr.n<=s.d.n-tr.s)
instance (s:St) (p:Int) (tr:Rn):Decidable (Pv s p tr):=by unfold Pv;infer_instance
def SJ(s:St)(p:Int)(tr:Rn):Int:=
 if s.a.rs=true then 20 else if ¬Pv s p tr then 2 else if (s.pl.length:Int)-tr.n<p then 37
 else if (bt ((s.pl.drop p.toNat).take tr.n.toNat):Int)≠tr.n then 3 else if true∈((cQ (df s.d) s.d.n).drop tr.s.toNat).take tr.n.toNat then 18 else 0
def Mk(ps:List PV)(x:PV):Prop:=∃(s:St) (p:Int) (tr:Rn),ps=[sP s,pI p,tr.pv]/\adA s/\x=pI (SJ s p tr)
def LX{α β:Type}(f:α->β)(l:List α){a n:Nat}:cut a (a+n) (l.map f)=((l.drop a).take n).map f:=by
 unfold cut;rw[zdy,show a+n-a=n by omega,zdg,zc7]
set_option maxHeartbeats 1000000 in
def acp:MT (ay [(124,ah bA),(193,bF bG),(113,ah dG),(111,ah gB),(142,c8 true xj),(194,ah Uc),(195,bF Ji)]) tx (ah Mk):=by
 rintro _ K ⟨_,⟨s,p,tr,rfl,h,rfl⟩,hK⟩;have mW:=h.a_;have kr:=h.n;have Ee:=h.len;have ab6:xj [s.d.pv] (.fresh 4 1 ((cQ (df s.d) s.d.n).map pB)):=⟨s.d,rfl,⟨ab,h.mp,h.bm⟩,by rw[<-W_]⟩
 have XJ:(s.pl.map pI).length=s.pl.length:=zaw _;by_cases c_:s.a.rs=true
 ·have he:SJ s p tr=20:=by unfold SJ;rw[if_pos c_]
  rw[he]at hK
  (repeat'((conv=>whnf);first|refine⟨_,⟨s.d,rfl,ab,rfl⟩,?_⟩|refine aw (p:=s.a.rs=false) qD ?_|refine au (by rw[q9 ao];decide) ?_|(refine fe ?_;first|refine bj ab ?_|refine de (λ_=>?_) (λ_=>?_)|refine bT ?_|refine⟨_,⟨_,_,rfl,rfl⟩,?_⟩|refine⟨_,⟨_,_,_,rfl,rfl⟩,?_⟩|refine⟨_,⟨[_,_],rfl,rfl⟩,?_⟩|fail)))<;>try(conv=>whnf)
  all_goals exact aG
 have aDY:s.a.rs=false:=by simpa using c_
 by_cases di:Pv s p tr
 ·have UF:=di;unfold Pv at di;by_cases adL:(s.pl.length:Int)-tr.n<p
  ·have he:SJ s p tr=37:=by unfold SJ;rw[if_neg c_,if_neg (λe=>e UF),if_pos adL]
   rw[he]at hK
   (repeat'((conv=>whnf);first|refine⟨_,⟨s.d,rfl,ab,rfl⟩,?_⟩|refine au (p:=s.a.rs=false) aDY ?_|refine oQ ?_|refine au xI ?_|(refine fe ?_;first|refine bj ab ?_|refine au ab ?_|refine aw ao ?_|refine⟨_,⟨_,_,rfl,rfl⟩,?_⟩|refine⟨_,⟨_,_,_,rfl,rfl⟩,?_⟩|refine⟨_,⟨[_,_],rfl,rfl⟩,?_⟩|fail)))<;>try(conv=>whnf)
   all_goals exact aG
  ·have HR:cut p.toNat (p+tr.n).toNat (s.pl.map pI)=((s.pl.drop p.toNat).take tr.n.toNat).map pI:=by
    rw[show(p+tr.n).toNat=p.toNat+tr.n.toNat by omega,LX]
   have aoI:cut tr.s.toNat (tr.s+tr.n).toNat ((cQ (df s.d) s.d.n).map pB)=(((cQ (df s.d) s.d.n).drop tr.s.toNat).take tr.n.toNat).map pB:=by
    rw[show(tr.s+tr.n).toNat=tr.s.toNat+tr.n.toNat by omega,LX]
   have he:SJ s p tr=if (bt ((s.pl.drop p.toNat).take tr.n.toNat):Int)≠tr.n then 3 else if true∈((cQ (df s.d) s.d.n).drop tr.s.toNat).take tr.n.toNat then 18 else 0:=by
    unfold SJ;rw[if_neg c_,if_neg (λe=>e UF),if_neg adL]
   rw[he]at hK;have Gn:((cQ (df s.d) s.d.n).map pB).length=s.d.n:=by rw[zaw,ck]
   have hu:=oG ((s.pl.drop p.toNat).take tr.n.toNat);rw[zal]at hu;have aQy:(((cQ (df s.d) s.d.n).drop tr.s.toNat).take tr.n.toNat).length<=1000:=eI;have BY:((s.pl.drop p.toNat).take tr.n.toNat).length<=1000:=Rb;generalize ((cQ (df s.d) s.d.n).drop tr.s.toNat).take tr.n.toNat=B2 at*;generalize (s.pl.drop p.toNat).take tr.n.toNat=U at*;generalize (cQ (df s.d) s.d.n).map pB=BR at*;clear he
   (repeat'((conv=>whnf);first|refine⟨_,⟨s.d,rfl,ab,rfl⟩,?_⟩|refine au (p:=s.a.rs=false) aDY ?_|refine aw xI ?_|refine⟨_,ab6,?_⟩|refine oQ ?_|rw[HR]|refine⟨_,⟨U,rfl,ab,rfl⟩,?_⟩|(refine fe ?_;first|refine bj ab ?_|refine au ab ?_|refine aw ao ?_|refine de (λ_=>?_) (λ_=>?_)|refine⟨_,⟨_,_,rfl,rfl⟩,?_⟩|refine⟨_,⟨_,_,_,rfl,rfl⟩,?_⟩|refine wz ?_|refine⟨_,⟨[_,_],rfl,rfl⟩,?_⟩|fail)))<;>try(conv=>whnf)
   ·rename_i hx;refine Or.inl ?_
    (conv=>whnf)
    refine wz ?_
    (conv=>whnf)
    refine wz ?_
    (conv=>whnf)
    rw[aoI];refine⟨_,⟨B2,true,rfl,ab,rfl⟩,?_⟩
    (conv=>whnf)
    refine de (λhb=>?_) (λhb=>?_)
    ·(conv=>whnf)
     refine aN ?_
     (conv=>whnf)
     refine⟨_,⟨false,18,rfl,rfl⟩,?_⟩
     (conv=>whnf)
     refine bT ?_
     (conv=>whnf)
     refine⟨_,⟨[_,_],rfl,rfl⟩,?_⟩
     (conv=>whnf)
     refine oQ ?_
     (conv=>whnf)
     exact⟨.pv (pI _),bu (by rw[if_neg (λe=>e hx),if_pos hb];rfl),trivial,hK⟩
    ·(conv=>whnf)
     refine bP ?_
     (conv=>whnf)
     refine⟨_,⟨true,18,rfl,rfl⟩,?_⟩
     (conv=>whnf)
     refine bT ?_
     (conv=>whnf)
     refine⟨_,⟨[_,_],rfl,rfl⟩,?_⟩
     (conv=>whnf)
     refine oQ ?_
     (conv=>whnf)
     exact⟨.pv (pI _),bu (by rw[if_neg (λe=>e hx),if_neg hb];rfl),trivial,hK⟩
   ·rename_i hx;refine Or.inl ?_
    (conv=>whnf)
    refine wz ?_
    (conv=>whnf)
    refine wz ?_
    (conv=>whnf)
    rw[aoI];refine⟨_,⟨B2,true,rfl,ab,rfl⟩,?_⟩
    (conv=>whnf)
    refine de (λhb=>?_) (λhb=>?_)
    ·(conv=>whnf)
     refine aN ?_
     (conv=>whnf)
     refine⟨_,⟨false,18,rfl,rfl⟩,?_⟩
     (conv=>whnf)
     refine bT ?_
     (conv=>whnf)
     refine⟨_,⟨[_,_],rfl,rfl⟩,?_⟩
     (conv=>whnf)
     refine oQ ?_
     (conv=>whnf)
     exact⟨.pv (pI _),bu (by rw[if_pos hx];rfl),trivial,hK⟩
    ·(conv=>whnf)
     refine bP ?_
     (conv=>whnf)
     refine⟨_,⟨true,18,rfl,rfl⟩,?_⟩
     (conv=>whnf)
     refine bT ?_
     (conv=>whnf)
     refine⟨_,⟨[_,_],rfl,rfl⟩,?_⟩
     (conv=>whnf)
     refine oQ ?_
     (conv=>whnf)
     exact⟨.pv (pI _),bu (by rw[if_pos hx];rfl),trivial,hK⟩
 ·have he:SJ s p tr=2:=by unfold SJ;rw[if_neg c_,if_pos di]
  rw[he]at hK;unfold Pv at di
  (repeat'((conv=>whnf);first|refine⟨_,⟨s.d,rfl,ab,rfl⟩,?_⟩|refine au (p:=s.a.rs=false) aDY ?_|(refine fe ?_;first|refine bj ab ?_|refine aw ab ?_|refine au ao ?_|refine de (λ_=>?_) (λ_=>?_)|refine bT ?_|refine⟨_,⟨_,_,rfl,rfl⟩,?_⟩|refine⟨_,⟨_,_,_,rfl,rfl⟩,?_⟩|refine⟨_,⟨[_,_],rfl,rfl⟩,?_⟩|fail)))<;>try(conv=>whnf)
  all_goals exact aG
instance (a b:Rn):Decidable (iy a b):=by unfold iy;infer_instance
def y4(acc:List Rn)(r:Rn):List Rn:=
 match acc.getLast? with
 |some q=>if iy q r then acc.dropLast++[⟨q.s,q.n+r.n⟩]else acc++[r]
 |none=>[r]
def du(acc:List Rn):aF:=match acc with
 |[]=>[.box 262 [.pv (.nil 2)]]
 |acc=>[.box 262 [.own 1],.row 37 2 true (acc.map Rn.pv)]
def lZ(acc:List Rn):aF:=[.box 262 [.own 2],.dead,.row 37 2 true (acc.map Rn.pv)]
def jd{acc:List Rn}(h:acc≠[]):du acc=[.box 262 [.own 1],.row 37 2 true (acc.map Rn.pv)]:=by
 cases acc with
 |nil=>exact kN
 |cons _ _=>rfl
def xl(acc:List Rn)(r:Rn):y4 acc r≠[]:=by
 unfold y4;split
 ·split<;>simp
 ·simp
def yX(r:Rn):Prop:= -1000000000<=r.s/\r.s<=1000000000/\ -1000000000<=r.n/\r.n<=1000000000
def arH(xs:List AV)(σ:aF)(K:AV->aF->Prop):Prop:=∃(acc:List Rn) (r:Rn),xs=[.ref 0 0 0,.pv r.pv]/\(acc.length<=100000/\yX r∧∀q∈acc,yX q)/\σ=du acc/\K (.tup []) (du (y4 acc r))/\(acc≠[]->K (.tup []) (lZ (y4 acc r)))
def aqm:gO (ay [(247,bF Ab)]) Ie (sB arH):=by
 rintro _ _ K ⟨acc,r,rfl,⟨h1,h2,h3⟩,rfl,hK,xy⟩;unfold yX at h2;cases UB:acc.getLast? with
 |none=>
  have:acc=[]:=Ka;subst this
  (repeat'((conv=>whnf);first|refine oQ ?_|refine zcd (by simp;first|done|fail) ?_|refine aw ao ?_|refine dq λ_=>?_|fail))<;>try(conv=>whnf)
  exact hK
 |some q=>
  have dI:acc≠[]:=aaF;have Gq:0<acc.length:=zb8.2 dI;have hg:acc[((acc.length:Int)-1).toNat]?=some q:=by
   rw[<-UB,List.getLast?_eq_getElem?];congr 1;omega
  have hq:=h3 q (zc5 UB);unfold yX at hq;have BW:y4 acc r=if iy q r then acc.dropLast++[(⟨q.s,q.n+r.n⟩:Rn)]else acc++[r]:=by
   unfold y4;rw[UB]
  have LO:(acc.map Rn.pv).set ((acc.length:Int)-1).toNat (PV.agg [pI q.s,pI (q.n+r.n)])=(acc.dropLast++[(⟨q.s,q.n+r.n⟩:Rn)]).map Rn.pv:=by
   rw[show((acc.length:Int)-1).toNat=acc.length-1 by omega];have e:acc.dropLast++[q]=acc:=by
    have e1:=zdf dI;rw[zdd dI]at UB;rw[<-Option.some.inj UB];exact e1
   have e2:acc.length-1=(acc.dropLast.map Rn.pv).length:=aj;have e3:acc.map Rn.pv=acc.dropLast.map Rn.pv++[q.pv]:=by
    conv=>lhs;rw[<-e]
    rw[zbs];rfl
   rw[e2,e3,zcY _ _ (zai _),zcH,zbs];rfl
  have gJ:(acc.map Rn.pv).length=acc.length:=zaw _;rw[jd (xl acc r),BW]at hK;have xy:=xy dI;unfold lZ at xy;rw[BW]at xy;rw[jd dI]
  (repeat'((conv=>whnf);first|refine oQ ?_|refine⟨_,⟨q,r,rfl,⟨by unfold rnB;omega,by unfold rnB;omega⟩,rfl⟩,?_⟩|refine bj ab ?_|refine au ab ?_|refine de (λ_=>?_) (λ_=>?_)|refine dq λ_=>?_|refine uM aA ?_|refine Q3 ab ?_|refine zcd cu ?_|fail))<;>try(conv=>whnf)
  ·rename_i hj;rw[if_pos hj,<-LO]at hK;exact hK
  ·rename_i hj;rw[if_neg hj,zbs]at xy;exact xy
def h_(acc l:List Rn):List Rn:=l.foldl y4 acc
def FJ{acc l:List Rn}{n:Nat}{r:Rn}(h:l[n]?=some r):h_ acc (l.take (n+1))=y4 (h_ acc (l.take n)) r:=by
 unfold h_;rw[zck,h];simp
def au1(acc:List Rn)(r:Rn):(y4 acc r).length<=acc.length+1:=by
 unfold y4;split
 ·split
  ·simp
  ·simp
 ·simp
def O4(acc:List Rn):∀l:List Rn,(h_ acc l).length<=acc.length+l.length:=by
 intro l
 induction l generalizing acc with
 |nil=>simp[h_]
 |cons r l ih=>
  have:=ih (y4 acc r);have:=au1 acc r;simp only[h_,zbg,zam]at*;omega
def FE(l m:List Rn):bI (l++m)=bI l+bI m:=by simp[bI]
def asZ{P:Rn->Prop}{acc:List Rn}{r:Rn}(h:∀q∈acc,P q)(hr:P r)(hj:∀q∈acc,iy q r->P ⟨q.s,q.n+r.n⟩):∀q∈y4 acc r,P q:=by
 intro q hq;unfold y4 at hq;split at hq
 ·rename_i x hx;have hm:=zc5 hx;split at hq
  ·rename_i Gx;rcases zaA.1 hq with h1|h1
   ·exact h q (zdn _ h1)
   ·rw[zcS.1 h1];exact hj x hm Gx
  ·rcases zaA.1 hq with h1|h1
   ·exact h q h1
   ·rw[zcS.1 h1];exact hr
 ·rw[zcS.1 hq];exact hr
def RN(r:Rn):Prop:=1<=r.n/\r.n<=4096/\(r.s= -1\/(0<=r.s/\r.s+r.n<=512))
def nV(k:Int)(r:Rn):Prop:=1<=r.n/\r.n<=k/\(r.s= -1\/(0<=r.s/\r.s+r.n<=512))
def aCF{acc:List Rn}{r:Rn}{k:Int}(h:∀q∈acc,nV k q)(hr:RN r)(hk:0<=k):∀q∈y4 acc r,nV (k+r.n) q:=by
 unfold RN at hr;refine asZ (λq hq=>?_) ?_ λq hq hj=>?_
 ·have:=h q hq;unfold nV at*;omega
 ·unfold nV;omega
 ·have:=h q hq;unfold iy at hj;unfold nV at*;simp only;omega
def au4{l:List Rn}:∀{acc:List Rn} {k:Int},(∀q∈acc,nV k q)->0<=k->(∀r∈l,RN r)→∀q∈h_ acc l,nV (k+bI l) q:=by
 induction l with
 |nil=>intro acc k h _ _;simpa[h_,bI]using h
 |cons r l ih=>
  intro acc k h hk hl;have hr:=hl r aj;have:=ih (acc:=y4 acc r) (k:=k+r.n) (aCF h hr hk) (by unfold RN at hr;omega) λq hq=>hl q kF
  rw[gS];have e:k+(r.n+bI l)=k+r.n+bI l:=ab;rw[e];exact this
def abp(xs:List AV)(σ:aF)(K:AV->aF->Prop):Prop:=∃(acc l:List Rn) (k:Int),xs=[.ref 0 0 0,.pv (.sl 2 (l.map Rn.pv))]/\(acc.length<=1000/\l.length<=1000/\(0<=k/\k<=100000)/\(∀q∈acc,nV k q)∧∀q∈l,RN q)/\σ=du acc/\K (.tup []) (du (h_ acc l))/\(acc≠[]->K (.tup []) (lZ (h_ acc l)))
set_option maxHeartbeats 1000000 in
def agx:gO (ay [(256,sB arH)]) BA (sB abp):=by
 rintro _ _ K ⟨acc,l,k,rfl,⟨h1,h2,h3,h4,h5⟩,rfl,hK,xy⟩;have gJ:(l.map Rn.pv).length=l.length:=zaw _;have aHt:∀n:Nat,0<=bI (l.take n)/\bI (l.take n)<=4096*n:=λn=>by
  induction n with
  |zero=>simp[bI]
  |succ n ih=>
   by_cases aU:n<l.length
   ·have hx:l[n]?=some l[n]:=zah aU;have:=h5 _ (zag hx);unfold RN at this;rw[zck,hx,FE];simp only[zc3,bI,zau,zdh,zdr,List.sum_nil]at*;omega
   ·rw[za1 ab]at ih ⊢;omega
 have hC:∀n:Nat,n<=l.length→∀q∈h_ acc (l.take n),yX q:=λn hn q hq=>by
  have:=au4 h4 h3.1 (λr hr=>h5 r (zaL hr)) q hq;have:=aHt n;unfold nV at*;unfold yX;omega
 have hL:∀n:Nat,(h_ acc (l.take n)).length<=2000:=λn=>by
  have:=O4 acc (l.take n);rw[zal]at this;omega
 have hR:∀r∈l,yX r:=λr hr=>by
  have:=h5 r hr;unfold RN at this;unfold yX;omega
 by_cases dI:acc=[]
 ·subst dI
  (repeat'((conv=>whnf);first|refine dq λ_=>?_|fail))<;>try(conv=>whnf)
  refine⟨λm env σ=>∃n:Nat,n+m=l.length/\σ=du (h_ [] (l.take n))/\env=[(0,.ref 0 0 0),(6,.pv (.sl 2 (l.map Rn.pv))),eN 7 l.length,eN 8 n],l.length,⟨0,ab,rfl,rfl⟩,?_⟩;rintro m env σ ⟨n,hn,rfl,rfl⟩;by_cases aU:n<l.length
  ·obtain⟨r,hr⟩:∃r,l[n]?=some r:=⟨_,zah aU⟩
   have hT:=FJ (acc:=[]) hr;have MQ:=hC n ab;have Zw:=hL n;have zL:=hR r (zag hr);clear hK xy hC hL;generalize hA:h_ [] (l.take n)=A at*;by_cases PG:A=[]
   ·rw[PG,show du []=[.box 262 [.pv (.nil 2)]]from rfl];rw[PG]at hT;have zH:du (y4 [] r)=[.box 262 [.own 1],.row 37 2 true ([r].map Rn.pv)]:=rfl;have hT3:du (h_ [] (l.take (n+1)))=[.box 262 [.own 1],.row 37 2 true ([r].map Rn.pv)]:=rY
    (repeat'((conv=>whnf);first|refine au ab ?_|refine iY aA ?_|refine bT ?_|fail))<;>try(conv=>whnf)
    refine⟨[],r,rfl,⟨aj,zL,λq hq=>by cases hq⟩,rfl,?_,λh=>absurd rfl h⟩;rw[zH]
    (repeat'((conv=>whnf);first|refine bj ab ?_|fail))<;>try(conv=>whnf)
    exact Z1
   ·rw[jd PG];have hT3:du (h_ [] (l.take (n+1)))=du (y4 A r):=by rw[hT]
    rw[jd (xl A r)]at hT3
    (repeat'((conv=>whnf);first|refine au ab ?_|refine iY aA ?_|refine bT ?_|fail))<;>try(conv=>whnf)
    refine⟨A,r,rfl,⟨ab,zL,MQ⟩,(jd PG).symm,?_,λ_=>?_⟩
    ·rw[jd (xl A r)]
     (repeat'((conv=>whnf);first|refine bj ab ?_|fail))<;>try(conv=>whnf)
     exact Z1
    ·unfold lZ
     (repeat'((conv=>whnf);first|refine bj ab ?_|fail))<;>try(conv=>whnf)
     exact Z1
  ·have hn:n=l.length:=by omega
   subst hn;rw[zcV];by_cases PG:h_ [] l=[]
   ·rw[PG]at hK ⊢
    (repeat'((conv=>whnf);first|refine aw ab ?_|fail))<;>try(conv=>whnf)
    exact hK
   ·rw[jd PG]at hK ⊢
    (repeat'((conv=>whnf);first|refine aw ab ?_|fail))<;>try(conv=>whnf)
    exact hK
 ·rw[jd dI];have cM:∀n:Nat,h_ acc (l.take n)≠[]:=λn=>by
   cases n with
   |zero=>simpa[h_]using dI
   |succ n=>
    by_cases aU:n<l.length
    ·rw[FJ (zah aU)];exact xl _ _
    ·cases LA:l.getLast? with
     |none=>
      have:l=[]:=by simpa using LA
      subst this;simpa[h_]using dI
     |some q=>
      have eK:l≠[]:=by intro e;subst e;cases LA
      rw[za1 ab,<-zcV (l:=l),show l.length=l.length-1+1 by have:=zb8.2 eK;omega,
       FJ (zah (by have:=zb8.2 eK;omega))]
      exact xl _ _
  have xy:=xy dI
  (repeat'((conv=>whnf);first|refine dq λ_=>?_|fail))<;>try(conv=>whnf)
  refine⟨λm env σ=>∃n:Nat,n+m=l.length/\(σ=du (h_ acc (l.take n))\/σ=lZ (h_ acc (l.take n)))/\env=[(0,.ref 0 0 0),(6,.pv (.sl 2 (l.map Rn.pv))),eN 7 l.length,eN 8 n],l.length,⟨0,ab,.inl (jd dI).symm,rfl⟩,?_⟩;rintro m env σ ⟨n,hn,hσ,rfl⟩;by_cases aU:n<l.length
  ·obtain⟨r,hr⟩:∃r,l[n]?=some r:=⟨_,zah aU⟩
   have hT:=FJ (acc:=acc) hr;have MQ:=hC n ab;have Zw:=hL n;have PG:=cM n;have zL:=hR r (zag hr);clear hK xy hC hL;generalize hA:h_ acc (l.take n)=A at*;have hT3:du (h_ acc (l.take (n+1)))=du (y4 A r):=by rw[hT]
   have JF:lZ (h_ acc (l.take (n+1)))=lZ (y4 A r):=by rw[hT]
   rw[jd (xl A r)]at hT3;unfold lZ at JF;rw[jd PG]at hσ;rcases hσ with rfl|rfl
   ·(repeat'((conv=>whnf);first|refine au ab ?_|refine iY aA ?_|refine bT ?_|fail))<;>try(conv=>whnf)
    refine⟨A,r,rfl,⟨ab,zL,MQ⟩,(jd PG).symm,?_,λ_=>?_⟩
    ·rw[jd (xl A r)]
     (repeat'((conv=>whnf);first|refine bj ab ?_|fail))<;>try(conv=>whnf)
     exact⟨m-1,ab,n+1,ab,.inl hT3.symm,rfl⟩
    ·unfold lZ
     (repeat'((conv=>whnf);first|refine bj ab ?_|fail))<;>try(conv=>whnf)
     exact ZU
   ·unfold lZ
    (repeat'((conv=>whnf);first|refine au ab ?_|refine iY aA ?_|refine bT ?_|fail))<;>try(conv=>whnf)
    refine⟨A,r,rfl,⟨ab,zL,MQ⟩,(jd PG).symm,?_,λ_=>?_⟩
    ·rw[jd (xl A r)]
     (repeat'((conv=>whnf);first|refine bj ab ?_|fail))<;>try(conv=>whnf)
     exact ZU
    ·unfold lZ
     (repeat'((conv=>whnf);first|refine bj ab ?_|fail))<;>try(conv=>whnf)
     exact ZU
  ·have hn:n=l.length:=by omega
   subst hn;rw[zcV]at hσ;have PG:=cM l.length;rw[zcV]at PG;rw[jd PG]at hσ hK;rcases hσ with rfl|rfl
   ·(repeat'((conv=>whnf);first|refine aw ab ?_|fail))<;>try(conv=>whnf)
    exact hK
   ·unfold lZ at*
    (repeat'((conv=>whnf);first|refine aw ab ?_|fail))<;>try(conv=>whnf)
    exact xy
def BF(l:List Rn)(n:Nat):Prop:=∀k,k<n→∀r,l[k]?=some r→∀c,c<512->r.has c=true->Bc l k c=false
def asv{l:List Rn}{n:Nat}{x:Rn}(hx:l[n]?=some x):BF l (n+1)↔BF l n∧∀c,c<512->x.has c=true->Bc l n c=false:=by
 unfold BF;constructor
 ·intro h;exact⟨λk hk=>h k ab,λc hc hh=>h n ab x hx c hc hh⟩
 ·rintro⟨h1,h2⟩ k hk r hr;rcases zcb (zcl hk)with h|h
  ·exact h1 k h r hr
  ·subst h;rw[hx]at hr;cases hr;exact h2
noncomputable def ny(l:List Rn):Int:=open Classical in if ¬BF l l.length then 23 else if bI l<=4096/\l.length<=64 then 0 else 8
def ak4(xs:List AV)(σ:aF)(K:AV->aF->Prop):Prop:=∃acc:List Rn,xs=[.ref 0 0 0]/\(acc≠[]/\acc.length<=1000∧∀q∈acc,jZ q)/\σ=du acc/\(ny acc=0->K (.tup [.own 1,.pv (pI 0)]) (du acc))/\(ny acc≠0->K (.tup [.own 2,.pv (pI (ny acc))]) (du acc++[.row 37 2 true []]))
set_option maxHeartbeats 1000000 in
def al3:gO (ay [(248,sB ag6),(229,ah dG),(197,ah iu),(228,ah gB)]) EG (sB ak4):=by
 rintro _ _ K ⟨acc,rfl,⟨h0,h1,h2⟩,rfl,Gt,xy⟩;have gJ:(acc.map Rn.pv).length=acc.length:=zaw _;rw[jd h0]at Gt xy ⊢;have hS:yP acc:=⟨h1,λr hr=>by have:=rG (h2 r hr);omega⟩
 (repeat'((conv=>whnf);first|refine dq λ_=>?_|fail))<;>try(conv=>whnf)
 refine⟨λm env σ=>∃(n:Nat) (fr:Bool) (L:List Bool),(n+m=acc.length/\mc L (Bc acc n)/\(fr=true↔BF acc n))/\σ=[.box 262 [.own 1],.row 37 2 true (acc.map Rn.pv),Yi L]/\env=[(0,.ref 0 0 0),(4,.ref 2 0 0),(5,.pv (pB fr)),(12,.own 1),eN 13 acc.length,eN 14 n],acc.length,⟨0,true,List.replicate 512 false,⟨ab,aF7 _,by simp[BF]⟩,by unfold Yi;rw[zci],rfl⟩,?_⟩;rintro m env σ ⟨n,fr,L,⟨hn,hL,pe⟩,rfl,rfl⟩;by_cases aU:n<acc.length
 ·obtain⟨x,hx⟩:∃x,acc[n]?=some x:=⟨_,zah aU⟩
  have SI:=h2 x (zag hx);have D_:=asv hx;clear Gt xy
  (repeat'((conv=>whnf);first|refine⟨x,_,L,rfl,⟨SI,hL⟩,rfl,λok L' di y3=>?_⟩|refine au ab ?_|refine uM aA ?_|refine Q3 ab ?_|refine bT ?_|fail))<;>try(conv=>whnf)
  have MK:=y3.congr λc _=>(KY hx).symm
  cases ok with
  |true=>
   (repeat'((conv=>whnf);first|refine bj ab ?_|fail))<;>try(conv=>whnf)
   exact⟨m-1,ab,n+1,fr,L',⟨ab,MK,by rw[pe,D_];exact⟨λh=>⟨h,di.1 rfl⟩,λh=>h.1⟩⟩,rfl,rfl⟩
  |false=>
   (repeat'((conv=>whnf);first|refine bj ab ?_|fail))<;>try(conv=>whnf)
   exact⟨m-1,ab,n+1,false,L',⟨ab,MK,by rw[D_];exact Iff.intro (λh=>bV) (λh=>di.2 h.2)⟩,rfl,rfl⟩
 ·have hn:n=acc.length:=by omega
  subst hn;have hE:ny acc=if fr=true then(if bI acc<=4096/\acc.length<=64 then 0 else 8)else 23:=by
   unfold ny;cases fr with
   |true=>rw[if_neg (λe=>e (pe.1 rfl)),if_pos rfl]
   |false=>rw[if_pos (λe=>by have:=pe.2 e;cases this),if_neg ao]
  have qH:iu [.sl 2 (acc.map Rn.pv)] (pI (bI acc)):=⟨.sl acc,rfl,hS,rfl⟩
  cases fr with
  |true=>
   rw[if_pos rfl]at hE
   (repeat'((conv=>whnf);first|refine oQ ?_|refine⟨_,qH,?_⟩|(refine fe ?_;first|refine aw ab ?_|refine au ao ?_|refine aw ao ?_|refine de (λ_=>?_) (λ_=>?_)|refine⟨_,⟨_,_,rfl,rfl⟩,?_⟩|refine⟨_,⟨[_,_],rfl,rfl⟩,?_⟩|fail)))<;>try(conv=>whnf)
   ·exact Gt (by rw[hE,if_pos ab])
   all_goals
    have Ao:ny acc=8:=by rw[hE,if_neg ab]
    have:=xy (by rw[Ao];decide);rw[Ao]at this;exact this
  |false=>
   rw[if_neg ao]at hE;have:=xy (by rw[hE];decide);rw[hE]at this
   (repeat'((conv=>whnf);first|refine oQ ?_|refine⟨_,qH,?_⟩|(refine fe ?_;first|refine aw ab ?_|refine au ao ?_|refine de (λ_=>?_) (λ_=>?_)|refine⟨_,⟨_,_,rfl,rfl⟩,?_⟩|refine⟨_,⟨[_,_],rfl,rfl⟩,?_⟩|fail)))<;>try(conv=>whnf)
   all_goals exact this
def ee(st:List Rn×Int×Int)(r:Rn):List Rn×Int×Int:=
 (st.1++(if min st.2.2 (r.n-min st.2.1 r.n)=0 then[]else[⟨if r.s= -1 then-1 else r.s+min st.2.1 r.n,min st.2.2 (r.n-min st.2.1 r.n)⟩]),
   st.2.1-min st.2.1 r.n,st.2.2-min st.2.2 (r.n-min st.2.1 r.n))
def NB(l:List Rn)(f n:Int):List Rn×Int×Int:=l.foldl ee ([],f,n)
def ajG{l:List Rn}{f n:Int}{k:Nat}{r:Rn}(h:l[k]?=some r):NB (l.take (k+1)) f n=ee (NB (l.take k) f n) r:=by
 unfold NB;rw[zck,h];simp
def aze{l:List Rn}{f n:Int}(hf:0<=f/\0<=n)(hl:∀r∈l,jZ r):∀k,((NB (l.take k) f n).1.length<=k/\(0<=(NB (l.take k) f n).2.1/\(NB (l.take k) f n).2.1<=f)/\0<=(NB (l.take k) f n).2.2/\(NB (l.take k) f n).2.2<=n)∧∀q∈(NB (l.take k) f n).1,RN q:=by
 intro k
 induction k with
 |zero=>simp[NB];omega
 |succ k ih=>
  by_cases aU:k<l.length
  ·have hx:l[k]?=some l[k]:=zah aU;have hr:=rG (hl _ (zag hx));rw[ajG hx];generalize l[k]=r at*;generalize NB (l.take k) f n=st at*;obtain⟨out,f',n'⟩:=st;simp only at ih;obtain⟨⟨i1,i2,i3⟩,i4⟩:=ih;unfold ee;simp only;refine⟨⟨?_,ab,ab⟩,λq hq=>?_⟩
   ·rw[zad];split<;>simp<;>omega
   ·rcases zaA.1 hq with h|h
    ·exact i4 q h
    ·split at h
     ·cases h
     ·rw[zcS]at h;subst h;unfold RN;simp only;split<;>omega
  ·rw[za1 ab]at ih ⊢;refine⟨⟨ab,ih.1.2⟩,ih.2⟩
def YT(ps:List PV)(r:RV):Prop:=∃(s:Rs) (f n:Int),ps=[qF s,pI f,pI n]/\((0<=f/\f<=100000)/\(0<=n/\n<=100000)/\s.l.length<=1000∧∀r∈s.l,jZ r)/\r=.fresh 37 2 ((NB s.l f n).1.map Rn.pv)
set_option maxHeartbeats 1000000 in
def alA:MT (ay [(233,bF BJ)]) Va (c8 true YT):=by
 rintro _ K ⟨_,⟨s,f,n,rfl,⟨h1,h2,h3,h4⟩,rfl⟩,hK⟩
 (repeat'((conv=>whnf);first|refine KP ?_|refine dq λ_=>?_|fail))<;>try(conv=>whnf)
 refine⟨λm env σ=>∃k:Nat,k+m=s.l.length/\σ=[.row 37 2 true ((NB (s.l.take k) f n).1.map Rn.pv)]/\env=[eN 1 (NB (s.l.take k) f n).2.1,eN 2 (NB (s.l.take k) f n).2.2,(7,.own 0),(13,.pv (qF s)),eN 14 s.l.length,eN 15 k],s.l.length,⟨0,ab,rfl,rfl⟩,?_⟩;rintro m env σ ⟨k,hk,rfl,rfl⟩;obtain⟨⟨b1,b2,b3⟩,_⟩:=aze (f:=f) (n:=n) ⟨ab,ab⟩ h4 k;by_cases aU:k<s.l.length
 ·obtain⟨x,hx⟩:∃x,s.l[k]?=some x:=⟨_,zah aU⟩
  have hT:=ajG (f:=f) (n:=n) hx;have hr:=rG (h4 _ (zag hx));clear hK;generalize NB (s.l.take k) f n=st at*;unfold ee at hT;generalize st.1=out at*;generalize st.2.1=f' at*;generalize st.2.2=n' at*;have sS:(out.map Rn.pv).length=out.length:=zaw _
  (repeat'((conv=>whnf);first|refine Ek hx ?_|(refine fe ?_;first|refine bj ab ?_|refine aN ?_|refine bP ?_|refine au ab ?_|refine de (λ_=>?_) (λ_=>?_)|refine MIN ?_|refine bT ?_|refine⟨_,⟨_,rfl,rfl⟩,?_⟩|refine zcd cu ?_|fail)))<;>try(conv=>whnf)
  ·rename_i h0;exact⟨m-1,ab,k+1,ab,by rw[hT];simp only[if_pos h0];rw[zbf],rY⟩
  ·rename_i h0 hh;rw[if_neg h0,if_pos hh]at hT;exact⟨m-1,ab,k+1,ab,by rw[hT];simp[Rn.pv],rY⟩
  ·rename_i h0 hh;rw[if_neg h0,if_neg hh]at hT;exact⟨m-1,ab,k+1,ab,by rw[hT];simp[Rn.pv],rY⟩
 ·(repeat'((conv=>whnf);first|refine aw ab ?_|fail))<;>try(conv=>whnf)
  rw[za1 ab];exact vj
abbrev Pa(l:List Rn):PV:=.sl 2 (l.map Rn.pv)
def auy(acc l m:List Rn):h_ acc (l++m)=h_ (h_ acc l) m:=by simp[h_]
def aBo{q:Rn}{k:Int}(h:nV k q)(hk:k<=4096):jZ q:=by
 unfold nV at h;unfold jZ;split<;>omega
def agZ{l:List Rn}(h:∀r∈l,RN r):0<=bI l:=by
 induction l with
 |nil=>simp[bI]
 |cons r l ih=>
  rw[gS];have:=ih λq hq=>h q kF
  have h1:=h r aj;unfold RN at h1;omega
def AH{ls:List (List Rn)}{k:Nat}{l:List Rn}(h:ls[k]?=some l):(ls.take (k+1)).flatten=(ls.take k).flatten++l:=by
 rw[zck,h];simp
def atf{ls:List (List Rn)}(h:∀l∈ls,∀r∈l,RN r)(k:Nat):0<=bI (ls.take k).flatten/\bI (ls.take k).flatten<=bI ls.flatten:=by
 have e:ls.flatten=(ls.take k).flatten++(ls.drop k).flatten:=by rw[<-List.flatten_append,zaD]
 have h1:0<=bI (ls.take k).flatten:=agZ λr hr=>by
  obtain⟨l,hl,vu⟩:=zda.1 hr;exact h l (zaL hl) r vu
 have h2:0<=bI (ls.drop k).flatten:=agZ λr hr=>by
  obtain⟨l,hl,vu⟩:=zda.1 hr;exact h l (zbw hl) r vu
 rw[e,FE];omega
def axF{l:List Rn}(h:∀r∈l,RN r):(l.length:Int)<=bI l:=by
 induction l with
 |nil=>simp[bI]
 |cons r l ih=>
  rw[gS,zam];have:=ih λq hq=>h q kF
  have h1:=h r aj;unfold RN at h1;omega
def aoi:∀(l:List Rn) {A:List Rn},A≠[]->h_ A l≠[]
 |[],_,h=>h
 |r::l,A,_=>aoi l (xl A r)
noncomputable def U4(J:List Rn):List Rn:=open Classical in if ny J=0 then J else[]
def Xb(ps:List PV)(r:RV):Prop:=∃ls:List (List Rn),ps=[.sl 1 (ls.map Pa)]/\(ls.length<=4/\(∀l∈ls,l.length<=200∧∀r∈l,RN r)/\bI ls.flatten<=4096/\ls.flatten≠[])/\
 r=.tup [.fresh 37 2 ((U4 (h_ [] ls.flatten)).map Rn.pv),.pv (pI (ny (h_ [] ls.flatten)))]
set_option maxHeartbeats 1000000 in
def ai7:MT (ay [(231,sB abp),(232,sB ak4)]) U_ (c8 true Xb):=by
 rintro _ K ⟨_,⟨ls,rfl,⟨h1,h2,h3,h4⟩,rfl⟩,hK⟩;have hW:∀l∈ls,∀r∈l,RN r:=λl hl=>(h2 l hl).2
 have hF:∀k,∀r∈(ls.take k).flatten,RN r:=λk r hr=>by
  obtain⟨l,hl,vu⟩:=zda.1 hr;exact hW l (zaL hl) r vu
 have hJ:∀k,∀q∈h_ [] (ls.take k).flatten,nV (bI (ls.take k).flatten) q:=λk q hq=>by
  have:=au4 (acc:=[]) (k:=0) (λ_ h=>bV) ab (hF k) q hq;simpa using this
 have dI:h_ [] ls.flatten≠[]:=by
  cases UB:ls.flatten.getLast? with
  |none=>exact absurd Ka h4
  |some q=>
   have hp:=zb8.2 h4;rw[<-zcV (l:=ls.flatten),show ls.flatten.length=ls.flatten.length-1+1 by omega,FJ (zah ab)];exact xl _ _
 have da:h_ [] ls.flatten≠[]->(h_ [] ls.flatten).length<=5000:=λ_=>by
  have:=O4 [] ls.flatten;have:=axF (l:=ls.flatten) λr hr=>by
   obtain⟨l,hl,vu⟩:=zda.1 hr;exact hW l hl r vu
  simp at*;omega
 have SL:∀k,(ls.take k).flatten.length<=200*k:=λk=>by
  induction k with
  |zero=>simp
  |succ k ih=>
   by_cases aU:k<ls.length
   ·have hx:ls[k]?=some ls[k]:=zah aU;rw[AH hx,zad];have:=(h2 _ (zag hx)).1;omega
   ·rw[za1 ab]at ih ⊢;omega
 have mE:∀k,(h_ [] (ls.take k).flatten).length<=200*k:=λk=>by
  have:=O4 [] (ls.take k).flatten;have:=SL k;simp at*;omega
 have gJ:(ls.map Pa).length=ls.length:=zaw _
 (repeat'((conv=>whnf);first|refine dq λ_=>?_|fail))<;>try(conv=>whnf)
 refine⟨λm env σ=>∃k:Nat,k+m=ls.length/\σ=du (h_ [] (ls.take k).flatten)/\env=[(4,.ref 0 0 0),(7,.pv (.sl 1 (ls.map Pa))),eN 8 ls.length,eN 9 k],ls.length,⟨0,ab,rfl,rfl⟩,?_⟩;rintro m env σ ⟨k,hk,rfl,rfl⟩;have hs:=atf hW k;by_cases aU:k<ls.length
 ·obtain⟨l,hl⟩:∃l,ls[k]?=some l:=⟨_,zah aU⟩
  have rh:=h2 l (zag hl);have hT:h_ [] (ls.take (k+1)).flatten=h_ (h_ [] (ls.take k).flatten) l:=by rw[AH hl,auy]
  have MY:=hJ k;have aHT:=mE k;clear hK;generalize h_ [] (ls.take k).flatten=A at*;by_cases hA:A=[]
  ·subst hA;rw[show du []=[.box 262 [.pv (.nil 2)]]from rfl]
   (repeat'((conv=>whnf);first|refine au ab ?_|refine iY aA ?_|fail))<;>try(conv=>whnf)
   refine⟨[],l,0,rfl,⟨aj,ab,ab,(λq hq=>by cases hq),rh.2⟩,rfl,?_,λh=>absurd rfl h⟩;by_cases hB:h_ [] l=[]
   ·rw[hB]at hT ⊢;rw[show du []=[.box 262 [.pv (.nil 2)]]from rfl]
    (repeat'((conv=>whnf);first|refine bj ab ?_|fail))<;>try(conv=>whnf)
    exact⟨m-1,ab,k+1,ab,rY,rfl⟩
   ·rw[jd hB]
    (repeat'((conv=>whnf);first|refine bj ab ?_|fail))<;>try(conv=>whnf)
    exact Y0
  ·rw[jd hA]
   (repeat'((conv=>whnf);first|refine au ab ?_|refine iY aA ?_|fail))<;>try(conv=>whnf)
   have hB:h_ A l≠[]:=aoi l hA;refine⟨A,l,bI (ls.take k).flatten,rfl,⟨ab,ab,ab,MY,rh.2⟩,(jd hA).symm,?_,λ_=>?_⟩
   ·rw[jd hB]
    (repeat'((conv=>whnf);first|refine bj ab ?_|fail))<;>try(conv=>whnf)
    exact Y0
   ·unfold lZ
    (repeat'((conv=>whnf);first|refine bj ab ?_|fail))<;>try(conv=>whnf)
    exact Y0
 ·have hk:k=ls.length:=by omega
  subst hk;have MY:=hJ ls.length;have aHT:=mE ls.length;rw[zcV]at MY aHT ⊢;unfold U4 at hK;generalize h_ [] ls.flatten=A at*;rw[jd dI]
  (repeat'((conv=>whnf);first|refine aw ab ?_|fail))<;>try(conv=>whnf)
  refine⟨A,rfl,⟨dI,ab,λq hq=>aBo (MY q hq) h3⟩,(jd dI).symm,λhe=>?_,λhe=>?_⟩
  ·rw[he,if_pos rfl]at hK;rw[jd dI]
   (conv=>whnf)
   exact abO
  ·rw[if_neg he]at hK;rw[jd dI]
   (conv=>whnf)
   exact abm
def asn{r:Rn}(h:jZ r):RN r:=by
 unfold jZ at h;unfold RN;split at h<;>omega
def ay7{l:List Rn}{f n:Int}(hf:0<=f/\0<=n)(hl:∀r∈l,jZ r):(NB l f n).1.length<=l.length∧∀q∈(NB l f n).1,RN q:=by
 have:=aze hf hl l.length;rw[zcV]at this;exact⟨this.1.1,this.2⟩
def anl{l:List Rn}(hl:∀r∈l,jZ r):∀(out:List Rn) (f n:Int),0<=f->0<=n->bI (l.foldl ee (out,f,n)).1=bI out+min n (max 0 (bI l-f)):=by
 induction l with
 |nil=>intro out f n h1 h2;simp[bI];omega
 |cons r l ih=>
  intro out f n h1 h2;have hr:=rG (hl r aj);have z_:0<=bI l:=agZ λq hq=>asn (hl q kF)
  rw[zbg,gS];have:=ih (λq hq=>hl q kF) (ee (out,f,n) r).1 (ee (out,f,n) r).2.1 (ee (out,f,n) r).2.2;have e:ee (out,f,n) r=((ee (out,f,n) r).1,(ee (out,f,n) r).2.1,(ee (out,f,n) r).2.2):=rfl;rw[e,this (by unfold ee;simp only;omega) (by unfold ee;simp only;omega)];unfold ee;simp only;rw[FE];split
  ·simp[bI]at*;omega
  ·simp[bI]at*;omega
def fO(l:List Rn)(p:Int)(tr:Rn):List Rn:=(NB l 0 p).1++[tr]++(NB l (p+tr.n) (bI l)).1
noncomputable def nn(l:List Rn)(p:Int)(tr:Rn):Int:=ny (h_ [] (fO l p tr))
def Hs(ps:List PV)(r:RV):Prop:=∃(s:Rs) (p:Int) (tr:Rn),ps=[qF s,pI p,Pa [tr]]/\(dU s.l=0/\dU [tr]=0/\0<=p/\p+tr.n<=bI s.l)/\
 r=.tup [.fresh 37 2 ((U4 (h_ [] (fO s.l p tr))).map Rn.pv),.pv (pI (nn s.l p tr))]
def Dz(ps:List PV)(x:PV):Prop:=∃(s:Rs) (p:Int) (tr:Rn),ps=[qF s,pI p,Pa [tr],pI tr.n]/\(dU s.l=0/\dU [tr]=0/\0<=p/\p+tr.n<=bI s.l)/\x=pI 0
def VV:MT (ay [(196,ah wB),(230,bF bG),(229,ah dG),(197,ah iu),(228,ah gB)]) EL (ah Dz):=by
 rintro _ K ⟨_,⟨s,p,tr,rfl,⟨h1,h2,h3,h4⟩,rfl⟩,hK⟩;have hb:=TT h1;have hr:=rG ((bZ h2).2.2.2 tr aj);have aDZ:wB [.sl 1 [qF s,Pa [tr]]] (pI 0):=⟨[s,.sl [tr]],rfl,aj,bu (by show(0:Int)=bQ [dU s.l,dU [tr]];rw[h1,h2];rfl)⟩
 have hlen:iu [qF s] (pI (bI s.l)):=⟨s,rfl,GB h1,rfl⟩
 (repeat'((conv=>whnf);first|refine zcd (show ahB 1 [qF s,Pa [tr]]=true by cases s<;>rfl) ?_|refine⟨_,aDZ,?_⟩|refine⟨_,hlen,?_⟩|(refine fe ?_;first|refine bj ab ?_|refine au ab ?_|refine bT ?_|refine⟨_,⟨_,_,rfl,rfl⟩,?_⟩|refine⟨_,⟨_,_,_,rfl,rfl⟩,?_⟩|refine⟨_,⟨[_,_,_],rfl,rfl⟩,?_⟩|fail)))<;>try(conv=>whnf)
 exact aG
set_option maxHeartbeats 1000000 in
def aao:MT (ay [(196,ah wB),(197,ah iu),(198,ah Dz),(200,c8 true YT),(199,c8 true Xb)]) H9 (c8 true Hs):=by
 rintro _ K ⟨_,⟨s,p,tr,rfl,⟨h1,h2,h3,h4⟩,rfl⟩,hK⟩;have hb:=TT h1;have gr:=bZ h1;have M5:=(bZ h2).2.2.2 tr aj;have hr:=rG M5;have aDZ:wB [.sl 1 [Pa [tr]]] (pI 0):=⟨[.sl [tr]],rfl,aj,bu (by show(0:Int)=bQ [dU [tr]];rw[h2];rfl)⟩
 have aU:iu [Pa [tr]] (pI tr.n):=⟨.sl [tr],rfl,GB h2,bu (by simp[bI,Sl.l])⟩
 have hlen:iu [qF s] (pI (bI s.l)):=⟨s,rfl,GB h1,rfl⟩
 have UH:Dz [qF s,pI p,Pa [tr],pI tr.n] (pI 0):=⟨s,p,tr,rfl,⟨h1,h2,h3,h4⟩,rfl⟩
 have XN:YT [qF s,pI 0,pI p] (.fresh 37 2 ((NB s.l 0 p).1.map Rn.pv)):=⟨s,0,p,rfl,⟨ab,ab,ab,gr.2.2.2⟩,rfl⟩
 have eQ:YT [qF s,pI (p+tr.n),pI (bI s.l)] (.fresh 37 2 ((NB s.l (p+tr.n) (bI s.l)).1.map Rn.pv)):=⟨s,p+tr.n,bI s.l,rfl,⟨ab,ab,ab,gr.2.2.2⟩,rfl⟩
 have Vt:=ay7 (f:=0) (n:=p) ⟨ab,ab⟩ gr.2.2.2;have WT:=ay7 (f:=p+tr.n) (n:=bI s.l) ⟨ab,ab⟩ gr.2.2.2;have lX:=anl gr.2.2.2 [] 0 p ab ab;have ZI:=anl gr.2.2.2 [] (p+tr.n) (bI s.l) ab ab;have PA:Xb [.sl 1 [Pa (NB s.l 0 p).1,Pa [tr],Pa (NB s.l (p+tr.n) (bI s.l)).1]] (.tup [.fresh 37 2 ((U4 (h_ [] (fO s.l p tr))).map Rn.pv),.pv (pI (nn s.l p tr))]):=by
  have e:[(NB s.l 0 p).1,[tr],(NB s.l (p+tr.n) (bI s.l)).1].flatten=fO s.l p tr:=by simp[fO]
  refine⟨[(NB s.l 0 p).1,[tr],(NB s.l (p+tr.n) (bI s.l)).1],rfl,⟨aj,?_,?_,?_⟩,?_⟩
  ·intro l hl;simp only[zax,zcp,or_false]at hl;rcases hl with rfl|rfl|rfl
   ·exact⟨ab,Vt.2⟩
   ·exact⟨aj,λr hr=>by rw[zcS]at hr;subst hr;exact asn M5⟩
   ·exact⟨ab,WT.2⟩
  ·rw[e];unfold fO;rw[FE,FE];unfold NB;rw[lX,ZI];simp only[bI,zau,zdh,zdr,List.sum_nil]at*;omega
  ·rw[e];unfold fO;simp
  ·rw[e];rfl
 generalize (NB s.l 0 p).1=P1 at*;generalize (NB s.l (p+tr.n) (bI s.l)).1=P2 at*
 (repeat'((conv=>whnf);first|refine⟨_,aDZ,?_⟩|refine⟨_,aU,?_⟩|refine⟨_,UH,?_⟩|refine⟨_,hlen,?_⟩|refine⟨_,XN,?_⟩|refine⟨_,eQ,?_⟩|refine⟨_,PA,?_⟩|refine bj ab ?_|refine au ab ?_|refine aw ab ?_|refine bT ?_|fail))<;>try(conv=>whnf)
 exact abO
def qx(a:At)(p:Int)(tr:Rn):At:={ a with rn:=.sl (h_ [] (fO a.rn.l p tr)) }
def J2(B:List UInt8)(pl:List Int)(p:Int)(tr:Rn):Nat->List UInt8
 |0=>B
 |k+1=>MF (J2 B pl p tr k) (tr.s+k).toNat (eU B (pl[p.toNat+k]?.getD 0).toNat)
def Jv(b:Nat->Bool)(pl:List Int)(p:Int)(tr:Rn):Nat->Nat->Bool
 |0=>b
 |k+1=>λc=>if c=(tr.s+k).toNat then true else if c=(pl[p.toNat+k]?.getD 0).toNat then false else Jv b pl p tr k c
noncomputable def dJ(d:Dk)(a:At)(p:Int)(tr:Rn):Int:=
 if aK d a≠0 then aK d a else if SJ (ar d a) p tr≠0 then SJ (ar d a) p tr else if nn a.rn.l p tr≠0 then 8 else if gu (qx a p tr)≠0 then 8 else 0
noncomputable def jM(d:Dk)(a:At)(p:Int)(tr:Rn):Dk:=if dJ d a p tr≠0 then zD else⟨J2 d.a_ (az a.rn.l) p tr tr.n.toNat,mG (cQ (Jv (df d) (az a.rn.l) p tr tr.n.toNat) d.n)⟩
noncomputable def jG(d:Dk)(a:At)(p:Int)(tr:Rn):At:=if dJ d a p tr≠0 then zA else qx a p tr
def ape{r:Rn}(h:jZ r):dU [r]=0:=by
 have hb:=rG h;have h0:∀k,k<[r].length->Wx [r] k=0:=λk hk=>by
  have:k=0:=by simpa using hk
  subst this;exact KD (x:=r) rfl h (λ_ h=>ab) (by rintro⟨k,hk,_⟩;omega)
 unfold dU;rw[Mo aj h0,if_pos (by simp[bI];omega)]
def aak:∀{l:List Int},bt l=l.length→∀x∈l,x≠ -1
 |[],_=>λ_ h=>by cases h
 |a::l,h=>by
  have hl:=oG l;unfold bt at h hl;rw[List.filter_cons]at h;split at h
  ·rename_i ha;intro x hx;rcases zax.1 hx with rfl|hx
   ·simpa using ha
   ·exact aak (by unfold bt;simpa using h) x hx
  ·rw[zam]at h;omega
structure aJG(s:St)(p:Int)(tr:Rn):Prop where
 ok:Pv s p tr
 rs:s.a.rs=false
 len:p+tr.n<=s.pl.length
 from_:∀k:Nat,(k:Int)<tr.n→∃x,s.pl[p.toNat+k]?=some x/\x≠ -1
 free:∀c:Nat,tr.s<=c->(c:Int)<tr.s+tr.n->df s.d c=false
def Up{s:St}{p:Int}{tr:Rn}(h:SJ s p tr=0):aJG s p tr:=by
 unfold SJ at h;split at h
 ·cases h
 rename_i h1;split at h
 ·cases h
 rename_i h2;have h2:=zb2.1 h2;split at h
 ·cases h
 rename_i h3;split at h
 ·cases h
 rename_i h4;have h4:=zb2.1 h4;split at h
 ·cases h
 rename_i h5;have pr:=h2;unfold Pv at pr;have hlen:((s.pl.drop p.toNat).take tr.n.toNat).length=tr.n.toNat:=Rb;refine⟨h2,xO,ab,λk hk=>?_,λc h6 h7=>?_⟩
 ·have hx:s.pl[p.toNat+k]?=some (s.pl[p.toNat+k]'ab):=zah ab;refine⟨_,hx,aak (l:=(s.pl.drop p.toNat).take tr.n.toNat) ab _ ?_⟩;refine zag (i:=k) ?_;rw[zch ab,zaB];exact hx
 ·cases hb:df s.d c with
  |false=>rfl
  |true=>
   refine absurd ?_ h5;refine zag (i:=c-tr.s.toNat) ?_;rw[zch ab,zaB,show tr.s.toNat+(c-tr.s.toNat)=c by omega,bO ab,hb]
def Xk{B:List UInt8}{pl:List Int}{p:Int}{tr:Rn}(h:∀k:Nat,(k:Int)<tr.n->0<=tr.s+k/\(tr.s+k+1)*256<=B.length/\((pl[p.toNat+k]?.getD 0).toNat+1)*256<=B.length):∀k:Nat,(k:Int)<=tr.n->(J2 B pl p tr k).length=B.length
 |0,_=>rfl
 |k+1,hk=>by
  have ih:=Xk (B:=B) h k ab;have hh:=h k ab;unfold J2;rw[Yb ab (gI hh.2.2),ih]
def Lr(ps:List PV)(r:RV):Prop:=∃(d:Dk) (a:At) (p:Int) (tr:Rn),ps=[d.pv,a.pv,pI p,tr.pv]/\(wU d/\a.nm.length<=1000000)/\
 r=.tup [.pv (jM d a p tr).pv,.pv (jG d a p tr).pv,.pv (pI (dJ d a p tr))]
set_option maxHeartbeats 2000000 in
def aj8:MT (ay [(127,xt),(140,ah Mk),(141,c8 true Hs),(112,ah nC),(142,c8 true xj),(143,ah AN),(144,ah Mn)]) JW (c8 false Lr):=by
 rintro _ K ⟨_,⟨d,a,p,tr,rfl,⟨h1,h2⟩,rfl⟩,hK⟩;refine⟨d,a,rfl,⟨pR h1,h2⟩,λh=>?_,λh v hv=>?_⟩
 ·have sM:=(bc h).1;have fM:=sM.st h1 h2;have lM:Mk [sP (ar d a),pI p,tr.pv] (pI (SJ (ar d a) p tr)):=⟨ar d a,p,tr,rfl,fM,rfl⟩
  by_cases hm:SJ (ar d a) p tr=0
  ·have mo:=Up hm;have di:=mo.ok;unfold Pv at di;have kr:d.n<=512:=sM.nb;have WW:(ar d a).d=d:=rfl;rw[WW]at di;have M8:256*d.n<=d.a_.length:=so;have mW:d.a_.length<=200000:=h1.1;have qG:(ar d a).pl=az a.rn.l:=rfl;have ab8:=mo.from_;have jB:=X6 fM;rw[qG]at ab8 jB;rw[WW]at jB;obtain⟨N,hN⟩:∃N,N=d.n:=⟨_,rfl⟩
   obtain⟨BL,A9⟩:∃BL,BL=d.a_.length:=⟨_,rfl⟩
   rw[<-hN]at di kr M8 jB;rw[<-A9]at M8 mW;have M5:jZ tr:=by clear h hm;unfold jZ;split<;>omega
   have aLB:=xA (l:=a.rn.l) λr hr=>by have:=rG ((bZ sM.rn).2.2.2 r hr);omega
   have hlen:p+tr.n<=bI a.rn.l:=by have h3:=mo.len;rw[qG]at h3;omega
   have ui:Hs [qF a.rn,pI p,Pa [tr]] _:=⟨a.rn,p,tr,rfl,⟨sM.rn,ape M5,ab,hlen⟩,rfl⟩
   have e_:p<=128:=by have h3:=mo.len;have h4:=sM.len;rw[qG]at h3;omega
   clear aLB hlen;have pe:∀k:Nat,(k:Int)<tr.n→∃x:Nat,(az a.rn.l)[p.toNat+k]?=some (x:Int)/\256*(x+1)<=BL/\x<N:=λk hk=>by
    clear h hm;obtain⟨x,hx,dI⟩:=ab8 k hk;have:=jB x (zag hx);refine⟨x.toNat,by rw[hx];congr 1;omega,ab,ab⟩
   have yh:=Xk (B:=d.a_) (pl:=az a.rn.l) (p:=p) (tr:=tr) λk hk=>by
    clear h hm;obtain⟨x,hx,vR,mV⟩:=pe k hk;rw[hx,zbx,<-A9];exact⟨ab,ab,by rw[zaC,zdi];exact vR⟩
   rw[<-A9]at yh;by_cases hr:nn a.rn.l p tr=0
   ·have PA:U4 (h_ [] (fO a.rn.l p tr))=h_ [] (fO a.rn.l p tr):=by unfold U4;rw[if_pos (show ny _=0 from hr)]
    rw[PA]at ui;have rp:(qx a p tr).pv=.agg [pI a.ty,.str a.nm,pI a.id,pI a.fl,pB a.rs,.str a.vl,pI a.ft,Pa (h_ [] (fO a.rn.l p tr)),pI a.al,pI a.sz,pI a.vd]:=rfl;have IF:nC [(qx a p tr).pv] (pI (gu (qx a p tr))):=⟨qx a p tr,rfl,h2,rfl⟩
    by_cases ha:gu (qx a p tr)=0
    ·have he:dJ d a p tr=0:=by unfold dJ;rw[if_neg (λe=>e h),if_neg (λe=>e hm),if_neg (λe=>e hr),if_neg (λe=>e ha)]
     unfold jM jG at hK;rw[he,if_neg z0,if_neg z0]at hK;have ab6:xj [d.pv] (.fresh 4 1 ((cQ (df d) d.n).map pB)):=⟨d,rfl,⟨by have:=h1.1;omega,h1.2,sM.bm⟩,by rw[<-W_]⟩
     rw[<-hN]at ab6 hK;rw[rp]at IF hK;generalize h_ [] (fO a.rn.l p tr)=J at*;generalize gu (qx a p tr)=AE at*;have mE:∀x:Nat,256*(x+1)<=BL->AN [sP (ar d a),pI x] (.str (eU d.a_ x)):=λx hx=>⟨ar d a,x,rfl,⟨by rw[A9,zdi]at hx;exact hx,by show d.a_.length<=_;omega⟩,rfl⟩
     (repeat'((conv=>whnf);first|refine⟨_,lM,?_⟩|refine⟨_,ui,?_⟩|refine⟨_,IF,?_⟩|refine⟨_,ab6,?_⟩|refine zcd (show d.a_.length<=_ by rw[<-A9];omega) ?_|refine au ab ?_|refine aw ab ?_|refine bT ?_|fail))<;>try(conv=>whnf)
     refine⟨λm env σ=>∃k:Nat,(k:Int)+m=tr.n/\
      σ=[.box 41 [.pv (pI a.ty),.pv (.str a.nm),.pv (pI a.id),.pv (pI a.fl),.pv (pB a.rs),.pv (.str a.vl),.pv (pI a.ft),.own 6,.pv (pI a.al),.pv (pI a.sz),.pv (pI a.vd)],.box 37 [.pv (pI tr.s),.pv (pI tr.n)],
       .box 23 [.pv (.str []),.pv (.str [])],.box 41 [.pv (pI 0),.pv (.str []),.pv (pI 0),.pv (pI 0),.pv (pB false),.pv (.str []),.pv (pI 0),.pv (.nil 2),.pv (pI 0),.pv (pI 0),.pv (pI 0)],
       rk (Jv (df d) (az a.rn.l) p tr k) N,.row 5 1 false ((J2 d.a_ (az a.rn.l) p tr k).map aL),.row 37 2 true (J.map Rn.pv)]/\
      env=[eN 2 p,(5,.ref 0 0 0),(7,.ref 1 0 0),(8,.ref 2 0 0),(9,.ref 3 0 0),(11,.pv (sP (ar d a))),(14,.own 4),(15,.own 5),eN 61 tr.n,eN 62 k],tr.n.toNat,⟨0,ab,rfl,rfl⟩,?_⟩
     rintro m env σ ⟨k,hk,rfl,rfl⟩;clear h hm hr he ha;by_cases aU:(k:Int)<tr.n
     ·obtain⟨x,hx,vR,mV⟩:=pe k aU;have HJ:=yh k ab;have Wk:(az a.rn.l)[(p+(k:Int)).toNat]?=some (x:Int):=abb;have yZ:J2 d.a_ (az a.rn.l) p tr (k+1)=MF (J2 d.a_ (az a.rn.l) p tr k) (tr.s+k).toNat (eU d.a_ x):=by
       show MF _ _ (eU d.a_ ((az a.rn.l)[p.toNat+k]?.getD 0).toNat)=_;rw[hx];rfl
      have G6:(((cQ (Jv (df d) (az a.rn.l) p tr k) N).map pB).set ((x:Int)).toNat (pB false)).set (tr.s+(k:Int)).toNat (pB true)=(cQ (Jv (df d) (az a.rn.l) p tr (k+1)) N).map pB:=by
       rw[<-zc1,<-zc1,tg,tg];congr 1;refine kT λc hc=>?_
       show _=if c=(tr.s+k).toNat then true else if c=((az a.rn.l)[p.toNat+k]?.getD 0).toNat then false else Jv (df d) (az a.rn.l) p tr k c
       rw[hx];rfl
      have ly:=anB (Q:=J2 d.a_ (az a.rn.l) p tr k) (p:=eU d.a_ x) (k:=tr.s+k) ab (gI (by rw[<-A9,zdi];exact vR));have aLC:=mE x vR;have uu:=gI (B:=d.a_) (n:=x) (by rw[<-A9,zdi];exact vR);clear hK lM ui IF ab6 mE jB pe yh ab8;have JM:((J2 d.a_ (az a.rn.l) p tr k).map aL).length=BL:=by rw[zaw];exact HJ
      have hy:∃y:Bool,(((cQ (Jv (df d) (az a.rn.l) p tr k) N).map pB).set ((x:Int)).toNat (pB false))[(tr.s+(k:Int)).toNat]?=some (pB y):=by
       by_cases he:((x:Int)).toNat=(tr.s+(k:Int)).toNat
       ·exact⟨false,by rw[<-he,zcm P3]⟩
       ·exact⟨_,by rw[zct he,za9,bO ab];rfl⟩
      obtain⟨y,hy⟩:=hy;have aHU:(((cQ (Jv (df d) (az a.rn.l) p tr k) N).map pB).set ((x:Int)).toNat (pB false)).length=N:=by rw[za0,zaw,ck]
      simp only[rk];clear hN A9;generalize J2 d.a_ (az a.rn.l) p tr k=Q at*;generalize Jv (df d) (az a.rn.l) p tr k=F at*
      (repeat'((conv=>whnf);first|refine oQ ?_|refine⟨_,aLC,?_⟩|refine Or.inr ?_|refine zcd (by rw[JM];omega) ?_|refine zcd (by rw[aHU];omega) ?_|refine⟨_,hy,?_⟩|refine bj ab ?_|refine au ab ?_|refine anF ab aA ?_|refine Vx ab ?_|refine Ug ab ?_|fail))<;>try(conv=>whnf)
      exact⟨m-1,ab,k+1,ab,by rw[yZ,<-ly,<-G6],rfl⟩
     ·have hk:k=tr.n.toNat:=by omega
      subst hk
      (repeat'((conv=>whnf);first|refine oQ ?_|refine⟨_,⟨cQ (Jv (df d) (az a.rn.l) p tr tr.n.toNat) N,rfl,kD,rfl⟩,?_⟩|refine aw ab ?_|refine yR ?_|fail))<;>try(conv=>whnf)
      exact⟨[.pv (.agg [_,_]),.pv (.agg [_,_,_,_,_,_,_,_,_,_,_]),.pv (pI _)],⟨rfl,rfl,rfl,trivial⟩,trivial,hK⟩
    ·have he:dJ d a p tr=8:=by unfold dJ;rw[if_neg (λe=>e h),if_neg (λe=>e hm),if_neg (λe=>e hr),if_pos ha]
     unfold jM jG at hK;rw[he,if_pos z8,if_pos z8]at hK;rw[rp]at IF
     (repeat'((conv=>whnf);first|refine⟨_,lM,?_⟩|refine⟨_,ui,?_⟩|refine⟨_,IF,?_⟩|refine au ab ?_|refine aw ab ?_|refine bT ?_|fail))<;>try(conv=>whnf)
     exact iN
   ·have he:dJ d a p tr=8:=by unfold dJ;rw[if_neg (λe=>e h),if_neg (λe=>e hm),if_pos hr]
    unfold jM jG at hK;rw[he,if_pos z8,if_pos z8]at hK
    (repeat'((conv=>whnf);first|refine⟨_,lM,?_⟩|refine⟨_,ui,?_⟩|refine au ab ?_|refine aw ab ?_|refine bT ?_|fail))<;>try(conv=>whnf)
    exact iN
  ·have he:dJ d a p tr=SJ (ar d a) p tr:=by unfold dJ;rw[if_neg (λe=>e h),if_pos hm]
   unfold jM jG at hK;rw[he,if_pos hm,if_pos hm]at hK
   (repeat'((conv=>whnf);first|refine⟨_,lM,?_⟩|refine au ab ?_|refine bT ?_|fail))<;>try(conv=>whnf)
   exact iN
 ·have he:dJ d a p tr=aK d a:=by unfold dJ;rw[if_pos h]
  unfold jM jG at hK;rw[he,if_pos h,if_pos h]at hK;rcases hv with rfl|rfl
  all_goals
   (repeat'((conv=>whnf);first|refine aw (p:=aK d a=0) h ?_|refine au h ?_|refine bT ?_|fail))<;>try(conv=>whnf)
   exact iN
def p_{α:Type}(l:List α){k:Nat}(hk:k<ew l.length):(chunks l)[k]?=some (bq l k):=by
 unfold chunks;rw[za9,zbz hk];rfl
def Hv(ps:List PV)(r:RV):Prop:=∃s:Rs,ps=[qF s]/\s.l.length<=1000000/\r=.fresh 37 2 (s.l.map Rn.pv)
def Tv:MT (ay []) Ih (c8 true Hv):=by
 rintro _ K ⟨_,⟨s,rfl,hs,rfl⟩,hK⟩;have gJ:(s.l.map Rn.pv).length=s.l.length:=zaw _
 (repeat'((conv=>whnf);first|refine KP ?_|refine bT ?_|refine zcd cu ?_|fail))<;>try(conv=>whnf)
 exact vj
def aB(a:At):At:={ a with rn:=.sl a.rn.l }
def dK(ps:List PV)(r:RV):Prop:=∃a:At,ps=[a.pv]/\a.rn.l.length<=1000000/\r=.pv (aB a).pv
def acO:MT (ay [(116,c8 true Hv)]) yk (c8 false dK):=by
 rintro _ K ⟨_,⟨a,rfl,hs,rfl⟩,hK⟩
 (repeat'((conv=>whnf);first|refine⟨_,⟨a.rn,rfl,hs,rfl⟩,?_⟩|refine bT ?_|fail))<;>try(conv=>whnf)
 exact⟨.pv (aB a).pv,rfl,trivial,hK⟩
def jW(ps:List PV)(p:Prop):Prop:=∃a b:Rs,ps=[qF a,qF b]/\(a.l.length<=1000000/\b.l.length<=1000000)/\p=(a.l=b.l)
def T0:MT (ay []) HY (bF jW):=by
 rintro _ K ⟨_,⟨a,b,rfl,⟨h1,h2⟩,rfl⟩,hK⟩;by_cases hl:a.l.length=b.l.length
 case neg=>
  have dI:¬a.l=b.l:=λe=>hl (by rw[e])
  (repeat'((conv=>whnf);first|refine KP ?_|refine au ab ?_|refine dq λ_=>?_|fail))<;>try(conv=>whnf)
  exact⟨.pv (.bool _),rfl,trivial,hK false (by simp[dI])⟩
 (repeat'((conv=>whnf);first|refine KP ?_|refine aw ab ?_|refine dq λ_=>?_|fail))<;>try(conv=>whnf)
 refine⟨λm env σ=>∃n:Nat,(n+m=a.l.length∧∀j,j<n->a.l[j]?=b.l[j]?)/\σ=[]/\env=[(0,.pv (qF a)),(1,.pv (qF b)),eN 5 n],a.l.length,⟨0,⟨ab,λj hj=>ab⟩,rfl,rfl⟩,?_⟩;rintro m env σ ⟨n,⟨hn,h0⟩,rfl,rfl⟩;by_cases aU:n<a.l.length
 ·obtain⟨x,hx⟩:∃x,a.l[n]?=some x:=⟨_,zah aU⟩
  obtain⟨y,hy⟩:∃y,b.l[n]?=some y:=⟨_,zah ab⟩
  by_cases zn:x=y
  ·subst zn
   (repeat'((conv=>whnf);first|refine oQ ?_|refine KP ?_|refine Ek hx ?_|refine Ek hy ?_|refine aw (λh=>h rfl) ?_|refine bj ab ?_|refine au ab ?_|refine dq λ_=>?_|fail))<;>try(conv=>whnf)
   refine⟨m-1,ab,n+1,⟨ab,λj hj=>?_⟩,rfl,rfl⟩;rcases zcb (zcl hj)with h1|h1
   ·exact h0 j h1
   ·rw[h1,hx,hy]
  ·have dI:¬a.l=b.l:=λe=>zn (by rw[e,hy]at hx;exact(Option.some.inj hx).symm)
   have rF:¬[pI x.s,pI x.n]=[pI y.s,pI y.n]:=λh=>zn (by
    obtain⟨xs,xn⟩:=x;obtain⟨ys,yn⟩:=y;simp[pI]at h;rw[h.1,h.2])
   (repeat'((conv=>whnf);first|refine oQ ?_|refine KP ?_|refine Ek hx ?_|refine Ek hy ?_|refine au rF ?_|refine au ab ?_|refine dq λ_=>?_|fail))<;>try(conv=>whnf)
   exact⟨.pv (.bool _),rfl,trivial,hK false (by simp[dI])⟩
 ·have he:a.l=b.l:=by
   apply zba;intro j;by_cases hj:j<n
   ·exact h0 j hj
   ·rw[zaK ab,zaK ab]
  (repeat'((conv=>whnf);first|refine KP ?_|refine aw ab ?_|refine dq λ_=>?_|fail))<;>try(conv=>whnf)
  exact⟨.pv (.bool _),rfl,trivial,hK true (by simp[he])⟩
def Xo(a b:At):Prop:=a.ty=b.ty/\a.nm=b.nm/\a.id=b.id/\a.fl=b.fl/\a.rs=b.rs/\a.vl=b.vl/\a.ft=b.ft/\a.rn.l=b.rn.l/\a.al=b.al/\a.sz=b.sz/\a.vd=b.vd
def OO(ps:List PV)(p:Prop):Prop:=∃a b:At,ps=[a.pv,b.pv]/\(a.rn.l.length<=1000000/\b.rn.l.length<=1000000)/\p=Xo a b
set_option maxHeartbeats 2000000 in
def aiS:MT (ay [(18,bF jW)]) x5 (bF OO):=by
 rintro _ K ⟨_,⟨a,b,rfl,h,rfl⟩,hK⟩;have QL:jW [qF a.rn,qF b.rn] (a.rn.l=b.rn.l):=⟨a.rn,b.rn,rfl,h,rfl⟩
 have yes:Xo a b->K (.pv (.bool true)):=λh=>hK true uQ
 have no:¬Xo a b->K (.pv (.bool false)):=λh=>hK false uQ
 unfold Xo at yes no;clear hK;clear QL;have QL:jW [qF a.rn,qF b.rn] (a.rn.l=b.rn.l):=⟨a.rn,b.rn,rfl,h,rfl⟩
 (repeat'((conv=>whnf);first|refine⟨_,QL,?_⟩|refine de (λ_=>?_) (λ_=>?_)|fail))<;>try(conv=>whnf)
 all_goals clear QL h
 all_goals first
  |exact⟨.pv (.bool _),rfl,trivial,no (by intro hh;obtain⟨i1,i2,i3,i4,i5,i6,i7,i8,i9,i10,i11⟩:=hh;contradiction)⟩
  |exact⟨.pv (.bool _),rfl,trivial,yes (by refine⟨?_,?_,?_,?_,?_,?_,?_,?_,?_,?_,?_⟩<;>assumption)⟩
def tV(pl:List Int):List Int:=pl.filter λx=>decide (x≠ -1)
def atd{pl:List Int}{x:Int}:x∈tV pl↔x∈pl/\x≠ -1:=by unfold tV;rw[List.mem_filter];simp
def E0(d e:Dk)(A B:List Int)(c:Nat):Prop:=
 ((c:Int)∉A/\(c:Int)∉B->bH e.mp c=bH d.mp c/\eU d.a_ c=eU e.a_ c)/\((c:Int)∈A/\(c:Int)∉B->bH e.mp c=0)/\((c:Int)∈B->bH e.mp c=1)/\((c:Int)∈B/\(c:Int)∉A->bH d.mp c=0)
def acg(d e:Dk)(a b:At):Prop:=(d.a_.length=e.a_.length/\gm e=0)∧∀c,c<d.n->E0 d e (tV (az a.rn.l)) (tV (az b.rn.l)) c
def RF(l:List Bool):Nat:=l.countP id
def awY(l:List Bool):∀x∈l.map pB,x.flat:=by
 intro x hx;obtain⟨b,_,rfl⟩:=zaX.1 hx;trivial
def au6(acc:List Rn)(a:Int):y4 acc ⟨a,1⟩=qV acc a:=by
 unfold y4 qV;cases acc.getLast? with
 |none=>rfl
 |some q=>
  have:iy q ⟨a,1⟩↔((a= -1/\q.s= -1)\/(a≠ -1/\q.s≠ -1/\q.s+q.n=a)):=by unfold iy;simp only;omega
  simp only[this]
def C8(pl:List Int)(p:Int)(tr:Rn):Nat->List Int
 |0=>pl
 |k+1=>(C8 pl p tr k).set (p+k).toNat (tr.s+k)
def Xy(pl:List Int)(p:Int)(tr:Rn):∀k,(C8 pl p tr k).length=pl.length
 |0=>rfl
 |k+1=>by rw[C8,za0];exact Xy pl p tr k
def Il(a:At)(p:Int)(tr:Rn):At:={ a with rn:=.sl (IA (C8 (az a.rn.l) p tr tr.n.toNat)) }
noncomputable def fE(d:Dk)(a:At)(p:Int)(tr:Rn):Int:=
 if SJ (ar d a) p tr≠0 then SJ (ar d a) p tr else if 64<(IA (C8 (az a.rn.l) p tr tr.n.toNat)).length\/gu (Il a p tr)≠0 then 8 else 0
def cX(l:List Int)(pl:List Int)(p:Int)(tr:Rn):Nat->List Int
 |0=>l
 |k+1=>((cX l pl p tr k).set (tr.s+k).toNat 1).set (pl[p.toNat+k]?.getD 0).toNat 0
def RQ(l pl:List Int)(p:Int)(tr:Rn):∀k,(cX l pl p tr k).length=l.length
 |0=>rfl
 |k+1=>by rw[cX,za0,za0];exact RQ l pl p tr k
def Lz(d:Dk)(a:At)(p:Int)(tr:Rn):Dk:=⟨J2 d.a_ (az a.rn.l) p tr tr.n.toNat,VA (λi=>((cX (sj d.mp d.n) (az a.rn.l) p tr tr.n.toNat)[i]?.getD 0).toNat) d.n⟩
def aiK(a:Int):iV ⟨a,1⟩=[a]:=by
 unfold iV;simp only[show(1:Int).toNat=1 from rfl,List.range_one,zau,zdh];split
 ·rename_i h;rw[h]
 ·simp
def aqA{q:Rn}{a:Int}(hq:0<=q.n)(h:(a= -1/\q.s= -1)\/(a≠ -1/\q.s≠ -1/\q.s+q.n=a)):iV ⟨q.s,q.n+1⟩=iV q++[a]:=by
 unfold iV;simp only;rw[show(q.n+1).toNat=q.n.toNat+1 by omega,zdj,zbs];congr 1;simp only[zau,zdh];split
 ·rw[show a= -1 by omega]
 ·rw[show q.s+((q.n.toNat:Nat):Int)=a by omega]
def Ff(a b:List Rn):az (a++b)=az a++az b:=by unfold az;rw[zaz]
def EN(r:Rn):az [r]=iV r:=by simp[az]
def ao0{acc:List Rn}{a:Int}(h:∀r∈acc,0<=r.n):az (qV acc a)=az acc++[a]:=by
 unfold qV;cases hl:acc.getLast? with
 |none=>
  have:acc=[]:=Lu;subst this;simp only[EN,aiK];rfl
 |some q=>
  simp only;have dI:acc≠[]:=by intro e;subst e;cases hl
  have e:acc.dropLast++[q]=acc:=by
   have e1:=zdf dI;rw[zdd dI]at hl;rw[<-Option.some.inj hl];exact e1
  split
  ·rename_i hj;rw[Ff,EN,aqA (h q (zc5 hl)) hj,<-zaj];congr 1;rw[<-EN,<-Ff,e]
  ·rw[Ff,EN,aiK]
def ZB{l:List Int}(h:∀a∈l,-1<=a/\a<=1000000):az (IA l)=l:=by
 have:∀n,n<=l.length->az (IA (l.take n))=l.take n:=by
  intro n
  induction n with
  |zero=>intro _;simp[IA,az]
  |succ n ih=>
   intro hn;have ha:l[n]?=some l[n]:=zah ab;rw[Fh ha,ao0 (λr hr=>by have:=((agT h n).2 r hr).1.1;omega),ih ab,zck,ha];rfl
 have:=this l.length (zai _);rwa[zcV]at this
def yw(l:List Int):Prop:=l.Pairwise λa b=>a≠ -1->a≠b
def XD{l:List Int}(h:yw l){i j:Nat}{x:Int}(hi:l[i]?=some x)(hj:l[j]?=some x)(hx:x≠ -1):i=j:=by
 unfold yw at h;rw[zcW]at h;obtain⟨ud,j9⟩:=zaa.1 hi;obtain⟨oX,Gx⟩:=zaa.1 hj;rcases zbE i j with aU|heq|aU
 ·exact absurd (by rw[j9,Gx]) (h i j ud oX aU (by rw[j9];exact hx))
 ·exact heq
 ·exact absurd (by rw[j9,Gx]) (h j i oX ud aU (by rw[Gx];exact hx))
def Xt{l:List Int}(h:∀(i j:Nat) (x:Int),l[i]?=some x->l[j]?=some x->x≠ -1->i=j):yw l:=by
 unfold yw;rw[zcW];intro i j hi hj zk hx e;have:=h i j l[i] (zah hi) (by rw[zah hj,e]) hx;omega
def asW{l:List Rn}{k:Nat}{r:Rn}(h:l[k]?=some r)(h0:Wx l k=0){j:Nat}{q:Rn}(hj:j<k)(hq:l[j]?=some q):¬pE q r:=by
 intro hs;have hr:=Jr h h0;unfold Wx at h0;rw[h]at h0;simp only[hr,not_true_eq_false,if_false]at h0;split at h0
 ·cases h0
 ·rw[if_pos ⟨j,hj,q,hq,hs⟩]at h0;cases h0
def ain{r:Rn}{x:Int}(h:x∈iV r)(hx:x≠ -1):r.s≠ -1/\r.s<=x/\x<r.s+r.n:=by
 unfold iV at h;obtain⟨i,hi,rfl⟩:=zaX.1 h;have:=zbm.1 hi;split at hx
 ·exact absurd rfl hx
 ·rename_i hs;rw[if_neg hs];omega
def as4(r:Rn):yw (iV r):=by
 unfold yw iV;rw[zdt];refine List.Pairwise.imp ?_ List.nodup_range;intro i j zk h1 h2;by_cases hs:r.s= -1
 ·rw[if_pos hs]at h1;exact h1 rfl
 ·rw[if_neg hs,if_neg hs]at h2;omega
def u0{l:List Rn}(h:dU l=0):yw (az l):=by
 have g:=bZ h;unfold az yw;refine zcZ.2 ⟨λr _=>as4 r,?_⟩;rw[zcW];intro i j hi hj zk x hx y hy I_ zn;have hs:=asW (zah hj) (g.2.1 j hj) zk (zah hi);have h1:=ain hx I_;have h2:=ain hy (by rw[<-zn];exact I_);exact hs ⟨h1.1,h2.1,ab,ab⟩
def axK(B:List UInt8)(k:Nat):eU B k=(B.drop (256*k)).take 256:=by
 unfold eU cut;rw[zdy]
 grind
def aaH{B:List UInt8}{k i:Nat}(hi:i<256):(eU B k)[i]?=B[256*k+i]?:=by
 rw[axK,zch hi,zaB]
def asH{B p:List UInt8}{k:Nat}(h:256*(k+1)<=B.length)(hp:p.length=256)(j:Nat):(MF B k p)[j]?=if 256*k<=j/\j<256*k+256 then p[j-256*k]? else B[j]?:=by
 unfold MF
 grind
def anf{a b:List UInt8}(ha:a.length=256)(hb:b.length=256)(h:∀i:Nat,i<256->a[i]?=b[i]?):a=b:=by
 refine zba λi=>?_
 grind
def ahQ{B p:List UInt8}{k c:Nat}(h:256*(k+1)<=B.length)(hp:p.length=256)(hc:256*(c+1)<=B.length):eU (MF B k p) c=if c=k then p else eU B c:=by
 have hl:(MF B k p).length=B.length:=Yb ab hp;refine anf (gI ab) (by split;exact hp;exact gI ab) λi hi=>?_
 rw[aaH hi,asH h hp];by_cases kY:c=k
 ·grind
 ·rw[if_neg kY,if_neg ab,aaH hi]
section
def Mr{α β:Type}{l:List α}{f g:α->List β}(h:∀x∈l,f x=g x):l.flatMap f=l.flatMap g:=by
 induction l with
 |nil=>rfl
 |cons a l ih=>grind
section
variable {s:St} {C:List UInt8} {v:Int} {dt:Nat->Prop} {D:Dk} {P:Nat->Int}
end
end
def Dl{l:List Int}{c:Nat}:(c:Int)∈tV l↔(c:Int)∈l:=by
 rw[atd];grind
def gy(p:Nat->Bool):Nat->Nat
 |0=>0
 |n+1=>gy p n+if p n=true then 1 else 0
def cJ(p:Nat->Bool)(n:Nat):gy p (n+1)=gy p n+if p n=true then 1 else 0:=rfl
def jq{p q:Nat->Bool}:∀{n:Nat},(∀i,i<n->p i=q i)->gy p n=gy q n
 |0,_=>rfl
 |n+1,h=>by rw[cJ,cJ,jq (n:=n) λi hi=>h i ab,h n ab]
def Ed{p q:Nat->Bool}:∀{n:Nat},(∀i,i<n→¬(p i=true/\q i=true))->gy (λi=>p i||q i) n=gy p n+gy q n
 |0,_=>rfl
 |n+1,h=>by
  have ih:=Ed (n:=n) λi hi=>h i ab
  rw[cJ,cJ,cJ,ih]
  grind
def xh{k:Nat}:∀{n:Nat},gy (λi=>decide (i=k)) n=if k<n then 1 else 0
 |0=>rfl
 |n+1=>by
  rw[cJ,xh (n:=n)]
  grind
def Mt{n:Nat}:∀{l:List Int},yw l->(∀x∈l,x= -1\/(0<=x/\x<n))->gy (λc=>decide ((c:Int)∈l)) n=bt l
 |[],_,_=>by
  have:∀m,gy (λc=>decide ((c:Int)∈([]:List Int))) m=0:=λm=>by
   induction m with
   |zero=>rfl
   |succ m ih=>rw[cJ,ih];simp
  rw[this];rfl
 |a::l,hd,hb=>by
  have ih:=Mt (n:=n) (l:=l) (List.Pairwise.of_cons hd) λx hx=>hb x iP
  have hu:bt (a::l)=(if a= -1 then 0 else 1)+bt l:=by
   unfold bt
   grind
  by_cases h:a= -1
  ·grind
  ·have hr:=(hb a aj).resolve_left h;have h1:=Ed (p:=λc=>decide (c=a.toNat)) (q:=λc=>decide ((c:Int)∈l)) (n:=n) λc _=>by
    rw[decide_eq_true_eq,decide_eq_true_eq];rintro⟨e,hm⟩;exact(List.pairwise_cons.1 hd).1 _ hm h ab
   rw[xh,if_pos ab]at h1
   grind
def vp(s:List UInt8):∀n,oF s n=gy (λc=>decide (bH s c=1)) n
 |0=>rfl
 |n+1=>by
  have hb:=mK s n;rw[cJ,<-vp s n];show oF s n+bH s n=_
  grind
def QX{d:Dk}{a:At}(h:aK d a=0){c:Nat}(hc:(c:Int)∈az a.rn.l):bH d.mp c=1:=by
 obtain⟨ok,ho⟩:=bc h;cases c_:a.rs with
 |true=>
  rw[(ok.res c_).1]at hc;cases hc
 |false=>
  have hp:=(ho c_).1;unfold pG at hp;split at hp
  ·cases hp
  split at hp
  ·cases hp
  have hb:=mK d.mp c
  grind
def zC(x y:Int):Prop:=(x= -1/\y= -1)\/(x≠ -1/\y≠ -1/\x+1=y)
instance (x y:Int):Decidable (zC x y):=by unfold zC;infer_instance
def bR(L:Nat->Int)(i:Nat):Bool:=decide (i=0∨¬zC (L (i-1)) (L i))
def Lt{α:Type}(f:Nat->α)(n:Nat):cQ f (n+1)=cQ f n++[f n]:=by unfold cQ;rw[zdj];simp
def aw_(l:List Int)(a:Int):IA (l++[a])=qV (IA l) a:=by unfold IA;simp_all
def Xc{L:Nat->Int}(h:∀i,-1<=L i):∀n,(IA (cQ L n)).length=gy (bR L) n/\(0<n→∃r,(IA (cQ L n)).getLast?=some r/\1<=r.n/\ -1<=r.s/\((r.s= -1/\L (n-1)= -1)\/(r.s≠ -1/\L (n-1)=r.s+r.n-1)))
 |0=>⟨rfl,λh=>ab⟩
 |n+1=>by
  obtain⟨za,zb⟩:=Xc h n;have Zw:=h n;rw[Lt,aw_,cJ,<-za,Nat.add_sub_cancel];unfold qV;by_cases hn:n=0
  ·subst hn;refine⟨rfl,λ_=>⟨⟨L 0,1⟩,rfl,Int.le_refl 1,Zw,?_⟩⟩
   grind
  ·obtain⟨r,h1,h2,h3,h4⟩:=zb ab;have hj:((L n= -1/\r.s= -1)\/(L n≠ -1/\r.s≠ -1/\r.s+r.n=L n))↔zC (L (n-1)) (L n):=by
    unfold zC;omega
   by_cases hjj:zC (L (n-1)) (L n)
   ·have hs:bR L n=false:=by unfold bR;simp[hn,hjj]
    grind
   ·have hs:bR L n=true:=by unfold bR;simp[hjj]
    grind
def Tq(r:Rn)(i:Nat):Int:=if r.s= -1 then(-1:Int)else r.s+(i:Int)
def LC(r:Rn):iV r=cQ (Tq r) r.n.toNat:=rfl
def ahI{acc:List Rn}{r:Rn}(hs: -1<=r.s):∀k:Nat,((cQ (Tq r) (k+1)).foldl qV acc).length<=acc.length+1∧∃q,((cQ (Tq r) (k+1)).foldl qV acc).getLast?=some q/\((q.s= -1/\r.s= -1)\/(q.s≠ -1/\r.s≠ -1/\q.s+q.n=r.s+(k:Int)+1))
 |0=>by
  have e:(cQ (Tq r) 1).foldl qV acc=qV acc (Tq r 0):=rfl;rw[e];have hl:=abJ acc (Tq r 0);refine⟨hl,?_⟩;unfold qV;cases UB:acc.getLast? with
  |none=>
   refine⟨⟨Tq r 0,1⟩,rfl,?_⟩;simp only[Tq];omega
  |some q=>
   simp only;split
   ·rename_i hj;refine⟨⟨q.s,q.n+1⟩,aj,?_⟩;simp only[Tq]at hj ⊢;omega
   ·refine⟨⟨Tq r 0,1⟩,aj,?_⟩;simp only[Tq];omega
 |k+1=>by
  obtain⟨h1,q,h2,h3⟩:=ahI (acc:=acc) hs k;rw[Lt,zc0];generalize (cQ (Tq r) (k+1)).foldl qV acc=A at*;have hj:(Tq r (k+1)= -1/\q.s= -1)\/(Tq r (k+1)≠ -1/\q.s≠ -1/\q.s+q.n=Tq r (k+1)):=by
   unfold Tq;omega
  unfold qV
  grind
def apv{l:List Rn}(h:∀r∈l,-1<=r.s):∀acc:List Rn,((az l).foldl qV acc).length<=acc.length+l.length:=by
 induction l with
 |nil=>simp[az]
 |cons r l ih=>
  intro acc;have e:az (r::l)=iV r++az l:=by simp[az]
  rw[e,zc0];have h1:=ih (λq hq=>h q kF) ((iV r).foldl qV acc);have h2:((iV r).foldl qV acc).length<=acc.length+1:=by
   rw[LC];cases hk:r.n.toNat with
   |zero=>show acc.length<=_;omega
   |succ k=>exact(ahI (h r aj) k).1
  rw[zam];omega
def XP{l:List Rn}(h:∀r∈l,-1<=r.s):(IA (az l)).length<=l.length:=by
 have:=apv h [];simpa[IA]using this
def apN(l:List Rn):Prop:=∀(i:Nat) (q r:Rn),l[i]?=some q->l[i+1]?=some r→¬iy q r
def awX{acc:List Rn}{a:Int}(h:apN acc):apN (qV acc a):=by
 unfold qV;cases hl:acc.getLast? with
 |none=>
  intro i q r h1 h2;simp at h2
 |some q=>
  simp only;have Vu:acc[acc.length-1]?=some q:=bf;split
  ·intro i x y h1 h2 hj;have hi:=(zaa.1 h2).1;rw[zad,zdo,zbM]at hi;rw[zar nq,zdl,if_pos ab]at h1;by_cases g:i+1<acc.length-1
   ·rw[zar nq,zdl,if_pos ab]at h2;exact h i x y h1 h2 hj
   ·rw[zak nq,zdo,show i+1-(acc.length-1)=0 by omega]at h2;have h2:=Option.some.inj h2;subst h2;refine h i x q h1 ?_ hj
    grind
  ·intro i x y h1 h2 hj;have hi:=(zaa.1 h2).1;rw[zad,zbM]at hi;rw[zar ab]at h1;by_cases g:i+1<acc.length
   ·rw[zar ab]at h2;exact h i x y h1 h2 hj
   ·rw[zak ab,show i+1-acc.length=0 by omega]at h2;have h2:=Option.some.inj h2;subst h2;rw[show i=acc.length-1 by omega,Vu]at h1;unfold iy at hj
    simp_all
def aBW(l:List Int):apN (IA l):=by
 have:∀n,n<=l.length->apN (IA (l.take n)):=by
  intro n
  induction n with
  |zero=>intro _ i q r h1 _;simp[IA]at h1
  |succ n ih=>
   intro hn;have ha:l[n]?=some l[n]:=zah ab;rw[Fh ha];exact awX (ih ab)
 have:=this l.length (zai _)
 simp_all
def agi{r:Rn}{x:Int}(hs:r.s≠ -1)(h:r.s<=x/\x<r.s+r.n):x∈iV r:=by
 refine zaX.2 ⟨(x-r.s).toNat,zbm.2 ab,?_⟩;omega
def apJ{l:List Int}(hb:∀x∈l,x= -1\/(0<=x/\x<512))(hd:yw l)(hl:l.length<=4096)(hn:(IA l).length<=64):dU (IA l)=0:=by
 have t_:∀a∈l,-1<=a/\a<=1000000:=λa ha=>by rcases hb a ha with h|h<;>omega
 have hp:=ZB t_;have hq:=(agT t_ l.length).2;rw[zcV]at hq;have HF:=aBW l;have AW:=hd;rw[<-hp]at AW;have AW:=(zcZ.1 AW).2;rw[zcW]at AW;have SF:∀r∈IA l,∀x∈iV r,x∈l:=λr hr x hx=>by
  rw[<-hp];exact zbA.2 ⟨r,hr,hx⟩
 have di:∀r∈IA l,jZ r:=λr hr=>by
  have h1:=hq r hr;have h2:=h1.1;have h3:=h1.2;unfold jZ;split
  ·omega
  ·rename_i hs;have a2:=hb _ (SF r hr _ (agi (x:=r.s+r.n-1) hs ab));omega
 have h0:∀k,k<(IA l).length->Wx (IA l) k=0:=λk hk=>by
  unfold Wx;have hg:(IA l)[k]?=some (IA l)[k]:=zah hk;rw[hg];simp only;rw[if_neg (λh=>h (di _ (zcN hk))),if_neg,if_neg]
  ·rintro⟨j,hj,q,hjq,hs⟩;have HQ:j<(IA l).length:=ab;have e:(IA l)[j]=q:=by
    grind
   subst e;obtain⟨s1,s2,s3,s4⟩:=hs;have b1:=(hq _ (zcN HQ))
   have b2:=(hq _ (zcN hk))
   have n1:=b1.1;have n2:=b2.1;have:=AW j k HQ hk hj (max (IA l)[j].s (IA l)[k].s) (agi s1 ab) (max (IA l)[j].s (IA l)[k].s) (agi s2 ab) ab;exact this rfl
  ·rintro⟨h1,q,h2,h3⟩;exact HF (k-1) q (IA l)[k] h2 bf h3
 unfold dU;rw[Mo hn h0];have hs:=xA (l:=IA l) (λr hr=>by have:=(hq r hr).1;omega)
 grind
def al6{a:At}(hr:a.rs=false):(T5 a).length=Tk a:=by
 have h1:=i_ (uH a+a.nm.length);have h2:=i_ (l8 a+(N8 a).length);have e1:l8 a=B5 (uH a+a.nm.length):=rfl;have e2:Tk a=B5 (l8 a+(N8 a).length):=rfl;have hh:uH a=40:=by unfold uH;rw[hr];rfl
 have hf:(aso a).length=40:=by
  unfold aso atW;rw[hr];simp only[zad,gL,bE,zbZ,if_false]
 unfold T5;rw[zad,zad,zad,zad,hf,bE,bE];omega
def AD{a:At}(h:gu a=0):acN a:=by
 refine acN.of ?_;unfold gu at h;omega
def kU(d:Dk)(a:At):aK d (aB a)=aK d a:=FB
def YP(d:Dk)(a:At):aV (ar d (aB a))=aV (ar d a):=FB
def auD{y:PV}(h:∃zs,y=.agg zs/\ou [.int .i64,.str,.int .i64,.int .i64,.bool,.str,.int .i64,.sl true [.int .i64,.int .i64],.int .i64,.int .i64,.int .i64] zs):∃a:At,y=a.pv:=by
 obtain⟨zs,rfl,h⟩:=h;simp only[ou,MD]at h;obtain⟨_,_,rfl,⟨ty,rfl,_⟩,_,_,rfl,⟨nm,rfl,_⟩,_,_,rfl,⟨id,rfl,_⟩,_,_,rfl,⟨fl,rfl,_⟩,_,_,rfl,⟨rs,rfl⟩,_,_,rfl,⟨vl,rfl,_⟩,_,_,rfl,⟨ft,rfl,_⟩,_,_,rfl,⟨aC,rfl,_,he⟩,_,_,rfl,⟨al,rfl,_⟩,_,_,rfl,⟨sz,rfl,_⟩,_,_,rfl,⟨vd,rfl,_⟩,rfl⟩:=h;obtain⟨l,rfl,_⟩:=awZ (g:=Rn.pv) (q:=λ_=>True) λz hz=>by
  obtain⟨zs,rfl,y,ys,rfl,⟨a,rfl,_⟩,y2,pP,rfl,⟨b,rfl,_⟩,rfl⟩:=(he z hz).1 trivial;exact⟨⟨a,b⟩,rfl,trivial⟩
 exact⟨⟨ty,nm,id,fl,rs,vl,ft,.sl l,al,sz,vd⟩,rfl⟩
def ajv{acc:List Rn}{r:Rn}(hs: -1<=r.s):∀k:Nat,(cQ (Tq r) (k+1)).foldl qV acc=y4 acc ⟨r.s,(k:Int)+1⟩
 |0=>by
  show qV acc (Tq r 0)=y4 acc ⟨r.s,_⟩;have e:Tq r 0=r.s:=by
   unfold Tq;omega
  rw[e,<-au6];rfl
 |k+1=>by
  rw[Lt,zc0,ajv hs k];simp only[zbg,List.foldl_nil];unfold y4;cases hl:acc.getLast? with
  |none=>
   unfold qV;simp only[zc9,List.dropLast_singleton,zaZ];rw[if_pos]
   ·rfl
   ·unfold Tq;omega
  |some q=>
   simp only;have hj:iy q ⟨r.s,(k:Int)+1⟩↔iy q ⟨r.s,((k+1:Nat):Int)+1⟩:=Iff.rfl;by_cases g:iy q ⟨r.s,(k:Int)+1⟩
   ·rw[if_pos g,if_pos (hj.1 g)];unfold qV;rw[zdp];simp only[zc6];unfold iy at g;simp only at g;rw[if_pos]
    ·grind
    ·unfold Tq;omega
   ·rw[if_neg g,if_neg (λh=>g (hj.2 h))];unfold qV;rw[zdp];simp only[zc6];rw[if_pos]
    ·rfl
    ·unfold Tq;omega
def atO{L:List Rn}(h:∀r∈L,1<=r.n/\ -1<=r.s):∀acc:List Rn,h_ acc L=(az L).foldl qV acc:=by
 induction L with
 |nil=>intro acc;rfl
 |cons r L ih=>
  intro acc;have hr:=h r aj;have e:az (r::L)=iV r++az L:=by rfl
  rw[e,zc0];show h_ (y4 acc r) L=_;rw[ih λq hq=>h q kF];obtain⟨k,hk⟩:∃k:Nat,r.n.toNat=k+1:=⟨r.n.toNat-1,ab⟩
  rw[LC,hk,ajv hr.2];cases r
  grind
def asS{α:Type}(f:Nat->α)(n c:Nat):(cQ f n).drop c=cQ (λi=>f (c+i)) (n-c):=by
 refine zba λi=>?_
 rw[zaB];by_cases h:c+i<n
 ·rw[bO h,bO ab]
 ·rw[zaK nq,zaK kD]
def arY{α:Type}(f:Nat->α)(n c:Nat):(cQ f n).take c=cQ f (min c n):=by
 refine zba λi=>?_
 by_cases h:i<min c n
 ·rw[zch ab,bO ab,bO h]
 simp_all
def at2{r:Rn}{c t:Int}(hr:1<=r.n/\ -1<=r.s)(hc:0<=c)(ht:0<=t/\t<=r.n-c):az (if t=0 then[]else[⟨if r.s= -1 then-1 else r.s+c,t⟩])=((iV r).drop c.toNat).take t.toNat:=by
 by_cases h:t=0
 ·subst h;rfl
 ·rw[if_neg h,EN,LC,LC,asS,arY];unfold Tq
  grind
def anb{l:List Rn}(h:∀r∈l,1<=r.n/\ -1<=r.s):∀(out:List Rn) (f n:Int),0<=f->0<=n->az (l.foldl ee (out,f,n)).1=az out++((az l).drop f.toNat).take n.toNat:=by
 induction l with
 |nil=>intro out f n _ _;simp[az]
 |cons r l ih=>
  intro out f n hf hn;have hr:=h r aj;have hlen:(iV r).length=r.n.toNat:=EK r;have e:az (r::l)=iV r++az l:=by rfl
  have es:ee (out,f,n) r=(out++(if min n (r.n-min f r.n)=0 then[]else[⟨if r.s= -1 then-1 else r.s+min f r.n,min n (r.n-min f r.n)⟩]),f-min f r.n,n-min n (r.n-min f r.n)):=rfl;rw[zbg,e,es];rw[ih (λq hq=>h q kF) _ _ _ ab ab,Ff,at2 hr ab ab,zdv,zdu,List.length_drop,hlen,zaj];congr 1;by_cases h1:f<=r.n
  ·rw[show min f r.n=f by omega];by_cases h2:n<=r.n-f
   ·grind
   ·rw[show min n (r.n-f)=r.n-f by omega,show(f-f).toNat=f.toNat-r.n.toNat by omega,show(n-(r.n-f)).toNat=n.toNat-(r.n.toNat-f.toNat) by omega];congr 1;rw[za1 bf,za1 bf]
  ·rw[show min f r.n=r.n by omega,show min n (r.n-r.n)=0 by omega,show(f-r.n).toNat=f.toNat-r.n.toNat by omega,show(n-0).toNat=n.toNat-(r.n.toNat-f.toNat) by omega];congr 1;rw[zb1 (show(iV r).length<=f.toNat by omega)];simp
def Sz{pl:List Int}{p:Int}{tr:Rn}(hp:0<=p):∀{k:Nat},p+k<=pl.length→∀i:Nat,(C8 pl p tr k)[i]?=if p.toNat<=i/\i<p.toNat+k then some (tr.s+((i-p.toNat:Nat):Int))else pl[i]?
 |0,_,i=>by rw[if_neg ab];rfl
 |k+1,h,i=>by
  have ih:=Sz (pl:=pl) (tr:=tr) hp (k:=k) ab i;show((C8 pl p tr k).set (p+k).toNat (tr.s+k))[i]?=_
  grind
def aAr{l:List Rn}{p:Int}{tr:Rn}(h:∀r∈l,1<=r.n/\ -1<=r.s)(hp:0<=p)(ht:1<=tr.n/\0<=tr.s)(hl:p+tr.n<=(az l).length):az (fO l p tr)=C8 (az l) p tr tr.n.toNat:=by
 have hs:=xA (l:=l) λr hr=>bf
 unfold fO NB;rw[Ff,Ff,EN,anb h [] 0 p ab hp,anb h [] (p+tr.n) (bI l) ab ab];have e:az []=[]:=rfl;rw[e,zaZ,zaZ,show(0:Int).toNat=0 from rfl,zde,za1 (l:=(az l).drop (p+tr.n).toNat) bf,LC];refine zba λi=>?_
 rw[Sz hp ab];have l1:((az l).take p.toNat).length=p.toNat:=bf;have l2:(cQ (Tq tr) tr.n.toNat).length=tr.n.toNat:=ck;by_cases h1:i<p.toNat
 ·grind
 ·by_cases h2:i<p.toNat+tr.n.toNat
  ·rw[if_pos ab,zar bf,zak ab,l1,bO ab];unfold Tq
   grind
  grind
def aAs{l:List Rn}{p:Int}{tr:Rn}(h:∀r∈l,1<=r.n/\ -1<=r.s)(hp:0<=p)(ht:1<=tr.n/\0<=tr.s)(hl:p+tr.n<=(az l).length):h_ [] (fO l p tr)=IA (C8 (az l) p tr tr.n.toNat):=by
 have hW:∀r∈fO l p tr,1<=r.n/\ -1<=r.s:=λr hr=>by
  have part:∀(l:List Rn),(∀r∈l,1<=r.n/\ -1<=r.s)→∀(out:List Rn) (f n:Int),0<=f->0<=n->(∀r∈out,1<=r.n/\ -1<=r.s)→∀r∈(l.foldl ee (out,f,n)).1,1<=r.n/\ -1<=r.s:=by
   intro l
   induction l with
   |nil=>simp
   |cons q l ih=>
    intro hl out f n hf hn ho r hr;have hq:=hl q aj;have es:ee (out,f,n) q=(out++(if min n (q.n-min f q.n)=0 then[]else[⟨if q.s= -1 then-1 else q.s+min f q.n,min n (q.n-min f q.n)⟩]),f-min f q.n,n-min n (q.n-min f q.n)):=rfl;rw[zbg,es]at hr;refine ih (λx hx=>hl x iP) _ _ _ ab ab (λx hx=>?_) r hr
    grind
  unfold fO at hr;rcases zaA.1 hr with hr|hr
  ·rcases zaA.1 hr with hr|hr
   ·exact part l h [] 0 p ab hp (λ_ h=>bV) r hr
   grind
  ·have hs:=xA (l:=l) λr hr=>by grind
   exact part l h [] (p+tr.n) (bI l) ab ab (λ_ h=>bV) r hr
 rw[atO hW,aAr h hp ht hl];rfl
def aE_{J:List Rn}(h:dU J=0):ny J=0:=by
 obtain⟨h1,h2,h3,h4⟩:=bZ h;have hd:BF J J.length:=by
  intro k hk r hr c hc hh;have hn:=(Fq (l:=J) (n:=k) (λj hj=>h2 j ab) (Jr hr (h2 k hk)))
  have xc:¬ ∃j,j<k∧∃q,J[j]?=some q/\pE q r:=by
   rintro⟨j,hj,q,hq,hs⟩;exact asW hr (h2 k hk) hj hq hs
  grind
 unfold ny
 grind
def azk{d:Dk}{a:At}{p:Int}{tr:Rn}(h0:aK d a=0):dJ d a p tr=fE d a p tr/\(SJ (ar d a) p tr=0->qx a p tr=Il a p tr):=by
 have ok:=(bc h0).1;have hr:∀r∈a.rn.l,1<=r.n/\ -1<=r.s:=λr hr=>by
  have:=(bZ ok.rn).2.2.2 r hr;unfold jZ at this
  grind
 have hA:SJ (ar d a) p tr=0->qx a p tr=Il a p tr:=λh=>by
  have mo:=Up h;have hk:=mo.ok;have hl:=mo.len;unfold qx Il;rw[aAs hr hk.1 ⟨hk.2.2.1,hk.2.1.1⟩ hl]
 refine⟨?_,hA⟩;unfold dJ fE;rw[if_neg (λh=>h h0)];split
 ·rfl
 ·rename_i h;have h:=zb2.1 h;have hA:=hA h;have hJ:h_ [] (fO a.rn.l p tr)=IA (C8 (az a.rn.l) p tr tr.n.toNat):=by
   have:=congrArg (λx:At=>x.rn.l) hA;exact this
  have mo:=Up h;unfold nn;rw[hA,hJ];by_cases ha:gu (Il a p tr)=0
  ·have xu:=AD ha;have c_:=mo.rs;have ji:dU (IA (C8 (az a.rn.l) p tr tr.n.toNat))=0:=(xu.ot c_).2.2.2.1;have iG:=(bZ ji).1;rw[aE_ ji,if_neg (λh=>h rfl),if_neg (λh=>h ha)];omega
  omega
def aut{f:Nat->Bool}{a b n:Nat}(ha:f a=false)(hb:f b=true)(JZ:a<n)(hbn:b<n):gy (λc=>if c=a then true else if c=b then false else f c) n=gy f n:=by
 have h1:=Ed (p:=λc=>f c&&!decide (c=b)) (q:=λc=>decide (c=b)) (n:=n) λc _=>by
  rintro⟨g1,g2⟩;simp only[zaU,zbr,decide_eq_false_iff_not,decide_eq_true_eq]at g1 g2;exact g1.2 g2
 have h2:=Ed (p:=λc=>f c&&!decide (c=b)) (q:=λc=>decide (c=a)) (n:=n) λc _=>by
  rintro⟨g1,g2⟩;simp only[zaU,zbr,decide_eq_false_iff_not,decide_eq_true_eq]at g1 g2;rw[g2,ha]at g1;cases g1.1
 rw[xh,if_pos hbn]at h1;rw[xh,if_pos JZ]at h2;have e1:gy f n=gy (λc=>(f c&&!decide (c=b))||decide (c=b)) n:=jq λc _=>by
  by_cases g:c=b
  ·subst g;simp[hb]
  ·simp[g]
 have e2:gy (λc=>if c=a then true else if c=b then false else f c) n=gy (λc=>(f c&&!decide (c=b))||decide (c=a)) n:=jq λc _=>by
  by_cases g:c=a
  ·simp[g]
  ·by_cases g2:c=b
   ·simp[g,g2]
   ·simp[g,g2]
 omega
def Mf{l:List Int}:bt l=RF (l.map λx=>decide (x≠ -1)):=by
 unfold bt RF;rw[List.countP_map,List.countP_eq_length_filter];congr 1
def amB{c c':List Int}(h:c.map (λx=>decide (x≠ -1))=c'.map (λx=>decide (x≠ -1)))(hp:aa c):aa c':=by
 have hg:∀i:Nat,(c[i]?).map (λx=>decide (x≠ -1))=(c'[i]?).map (λx=>decide (x≠ -1)):=λi=>by
  rw[<-za9,<-za9,h]
 unfold aa at hp ⊢;rcases Az (p:=λy:Int=>y= -1) c' with⟨h1,_⟩|⟨i,x,h1,h2,h3,h4⟩
 ·left;rw[h1];decide
 ·right;rw[h1,zaC];have nt:=hg i;rw[h2]at nt;rcases Az (p:=λy:Int=>y= -1) c with⟨g1,g2⟩|⟨j,y,g1,g2,g3,g4⟩
  ·exfalso;cases hc:c[i]? with
   |none=>rw[hc]at nt;simp at nt
   |some z=>
    rw[hc]at nt;have:=g2 z (zag hc);simp only[zbJ,Option.some.injEq]at nt;rw[h3]at nt;simp[this]at nt
  ·have zk:j=i:=by
    rcases zbE i j with aU|he|aU
    ·exfalso;cases hc:c[i]? with
     |none=>rw[hc]at nt;simp at nt
     |some z=>
      rw[hc]at nt;have:=g4 i aU z hc;simp only[zbJ,Option.some.injEq]at nt;rw[h3]at nt;simp[this]at nt
    ·exact he.symm
    ·exfalso;have Rt:=hg j;rw[g2]at Rt;cases hc:c'[j]? with
     |none=>rw[hc]at Rt;simp at Rt
     |some z=>
      rw[hc]at Rt;have:=h4 j aU z hc;simp only[zbJ,Option.some.injEq]at Rt;rw[g3]at Rt;simp[this]at Rt
   subst zk;rw[g1,zaC]at hp;have hp:=hp.resolve_left ab;rw[Mf,zc7,<-h,<-zc7,<-Mf];exact hp
def alH{B B':List UInt8}{l l':List Int}(h:l'.map (tS B')=l.map (tS B))(k:Nat):dF B' (bq l' k)=dF B (bq l k):=by
 unfold dF;rw[zc2,zc2,<-pZ,<-pZ,h]
structure sG(d:Dk)(a:At)(p:Int)(tr:Rn):Prop where
 D:jM d a p tr=Lz d a p tr
 A:jG d a p tr=Il a p tr
 op:aK (Lz d a p tr) (Il a p tr)=0
 fN:aV (ar (Lz d a p tr) (Il a p tr))=aV (ar d a)
 n:(Lz d a p tr).n=d.n
 gy:oF (Lz d a p tr).mp d.n=oF d.mp d.n
 su:acg d (Lz d a p tr) a (Il a p tr)
 len:(Lz d a p tr).a_.length=d.a_.length
def aBQ{d:Dk}{a:At}{p:Int}{tr:Rn}(h0:aK d a=0)(hd:wU d)(hn:a.nm.length<=1000000)(he:dJ d a p tr=0):sG d a p tr:=by
 obtain⟨ok,oo⟩:=bc h0;have st:=ok.st hd hn;have Es:yw (az a.rn.l):=u0 ok.rn;obtain⟨e1,e2⟩:=azk (p:=p) (tr:=tr) h0;have hx:fE d a p tr=0:=by rw[<-e1];exact he
 have hm:SJ (ar d a) p tr=0:=by
  unfold fE at hx;split at hx
  ·exact hx
  ·rename_i g;exact K6
 have IF:gu (Il a p tr)=0:=by
  unfold fE at hx;rw[if_neg (λh=>h hm)]at hx;split at hx
  ·cases hx
  ·rename_i g;exact zb2.1 λh=>g (.inr h)
 have e2:=e2 hm;have mo:=Up hm;have hk:=mo.ok;unfold Pv at hk;have WW:(ar d a).d=d:=rfl;have Cy:(ar d a).pl=az a.rn.l:=rfl;have hlen:=mo.len;have ab8:=mo.from_;have aoA:=mo.free;have c_:a.rs=false:=mo.rs;rw[WW]at hk aoA;rw[Cy]at hlen ab8;have hb:=X6 st;rw[Cy,WW]at hb;have rK:d.n<=512:=ok.nb;obtain⟨d1,d2,d3⟩:=rX ok.dk;obtain⟨s1,s2,s3,s4,s5⟩:=lE ok.str;obtain⟨aQC,yB,pd⟩:=oo c_;have eh:=λc hc=>QX (d:=d) (a:=a) h0 (c:=c) hc
 generalize hP:az a.rn.l=pl at*;obtain⟨T,hT⟩:∃T:Nat,tr.s=T:=⟨tr.s.toNat,ab⟩
 obtain⟨N,hN⟩:∃N:Nat,tr.n=N:=⟨tr.n.toNat,ab⟩
 obtain⟨q,hq⟩:∃q:Nat,p=q:=⟨p.toNat,ab⟩
 have rD:p.toNat=q:=ab;have k7:tr.n.toNat=N:=ab;have B6:T+N<=d.n:=ab;have B7:q+N<=pl.length:=ab;rw[rD]at ab8;have pe:∀k,k<N→∃x:Nat,pl[q+k]?=some (x:Int)/\x<d.n/\df d x=true:=λk zu=>by
  obtain⟨x,I_,vR⟩:=ab8 k ab;have h3:=hb x (zag I_);refine⟨x.toNat,by rw[I_];congr 1;omega,ab,?_⟩;have:=eh x.toNat (by rw[show((x.toNat:Nat):Int)=x by omega];exact zag I_);unfold df;rw[this];rfl
 have nj:∀c,T<=c->c<T+N->df d c=false:=λc h1 h2=>aoA c ab ab
 have fu:∀i j (x:Int),pl[i]?=some x->pl[j]?=some x->x≠ -1->i=j:=λi j x h1 h2 h3=>XD Es h1 h2 h3
 have lM:∀k,k<=N→∀c,Jv (df d) pl p tr k c=true↔(T<=c/\c<T+k)\/(df d c=true∧¬ ∃j,j<k/\pl[q+j]?=some (c:Int)):=by
  intro k
  induction k with
  |zero=>
   intro _ c;show df d c=true↔_;exact⟨λh=>.inr ⟨h,by rintro⟨j,hj,_⟩;omega⟩,λh=>by rcases h with h|h;omega;exact h.1⟩
  |succ k ih=>
   intro SH c;have ih:=ih ab c;obtain⟨x,I_,vR,mV⟩:=pe k ab;show(if c=(tr.s+(k:Int)).toNat then true else if c=(pl[p.toNat+k]?.getD 0).toNat then false else Jv (df d) pl p tr k c)=true↔_;rw[rD,I_,zbx,zaC,show(tr.s+(k:Int)).toNat=T+k by omega];by_cases g1:c=T+k
   ·rw[if_pos g1];exact⟨λ_=>.inl ab,λ_=>rfl⟩
   ·rw[if_neg g1];by_cases g2:c=x
    ·rw[if_pos g2];constructor
     ·intro h;cases h
     ·rintro(h|⟨_,h⟩)
      ·have:=nj c ab ab;rw[g2,mV]at this;cases this
      ·exact absurd ⟨k,ab,by rw[I_,g2]⟩ h
    ·rw[if_neg g2,ih];constructor
     ·rintro(h|⟨h1,h2⟩)
      ·exact .inl ab
      ·refine .inr ⟨h1,?_⟩;rintro⟨j,hj,Gx⟩;by_cases se:j=k
       ·subst se;rw[I_]at Gx;have:=Option.some.inj Gx;omega
       ·exact h2 ⟨j,ab,Gx⟩
     ·rintro(h|⟨h1,h2⟩)
      ·exact .inl ab
      ·exact .inr ⟨h1,λ⟨j,hj,Gx⟩=>h2 ⟨j,ab,Gx⟩⟩
 have Gn:=L9 d.mp d.n;have Vv:∀k,k<=N→∀c,c<d.n->((cX (sj d.mp d.n) pl p tr k)[c]?.getD 0).toNat=mS (Jv (df d) pl p tr k c):=by
  intro k
  induction k with
  |zero=>
   intro _ c hc;show((sj d.mp d.n)[c]?.getD 0).toNat=mS (df d c);rw[ael hc,zbx,zaC];have:=mK d.mp c;unfold df mS;by_cases g:bH d.mp c=1
   ·rw[g];rfl
   ·rw[show bH d.mp c=0 by omega];rfl
  |succ k ih=>
   intro SH c hc;have ih:=ih ab c hc;obtain⟨x,I_,vR,mV⟩:=pe k ab;have dI:x≠T+k:=λh=>by
    have:=nj (T+k) ab ab;rw[<-h,mV]at this;cases this
   show((((cX (sj d.mp d.n) pl p tr k).set (tr.s+(k:Int)).toNat 1).set (pl[p.toNat+k]?.getD 0).toNat 0)[c]?.getD 0).toNat=mS (if c=(tr.s+(k:Int)).toNat then true else if c=(pl[p.toNat+k]?.getD 0).toNat then false else Jv (df d) pl p tr k c);rw[rD,I_,zbx,zaC,show(tr.s+(k:Int)).toNat=T+k by omega,zaS,za0,RQ,Gn,zaS,RQ,Gn];by_cases g1:c=T+k
   ·subst g1;rw[if_neg ab,if_pos rfl,if_pos ab,if_pos rfl];rfl
   ·by_cases g2:c=x
    ·subst g2;rw[if_pos rfl,if_pos ab,if_neg g1,if_pos rfl];rfl
    ·rw[if_neg (λh=>g2 h.symm),if_neg (λh=>g1 h.symm),if_neg g1,if_neg g2];exact ih
 have av4:=DF (l:=cQ (Jv (df d) pl p tr N) d.n) kD;rw[ck]at av4;have Rf:VA (λi=>((cX (sj d.mp d.n) pl p tr N)[i]?.getD 0).toNat) d.n=mG (cQ (Jv (df d) pl p tr N) d.n):=by
  unfold mG;rw[ck];refine ak_ (λi=>?_) (λi=>Jj _) λi hi=>?_
  ·by_cases hi:i<d.n
   ·rw[Vv N (zai _) i hi];exact Jj _
   ·rw[zaK (by rw[RQ,Gn];omega)];simp
  ·rw[bO hi,zbx];exact Vv N (zai _) i hi
 have uS:Lz d a p tr=⟨J2 d.a_ pl p tr N,mG (cQ (Jv (df d) pl p tr N) d.n)⟩:=by
  unfold Lz;rw[hP,k7,Rf]
 have aLt:256*d.n<=d.a_.length:=so;have yh:∀k,k<=N->(J2 d.a_ pl p tr k).length=d.a_.length:=λk zu=>Xk (λj hj=>by
  obtain⟨x,I_,vR,_⟩:=pe j ab;rw[rD,I_,zbx,zaC];exact⟨ab,ab,ab⟩) k ab
 have mE:∀k,k<=N→∀c,c<d.n->eU (J2 d.a_ pl p tr k) c=if T<=c/\c<T+k then eU d.a_ (pl[q+(c-T)]?.getD 0).toNat else eU d.a_ c:=by
  intro k
  induction k with
  |zero=>intro _ c _;rw[if_neg ab];rfl
  |succ k ih=>
   intro SH c hc;have ih:=ih ab c hc;obtain⟨x,I_,vR,mV⟩:=pe k ab;have hl:=yh k ab;show eU (MF (J2 d.a_ pl p tr k) (tr.s+(k:Int)).toNat (eU d.a_ (pl[p.toNat+k]?.getD 0).toNat)) c=_;rw[rD,I_,zbx,zaC,show(tr.s+(k:Int)).toNat=T+k by omega,ahQ ab (gI ab) ab,ih];by_cases g:c=T+k
   ·rw[if_pos g,if_pos ab,g,show T+k-T=k by omega,I_,zbx,zaC]
   ·rw[if_neg g];by_cases g2:T<=c/\c<T+k
    ·rw[if_pos g2,if_pos ab]
    ·rw[if_neg g2,if_neg ab]
 have aD1:=mE N (zai _);have aD2:az (Il a p tr).rn.l=C8 pl p tr N:=by
  show az (IA (C8 (az a.rn.l) p tr tr.n.toNat))=_;rw[hP,k7];refine ZB λx hx=>?_
  obtain⟨i,hi⟩:=zaE.1 hx;rw[Sz ab ab]at hi;split at hi
  ·have:=Option.some.inj hi;omega
  ·have:=hb x (zag hi);omega
 have aD3:∀i,i<pl.length→∃x x':Int,pl[i]?=some x/\(C8 pl p tr N)[i]?=some x'/\((x= -1/\x'= -1)\/(x≠ -1/\(0<=x'/\x'<d.n)/\Jv (df d) pl p tr N x'.toNat=true/\eU (J2 d.a_ pl p tr N) x'.toNat=eU d.a_ x.toNat)):=λi hi=>by
  have hg:=Sz (tr:=tr) (pl:=pl) (p:=p) ab (k:=N) ab i;rw[rD]at hg;by_cases g:q<=i/\i<q+N
  ·rw[if_pos g]at hg;obtain⟨x,I_,vR,mV⟩:=pe (i-q) ab;rw[show q+(i-q)=i by omega]at I_;refine⟨x,_,I_,hg,.inr ⟨ab,ab,(lM N (zai _) _).2 (.inl ab),?_⟩⟩;rw[aD1 _ ab,if_pos ab,show q+((tr.s+((i-q:Nat):Int)).toNat-T)=i by omega,I_,zbx]
  ·rw[if_neg g]at hg;have hx:pl[i]?=some pl[i]:=zah hi;rw[hx]at hg;have s9:=hb _ (zag hx);refine⟨_,_,hx,hg,?_⟩;by_cases h1:pl[i]= -1
   ·exact .inl ⟨h1,h1⟩
   ·have uq:df d pl[i].toNat=true:=by
     have:=eh pl[i].toNat (by rw[show((pl[i].toNat:Nat):Int)=pl[i] by omega];exact zag hx);unfold df;rw[this];rfl
    have l6:¬(T<=pl[i].toNat/\pl[i].toNat<T+N):=λh=>by
     rw[nj _ h.1 h.2]at uq;cases uq
    refine .inr ⟨h1,ab,(lM N (zai _) _).2 (.inr ⟨uq,?_⟩),?_⟩
    ·rintro⟨j,hj,Gx⟩;rw[show((pl[i].toNat:Nat):Int)=pl[i] by omega]at Gx;have:=fu _ _ _ hx Gx h1;omega
    ·rw[aD1 _ ab,if_neg l6]
 have AY:=Xy pl p tr N;have aD4:∀{β:Type} (f g:Int->β),f (-1)=g (-1)->(∀x x':Int,x≠ -1->0<=x'->eU (J2 d.a_ pl p tr N) x'.toNat=eU d.a_ x.toNat->f x'=g x)->(C8 pl p tr N).map f=pl.map g:=λf g h1 h2=>by
  refine zba λi=>?_
  rw[za9,za9];by_cases hi:i<pl.length
  ·obtain⟨x,x',g1,g2,g3⟩:=aD3 i hi;rw[g1,g2];simp only[zbJ];congr 1;rcases g3 with⟨rfl,rfl⟩|⟨g3,g4,g5,g6⟩
   ·exact h1
   ·exact h2 x x' g3 g4.1 g6
  ·rw[zaK ab,zaK ab];rfl
 have mY:(C8 pl p tr N).map (λx=>decide (x≠ -1))=pl.map (λx=>decide (x≠ -1)):=aD4 _ _ rfl λx x' h1 h2 _=>by
  rw[zaN,decide_eq_true_eq,decide_eq_true_eq];exact⟨λ_=>h1,λ_=>ab⟩
 have sL:(C8 pl p tr N).map (tS (J2 d.a_ pl p tr N))=pl.map (tS d.a_):=aD4 _ _ rfl λx x' h1 h2 h3=>by
  unfold tS;rw[if_neg ab,if_neg h1,h3]
 have zw:(C8 pl p tr N).map (λn=>if n= -1 then ai 256 else eU (J2 d.a_ pl p tr N) n.toNat)=pl.map (λn=>if n= -1 then ai 256 else eU d.a_ n.toNat):=aD4 _ _ rfl λx x' h1 h2 h3=>by
  rw[if_neg ab,if_neg h1,h3]
 have aDV:rz (J2 d.a_ pl p tr N) (C8 pl p tr N)=rz d.a_ pl:=by
  unfold rz;rw[zc2,zc2,zw]
 have aHX:bt (C8 pl p tr N)=bt pl:=by rw[Mf,Mf,mY]
 have aHY:∀k,(bq (C8 pl p tr N) k).map (λx=>decide (x≠ -1))=(bq pl k).map (λx=>decide (x≠ -1)):=λk=>by rw[<-pZ,<-pZ,mY]
 have fM:=alH sL;have zz:∀k,bt (bq (C8 pl p tr N) k)=bt (bq pl k):=λk=>by rw[Mf,Mf,aHY]
 have aDW:ow (J2 d.a_ pl p tr N) (chunks (C8 pl p tr N))=ow d.a_ (chunks pl):=by
  unfold ow chunks;rw[zdb,zdb,AY];exact Mr λk _=>by rw[fM]
 have aDX:∀v,qw (J2 d.a_ pl p tr N) v (chunks (C8 pl p tr N))=qw d.a_ v (chunks pl):=λv=>by
  unfold qw;rw[om,om,AY];unfold TE;congr 1;refine zbC λk hk=>?_
  have hk:=zbm.1 hk;rw[p_ _ (by rw[AY];unfold ew;omega),p_ _ FO,zbx,zbx];unfold xC;rw[fM,zz]
 have AI:(Lz d a p tr).n=d.n:=by
  rw[uS];show(J2 d.a_ pl p tr N).length/256=d.a_.length/256;rw[yh N (zai _)]
 have pD:∀c,c<d.n->bH (Lz d a p tr).mp c=mS (Jv (df d) pl p tr N c):=λc hc=>by
  rw[uS];show bH (mG _) c=_;rw[av4.2,if_pos hc,bO hc,zbx]
 have lO:gm (Lz d a p tr)=0:=by
  unfold gm;rw[AI];have e:(Lz d a p tr).a_.length=d.a_.length:=by rw[uS];exact yh N (zai _)
  rw[e,if_neg ab,if_neg ab,uS];exact av4.1
 have SF:∀c:Nat,(c:Int)∈C8 pl p tr N↔(T<=c/\c<T+N)\/((c:Int)∈pl∧¬ ∃j,j<N/\pl[q+j]?=some (c:Int)):=λc=>by
  have hg:=λi=>Sz (tr:=tr) (pl:=pl) (p:=p) ab (k:=N) ab i
  rw[rD]at hg;constructor
  ·intro h;obtain⟨i,hi⟩:=zaE.1 h;rw[hg i]at hi;split at hi
   ·have:=Option.some.inj hi;left;omega
   ·rename_i g;refine .inr ⟨zag hi,?_⟩;rintro⟨j,hj,Gx⟩;have:=fu _ _ _ hi Gx ab;omega
  ·rintro(h|⟨h1,h2⟩)
   ·refine zag (i:=q+(c-T)) ?_;rw[hg,if_pos ab];congr 1;omega
   ·obtain⟨i,hi⟩:=zaE.1 h1;refine zag (i:=i) ?_;rw[hg,if_neg,hi];intro g;exact h2 ⟨i-q,ab,by rw[show q+(i-q)=i by omega];exact hi⟩
 have aLG:jM d a p tr=Lz d a p tr:=by
  unfold jM;rw[if_neg (λh=>h he),uS,hP,k7]
 have aLH:jG d a p tr=Il a p tr:=by
  unfold jG;rw[if_neg (λh=>h he),e2]
 refine⟨aLG,aLH,?_,?_,AI,?_,⟨⟨by rw[uS];exact(yh N (zai _)).symm,lO⟩,λc hc=>?_⟩,by rw[uS];exact yh N (zai _)⟩
 ·have hsE:oT (Il a p tr)=0:=by
   unfold oT;rw[IF,if_neg aj,if_neg,if_neg,if_neg]
   ·show ¬32768<a.sz;omega
   ·show ¬a.ft≠0;omega
   ·show ¬(a.ty≠128\/4<=a.fl\/a.fl=3);omega
  have rH:pG (Lz d a p tr) (C8 pl p tr N)=0:=by
   unfold pG;rw[AI,if_neg,if_neg]
   ·rintro⟨x,hx,h1,h2⟩;obtain⟨i,hi⟩:=zaE.1 hx;have iX:i<pl.length:=aaX;obtain⟨y,x',g1,g2,g3⟩:=aD3 i iX;rw[hi]at g2;have g2:=Option.some.inj g2;subst g2;rcases g3 with⟨_,g3⟩|⟨_,g4,g5,_⟩
    ·exact h1 g3
    ·rw[pD _ ab,g5]at h2;cases h2
   ·rintro⟨x,hx,h1⟩;obtain⟨i,hi⟩:=zaE.1 hx;have iX:i<pl.length:=aaX;obtain⟨y,x',g1,g2,g3⟩:=aD3 i iX;rw[hi]at g2;have g2:=Option.some.inj g2;subst g2;rcases g3 with⟨_,g3⟩|⟨_,g4,g5,_⟩<;>omega
  have aLI:lJ (Il a p tr) (C8 pl p tr N):=by
   have arb:=yB;unfold lJ at arb ⊢;rw[aHX,AY];show a.al=_/\if a.fl%2=1 then _/\_ else _
   refine⟨arb.1,?_⟩;have am2:=arb.2;by_cases hf:a.fl%2=1
   ·rw[if_pos hf]at am2 ⊢;refine⟨am2.1,λc hc=>?_⟩;unfold chunks at hc;obtain⟨k,SH,rfl⟩:=zaX.1 hc;rw[AY]at SH;exact amB (aHY k).symm (am2.2 _ (by unfold chunks;exact zaX.2 ⟨k,SH,rfl⟩))
   ·rw[if_neg hf]at am2 ⊢;exact am2
  unfold aK;rw[lO,hsE,if_neg aj,if_neg aj,if_neg (show ¬(Il a p tr).rs=true from λh=>by rw[show(Il a p tr).rs=a.rs from rfl,c_]at h;cases h),aD2,rH,if_neg aj];unfold iW;rw[if_pos aLI,if_neg aj];split
  ·rename_i g;rw[uS];show qw (J2 d.a_ pl p tr N) a.vd _=0;rw[aDX];exact pd g
  ·rfl
 ·unfold aV;rw[if_neg (show ¬(ar (Lz d a p tr) (Il a p tr)).a.rs=true from λh=>by rw[show(ar (Lz d a p tr) (Il a p tr)).a.rs=a.rs from rfl,c_]at h;cases h),if_neg (show ¬(ar d a).a.rs=true from λh=>ai8)];show nA a (if a.fl%2=1 then ow (Lz d a p tr).a_ (chunks (az (Il a p tr).rn.l))else rz (Lz d a p tr).a_ (az (Il a p tr).rn.l))=nA a (if a.fl%2=1 then ow d.a_ (chunks (az a.rn.l))else rz d.a_ (az a.rn.l));rw[aD2,hP,uS];show nA a (if a.fl%2=1 then ow (J2 d.a_ pl p tr N) _ else rz (J2 d.a_ pl p tr N) _)=_;rw[aDW,aDV]
 ·have hc:∀k,k<=N->gy (Jv (df d) pl p tr k) d.n=gy (df d) d.n:=by
   intro k
   induction k with
   |zero=>intro _;rfl
   |succ k ih=>
    intro SH;obtain⟨x,I_,vR,mV⟩:=pe k ab;have hf:Jv (df d) pl p tr (k+1)=λc=>if c=T+k then true else if c=x then false else Jv (df d) pl p tr k c:=by
     funext c;show(if c=(tr.s+(k:Int)).toNat then true else if c=(pl[p.toNat+k]?.getD 0).toNat then false else Jv (df d) pl p tr k c)=_;rw[rD,I_,zbx,zaC,show(tr.s+(k:Int)).toNat=T+k by omega]
    rw[hf,aut _ _ ab vR,ih ab]
    ·cases h:Jv (df d) pl p tr k (T+k)with
     |false=>rfl
     |true=>
      rcases(lM k ab _).1 h with h|h
      ·omega
      ·rw[nj (T+k) ab ab]at h;cases h.1
    ·refine(lM k ab _).2 (.inr ⟨mV,?_⟩);rintro⟨j,hj,Gx⟩;have:=fu _ _ _ I_ Gx ab;omega
  rw[vp,vp];have e3:gy (λc=>decide (bH (Lz d a p tr).mp c=1)) d.n=gy (Jv (df d) pl p tr N) d.n:=jq λc hc=>by
   rw[pD c hc];cases Jv (df d) pl p tr N c<;>simp[mS]
  rw[e3,hc N (zai _)];rfl
 ·unfold E0;rw[Dl,Dl,aD2,hP,SF];have hmc:=lM N (zai _) c;have k_:=pD c hc;have cq:df d c=true↔bH d.mp c=1:=by unfold df;simp
  have aHU:=mK d.mp c;have ht:mS true=1:=rfl;have hf:mS false=0:=rfl;refine⟨λ⟨g1,g2⟩=>⟨?_,?_⟩,λ⟨g1,g2⟩=>?_,λg=>?_,λ⟨g1,g2⟩=>?_⟩
  ·rw[k_];have l6:¬(T<=c/\c<T+N):=λh=>g2 (.inl h)
   by_cases G1:df d c=true
   ·rw[hmc.2 (.inr ⟨G1,λ⟨j,_,hj⟩=>g1 (zag hj)⟩),ht,cq.1 G1]
   ·have:Jv (df d) pl p tr N c=false:=by
     cases h:Jv (df d) pl p tr N c with
     |false=>rfl
     |true=>
      rcases hmc.1 h with h|h
      ·exact absurd h l6
      ·exact absurd h.1 G1
    rw[this,hf];have:¬bH d.mp c=1:=λh=>G1 (cq.2 h)
    omega
  ·rw[uS];show eU d.a_ c=eU (J2 d.a_ pl p tr N) c;rw[aD1 c hc,if_neg λh=>g2 (.inl h)]
  ·rw[k_];have:Jv (df d) pl p tr N c=false:=by
    cases h:Jv (df d) pl p tr N c with
    |false=>rfl
    |true=>
     rcases hmc.1 h with h|h
     ·exact absurd (.inl h) g2
     ·exact absurd (.inr ⟨g1,h.2⟩) g2
   rw[this,hf]
  ·rw[k_];have:Jv (df d) pl p tr N c=true:=by
    rcases g with h|⟨h1,h2⟩
    ·exact hmc.2 (.inl h)
    ·exact hmc.2 (.inr ⟨cq.2 (eh c h1),h2⟩)
   rw[this,ht]
  ·rcases g1 with h|⟨h1,_⟩
   ·have:=nj c h.1 h.2;have:¬bH d.mp c=1:=λh=>by rw[cq.2 h]at this;cases this
    omega
   ·exact absurd h1 g2
def L0{d:Dk}(h:gm d=0):wU d:=by
 obtain⟨q1,q2,q3⟩:=rX h;obtain⟨_,_,b3,b4,_⟩:=iR q3;unfold Dk.n at q2 b4;exact⟨ab,by unfold sx at b4;omega⟩
section
def atK{d e:Dk}{b:At}(h:aK e b=0)(hl:d.a_.length=e.a_.length)(hd:wU d):wU e:=by
 have ok:=(bc h).1;obtain⟨b1,b2,b3,b4,_⟩:=iR ok.bm;have h1:=hd.1;exact⟨ab,by unfold sx at b4;omega⟩
section
variable {d e:Dk} {a:At} {C:List UInt8} {v:Int} {dt:Nat->Prop}
end
end
structure acV(d e:Dk)(a:At):Prop where
 len:e.a_.length=d.a_.length
 dk:gm e=0
 bit:∀c:Nat,(c:Int)∈az a.rn.l->bH e.mp c=1
 cl:∀c:Nat,(c:Int)∈az a.rn.l->eU e.a_ c=eU d.a_ c
def PS{d e:Dk}{a:At}(h:acV d e a)(h0:aK d a=0):aK e a=0/\aV (ar e a)=aV (ar d a):=by
 obtain⟨ok,oo⟩:=bc h0;have hn:e.n=d.n:=by unfold Dk.n;rw[h.len]
 have mE:∀x∈az a.rn.l,x≠ -1->eU e.a_ x.toNat=eU d.a_ x.toNat:=λx hx h1=>by
  have hb:=(ok.pl x hx).resolve_left h1;exact h.cl _ (by rw[show((x.toNat:Nat):Int)=x by omega];exact hx)
 have sL:(az a.rn.l).map (tS e.a_)=(az a.rn.l).map (tS d.a_):=zbC λx hx=>by
  unfold tS;split
  ·rfl
  ·rename_i g;exact mE x hx g
 have aDV:rz e.a_ (az a.rn.l)=rz d.a_ (az a.rn.l):=by
  unfold rz;refine Mr λx hx=>?_
  split
  ·rfl
  ·rename_i g;exact mE x hx g
 have fM:∀k,dF e.a_ (bq (az a.rn.l) k)=dF d.a_ (bq (az a.rn.l) k):=λk=>by
  unfold dF;rw[zc2,zc2,<-pZ,<-pZ,sL]
 have aDW:ow e.a_ (chunks (az a.rn.l))=ow d.a_ (chunks (az a.rn.l)):=by
  unfold ow chunks;rw[zdb,zdb];exact Mr λk _=>by rw[fM]
 have aDX:∀v,qw e.a_ v (chunks (az a.rn.l))=qw d.a_ v (chunks (az a.rn.l)):=λv=>by
  unfold qw TE;congr 1;refine zbC λk hk=>?_
  have hk:=zbm.1 hk;rw[om]at hk;rw[p_ _ FO,zbx];unfold xC;rw[fM]
 constructor
 ·by_cases c_:a.rs=true
  ·unfold aK;rw[h.dk,ok.str,if_neg aj,if_neg aj,if_pos c_]
  ·have c_:a.rs=false:=by simpa using c_
   obtain⟨o1,o2,o3⟩:=oo c_;have hp:pG e (az a.rn.l)=0:=by
    unfold pG;rw[hn,if_neg,if_neg]
    ·rintro⟨x,hx,h1,h2⟩;have hb:=(ok.pl x hx).resolve_left h1;have:=h.bit x.toNat (by rw[show((x.toNat:Nat):Int)=x by omega];exact hx);omega
    ·rintro⟨x,hx,h1⟩;rcases ok.pl x hx with h2|h2
     ·omega
     ·unfold Dk.n at h1;omega
   unfold aK;rw[h.dk,ok.str,if_neg aj,if_neg aj,if_neg qD,hp,if_neg aj];unfold iW;rw[if_pos o2,if_neg aj];split
   ·rename_i g;rw[aDX];exact o3 g
   ·rfl
 ·unfold aV;show(if a.rs=true then a.vl else nA a (if a.fl%2=1 then ow e.a_ (chunks (az a.rn.l))else rz e.a_ (az a.rn.l)))=(if a.rs=true then a.vl else nA a (if a.fl%2=1 then ow d.a_ (chunks (az a.rn.l))else rz d.a_ (az a.rn.l)))
  rw[aDW,aDV]
def apS(a b:At):Prop:=∀c:Nat,(c:Int)∈az a.rn.l->(c:Int)∉az b.rn.l
def beside{d e:Dk}{a b o:At}(h:acg d e a b)(h0:aK d o=0)(ha:apS o a):acV d e o/\apS o b:=by
 obtain⟨ok,_⟩:=bc h0;have hb:∀c:Nat,(c:Int)∈az o.rn.l->c<d.n/\bH d.mp c=1:=λc hc=>by
  refine⟨?_,QX h0 hc⟩;rcases ok.pl _ hc with h1|h1
  ·omega
  ·unfold Dk.n;omega
 have hk:∀c:Nat,(c:Int)∈az o.rn.l->(c:Int)∉az b.rn.l/\bH e.mp c=1/\eU e.a_ c=eU d.a_ c:=λc hc=>by
  obtain⟨h1,h2⟩:=hb c hc;have Cd:=ha c hc;have ho:=h.2 c h1;unfold E0 at ho;rw[Dl,Dl]at ho;have kr:(c:Int)∉az b.rn.l:=λg=>by have:=ho.2.2.2 ⟨g,Cd⟩;omega
  have:=ho.1 ⟨Cd,kr⟩;exact⟨kr,ab,this.2.symm⟩
 exact⟨⟨h.1.1.symm,h.1.2,λc hc=>(hk c hc).2.1,λc hc=>(hk c hc).2.2⟩,λc hc=>(hk c hc).1⟩
def Q1{d e:Dk}{a b:At}(ho:acg d e a b)(h0:aK d a=0)(h1:aK e b=0):oF e.mp d.n+bt (az a.rn.l)=oF d.mp d.n+bt (az b.rn.l):=by
 obtain⟨ok,_⟩:=bc h0;obtain⟨F4,_⟩:=bc h1;have hn:e.n=d.n:=by unfold Dk.n;rw[ho.1.1]
 have ma:=Mt (n:=d.n) (u0 ok.rn) λx hx=>by
  rcases ok.pl x hx with h|h
  ·exact .inl h
  ·right;unfold Dk.n;omega
 have mb:=Mt (n:=d.n) (u0 F4.rn) λx hx=>by
  rcases F4.pl x hx with h|h
  ·exact .inl h
  ·right;unfold Dk.n at hn ⊢;omega
 have key:∀c,c<d.n->((bH e.mp c=1↔(c:Int)∈az b.rn.l\/(bH d.mp c=1/\(c:Int)∉az a.rn.l))∧¬((c:Int)∈az b.rn.l/\bH d.mp c=1/\(c:Int)∉az a.rn.l)):=λc hc=>by
  have:=ho.2 c hc;unfold E0 at this;rw[Dl,Dl]at this;obtain⟨t1,t2,t3,t4⟩:=this;by_cases g1:(c:Int)∈az a.rn.l<;>by_cases g2:(c:Int)∈az b.rn.l
  ·exact⟨⟨λ_=>.inl g2,λ_=>t3 g2⟩,λh=>h.2.2 g1⟩
  ·have:=t2 ⟨g1,g2⟩;exact⟨⟨λh=>ab,λh=>by rcases h with h|h;exact absurd h g2;exact absurd g1 h.2⟩,λh=>h.2.2 g1⟩
  ·have:=t4 ⟨g2,g1⟩;exact⟨⟨λ_=>.inl g2,λ_=>t3 g2⟩,λh=>ab⟩
  ·have:=t1 ⟨g1,g2⟩;exact⟨⟨λh=>.inr ⟨ab,g1⟩,λh=>by rcases h with h|h;exact absurd h g2;omega⟩,λh=>g2 h.1⟩
 have c1:=Ed (p:=λc=>decide ((c:Int)∈az b.rn.l)) (q:=λc=>decide (bH d.mp c=1)&&!decide ((c:Int)∈az a.rn.l)) (n:=d.n) λc hc=>by
  simp only[decide_eq_true_eq,zaU,zbr,decide_eq_false_iff_not];exact λh=>(key c hc).2 ⟨h.1,h.2.1,h.2.2⟩
 have c2:=Ed (p:=λc=>decide ((c:Int)∈az a.rn.l)) (q:=λc=>decide (bH d.mp c=1)&&!decide ((c:Int)∈az a.rn.l)) (n:=d.n) λc hc=>by
  simp only[decide_eq_true_eq,zaU,zbr,decide_eq_false_iff_not];exact λh=>h.2.2 h.1
 have e1:gy (λc=>decide (bH e.mp c=1)) d.n=gy (λc=>decide ((c:Int)∈az b.rn.l)||(decide (bH d.mp c=1)&&!decide ((c:Int)∈az a.rn.l))) d.n:=jq λc hc=>by
  rw[zaN,decide_eq_true_eq,(key c hc).1];simp
 have e2:gy (λc=>decide (bH d.mp c=1)) d.n=gy (λc=>decide ((c:Int)∈az a.rn.l)||(decide (bH d.mp c=1)&&!decide ((c:Int)∈az a.rn.l))) d.n:=jq λc hc=>by
  rw[zaN,decide_eq_true_eq,zbB,zaU,decide_eq_true_eq,decide_eq_true_eq,zbr,decide_eq_false_iff_not];by_cases g:(c:Int)∈az a.rn.l
  ·exact⟨λ_=>.inl g,λ_=>QX h0 g⟩
  ·exact⟨λh=>.inr ⟨h,g⟩,λh=>by rcases h with h|h;exact sF;exact h.1⟩
 rw[vp,vp];omega
structure Vo where
 d:Dk
 st:Sl At
def D4(s:Sl At):PV:=Sl.pv At.pv 11 s
def Vo.pv(v:Vo):PV:=.agg [.str v.d.a_,.str v.d.mp,D4 v.st]
def Y1:MT (ay []) Xg (ah gB):=kS
def YD:MT (ay []) Tg (ah dG):=by
 rintro _ K ⟨_,⟨b,e,rfl,rfl⟩,hK⟩;cases b
 ·(conv=>whnf)
  exact aG
 ·(conv=>whnf)
  exact aG
def YM:MT (ay []) Q8 (bF bG):=by
 rintro _ K ⟨_,⟨n,lo,hi,rfl,rfl⟩,hK⟩
 (repeat'((conv=>whnf);first|refine de (λ_=>?_) (λ_=>?_)|fail))<;>try(conv=>whnf)
 all_goals exact YS
def SM:MT (ay []) LB (ah bA):=by
 rintro _ K ⟨_,⟨d,rfl,h,rfl⟩,hK⟩
 (repeat'((conv=>whnf);first|refine l7 ab ?_|fail))<;>try(conv=>whnf)
 exact⟨.pv (pI _),bu so,trivial,hK⟩
def uR(d:Dk)(t:Rn):Prop:=(0<=t.s/\t.s<=(d.n:Int)-1)/\1<=t.n/\t.n<=(d.n:Int)-t.s
def Er(ps:List PV)(p:Prop):Prop:=∃(d:Dk) (t:Rn),ps=[d.pv,t.pv]/\d.a_.length<=1000000/\p=uR d t
def Ir:MT (ay [(86,ah bA),(92,bF bG)]) CQ (bF Er):=by
 rintro _ K ⟨_,⟨d,t,rfl,h,rfl⟩,hK⟩;have hn:d.n<=1000000:=so;have hc:bA [d.pv] (pI d.n):=⟨d,rfl,h,rfl⟩
 unfold uR at hK;generalize d.n=N at*
 (repeat'((conv=>whnf);first|refine⟨_,hc,?_⟩|refine⟨_,⟨_,_,_,rfl,rfl⟩,?_⟩|refine bj ab ?_|refine de (λ_=>?_) (λ_=>?_)|fail))<;>try(conv=>whnf)
 all_goals exact YS
def xd(d:Dk)(c:Nat):Int:=if bH d.mp c=1 then-2 else-1
def Fu(d:Dk):List Int:=(List.range d.n).map (xd d)
def ads(d:Dk):(Fu d).length=d.n:=by simp[Fu]
def YY(N:Nat)(f:Nat->Int)(n:Nat):List Int:=(List.range N).map λc=>if c<n then f c else 0
def af9(N:Nat)(f:Nat->Int)(n:Nat):(YY N f n).length=N:=by simp[YY]
def alr(N:Nat)(f:Nat->Int)(n i:Nat):(YY N f n)[i]?=if i<N then some (if i<n then f i else 0)else none:=by
 unfold YY;rw[za9];by_cases h:i<N
 ·rw[zbz h,if_pos h];rfl
 ·rw[zaK aH,if_neg h];rfl
def arO{N:Nat}{f:Nat->Int}{n:Nat}(h:n<N):(YY N f n).set n (f n)=YY N f (n+1):=by
 refine zba λi=>?_
 rw[zaS,alr,alr,af9];by_cases hi:n=i
 ·subst hi;rw[if_pos rfl,if_pos h,if_pos h,if_pos ab]
 ·rw[if_neg hi];by_cases hl:i<n
  ·rw[if_pos hl,if_pos (show i<n+1 by omega)]
  ·rw[if_neg hl,if_neg (show ¬i<n+1 by omega)]
def asX(N:Nat)(f:Nat->Int):YY N f N=(List.range N).map f:=zbC λc hc=>if_pos (zbm.1 hc)
def aqB(N:Nat)(f:Nat->Int):(YY N f 0).map pI=List.replicate N (pI 0):=by
 refine List.ext_getElem (by simp[YY]) λi h1 h2=>?_
 simp[YY]
def UL(ps:List PV)(r:RV):Prop:=∃d:Dk,ps=[d.pv]/\(fH d/\nu d.mp d.n=0)/\r=.fresh 3 1 ((Fu d).map pI)
def ac3:MT (ay [(86,ah bA),(126,XF)]) aay (c8 true UL):=by
 rintro _ K ⟨_,⟨d,rfl,⟨⟨h1,h2⟩,h3⟩,rfl⟩,hK⟩;have hn:d.n<=1000000:=so;have hc:bA [d.pv] (pI d.n):=⟨d,rfl,h1,rfl⟩
 have hz:=aqB d.n (xd d);have zF:∀k,((YY d.n (xd d) k).map pI).length=d.n:=λk=>by rw[zaw,af9]
 (repeat'((conv=>whnf);first|refine⟨_,hc,?_⟩|refine dq λ_=>?_|refine wz ?_|fail))<;>try(conv=>whnf)
 refine⟨λm env σ=>∃n:Nat,n+m=d.n/\σ=[.box 23 [.pv (.str d.a_),.pv (.str d.mp)],.row 3 1 true ((YY d.n (xd d) n).map pI)]/\env=[(1,.ref 0 0 0),(3,.own 1),eN 11 d.n,eN 12 n],d.n,⟨0,ab,?_,?_⟩,?_⟩
 ·rw[hz,zaC]
 ·rfl
 rintro m env σ ⟨n,kp,rfl,rfl⟩;have hl:=zF n;by_cases aU:n<d.n
 ·have hb:aqn d.mp d.n n=bH d.mp n:=by
   unfold aqn ac0;rw[h3];simp;intro h;omega
  have LO:=arO (f:=xd d) aU;have fa:xd d n=if bH d.mp n=1 then-2 else-1:=rfl
  have hG:(YY d.n (xd d) n).length=d.n:=af9 _ _ _;generalize YY d.n (xd d) n=G at*;have hg:(G.map pI)[(n:Int).toNat]?=some (pI (G[n]'ab)):=by
   rw[zaC,za9,zah ab];rfl
  have ZI:(G.map pI).set (n:Int).toNat (pI (-1))=(G.set n (-1)).map pI:=by rw[zaC,zc1]
  have LA:((G.set n (-1)).map pI).length=d.n:=by rw[zaw,za0,hG]
  have mU:((G.set n (-1)).map pI)[(n:Int).toNat]?=some (pI (-1)):=by
   rw[zaC,za9,zcm ab];rfl
  have kI:((G.set n (-1)).map pI).set (n:Int).toNat (pI (-2))=(G.set n (-2)).map pI:=by rw[zaC,<-zc1,List.set_set]
  (conv=>whnf)
  refine au ab ?_
  (conv=>whnf)
  refine zcd ⟨ab,ab⟩ ?_
  (conv=>whnf)
  refine⟨_,hg,?_⟩;refine⟨rfl,?_⟩;have aAS:(G.map pI).set (n:Int).toNat (.int .i64 (-1))=(G.set n (-1)).map pI:=ZI;have aAV:((G.set n (-1)).map pI).set (n:Int).toNat (.int .i64 (-2))=(G.set n (-2)).map pI:=kI
  (repeat'((conv=>whnf);first|rw[aAS]|refine zcd ⟨ab,ab⟩ ?_|refine⟨_,mU,?_⟩|rw[aAV]|refine⟨_,_,_,rfl,ab,?_⟩|refine bj ab ?_|refine de (λ_=>?_) (λ_=>?_)|refine dq λ_=>?_|refine bT ?_|fail))<;>try(conv=>whnf)
  ·rename_i x;rw[za0,hG,hb]at x;exact⟨m-1,ab,n+1,ab,by rw[<-LO,fa,if_pos ab],rfl⟩
  ·rename_i x;rw[za0,hG,hb]at x;exact⟨m-1,ab,n+1,ab,by rw[<-LO,fa,if_neg ab],rfl⟩
 ·(repeat'((conv=>whnf);first|refine aw ab ?_|fail))<;>try(conv=>whnf)
  have:n=d.n:=ab;subst this;rw[asX];exact⟨.fresh _ _ _,⟨rfl,rfl,rfl,rfl⟩,dn _,hK⟩
def Wi(o:List Int)(i:Int):List Nat->Option (List Int)
 |[]=>some o
 |c::r=>if 0<=o[c]?.getD 0 then none else Wi (o.set c i) i r
def M9(r:Rn):List Nat:=if r.s= -1 then[]else List.range' r.s.toNat r.n.toNat
def xM(l:List Rn):List Nat:=l.flatMap M9
def arN{l:List Rn}{n:Nat}{r:Rn}(h:l[n]?=some r):xM (l.drop n)=M9 r++xM (l.drop (n+1)):=by
 obtain⟨aU,rfl⟩:=zaa.1 h;rw[zb3 aU];unfold xM;rw[zao]
def afc(xs:List AV)(σ:aF)(K:AV->aF->Prop):Prop:=∃(o:List Int) (a:At) (i:Int),xs=[.own 0,.pv a.pv,.pv (pI i)]/\(a.rn.l.length<=1000/\(∀r∈a.rn.l,r.s= -1\/(0<=r.s/\0<=r.n/\r.s+r.n<=o.length))/\o.length<=1000000)/\σ=[.row 3 1 true (o.map pI)]/\
 (∀o',Wi o i (xM a.rn.l)=some o'->K (.pv (pB true)) [.row 3 1 true (o'.map pI)])/\(Wi o i (xM a.rn.l)=none→∀o':List Int,o'.length=o.length->K (.pv (pB false)) [.row 3 1 true (o'.map pI)])
set_option maxHeartbeats 2000000 in
def amG:gO (ay []) WN (sB afc):=by
 rintro _ _ K ⟨o,a,i,rfl,⟨h1,h2,h3⟩,rfl,hT,hF⟩;have gJ:(a.rn.l.map Rn.pv).length=a.rn.l.length:=zaw _
 (repeat'((conv=>whnf);first|refine KP ?_|refine dq λ_=>?_|fail))<;>try(conv=>whnf)
 refine⟨λm env σ=>∃(n:Nat) (oc:List Int),(n+m=a.rn.l.length/\oc.length=o.length/\Wi o i (xM a.rn.l)=Wi oc i (xM (a.rn.l.drop n)))/\σ=[.row 3 1 true (oc.map pI)]/\env=[(0,.own 0),eN 2 i,(11,.pv (qF a.rn)),eN 12 a.rn.l.length,eN 13 n],a.rn.l.length,⟨0,o,⟨ab,rfl,rfl⟩,rfl,rfl⟩,?_⟩;rintro m env σ ⟨n,oc,⟨hn,GV,KS⟩,rfl,rfl⟩;by_cases aU:n<a.rn.l.length
 ·obtain⟨r,hr⟩:∃r,a.rn.l[n]?=some r:=⟨_,zah aU⟩
  have JA:=h2 r (zag hr);have hd:=arN hr;have lF:(a.rn.l.map Rn.pv)[(n:Int).toNat]?=some r.pv:=by rw[zaC,za9,hr];rfl
  have qH:qF a.rn=.sl 2 (a.rn.l.map Rn.pv):=by
   cases h:a.rn with
   |nil=>rw[h]at hr;cases hr
   |sl l=>rfl
  rw[hd]at KS;rw[qH];by_cases hs:r.s= -1
  ·(repeat'((conv=>whnf);first|refine au hs ?_|refine bj ab ?_|refine au ab ?_|refine iY aA ?_|refine bT ?_|fail))<;>try(conv=>whnf)
   rw[show M9 r=[] by unfold M9;rw[if_pos hs]]at KS;exact⟨m-1,ab,n+1,oc,⟨ab,GV,KS⟩,rfl,rfl⟩
  ·have Wo:M9 r=List.range' r.s.toNat r.n.toNat:=by unfold M9;rw[if_neg hs]
   rw[Wo]at KS
   (repeat'((conv=>whnf);first|refine aw hs ?_|refine au ab ?_|refine iY aA ?_|refine bT ?_|fail))<;>try(conv=>whnf)
   refine⟨λm2 env σ=>∃(c:Nat) (oq:List Int),((c:Int)+m2=r.s+r.n/\oq.length=o.length/\Wi o i (xM a.rn.l)=Wi oq i (List.range' c m2++xM (a.rn.l.drop (n+1))))/\σ=[.row 3 1 true (oq.map pI),.box 37 [.pv (pI r.s),.pv (pI r.n)]]/\
    env=[(0,.own 0),eN 2 i,(8,.ref 1 0 0),eN 9 c,(11,.pv (.sl 2 (a.rn.l.map Rn.pv))),eN 12 a.rn.l.length,eN 13 n],r.n.toNat,⟨r.s.toNat,oc,⟨ab,GV,KS⟩,rfl,?_⟩,?_⟩
   ·rw[show((r.s.toNat:Nat):Int)=r.s by omega]
   rintro m2 env σ ⟨c,oq,⟨hc,ll,hg⟩,rfl,rfl⟩;cases m2 with
   |zero=>
    (repeat'((conv=>whnf);first|refine aw ab ?_|refine bj ab ?_|fail))<;>try(conv=>whnf)
    exact⟨m-1,ab,n+1,oq,⟨ab,ll,hg⟩,rfl,rfl⟩
   |succ m2=>
    have mE:c<oq.length:=ab;obtain⟨w,hw⟩:∃w,oq[c]?=some w:=⟨_,zah mE⟩
    have hq:(oq.map pI)[(c:Int).toNat]?=some (pI w):=by rw[zaC,za9,hw];rfl
    have JM:(oq.map pI).length=oq.length:=zaw _;have LO:(oq.map pI).set (c:Int).toNat (pI i)=(oq.set c i).map pI:=by rw[zaC,zc1]
    have jA:Wi oq i (List.range' c (m2+1)++xM (a.rn.l.drop (n+1)))=if 0<=w then none else Wi (oq.set c i) i (List.range' (c+1) m2++xM (a.rn.l.drop (n+1))):=by
     rw[List.range'_succ,zbd];show(if 0<=oq[c]?.getD 0 then none else _)=_;rw[hw];rfl
    rw[jA]at hg;by_cases uX:0<=w
    ·rw[if_pos uX]at hg
     (repeat'((conv=>whnf);first|refine au ab ?_|refine zcd ⟨ab,ab⟩ ?_|refine⟨_,hq,?_⟩|refine bj ab ?_|fail))<;>try(conv=>whnf)
     exact hF hg oq ll
    ·rw[if_neg uX]at hg
     (repeat'((conv=>whnf);first|refine zcd ⟨ab,ab⟩ ?_|refine⟨_,hq,?_⟩|refine aw uX ?_|refine au ab ?_|refine bj ab ?_|refine bT ?_|fail))<;>try(conv=>whnf)
     exact⟨m2,ab,c+1,oq.set c i,⟨ab,by rw[za0,ll],hg⟩,by rw[<-LO],rfl⟩
 ·(repeat'((conv=>whnf);first|refine aw ab ?_|fail))<;>try(conv=>whnf)
  refine hT oc ?_;rw[KS,zcX ab];rfl
noncomputable def FH(d:Dk)(o:List Int)(i:Int):List At->Int×Int
 |[]=>(0,0)
 |a::r=>if aK d a≠0 then(i,aK d a)else match Wi o i (xM a.rn.l)with
  |none=>(i,13)
  |some o'=>FH d o' (i+1) r
def aeB:∀(cs:List Nat) {o o':List Int} {i:Int},Wi o i cs=some o'->o'.length=o.length
 |[],o,o',i,h=>by cases h;rfl
 |c::r,o,o',i,h=>by
  unfold Wi at h;split at h
  ·cases h
  ·rw[aeB r h,za0]
def Bd{d:Dk}{a:At}(h:aK d a=0):∀r∈a.rn.l,r.s= -1\/(0<=r.s/\0<=r.n/\r.s+r.n<=d.n):=by
 obtain⟨ok,_⟩:=bc h;intro r hr;have h1:=(bZ ok.rn).2.2.2 r hr;unfold jZ at h1;by_cases hs:r.s= -1
 ·exact .inl hs
 rw[if_neg hs]at h1;have hm:r.s+((r.n.toNat-1:Nat):Int)∈az a.rn.l:=by
  unfold az;rw[zbA];refine⟨r,hr,?_⟩;unfold iV;rw[zaX];refine⟨r.n.toNat-1,zbm.2 ab,?_⟩;rw[if_neg hs]
 have h2:=ok.pl _ hm;right;unfold Dk.n;omega
def boV(d:Dk)(s:Sl At):dC:=.box 26 [.pv (.str d.a_),.pv (.str d.mp),.pv (D4 s)]
def ajO(xs:List AV)(σ:aF)(K:AV->aF->Prop):Prop:=∃(d:Dk) (s:Sl At) (o:List Int) (i:Int) (a:At),xs=[.pv (pI i),.pv a.pv,.ref 0 0 0,.ref 1 0 0]/\(fH d/\a.nm.length<=1000000/\o.length=d.n)/\σ=[boV d s,.box 45 [.own 2],.row 3 1 true (o.map pI)]/\
 (aK d a≠0->K (.pv (pI (aK d a))) [boV d s,.box 45 [.own 2],.row 3 1 true (o.map pI)])/\
 (aK d a=0->(∀o',Wi o i (xM a.rn.l)=some o'->K (.pv (pI 0)) [boV d s,.box 45 [.own 2],.row 3 1 true (o'.map pI)])/\(Wi o i (xM a.rn.l)=none→∀o':List Int,o'.length=o.length->K (.pv (pI 13)) [boV d s,.box 45 [.own 2],.row 3 1 true (o'.map pI)]))
set_option maxHeartbeats 2000000 in
def aoC:gO (ay [(72,ah tQ),(73,sB afc),(68,ah dG)]) y0 (sB ajO):=by
 rintro _ _ K ⟨d,s,o,i,a,rfl,⟨h1,h2,h3⟩,rfl,hE,hG⟩;have hc:tQ [d.pv,a.pv] (pI (aK d a)):=⟨d,a,rfl,⟨h1,h2⟩,rfl⟩
 have hn:d.n<=1000000:=by have:=h1.1;unfold Dk.n;omega
 unfold boV at*;by_cases h0:aK d a=0
 case neg=>
  have hE:=hE h0
  (repeat'((conv=>whnf);first|refine⟨_,hc,?_⟩|refine au h0 ?_|fail))<;>try(conv=>whnf)
  exact hE
 obtain⟨hT,hF⟩:=hG h0;have HH:=Bd h0;have vu:=(bZ (bc h0).1.rn).1;rw[h0]at hc
 (repeat'((conv=>whnf);first|refine⟨_,hc,?_⟩|refine aw (λh=>h rfl) ?_|fail))<;>try(conv=>whnf)
 refine⟨o,a,i,rfl,⟨ab,by rw[h3];exact HH,ab⟩,rfl,λo' ho=>?_,λho o' hl=>?_⟩
 ·(repeat'(refine iM ?_;first|refine⟨_,⟨_,_,rfl,rfl⟩,?_⟩|fail))<;>try(conv=>whnf)
  exact hT o' ho
 ·(repeat'(refine iM ?_;first|refine⟨_,⟨_,_,rfl,rfl⟩,?_⟩|fail))<;>try(conv=>whnf)
  exact hF ho o' hl
def apI{d:Dk}{o:List Int}{i:Int}{l:List At}{n:Nat}{a:At}(h:l[n]?=some a):FH d o i (l.drop n)=if aK d a≠0 then(i,aK d a)else match Wi o i (xM a.rn.l)with
 |none=>(i,13)
 |some o'=>FH d o' (i+1) (l.drop (n+1)):=by
 obtain⟨aU,rfl⟩:=zaa.1 h;rw[zb3 aU];rfl
def akk(xs:List AV)(σ:aF)(K:AV->aF->Prop):Prop:=∃(d:Dk) (s q:Sl At) (o:List Int),xs=[.pv (D4 s),.clo 71 [.ref 0 0 0,.ref 1 0 0]]/\(fH d/\(∀a∈s.l,a.nm.length<=1000000)/\o.length=d.n/\s.l.length<=1000000)/\σ=[boV d q,.box 45 [.own 2],.row 3 1 true (o.map pI)]/\
 ∀o':List Int,K (.tup [.pv (pI (FH d o 0 s.l).1),.pv (pI (FH d o 0 s.l).2)]) [boV d q,.box 45 [.own 2],.row 3 1 true (o'.map pI)]
set_option maxHeartbeats 2000000 in
def anm:gO (ay [(71,sB ajO)]) eA (sB akk):=by
 rintro _ _ K ⟨d,s,q,o,rfl,⟨h1,h2,h3,h4⟩,rfl,hK⟩;have gJ:(s.l.map At.pv).length=s.l.length:=zaw _
 (repeat'((conv=>whnf);first|refine KP ?_|refine dq λ_=>?_|fail))<;>try(conv=>whnf)
 refine⟨λm env σ=>∃(n:Nat) (oc:List Int),(n+m=s.l.length/\oc.length=d.n/\FH d o 0 s.l=FH d oc n (s.l.drop n))/\σ=[boV d q,.box 45 [.own 2],.row 3 1 true (oc.map pI)]/\
  env=[(1,.clo 71 [.ref 0 0 0,.ref 1 0 0]),(9,.pv (D4 s)),eN 10 s.l.length,eN 11 n],s.l.length,⟨0,o,⟨ab,h3,rfl⟩,rfl,rfl⟩,?_⟩
 rintro m env σ ⟨n,oc,⟨hn,GV,hg⟩,rfl,rfl⟩;by_cases aU:n<s.l.length
 ·obtain⟨a,ha⟩:∃a,s.l[n]?=some a:=⟨_,zah aU⟩
  have qH:D4 s=.sl 11 (s.l.map At.pv):=by
   cases s with
   |nil=>cases ha
   |sl l=>rfl
  have Cd:=h2 a (zag ha);rw[apI ha]at hg;rw[qH]
  (repeat'((conv=>whnf);first|refine au ab ?_|refine iY aA ?_|refine bT ?_|fail))<;>try(conv=>whnf)
  refine⟨d,q,oc,n,a,rfl,⟨h1,Cd,GV⟩,rfl,λhE=>?_,λh0=>⟨λo' ho=>?_,λho o' hl=>?_⟩⟩
  ·rw[if_pos hE]at hg;rw[hg]at hK
   (repeat'((conv=>whnf);first|refine au hE ?_|fail))<;>try(conv=>whnf)
   exact hK oc
  ·rw[if_neg (λh=>h h0),ho]at hg
   (repeat'((conv=>whnf);first|refine aw (λh=>h rfl) ?_|refine bj ab ?_|fail))<;>try(conv=>whnf)
   exact⟨m-1,ab,n+1,o',⟨ab,(aeB _ ho).trans GV,by rw[zdc];exact hg⟩,rfl,rfl⟩
  ·rw[if_neg (λh=>h h0),ho]at hg;rw[hg]at hK
   (repeat'((conv=>whnf);first|refine au ao ?_|fail))<;>try(conv=>whnf)
   exact hK o'
 ·(repeat'((conv=>whnf);first|refine aw ab ?_|fail))<;>try(conv=>whnf)
  rw[zcX ab]at hg;rw[hg]at hK;exact hK oc
def OS(v:Vo):Prop:=fH v.d/\(∀a∈v.st.l,a.nm.length<=1000000)/\v.st.l.length<=1000000
noncomputable def ZX(v:Vo):Int×Int:=if gm v.d≠0 then(0,gm v.d)else if 8<v.st.l.length then(0,8)else FH v.d (Fu v.d) 0 v.st.l
def aco(ps:List PV)(r:RV):Prop:=∃v:Vo,ps=[v.pv]/\OS v/\r=.tup [.pv (pI (ZX v).1),.pv (pI (ZX v).2)]
set_option maxHeartbeats 2000000 in
def abN:MT (ay [(67,ah dm),(68,ah dG),(66,ah gB),(69,c8 true UL),(71,sB ajO),(70,sB akk)]) E8 (c8 true aco):=by
 rintro _ K ⟨_,⟨v,rfl,⟨h1,h2,h3⟩,rfl⟩,hK⟩;obtain⟨d,s⟩:=v;have hd:dm [d.pv] (pI (gm d)):=⟨d,rfl,h1,rfl⟩
 have gJ:(s.l.map At.pv).length=s.l.length:=zaw _;have f1:∀b:Bool,gm d≠0->bQ [gm d,if b=true then 0 else 8]=gm d:=λb h=>by simp[bQ,h]
 have f2:bQ [0,if true=true then 0 else 8]=0:=ao;have f3:bQ [0,if false=true then 0 else 8]=8:=ao;unfold ZX at hK;simp only at h2 h3 hK;by_cases h0:gm d=0
 case neg=>
  rw[if_pos h0]at hK
  (repeat'((conv=>whnf);first|refine⟨_,hd,?_⟩|refine KP ?_|(refine au (by rw[f1 _ h0];exact h0) ?_)|(refine fe ?_;first|refine de (λ_=>?_) (λ_=>?_)|refine bT ?_|refine⟨_,⟨_,_,rfl,rfl⟩,?_⟩|refine⟨_,⟨[_,_],rfl,rfl⟩,?_⟩|fail)))<;>try(conv=>whnf)
  ·rw[f1 _ h0];exact⟨[.pv (pI 0),.pv (pI (gm d))],⟨rfl,rfl,trivial⟩,⟨trivial,trivial,trivial⟩,hK⟩
  ·rw[f1 _ h0];exact⟨[.pv (pI 0),.pv (pI (gm d))],⟨rfl,rfl,trivial⟩,⟨trivial,trivial,trivial⟩,hK⟩
 rw[if_neg (λh=>h h0)]at hK;rw[h0]at hd;have hb:UL [d.pv] _:=⟨d,rfl,⟨h1,(rX h0).2.2⟩,rfl⟩
 clear f1;by_cases hl:8<s.l.length
 ·rw[if_pos hl]at hK;have LA:¬(((s.l.map At.pv).length:Nat):Int)<=8:=ab
  (repeat'((conv=>whnf);first|refine⟨_,hd,?_⟩|refine KP ?_|refine aw LA ?_|(refine au (by rw[f3];decide) ?_)|(refine fe ?_;first|refine bT ?_|refine⟨_,⟨_,_,rfl,rfl⟩,?_⟩|refine⟨_,⟨[_,_],rfl,rfl⟩,?_⟩|fail)))<;>try(conv=>whnf)
  rw[f3];exact⟨[.pv (pI 0),.pv (pI 8)],⟨rfl,rfl,trivial⟩,⟨trivial,trivial,trivial⟩,hK⟩
 ·rw[if_neg hl]at hK;have LA:(((s.l.map At.pv).length:Nat):Int)<=8:=ab
  (repeat'((conv=>whnf);first|refine⟨_,hd,?_⟩|refine KP ?_|refine au LA ?_|(refine aw (by rw[f2];decide) ?_)|refine⟨_,hb,?_⟩|(refine fe ?_;first|refine bT ?_|refine⟨_,⟨_,_,rfl,rfl⟩,?_⟩|refine⟨_,⟨[_,_],rfl,rfl⟩,?_⟩|fail)))<;>try(conv=>whnf)
  refine⟨d,s,s,Fu d,rfl,⟨h1,h2,ads d,h3⟩,rfl,λo'=>?_⟩
  (conv=>whnf)
  exact K0
section
noncomputable abbrev wX(v:Vo):Int:=(ZX v).2
open Classical in
noncomputable def LI(v:Vo)(i:Int):Int:=if wX v≠0 then wX v else if 0<=i/\i<=(v.st.l.length:Int)-1 then 0 else 6
open Classical in
noncomputable def IM(v:Vo)(t:Rn):Int:=if wX v≠0 then wX v else if uR v.d t then 0 else 2
def Cc{e c:Int}(b:Bool)(h:e≠0):bQ [e,if b=true then 0 else c]=e:=by simp[bQ,h]
def NO{c:Int}:bQ [0,if true=true then 0 else c]=0:=by simp[bQ]
def CB{c:Int}(h:c≠0):bQ [0,if false=true then 0 else c]=c:=by simp[bQ,h]
def gU(ps:List PV)(r:RV):Prop:=∃v:Vo,ps=[v.pv]/\OS v/\r=.tup [.pv v.pv,.pv (pI (wX v))]
def acR:MT (ay [(20,c8 true aco)]) acd (c8 false gU):=by
 rintro _ K ⟨_,⟨v,rfl,h,rfl⟩,hK⟩;have hc:aco [v.pv] _:=⟨v,rfl,h,rfl⟩
 (repeat'((conv=>whnf);first|refine⟨_,hc,?_⟩|refine bT ?_|fail))<;>try(conv=>whnf)
 exact⟨[.pv v.pv,.pv (pI _)],⟨rfl,rfl,trivial⟩,trivial,hK⟩
def ZQ(ps:List PV)(r:RV):Prop:=∃(v:Vo) (i:Int),ps=[v.pv,pI i]/\OS v/\r=.tup [.pv v.pv,.pv (pI (LI v i))]
def adu:MT (ay [(74,c8 false gU),(92,bF bG),(68,ah dG),(66,ah gB)]) Iu (c8 false ZQ):=by
 rintro _ K ⟨_,⟨v,i,rfl,h,rfl⟩,hK⟩;have hc:gU [v.pv] _:=⟨v,rfl,h,rfl⟩
 have h3:=h.2.2;have gJ:(v.st.l.map At.pv).length=v.st.l.length:=zaw _;unfold LI at hK;generalize wX v=E at*;by_cases he:E=0
 case neg=>
  rw[if_pos he]at hK
  (repeat'((conv=>whnf);first|refine⟨_,hc,?_⟩|refine KP ?_|refine⟨_,⟨_,_,_,rfl,rfl⟩,?_⟩|(refine fe ?_;first|refine bj ab ?_|refine de (λ_=>?_) (λ_=>?_)|refine bT ?_|refine⟨_,⟨_,_,rfl,rfl⟩,?_⟩|refine⟨_,⟨[_,_],rfl,rfl⟩,?_⟩|fail)))<;>try(conv=>whnf)
  all_goals
   rw[Cc _ he];exact⟨[.pv v.pv,.pv (pI _)],⟨rfl,rfl,trivial⟩,trivial,hK⟩
 subst he;rw[if_neg (λh=>h rfl)]at hK;by_cases hi:0<=i/\i<=(v.st.l.length:Int)-1
 ·rw[if_pos hi]at hK
  (repeat'((conv=>whnf);first|refine⟨_,hc,?_⟩|refine KP ?_|refine⟨_,⟨_,_,_,rfl,rfl⟩,?_⟩|refine au ab ?_|(refine fe ?_;first|refine bj ab ?_|refine bT ?_|refine⟨_,⟨_,_,rfl,rfl⟩,?_⟩|refine⟨_,⟨[_,_],rfl,rfl⟩,?_⟩|fail)))<;>try(conv=>whnf)
  rw[NO];exact⟨[.pv v.pv,.pv (pI _)],⟨rfl,rfl,trivial⟩,trivial,hK⟩
 ·rw[if_neg hi]at hK
  (repeat'((conv=>whnf);first|refine⟨_,hc,?_⟩|refine KP ?_|refine⟨_,⟨_,_,_,rfl,rfl⟩,?_⟩|refine aw ab ?_|(refine fe ?_;first|refine bj ab ?_|refine bT ?_|refine⟨_,⟨_,_,rfl,rfl⟩,?_⟩|refine⟨_,⟨[_,_],rfl,rfl⟩,?_⟩|fail)))<;>try(conv=>whnf)
  rw[CB ao];exact⟨[.pv v.pv,.pv (pI _)],⟨rfl,rfl,trivial⟩,trivial,hK⟩
def D2(ps:List PV)(r:RV):Prop:=∃(v:Vo) (t:Rn),ps=[v.pv,t.pv]/\OS v/\r=.tup [.pv v.pv,.pv (pI (IM v t))]
def Ga:MT (ay [(74,c8 false gU),(132,bF Er),(68,ah dG),(66,ah gB)]) Ar (c8 false D2):=by
 rintro _ K ⟨_,⟨v,t,rfl,h,rfl⟩,hK⟩;have hc:gU [v.pv] _:=⟨v,rfl,h,rfl⟩
 have hp:Er [v.d.pv,t.pv] _:=⟨v.d,t,rfl,h.1.1,rfl⟩
 unfold IM at hK;generalize wX v=E at*;generalize uR v.d t=P at*;by_cases he:E=0
 case neg=>
  rw[if_pos he]at hK
  (repeat'((conv=>whnf);first|refine⟨_,hc,?_⟩|refine⟨_,hp,?_⟩|(refine fe ?_;first|refine de (λ_=>?_) (λ_=>?_)|refine bT ?_|refine⟨_,⟨_,_,rfl,rfl⟩,?_⟩|refine⟨_,⟨[_,_],rfl,rfl⟩,?_⟩|fail)))<;>try(conv=>whnf)
  all_goals
   rw[Cc _ he];exact⟨[.pv v.pv,.pv (pI _)],⟨rfl,rfl,trivial⟩,trivial,hK⟩
 subst he;rw[if_neg (λh=>h rfl)]at hK;by_cases hi:P
 ·rw[if_pos hi]at hK
  (repeat'((conv=>whnf);first|refine⟨_,hc,?_⟩|refine⟨_,hp,?_⟩|refine au hi ?_|(refine fe ?_;first|refine bT ?_|refine⟨_,⟨_,_,rfl,rfl⟩,?_⟩|refine⟨_,⟨[_,_],rfl,rfl⟩,?_⟩|fail)))<;>try(conv=>whnf)
  rw[NO];exact⟨[.pv v.pv,.pv (pI _)],⟨rfl,rfl,trivial⟩,trivial,hK⟩
 ·rw[if_neg hi]at hK
  (repeat'((conv=>whnf);first|refine⟨_,hc,?_⟩|refine⟨_,hp,?_⟩|refine aw hi ?_|(refine fe ?_;first|refine bT ?_|refine⟨_,⟨_,_,rfl,rfl⟩,?_⟩|refine⟨_,⟨[_,_],rfl,rfl⟩,?_⟩|fail)))<;>try(conv=>whnf)
  rw[CB ao];exact⟨[.pv v.pv,.pv (pI _)],⟨rfl,rfl,trivial⟩,trivial,hK⟩
end
def ac5(o:List Int)(i:Int):List At->List Int
 |[]=>o
 |a::r=>ac5 ((Wi o i (xM a.rn.l)).getD o) (i+1) r
def aeW{d:Dk}{o:List Int}{i:Int}{a:At}{r:List At}(h:(FH d o i (a::r)).2=0):aK d a=0∧∃o',Wi o i (xM a.rn.l)=some o'/\(FH d o' (i+1) r).2=0:=by
 unfold FH at h;by_cases h0:aK d a=0
 ·rw[if_neg (λg=>g h0)]at h;cases hg:Wi o i (xM a.rn.l)with
  |none=>rw[hg]at h;exact absurd (show(13:Int)=0 from h) ao
  |some o'=>rw[hg]at h;exact⟨h0,o',rfl,h⟩
 ·rw[if_pos h0]at h;exact absurd h h0
def drop_cons{α:Type}{l:List α}{n:Nat}{a:α}(h:l[n]?=some a):l.drop n=a::l.drop (n+1):=by
 obtain⟨aU,rfl⟩:=zaa.1 h;exact zb3 aU
structure U1(v:Vo):Prop where
 b:OS v
 dk:gm v.d=0
 len:v.st.l.length<=8
 ch:(FH v.d (Fu v.d) 0 v.st.l).2=0
def P0{v:Vo}(hb:OS v)(h:wX v=0):U1 v:=by
 unfold wX ZX at h;split at h
 ·rename_i g;exact sF
 ·rename_i g;split at h
  ·exact absurd h ao
  ·exact⟨hb,zb2.1 g,ab,h⟩
def cf(v:Vo):List Int:=ac5 (Fu v.d) 0 v.st.l
def HB(ps:List PV)(r:RV):Prop:=∃v:Vo,ps=[v.pv]/\U1 v/\r=.fresh 3 1 ((cf v).map pI)
set_option maxHeartbeats 2000000 in
def ajZ:MT (ay [(69,c8 true UL),(73,sB afc)]) AU (c8 true HB):=by
 rintro _ K ⟨_,⟨v,rfl,hv,rfl⟩,hK⟩;obtain⟨d,s⟩:=v;have hb:UL [d.pv] _:=⟨d,rfl,⟨hv.b.1,(rX hv.dk).2.2⟩,rfl⟩
 have hn:d.n<=1000000:=by have:=hv.b.1.1;unfold Dk.n;simp only at this;omega
 have gJ:(s.l.map At.pv).length=s.l.length:=zaw _;have hlen:=hv.len;have UH:=hv.ch;unfold cf at hK;simp only at hlen UH hK
 (repeat'((conv=>whnf);first|refine⟨_,hb,?_⟩|refine KP ?_|refine dq λ_=>?_|fail))<;>try(conv=>whnf)
 refine⟨λm env σ=>∃(n:Nat) (oc:List Int),(n+m=s.l.length/\oc.length=d.n/\(FH d oc n (s.l.drop n)).2=0/\ac5 (Fu d) 0 s.l=ac5 oc n (s.l.drop n))/\σ=[.row 3 1 true (oc.map pI)]/\
  env=[(3,.own 0),(12,.pv (D4 s)),eN 13 s.l.length,eN 14 n],s.l.length,⟨0,Fu d,⟨ab,ads d,UH,rfl⟩,rfl,rfl⟩,?_⟩
 rintro m env σ ⟨n,oc,⟨kp,GV,hc,hg⟩,rfl,rfl⟩;by_cases aU:n<s.l.length
 ·obtain⟨a,ha⟩:∃a,s.l[n]?=some a:=⟨_,zah aU⟩
  have qH:D4 s=.sl 11 (s.l.map At.pv):=by
   cases s with
   |nil=>cases ha
   |sl l=>rfl
  rw[drop_cons ha]at hc hg;obtain⟨h0,o',ho,WS⟩:=aeW hc;have jA:ac5 oc n (a::s.l.drop (n+1))=ac5 o' (n+1) (s.l.drop (n+1)):=by
   show ac5 ((Wi oc n (xM a.rn.l)).getD oc) _ _=_;rw[ho];rfl
  rw[jA]at hg;have HH:=Bd h0;have vu:=(bZ (bc h0).1.rn).1;rw[qH]
  (repeat'((conv=>whnf);first|refine au ab ?_|refine iY aA ?_|refine bT ?_|fail))<;>try(conv=>whnf)
  refine⟨oc,a,n,rfl,⟨ab,by rw[GV];exact HH,ab⟩,rfl,λo2 rr=>?_,λtT=>by rw[ho]at tT;cases tT⟩;rw[ho]at rr;cases rr
  (repeat'((conv=>whnf);first|refine bj ab ?_|fail))<;>try(conv=>whnf)
  exact⟨m-1,ab,n+1,o',⟨ab,(aeB _ ho).trans GV,by rw[zdc];exact WS,by rw[zdc];exact hg⟩,rfl,rfl⟩
 ·(repeat'((conv=>whnf);first|refine aw ab ?_|fail))<;>try(conv=>whnf)
  rw[zcX ab]at hg;rw[hg]at hK;exact⟨.fresh _ _ _,⟨rfl,rfl,rfl,rfl⟩,dn _,hK⟩
def ajs(ps:List PV)(x:PV):Prop:=∃l:List Rn,ps=[.sl 2 (l.map Rn.pv)]/\(l.length<=100000∧∀r∈l,0<=r.n/\r.n<=100000)/\x=pI (bI l)
def agV{l:List Rn}(h:∀r∈l,0<=r.n/\r.n<=100000):0<=bI l/\bI l<=100000*(l.length:Int):=by
 induction l with
 |nil=>decide
 |cons a l ih=>
  have h1:=h a aj;have h2:=ih λr hr=>h r (by simp[hr])
  have e:bI (a::l)=a.n+bI l:=gS a l;rw[e,zam];omega
def aoW:MT (ay []) adB (ah ajs):=by
 rintro _ K ⟨_,⟨l,rfl,⟨h1,h2⟩,rfl⟩,hK⟩;have gJ:(l.map Rn.pv).length=l.length:=zaw _
 (repeat'((conv=>whnf);first|refine dq λ_=>?_|fail))<;>try(conv=>whnf)
 refine⟨λm env σ=>∃n:Nat,n+m=l.length/\σ=[]/\env=[eN 3 (bI (l.take n)),(6,.pv (.sl 2 (l.map Rn.pv))),eN 7 l.length,eN 8 n],l.length,⟨0,ab,rfl,rfl⟩,?_⟩;rintro m env σ ⟨n,hn,rfl,rfl⟩;by_cases aU:n<l.length
 ·obtain⟨r,hr⟩:∃r,l[n]?=some r:=⟨_,zah aU⟩
  have tZ:=h2 r (zag hr);have hs:=aeq hr;have hb:=agV (l:=l.take n) λr hr=>h2 r (zaL hr)
  rw[zal]at hb;generalize bI (l.take n)=S at*
  (repeat'((conv=>whnf);first|refine au ab ?_|refine bj ab ?_|refine iY aA ?_|refine bT ?_|fail))<;>try(conv=>whnf)
  exact⟨m-1,ab,n+1,ab,rfl,by rw[hs];rfl⟩
 ·(repeat'((conv=>whnf);first|refine aw ab ?_|fail))<;>try(conv=>whnf)
  rw[za1 ab];exact aG
def cg(acc:List Rn)(r:Rn):List Rn:=if r.s= -1 then acc else match acc.getLast? with
 |some q=>if q.s+q.n=r.s then acc.dropLast++[⟨q.s,q.n+r.n⟩]else acc++[r]
 |none=>acc++[r]
def Yd(l:List Rn):List Rn:=l.foldl cg []
def CM(r:Rn):Prop:=0<=r.s/\0<=r.n/\r.s+r.n<=1000000
def aac{r:Rn}(h:r.s≠ -1):cg [] r=[r]:=by unfold cg;rw[if_neg h];rfl
def Sj{p:List Rn}{q r:Rn}(h:r.s≠ -1):cg (p++[q]) r=if q.s+q.n=r.s then p++[⟨q.s,q.n+r.n⟩]else p++[q]++[r]:=by
 unfold cg;rw[if_neg h,zdq,zc9];simp only[zdz,zdA,zc6]
def ay9{acc:List Rn}{r:Rn}(h:∀q∈acc,CM q)(hr:r.s= -1\/CM r):∀q∈cg acc r,CM q:=by
 by_cases hs:r.s= -1
 ·unfold cg;rw[if_pos hs];exact h
 have hr:=hr.resolve_left hs;rcases zcT acc with rfl|⟨p,q,rfl⟩
 ·rw[aac hs];intro x hx;rw[zcS]at hx;subst hx;exact hr
 ·rw[zcU]at h ⊢;rw[Sj hs];intro x hx;have hq:=h q aj;unfold CM at*;split at hx
  ·rename_i e;rcases zaA.1 hx with hx|hx
   ·exact h x iP
   ·rw[zcS]at hx;subst hx;simp only;omega
  ·rcases zaA.1 hx with hx|hx
   ·exact h x hx
   ·rw[zcS]at hx;subst hx;exact hr
def am0{l:List Rn}{n:Nat}{r:Rn}(h:l[n]?=some r):Yd (l.take (n+1))=cg (Yd (l.take n)) r:=by
 unfold Yd;rw[zck,h,zc3,zc0];rfl
def arw{l:List Rn}(h:∀r∈l,r.s= -1\/CM r):∀n,(∀q∈Yd (l.take n),CM q)/\(Yd (l.take n)).length<=n:=by
 intro n
 induction n with
 |zero=>exact⟨λq hq=>absurd hq (by simp[Yd]),by simp[Yd]⟩
 |succ n ih=>
  by_cases aU:n<l.length
  ·obtain⟨r,hr⟩:∃r,l[n]?=some r:=⟨_,zah aU⟩
   rw[am0 hr];refine⟨ay9 ih.1 (h r (zag hr)),?_⟩;generalize Yd (l.take n)=acc at*;by_cases hs:r.s= -1
   ·unfold cg;rw[if_pos hs];omega
   rcases zcT acc with rfl|⟨p,q,rfl⟩
   ·rw[aac hs];simp
   ·rw[zcU]at ih ⊢;rw[Sj hs];have:=ih.2;simp only[zad,zbM]at this;split<;>simp<;>omega
  ·rw[za1 ab];rw[za1 ab]at ih;exact⟨ih.1,ab⟩
def H7(ps:List PV)(r:RV):Prop:=∃(v:Vo) (i:Int) (a:At),ps=[v.pv,pI i]/\(0<=i/\v.st.l[i.toNat]?=some a/\a.rn.l.length<=100000∧∀r∈a.rn.l,r.s= -1\/CM r)/\r=.fresh 37 2 ((Yd a.rn.l).map Rn.pv)
set_option maxHeartbeats 2000000 in
def afX:MT (ay []) AT (c8 true H7):=by
 rintro _ K ⟨_,⟨v,i,a,rfl,⟨h0,ha,h1,h2⟩,rfl⟩,hK⟩;obtain⟨d,s⟩:=v;simp only at ha;have qH:D4 s=.sl 11 (s.l.map At.pv):=by
  cases s with
  |nil=>cases ha
  |sl l=>rfl
 have Nl:(s.l.map At.pv)[i.toNat]?=some a.pv:=by rw[za9,ha];rfl
 have gJ:(a.rn.l.map Rn.pv).length=a.rn.l.length:=zaw _;have hv:Vo.pv ⟨d,s⟩=.agg [.str d.a_,.str d.mp,.sl 11 (s.l.map At.pv)]:=by unfold Vo.pv;rw[qH]
 rw[hv]
 (repeat'((conv=>whnf);first|refine⟨_,⟨h0,Nl⟩,?_⟩|refine KP ?_|refine dq λ_=>?_|fail))<;>try(conv=>whnf)
 refine⟨λm env σ=>∃n:Nat,n+m=a.rn.l.length/\σ=[.row 37 2 true ((Yd (a.rn.l.take n)).map Rn.pv)]/\env=[(5,.own 0),(15,.pv (qF a.rn)),eN 16 a.rn.l.length,eN 17 n],a.rn.l.length,⟨0,ab,rfl,rfl⟩,?_⟩;rintro m env σ ⟨n,hn,rfl,rfl⟩;by_cases aU:n<a.rn.l.length
 case neg=>
  (repeat'((conv=>whnf);first|refine aw ab ?_|fail))<;>try(conv=>whnf)
  rw[za1 ab];exact vj
 obtain⟨r,hr⟩:∃r,a.rn.l[n]?=some r:=⟨_,zah aU⟩
 have c_:qF a.rn=.sl 2 (a.rn.l.map Rn.pv):=by
  cases h:a.rn with
  |nil=>rw[h]at hr;cases hr
  |sl l=>rfl
 have JA:=h2 r (zag hr);have ht:=am0 hr;obtain⟨hb,Gn⟩:=arw h2 n;generalize Yd (a.rn.l.take n)=acc at*;have kf:(acc.map Rn.pv).length=acc.length:=zaw _;rw[c_];by_cases hs:r.s= -1
 ·have e:cg acc r=acc:=by unfold cg;rw[if_pos hs]
  (repeat'((conv=>whnf);first|refine au ab ?_|refine bj ab ?_|refine dq λ_=>?_|refine iY aA ?_|refine bT ?_|fail))<;>try(conv=>whnf)
  exact⟨m-1,ab,n+1,ab,by rw[ht,e],rfl⟩
 have JA:=JA.resolve_left hs;unfold CM at JA;rcases zcT acc with rfl|⟨p,q,rfl⟩
 ·rw[aac hs]at ht
  (repeat'((conv=>whnf);first|refine au ab ?_|refine aw hs ?_|refine zcd (by simp;first|done|fail) ?_|refine bj ab ?_|refine aw ao ?_|refine dq λ_=>?_|refine iY aA ?_|refine bT ?_|fail))<;>try(conv=>whnf)
  exact⟨m-1,ab,n+1,ab,by rw[ht];rfl,rfl⟩
 ·simp only[zcU]at*;rw[Sj hs]at ht;have hq:=hb q aj;unfold CM at hq;have qG:(p++[q]).length=p.length+1:=aj;have XM:(((p++[q]).length:Int)-1).toNat=p.length:=ab;have fc:((p++[q]).map Rn.pv)[(((p++[q]).length:Int)-1).toNat]?=some q.pv:=by
   rw[XM,za9,zak (zai _),zcH];rfl
  have Jq:∀x:Rn,((p++[q]).map Rn.pv).set (((p++[q]).length:Int)-1).toNat x.pv=(p++[x]).map Rn.pv:=λx=>by
   rw[XM,zbs,zcY _ _ aj];simp
  (repeat'((conv=>whnf);first|refine au ab ?_|refine aw hs ?_|refine zcd ⟨ab,ab⟩ ?_|refine⟨_,fc,?_⟩|refine bj ab ?_|refine de (λ_=>?_) (λ_=>?_)|refine dq λ_=>?_|refine iY aA ?_|refine bT ?_|refine zcd cu ?_|fail))<;>try(conv=>whnf)
  ·rename_i x;rw[if_pos x]at ht;exact⟨m-1,ab,n+1,ab,by rw[ht];exact congrArg (λy=>[dC.row 37 2 true y]) (Jq ⟨q.s,q.n+r.n⟩),rfl⟩
  ·rename_i x;rw[if_neg x]at ht;exact⟨m-1,ab,n+1,ab,by rw[ht,zbs (l₂:=[r])];rfl,rfl⟩
section
def Vh(acc:List Rn)(c:Int):List Rn:=match acc.getLast? with
 |some q=>if q.s+q.n=c then acc.dropLast++[⟨q.s,q.n+1⟩]else acc++[⟨c,1⟩]
 |none=>acc++[⟨c,1⟩]
def Hu(c:Int):Vh [] c=[⟨c,1⟩]:=rfl
def xw(p:List Rn)(q:Rn)(c:Int):Vh (p++[q]) c=if q.s+q.n=c then p++[⟨q.s,q.n+1⟩]else p++[q]++[⟨c,1⟩]:=by
 unfold Vh;rw[zdq,zc9];simp only[zdz,zdA,zc6]
open Classical in
noncomputable def ae(P:Nat->Prop):Nat->List Rn
 |0=>[]
 |n+1=>if P n then Vh (ae P n) n else ae P n
def N0{P:Nat->Prop}{n:Nat}(h:P n):ae P (n+1)=Vh (ae P n) n:=if_pos h
def GJ{P:Nat->Prop}{n:Nat}(h:¬P n):ae P (n+1)=ae P n:=if_neg h
def ah9(P:Nat->Prop)(n:Nat):(∀q∈ae P n,0<=q.s/\1<=q.n/\q.s+q.n<=n)/\(ae P n).length<=n:=by
 induction n with
 |zero=>exact⟨λq hq=>absurd hq (by simp[ae]),by simp[ae]⟩
 |succ n ih=>
  by_cases h:P n
  ·rw[N0 h];generalize ae P n=acc at*;rcases zcT acc with rfl|⟨p,q,rfl⟩
   ·rw[Hu];refine⟨λq hq=>?_,aj⟩;rw[zcS]at hq;subst hq;simp only;omega
   ·simp only[zcU]at*;have hq:=ih.1 q aj;rw[xw];split
    ·rename_i e;refine⟨λx hx=>?_,by have:=ih.2;simp at this ⊢;omega⟩;rcases zaA.1 hx with hx|hx
     ·have:=ih.1 x iP;omega
     ·rw[zcS]at hx;subst hx;simp only;omega
    ·refine⟨λx hx=>?_,by have:=ih.2;simp at this ⊢;omega⟩;rcases zaA.1 hx with hx|hx
     ·have:=ih.1 x hx;omega
     ·rw[zcS]at hx;subst hx;simp only;omega
  ·rw[GJ h];exact⟨λq hq=>by have:=ih.1 q hq;omega,ab⟩
inductive aw8:PV->(Int->Prop)->Prop where
 |any:aw8 (.clo 77 []) λ_=>True
 |out (t:Rn) (h:(-1000000<=t.s/\t.s<=1000000)/\(-1000000<=t.n/\t.n<=1000000)):aw8 (.clo 103 [.cptr t.pv]) λc=>¬(t.s<=c/\c<=t.s+t.n-1)
def amX(ps:List PV)(p:Prop):Prop:=∃c:Int,ps=[pI c]/\p=True
def agR:MT (ay []) NU (bF amX):=by
 rintro _ K ⟨_,⟨c,rfl,rfl⟩,hK⟩
 (conv=>whnf)
 exact⟨.pv (.bool _),rfl,trivial,hK _ aj⟩
def ajL(ps:List PV)(p:Prop):Prop:=∃(c:Int) (t:Rn),ps=[pI c,.cptr t.pv]/\((-1000000<=t.s/\t.s<=1000000)/\(-1000000<=t.n/\t.n<=1000000))/\p=¬(t.s<=c/\c<=t.s+t.n-1)
def XI:MT (ay [(92,bF bG)]) Dm (bF ajL):=by
 rintro _ K ⟨_,⟨c,t,rfl,h,rfl⟩,hK⟩
 (repeat'((conv=>whnf);first|refine⟨_,⟨_,_,_,rfl,rfl⟩,?_⟩|refine bj ab ?_|refine aN ?_|refine bP ?_|refine de (λ_=>?_) (λ_=>?_)|fail))<;>try(conv=>whnf)
 all_goals exact YS
end
def akO:∀(l:List At) (o:List Int) (i:Int),(ac5 o i l).length=o.length
 |[],o,i=>rfl
 |a::r,o,i=>by
  show(ac5 ((Wi o i (xM a.rn.l)).getD o) (i+1) r).length=o.length;rw[akO r];cases h:Wi o i (xM a.rn.l)with
  |none=>rfl
  |some o'=>exact aeB _ h
def yx(v:Vo):(cf v).length=v.d.n:=by unfold cf;rw[akO,ads]
def aqZ(v:Vo)(Q:Int->Prop)(c:Nat):Prop:=(cf v)[c]?=some (-1)/\Q c
def aeM(ps:List PV)(r:RV):Prop:=∃(v:Vo) (F:PV) (Q:Int->Prop),ps=[v.pv,F]/\(U1 v/\aw8 F Q)/\r=.fresh 37 2 ((ae (aqZ v Q) (cf v).length).map Rn.pv)
set_option maxHeartbeats 4000000 in
def akP:MT (ay [(75,c8 true HB),(77,bF amX),(103,bF ajL)]) Ey (c8 true aeM):=by
 rintro _ K ⟨_,⟨v,F,Q,rfl,⟨hv,hF⟩,rfl⟩,hK⟩;have hw:HB [v.pv] _:=⟨v,rfl,hv,rfl⟩
 have B8:(cf v).length<=1000000:=by rw[yx];have:=hv.b.1.1;unfold Dk.n;omega
 have awp:∀n,aqZ v Q n↔(cf v)[n]?=some (-1)/\Q n:=λn=>Iff.rfl
 generalize aqZ v Q=P at*;generalize cf v=O at*;have Cf:(O.map pI).length=O.length:=zaw _;rcases hF with _|⟨t,zM⟩
 ·have hq:∀n:Nat,amX [pI n] True:=λn=>⟨n,rfl,rfl⟩
  (repeat'((conv=>whnf);first|refine⟨_,hw,?_⟩|refine dq λ_=>?_|fail))<;>try(conv=>whnf)
  refine⟨λm env σ=>∃n:Nat,n+m=O.length/\σ=[.row 37 2 true ((ae P n).map Rn.pv),.row 3 1 true (O.map pI)]/\env=[(1,.pv (.clo 77 [])),(5,.own 0),(10,.own 1),eN 11 O.length,eN 12 n],O.length,⟨0,ab,rfl,rfl⟩,?_⟩;rintro m env σ ⟨n,hn,rfl,rfl⟩;by_cases aU:n<O.length
  case neg=>
   (repeat'((conv=>whnf);first|refine aw ab ?_|fail))<;>try(conv=>whnf)
   have:n=O.length:=ab;subst this;exact vj
  obtain⟨x,hx⟩:∃x,O[n]?=some x:=⟨_,zah aU⟩
  have Wk:(O.map pI)[(n:Int).toNat]?=some (pI x):=by rw[zaC,za9,hx];rfl
  have Z6:P n↔x= -1/\True:=by
   rw[awp];constructor
   ·rintro⟨h1,h2⟩;rw[hx]at h1;cases h1;exact⟨rfl,h2⟩
   ·rintro⟨h1,h2⟩;subst h1;exact⟨hx,h2⟩
  have rD:=hq n;obtain⟨hb,Gn⟩:=ah9 P n;by_cases I_:x= -1
  case neg=>
   have ht:=GJ (P:=P) (n:=n) λh=>I_ (Z6.1 h).1
   generalize ae P n=acc at*
   (repeat'((conv=>whnf);first|refine au ab ?_|refine zcd ⟨ab,ab⟩ ?_|refine⟨_,Wk,?_⟩|refine bj ab ?_|fail))<;>try(conv=>whnf)
   exact⟨m-1,ab,n+1,ab,by rw[ht],rfl⟩
  by_cases hQ:True
  case neg=>
   have ht:=GJ (P:=P) (n:=n) λh=>hQ (Z6.1 h).2
   generalize ae P n=acc at*
   (repeat'((conv=>whnf);first|refine au ab ?_|refine zcd ⟨ab,ab⟩ ?_|refine⟨_,Wk,?_⟩|refine aw (λh=>h I_) ?_|refine⟨_,rD,?_⟩|refine aw hQ ?_|refine bj ab ?_|refine bP ?_|fail))<;>try(conv=>whnf)
   exact⟨m-1,ab,n+1,ab,by rw[ht],rfl⟩
  have ht:=N0 (P:=P) (n:=n) (Z6.2 ⟨I_,hQ⟩);generalize ae P n=acc at*;rcases zcT acc with rfl|⟨p,q,rfl⟩
  ·rw[Hu]at ht
   (repeat'((conv=>whnf);first|refine au ab ?_|refine zcd ⟨ab,ab⟩ ?_|refine⟨_,Wk,?_⟩|refine aw (λh=>h I_) ?_|refine⟨_,rD,?_⟩|refine zcd (by simp;first|done|fail) ?_|refine bj ab ?_|refine aN ?_|refine aw ao ?_|refine dq λ_=>?_|refine bT ?_|fail))<;>try(conv=>whnf)
   exact⟨m-1,ab,n+1,ab,by rw[ht];rfl,rfl⟩
  ·simp only[zcU]at*;rw[xw]at ht;have hq2:=hb q aj;have qG:(p++[q]).length=p.length+1:=aj;have XM:(((p++[q]).length:Int)-1).toNat=p.length:=ab;have kf:((p++[q]).map Rn.pv).length=(p++[q]).length:=zaw _;have fc:((p++[q]).map Rn.pv)[(((p++[q]).length:Int)-1).toNat]?=some q.pv:=by
    rw[XM,za9,zak (zai _),zcH];rfl
   have Jq:∀x:Rn,((p++[q]).map Rn.pv).set (((p++[q]).length:Int)-1).toNat x.pv=(p++[x]).map Rn.pv:=λx=>by
    rw[XM,zbs,zcY _ _ aj];simp
   (repeat'((conv=>whnf);first|refine au ab ?_|refine zcd ⟨ab,ab⟩ ?_|refine⟨_,Wk,?_⟩|refine aw (λh=>h I_) ?_|refine⟨_,rD,?_⟩|refine⟨_,fc,?_⟩|refine bj ab ?_|refine aN ?_|refine de (λ_=>?_) (λ_=>?_)|refine dq λ_=>?_|refine bT ?_|refine zcd cu ?_|fail))<;>try(conv=>whnf)
   ·rename_i y;rw[if_pos y]at ht;exact⟨m-1,ab,n+1,ab,by rw[ht];exact congrArg (λy=>[dC.row 37 2 true y,_]) (Jq ⟨q.s,q.n+1⟩),rfl⟩
   ·rename_i y;rw[if_neg y]at ht;exact⟨m-1,ab,n+1,ab,by rw[ht,zbs (l₁:=p++[q]) (l₂:=[⟨(n:Int),1⟩])];rfl,rfl⟩
 ·have hq:∀n:Nat,ajL [pI n,.cptr t.pv] (¬(t.s<=n/\(n:Int)<=t.s+t.n-1)):=λn=>⟨n,t,rfl,zM,rfl⟩
  (repeat'((conv=>whnf);first|refine⟨_,hw,?_⟩|refine dq λ_=>?_|fail))<;>try(conv=>whnf)
  refine⟨λm env σ=>∃n:Nat,n+m=O.length/\σ=[.row 37 2 true ((ae P n).map Rn.pv),.row 3 1 true (O.map pI)]/\env=[(1,.pv (.clo 103 [.cptr t.pv])),(5,.own 0),(10,.own 1),eN 11 O.length,eN 12 n],O.length,⟨0,ab,rfl,rfl⟩,?_⟩;rintro m env σ ⟨n,hn,rfl,rfl⟩;by_cases aU:n<O.length
  case neg=>
   (repeat'((conv=>whnf);first|refine aw ab ?_|fail))<;>try(conv=>whnf)
   have:n=O.length:=ab;subst this;exact vj
  obtain⟨x,hx⟩:∃x,O[n]?=some x:=⟨_,zah aU⟩
  have Wk:(O.map pI)[(n:Int).toNat]?=some (pI x):=by rw[zaC,za9,hx];rfl
  have Z6:P n↔x= -1∧¬(t.s<=n/\(n:Int)<=t.s+t.n-1):=by
   rw[awp];constructor
   ·rintro⟨h1,h2⟩;rw[hx]at h1;cases h1;exact⟨rfl,h2⟩
   ·rintro⟨h1,h2⟩;subst h1;exact⟨hx,h2⟩
  have rD:=hq n;obtain⟨hb,Gn⟩:=ah9 P n;by_cases I_:x= -1
  case neg=>
   have ht:=GJ (P:=P) (n:=n) λh=>I_ (Z6.1 h).1
   generalize ae P n=acc at*
   (repeat'((conv=>whnf);first|refine au ab ?_|refine zcd ⟨ab,ab⟩ ?_|refine⟨_,Wk,?_⟩|refine bj ab ?_|fail))<;>try(conv=>whnf)
   exact⟨m-1,ab,n+1,ab,by rw[ht],rfl⟩
  by_cases hQ:¬(t.s<=n/\(n:Int)<=t.s+t.n-1)
  case neg=>
   have ht:=GJ (P:=P) (n:=n) λh=>hQ (Z6.1 h).2
   generalize ae P n=acc at*
   (repeat'((conv=>whnf);first|refine au ab ?_|refine zcd ⟨ab,ab⟩ ?_|refine⟨_,Wk,?_⟩|refine aw (λh=>h I_) ?_|refine⟨_,rD,?_⟩|refine aw hQ ?_|refine bj ab ?_|refine bP ?_|fail))<;>try(conv=>whnf)
   exact⟨m-1,ab,n+1,ab,by rw[ht],rfl⟩
  have ht:=N0 (P:=P) (n:=n) (Z6.2 ⟨I_,hQ⟩);generalize ae P n=acc at*;rcases zcT acc with rfl|⟨p,q,rfl⟩
  ·rw[Hu]at ht
   (repeat'((conv=>whnf);first|refine au ab ?_|refine zcd ⟨ab,ab⟩ ?_|refine⟨_,Wk,?_⟩|refine aw (λh=>h I_) ?_|refine⟨_,rD,?_⟩|refine zcd (by simp;first|done|fail) ?_|refine bj ab ?_|refine aN ?_|refine aw ao ?_|refine dq λ_=>?_|refine bT ?_|fail))<;>try(conv=>whnf)
   exact⟨m-1,ab,n+1,ab,by rw[ht];rfl,rfl⟩
  ·simp only[zcU]at*;rw[xw]at ht;have hq2:=hb q aj;have qG:(p++[q]).length=p.length+1:=aj;have XM:(((p++[q]).length:Int)-1).toNat=p.length:=ab;have kf:((p++[q]).map Rn.pv).length=(p++[q]).length:=zaw _;have fc:((p++[q]).map Rn.pv)[(((p++[q]).length:Int)-1).toNat]?=some q.pv:=by
    rw[XM,za9,zak (zai _),zcH];rfl
   have Jq:∀x:Rn,((p++[q]).map Rn.pv).set (((p++[q]).length:Int)-1).toNat x.pv=(p++[x]).map Rn.pv:=λx=>by
    rw[XM,zbs,zcY _ _ aj];simp
   (repeat'((conv=>whnf);first|refine au ab ?_|refine zcd ⟨ab,ab⟩ ?_|refine⟨_,Wk,?_⟩|refine aw (λh=>h I_) ?_|refine⟨_,rD,?_⟩|refine⟨_,fc,?_⟩|refine bj ab ?_|refine aN ?_|refine de (λ_=>?_) (λ_=>?_)|refine dq λ_=>?_|refine bT ?_|refine zcd cu ?_|fail))<;>try(conv=>whnf)
   ·rename_i y;rw[if_pos y]at ht;exact⟨m-1,ab,n+1,ab,by rw[ht];exact congrArg (λy=>[dC.row 37 2 true y,_]) (Jq ⟨q.s,q.n+1⟩),rfl⟩
   ·rename_i y;rw[if_neg y]at ht;exact⟨m-1,ab,n+1,ab,by rw[ht,zbs (l₁:=p++[q]) (l₂:=[⟨(n:Int),1⟩])];rfl,rfl⟩
section
def Np(ps:List PV)(r:RV):Prop:=∃s:Sl At,ps=[D4 s]/\s.l.length<=100000/\r=.fresh 41 11 (s.l.map At.pv)
def ajh:MT (ay []) dc (c8 false Np):=by
 rintro _ K ⟨_,⟨s,rfl,h,rfl⟩,hK⟩;cases s with
 |nil=>
  (conv=>whnf)
  exact⟨.fresh _ _ _,⟨rfl,rfl,rfl,rfl⟩,trivial,hK⟩
 |sl l=>
  have hl:(l.map At.pv).length<=100000:=by rw[zaw];exact h
  have aJO:([]:List PV)++l.map At.pv=l.map At.pv:=zaZ _
  (conv=>whnf)
  refine λb hb=>?_
  cases b with
  |true=>
   have hl:l=[]:=by
    cases l with
    |nil=>rfl
    |cons x r=>exact absurd (hb aj) ao
   subst hl
   (conv=>whnf)
   exact⟨.fresh _ _ _,⟨rfl,rfl,rfl,rfl⟩,trivial,hK⟩
  |false=>
   (repeat'((conv=>whnf);first|refine zcd (by simp only[zaY,Nat.zero_add];omega) ?_|refine bT ?_|fail))<;>try(conv=>whnf)
   exact⟨.fresh _ _ _,⟨rfl,rfl,rfl,rfl⟩,trivial,hK⟩
def iO(v:Vo)(d:Dk)(i:Nat)(a:At):Vo:=⟨d,.sl (v.st.l.set i a)⟩
def GC(ps:List PV)(r:RV):Prop:=∃(v:Vo) (d:Dk) (i:Int) (a:At),ps=[v.pv,d.pv,pI i,a.pv]/\((0<=i/\i.toNat<v.st.l.length)/\v.st.l.length<=100000)/\r=.pv (iO v d i.toNat a).pv
def amd:MT (ay [(134,c8 false Np)]) D3 (c8 false GC):=by
 rintro _ K ⟨_,⟨v,d,i,a,rfl,⟨⟨h1,h2⟩,h3⟩,rfl⟩,hK⟩;have hc:Np [D4 v.st] _:=⟨v.st,rfl,h3,rfl⟩
 have hl:(v.st.l.map At.pv).length=v.st.l.length:=zaw _;obtain⟨b,hb⟩:∃b,v.st.l[i.toNat]?=some b:=⟨_,zah h2⟩
 have hg:(v.st.l.map At.pv)[i.toNat]?=some b.pv:=by rw[za9,hb];rfl
 have hs:(v.st.l.map At.pv).set i.toNat a.pv=(v.st.l.set i.toNat a).map At.pv:=by rw[zc1]
 (repeat'((conv=>whnf);first|refine⟨_,hc,?_⟩|refine zcd ⟨ab,ab⟩ ?_|refine⟨_,hg,?_⟩|refine bT ?_|fail))<;>try(conv=>whnf)
 have e:(iO v d i.toNat a).pv=.agg [.str d.a_,.str d.mp,.sl 11 ((v.st.l.map At.pv).set i.toNat a.pv)]:=by rw[hs];rfl
 rw[e]at hK;exact FI
structure Mv where
 k:Int
 p:Int
 t:Rn
def Mv.pv(m:Mv):PV:=.agg [pI m.k,pI m.p,pI m.t.s,pI m.t.n]
def OI(s:Sl Mv):PV:=Sl.pv Mv.pv 4 s
def ni(v:Vo)(k:Int):At:=v.st.l[k.toNat]?.getD zA
open Classical in
noncomputable def ub(v:Vo)(m:Mv):Int:=if ¬(0<=m.k/\m.k<=(v.st.l.length:Int)-1)then 6 else dJ v.d (ni v m.k) m.p m.t
noncomputable def nX(v:Vo)(m:Mv):Vo:=if ub v m≠0 then v else iO v (jM v.d (ni v m.k) m.p m.t) m.k.toNat (jG v.d (ni v m.k) m.p m.t)
def eV(v:Vo):Prop:=wU v.d/\v.st.l.length<=100000∧∀a∈v.st.l,a.nm.length<=1000000
def Lq(ps:List PV)(r:RV):Prop:=∃(v:Vo) (m:Mv),ps=[v.pv,m.pv]/\eV v/\r=.tup [.pv (nX v m).pv,.pv (pI (ub v m))]
set_option maxHeartbeats 2000000 in
def akA:MT (ay [(92,bF bG),(101,c8 false Lr),(100,c8 false GC)]) Cb (c8 false Lq):=by
 rintro _ K ⟨_,⟨v,m,rfl,⟨h1,h2,h3⟩,rfl⟩,hK⟩;have hl:(v.st.l.map At.pv).length=v.st.l.length:=zaw _;by_cases hk:0<=m.k/\m.k<=(v.st.l.length:Int)-1
 case neg=>
  have e1:ub v m=6:=by unfold ub;rw[if_pos hk]
  have e2:nX v m=v:=by unfold nX;rw[e1,if_pos ao]
  rw[e1,e2]at hK
  (repeat'((conv=>whnf);first|refine KP ?_|refine⟨_,⟨_,_,_,rfl,rfl⟩,?_⟩|refine aw ab ?_|refine bj ab ?_|refine bP ?_|refine dq λ_=>?_|refine bT ?_|fail))<;>try(conv=>whnf)
  exact⟨[.pv v.pv,.pv (pI 6)],⟨rfl,rfl,trivial⟩,trivial,hK⟩
 obtain⟨b,hb⟩:∃b,v.st.l[m.k.toNat]?=some b:=⟨_,zah ab⟩
 have qH:D4 v.st=.sl 11 (v.st.l.map At.pv):=by
  cases h:v.st with
  |nil=>rw[h]at hb;cases hb
  |sl l=>rfl
 have hg:(v.st.l.map At.pv)[m.k.toNat]?=some b.pv:=by rw[za9,hb];rfl
 have uk:Lr [v.d.pv,b.pv,pI m.p,m.t.pv] _:=⟨v.d,b,m.p,m.t,rfl,⟨h1,h3 b (zag hb)⟩,rfl⟩
 have e0:ni v m.k=b:=by unfold ni;rw[hb];rfl
 have e1:ub v m=dJ v.d b m.p m.t:=by unfold ub;rw[if_neg (λh=>h hk),e0]
 have e2:nX v m=if dJ v.d b m.p m.t≠0 then v else iO v (jM v.d b m.p m.t) m.k.toNat (jG v.d b m.p m.t):=by unfold nX;rw[e1,e0]
 have hwi:GC [v.pv,(jM v.d b m.p m.t).pv,pI m.k,(jG v.d b m.p m.t).pv] _:=⟨v,_,m.k,_,rfl,⟨⟨hk.1,ab⟩,h2⟩,rfl⟩
 have hv:v.pv=.agg [.str v.d.a_,.str v.d.mp,.sl 11 (v.st.l.map At.pv)]:=by unfold Vo.pv;rw[qH]
 rw[e1,e2]at hK;rw[hv]at hwi;rw[hv];clear e0 e1 e2;generalize dJ v.d b m.p m.t=E at*;generalize jM v.d b m.p m.t=D at*;generalize jG v.d b m.p m.t=A at*;by_cases hE:E=0
 ·rw[if_neg (λh=>h hE)]at hK
  (repeat'((conv=>whnf);first|refine⟨_,⟨_,_,_,rfl,rfl⟩,?_⟩|refine au hk ?_|refine⟨_,⟨hk.1,hg⟩,?_⟩|refine⟨_,uk,?_⟩|refine aw (λh=>h hE) ?_|refine⟨_,hwi,?_⟩|refine bj ab ?_|refine aN ?_|refine dq λ_=>?_|refine bT ?_|fail))<;>try(conv=>whnf)
  rw[hE]at hK;exact⟨[.pv (iO v D m.k.toNat A).pv,.pv (pI 0)],⟨rfl,rfl,trivial⟩,trivial,hK⟩
 ·rw[if_pos hE]at hK
  (repeat'((conv=>whnf);first|refine⟨_,⟨_,_,_,rfl,rfl⟩,?_⟩|refine au hk ?_|refine⟨_,⟨hk.1,hg⟩,?_⟩|refine⟨_,uk,?_⟩|refine au hE ?_|refine bj ab ?_|refine aN ?_|refine dq λ_=>?_|refine bT ?_|fail))<;>try(conv=>whnf)
  rw[hv]at hK;exact⟨[.pv _,.pv (pI E)],⟨rfl,rfl,trivial⟩,trivial,hK⟩
end
def Zv{d:Dk}{a:At}{p:Int}{t:Rn}(h:dJ d a p t=0):aK d a=0:=by
 unfold dJ at h;split at h
 ·rename_i g;exact sF
 ·rename_i g;exact K6
def azb{v:Vo}(h:eV v)(m:Mv):eV (nX v m):=by
 by_cases he:ub v m=0
 case neg=>unfold nX;rw[if_pos he];exact h
 have e:nX v m=iO v (jM v.d (ni v m.k) m.p m.t) m.k.toNat (jG v.d (ni v m.k) m.p m.t):=by unfold nX;rw[if_neg (λg=>g he)]
 rw[e];have hk:0<=m.k/\m.k<=(v.st.l.length:Int)-1:=by
  apply Classical.byContradiction;intro g;unfold ub at he;rw[if_pos g]at he;exact absurd he ao
 have hm:dJ v.d (ni v m.k) m.p m.t=0:=by unfold ub at he;rw[if_neg (λg=>g hk)]at he;exact he
 obtain⟨b,hb⟩:∃b,v.st.l[m.k.toNat]?=some b:=⟨_,zah ab⟩
 have eb:ni v m.k=b:=by unfold ni;rw[hb];rfl
 rw[eb]at hm ⊢;have hn:=h.2.2 b (zag hb);have ml:=aBQ (Zv hm) h.1 hn hm;refine⟨?_,by show(v.st.l.set _ _).length<=_;rw[za0];exact h.2.1,λa ha=>?_⟩
 ·show wU (jM v.d b m.p m.t);rw[ml.D];exact atK ml.op ml.len.symm h.1
 ·rcases zc8 (show a∈v.st.l.set _ _ from ha)with ha|rfl
  ·exact h.2.2 a ha
  ·rw[ml.A];exact hn
noncomputable def PU(v:Vo)(i:Int):List Mv->Vo×Int×Int
 |[]=>(v,0,0)
 |m::r=>if ub v m≠0 then(v,i,ub v m)else PU (nX v m) (i+1) r
def fq(v:Vo):dC:=.box 110 [.pv (.str v.d.a_),.pv (.str v.d.mp),.pv (D4 v.st)]
def aqr(xs:List AV)(σ:aF)(K:AV->aF->Prop):Prop:=∃(v:Vo) (m:Mv) (i:Int),xs=[.pv (pI i),.pv m.pv,.ref 0 0 0]/\eV v/\σ=[fq v]/\K (.pv (pI (ub v m))) [fq (nX v m)]
def aq6:gO (ay [(99,c8 false Lq)]) Br (sB aqr):=by
 rintro _ _ K ⟨v,m,i,rfl,h,rfl,hK⟩;have hm:Lq [v.pv,m.pv] _:=⟨v,m,rfl,h,rfl⟩
 unfold fq at*
 (repeat'((conv=>whnf);first|refine⟨_,hm,?_⟩|refine bT ?_|fail))<;>try(conv=>whnf)
 exact hK
def akD(xs:List AV)(σ:aF)(K:AV->aF->Prop):Prop:=∃(v:Vo) (s:Sl Mv),xs=[.pv (OI s),.clo 192 [.ref 0 0 0]]/\(eV v/\s.l.length<=1000000)/\σ=[fq v]/\K (.tup [.pv (pI (PU v 0 s.l).2.1),.pv (pI (PU v 0 s.l).2.2)]) [fq (PU v 0 s.l).1]
set_option maxHeartbeats 2000000 in
def alp:gO (ay [(192,sB aqr)]) jR (sB akD):=by
 rintro _ _ K ⟨v,s,rfl,⟨h1,h2⟩,rfl,hK⟩;have gJ:(s.l.map Mv.pv).length=s.l.length:=zaw _
 (repeat'((conv=>whnf);first|refine KP ?_|refine dq λ_=>?_|fail))<;>try(conv=>whnf)
 refine⟨λm env σ=>∃(n:Nat) (w:Vo),(n+m=s.l.length/\eV w/\PU v 0 s.l=PU w n (s.l.drop n))/\σ=[fq w]/\
  env=[(1,.clo 192 [.ref 0 0 0]),(9,.pv (OI s)),eN 10 s.l.length,eN 11 n],s.l.length,⟨0,v,⟨ab,h1,rfl⟩,rfl,rfl⟩,?_⟩
 rintro m env σ ⟨n,w,⟨hn,hw,hg⟩,rfl,rfl⟩;by_cases aU:n<s.l.length
 ·obtain⟨a,ha⟩:∃a,s.l[n]?=some a:=⟨_,zah aU⟩
  have qH:OI s=.sl 4 (s.l.map Mv.pv):=by
   cases s with
   |nil=>cases ha
   |sl l=>rfl
  rw[drop_cons ha]at hg;have mU:PU w n (a::s.l.drop (n+1))=if ub w a≠0 then(w,(n:Int),ub w a)else PU (nX w a) (n+1) (s.l.drop (n+1)):=rfl;rw[mU]at hg;rw[qH]
  (repeat'((conv=>whnf);first|refine au ab ?_|(refine fe ?_;first|refine bj ab ?_|refine de (λ_=>?_) (λ_=>?_)|refine iY aA ?_|refine bT ?_|refine⟨_,_,_,rfl,dY,?_⟩|fail)))<;>try(conv=>whnf)
  ·rename_i he;rw[if_pos he]at hg;rw[hg]at hK;have e:nX w a=w:=by unfold nX;rw[if_pos he]
   rw[e];exact hK
  ·rename_i he;rw[if_neg he]at hg;exact⟨m-1,ab,n+1,nX w a,⟨ab,azb hw a,by rw[zdc];exact hg⟩,rfl,rfl⟩
 ·(repeat'((conv=>whnf);first|refine aw ab ?_|fail))<;>try(conv=>whnf)
  rw[zcX ab]at hg;rw[hg]at hK;exact hK
def apP(ps:List PV)(r:RV):Prop:=∃(v:Vo) (s:Sl Mv),ps=[v.pv,OI s]/\(eV v/\s.l.length<=1000000)/\r=.tup [.pv (PU v 0 s.l).1.pv,.pv (pI (PU v 0 s.l).2.1),.pv (pI (PU v 0 s.l).2.2)]
def aqX:MT (ay [(192,sB aqr),(191,sB akD)]) JB (c8 false apP):=by
 rintro _ K ⟨_,⟨v,s,rfl,⟨h1,h2⟩,rfl⟩,hK⟩
 (repeat'(refine iM ?_;first|refine bT ?_|refine⟨_,_,rfl,dY,?_⟩|fail))<;>try(conv=>whnf)
 exact⟨[.pv (PU v 0 s.l).1.pv,.pv (pI _),.pv (pI _)],⟨rfl,rfl,rfl,trivial⟩,trivial,hK⟩
def bp(v:Vo):Vo:=⟨v.d,.sl (v.st.l.map aB)⟩
def Ks(ps:List PV)(r:RV):Prop:=∃v:Vo,ps=[v.pv]/\(v.st.l.length<=100000∧∀a∈v.st.l,a.rn.l.length<=1000000)/\r=.pv (bp v).pv
def NA(l:List At)(n:Nat):List At:=(l.take n).map aB++l.drop n
def aq9(l:List At)(n:Nat):(NA l n).length=l.length:=by unfold NA;simp;omega
def aqY{l:List At}{n:Nat}{a:At}(h:l[n]?=some a):(NA l n)[n]?=some a:=by
 have aU:=(zaa.1 h).1;unfold NA;rw[zak aH,zaB,<-h];congr 1;simp;omega
def aqy{l:List At}{n:Nat}{a:At}(h:l[n]?=some a):(NA l n).set n (aB a)=NA l (n+1):=by
 have aU:=(zaa.1 h).1;unfold NA;rw[zcY _ _ aH,drop_cons h,zck,h];have e:n-((l.take n).map aB).length=0:=aH;rw[e,List.set_cons_zero];simp
set_option maxHeartbeats 2000000 in
def aoy:MT (ay [(134,c8 false Np),(135,c8 true YI)]) H_ (c8 false Ks):=by
 rintro _ K ⟨_,⟨v,rfl,⟨h1,h2⟩,rfl⟩,hK⟩;have hc:Np [D4 v.st] _:=⟨v.st,rfl,h1,rfl⟩
 have gJ:(v.st.l.map At.pv).length=v.st.l.length:=zaw _
 (repeat'((conv=>whnf);first|refine⟨_,hc,?_⟩|refine dq λ_=>?_|refine bT ?_|fail))<;>try(conv=>whnf)
 refine⟨λm env σ=>∃n:Nat,n+m=v.st.l.length/\σ=[.box 26 [.pv (.str []),.pv (.str []),.pv (.nil 11)],.box 26 [.pv (.str v.d.a_),.pv (.str v.d.mp),.own 2],.row 41 11 true ((NA v.st.l n).map At.pv)]/\
  env=[(2,.ref 0 0 0),(3,.ref 1 0 0),(14,.own 2),eN 15 v.st.l.length,eN 16 n],v.st.l.length,⟨0,ab,by unfold NA;rfl,rfl⟩,?_⟩
 rintro m env σ ⟨n,hn,rfl,rfl⟩;by_cases aU:n<v.st.l.length
 case neg=>
  (repeat'((conv=>whnf);first|refine aw ab ?_|refine bT ?_|fail))<;>try(conv=>whnf)
  have e:NA v.st.l n=v.st.l.map aB:=by unfold NA;rw[za1 ab,zcX ab,zbf]
  rw[e];exact⟨.pv (bp v).pv,rfl,trivial,hK⟩
 obtain⟨a,ha⟩:∃a,v.st.l[n]?=some a:=⟨_,zah aU⟩
 have sS:=aq9 v.st.l n;have hg:=aqY ha;have hs:=aqy ha;generalize NA v.st.l n=L at*;have hgn:(L.map At.pv)[(n:Int).toNat]?=some a.pv:=by rw[zaC,za9,hg];rfl
 have Cj:(L.map At.pv).length=L.length:=zaw _;have Wo:YI [qF a.rn] _:=⟨a.rn,rfl,h2 a (zag ha),rfl⟩
 have LO:(L.map At.pv).set (n:Int).toNat (aB a).pv=(NA v.st.l (n+1)).map At.pv:=by rw[zaC,<-zc1,hs]
 (repeat'((conv=>whnf);first|refine au ab ?_|refine zcd ⟨ab,ab⟩ ?_|refine⟨_,hgn,?_⟩|refine⟨_,Wo,?_⟩|refine bj ab ?_|refine bT ?_|fail))<;>try(conv=>whnf)
 exact⟨m-1,ab,n+1,ab,by rw[<-LO];rfl,rfl⟩
noncomputable def Im(v:Vo)(s:Sl Mv):Int:=if (PU v 0 s.l).2.2≠0 then(PU v 0 s.l).2.2 else if s.l.length<=300 then 0 else 8
def M1(ps:List PV)(r:RV):Prop:=∃(v:Vo) (s:Sl Mv),ps=[v.pv,OI s]/\(eV v/\s.l.length<=1000000)/\r=.tup [.pv (if Im v s≠0 then .sl 4 []else OI s),.pv (pI (Im v s))]
set_option maxHeartbeats 2000000 in
def Uf:MT (ay [(139,c8 false apP),(68,ah dG),(66,ah gB)]) ru (c8 false M1):=by
 rintro _ K ⟨_,⟨v,s,rfl,⟨h1,h2⟩,rfl⟩,hK⟩;have hb:apP [v.pv,OI s] _:=⟨v,s,rfl,⟨h1,h2⟩,rfl⟩
 have gJ:(s.l.map Mv.pv).length=s.l.length:=zaw _;unfold Im at hK;generalize (PU v 0 s.l).2.2=E at*;by_cases he:E=0
 case neg=>
  rw[if_pos he,if_pos he]at hK
  (repeat'((conv=>whnf);first|refine⟨_,hb,?_⟩|refine KP ?_|(refine au (by rw[Cc _ he];exact he) ?_)|(refine fe ?_;first|refine de (λ_=>?_) (λ_=>?_)|refine dq λ_=>?_|refine bT ?_|refine⟨_,⟨_,_,rfl,rfl⟩,?_⟩|refine⟨_,⟨[_,_],rfl,rfl⟩,?_⟩|fail)))<;>try(conv=>whnf)
  all_goals
   rw[Cc _ he];exact⟨[.pv _,.pv (pI _)],⟨rfl,rfl,trivial⟩,trivial,hK⟩
 subst he;simp only[ne_eq,not_true_eq_false,if_false]at hK;by_cases hl:s.l.length<=300
 ·simp only[if_pos hl,not_true_eq_false,if_false]at hK
  (repeat'((conv=>whnf);first|refine⟨_,hb,?_⟩|refine KP ?_|refine au ab ?_|(refine aw (by rw[NO];exact λh=>h rfl) ?_)|(refine fe ?_;first|refine dq λ_=>?_|refine bT ?_|refine⟨_,⟨_,_,rfl,rfl⟩,?_⟩|refine⟨_,⟨[_,_],rfl,rfl⟩,?_⟩|fail)))<;>try(conv=>whnf)
  cases s with
  |nil=>exact⟨[.pv (OI .nil),.pv (pI 0)],⟨Or.inl rfl,rfl,trivial⟩,trivial,hK⟩
  |sl l=>exact⟨[.pv (OI (.sl l)),.pv (pI 0)],⟨rfl,rfl,trivial⟩,trivial,hK⟩
 ·simp only[if_neg hl,Int.reduceEq,not_false_eq_true,if_true]at hK
  (repeat'((conv=>whnf);first|refine⟨_,hb,?_⟩|refine KP ?_|refine aw ab ?_|(refine au (by rw[CB ao];decide) ?_)|(refine fe ?_;first|refine dq λ_=>?_|refine bT ?_|refine⟨_,⟨_,_,rfl,rfl⟩,?_⟩|refine⟨_,⟨[_,_],rfl,rfl⟩,?_⟩|fail)))<;>try(conv=>whnf)
  rw[CB ao];exact⟨[.pv _,.pv (pI 8)],⟨rfl,rfl,trivial⟩,trivial,hK⟩
def ar4{v:Vo}(hb:OS v)(h:wX v=0):eV v:=by
 have hv:=P0 hb h;exact⟨L0 hv.dk,by have:=hv.len;omega,hb.2.1⟩
def am4{d:Dk}:∀{l:List At} {o:List Int} {i:Int},(FH d o i l).2=0→∀a∈l,aK d a=0
 |[],_,_,_,a,ha=>absurd ha aj
 |b::l,o,i,h,a,ha=>by
  obtain⟨h0,o',_,h2⟩:=aeW h;rcases zax.1 ha with rfl|ha
  ·exact h0
  ·exact am4 h2 a ha
def U1.op{v:Vo}(h:U1 v):∀a∈v.st.l,aK v.d a=0:=am4 h.ch
def Zb(v:Vo):Prop:=eV v∧∀a∈v.st.l,dU a.rn.l=0
def acx{v:Vo}(hb:OS v)(h:wX v=0):Zb v:=⟨ar4 hb h,λa ha=>(bc ((P0 hb h).op a ha)).1.rn⟩
def Zb.own{v:Vo}(h:Zb v):v.st.l.length<=100000∧∀a∈v.st.l,a.rn.l.length<=1000000:=⟨h.1.2.1,λa ha=>by have:=(bZ (h.2 a ha)).1;omega⟩
def aql{v:Vo}(h:Zb v)(m:Mv):Zb (nX v m):=by
 refine⟨azb h.1 m,?_⟩;by_cases he:ub v m=0
 case neg=>unfold nX;rw[if_pos he];exact h.2
 have e:nX v m=iO v (jM v.d (ni v m.k) m.p m.t) m.k.toNat (jG v.d (ni v m.k) m.p m.t):=by unfold nX;rw[if_neg (λg=>g he)]
 rw[e];have hk:0<=m.k/\m.k<=(v.st.l.length:Int)-1:=by
  apply Classical.byContradiction;intro g;unfold ub at he;rw[if_pos g]at he;exact absurd he ao
 have hm:dJ v.d (ni v m.k) m.p m.t=0:=by unfold ub at he;rw[if_neg (λg=>g hk)]at he;exact he
 obtain⟨b,hb⟩:∃b,v.st.l[m.k.toNat]?=some b:=⟨_,zah ab⟩
 have eb:ni v m.k=b:=by unfold ni;rw[hb];rfl
 rw[eb]at hm ⊢;have ml:=aBQ (Zv hm) h.1.1 (h.1.2.2 b (zag hb)) hm;intro a ha;rcases zc8 (show a∈v.st.l.set _ _ from ha)with ha|rfl
 ·exact h.2 a ha
 ·rw[ml.A];exact(bc ml.op).1.rn
def TZ:Vo:=⟨⟨[],[]⟩,.nil⟩
def afQ{o o':List Int}{i:Int}{c:Nat}{r:List Nat}:Wi o i (c::r)=some o'↔o[c]?.getD 0<0/\Wi (o.set c i) i r=some o':=by
 have e:Wi o i (c::r)=if 0<=o[c]?.getD 0 then none else Wi (o.set c i) i r:=rfl
 rw[e];split
 ·exact⟨λh=>bV,λh=>ab⟩
 ·exact⟨λh=>⟨ab,h⟩,λh=>h.2⟩
def aad{o:List Int}{i:Int}{c x:Nat}(h:o[c]?.getD 0<0):(o.set c i)[x]?.getD 0=if x=c then i else o[x]?.getD 0:=by
 have aU:c<o.length:=by
  apply Classical.byContradiction;intro g;rw[zaK ab]at h;exact absurd h ao
 rw[zaS];by_cases hx:x=c
 ·subst hx;simp[aU]
 ·rw[if_neg (λg=>hx g.symm),if_neg hx]
def aa8{i:Int}:∀{cs:List Nat} {o o':List Int},Wi o i cs=some o'→∀x,o'[x]?.getD 0=if x∈cs then i else o[x]?.getD 0
 |[],o,o',h,x=>by cases h;simp
 |c::r,o,o',h,x=>by
  obtain⟨h1,h2⟩:=afQ.1 h;rw[aa8 h2 x,aad h1];by_cases g1:x∈r
  ·simp[g1]
  ·by_cases g2:x=c
   ·simp[g2]
   ·simp[g1,g2]
def TL{i:Int}(hi:0<=i):∀{cs:List Nat} {o:List Int},(∃o',Wi o i cs=some o')↔cs.Nodup∧∀c∈cs,o[c]?.getD 0<0
 |[],o=>⟨λ_=>⟨.nil,λ_ h=>absurd h aj⟩,λ_=>⟨o,rfl⟩⟩
 |c::r,o=>by
  constructor
  ·rintro⟨o',h⟩;obtain⟨h1,h2⟩:=afQ.1 h;obtain⟨h3,h4⟩:=(TL hi).1 ⟨o',h2⟩;have hc:c∉r:=λg=>by
    have:=h4 c g;rw[aad h1,if_pos rfl]at this;omega
   refine⟨zdk.2 ⟨hc,h3⟩,λx hx=>?_⟩;rcases zax.1 hx with rfl|hx
   ·exact h1
   ·have:=h4 x hx;rwa[aad h1,if_neg (λg:x=c=>hc (g▸hx))]at this
  ·rintro⟨h1,h2⟩;obtain⟨h3,h4⟩:=zdk.1 h1;have hc:=h2 c aj;obtain⟨o',ho⟩:=(TL hi (cs:=r) (o:=o.set c i)).2 ⟨h4,λx hx=>by
    rw[aad hc,if_neg (λg:x=c=>h3 (g▸hx))];exact h2 x iP⟩
   exact⟨o',afQ.2 ⟨hc,ho⟩⟩
def Uv(l:List At):List Nat:=l.flatMap λa=>xM a.rn.l
def agr{d:Dk}:∀{l:List At} {o:List Int} {i:Int},0<=i->((FH d o i l).2=0↔(∀a∈l,aK d a=0)/\(Uv l).Nodup∧∀c∈Uv l,o[c]?.getD 0<0)
 |[],o,i,hi=>⟨λ_=>⟨λ_ h=>absurd h aj,.nil,λ_ h=>absurd h (by simp[Uv])⟩,λ_=>rfl⟩
 |a::l,o,i,hi=>by
  have hc:Uv (a::l)=xM a.rn.l++Uv l:=zao;rw[hc];constructor
  ·intro h;obtain⟨h0,o',ho,h2⟩:=aeW h;obtain⟨h3,h4,h5⟩:=(agr ab).1 h2;obtain⟨h6,h7⟩:=(TL hi).1 ⟨o',ho⟩;have hg:=aa8 ho;have Es:∀c∈xM a.rn.l,c∉Uv l:=λc g1 g2=>by
    have:=h5 c g2;rw[hg c,if_pos g1]at this;omega
   refine⟨λx hx=>?_,zcc.2 ⟨h6,h4,λx hx y hy e=>Es x hx (e▸hy)⟩,λc hx=>?_⟩
   ·rcases zax.1 hx with rfl|hx
    ·exact h0
    ·exact h3 x hx
   ·rcases zaA.1 hx with hx|hx
    ·exact h7 c hx
    ·have:=h5 c hx;rwa[hg c,if_neg (λg=>Es c g hx)]at this
  ·rintro⟨h1,h2,h3⟩;obtain⟨h4,h5,h6⟩:=zcc.1 h2;obtain⟨o',ho⟩:=(TL hi).2 ⟨h4,λc hx=>h3 c (List.mem_append_left _ hx)⟩;have hg:=aa8 ho;have e:(FH d o i (a::l)).2=(FH d o' (i+1) l).2:=by
    have:=h1 a aj;simp only[FH,this,ho,ne_eq,not_true_eq_false,if_false]
   rw[e];exact(agr ab).2 ⟨λx hx=>h1 x iP,h5,λc hx=>by
    rw[hg c,if_neg (λg=>h6 c g c hx rfl)];exact h3 c (List.mem_append_right _ hx)⟩
def am1{d:Dk}{c:Nat}:(Fu d)[c]?.getD 0<0↔c<d.n:=by
 unfold Fu;rw[za9];by_cases h:c<d.n
 ·rw[zbz h];refine⟨λ_=>h,λ_=>?_⟩;show xd d c<0;unfold xd;split<;>decide
 ·rw[zaK aH];exact⟨λg=>absurd (show(0:Int)<0 from g) ao,λg=>absurd g h⟩
def avR{v:Vo}:wX v=0↔gm v.d=0/\v.st.l.length<=8/\(∀a∈v.st.l,aK v.d a=0)/\(Uv v.st.l).Nodup∧∀c∈Uv v.st.l,c<v.d.n:=by
 have hc:=agr (d:=v.d) (l:=v.st.l) (o:=Fu v.d) (i:=0) ao;simp only[am1]at hc;unfold wX ZX;split
 ·rename_i g;exact⟨λh=>absurd h g,λh=>absurd h.1 g⟩
 ·rename_i g;have g:=zb2.1 g;split
  ·exact⟨λh=>absurd (show(8:Int)=0 from h) ao,λh=>ab⟩
  ·rw[hc];exact⟨λh=>⟨g,ab,h⟩,λh=>h.2.2⟩
def aeR{r:Rn}(h:r.s= -1\/0<=r.s){c:Nat}:c∈M9 r↔(c:Int)∈iV r:=by
 unfold M9 iV;rcases h with h|h
 ·rw[if_pos h];simp only[zaX,zbm,zcp,false_iff,not_exists,not_and];intro k _ e;rw[if_pos h]at e;omega
 ·rw[if_neg ab,zc4];simp only[zaX,zbm];constructor
  ·rintro⟨h1,h2⟩;refine⟨c-r.s.toNat,ab,?_⟩;split<;>omega
  ·rintro⟨k,hk,e⟩;split at e<;>omega
def abi{l:List Rn}(h:∀r∈l,r.s= -1\/0<=r.s){c:Nat}:c∈xM l↔(c:Int)∈az l:=by
 unfold xM az;rw[zbA,zbA];exact⟨λ⟨r,hr,hc⟩=>⟨r,hr,(aeR (h r hr)).1 hc⟩,λ⟨r,hr,hc⟩=>⟨r,hr,(aeR (h r hr)).2 hc⟩⟩
def adr{l:List Rn}(h:∀r∈l,r.s= -1\/0<=r.s)(hd:yw (az l)):(xM l).Nodup:=by
 unfold yw az at hd;obtain⟨_,h2⟩:=zcZ.1 hd;unfold xM List.Nodup;refine zcZ.2 ⟨λr _=>?_,h2.imp_of_mem λha hb g x hx y hy e=>?_⟩
 ·unfold M9;split
  ·exact .nil
  ·exact List.nodup_range'
 ·subst e;exact g x ((aeR (h _ ha)).1 hx) x ((aeR (h _ hb)).1 hy) ab rfl
def AZ{v:Vo}:wX v=0↔gm v.d=0/\v.st.l.length<=8/\(∀a∈v.st.l,aK v.d a=0)/\v.st.l.Pairwise apS:=by
 rw[avR];have hr:∀a,aK v.d a=0→∀r∈a.rn.l,r.s= -1\/0<=r.s:=λa h r hr=>(Bd h r hr).imp id (·.1)
 have hn:(∀a∈v.st.l,aK v.d a=0)->((Uv v.st.l).Nodup↔v.st.l.Pairwise apS):=λh=>by
  unfold Uv List.Nodup;rw[zcZ];constructor
  ·rintro⟨_,h2⟩;exact h2.imp_of_mem λha hb g c h3 h4=>g c ((abi (hr _ (h _ ha))).2 h3) c ((abi (hr _ (h _ hb))).2 h4) rfl
  ·intro h2;refine⟨λa ha=>adr (hr _ (h _ ha)) (u0 (bc (h _ ha)).1.rn),h2.imp_of_mem λha hb g x hx y hy e=>?_⟩;subst e;exact g x ((abi (hr _ (h _ ha))).1 hx) ((abi (hr _ (h _ hb))).1 hy)
 constructor
 ·rintro⟨h1,h2,h3,h4,_⟩;exact⟨h1,h2,h3,(hn h3).1 h4⟩
 ·rintro⟨h1,h2,h3,h4⟩;refine⟨h1,h2,h3,(hn h3).2 h4,λc hc=>?_⟩;obtain⟨a,ha,Mq⟩:=zbA.1 hc;obtain⟨r,Ql,Wo⟩:=zbA.1 Mq;have h5:=Bd (h3 a ha) r Ql;unfold M9 at Wo;split at Wo
  ·exact absurd Wo aj
  ·rw[zc4]at Wo;omega
structure As(d:Dk)(a:At)(e:Dk)(b:At)(C:List UInt8):Prop where
 op:aK e b=0
 fN:aV (ar e b)=C
 su:acg d e a b
 nm:b.nm.length<=1000000
def As.sd{d e:Dk}{a b:At}{C:List UInt8}(h:As d a e b C)(hd:wU d):wU e:=atK h.op h.su.1.1 hd
structure NG(d:Dk)(a b:At):Prop where
 sd:wU d
 a0:aK d a=0
 b0:aK d b=0
 an:a.nm.length<=1000000
 bn:b.nm.length<=1000000
 ap:apS a b
def NG.symm{d:Dk}{a b:At}(h:NG d a b):NG d b a:=⟨h.sd,h.b0,h.a0,h.bn,h.an,λc h1 h2=>h.ap c h2 h1⟩
def NG.step{d e:Dk}{a b a':At}{C:List UInt8}(h:NG d a b)(s:As d a e a' C):NG e a' b/\aV (ar e b)=aV (ar d b)/\e.n=d.n/\
 oF e.mp d.n+bt (az a.rn.l)=oF d.mp d.n+bt (az a'.rn.l):=by
 obtain⟨h1,h2⟩:=beside s.su h.b0 h.symm.ap;obtain⟨h3,h4⟩:=PS h1 h.b0;exact⟨⟨s.sd h.sd,s.op,h3,s.nm,h.bn,λc g1 g2=>h2 c g2 g1⟩,h4,by unfold Dk.n;rw[s.su.1.1],Q1 s.su h.a0 s.op⟩
def amr{a b:At}(h:apS a b):apS b a:=λc h1 h2=>h c h2 h1
def au2{v:Vo}{i:Nat}{a a':At}{e:Dk}{C:List UInt8}(hb:OS v)(ho:wX v=0)(hi:v.st.l[i]?=some a)(s:As v.d a e a' C):
 wX (iO v e i a')=0/\(∀j b,j≠i->v.st.l[j]?=some b->aV (ar e b)=aV (ar v.d b))/\e.n=v.d.n:=by
 obtain⟨h1,h2,h3,h4⟩:=AZ.1 ho;have WW:=L0 h1;have iX:=(zaa.1 hi).1;have HA:=zag hi;have HF:∀j b,j≠i->v.st.l[j]?=some b->apS a b:=λj b hj hjb=>by
  obtain⟨g1,rfl⟩:=zaa.1 hjb;obtain⟨_,rfl⟩:=zaa.1 hi;have:=zcW.1 h4;rcases Nat.lt_or_ge i j with g|g
  ·exact this i j iX g1 g
  ·exact amr (this j i g1 iX ab)
 have htw:∀j b,j≠i->v.st.l[j]?=some b->NG v.d a b:=λj b hj hjb=>
  ⟨WW,h3 a HA,h3 b (zag hjb),hb.2.1 a HA,hb.2.1 b (zag hjb),HF j b hj hjb⟩
 have hn:e.n=v.d.n:=by unfold Dk.n;rw[s.su.1.1]
 refine⟨AZ.2 ⟨(bc s.op).1.dk,by show(v.st.l.set i a').length<=8;rw[za0];exact h2,λx hx=>?_,?_⟩,λj b hj hjb=>((htw j b hj hjb).step s).2.1,hn⟩
 ·obtain⟨j,FL⟩:=zaE.1 (show x∈v.st.l.set i a' from hx);rw[zaS]at FL;by_cases g:i=j
  ·rw[if_pos g,if_pos ab]at FL;cases FL;exact s.op
  ·rw[if_neg g]at FL;exact((htw j x (λh=>g h.symm) FL).step s).1.b0
 ·show(v.st.l.set i a').Pairwise apS;refine zcW.2 λj k hj hk se=>?_
  rw[za0]at hj hk;rw[zdw,zdw];by_cases g1:i=j
  ·rw[if_pos g1,if_neg ab];exact((htw k _ ab (zah hk)).step s).1.ap
  ·rw[if_neg g1];by_cases g2:i=k
   ·rw[if_pos g2];exact amr ((htw j _ ab (zah hj)).step s).1.ap
   ·rw[if_neg g2];exact zcW.1 h4 j k hj hk se
def L1(v:Vo):Prop:=OS v/\wX v=0
def avi{v:Vo}{i:Nat}{a a':At}{e:Dk}{C:List UInt8}(h:L1 v)(hi:v.st.l[i]?=some a)(s:As v.d a e a' C):L1 (iO v e i a'):=by
 obtain⟨g1,_,_⟩:=au2 h.1 h.2 hi s;refine⟨⟨pR (L0 (bc s.op).1.dk),λx hx=>?_,by show(v.st.l.set i a').length<=_;rw[za0];exact h.1.2.2⟩,g1⟩;rcases zc8 (show x∈v.st.l.set i a' from hx)with hx|rfl
 ·exact h.1.2.1 x hx
 ·exact s.nm
def aiL{v:Vo}(h:L1 v)(m:Mv):L1 (nX v m):=by
 by_cases he:ub v m=0
 case neg=>unfold nX;rw[if_pos he];exact h
 have e:nX v m=iO v (jM v.d (ni v m.k) m.p m.t) m.k.toNat (jG v.d (ni v m.k) m.p m.t):=by unfold nX;rw[if_neg (λg=>g he)]
 rw[e];have hk:0<=m.k/\m.k<=(v.st.l.length:Int)-1:=by
  apply Classical.byContradiction;intro g;unfold ub at he;rw[if_pos g]at he;exact absurd he ao
 have hm:dJ v.d (ni v m.k) m.p m.t=0:=by unfold ub at he;rw[if_neg (λg=>g hk)]at he;exact he
 obtain⟨b,hb⟩:∃b,v.st.l[m.k.toNat]?=some b:=⟨_,zah ab⟩
 have eb:ni v m.k=b:=by unfold ni;rw[hb];rfl
 rw[eb]at hm ⊢;have hn:=h.1.2.1 b (zag hb);have ml:=aBQ (Zv hm) (L0 (AZ.1 h.2).1) hn hm;rw[ml.D,ml.A];exact avi h hb ⟨ml.op,ml.fN,ml.su,hn⟩
def awk(a:At):(aB a).rn.l=a.rn.l:=rfl
def avd{v:Vo}:wX (bp v)=0↔wX v=0:=by
 have hl:(bp v).st.l=v.st.l.map aB:=rfl;have hd:(bp v).d=v.d:=rfl;rw[AZ,AZ,hl,hd,zaw,zdt];have e:(∀a∈v.st.l.map aB,aK v.d a=0)↔∀a∈v.st.l,aK v.d a=0:=by
  constructor
  ·intro h a ha;have:=h (aB a) (List.mem_map_of_mem ha);rwa[kU]at this
  ·intro h a ha;obtain⟨b,hb,rfl⟩:=zaX.1 ha;rw[kU];exact h b hb
 rw[e];exact Iff.rfl
def axS{v:Vo}(h:L1 v):L1 (bp v):=by
 refine⟨⟨h.1.1,λa ha=>?_,by show(v.st.l.map aB).length<=_;rw[zaw];exact h.1.2.2⟩,avd.2 h.2⟩;obtain⟨b,hb,rfl⟩:=zaX.1 (show a∈v.st.l.map aB from ha);exact h.1.2.1 b hb
noncomputable def ac4(v:Vo):List (List UInt8):=v.st.l.map λa=>aV (ar v.d a)
def aaz{v:Vo}(h:L1 v)(m:Mv):ac4 (nX v m)=ac4 v/\(nX v m).d.n=v.d.n:=by
 by_cases he:ub v m=0
 case neg=>unfold nX;rw[if_pos he];exact⟨rfl,rfl⟩
 have e:nX v m=iO v (jM v.d (ni v m.k) m.p m.t) m.k.toNat (jG v.d (ni v m.k) m.p m.t):=by unfold nX;rw[if_neg (λg=>g he)]
 rw[e];have hk:0<=m.k/\m.k<=(v.st.l.length:Int)-1:=by
  apply Classical.byContradiction;intro g;unfold ub at he;rw[if_pos g]at he;exact absurd he ao
 have hm:dJ v.d (ni v m.k) m.p m.t=0:=by unfold ub at he;rw[if_neg (λg=>g hk)]at he;exact he
 obtain⟨b,hb⟩:∃b,v.st.l[m.k.toNat]?=some b:=⟨_,zah ab⟩
 have eb:ni v m.k=b:=by unfold ni;rw[hb];rfl
 rw[eb]at hm ⊢;have hn:=h.1.2.1 b (zag hb);have ml:=aBQ (Zv hm) (L0 (AZ.1 h.2).1) hn hm;rw[ml.D,ml.A];obtain⟨_,g2,g3⟩:=au2 h.1 h.2 hb ⟨ml.op,ml.fN,ml.su,hn⟩;refine⟨?_,g3⟩;unfold ac4;refine zba λj=>?_
 show((v.st.l.set m.k.toNat _).map _)[j]?=_;rw[za9,za9,zaS];by_cases g:m.k.toNat=j
 ·subst g;rw[if_pos rfl,if_pos ab,hb];exact congrArg some ml.fN
 ·rw[if_neg g];cases hj:v.st.l[j]? with
  |none=>rfl
  |some x=>exact congrArg some (g2 j x (λe=>g e.symm) hj)
def dX{α:Type}{f:α->PV}{l:List α}{n:Nat}{x:α}(h:l[n]?=some x):(l.map f)[(n:Int).toNat]?=some (f x):=by
 rw[zaC,za9,h];rfl
def Sl.zN{α:Type}{f:α->PV}{sz:Nat}{s:Sl α}{n:Nat}{x:α}(h:s.l[n]?=some x):s.pv f sz=.sl sz (s.l.map f):=by
 cases s with
 |nil=>cases h
 |sl l=>rfl
def Xv(n:Nat):Int:=n
def Dc(a:At):List Nat:=if a.rs=true then[]else xM a.rn.l
def OC(l:List Nat):List PV:=(l.map Xv).map pI
def BU(ps:List PV)(r:RV):Prop:=∃a:At,ps=[a.pv]/\(a.rn.l.length<=1000000/\(∀r∈a.rn.l,r.s= -1\/CM r)/\(xM a.rn.l).length<=1000000)/\r=.fresh 3 1 (OC (Dc a))
def arA(a:At)(x:PV):dC:=.box 41 [.pv (pI a.ty),.pv (.str a.nm),.pv (pI a.id),.pv (pI a.fl),.pv (pB false),.pv (.str a.vl),.pv (pI a.ft),.pv x,.pv (pI a.al),.pv (pI a.sz),.pv (pI a.vd)]
def arD{l:List Rn}{n:Nat}{r:Rn}(h:l[n]?=some r):xM (l.take (n+1))=xM (l.take n)++M9 r:=by
 unfold xM;rw[zck,h,zc3,zaz,zdm]
def adE(l:List Rn)(n:Nat):(xM (l.take n)).length<=(xM l).length:=by
 have h:xM l=xM (l.take n)++xM (l.drop n):=by unfold xM;rw[<-zaz,zaD]
 rw[h,zad];omega
def ae9(l:List Nat):(OC l).length=l.length:=by simp[OC]
def asU(l:List Nat)(c:Nat):OC (l++[c])=OC l++[pI c]:=by simp[OC,Xv]
set_option maxHeartbeats 2000000 in
def akp:MT (ay []) abI (c8 true BU):=by
 rintro _ K ⟨_,⟨a,rfl,⟨h1,h2,h3⟩,rfl⟩,hK⟩;have gJ:(a.rn.l.map Rn.pv).length=a.rn.l.length:=zaw _;cases c_:a.rs with
 |true=>
  have e:Dc a=[]:=by unfold Dc;rw[if_pos c_]
  rw[e]at hK;have hp:a.pv=.agg [pI a.ty,.str a.nm,pI a.id,pI a.fl,pB true,.str a.vl,pI a.ft,qF a.rn,pI a.al,pI a.sz,pI a.vd]:=by unfold At.pv;rw[c_]
  rw[hp]
  (conv=>whnf)
  refine⟨λm env σ=>σ=[.box 41 [.pv (pI a.ty),.pv (.str a.nm),.pv (pI a.id),.pv (pI a.fl),.pv (pB true),.pv (.str a.vl),.pv (pI a.ft),.pv (qF a.rn),.pv (pI a.al),.pv (pI a.sz),.pv (pI a.vd)],.row 3 1 true []]/\env=[(1,.ref 0 0 0),(3,.own 1),eN 4 0],0,⟨rfl,rfl⟩,?_⟩;rintro m env σ ⟨rfl,rfl⟩
  (repeat'((conv=>whnf);first|refine KP ?_|refine aN ?_|refine de (λ_=>?_) (λ_=>?_)|refine dq λ_=>?_|fail))<;>try(conv=>whnf)
  all_goals exact⟨.fresh _ _ _,⟨rfl,rfl,rfl,rfl⟩,dn [],hK⟩
 |false=>
  have e:Dc a=xM a.rn.l:=by unfold Dc;rw[if_neg qD]
  rw[e]at hK;have hp:a.pv=.agg [pI a.ty,.str a.nm,pI a.id,pI a.fl,pB false,.str a.vl,pI a.ft,qF a.rn,pI a.al,pI a.sz,pI a.vd]:=by unfold At.pv;rw[c_]
  rw[hp]
  (conv=>whnf)
  refine⟨λm env σ=>∃n:Nat,n+m=a.rn.l.length/\σ=[arA a (qF a.rn),.row 3 1 true (OC (xM (a.rn.l.take n)))]/\env=[(1,.ref 0 0 0),(3,.own 1),eN 4 n],a.rn.l.length,⟨0,ab,rfl,rfl⟩,?_⟩;rintro m env σ ⟨n,hn,rfl,rfl⟩;by_cases aU:n<a.rn.l.length
  ·obtain⟨r,hr⟩:∃r,a.rn.l[n]?=some r:=⟨_,zah aU⟩
   have JA:=h2 r (zag hr);have qH:qF a.rn=.sl 2 (a.rn.l.map Rn.pv):=Sl.zN hr;have hg:=dX (f:=Rn.pv) hr;have ht:=arD hr;have htl:=adE a.rn.l (n+1);have aGs:((xM (a.rn.l.take n)).length)<=1000000:=Nat.le_trans (adE _ _) h3;rw[ht,zad]at htl;unfold arA;rw[qH];by_cases hs:r.s= -1
   ·have Wo:M9 r=[]:=by unfold M9;rw[if_pos hs]
    rw[Wo,zbf]at ht
    (repeat'((conv=>whnf);first|refine au ab ?_|refine bP ?_|refine dq λ_=>?_|fail))<;>try(conv=>whnf)
    refine⟨λm2 env σ=>σ=[arA a (.sl 2 (a.rn.l.map Rn.pv)),.row 3 1 true (OC (xM (a.rn.l.take n)))]/\env=[(1,.ref 0 0 0),(3,.own 1),eN 4 n,eN 5 0],0,⟨rfl,rfl⟩,?_⟩;rintro m2 env σ ⟨rfl,rfl⟩
    (repeat'((conv=>whnf);first|refine⟨_,⟨ab,hg⟩,?_⟩|refine aw (λh=>h hs) ?_|refine bj ab ?_|refine de (λ_=>?_) (λ_=>?_)|fail))<;>try(conv=>whnf)
    all_goals exact⟨m-1,ab,n+1,ab,by rw[ht],rfl⟩
   ·have Wo:M9 r=List.range' r.s.toNat r.n.toNat:=by unfold M9;rw[if_neg hs]
    have JA:=JA.resolve_left hs;unfold CM at JA;rw[Wo,zds]at htl;rw[Wo]at ht
    (repeat'((conv=>whnf);first|refine au ab ?_|refine bP ?_|refine dq λ_=>?_|fail))<;>try(conv=>whnf)
    refine⟨λm2 env σ=>∃k:Nat,(k:Int)+m2=r.n/\σ=[arA a (.sl 2 (a.rn.l.map Rn.pv)),.row 3 1 true (OC (xM (a.rn.l.take n)++List.range' r.s.toNat k))]/\env=[(1,.ref 0 0 0),(3,.own 1),eN 4 n,eN 5 k],r.n.toNat,⟨0,ab,by simp[arA],rfl⟩,?_⟩;rintro m2 env σ ⟨k,hk,rfl,rfl⟩;have hl:=ae9 (xM (a.rn.l.take n)++List.range' r.s.toNat k);rw[zad,zds]at hl;have iS:=asU (xM (a.rn.l.take n)++List.range' r.s.toNat k) (r.s.toNat+k);rw[zaj,<-List.range'_1_concat]at iS;cases m2 with
    |zero=>
     have kP:k=r.n.toNat:=ab
     (repeat'((conv=>whnf);first|refine⟨_,⟨ab,hg⟩,?_⟩|refine aw ab ?_|refine bj ab ?_|fail))<;>try(conv=>whnf)
     exact⟨m-1,ab,n+1,ab,by rw[ht,kP],rfl⟩
    |succ m2=>
     have hv:r.s+(k:Int)=((r.s.toNat+k:Nat):Int):=ab
     (repeat'((conv=>whnf);first|refine⟨_,⟨ab,hg⟩,?_⟩|refine au hs ?_|refine au ab ?_|refine zcd ⟨by rw[hl];simp;omega,by rw[hl];simp;omega⟩ ?_|refine bj ab ?_|refine bT ?_|fail))<;>try(conv=>whnf)
     exact⟨m2,ab,k+1,ab,by rw[iS,<-hv];rfl,rfl⟩
  ·(repeat'((conv=>whnf);first|refine KP ?_|refine aw ab ?_|refine dq λ_=>?_|fail))<;>try(conv=>whnf)
   rw[za1 ab];exact⟨.fresh _ _ _,⟨rfl,rfl,rfl,rfl⟩,dn _,hK⟩
def ED(seen:List Nat)(i:Int):List At->Int
 |[]=> -1
 |a::r=>if ∃c∈Dc a,c∈seen then i else ED (seen++Dc a) (i+1) r
def aeN(ps:List PV)(x:PV):Prop:=∃s:Sl At,ps=[D4 s]/\(s.l.length<=1000∧∀a∈s.l,a.rn.l.length<=1000000/\(∀r∈a.rn.l,r.s= -1\/CM r)/\(xM a.rn.l).length<=1000)/\x=pI (ED [] 0 s.l)
def ajE(a:At):(Dc a).length<=(xM a.rn.l).length:=by
 unfold Dc;split
 ·simp
 ·omega
def asO{l:List Nat}{c:Nat}:Xv c∈l.map Xv↔c∈l:=by
 rw[zaX];exact⟨λ⟨x,h,e⟩=>by unfold Xv at e;rw[<-show x=c by omega];exact h,λh=>⟨c,h,rfl⟩⟩
set_option maxHeartbeats 4000000 in
def alF:MT (ay [(53,c8 true BU),(83,bF YX)]) WJ (ah aeN):=by
 rintro _ K ⟨_,⟨s,rfl,⟨h1,h2⟩,rfl⟩,hK⟩;have gJ:(s.l.map At.pv).length=s.l.length:=zaw _
 (conv=>whnf)
 refine⟨λm env σ=>∃(n:Nat) (seen:List Nat),(n+m=s.l.length/\seen.length<=1000*n/\ED [] 0 s.l=ED seen n (s.l.drop n))/\σ=[.row 3 1 true (OC seen)]/\env=[(0,.pv (D4 s)),(3,.own 0),eN 4 n],s.l.length,⟨0,[],⟨ab,aj,rfl⟩,rfl,rfl⟩,?_⟩;rintro m env σ ⟨n,seen,⟨hn,qH,hg⟩,rfl,rfl⟩;by_cases aU:n<s.l.length
 case neg=>
  (repeat'((conv=>whnf);first|refine KP ?_|refine aw ab ?_|refine dq λ_=>?_|fail))<;>try(conv=>whnf)
  rw[hg,zcX ab]at hK;exact aG
 obtain⟨a,ha⟩:∃a,s.l[n]?=some a:=⟨_,zah aU⟩
 obtain⟨q1,q2,q3⟩:=h2 a (zag ha);have lp:D4 s=.sl 11 (s.l.map At.pv):=Sl.zN ha;have Nl:=dX (f:=At.pv) ha;have hd:BU [a.pv] _:=⟨a,rfl,⟨q1,q2,ab⟩,rfl⟩
 have Aj:=ajE a;have mE:ED seen n (s.l.drop n)=if ∃c∈Dc a,c∈seen then(n:Int)else ED (seen++Dc a) (n+1) (s.l.drop (n+1)):=by
  rw[drop_cons ha];rfl
 rw[mE]at hg;generalize Dc a=D at*;have lr:=ae9 D;rw[lp]
 (repeat'((conv=>whnf);first|refine au ab ?_|refine⟨_,⟨ab,Nl⟩,?_⟩|refine⟨_,hd,?_⟩|refine dq λ_=>?_|fail))<;>try(conv=>whnf)
 refine⟨λm2 env σ=>∃j:Nat,(j+m2=D.length∧∀i c,i<j->D[i]?=some c->c∉seen)/\σ=[.row 3 1 true (OC seen),.row 3 1 true (OC D)]/\env=[(0,.pv (.sl 11 (s.l.map At.pv))),(3,.own 0),eN 4 n,(5,.own 1),eN 6 j],D.length,⟨0,⟨ab,λi c h=>absurd h ab⟩,rfl,rfl⟩,?_⟩;rintro m2 env σ ⟨j,⟨hj,tT⟩,rfl,rfl⟩;by_cases HQ:j<D.length
 ·obtain⟨c,hc⟩:∃c,D[j]?=some c:=⟨_,zah HQ⟩
  have gW:(OC D)[(j:Int).toNat]?=some (pI (Xv c)):=by
   unfold OC;exact dX (f:=pI) (l:=D.map Xv) (by rw[za9,hc];rfl)
  have hQ:YX [.sl 1 (OC seen),pI (Xv c)] (Xv c∈seen.map Xv):=⟨seen.map Xv,Xv c,rfl,oP,rfl⟩
  (repeat'((conv=>whnf);first|refine au ab ?_|refine zcd ⟨ab,ab⟩ ?_|refine⟨_,gW,?_⟩|refine⟨_,hQ,?_⟩|refine bj ab ?_|refine de (λ_=>?_) (λ_=>?_)|refine dq λ_=>?_|fail))<;>try(conv=>whnf)
  ·rename_i hx;rw[if_pos ⟨c,zag hc,asO.1 hx⟩]at hg;rw[hg]at hK;exact⟨.pv (pI n),rfl,trivial,hK⟩
  ·rename_i hx;refine⟨m2-1,ab,j+1,⟨ab,λi x hi XM=>?_⟩,rfl,rfl⟩;by_cases e:i=j
   ·subst e;rw[hc]at XM;cases XM;exact λh=>hx (asO.2 h)
   ·exact tT i x ab XM
 ·have azQ:¬ ∃c∈D,c∈seen:=λ⟨c,h1,h2⟩=>by
   obtain⟨i,hi⟩:=jk.1 h1;exact tT i c (by have:=eT hi;omega) hi h2
  rw[if_neg azQ]at hg;have iS:=ae9 seen;have aJO:OC (seen++D)=OC seen++OC D:=by simp[OC]
  (repeat'((conv=>whnf);first|refine aw ab ?_|refine zcd ⟨by rw[iS,lr];omega,by rw[iS,lr];omega⟩ ?_|refine bj ab ?_|refine dq λ_=>?_|fail))<;>try(conv=>whnf)
  exact⟨m-1,ab,n+1,seen++D,⟨ab,by rw[zad];omega,by rw[hg];rfl⟩,by rw[aJO],rfl⟩
def R_{d:Dk}{a:At}(h:aK d a=0):Dc a=xM a.rn.l:=by
 unfold Dc;split
 ·rename_i hr;have h1:=(AD (lE (bc h).1.str).1).rs hr;rw[List.length_eq_zero_iff.1 h1.1];rfl
 ·rfl
def axH{i:Int}:∀{l:List At} {seen:List Nat},ED seen i l= -1→∀(a:At),0<=i->ED seen i (l++[a])=if ∃c∈Dc a,c∈seen++l.flatMap Dc then i+l.length else-1:=by
 intro l
 induction l generalizing i with
 |nil=>intro seen _ a _;simp[ED]
 |cons b l ih=>
  intro seen h a hi;have e:∀l,ED seen i (b::l)=if ∃c∈Dc b,c∈seen then i else ED (seen++Dc b) (i+1) l:=λ_=>rfl
  rw[zbd,e];rw[e]at h;by_cases g:∃c∈Dc b,c∈seen
  ·rw[if_pos g]at h;omega
  ·rw[if_neg g]at h ⊢;rw[ih h a ab,zao,zaj,zam];congr 1;omega
def aqE{d:Dk}{a:At}{o:List Int}{seen:List Nat}{i:Int}(hi:0<=i)(h0:aK d a=0)(ho:∀c,c<d.n->(0<=o[c]?.getD 0↔c∈seen)):Wi o i (xM a.rn.l)=none↔∃c∈Dc a,c∈seen:=by
 rw[R_ h0];have hr:=Bd h0;have hn:=adr (λr h=>(hr r h).imp id (·.1)) (u0 (bc h0).1.rn);have aU:∀c∈xM a.rn.l,c<d.n:=λc hc=>by
  obtain⟨r,Ql,Wo⟩:=zbA.1 hc;have h5:=hr r Ql;unfold M9 at Wo;split at Wo
  ·exact absurd Wo aj
  ·rw[zc4]at Wo;omega
 constructor
 ·intro h;apply Classical.byContradiction;intro g;obtain⟨o',OT⟩:=(TL (o:=o) hi).2 ⟨hn,λc hc=>Int.not_le.1 λh=>g ⟨c,hc,(ho c (aU c hc)).1 h⟩⟩;rw[h]at OT;cases OT
 ·rintro⟨c,hc,hs⟩;cases hg:Wi o i (xM a.rn.l)with
  |none=>rfl
  |some o'=>
   have g1:=((TL hi).1 ⟨o',hg⟩).2 c hc;have g2:=(ho c (aU c hc)).2 hs;exact absurd g1 ab
def ar_{d:Dk}{a:At}{o o':List Int}{seen:List Nat}{i:Int}(hi:0<=i)(h0:aK d a=0)(ho:∀c,c<d.n->(0<=o[c]?.getD 0↔c∈seen))(hg:Wi o i (xM a.rn.l)=some o'):∀c,c<d.n->(0<=o'[c]?.getD 0↔c∈seen++Dc a):=by
 intro c hc;rw[aa8 hg c,R_ h0,zaA];by_cases g:c∈xM a.rn.l
 ·rw[if_pos g];exact⟨λ_=>.inr g,λ_=>hi⟩
 ·rw[if_neg g,ho c hc];exact⟨.inl,λh=>h.resolve_right g⟩
def ani:∀{l m:List Nat},l.Nodup->l ⊆ m->l.length<=m.length
 |[],_,_,_=>by simp
 |a::l,m,hn,hs=>by
  obtain⟨h1,h2⟩:=zdk.1 hn;have hm:a∈m:=hs aj;have:=ani (m:=m.erase a) h2 λx hx=>(List.mem_erase_of_ne (λe:x=a=>h1 (e▸hx))).2 (hs iP)
  rw[List.length_erase_of_mem hm]at this;have:=List.length_pos_of_mem hm;simp only[zam];omega
def Re{d:Dk}{a:At}(h:aK d a=0):(xM a.rn.l).length<=512/\a.rn.l.length<=100000∧∀r∈a.rn.l,r.s= -1\/CM r:=by
 have hr:=Bd h;have hl:=(bZ (bc h).1.rn).1;have hd:=(rX (bc h).1.dk).2.1;have hn:=adr (λr h=>(hr r h).imp id (·.1)) (u0 (bc h).1.rn);refine⟨?_,ab,λr Ql=>(hr r Ql).imp id λh=>⟨h.1,h.2.1,ab⟩⟩;have aJN:xM a.rn.l ⊆ List.range d.n:=λc hc=>by
  obtain⟨r,Ql,Wo⟩:=zbA.1 hc;have h5:=hr r Ql;unfold M9 at Wo;split at Wo
  ·exact absurd Wo aj
  ·rw[zc4]at Wo;rw[zbm];omega
 have:=ani hn aJN;rw[List.length_range]at this;omega
def H4(ps:List PV)(r:RV):Prop:=∃v:Vo,ps=[v.pv]/\(OS v∧∀a∈v.st.l,a.rn.l.length<=1000000)/\r=.tup [.pv (pI (ZX v).1),.pv (pI (ZX v).2)]
set_option maxHeartbeats 4000000 in
def ahd:MT (ay [(67,ah dm),(55,c8 false dK),(72,ah tQ),(81,ah aeN)]) Wv (c8 true H4):=by
 rintro _ K ⟨_,⟨v,rfl,⟨h1,h4⟩,rfl⟩,hK⟩;obtain⟨h1,h2,h3⟩:=h1;have hd:dm [v.d.pv] (pI (gm v.d)):=⟨v.d,rfl,h1,rfl⟩
 have gJ:(v.st.l.map At.pv).length=v.st.l.length:=zaw _;unfold ZX at hK;by_cases h0:gm v.d=0
 case neg=>
  rw[if_pos h0]at hK
  (repeat'((conv=>whnf);first|refine⟨_,hd,?_⟩|refine au h0 ?_|fail))<;>try(conv=>whnf)
  exact⟨[.pv (pI 0),.pv (pI (gm v.d))],⟨rfl,rfl,trivial⟩,⟨trivial,trivial,trivial⟩,hK⟩
 rw[if_neg (λh=>h h0)]at hK;rw[h0]at hd;by_cases hl:8<v.st.l.length
 ·rw[if_pos hl]at hK
  (repeat'((conv=>whnf);first|refine⟨_,hd,?_⟩|refine KP ?_|refine au ab ?_|refine aw ab ?_|refine dq λ_=>?_|fail))<;>try(conv=>whnf)
  exact⟨[.pv (pI 0),.pv (pI 8)],⟨rfl,rfl,trivial⟩,⟨trivial,trivial,trivial⟩,hK⟩
 rw[if_neg hl]at hK
 (repeat'((conv=>whnf);first|refine⟨_,hd,?_⟩|refine KP ?_|refine aw ab ?_|refine dq λ_=>?_|fail))<;>try(conv=>whnf)
 refine⟨λm env σ=>∃(n:Nat) (o:List Int),(n+m=v.st.l.length/\(∀c,c<v.d.n->(0<=o[c]?.getD 0↔c∈(v.st.l.take n).flatMap Dc))/\ED [] 0 (v.st.l.take n)= -1/\(∀a∈v.st.l.take n,aK v.d a=0)/\FH v.d (Fu v.d) 0 v.st.l=FH v.d o n (v.st.l.drop n))/\σ=[.box 26 [.pv (.str v.d.a_),.pv (.str v.d.mp),.pv (D4 v.st)]]/\env=[(1,.ref 0 0 0),eN 6 n],v.st.l.length,⟨0,Fu v.d,⟨ab,λc hc=>by have:=(am1 (d:=v.d)).2 hc;simp;omega,rfl,λ_ h=>absurd h aj,rfl⟩,rfl,rfl⟩,?_⟩;rintro m env σ ⟨n,o,⟨hn,ho,mE,sM,hg⟩,rfl,rfl⟩;by_cases aU:n<v.st.l.length
 case neg=>
  (repeat'((conv=>whnf);first|refine KP ?_|refine aw ab ?_|refine dq λ_=>?_|fail))<;>try(conv=>whnf)
  rw[hg,zcX ab]at hK;exact⟨[.pv (pI 0),.pv (pI 0)],⟨rfl,rfl,trivial⟩,⟨trivial,trivial,trivial⟩,hK⟩
 obtain⟨a,ha⟩:∃a,v.st.l[n]?=some a:=⟨_,zah aU⟩
 have HA:=zag ha;have lp:D4 v.st=.sl 11 (v.st.l.map At.pv):=Sl.zN ha;have Nl:=dX (f:=At.pv) ha;have Aw:dK [a.pv] _:=⟨a,rfl,h4 a HA,rfl⟩
 have sH:tQ [v.d.pv,(aB a).pv] (pI (aK v.d a)):=⟨v.d,aB a,rfl,⟨h1,h2 a HA⟩,by rw[kU]⟩
 rw[apI ha]at hg;rw[hg]at hK;rw[lp];by_cases h5:aK v.d a=0
 case neg=>
  rw[if_pos h5]at hK
  (repeat'((conv=>whnf);first|refine au ab ?_|refine⟨_,⟨ab,Nl⟩,?_⟩|refine⟨_,Aw,?_⟩|refine⟨_,sH,?_⟩|refine dq λ_=>?_|refine bT ?_|fail))<;>try(conv=>whnf)
  exact⟨[.pv (pI n),.pv (pI _)],⟨rfl,rfl,trivial⟩,⟨trivial,trivial,trivial⟩,hK⟩
 rw[if_neg (λh=>h h5)]at hK hg;have kv:v.st.l.take (n+1)=v.st.l.take n++[a]:=by rw[zck,ha];rfl
 have nK:∀x∈v.st.l.take (n+1),aK v.d x=0:=λx hx=>by
  rw[kv,zaA,zcS]at hx;rcases hx with hx|rfl
  ·exact sM x hx
  ·exact h5
 have cM:=axH mE a ab;rw[zaZ,<-kv]at cM;have HR:cut 0 ((n:Int)+1).toNat (v.st.l.map At.pv)=(v.st.l.take (n+1)).map At.pv:=by
  unfold cut;rw[zde,<-zdg];congr 2
 have hC:aeN [.sl 11 (cut 0 ((n:Int)+1).toNat (v.st.l.map At.pv))] _:=⟨.sl (v.st.l.take (n+1)),by rw[HR];rfl,⟨by rw[show(Sl.sl (v.st.l.take (n+1))).l=v.st.l.take (n+1)from rfl,zal];omega,λx hx=>by
  obtain⟨q1,q2,q3⟩:=Re (nK x hx);exact⟨ab,q3,ab⟩⟩,rfl⟩
 rw[show(Sl.sl (v.st.l.take (n+1))).l=v.st.l.take (n+1)from rfl,cM]at hC;have CY:=aqE (i:=n) ab h5 ho
 (repeat'((conv=>whnf);first|refine au ab ?_|refine⟨_,⟨ab,Nl⟩,?_⟩|refine⟨_,Aw,?_⟩|refine⟨_,sH,?_⟩|refine aw (λh=>h h5) ?_|refine⟨_,hC,?_⟩|refine bj ab ?_|refine de (λ_=>?_) (λ_=>?_)|refine dq λ_=>?_|refine bT ?_|refine wz ?_|fail))<;>try(conv=>whnf)
 ·rename_i x;by_cases g:∃c∈Dc a,c∈(v.st.l.take n).flatMap Dc
  ·rw[CY.2 g]at hK;have e:(0:Int)+((v.st.l.take n).length:Int)=n:=eI;rw[if_pos g,e];exact⟨[.pv (pI n),.pv (pI 13)],⟨rfl,rfl,trivial⟩,⟨trivial,trivial,trivial⟩,hK⟩
  ·rw[if_neg g]at x;omega
 ·rename_i x;have g:¬ ∃c∈Dc a,c∈(v.st.l.take n).flatMap Dc:=λg=>by rw[if_pos g]at x;omega
  rw[if_neg g]at cM;obtain⟨o',OT⟩:∃o',Wi o n (xM a.rn.l)=some o':=by
   cases e:Wi o n (xM a.rn.l)with
   |none=>exact absurd (CY.1 e) g
   |some o'=>exact⟨o',rfl⟩
  have hs:=ar_ ab h5 ho OT;rw[OT]at hg;refine⟨m-1,ab,n+1,o',⟨ab,λc hc=>?_,cM,nK,by rw[hg];rfl⟩,rfl,rfl⟩;rw[hs c hc,kv,zaz,zdm]
def an1{α β:Type}{f:α->β}{a b:List α}(e:a.map f=b.map f){n:Nat}{x y:α}(hx:a[n]?=some x)(hy:b[n]?=some y):f x=f y:=by
 have h:(a.map f)[n]?=(b.map f)[n]?:=by rw[e]
 rw[za9,za9,hx,hy]at h;exact Option.some.inj h
def ais{α β:Type}{f:α->β}{a b:List α}(hl:a.length=b.length)(h:∀(j:Nat) (x y:α),a[j]?=some x->b[j]?=some y->f x=f y):a.map f=b.map f:=by
 refine zba λj=>?_
 rw[za9,za9];by_cases hj:j<a.length
 ·rw[zah hj,zah ab];exact congrArg some (h j _ _ (zah hj) (zah ab))
 ·rw[zaK ab,zaK ab]
def arG{α:Type}{a b:List α}(e:a=b){n:Nat}{x y:α}(hx:a[n]?=some x)(hy:b[n]?=some y):x=y:=by
 subst e;rw[hx]at hy;exact Option.some.inj hy
def awm{α:Type}{a b:List α}(hl:a.length=b.length)(h:∀(j:Nat) (x y:α),a[j]?=some x->b[j]?=some y->x=y):a=b:=by
 have:=ais (f:=id) hl h;simpa using this
def auz{a b:At}:Xo a b↔aB a=aB b:=by
 unfold Xo aB;cases a;cases b;simp
def Px(l:List (List UInt8)):List PV:=l.map PV.str
def aeY(ps:List PV)(p:Prop):Prop:=∃a b:List (List UInt8),ps=[.sl 1 (Px a),.sl 1 (Px b)]/\(a.length<=1000000/\b.length<=1000000)/\p=(a=b)
def ZT(ps:List PV)(p:Prop):Prop:=∃a b:Sl At,ps=[D4 a,D4 b]/\((a.l.length<=1000000/\b.l.length<=1000000)/\(∀x∈a.l,x.rn.l.length<=1000000)∧∀x∈b.l,x.rn.l.length<=1000000)/\p=(a.l.map aB=b.l.map aB)
set_option maxHeartbeats 2000000 in
def amT:MT (ay []) abd (bF aeY):=by
 rintro _ K ⟨_,⟨a,b,rfl,⟨h1,h2⟩,rfl⟩,hK⟩;have la:(Px a).length=a.length:=zaw _;have lb:(Px b).length=b.length:=zaw _;by_cases hl:a.length=b.length
 case neg=>
  have dI:¬a=b:=λe=>hl (by rw[e])
  (repeat'((conv=>whnf);first|refine au ab ?_|refine dq λ_=>?_|fail))<;>try(conv=>whnf)
  exact⟨.pv (.bool _),rfl,trivial,hK false (by simp only[dI,zbZ])⟩
 (repeat'((conv=>whnf);first|refine aw ab ?_|refine dq λ_=>?_|fail))<;>try(conv=>whnf)
 refine⟨λm env σ=>∃n:Nat,(n+m=a.length∧∀j,j<n→∀x y,a[j]?=some x->b[j]?=some y->x=y)/\σ=[]/\env=[(0,.pv (.sl 1 (Px a))),(1,.pv (.sl 1 (Px b))),eN 5 n],a.length,⟨0,⟨ab,λj hj=>ab⟩,rfl,rfl⟩,?_⟩;rintro m env σ ⟨n,⟨hn,h0⟩,rfl,rfl⟩;by_cases aU:n<a.length
 ·obtain⟨x,hx⟩:∃x,a[n]?=some x:=⟨_,zah aU⟩
  obtain⟨y,hy⟩:∃y,b[n]?=some y:=⟨_,zah ab⟩
  have Wk:(Px a)[(n:Int).toNat]?=some (.str x):=dX (f:=PV.str) hx;have jX:(Px b)[(n:Int).toNat]?=some (.str y):=dX (f:=PV.str) hy;by_cases zn:x=y
  ·(repeat'((conv=>whnf);first|refine au ab ?_|refine⟨_,⟨ab,Wk⟩,?_⟩|refine⟨_,⟨ab,jX⟩,?_⟩|refine aw (λh=>h zn) ?_|refine bj ab ?_|refine dq λ_=>?_|refine bT ?_|fail))<;>try(conv=>whnf)
   refine⟨m-1,ab,n+1,⟨ab,λj hj x' y' dR cn=>?_⟩,rfl,rfl⟩;rcases zcb (zcl hj)with h1|h1
   ·exact h0 j h1 x' y' dR cn
   ·subst h1;rw[hx]at dR;rw[hy]at cn;cases dR;cases cn;exact zn
  ·have dI:¬a=b:=λe=>zn (arG e hx hy)
   (repeat'((conv=>whnf);first|refine au ab ?_|refine⟨_,⟨ab,Wk⟩,?_⟩|refine⟨_,⟨ab,jX⟩,?_⟩|refine dq λ_=>?_|refine bT ?_|fail))<;>try(conv=>whnf)
   exact⟨.pv (.bool _),rfl,trivial,hK false (by simp only[dI,zbZ])⟩
 ·have he:a=b:=awm hl λj x y hx hy=>h0 j (by have:=eT hx;omega) x y hx hy
  (repeat'((conv=>whnf);first|refine aw ab ?_|refine dq λ_=>?_|fail))<;>try(conv=>whnf)
  exact⟨.pv (.bool _),rfl,trivial,hK true (by simp only[he])⟩
set_option maxHeartbeats 2000000 in
def aji:MT (ay [(138,bF OO)]) AS (bF ZT):=by
 rintro _ K ⟨_,⟨a,b,rfl,⟨⟨h1,h2⟩,h3,h4⟩,rfl⟩,hK⟩;by_cases hl:a.l.length=b.l.length
 case neg=>
  have dI:¬a.l.map aB=b.l.map aB:=λe=>hl (by have:=congrArg List.length e;simpa using this)
  (repeat'((conv=>whnf);first|refine KP ?_|refine au ab ?_|refine dq λ_=>?_|fail))<;>try(conv=>whnf)
  exact⟨.pv (.bool _),rfl,trivial,hK false (by simp only[dI,zbZ])⟩
 (repeat'((conv=>whnf);first|refine KP ?_|refine aw ab ?_|refine dq λ_=>?_|fail))<;>try(conv=>whnf)
 refine⟨λm env σ=>∃n:Nat,(n+m=a.l.length∧∀j,j<n→∀x y,a.l[j]?=some x->b.l[j]?=some y->aB x=aB y)/\σ=[]/\env=[(0,.pv (D4 a)),(1,.pv (D4 b)),eN 5 n],a.l.length,⟨0,⟨ab,λj hj=>ab⟩,rfl,rfl⟩,?_⟩;rintro m env σ ⟨n,⟨hn,h0⟩,rfl,rfl⟩;by_cases aU:n<a.l.length
 ·obtain⟨x,hx⟩:∃x,a.l[n]?=some x:=⟨_,zah aU⟩
  obtain⟨y,hy⟩:∃y,b.l[n]?=some y:=⟨_,zah ab⟩
  have HO:D4 a=.sl 11 (a.l.map At.pv):=Sl.zN hx;have ko:D4 b=.sl 11 (b.l.map At.pv):=Sl.zN hy;have Wk:=dX (f:=At.pv) hx;have jX:=dX (f:=At.pv) hy;have hq:OO [x.pv,y.pv] _:=⟨x,y,rfl,⟨h3 x (zag hx),h4 y (zag hy)⟩,rfl⟩
  rw[auz]at hq;rw[HO,ko];by_cases zn:aB x=aB y
  ·(repeat'((conv=>whnf);first|refine⟨_,⟨ab,Wk⟩,?_⟩|refine⟨_,⟨ab,jX⟩,?_⟩|refine⟨_,hq,?_⟩|refine au zn ?_|refine au ab ?_|refine bj ab ?_|refine aN ?_|refine dq λ_=>?_|refine bT ?_|fail))<;>try(conv=>whnf)
   refine⟨m-1,ab,n+1,⟨ab,λj hj x' y' dR cn=>?_⟩,rfl,rfl⟩;rcases zcb (zcl hj)with h1|h1
   ·exact h0 j h1 x' y' dR cn
   ·subst h1;rw[hx]at dR;rw[hy]at cn;cases dR;cases cn;exact zn
  ·have dI:¬a.l.map aB=b.l.map aB:=λe=>zn (an1 e hx hy)
   (repeat'((conv=>whnf);first|refine⟨_,⟨ab,Wk⟩,?_⟩|refine⟨_,⟨ab,jX⟩,?_⟩|refine⟨_,hq,?_⟩|refine aw zn ?_|refine au ab ?_|refine bP ?_|refine dq λ_=>?_|refine bT ?_|fail))<;>try(conv=>whnf)
   exact⟨.pv (.bool _),rfl,trivial,hK false (by simp only[dI,zbZ])⟩
 ·have he:a.l.map aB=b.l.map aB:=ais hl λj x y hx hy=>h0 j (by have:=eT hx;omega) x y hx hy
  (repeat'((conv=>whnf);first|refine KP ?_|refine aw ab ?_|refine dq λ_=>?_|fail))<;>try(conv=>whnf)
  exact⟨.pv (.bool _),rfl,trivial,hK true (by simp only[he])⟩
def aa7(ps:List PV)(r:RV):Prop:=∃s:Sl At,ps=[D4 s]/\(s.l.length<=1000000∧∀a∈s.l,a.rn.l.length<=1000000)/\r=.fresh 41 11 ((s.l.map aB).map At.pv)
def aky:MT (ay [(55,c8 false dK)]) Al (c8 false aa7):=by
 rintro _ K ⟨_,⟨s,rfl,⟨h1,h2⟩,rfl⟩,hK⟩
 (conv=>whnf)
 refine⟨λm env σ=>∃n:Nat,n+m=s.l.length/\σ=[.row 41 11 true (((s.l.take n).map aB).map At.pv)]/\env=[(0,.pv (D4 s)),(3,.own 0),eN 4 n],s.l.length,⟨0,ab,rfl,rfl⟩,?_⟩;rintro m env σ ⟨n,hn,rfl,rfl⟩;by_cases aU:n<s.l.length
 ·obtain⟨a,ha⟩:∃a,s.l[n]?=some a:=⟨_,zah aU⟩
  have qH:D4 s=.sl 11 (s.l.map At.pv):=Sl.zN ha;have Nl:=dX (f:=At.pv) ha;have Aw:dK [a.pv] _:=⟨a,rfl,h2 a (zag ha),rfl⟩
  have hl:(((s.l.take n).map aB).map At.pv).length=n:=aH;have ht:((s.l.take (n+1)).map aB).map At.pv=((s.l.take n).map aB).map At.pv++[(aB a).pv]:=by rw[zck,ha];simp
  rw[qH]
  (repeat'((conv=>whnf);first|refine au ab ?_|refine⟨_,⟨ab,Nl⟩,?_⟩|refine⟨_,Aw,?_⟩|refine zcd ⟨by rw[hl];simp;omega,by rw[hl];simp;omega⟩ ?_|refine bj ab ?_|refine dq λ_=>?_|refine bT ?_|fail))<;>try(conv=>whnf)
  exact⟨m-1,ab,n+1,ab,by rw[ht],rfl⟩
 ·(repeat'((conv=>whnf);first|refine KP ?_|refine aw ab ?_|refine dq λ_=>?_|fail))<;>try(conv=>whnf)
  rw[za1 ab];exact⟨.fresh _ _ _,⟨rfl,rfl,rfl,rfl⟩,trivial,hK⟩
def qM(ps:List PV)(r:RV):Prop:=∃v:Vo,ps=[v.pv]/\(v.st.l.length<=1000000∧∀a∈v.st.l,a.rn.l.length<=1000000)/\r=.agg [.pv (.str v.d.a_),.pv (.str v.d.mp),.fresh 41 11 ((v.st.l.map aB).map At.pv)]
def alu:MT (ay [(65,c8 false aa7)]) Zt (c8 false qM):=by
 rintro _ K ⟨_,⟨v,rfl,h,rfl⟩,hK⟩;have hc:aa7 [D4 v.st] _:=⟨v.st,rfl,h,rfl⟩
 (repeat'((conv=>whnf);first|refine⟨_,hc,?_⟩|refine bT ?_|fail))<;>try(conv=>whnf)
 exact⟨.agg [.pv _,.pv _,.fresh _ _ _],⟨rfl,rfl,⟨rfl,rfl,rfl,rfl⟩,trivial⟩,trivial,hK⟩
def aqV(v w:Vo):Prop:=v.d.a_=w.d.a_/\v.d.mp=w.d.mp/\v.st.l.map aB=w.st.l.map aB
def eW(v:Vo):Prop:=v.st.l.length<=1000000∧∀a∈v.st.l,a.rn.l.length<=1000000
def Uq(ps:List PV)(p:Prop):Prop:=∃v w:Vo,ps=[v.pv,w.pv]/\(eW v/\eW w)/\p=aqV v w
def am9:MT (ay [(96,bF ZT)]) Zo (bF Uq):=by
 rintro _ K ⟨_,⟨v,w,rfl,⟨h1,h2⟩,rfl⟩,hK⟩;have hq:ZT [D4 v.st,D4 w.st] _:=⟨v.st,w.st,rfl,⟨⟨h1.1,h2.1⟩,h1.2,h2.2⟩,rfl⟩
 unfold aqV at hK;generalize (v.st.l.map aB=w.st.l.map aB)=P at*
 (repeat'((conv=>whnf);first|refine⟨_,hq,?_⟩|refine de (λ_=>?_) (λ_=>?_)|fail))<;>try(conv=>whnf)
 all_goals exact PN
def acj:MT (ay []) Lk (ah bA):=by
 rintro _ K ⟨_,⟨d,rfl,h,rfl⟩,hK⟩
 (repeat'((conv=>whnf);first|refine l7 ab ?_|fail))<;>try(conv=>whnf)
 exact⟨.pv (pI _),bu so,trivial,hK⟩
def NK(ps:List PV)(p:Prop):Prop:=∃(d:Dk) (c:Nat),ps=[d.pv,pI c]/\(c<8*d.mp.length/\d.mp.length<=1000000)/\p=(bH d.mp c=1)
def akm:MT (ay [(129,ah jQ)]) Sr (bF NK):=by
 rintro _ K ⟨_,⟨d,c,rfl,⟨h1,h2⟩,rfl⟩,hK⟩;obtain⟨v,hv⟩:∃v,d.mp[c/8]?=some v:=qp;have hg:d.mp[((c:Int)/8).toNat]?=some v:=by rw[show((c:Int)/8).toNat=c/8 by omega];exact hv
 have Ja:=v.toNat_lt;have e8:((c:Int)%8).toNat=c%8:=ab;have hp:=Nat.two_pow_pos (c%8);have hq:v.toNat/2^(c%8)<=v.toNat:=Nat.div_le_self _ _;have eb:bH d.mp c=v.toNat/2^(c%8)%2:=by unfold bH;rw[hv];rfl
 have e:((v.toNat:Nat):Int).tdiv ((2^(c%8):Nat):Int)=((v.toNat/2^(c%8):Nat):Int):=ZM;rw[eb]at hK;generalize v.toNat/2^(c%8)=q at*;have hdiv:∀{K:Int->Prop},K ((q:Nat):Int)->((2^((c:Int)%8).toNat:Nat):Int)≠0∧∀r:Int,r=IntKind.i64.wrap (((v.toNat:Nat):Int).tdiv ((2^((c:Int)%8).toNat:Nat):Int))->K r:=by
  intro K k;rw[e8,e];refine⟨ab,λr hr=>?_⟩;have CW:=dB hr ab;rw[CW];exact k
 (repeat'((conv=>whnf);first|refine⟨_,⟨ab,hg⟩,?_⟩|refine hdiv ?_|(refine fe ?_;first|refine bj ab ?_|refine de (λ_=>?_) (λ_=>?_)|refine l7 ab ?_|refine lW ab ?_|refine bT ?_|refine⟨_,⟨_,rfl,dY,rfl⟩,?_⟩|fail)))<;>try(conv=>whnf)
 all_goals exact YS
def ey(d:Dk):List Bool:=(List.range d.n).map λc=>decide (bH d.mp c=1)
def fg(d:Dk):(ey d).length=d.n:=by simp[ey]
def A4(ps:List PV)(r:RV):Prop:=∃d:Dk,ps=[d.pv]/\(fH d/\d.n<=8*d.mp.length)/\r=.fresh 4 1 ((ey d).map pB)
def C2:MT (ay [(31,ah bA),(82,bF NK)]) vf (c8 true A4):=by
 rintro _ K ⟨_,⟨d,rfl,⟨⟨h1,h2⟩,h3⟩,rfl⟩,hK⟩;have hn:d.n<=1000000:=so;have hc:bA [d.pv] (pI d.n):=⟨d,rfl,h1,rfl⟩
 (conv=>whnf)
 refine⟨λm env σ=>∃n:Nat,n+m=d.n/\σ=[.box 23 [.pv (.str d.a_),.pv (.str d.mp)],.row 4 1 true (((ey d).take n).map pB)]/\env=[(1,.ref 0 0 0),(3,.own 1),eN 4 n],d.n,⟨0,ab,rfl,rfl⟩,?_⟩;rintro m env σ ⟨n,hn,rfl,rfl⟩;have Vr:=fg d;by_cases aU:n<d.n
 ·have hq:NK [d.pv,pI n] _:=⟨d,n,rfl,⟨ab,h2⟩,rfl⟩
  have hl:(((ey d).take n).map pB).length=n:=by rw[zaw,zal];omega
  have ht:(ey d).take (n+1)=(ey d).take n++[decide (bH d.mp n=1)]:=by
   rw[zck];congr 1;unfold ey;rw[za9,zbz aU];rfl
  (repeat'((conv=>whnf);first|refine⟨_,hc,?_⟩|refine au ab ?_|(refine⟨_,hq,?_⟩)|(refine λ(b:Bool) (hb:b=true↔_)=>?_)|refine zcd ⟨by rw[hl];simp;omega,by rw[hl];simp;omega⟩ ?_|refine bj ab ?_|refine bT ?_|fail))<;>try(conv=>whnf)
  have t_:b=decide (bH d.mp n=1):=by rw[zaN,hb];simp
  exact⟨m-1,ab,n+1,ab,by rw[ht,zbs,t_];rfl,rfl⟩
 ·(repeat'((conv=>whnf);first|refine⟨_,hc,?_⟩|refine aw ab ?_|fail))<;>try(conv=>whnf)
  rw[za1 ab];exact⟨.fresh _ _ _,⟨rfl,rfl,rfl,rfl⟩,awY _,hK⟩
def yL(c:Nat)(o i:Int):List At->Int
 |[]=>o
 |a::r=>yL c (if c∈Dc a then i else o) (i+1) r
def afA{c:Nat}:∀{l:List At} {o i:Int} {a:At},yL c o i (l++[a])=if c∈Dc a then i+l.length else yL c o i l
 |[],o,i,a=>by simp[yL]
 |b::l,o,i,a=>by
  show yL c _ (i+1) (l++[a])=_;rw[afA,zam];split
  ·omega
  ·rfl
def b8(v:Vo):List Int:=(List.range v.d.n).map λc=>yL c (xd v.d c) 0 v.st.l
def aj3(v:Vo):(b8 v).length=v.d.n:=by simp[b8]
def aiZ{v:Vo}{c:Nat}(h:c<v.d.n):(b8 v)[c]?=some (yL c (xd v.d c) 0 v.st.l):=by
 unfold b8;rw[za9,zbz h];rfl
def NY(ps:List PV)(r:RV):Prop:=∃v:Vo,ps=[v.pv]/\U1 v/\r=.fresh 3 1 ((b8 v).map pI)
def U1.n8{v:Vo}(h:U1 v):v.d.n<=512/\v.d.n<=8*v.d.mp.length/\v.d.mp.length<=1000000/\v.d.a_.length<=1000000:=by
 obtain⟨h1,h2,h3⟩:=rX h.dk;obtain⟨_,_,b3,b4,_⟩:=iR h3;have:=h.b.1;unfold fH at this;refine⟨h2,?_,this.2,this.1⟩;unfold sx at b4;omega
set_option maxHeartbeats 4000000 in
def agb:MT (ay [(31,ah bA),(82,bF NK),(53,c8 true BU),(83,bF YX)]) Sk (c8 true NY):=by
 rintro _ K ⟨_,⟨v,rfl,hv,rfl⟩,hK⟩;obtain⟨h1,h2,h3,h4⟩:=hv.n8;have hlen:=hv.len;have sM:=hv.op;have hc:bA [v.d.pv] (pI v.d.n):=⟨v.d,rfl,h4,rfl⟩
 have sS:=aj3 v
 (conv=>whnf)
 refine⟨λm env σ=>∃n:Nat,n+m=v.d.n/\σ=[.box 26 [.pv (.str v.d.a_),.pv (.str v.d.mp),.pv (D4 v.st)],.row 3 1 true (((b8 v).take n).map pI)]/\env=[(1,.ref 0 0 0),(3,.own 1),eN 4 n],v.d.n,⟨0,ab,rfl,rfl⟩,?_⟩;rintro m env σ ⟨n,hn,rfl,rfl⟩;by_cases aU:n<v.d.n
 case neg=>
  (repeat'((conv=>whnf);first|refine⟨_,hc,?_⟩|refine aw ab ?_|fail))<;>try(conv=>whnf)
  rw[za1 ab];exact⟨.fresh _ _ _,⟨rfl,rfl,rfl,rfl⟩,dn _,hK⟩
 have hq:NK [v.d.pv,pI n] _:=⟨v.d,n,rfl,⟨ab,h3⟩,rfl⟩
 have hl:(((b8 v).take n).map pI).length=n:=by rw[zaw,zal];omega
 have ht:(b8 v).take (n+1)=(b8 v).take n++[yL n (xd v.d n) 0 v.st.l]:=by
  rw[zck,aiZ aU];rfl
 have fa:xd v.d n=if bH v.d.mp n=1 then-2 else-1:=rfl
 generalize (b8 v).take n=T at*;have aeT:(bH v.d.mp n=1/\xd v.d n= -2)\/(¬bH v.d.mp n=1/\xd v.d n= -1):=by
  by_cases hb:bH v.d.mp n=1
  ·exact .inl ⟨hb,by rw[fa,if_pos hb]⟩
  ·exact .inr ⟨hb,by rw[fa,if_neg hb]⟩
 clear fa;rcases aeT with⟨hb,fa⟩|⟨hb,fa⟩<;>rw[fa]at ht<;>((repeat'((conv=>whnf);first|refine⟨_,hc,?_⟩|refine au ab ?_|refine⟨_,hq,?_⟩|refine aw hb ?_|fail))<;>try(conv=>whnf))
 all_goals
  refine⟨λm2 env σ=>∃j:Nat,j+m2=v.st.l.length/\σ=[.box 26 [.pv (.str v.d.a_),.pv (.str v.d.mp),.pv (D4 v.st)],.row 3 1 true (T.map pI)]/\env=[(1,.ref 0 0 0),(3,.own 1),eN 4 n,eN 5 (yL n _ 0 (v.st.l.take j)),eN 6 j],v.st.l.length,⟨0,ab,rfl,rfl⟩,?_⟩;rintro m2 env σ ⟨j,hj,rfl,rfl⟩;by_cases HQ:j<v.st.l.length
  ·obtain⟨a,ha⟩:∃a,v.st.l[j]?=some a:=⟨_,zah HQ⟩
   have qH:D4 v.st=.sl 11 (v.st.l.map At.pv):=Sl.zN ha;have Nl:=dX (f:=At.pv) ha;obtain⟨q1,q2,q3⟩:=Re (sM a (zag ha));have hd:BU [a.pv] _:=⟨a,rfl,⟨ab,q3,ab⟩,rfl⟩
   have hH:YX [.sl 1 (OC (Dc a)),pI n] (Xv n∈(Dc a).map Xv):=⟨_,Xv n,rfl,by have:=ajE a;rw[zaw];omega,rfl⟩
   rw[asO]at hH;have kv:v.st.l.take (j+1)=v.st.l.take j++[a]:=by rw[zck,ha];rfl
   have hls:=λo=>afA (c:=n) (l:=v.st.l.take j) (o:=o) (i:=0) (a:=a)
   have Ap:((v.st.l.take j).length:Int)=j:=eI;simp only[Ap,Int.zero_add,<-kv]at hls;rw[qH]
   (repeat'((conv=>whnf);first|refine au ab ?_|refine⟨_,⟨ab,Nl⟩,?_⟩|refine⟨_,hd,?_⟩|refine⟨_,hH,?_⟩|refine bj ab ?_|refine de (λ_=>?_) (λ_=>?_)|refine dq λ_=>?_|fail))<;>try(conv=>whnf)
   ·rename_i x;exact⟨m2-1,ab,j+1,ab,rfl,by rw[hls,if_pos x];rfl⟩
   ·rename_i x;exact⟨m2-1,ab,j+1,ab,rfl,by rw[hls,if_neg x];rfl⟩
  ·(repeat'((conv=>whnf);first|refine KP ?_|refine aw ab ?_|refine zcd ⟨by rw[hl];simp;omega,by rw[hl];simp;omega⟩ ?_|refine bj ab ?_|refine dq λ_=>?_|refine bT ?_|fail))<;>try(conv=>whnf)
   rw[za1 ab];exact⟨m-1,ab,n+1,ab,by rw[ht,zbs];rfl,rfl⟩
def LZ(l:List Nat):List Rn:=l.foldl (λ(acc:List Rn) (c:Nat)=>Vh acc (c:Int)) []
def adb{l:List Nat}{n:Nat}{c:Nat}(h:l[n]?=some c):LZ (l.take (n+1))=Vh (LZ (l.take n)) c:=by
 unfold LZ;rw[zck,h,zc3,zc0];rfl
def asA(acc:List Rn)(c:Int):∃p q,Vh acc c=p++[q]/\q.s+q.n=c+1:=by
 rcases zcT acc with rfl|⟨p,q,rfl⟩
 ·exact⟨[],⟨c,1⟩,rfl,rfl⟩
 ·rw[zcU,xw];split
  ·exact⟨p,_,rfl,by simp only;omega⟩
  ·exact⟨p++[q],⟨c,1⟩,rfl,rfl⟩
def ayX{B:Int}{acc:List Rn}{c:Int}(h:∀q∈acc,0<=q.s/\1<=q.n/\q.s+q.n<=B)(hc:0<=c/\c<B):(∀q∈Vh acc c,0<=q.s/\1<=q.n/\q.s+q.n<=B)/\(Vh acc c).length<=acc.length+1:=by
 rcases zcT acc with rfl|⟨p,q,rfl⟩
 ·refine⟨λx hx=>?_,by simp[Hu]⟩;rw[Hu,zcS]at hx;subst hx;simp only;omega
 ·simp only[zcU]at*;have hq:=h q aj;rw[xw];split
  ·refine⟨λx hx=>?_,aj⟩;rcases zaA.1 hx with hx|hx
   ·exact h x iP
   ·rw[zcS]at hx;subst hx;simp only;omega
  ·refine⟨λx hx=>?_,aj⟩;rcases zaA.1 hx with hx|hx
   ·exact h x hx
   ·rw[zcS]at hx;subst hx;simp only;omega
def aoo{B:Nat}{l:List Nat}(h:∀c∈l,c<B):∀n,(∀q∈LZ (l.take n),0<=q.s/\1<=q.n/\q.s+q.n<=B)/\(LZ (l.take n)).length<=n
 |0=>⟨λq hq=>absurd hq (by simp[LZ]),by simp[LZ]⟩
 |n+1=>by
  obtain⟨h1,h2⟩:=aoo h n;by_cases aU:n<l.length
  ·obtain⟨c,hc⟩:∃c,l[n]?=some c:=⟨_,zah aU⟩
   rw[adb hc];have:=h c (zag hc);obtain⟨g1,g2⟩:=ayX h1 (c:=c) ab;exact⟨g1,ab⟩
  ·rw[za1 ab];rw[za1 ab]at h1 h2;exact⟨h1,ab⟩
def aqW{l:List Nat}{n:Nat}{c:Nat}(h:l[n]?=some c):∃p q,LZ (l.take (n+1))=p++[q]/\q.s+q.n=(c:Int)+1:=by
 rw[adb h];exact asA _ _
def A3(ps:List PV)(r:RV):Prop:=∃a:At,ps=[a.pv]/\(a.rn.l.length<=1000000/\(∀r∈a.rn.l,r.s= -1\/CM r)/\(xM a.rn.l).length<=1000000)/\r=.fresh 37 2 ((LZ (Dc a)).map Rn.pv)
def awf{a:At}(h:∀r∈a.rn.l,r.s= -1\/CM r):∀c∈Dc a,c<1000000:=by
 intro c hc;unfold Dc at hc;split at hc
 ·exact absurd hc aj
 ·obtain⟨r,Ql,Wo⟩:=zbA.1 hc;have h5:=h r Ql;unfold M9 at Wo;unfold CM at h5;split at Wo
  ·exact absurd Wo aj
  ·rw[zc4]at Wo;omega
def api{l:List Nat}{n c:Nat}(h:l[n]?=some c):(OC l)[(n:Int).toNat]?=some (pI (c:Int)):=by
 unfold OC;rw[zaC,za9,za9,h];rfl
set_option maxHeartbeats 4000000 in
def afz:MT (ay [(53,c8 true BU)]) S0 (c8 true A3):=by
 rintro _ K ⟨_,⟨a,rfl,⟨h1,h2,h3⟩,rfl⟩,hK⟩;have hd:BU [a.pv] _:=⟨a,rfl,⟨h1,h2,h3⟩,rfl⟩
 have Aj:=ajE a;have hdb:=awf h2;generalize Dc a=D at*;have lr:=ae9 D
 (repeat'((conv=>whnf);first|refine⟨_,hd,?_⟩|fail))<;>try(conv=>whnf)
 refine⟨λm env σ=>∃n:Nat,n+m=D.length/\σ=[.row 37 2 true ((LZ (D.take n)).map Rn.pv),.row 3 1 true (OC D)]/\env=[(3,.own 0),(4,.own 1),eN 5 n],D.length,⟨0,ab,rfl,rfl⟩,?_⟩;rintro m env σ ⟨n,hn,rfl,rfl⟩;by_cases aU:n<D.length
 case neg=>
  (repeat'((conv=>whnf);first|refine aw ab ?_|refine dq λ_=>?_|fail))<;>try(conv=>whnf)
  rw[za1 ab];exact vj
 obtain⟨c,hc⟩:∃c,D[n]?=some c:=⟨_,zah aU⟩
 have gW:=api hc;have Ck:=hdb c (zag hc);have ht:=adb hc;obtain⟨hb,Gn⟩:=aoo hdb n;cases n with
 |zero=>
  have e0:LZ (D.take 0)=[]:=rfl;rw[e0]at ht ⊢;rw[Hu]at ht
  (repeat'((conv=>whnf);first|refine au ab ?_|refine aw ab ?_|refine zcd (by simp;first|done|fail) ?_|refine zcd ⟨ab,ab⟩ ?_|refine⟨_,gW,?_⟩|refine bj ab ?_|refine dq λ_=>?_|refine bT ?_|fail))<;>try(conv=>whnf)
  all_goals exact⟨m-1,ab,1,ab,by rw[ht];rfl,rfl⟩
 |succ n=>
  obtain⟨c0,jF⟩:∃c0,D[n]?=some c0:=⟨_,zah ab⟩
  obtain⟨p,q,WZ,hqe⟩:=aqW jF;have aGt:=hdb c0 (zag jF);rw[WZ]at ht hb Gn ⊢;rw[xw]at ht;have hq:=hb q aj;have qG:(p++[q]).length=p.length+1:=aj;have kf:((p++[q]).map Rn.pv).length=(p++[q]).length:=zaw _;have XM:(((p++[q]).length:Int)-1).toNat=p.length:=ab;have fc:((p++[q]).map Rn.pv)[(((p++[q]).length:Int)-1).toNat]?=some q.pv:=by
   rw[XM,za9,zak (zai _),zcH];rfl
  have Jq:∀x:Rn,((p++[q]).map Rn.pv).set (((p++[q]).length:Int)-1).toNat x.pv=(p++[x]).map Rn.pv:=λx=>by
   rw[XM,zbs,zcY _ _ aj];simp
  have hgp:(OC D)[(((n+1:Nat):Int)-1).toNat]?=some (pI (c0:Int)):=by
   rw[show(((n+1:Nat):Int)-1)=(n:Int) by omega];exact api jF
  (repeat'((conv=>whnf);first|refine au ab ?_|refine zcd ⟨ab,ab⟩ ?_|refine⟨_,gW,?_⟩|refine⟨_,hgp,?_⟩|refine⟨_,fc,?_⟩|refine bj ab ?_|refine de (λ_=>?_) (λ_=>?_)|refine dq λ_=>?_|refine bT ?_|refine zcd cu ?_|fail))<;>try(conv=>whnf)
  ·rename_i x;rw[if_pos ab]at ht;exact⟨m-1,ab,n+1+1,ab,by rw[ht];exact congrArg (λy=>[dC.row 37 2 true y,_]) (Jq ⟨q.s,q.n+1⟩),rfl⟩
  ·rename_i x;rw[if_neg ab]at ht;exact⟨m-1,ab,n+1+1,ab,by rw[ht,zbs (l₁:=p++[q])];rfl,rfl⟩
noncomputable def acZ(d:Dk):List Rn:=ae (λc=>¬bH d.mp c=1) d.n
def abT(ps:List PV)(r:RV):Prop:=∃d:Dk,ps=[d.pv]/\(d.n<=1000/\d.n<=8*d.mp.length/\fH d)/\r=.fresh 37 2 ((acZ d).map Rn.pv)
set_option maxHeartbeats 4000000 in
def akJ:MT (ay [(31,ah bA),(82,bF NK)]) Z3 (c8 true abT):=by
 rintro _ K ⟨_,⟨d,rfl,⟨h1,h2,h4,h3⟩,rfl⟩,hK⟩;have hc:bA [d.pv] (pI d.n):=⟨d,rfl,h4,rfl⟩
 have hfp:=λn=>N0 (P:=λc=>¬bH d.mp c=1) (n:=n)
 have sD:=λn=>GJ (P:=λc=>¬bH d.mp c=1) (n:=n)
 have eH:=ah9 (λc=>¬bH d.mp c=1);unfold acZ at hK
 (conv=>whnf)
 refine⟨λm env σ=>∃n:Nat,n+m=d.n/\σ=[.box 23 [.pv (.str d.a_),.pv (.str d.mp)],.row 37 2 true ((ae (λc=>¬bH d.mp c=1) n).map Rn.pv)]/\env=[(1,.ref 0 0 0),(3,.own 1),eN 4 n],d.n,⟨0,ab,rfl,rfl⟩,?_⟩;rintro m env σ ⟨n,hn,rfl,rfl⟩;by_cases aU:n<d.n
 case neg=>
  (repeat'((conv=>whnf);first|refine⟨_,hc,?_⟩|refine aw ab ?_|fail))<;>try(conv=>whnf)
  have:n=d.n:=ab;subst this;exact vj
 have hq:NK [d.pv,pI n] _:=⟨d,n,rfl,⟨ab,h3⟩,rfl⟩
 by_cases hu:bH d.mp n=1
 ·have ht:=sD n (λh=>h hu);generalize ae (λc=>¬bH d.mp c=1) n=T at*
  (repeat'((conv=>whnf);first|refine⟨_,hc,?_⟩|refine au ab ?_|refine⟨_,hq,?_⟩|refine bj ab ?_|fail))<;>try(conv=>whnf)
  exact⟨m-1,ab,n+1,ab,by rw[ht],rfl⟩
 have ht:=hfp n hu;obtain⟨hb,Gn⟩:=eH n;generalize ae (λc=>¬bH d.mp c=1) n=T at*;rcases zcT T with rfl|⟨p,q,rfl⟩
 ·rw[Hu]at ht
  (repeat'((conv=>whnf);first|refine⟨_,hc,?_⟩|refine au ab ?_|refine⟨_,hq,?_⟩|refine aw hu ?_|refine aw (by simp;first|done|fail) ?_|refine zcd (by simp;first|done|fail) ?_|refine bj ab ?_|refine dq λ_=>?_|refine bT ?_|fail))<;>try(conv=>whnf)
  exact⟨m-1,ab,n+1,ab,by rw[ht];rfl,rfl⟩
 ·simp only[zcU]at*;rw[xw]at ht;have hq2:=hb q aj;have qG:(p++[q]).length=p.length+1:=aj;have XM:(((p++[q]).length:Int)-1).toNat=p.length:=ab;have kf:((p++[q]).map Rn.pv).length=(p++[q]).length:=zaw _;have fc:((p++[q]).map Rn.pv)[(((p++[q]).length:Int)-1).toNat]?=some q.pv:=by
   rw[XM,za9,zak (zai _),zcH];rfl
  have Jq:∀x:Rn,((p++[q]).map Rn.pv).set (((p++[q]).length:Int)-1).toNat x.pv=(p++[x]).map Rn.pv:=λx=>by
   rw[XM,zbs,zcY _ _ aj];simp
  (repeat'((conv=>whnf);first|refine⟨_,hc,?_⟩|refine au ab ?_|refine⟨_,hq,?_⟩|refine aw hu ?_|refine⟨_,fc,?_⟩|refine bj ab ?_|refine de (λ_=>?_) (λ_=>?_)|refine dq λ_=>?_|refine Q3 ab ?_|refine bT ?_|refine zcd cu ?_|fail))<;>try(conv=>whnf)
  ·rename_i y;rw[if_pos ab]at ht;exact⟨m-1,ab,n+1,ab,by rw[ht];exact congrArg (λy=>[_,dC.row 37 2 true y]) (Jq ⟨q.s,q.n+1⟩),rfl⟩
  ·rename_i y;rw[if_neg ab]at ht;exact⟨m-1,ab,n+1,ab,by rw[ht,zbs (l₁:=p++[q])];rfl,rfl⟩
end Go.Dv.Try
