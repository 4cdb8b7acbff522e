/- Own work: parts of the proof, shortened and laid together by a tool of our own. -/
import Derived.Test.YtklihepoaoceoaaGreatP3
import Derived.KernelRfl
import Derived.MapKept
set_option linter.defProp false
set_option linter.unusedSimpArgs false
set_option linter.unusedVariables false
open List renaming getElem?_eq_getElem→zah, take_of_length_le→za1, length_map→zaw, mem_of_getElem?→zag, length_append→zad, take_add_one→zcM, length_take→zal, map_append→zaY, take_length→zcP, length_cons→zap, drop_eq_nil_of_le→zb7, getElem?_map→zaD, append_assoc→zaj, drop_eq_getElem_cons→zcf, length_pos_iff→zb9, mem_map→zaX, mem_of_mem_take→za5, not_mem_nil→zb6, getElem?_range→zbD, length_set→za0, getElem?_set_self→zbO, flatMap_cons→zan, length_replicate→zaq, mem_of_getLast?→zcS, pairwise_append→zcT, mem_cons→zax, mem_append→zaA, length_nil→zbh, nil_append→zaZ, getLast?_eq_getElem?→zcU, map_replicate→zcp, getElem?_take_of_lt→zcV, map_set→zcW, mem_range→zbp, pairwise_singleton→zcZ, mem_flatten→zc0, take_append_drop→zaF, append_nil→zbg, getLast?_eq_some_getLast→zc1, dropLast_concat_getLast→zc2, filter_append→zbV, map_take→zc3, map_cons→zau, map_drop→zc5, length_range→zc6, cons_append→zbe, length_drop→zay, getElem?_cons_zero→zc8, mem_filter→zbq, range_succ→zc9, length_filter_le→zda, set_append_right→zdb, drop_zero→zdc, getElem?_set_ne→zdd, dropLast_subset→zde, sum_cons→zdf, any_cons→zdg, filter_eq_self→zbT, drop_set_of_lt→zdh, map_inj_right→zco, map_nil→zcr, mem_singleton→zdj, any_nil→zdk, pairwise_cons→zdl, any_eq_false→zdm, ext_getElem?→zbb, getElem_mem→zdn, all_eq_true→zbr, mem_flatMap→zbB, any_append→zdr, foldl_cons→zbi, take_left→zbm, drop_left→zbn, drop_take→zds
open And renaming intro→zcv
open Decidable renaming not_not→zcN
open Bool renaming false_eq_true→zcO, or_false→zc4, toNat_false→zdo, and_eq_true→zaT, eq_iff_iff→zaN, or_eq_true→zbF, toNat_true→zdq
open Int renaming toNat_natCast→zaC, eq_ofNat_of_zero_le→zcX, ediv_ediv_of_nonneg→zcY
open Nat renaming lt_or_eq_of_le→zcQ, le_refl→zai, le_of_lt_succ→zcR, mul_comm→zc7, pow_le_pow_right→zb4, lt_of_lt_of_le→zae, sub_self→zcc
open Option renaming getD_some→zbE, toList_some→zdi, map_some→zb1
open UInt8 renaming toNat_inj→zdp
set_option maxHeartbeats 16000000
noncomputable section
namespace Go.Dv.Try
open Go Go.Dv Go.RowKit Go.Shelf
def jpI{a b:Int}(h:a=b):AV.pv (pI a)=AV.pv (pI b):=by rw[h]
def afj(hΓ:Sound Go.Proofs.Tryz.prog (ao [])):Yo Go.Proofs.Tryz.prog 255 auU:=by
 intro m w dV ep vs L b_ lf hit;obtain⟨l,rfl,hl,rfl⟩:=hit;have hf:Go.Proofs.Tryz.prog.funcs[255]?=some Go.Proofs.Tryz.f255:=ae;obtain⟨A,B,C,R,id,o0,o1,o2,o3,o4,o5,o6,o7,o8,o9,o10,o11,BG,cA,cB,cC,cR,⟨g0,d0,p0⟩,⟨g1,d1,p1⟩,⟨g2,d2,p2⟩,⟨g3,d3,p3⟩,⟨g4,d4,p4⟩,⟨g5,d5,p5⟩,⟨g6,d6,p6⟩,⟨g7,d7,p7⟩,⟨g8,d8,p8⟩,⟨g9,d9,p9⟩,⟨g10,d10,cc,p10,aBw,aBx⟩,⟨g11,d11,tt,p11⟩⟩:=atz;refine⟨?_,Go.Proofs.enters_of hf ae BG⟩;obtain⟨v1,v2,rfl,r1,r2⟩:∃v1 v2,vs= #[v1,v2]/\Rd dV w (.cptr (.sl 1 (l.map pI))) v1/\Rd dV w (.cptr (pI 16)) v2:=by
  simp only[cz]at lf;obtain⟨v1,t,e1,r1,v2,t2,rfl,r2,rfl⟩:=lf;exact⟨v1,v2,TZ,r1,r2⟩
 have r1':=r1;simp only[Rd]at r1';obtain⟨b1,q1,rfl,xI,_,u1,ZW,ad,cp,hu1,hle,hcp,jH⟩:=r1';have hru:Rd dV w (.sl 1 (l.map pI)) u1:=by simp only[Rd];exact⟨ad,cp,hu1,hle,hcp,jH⟩
 subst hu1;have hlen:(l.map pI).length=l.length:=zaw ..
 let en:{ k:Nat//k<ez l.length }->Array Value:=λk=> #[.slice (ad.map (·.add (16*k.1*1))) (min (16*k.1+16) l.length-16*k.1) (min (16*k.1+16) l.length-16*k.1)]
 let yl:{ k:Nat//k<ez l.length }->CK:=λk=>[.sl 1 ((cP l k.1).map pI)]
 have aM:∀k,k<ez l.length->16*k<l.length:=by intro k E;unfold ez at E;omega
 refine⟨{ k:Nat//k<ez l.length },yl,en,λk=>⟨?_,?_⟩,?_⟩
 ·show _∈iC l;unfold iC chunks;rw[List.map_map];exact zaX.2 ⟨k.1,zbp.2 k.2,rfl⟩
 ·show cz dV w [_] [_];simp only[cz];refine⟨_,_,rfl,?_,rfl⟩;rw[<-fF,ac1,hlen];exact ar7 hru (by have:=aM k.1 k.2;omega) (by rw[hlen];omega)
 intro yy hr Jx hi I hJ hJx hY h0;have hcW:∀b o,dV b->hi.cell? ⟨b,o,none⟩=w.cell? ⟨b,o,none⟩:=λb o nN=>World.cell?_of_block (I.block b (b_ b nN))
 refine callsIn_of_wp hf BG trivial ?_;have it0:Jt 31 dV yy (.pointer (some ⟨b1,q1,none⟩)) v2 (.cptr (.sl 1 (l.map pI))) (.cptr (pI 16)) { tmps:=(#[Value.func (.yield yy) #[] #[]]++ #[.pointer (some ⟨b1,q1,none⟩),v2])++Array.replicate (Go.Proofs.Tryz.f255.ntmps-(#[Value.func (.yield yy) #[] #[]]++ #[.pointer (some ⟨b1,q1,none⟩),v2]).size) undef,defers:=[] } hi:=by
  have hn:Go.Proofs.Tryz.f255.ntmps-(#[Value.func (.yield yy) #[] #[]]++ #[.pointer (some ⟨b1,q1,none⟩),v2]).size=28:=by
   rw[show Go.Proofs.Tryz.f255.ntmps=31 by kernel_rfl];rfl
  rw[hn];obtain⟨a0,a1,a2,a3⟩:=LQ (Value.func (.yield yy) #[] #[]) (.pointer (some ⟨b1,q1,none⟩)) v2 28;exact⟨a3,rfl,a0,a1,a2,Rd.mono (λ_ h=>h) hcW _ _ r1,Rd.mono (λ_ h=>h) hcW _ _ r2,λb nN=>zae (b_ b nN) I.size⟩
 generalize ({ tmps:=(#[Value.func (.yield yy) #[] #[]]++ #[.pointer (some ⟨b1,q1,none⟩),v2])++Array.replicate (Go.Proofs.Tryz.f255.ntmps-(#[Value.func (.yield yy) #[] #[]]++ #[.pointer (some ⟨b1,q1,none⟩),v2]).size) undef,defers:=[] }:Act)=aBg at it0;refine wpIn_seq (it0.piece hΓ (ps:=[1,2,4,5]) cA rfl rfl (it0.Ob [] ab) (q:=λe f=>e=.normal/\f 4=.pv (pI 0)) ⟨rfl,rfl⟩ m _ ?_);intro e aBh W1 VI σ1 fY it1 hg1 wL hq1;cases e with
 |exit i=>exact II
 |ret=>exact II
 |normal=>
  obtain⟨_,h14⟩:=hq1;have t14:=Jt.num wL h14;have j1:hr [] W1:=hJ [] hi W1 none h0 hg1 (λr e=>bh);have tU:∀W':World,W'.heap[b1]?=w.heap[b1]?->W'.cell? ⟨b1,q1,none⟩=some (.slice ad l.length cp):=by
   intro W' h;rw[World.cell?_of_block h,ZW,hlen]
  have hgr:∀{A B:World},A.grownBy B none->b1<A.heap.size->A.heap[b1]?=w.heap[b1]?->B.heap[b1]?=w.heap[b1]?:=λhg U H=>(hg.block b1 U (λe=>bh)).trans H
  have hW1:W1.heap[b1]?=w.heap[b1]?:=hgr hg1 (zae (b_ b1 xI) I.size) (I.block b1 (b_ b1 xI));refine wpIn_block ?_;refine wpIn_loop (λact hi=>∃(k:Nat) (pre:List { k:Nat//k<ez l.length }),Jt 31 dV yy (.pointer (some ⟨b1,q1,none⟩)) v2 (.cptr (.sl 1 (l.map pI))) (.cptr (pI 16)) act hi/\hi.heap[b1]?=w.heap[b1]?/\act.tmps.getD 4 undef=.int .i64 ((16*k:Nat):Int)/\hr pre hi/\pre.map yl=(iC l).take k/\k<=ez l.length) (λact _=>(l.length+16-intOf (act.tmps.getD 4 undef)).toNat)
   ⟨0,[],it1,hW1,t14,j1,ab,V⟩ ?_
  clear t14 j1 it1 wL h14;rintro act hi ⟨k,pre,it,hW,t4,hj,hL,E⟩;refine wpIn_seq (it.piece hΓ (ps:=[1,2,4,5]) cB rfl rfl (it.Ob [(4,((16*k:Nat):Int))] (by intro q hq;simp only[zax,zb6,or_false]at hq;rcases hq with rfl;exact t4)) (q:=λe f=>f 4=.pv (pI ((16*k:Nat):Int))/\((e=.normal/\16*k<l.length)\/(e=.exit 0∧¬16*k<l.length))) ?vcB m _ ?_)
  case vcB=>
   refine λ_=>?_
   refine λb I=>?_
   rw[hlen]at I;rcases cmp I with⟨rfl,h⟩|⟨rfl,h⟩
   ·exact⟨rfl,.inl ⟨rfl,V⟩⟩
   ·exact⟨rfl,.inr ⟨rfl,V⟩⟩
  intro e aFe W2 D_ σ2 eH it2 T9 tT hq2;have j2:hr pre W2:=hJ pre hi W2 none hj T9 (λr e=>bh);have hW2:=hgr T9 (it.ok b1 xI) hW;cases e with
  |ret=>exact(by obtain⟨_,h|h⟩:=hq2<;>cases h.1)
  |exit i=>
   obtain⟨h24,F⟩:=hq2;obtain⟨rfl,F⟩:i=0∧¬16*k<l.length:=by
    rcases F with⟨h,_⟩|⟨h,h'⟩
    ·cases h
    ·injection h with h;exact⟨h,h'⟩
   refine⟨it2.defs,.tuple #[],results_none rfl _ _ _,⟨_,rfl⟩,.inl ⟨pre,?_,j2⟩⟩;show pre.map yl=iC l;rw[hL,za1];simp only[iC,chunks,zaw,zc6];unfold ez at E ⊢;omega
  |normal=>
   obtain⟨h24,F⟩:=hq2;have hkl:16*k<l.length:=ab8;have hkc:k<ez l.length:=KA;have t24:=Jt.num tT h24;clear tT h24 F T9 it hj hW;have hM:∀(KL:Act) (W5:World) (Ui:List { k:Nat//k<ez l.length }),Jt 31 dV yy (.pointer (some ⟨b1,q1,none⟩)) v2 (.cptr (.sl 1 (l.map pI))) (.cptr (pI 16)) KL W5->W5.heap[b1]?=w.heap[b1]?->KL.tmps.getD 4 undef=.int .i64 ((16*k:Nat):Int)->hr Ui W5->Ui.map yl=(iC l).take (k+1)->
    R.wpIn Fence.wide m Go.Proofs.Tryz.prog (Exit.then (λwm W'=>(∃(k:Nat) (pre:List { k:Nat//k<ez l.length }),Jt 31 dV yy (.pointer (some ⟨b1,q1,none⟩)) v2 (.cptr (.sl 1 (l.map pI))) (.cptr (pI 16)) wm W'/\W'.heap[b1]?=w.heap[b1]?/\wm.tmps.getD 4 undef=.int .i64 ((16*k:Nat):Int)/\hr pre W'/\pre.map yl=(iC l).take k/\k<=ez l.length)/\(l.length+16-intOf (wm.tmps.getD 4 undef)).toNat<(l.length+16-intOf (act.tmps.getD 4 undef)).toNat)
     (Exit.inBlock 0 (bodyPost Go.Proofs.Tryz.prog Go.Proofs.Tryz.f255 λe W'=>(∃v,e=.returned v)/\((∃xs,(λxs=>xs.map yl=iC l) xs/\hr xs W')\/(∃pre,(λpre=>pre.map yl<+:iC l) pre/\Jx pre W'))))) KL W5:=by
    intro KL W5 Ui it5 hW5 t54 j5 hL5;refine it5.piece hΓ (ps:=[1,2,4,5]) cR rfl rfl (it5.Ob [(4,((16*k:Nat):Int))] (by intro q hq;simp only[zax,zb6,or_false]at hq;rcases hq with rfl;exact t54)) (q:=λe f=>e=.normal/\f 4=.pv (pI ((16*(k+1):Nat):Int))) ?_ m _ ?_
    ·refine λx T=>?_
     replace T:=jb T V;subst T;exact⟨rfl,jpI (by push_cast;omega)⟩
    ·intro e aqE W6 aBk σ6 avo it6 hg6 hr6 hq6;cases e with
     |normal=>
      obtain⟨_,Uj⟩:=hq6;have t64:=Jt.num hr6 Uj;refine⟨⟨k+1,Ui,it6,hgr hg6 (it5.ok b1 xI) hW5,t64,hJ Ui W5 W6 none j5 hg6 (λr e=>bh),hL5,hkc⟩,?_⟩;rw[t64,t4];show((l.length:Int)+16-((16*(k+1):Nat):Int)).toNat<((l.length:Int)+16-((16*k:Nat):Int)).toNat;omega
     |exit i=>exact zw
     |ret=>exact zw
     |_=>exact hq6.elim
   have qk:pre.length=k:=by
    have:=congrArg List.length hL;simp only[zaw,zal,iC,chunks,zc6]at this;omega
   have T:k<ez l.length:=hkc;have zS:(pre++[(⟨k,T⟩:{ k:Nat//k<ez l.length })]).map yl=(iC l).take (k+1):=by
    have e:(iC l)[k]?=some (yl ⟨k,T⟩):=by
     simp only[iC,chunks,zaD,zbD T,zb1];rfl
    rw[zaY,hL,zcM,e];rfl
   have hE':((min (16*k+16) l.length:Nat):Int)=((16*k:Nat):Int)+min 16 ((l.length:Int)-16*k):=V;refine wpIn_seq (wpIn_block ?_);refine wpIn_seq (it2.piece hΓ (ps:=[1,2,4,5]) cC rfl rfl (it2.Ob [(4,((16*k:Nat):Int))] (by intro q hq;simp only[zax,zb6,or_false]at hq;rcases hq with rfl;exact t24)) (q:=λe f=>e=.normal/\f 4=.pv (pI ((16*k:Nat):Int))/\f 5=.pv (pI (min 16 ((l.length:Int)-16*k)))) ?vcC m _ ?_)
   case vcC=>
    refine Gq ?_
    (conv=>whnf)
    refine zcv ⟨V,by rw[hlen];omega⟩ ?_
    (conv=>whnf)
    refine λx T=>?_
    rw[qS _ _ _ (zai _),hlen]at T;refine zcv ae ⟨rfl,rfl,jpI ?_⟩;rw[T];omega
   intro e at2 W3 Uf σ3 pO it3 hg3 hr3 hq3;have j3:hr pre W3:=hJ pre W2 W3 none j2 hg3 (λr e=>bh);have hW3:=hgr hg3 (it2.ok b1 xI) hW2;cases e with
   |exit i=>exact(by obtain⟨h,_⟩:=hq3;cases h)
   |ret=>exact(by obtain⟨h,_⟩:=hq3;cases h)
   |normal=>
    obtain⟨_,h34,h35⟩:=hq3;have t34:=Jt.num hr3 h34;have t35:=Jt.num hr3 h35;clear hr3 h34 h35 hg3 it2 j2 hW2 t24;refine wpIn_seq (wpIn_region ?_);show wpOpsIn Fence.wide m _ _ _ [0,1,2,3,4,5,6,7,8,9,10,11] at2 W3;have hF:=E_.H7 it3.t0 (.H7 it3.t1 (.H7 t34 (.H7 t35 .azV)));refine it3.Lh hF rfl g0 d0 p0 rfl λa0 i0 hF=>?_
    refine i0.mO hF rfl g1 d1 p1 (amP p1 (hF 1 _ rfl) Go.Proofs.Tryz.isAgg42 (tU W3 hW3)) λa1 i1 hF=>?_
    refine i1.Lh hF rfl g2 d2 p2 rfl λa2 i2 hF=>?_
    refine i2.Lh hF rfl g3 d3 p3 rfl λa3 i3 hF=>?_
    refine i3.Lh hF rfl g4 d4 p4 rfl λa4 i4 hF=>?_
    refine i4.mO hF rfl g5 d5 p5 (aic p5 (hF 22 _ rfl) (hF 23 _ rfl) V) λa5 i5 hF=>?_
    refine i5.Lh hF rfl g6 d6 p6 rfl λa6 i6 hF=>?_
    refine i6.Lh hF rfl g7 d7 p7 rfl λa7 i7 hF=>?_
    refine i7.mO hF rfl g8 d8 p8 (aic p8 (hF 25 _ rfl) (hF 26 _ rfl) V) λa8 i8 hF=>?_
    refine i8.mO (v:=.slice (ad.map (·.add (16*k*1))) (min (16*k+16) l.length-16*k) (min (16*k+16) l.length-16*k)) hF rfl g9 d9 p9 ((ae1 p9 Go.Proofs.Tryz.underlying42 Go.Proofs.Tryz.sizeOf3 (hF 20 _ rfl) (hF 21 _ rfl) (by rw[hF 24 _ rfl,<-hE']) (by rw[hF 27 _ rfl,<-hE']) V (by rw[hlen]at hle;omega)).trans (by rw[if_neg V])) λa9 k9 hF=>?_
    obtain⟨fn,tm,asg,bd,hy,hR⟩:=hY pre ⟨k,T⟩ W3 j3 (by show(iC l)[pre.length]?=some (yl ⟨k,T⟩);rw[qk];simp only[iC,chunks,zaD,zbD T,zb1];rfl);refine abF rfl g10 d10 p10 aBw aBx (l:=yy) (hF 19 _ rfl) ?_;rw[hF 28 _ rfl];refine⟨fn,tm,asg,bd,hy,hR.mono ?_⟩;rintro e W8 (⟨rfl,j8,k8⟩|⟨rfl,jx8⟩)
    ·refine⟨_,rfl,?_⟩;have i8:=k9.kept k8;have hW8:W8.heap[b1]?=w.heap[b1]?:=(k8.2 b1 xI).trans hW3;have hF:=hF.arE (d:=29) (v:=.bool true) (by rw[k9.size];omega);refine(i8.put (q:=29) (v:=.bool true) V V).mO hF rfl g11 d11 p11 (OS p11 (hF 29 _ rfl)) λa11 k11 hF=>?_
     exact wpIn_cond_false (hF 30 _ rfl) (wpIn_skip (hM a11 W8 (pre++[⟨k,T⟩]) k11 hW8 (hF 4 _ rfl) j8 zS))
    ·refine⟨_,rfl,?_⟩;have n10:(a9.put (some 29) (.bool false)).tmps.getD 29 undef=.bool false:=by rw[sc (by rw[k9.size];omega),if_pos rfl]
     have s10:(a9.put (some 29) (.bool false)).tmps.size=31:=(vY ..).trans k9.size;have e10:(a9.put (some 29) (.bool false)).defers=[]:=k9.defs;generalize a9.put (some 29) (.bool false)=a10 at n10 s10 e10;refine Jc rfl g11 d11 (OS p11 n10) (λc F=>by have:=p11.symm.trans F;cases this) ?_;have n11:(a10.put (some 30) (.bool (!false))).tmps.getD 30 undef=.bool true:=by rw[sc (by rw[s10];omega),if_pos rfl];rfl
     have e11:(a10.put (some 30) (.bool (!false))).defers=[]:=e10;generalize a10.put (some 30) (.bool (!false))=a11 at n11 e11;refine wpIn_cond_true n11 (wpIn_ret ?_);refine⟨e11,.tuple #[],results_none rfl _ _ _,⟨_,rfl⟩,.inr ⟨pre++[⟨k,T⟩],?_,jx8⟩⟩;show(pre++[(⟨k,T⟩:{ k:Nat//k<ez l.length })]).map yl<+:iC l;rw[zS];exact List.take_prefix _ _
   |_=>exact hq3.elim
  |_=>exact hq2.elim
 |_=>exact hq1.elim
end Go.Dv.Try
namespace Go.Dv.Try
open Go Go.Dv
def ES:Spec:={ lone:=false,fn:=false,run:=λ_ _=>False,iter:=auU,mu:=false,j0:=λ_ _ _=>False }
def aez(hΓ:Sound Go.Proofs.Tryz.prog (ao [])):bQ Go.Proofs.Tryz.prog 255 ES:=
 ⟨(λe=>bh),(λe=>bh),(λ_ _ _ _ _ _ _ _ h=>(show False from h).elim),(afj hΓ).x,(λ_ _ _ _ _ _ _ _ e=>bh)⟩
abbrev z7(l:OG):PV:=.sl 1 (l.map pI)
def ag6:Spec:=AT false false λps K=>∃(l:OG),ps=[z7 l,pI 16]/\K (.pv (.clo 255 [.cptr (z7 l),.cptr (pI 16)]))
def abG:MT (ao [(255,ES)]) pC ag6:=by
 rintro _ K ⟨l,rfl,Y⟩;refine ar (p:=(16:Int)<1) V ?_;exact rC
def csP(cs:List (OG)):PV:=match cs with|[]=>.nil 0|cs=>.sl 1 (cs.map z7)
def afm{cs:List (OG)}(h:cs≠[]):csP cs=.sl 1 (cs.map z7):=by
 cases cs with
 |nil=>grind
 |cons _ _=>rfl
def CS{cs:List (OG)}{Z:ax}{K:Nat->CK->Prop}(k:∀s,K s (cs.map z7)):AL Z (.pv (csP cs)) K:=by
 cases cs with
 |nil=>exact k 0
 |cons c cs=>exact k 1
def auj:Spec:=AT false false λps K=>∃(l:OG),ps=[.nil 0,.clo 255 [.cptr (z7 l),.cptr (pI 16)]]/\l.length<=1000000/\K (.pv (csP (chunks l)))
def Ow:MT (ao [(255,ES)]) lT auj:=by
 rintro _ K ⟨l,rfl,hl,Y⟩;refine⟨_,λpre Z=>∃cs:List (OG),pre=cs.map (λc=>[z7 c])/\Z=(match cs with|[]=>[.box 196 [.pv (.nil 0)],.row 42 1 true []]|cs=>[.box 196 [.own 2],.row 42 1 true [],.row 42 1 true (cs.map z7)]),⟨l,rfl,hl,rfl⟩,?_,⟨rfl,[],rfl,rfl⟩,?_,?_⟩
 ·intro x T;simp only[iC,zaX]at T
  grind
 ·rintro pre x Z T hlen ⟨cs,rfl,rfl⟩;simp only[iC,zaX]at T;obtain⟨c,_,rfl⟩:=T;have iX:=by
   simp only[zaw,iC,chunks,zc6,ez]at hlen;omega
  cases cs with
  |nil=>
   refine⟨rfl,?_⟩;refine⟨⟨ab,ab⟩,?_⟩;refine⟨rfl,?_⟩;exact⟨rfl,rfl,[c],rfl,rfl⟩
  |cons d cs=>
   refine⟨rfl,?_⟩;refine⟨⟨au,au⟩,?_⟩;refine⟨rfl,?_⟩;exact⟨rfl,rfl,d::cs++[c],ab,ab⟩
 ·rintro Z ⟨cs,nO,rfl⟩;have:=by
   exact(zco (f:=λc=>[z7 c]) (λx y e=>by
    simp only[List.cons.injEq,PV.sl.injEq,true_and,and_true]at e;exact(zco (λa b e=>au)).1 e)).1 nO.symm
  subst this;cases h:chunks l with
  |nil=>
   rw[h]at Y;exact Qu
  |cons d cs=>
   rw[h]at Y;exact rC
def WL:Spec:=AT false false λps K=>∃(l:OG),ps=[.clo 255 [.cptr (z7 l),.cptr (pI 16)]]/\l.length<=1000000/\K (.pv (csP (chunks l)))
def UM:MT (ao [(254,auj)]) sm WL:=by
 rintro _ K ⟨l,rfl,hl,Y⟩;refine⟨l,rfl,hl,?_⟩;cases h:chunks l with
 |nil=>rw[h]at Y;exact Qu
 |cons d cs=>rw[h]at Y;exact rC
def BQ(s:P8)(n c near:Int):Int:=Ss (gP s n) ((1<=c/\c<=4096)/\0<=near/\near<=4095)
def L7:Spec:=AT false false λps K=>∃(s:P8) (n c near:Int),ps=[.str s,pI n,.agg [pI c,pI near]]/\s.length<=1000000/\K (.tup [.agg [.row 5 1 (s.map aG),.pv (pI n)],.pv (pI (BQ s n c near))])
def UE:MT (ao [(179,ZO),(180,vO),(128,ah iI),(181,dU cf)]) yR L7:=by
 rintro _ K ⟨s,n,c,near,rfl,hs,Y⟩;unfold BQ Ss at Y;by_cases he:gP s n=0
 ·simp only[he,ne_eq,not_true_eq_false,if_false]at Y
  (repeat'(refine fq ?_;first|refine dc (λ_=>?_) (λ_=>?_)|refine aY ?_|refine⟨_,⟨_,_,rfl,rfl⟩,?_⟩|refine⟨_,⟨_,_,_,rfl,rfl⟩,?_⟩|refine⟨_,_,rfl,λh=>absurd h V,λ_=>?_⟩|refine⟨_,_,rfl,bT,?_⟩|fail))
  ·rename_i U H h3;rw[if_pos ⟨U,H⟩]at Y
   (refine⟨_,?_,?_,Y⟩<;>repeat'(first|exact rfl|exact trivial|exact aW _|exact bG _|exact bj|refine⟨?_,?_⟩))
  ·rename_i U H h3;rw[if_neg (λh=>H h.2)]at Y
   (refine⟨_,?_,?_,Y⟩<;>repeat'(first|exact rfl|exact trivial|exact aW _|exact bG _|exact bj|refine⟨?_,?_⟩))
  ·rename_i U H;rw[if_neg (λh=>U h.1)]at Y
   (refine⟨_,?_,?_,Y⟩<;>repeat'(first|exact rfl|exact trivial|exact aW _|exact bG _|exact bj|refine⟨?_,?_⟩))
 ·rw[if_pos he]at Y
  (repeat'(refine fq ?_;first|refine dc (λ_=>?_) (λ_=>?_)|refine aY ?_|refine⟨_,⟨_,_,rfl,rfl⟩,?_⟩|refine⟨_,⟨_,_,_,rfl,rfl⟩,?_⟩|refine⟨_,_,rfl,λ_=>?_,λh=>absurd h V⟩|refine⟨_,_,rfl,bT,?_⟩|fail))
  all_goals(refine⟨_,?_,?_,Y⟩<;>repeat'(first|exact rfl|exact trivial|exact aW _|exact bG _|exact bj|refine⟨?_,?_⟩))
def Eu(ps:CK)(p:Prop):Prop:=∃(r:Rn) (c:Int),ps=[r.pv,.cptr (pI c)]/\p=(r.n<c)
def Vx:MT (ao []) ou (dU Eu):=by
 rintro _ K ⟨_,⟨r,c,rfl,rfl⟩,Y⟩
 (repeat'(refine fq ?_;first|refine dc (λ_=>?_) (λ_=>?_)|fail))
 all_goals exact h_
def arU(c:Int):PV:=.clo 236 [.cptr (pI c)]
def small(c:Int)(r:Rn):Bool:=decide (r.n<c)
def ac7:Spec:=AT true false λps K=>∃(l:UH) (c:Int),ps=[.sl 2 (l.map Rn.pv),arU c]/\l.length<=1000000/\
 ((∀r∈l,small c r=false)->K (.pv (pI (-1))))∧∀(i:Nat) (r:Rn),l[i]?=some r->small c r=true->(∀r∈l.take i,small c r=false)->K (.pv (pI i))
def X5:MT (ao [(236,dU Eu)]) bq ac7:=by
 rintro _ K ⟨l,c,rfl,hl,yd,qO⟩
 (repeat'(refine fq ?_;first|refine cT λ_=>?_|fail))
 refine⟨λm env Z=>∃i:Nat,(i+m=l.length∧∀r∈l.take i,small c r=false)/\Z=[]/\env=[(0,.pv (.sl 2 (l.map Rn.pv))),(1,.pv (arU c)),eN 7 l.length,eN 8 i],l.length,⟨0,⟨V,λr h=>bc⟩,rfl,rfl⟩,?_⟩;rintro m env Z ⟨i,⟨W,h0⟩,rfl,rfl⟩
 (repeat'(refine fq ?_;first|refine bu V ?_|refine dc (λ_=>?_) (λ_=>?_)|refine agh V (λ_ _=>?_)|refine⟨_,⟨_,_,rfl,rfl⟩,?_⟩|fail))
 ·rename_i r J h;have Y:=qO i r J (by simpa[small]using h) h0
  (refine⟨_,?_,?_,Y⟩<;>repeat'(first|exact rfl|exact trivial|exact aW _|exact bG _|exact bj|refine⟨?_,?_⟩))
 ·rename_i r J h;refine⟨m-1,V,i+1,⟨V,λx T=>?_⟩,rfl,rfl⟩;rw[zcM,J]at T;rcases zaA.1 T with T|T
  ·exact h0 x T
  ·simp at T;subst T;simpa[small]using h
 ·have:i=l.length:=by omega
  subst this;rw[zcP]at h0;have Y:=yd h0
  (refine⟨_,?_,?_,Y⟩<;>repeat'(first|exact rfl|exact trivial|exact aW _|exact bG _|exact bj|refine⟨?_,?_⟩))
def fQ(c:Int)(l:UH):UH:=l.filter λr=>!small c r
def acg(xs:XP)(Z:ax)(K:AV->ax->Prop):Prop:=
 ∃(ap:Bool) (L:UH) (c:Int),xs=[.own 0,.pv (arU c)]/\Z=[.row 103 2 ap (L.map Rn.pv)]/\L.length<=1000000/\
  (fQ c L=L->K (.own 0) [.row 103 2 ap (L.map Rn.pv)])∧∀(R:UH) (k:Nat),R.take k=fQ c L->k<=R.length->K (.sub 0 2 0 k) [.row 103 2 ap (R.map Rn.pv)]
def Yn:OQ (ao [(151,ac7),(236,dU Eu)]) bl (lZ acg):=by
 rintro _ _ K ⟨ap,L,c,rfl,rfl,hl,yd,qO⟩;refine⟨L,c,rfl,hl,λh=>?_,λi r J hs h0=>?_⟩
 ·(repeat'(refine fq ?_;first|refine ak V ?_|fail))
  refine yd ?_;unfold fQ;rw[zbT];intro r J;rw[h r J];rfl
 ·have W:=fo J
  (repeat'(refine fq ?_;first|refine bu V ?_|refine ar V ?_|fail))
  refine⟨λm env Z=>∃(k j:Nat) (R:UH),(j+m=L.length/\k<j/\R.length=L.length/\R.take k=fQ c (L.take j)/\R.drop j=L.drop j)/\Z=[.row 103 2 ap (R.map Rn.pv)]/\env=[(0,.own 0),(1,.pv (arU c)),eN 5 k,eN 6 j],L.length-(i+1),⟨i,i+1,L,⟨V,V,rfl,?_,rfl⟩,rfl,rfl⟩,?_⟩
  ·rw[zcM,J,show(some r).toList=[r]from rfl];have e1:fQ c (L.take i)=L.take i:=by
    unfold fQ;rw[zbT];intro x T;rw[h0 x T];rfl
   show _=fQ c (L.take i++[r]);unfold fQ at e1 ⊢;rw[zbV,e1];simp[hs]
  rintro m env Z ⟨k,j,R,⟨hj,hkj,hR,ht,hd⟩,rfl,rfl⟩;have tj:∀x,R[j]?=some x->L[j]?=some x:=by
   intro x T;have U:(R.drop j)[0]?=R[j]?:=IL;have H:(L.drop j)[0]?=L[j]?:=IL;rw[<-H,<-hd,U];exact T
  have hd1:R.drop (j+1)=L.drop (j+1):=aaB
  (repeat'(refine fq ?_;first|refine bu V ?_|refine bR ?_|refine ec ?_|refine dc (λ_=>?_) (λ_=>?_)|refine cT λ_=>?_|refine UF V ?_|refine aze V (λ_ _=>?_)|refine aY ?_|refine⟨_,⟨_,_,rfl,rfl⟩,?_⟩|fail))
  ·rename_i x T hns;have hxL:=tj x T;refine⟨m-1,V,k,j+1,R,⟨V,V,hR,?_,?_⟩,rfl,rfl⟩
   ·rw[ht,zcM (l:=L),hxL];unfold fQ;rw[zbV];have:small c x=true:=IF;simp[this]
   ·exact hd1
  ·rename_i x T hns y hy;have hxL:=tj x T;have e1:(R.map Rn.pv).set (k:Int).toNat (.agg [pI x.s,pI x.n])=(R.set k x).map Rn.pv:=by rw[zaC,<-iM];rfl
   refine⟨m-1,V,k+1,j+1,R.set k x,⟨V,V,by simp[hR],?_,?_⟩,congrArg (λl=>[cK.row _ _ _ l]) e1,rfl⟩
   ·rw[zcM,List.take_set,List.set_eq_of_length_le gA,zbO V,ht,zcM (l:=L),hxL];unfold fQ;rw[zbV];have hsm:small c x=false:=IF;simp[hsm]
   ·rw[zdh V];exact hd1
  ·have:j=L.length:=by omega
   subst this;rw[zcP]at ht;refine .inr ?_
   (repeat'(refine fq ?_;first|refine zcv bJ ?_|fail))
   have VH:(cut (k:Int).toNat ((k:Int).toNat+((R.map Rn.pv).length-(k:Int).toNat)) (R.map Rn.pv)).length=R.length-k:=by
    rw[aib DS,zaw,zaC];omega
   have e:((R.map Rn.pv).take (k:Int).toNat++((List.replicate (cut (k:Int).toNat ((k:Int).toNat+((R.map Rn.pv).length-(k:Int).toNat)) (R.map Rn.pv)).length (PV.agg [.int .i64 0,.int .i64 0])).take ((R.map Rn.pv).length-(k:Int).toNat))++
    (R.map Rn.pv).drop ((k:Int).toNat+min (List.replicate (cut (k:Int).toNat ((k:Int).toNat+((R.map Rn.pv).length-(k:Int).toNat)) (R.map Rn.pv)).length (PV.agg [.int .i64 0,.int .i64 0])).length ((R.map Rn.pv).length-(k:Int).toNat)))=(R.take k++List.replicate (R.length-k) (⟨0,0⟩:Rn)).map Rn.pv:=by
    rw[VH,zaq,zaw,zaC,Nat.min_self,zb7 pd,zbg,zaY,<-zc3,za1 (l:=List.replicate (R.length-k) (PV.agg [.int .i64 0,.int .i64 0])) (by rw[zaq];omega),zcp];rfl
   refine .inr ⟨by rw[e];simp;omega,?_⟩;have hh:=qO (R.take k++List.replicate (R.length-k) ⟨0,0⟩) k adD aH;rw[<-e]at hh;exact hh
def al0:Spec:=AT false false λps K=>∃(B:P8) (n c:Int),ps=[bmP B n,pI c]/\(0<=n/\n<=8*B.length/\B.length<=100000)/\K (.pv (.sl 2 ((fQ c (bf (jF B 0) n.toNat)).map Rn.pv)))
def Dy{p:Nat->Bool}{n:Nat}:(bf p n).length<=n:=(jr p n).2.1
def af3:MT (ao [(235,EB),(83,lZ acg),(236,dU Eu)]) rL al0:=by
 rintro _ K ⟨B,n,c,rfl,⟨h0,U,H⟩,Y⟩
 (repeat'(refine fq ?_;first|refine⟨_,_,_,rfl,bT,?_⟩|fail))
 have I:= @Dy (jF B 0) n.toNat;refine⟨true,bf (jF B 0) n.toNat,c,rfl,rfl,V,λh=>?_,λR k ht E=>?_⟩
 ·(conv=>whnf)
  rw[h]at Y;exact⟨.pv (.sl _ _),rfl,trivial,Y⟩
 ·(conv=>whnf)
  have e:cut 0 (0+k) (R.map Rn.pv)=(fQ c (bf (jF B 0) n.toNat)).map Rn.pv:=by
   rw[Nat.zero_add,O5,<-ht];rfl
  rw[<-e]at Y;exact⟨.pv (.sl _ _),⟨pd,rfl⟩,trivial,Y⟩
def arh{s:P8}{n c near:Int}(h:BQ s n c near=0):gP s n=0/\(1<=c/\c<=4096)/\0<=near/\near<=4095:=by
 unfold BQ Ss at h;omega
def ajc{c:Int}{l:UH}:(fQ c l).length<=l.length:=zda _ _
def ajR{p:Nat->Bool}{n:Nat}(h:n<=1000000):∀r∈bf p n,IQ r:=by
 intro r J;have:=(jr p n).1 r J;unfold IQ;omega
def qW(near c:Int)(r:Rn):Int:=min (max near r.s) (r.s+r.n-c)
def so(near c:Int)(b:Option Int)(r:Rn):Option Int:=
 match b with
 |none=>some (qW near c r)
 |some x=>if Gb (qW near c r) near<Gb x near then some (qW near c r)else some x
def Bf(near c:Int)(l:UH):Option Int:=l.foldl (so near c) none
def agj(near c:Int)(l:UH)(r:Rn):Bf near c (l++[r])=so near c (Bf near c l) r:=by simp[Bf]
def asE(o:Option Int):Int:=o.getD 0
def M8{near c:Int}{r:Rn}(hn:0<=near/\near<=4095)(J:0<=r.s/\r.s<=1000000/\0<=r.n/\r.n<=1000000)(F:0<=c/\c<=r.n):0<=qW near c r/\qW near c r<=2000000:=by
 unfold qW;omega
def acf{near c:Int}{l:UH}(hn:0<=near/\near<=4095)(F:0<=c)(hl:∀r∈l,0<=r.s/\r.s<=1000000/\0<=r.n/\r.n<=1000000/\c<=r.n):∀x,Bf near c l=some x->0<=x/\x<=2000000:=by
 suffices h2:∀(b:Option Int),(∀x,b=some x->0<=x/\x<=2000000)→∀x,l.foldl (so near c) b=some x->0<=x/\x<=2000000 from h2 none (λ_ h=>bc)
 induction l with
 |nil=>simp
 |cons r l ih=>
  intro b I;refine ih (λr J=>hl r (by simp[J])) _ ?_;intro x T;have U:=hl r ab;have H:=M8 hn ⟨U.1,U.2.1,U.2.2.1,U.2.2.2.1⟩ ⟨F,U.2.2.2.2⟩;unfold so at T
  grind
def afh:Spec:=AT true false λps K=>∃(B:P8) (n c near:Int),ps=[bmP B n,.agg [pI c,pI near]]/\(0<=n/\n<=4096/\n<=8*B.length/\B.length<=100000/\1<=c/\c<=4096/\0<=near/\near<=4095)/\K (.tup [.pv (pI (asE (Bf near c (fQ c (bf (jF B 0) n.toNat))))),.pv (pB (Bf near c (fQ c (bf (jF B 0) n.toNat))).isSome)])
def ae5:MT (ao [(182,al0),(183,ah afC)]) rZ afh:=by
 rintro _ K ⟨B,n,c,near,rfl,⟨U,H,h3,h4,h5,h6,h7,h8⟩,Y⟩;have I:= @Dy (jF B 0) n.toNat;have nj:= @ajc c (bf (jF B 0) n.toNat);have hR:∀r∈fQ c (bf (jF B 0) n.toNat),0<=r.s/\r.s<=1000000/\0<=r.n/\r.n<=1000000/\c<=r.n:=λr J=>by
  obtain⟨h9,VB⟩:=zbq.1 J;have:=(jr (jF B 0) n.toNat).1 r h9;simp[small]at VB;omega
 refine⟨B,n,c,rfl,V,?_⟩;generalize fQ c (bf (jF B 0) n.toNat)=R at*
 (repeat'(refine fq ?_;first|refine cT λ_=>?_|fail))
 refine⟨λm env Z=>∃(i:Nat),(i+m=R.length)/\Z=[.box 100 [.pv (pI c),.pv (pI near)]]/\env=[(3,.ref 0 0 0),eN 6 (asE (Bf near c (R.take i))),(7,.pv (pB (Bf near c (R.take i)).isSome)),(14,.pv (.sl 2 (R.map Rn.pv))),eN 15 R.length,eN 16 i],R.length,⟨0,V,rfl,rfl⟩,?_⟩;rintro m env Z ⟨i,W,rfl,rfl⟩;have hbd:=acf (l:=R.take i) ⟨h7,h8⟩ V (λr J=>hR r (za5 J));by_cases aM:i<R.length
 ·obtain⟨r,J⟩:∃r,R[i]?=some r:=⟨R[i],zah aM⟩
  have lV:=hR r (zag J);have e1:R.take (i+1)=R.take i++[r]:=by rw[zcM,J];rfl
  have e2:=agj near c (R.take i) r;rw[<-e1]at e2;have iX:=M8 (near:=near) (c:=c) (r:=r) ⟨h7,h8⟩ V V;generalize Bf near c (R.take i)=b at*;cases b with
  |none=>
   simp only[Option.isSome_none,asE,Option.getD_none]
   (repeat'(refine fq ?_;first|refine bu V ?_|refine ec ?_|refine ak V ?_|refine MAX ?_|refine U7 ?_|refine jP az ?_|refine aY ?_|fail))
   refine⟨m-1,V,i+1,V,rfl,?_⟩;rw[e2];rfl
  |some x=>
   simp only[Option.isSome_some,asE,zbE];have T:=hbd x rfl;unfold qW at iX
   (repeat'(refine fq ?_;first|refine bu V ?_|refine bR ?_|refine ak V ?_|refine dc (λ_=>?_) (λ_=>?_)|refine MAX ?_|refine U7 ?_|refine jP az ?_|refine aY ?_|refine⟨_,⟨_,_,rfl,bT,rfl⟩,?_⟩|fail))
   ·rename_i h;have e3:so near c (some x) r=some (qW near c r):=if_pos h;refine⟨m-1,V,i+1,V,rfl,?_⟩;rw[e2,e3];rfl
   ·rename_i h;have e3:so near c (some x) r=some x:=if_neg h;refine⟨m-1,V,i+1,V,rfl,?_⟩;rw[e2,e3];rfl
 ·(repeat'(refine fq ?_;first|refine ar V ?_|fail))
  have:i=R.length:=V;subst this;rw[zcP]
  (refine⟨_,?_,?_,Y⟩<;>repeat'(first|exact rfl|exact trivial|exact aW _|exact bG _|exact bj|refine⟨?_,?_⟩))
def Ip(s:P8)(n c near:Int):Option Int:=Bf near c (fQ c (bf (jF s 0) n.toNat))
def k7(s:P8)(n:Int):UH:=bf (jF s 0) n.toNat
def iu:Int->UH->UH
 |_,[]=>[]
 |c,r::l=>if c=0 then[]else⟨r.s,min r.n c⟩::iu (c-min r.n c) l
def lD:Int->UH->Int
 |c,[]=>c
 |c,r::l=>if c=0 then 0 else lD (c-min r.n c) l
def abT(near:Int)(L S:UH):Prop:=S.Perm L/\S.Pairwise (λx y=>zV near y x=false)
def ajU{near:Int}{L S hx:UH}(U:abT near L S)(H:abT near L hx):S=hx:=by
 have hp:S.Perm hx:=U.1.trans H.1.symm;exact hp.eq_of_pairwise (λa b _ _ hab hba=>asP hba hab) U.2 H.2
def BH(left:Int)(n:Nat):Int:=if left≠0 then 16 else if n<=64 then 0 else 8
def Yb{n:Nat}(h:n<=64):BH 0 n=0:=by unfold BH;rw[if_neg ai,if_pos h]
def G_{n:Nat}(h:¬n<=64):BH 0 n=8:=by unfold BH;rw[if_neg ai,if_neg h]
def Wh{c:Int}{n:Nat}(h:c≠0):BH c n=16:=by unfold BH;rw[if_pos h]
def afI:Spec:=AT true false λps K=>∃(s:P8) (n c near:Int),ps=[.str s,pI n,.agg [pI c,pI near]]/\s.length<=100000/\
 (BQ s n c near≠0->K (.tup [.fresh 103 2 [],.pv (pI (BQ s n c near))]))/\
 (BQ s n c near=0→∀x,Ip s n c near=some x->K (.tup [.fresh 103 2 ([(⟨x,c⟩:Rn)].map Rn.pv),.pv (pI 0)]))/\
 (BQ s n c near=0->Ip s n c near=none→∀S,abT near (k7 s n) S->
   (BH (lD c S) (iu c S).length=0->K (.tup [.fresh 103 2 ((iu c S).map Rn.pv),.pv (pI 0)]))/\(BH (lD c S) (iu c S).length≠0->K (.tup [.fresh 103 2 [],.pv (pI (BH (lD c S) (iu c S).length))])))
def PQ:MT (ao [(126,L7),(127,afh),(235,EB),(272,lZ P5),(273,ah Mp),(180,vO),(128,ah iI)]) oM afI:=by
 rintro _ K ⟨s,n,c,near,rfl,hs,yd,qO,hK3⟩;by_cases he:BQ s n c near=0
 ·obtain⟨h0,h7,h8⟩:=arh he;obtain⟨U,H,h3,h4,h5⟩:=lj h0;have qO:=qO he;have hK3:=hK3 he;unfold Ip at qO hK3
  (repeat'(refine fq ?_;first|refine ar V ?_|refine aY ?_|refine⟨_,_,_,_,rfl,bT,?_⟩|fail))
  generalize Bf near c (fQ c (bf (jF s 0) n.toNat))=b at*;cases b with
  |some x=>
   have Y:=qO x rfl
   (repeat'(refine fq ?_;first|refine aY ?_|fail))
   (refine⟨_,?_,?_,Y⟩<;>repeat'(first|exact rfl|exact trivial|exact aW _|exact bG _|exact bj|refine⟨?_,?_⟩))
  |none=>
   have hK3:=hK3 rfl
   (repeat'(refine fq ?_;first|refine⟨_,_,_,rfl,bT,?_⟩|fail))
   have I:= @Dy (jF s 0) n.toNat;have hr0:=(jr (jF s 0) n.toNat).1;refine⟨true,bf (jF s 0) n.toNat,c,near,rfl,rfl,⟨V,ajR V,by unfold Xa;omega⟩,λS hp hS=>?_⟩;obtain⟨hK4,hK5⟩:=hK3 S ⟨hp,hS⟩;have hlen:S.length<=4096:=by rw[hp.length_eq];omega
   have hS1:∀r∈S,1<=r.n/\r.n<=4096:=λr J=>by have:=hr0 r (hp.mem_iff.1 J);omega
   (repeat'(refine fq ?_;first|refine cT λ_=>?_|fail))
   refine⟨λm env Z=>∃(i:Nat) (left:Int) (out:UH),(i+m=S.length/\0<=left/\left<=4096/\out.length<=i/\out++iu left (S.drop i)=iu c S/\lD left (S.drop i)=lD c S)/\Z=[.row 103 2 true (out.map Rn.pv),.row 103 2 true (S.map Rn.pv)]/\env=[(13,.own 0),eN 14 left,(47,.own 1),eN 48 S.length,eN 49 i],S.length,⟨0,c,[],⟨V,V,V,ab,rfl,rfl⟩,rfl,rfl⟩,?_⟩;rintro m env Z ⟨i,left,out,⟨W,hl0,VH,ho,hg,hgn⟩,rfl,rfl⟩;have stop:(left=0∨¬i<S.length)->out=iu c S/\left=lD c S:=by
    intro h;rw[<-hg,<-hgn];by_cases aM:i<S.length
    ·have h0:left=0:=by rcases h with h|h;exact h;exact absurd aM h
     rw[zcf aM];subst h0;simp[iu,lD]
    ·rw[zb7 V];simp[iu,lD]
   have fin:(left=0∨¬i<S.length)->(BH left out.length=0->K (.tup [.fresh 103 2 (out.map Rn.pv),.pv (pI 0)]))/\(BH left out.length≠0->K (.tup [.fresh 103 2 [],.pv (pI (BH left out.length))])):=by
    intro h;obtain⟨e1,e2⟩:=stop h;rw[e1,e2];exact⟨hK4,hK5⟩
   by_cases aM:i<S.length
   ·obtain⟨r,J⟩:∃r,S[i]?=some r:=⟨S[i],zah aM⟩
    have wL:=hS1 r (zag J);by_cases hz:left=0
    ·obtain⟨f1,f2⟩:=fin (.inl hz);subst hz;by_cases Uj:out.length<=64
     ·have Y:=f1 (Yb Uj)
      (repeat'(refine fq ?_;first|refine ak V ?_|refine ar ai ?_|refine cT λ_=>?_|refine ox az ?_|refine UF V ?_|refine aY ?_|refine⟨_,⟨_,_,rfl,rfl⟩,?_⟩|refine⟨_,_,rfl,λh=>absurd h ai,λ_=>?_⟩|fail))
      (refine⟨_,?_,?_,Y⟩<;>repeat'(first|exact rfl|exact trivial|exact aW _|exact bG _|exact bj|refine⟨?_,?_⟩))
     ·rw[G_ Uj]at f2;have Y:=f2 ai
      (repeat'(refine fq ?_;first|refine ak V ?_|refine ar V ?_|refine ak ai ?_|refine cT λ_=>?_|refine ox az ?_|refine UF V ?_|refine aY ?_|refine⟨_,⟨_,_,rfl,rfl⟩,?_⟩|refine⟨_,_,rfl,λh=>absurd h ai,λ_=>?_⟩|fail))
      (refine⟨_,?_,?_,Y⟩<;>repeat'(first|exact rfl|exact trivial|exact aW _|exact bG _|exact bj|refine⟨?_,?_⟩))
    ·have ed:S.drop i=r::S.drop (i+1):=by
      rw[zah aM]at J;rw[zcf aM,Option.some.inj J]
     rw[ed]at hg hgn;simp only[iu,lD,if_neg hz]at hg hgn
     (repeat'(refine fq ?_;first|refine bu V ?_|refine ak V ?_|refine ar V ?_|refine U7 ?_|refine ox az ?_|refine UF V ?_|refine aY ?_|refine zcv bJ ?_|fail))
     refine⟨m-1,V,i+1,left-min r.n left,out++[⟨r.s,min r.n left⟩],⟨V,V,V,aH,?_,hgn⟩,?_,rfl⟩
     ·rw[<-hg,zaj];rfl
     ·rw[zaY];rfl
   ·obtain⟨f1,f2⟩:=fin (.inr aM);by_cases hz:left=0
    ·subst hz;by_cases Uj:out.length<=64
     ·have Y:=f1 (Yb Uj)
      (repeat'(refine fq ?_;first|refine ak V ?_|refine ar V ?_|refine ar ai ?_|refine cT λ_=>?_|refine aY ?_|refine⟨_,⟨_,_,rfl,rfl⟩,?_⟩|refine⟨_,_,rfl,λh=>absurd h ai,λ_=>?_⟩|fail))
      (refine⟨_,?_,?_,Y⟩<;>repeat'(first|exact rfl|exact trivial|exact aW _|exact bG _|exact bj|refine⟨?_,?_⟩))
     ·rw[G_ Uj]at f2;have Y:=f2 ai
      (repeat'(refine fq ?_;first|refine ak V ?_|refine ar V ?_|refine ak ai ?_|refine cT λ_=>?_|refine aY ?_|refine⟨_,⟨_,_,rfl,rfl⟩,?_⟩|refine⟨_,_,rfl,λh=>absurd h ai,λ_=>?_⟩|fail))
      (refine⟨_,?_,?_,Y⟩<;>repeat'(first|exact rfl|exact trivial|exact aW _|exact bG _|exact bj|refine⟨?_,?_⟩))
    ·rw[Wh hz]at f2;have Y:=f2 ai
     (repeat'(refine fq ?_;first|refine ak V ?_|refine ar V ?_|refine dc (λ_=>?_) (λ_=>?_)|refine cT λ_=>?_|refine aY ?_|refine⟨_,⟨_,_,rfl,rfl⟩,?_⟩|refine⟨_,_,rfl,λ_=>?_,λh=>absurd h ai⟩|fail))
     all_goals(refine⟨_,?_,?_,Y⟩<;>repeat'(first|exact rfl|exact trivial|exact aW _|exact bG _|exact bj|refine⟨?_,?_⟩))
 ·have Y:=yd he
  (repeat'(refine fq ?_;first|refine ak V ?_|refine aY ?_|refine⟨_,_,_,_,rfl,bT,?_⟩|fail))
  (refine⟨_,?_,?_,Y⟩<;>repeat'(first|exact rfl|exact trivial|exact aW _|exact bG _|exact bj|refine⟨?_,?_⟩))
def Nv(near:Int)(L:UH):UH:=L.mergeSort (λx y=>!zV near y x)
def TU(near:Int)(L:UH):abT near L (Nv near L):=by
 have ho:=EC near;refine⟨List.mergeSort_perm _ _,?_⟩;have:=List.pairwise_mergeSort (le:=λx y=>!zV near y x) (λa b c U H=>by
  simp at U H ⊢;exact ho.trans _ _ _ U H) (λa b=>by
  cases h:zV near b a with
  |false=>simp
  |true=>simp[ho.asymm _ _ h]) L
 exact this.imp λh=>rB
def Df(s:P8)(n c near:Int):UH:=
 if BQ s n c near≠0 then[]else match Ip s n c near with
  |some x=>[⟨x,c⟩]
  |none=>if BH (lD c (Nv near (k7 s n))) (iu c (Nv near (k7 s n))).length=0 then iu c (Nv near (k7 s n))else[]
def zM(s:P8)(n c near:Int):Int:=
 if BQ s n c near≠0 then BQ s n c near else match Ip s n c near with
  |some _=>0
  |none=>BH (lD c (Nv near (k7 s n))) (iu c (Nv near (k7 s n))).length
def anp{s:P8}{n c near:Int}{K:RV->Prop}(Y:K (.tup [.fresh 103 2 ((Df s n c near).map Rn.pv),.pv (pI (zM s n c near))])):
 (BQ s n c near≠0->K (.tup [.fresh 103 2 [],.pv (pI (BQ s n c near))]))/\
 (BQ s n c near=0→∀x,Ip s n c near=some x->K (.tup [.fresh 103 2 ([(⟨x,c⟩:Rn)].map Rn.pv),.pv (pI 0)]))/\
 (BQ s n c near=0->Ip s n c near=none→∀S,abT near (k7 s n) S->
 (BH (lD c S) (iu c S).length=0->K (.tup [.fresh 103 2 ((iu c S).map Rn.pv),.pv (pI 0)]))/\(BH (lD c S) (iu c S).length≠0->K (.tup [.fresh 103 2 [],.pv (pI (BH (lD c S) (iu c S).length))]))):=by
 unfold Df zM at Y;refine⟨λh=>?_,λh x T=>?_,λh T S hS=>?_⟩
 ·rw[if_pos h,if_pos h]at Y;exact Y
 ·simp only[h,T,ne_eq,not_true_eq_false,if_false]at Y;exact Y
 ·simp only[h,T,ne_eq,not_true_eq_false,if_false]at Y;have:=ajU hS (TU near (k7 s n));subst this;refine⟨λh=>?_,λh=>?_⟩
  ·simp only[if_pos h]at Y;rw[h]at Y;exact Y
  ·simp only[if_neg h]at Y;exact Y
def Ns:Spec:=AT true false λps K=>∃(s:P8) (n c near:Int),ps=[.str s,pI n,.agg [pI c,pI near]]/\s.length<=100000/\K (.tup [.fresh 103 2 ((Df s n c near).map Rn.pv),.pv (pI (zM s n c near))])
def Oh:MT (ao [(126,L7),(127,afh),(235,EB),(272,lZ P5),(273,ah Mp),(180,vO),(128,ah iI)]) oM Ns:=
 λargs K ⟨s,n,c,near,U,H,Y⟩=>PQ args K ⟨s,n,c,near,U,H,anp Y⟩
inductive Sl(α:Type) where
 |nil
 |sl (l:List α)
def Sl.l{α:Type}:Sl α->List α
 |nil=>[]
 |sl l=>l
def Sl.pv{α:Type}(f:α->PV)(sz:Nat):Sl α->PV
 |nil=>.nil sz
 |sl l=>.sl sz (l.map f)
def tD{α:Type}{f:α->PV}{sz:Nat}{s:Sl α}{K:Nat->CK->Prop}(k:K sz (s.l.map f)):AL [] (.pv (s.pv f sz)) K:=by
 cases s<;>exact k
def IXA{α:Type}{f:α->PV}{sz:Nat}{s:Sl α}{i:Nat}{K:PV->Prop}(h:i<s.l.length)(k:∀x,s.l[i]?=some x->K (f x)):
 (match s.pv f sz with
   | .sl s aw=>(match Nat.beq s sz with
    |true=>∃y,(0<=(i:Int)/\aw[(i:Int).toNat]?=some y)/\K y
    |false=>False)
   |_=>False):=by
 cases s with
 |nil=>trivial
 |sl l=>
  show(match Nat.beq sz sz with|true=>∃y,(0<=(i:Int)/\(l.map f)[(i:Int).toNat]?=some y)/\K y|false=>False);rw[Nat.beq_refl];exact⟨_,⟨V,by rw[zaC,zaD,show l[i]?=some l[i]from zah h];rfl⟩,k _ (zah h)⟩
def ae0{α:Type}{f:α->PV}{sz:Nat}{s:Sl α}{i:Nat}{x:α}{K:PV->Prop}(h:s.l[i]?=some x)(k:K (f x)):
 (match s.pv f sz with
   | .sl s aw=>(match Nat.beq s sz with
    |true=>∃y,(0<=(i:Int)/\aw[(i:Int).toNat]?=some y)/\K y
    |false=>False)
   |_=>False):=IXA (fo h) (λ_ h'=>get_inj h h'▸k)
def aDU{α:Type}{f:α->PV}{sz:Nat}{s:Sl α}{i:Int}{x:α}{K:PV->Prop}(h0:0<=i)(h:s.l[i.toNat]?=some x)(k:K (f x)):
 (match s.pv f sz with
   | .sl s aw=>(match Nat.beq s sz with
    |true=>∃y,(0<=i/\aw[i.toNat]?=some y)/\K y
    |false=>False)
   |_=>False):=by
 obtain⟨n,rfl⟩:=zcX h0;exact ae0 au k
def Sl.cells{α:Type}{f:α->PV}{sz:Nat}{s:Sl α}:(s.pv f sz).cells=[s.pv f sz]:=by cases s<;>rfl
abbrev Rs:=Sl Rn
abbrev uF(s:Sl Rn):PV:=s.pv Rn.pv 2
structure At where
 ty:Int
 nm:P8
 id:Int
 fl:Int
 rs:Bool
 vl:P8
 ft:Int
 rn:Sl Rn
 al:Int
 sz:Int
 vd:Int
def At.pv(a:At):PV:=.agg [pI a.ty,.str a.nm,pI a.id,pI a.fl,pB a.rs,.str a.vl,pI a.ft,uF a.rn,pI a.al,pI a.sz,pI a.vd]
def dn(ps:CK)(x:PV):Prop:=∃l:OG,ps=[.sl 1 (l.map pI)]/\x=pI (aZ l)
def fa:MT (ao []) xE (ah dn):=by
 rintro _ K ⟨_,⟨l,rfl,rfl⟩,Y⟩;refine λhl=>?_
 rw[zaw]at hl;refine⟨λm env Z=>∃n:Nat,(n+m=l.length∧∀j,j<n->l[j]?=some 0)/\Z=[]/\env=[(5,.pv (.sl 1 (l.map pI))),eN 6 ((l.map pI).length:Nat),eN 7 n],l.length,⟨0,⟨V,λj hj=>V⟩,rfl,rfl⟩,?_⟩;rintro m env Z ⟨n,⟨hn,h0⟩,rfl,rfl⟩;refine λb I=>?_
 rw[zaw]at I;rcases cmp I with⟨rfl,h⟩|⟨rfl,h⟩
 ·have aM:n<l.length:=by omega
  refine⟨pI l[n],⟨V,?_⟩,?_⟩
  ·show(l.map pI)[n]?=some (pI l[n]);simp[aM]
  refine λb I=>?_
  rcases cmp I with⟨rfl,h⟩|⟨rfl,h⟩
  ·refine⟨.pv (pI _),cn ?_,trivial,Y⟩;rw[gO l n h0,zcf aM];simp[aZ,h]
  ·refine λx T=>?_
   replace T:=jb T V;subst T;refine⟨m-1,V,n+1,⟨V,λj hj=>?_⟩,rfl,rfl⟩;by_cases hjn:j<n
   ·exact h0 j hjn
   ·have:j=n:=by omega
    subst this;rw[zah aM];simpa using h
 ·refine⟨.pv (pI _),cn ?_,trivial,Y⟩;rw[gO l n h0,zb7 V];rfl
def IE:MT (ao []) Ge (ah dn):=fa
def bF(ps:CK)(x:PV):Prop:=∃(ok:Bool) (e:Int),ps=[pB ok,pI e]/\x=pI (if ok=true then 0 else e)
def gH:MT (ao []) vV (ah bF):=by
 rintro _ K ⟨_,⟨ok,e,rfl,rfl⟩,Y⟩;cases ok with
 |true=>exact aO
 |false=>exact aO
def Hq:MT (ao []) CV (ah bF):=gH
def JB:MT (ao []) Gm (ah bF):=gH
def pe:MT (ao []) vh (dU cf):=by
 rintro _ K ⟨_,⟨n,lo,W,rfl,rfl⟩,Y⟩
 (repeat'((conv=>whnf);first|refine dc (λ_=>?_) (λ_=>?_)|fail))
 all_goals exact h_
def JN:MT (ao []) Gp (dU cf):=pe
def yq(ps:CK)(p:Prop):Prop:=∃r:Rn,ps=[r.pv]/\p=(r.s= -1)
def Y0:MT (ao []) FO (dU yq):=by
 rintro _ K ⟨_,⟨r,rfl,rfl⟩,Y⟩
 (repeat'((conv=>whnf);first|refine dc (λ_=>?_) (λ_=>?_)|fail))
 all_goals exact h_
def ir(r:Rn):Prop:=if r.s= -1 then 1<=r.n/\r.n<=4096 else(0<=r.s/\r.s<=511)/\1<=r.n/\r.n<=512-r.s
instance (r:Rn):Decidable (ir r):=by unfold ir;infer_instance
def RI(ps:CK)(x:PV):Prop:=∃r:Rn,ps=[r.pv]/\x=pI (if ir r then 0 else 2)
def Tp:MT (ao [(244,dU yq),(241,dU cf),(240,ah bF)]) BA (ah RI):=by
 rintro _ K ⟨_,⟨r,rfl,rfl⟩,Y⟩;unfold ir at Y
 (repeat'(refine fq ?_;first|refine bu V ?_|refine bR ?_|refine ec ?_|refine dc (λ_=>?_) (λ_=>?_)|refine⟨_,⟨_,rfl,rfl⟩,?_⟩|refine⟨_,⟨_,_,rfl,rfl⟩,?_⟩|refine⟨_,⟨_,_,_,rfl,rfl⟩,?_⟩|fail))
 all_goals(refine⟨.pv (pI _),cn ?_,trivial,Y⟩;simp[*])
def iw(a b:Rn):Prop:=(a.s= -1↔b.s= -1)/\(a.s= -1\/a.s+a.n=b.s)
instance (a b:Rn):Decidable (iw a b):=by unfold iw;infer_instance
def ir.b{r:Rn}(h:ir r):IQ r:=by unfold ir at h;unfold IQ;grind
def YZ(ps:CK)(p:Prop):Prop:=∃a b:Rn,ps=[a.pv,b.pv]/\(IQ a/\IQ b)/\p=iw a b
def aah:MT (ao [(244,dU yq)]) IA (dU YZ):=by
 rintro _ K ⟨_,⟨a,b,rfl,⟨ha,I⟩,rfl⟩,Y⟩;unfold iw at Y;unfold IQ at ha I
 (repeat'(refine fq ?_;first|refine bu V ?_|refine bR ?_|refine ec ?_|refine ak V ?_|refine ar V ?_|refine ak ai ?_|refine ar ai ?_|refine dc (λ_=>?_) (λ_=>?_)|refine aY ?_|refine⟨_,⟨_,rfl,rfl⟩,?_⟩|fail))
 all_goals exact KD
def Rn.has(r:Rn)(c:Nat):Bool:=decide (r.s≠ -1/\r.s<=c/\(c:Int)<r.s+r.n)
abbrev S_(L:QE):cK:=.row 289 1 false (L.map PV.bool)
structure IsU(L:QE)(f:Nat->Bool):Prop where
 len:L.length=512
 get:∀c,c<512->L[c]?=some (f c)
def IsU.set{L:QE}{f:Nat->Bool}(h:IsU L f)(i:Nat):IsU (L.set i true) (λc=>f c||decide (c=i)):=by
 refine⟨by simp[h.len],λc F=>?_⟩;by_cases e:i=c
 ·subst e;simp[h.len,F]
 ·rw[zdd e,h.get c F];grind
def IsU.congr{L:QE}{f g:Nat->Bool}(h:IsU L f)(e:∀c,c<512->f c=g c):IsU L g:=⟨h.len,λc F=>(e c F)▸h.get c F⟩
def afS(xs:XP)(Z:ax)(K:AV->ax->Prop):Prop:=∃(r:Rn) (f:Nat->Bool) (L:QE),xs=[.ref 0 0 0,.pv r.pv]/\(ir r/\IsU L f)/\Z=[S_ L]∧∀(ok:Bool) (L':QE),(ok=true↔∀c,c<512->r.has c=true->f c=false)->IsU L' (λc=>f c||r.has c)->K (.pv (pB ok)) [S_ L']
def Rn.Kj(r:Rn)(n:Nat)(c:Nat):Bool:=decide (r.s<=c/\(c:Int)<r.s+n)
def agp:OQ (ao [(244,dU yq)]) yo (lZ afS):=by
 rintro _ _ K ⟨r,f,L,rfl,⟨J,hL⟩,rfl,Y⟩;unfold ir at J
 (repeat'(refine fq ?_;first|refine dc (λ_=>?_) (λ_=>?_)|refine⟨_,⟨_,rfl,rfl⟩,?_⟩|fail))
 ·exact Y true L (by simp[Rn.has, *]) (hL.congr λc _=>by simp[Rn.has, *])
 ·rename_i hs;rw[if_neg hs]at J;refine⟨λm env Z=>∃(n:Nat) (ok:Bool) (L:QE),(n+m=r.n.toNat/\(ok=true↔∀c,c<512->r.Kj n c=true->f c=false)/\IsU L (λc=>f c||r.Kj n c))/\Z=[S_ L,.box 103 [.pv (pI r.s),.pv (pI r.n)]]/\env=[(0,.ref 0 0 0),(3,.ref 1 0 0),(5,.pv (pB ok)),eN 6 (r.s+n)],r.n.toNat,⟨0,true,L,⟨V,by simp[Rn.Kj];omega,hL.congr λc _=>by simp[Rn.Kj];omega⟩,rfl,ab⟩,?_⟩;rintro m env Z ⟨n,ok,L,⟨hn,b_,hL⟩,rfl,rfl⟩;have hgo:∀c,r.Kj (n+1) c=(r.Kj n c||decide (c=(r.s+n).toNat)):=λc=>by
   unfold Rn.Kj;rw[zaN];simp;omega
  have ql:IsU (L.set (r.s+n).toNat true) (λc=>f c||r.Kj (n+1) c):=(hL.set (r.s+n).toNat).congr λc _=>by rw[hgo c,Bool.or_assoc]
  have aFz:r.Kj n (r.s+n).toNat=false:=by unfold Rn.Kj;simp;omega
  have tj:n<r.n.toNat->L[(r.s+n).toNat]?=some (f (r.s+n).toNat):=λh=>by rw[hL.get _ V,aFz,zc4]
  have e:r.s+((n+1:Nat):Int)=r.s+(n:Int)+1:=V;have KF:n<r.n.toNat->((∀c,c<512->r.Kj (n+1) c=true->f c=false)↔(∀c,c<512->r.Kj n c=true->f c=false)/\f (r.s+n).toNat=false):=λh=>by
   constructor
   ·intro U;exact⟨λc F hh=>U c F (by rw[hgo,hh];rfl),U _ V (by rw[hgo];simp)⟩
   ·rintro⟨U,H⟩ c F hh;rw[hgo,zbF,decide_eq_true_iff]at hh;rcases hh with hh|hh
    ·exact U c F hh
    ·rw[hh];exact H
  have VL:¬n<r.n.toNat→∀c,r.Kj n c=r.has c:=λh c=>by unfold Rn.Kj Rn.has;rw[zaN];simp;omega
  cases ok
  ·(repeat'((conv=>whnf);first|refine zcv ⟨by rw[zaw];exact hL.len,V,V⟩ ?_|refine azp (tj V) ?_|refine bu V ?_|refine dc (λ_=>?_) (λ_=>?_)|refine aY ?_|fail))
   ·refine⟨m-1,V,n+1,false,_,⟨V,?_,ql⟩,congrArg (λx=>[cK.row 289 1 false x,_]) iM,by rw[e]⟩;rw[KF V,<-b_];simp
   ·refine Y false L (by simpa only[VL V]using b_) (hL.congr λc _=>by rw[VL V])
  ·(repeat'((conv=>whnf);first|refine zcv ⟨by rw[zaw];exact hL.len,V,V⟩ ?_|refine azp (tj V) ?_|refine bu V ?_|refine dc (λ_=>?_) (λ_=>?_)|refine aY ?_|fail))
   ·rename_i hf;refine⟨m-1,V,n+1,true,_,⟨V,?_,ql⟩,congrArg (λx=>[cK.row 289 1 false x,_]) iM,by rw[e]⟩;rw[KF V,<-b_];simp[hf]
   ·rename_i hf;refine⟨m-1,V,n+1,false,_,⟨V,?_,ql⟩,congrArg (λx=>[cK.row 289 1 false x,_]) iM,by rw[e]⟩;rw[KF V,<-b_];simpa using hf
   ·refine Y true L (by simpa only[VL V]using b_) (hL.congr λc _=>by rw[VL V])
def pE(l m:UH):aF (l++m)=aF l+aF m:=by simp[aF]
def EL{l:UH}{i:Nat}{r:Rn}(h:l[i]?=some r):aF (l.take (i+1))=aF (l.take i)+r.n:=by
 rw[zcM,h];simp[aF]
def rnS(l:UH):Prop:=l.length<=1000∧∀r∈l,-1000000000000<=r.n/\r.n<=1000000000000
def rnS.sum{l:UH}(h:rnS l):∀i,i<=l.length-> -1000000000000*i<=aF (l.take i)/\aF (l.take i)<=1000000000000*i:=by
 intro i
 induction i with
 |zero=>simp
 |succ i ih=>
  intro W;have T:=zah (show i<l.length by omega);rw[EL T];have H:=h.2 _ (zdn (show i<l.length by omega));omega
def oH(ps:CK)(x:PV):Prop:=∃s:Rs,ps=[uF s]/\rnS s.l/\x=pI (aF s.l)
def YJ:MT (ao []) F8 (ah oH):=by
 rintro _ K ⟨_,⟨s,rfl,hs,rfl⟩,Y⟩
 (repeat'((conv=>whnf);first|refine tD ?_|refine cT λ_=>?_|fail))
 refine⟨λm env Z=>∃(n:Nat),n+m=s.l.length/\Z=[]/\env=[eN 3 (aF (s.l.take n)),(6,.pv (uF s)),eN 7 s.l.length,eN 8 n],s.l.length,⟨0,V,rfl,rfl⟩,?_⟩;rintro m env Z ⟨n,hn,rfl,rfl⟩;have I:=hs.sum n V;have hl:=hs.1
 (repeat'((conv=>whnf);first|(refine IXA V (λx T=>?_);have:=hs.2 x (zag T))|refine bu V ?_|refine dc (λ_=>?_) (λ_=>?_)|refine aY ?_|fail))
 ·exact⟨m-1,V,n+1,V,rfl,by rw[EL T];rfl⟩
 ·rw[za1 V];exact aO
abbrev UD:=List At
def q7(f:Nat->Int):Nat->Nat->Int×Int
 |_,0=>(0,0)
 |i,n+1=>if f i=0 then q7 f (i+1) n else((i:Int),f i)
def ab3{f:Nat->Int}{i n:Nat}(h:f i≠0):q7 f i (n+1)=((i:Int),f i):=if_neg h
def ai7{f:Nat->Int}{i n:Nat}(h:f i=0):q7 f i (n+1)=q7 f (i+1) n:=if_pos h
def Nj{f:Nat->Int}{i n:Nat}(h:∀j,j<i->f j=0):∀k,k<=i->i<=n->q7 f k (n-k)=q7 f i (n-i):=by
 intro k
 induction hd:i-k generalizing k with
 |zero=>grind
 |succ d ih=>
  intro U H;rw[<-ih (k+1) V V H,show n-k=(n-(k+1))+1 by omega,ai7 (h k V)]
def ak_{f:Nat->Int}{i n:Nat}(h:∀j,j<i->f j=0)(W:i<n)(hf:f i≠0):q7 f 0 n=((i:Int),f i):=by
 have:=Nj (n:=n) h 0 V V;rw[Nat.sub_zero]at this;rw[this,show n-i=(n-i-1)+1 by omega,ab3 hf]
def acS{f:Nat->Int}{n:Nat}(h:∀j,j<n->f j=0):q7 f 0 n=(0,0):=by
 have:=Nj (n:=n) h 0 V (zai _);rw[zcc]at this;assumption
def akt{f:Nat->Int}{n:Nat}(h:(q7 f 0 n).2=0):∀j,j<n->f j=0:=by
 have:∀i k,(∃j,i<=j/\j<i+k/\f j≠0)->(q7 f i k).2≠0:=by
  intro i k
  induction k generalizing i with
  |zero=>omega
  |succ k ih=>
   unfold q7
   grind
 grind
def rp(a b:Rn):Prop:=a.s≠ -1/\b.s≠ -1/\a.s<b.s+b.n/\b.s<a.s+a.n
instance (a b:Rn):Decidable (rp a b):=by unfold rp;infer_instance
def Sk(l:UH)(i:Nat):Int:=match l[i]? with
 |none=>0
 |some r=>if ¬ir r then 2 else if 0<i/\(∃p,l[i-1]?=some p/\iw p r)then 3 else if ∃k,k<i∧∃p,l[k]?=some p/\rp p r then 23 else 0
def GI{l:UH}{i:Nat}{r:Rn}(h:l[i]?=some r)(h0:Sk l i=0):ir r:=by
 unfold Sk at h0
 grind
def kZ(l:UH):Int×Int:=if 64<l.length then(0,8)else if (q7 (Sk l) 0 l.length).2≠0 then q7 (Sk l) 0 l.length else(0,if aF l<=4096 then 0 else 8)
def dv(l:UH):Int:=(kZ l).2
def aod{l:UH}(hl:l.length<=1000)(h:∀j,j<l.length->Sk l j=0):rnS l:=by
 refine⟨hl,λr J=>?_⟩;obtain⟨i,W⟩:=iU.1 J;have:=(GI W (h i (fo W))).b;unfold IQ at this;omega
def aoI{l:UH}{n:Nat}{x p:Rn}(T:l[n]?=some x)(h:ir x)(hn:0<n)(hp:l[n-1]?=some p)(hj:iw p x):Sk l n=3:=by
 unfold Sk;simp_all
def aif{l:UH}{n:Nat}{x:Rn}(T:l[n]?=some x)(h:ir x)(hj:∀p,0<n->l[n-1]?=some p→¬iw p x)(hd:∃k,k<n∧∃p,l[k]?=some p/\rp p x):Sk l n=23:=by
 unfold Sk;simp_all
def Sm{l:UH}{n:Nat}{x:Rn}(T:l[n]?=some x)(h:ir x)(hj:∀p,0<n->l[n-1]?=some p→¬iw p x)(hd:¬ ∃k,k<n∧∃p,l[k]?=some p/\rp p x):Sk l n=0:=by
 unfold Sk;grind
def Tc{p q:Rn}(hp:ir p)(hq:ir q):rp p q↔∃c:Nat,c<512/\p.has c=true/\q.has c=true:=by
 unfold ir at hp hq;unfold rp Rn.has;simp only[decide_eq_true_iff];constructor
 ·rintro⟨U,H,h3,h4⟩;rw[if_neg U]at hp;rw[if_neg H]at hq;exact⟨(max p.s q.s).toNat,V,⟨U,V,V⟩,⟨H,V,V⟩⟩
 omega
def ano(ps:CK)(r:RV):Prop:=∃s:Rs,ps=[uF s]/\r=.tup [.pv (pI (kZ s.l).1),.pv (pI (kZ s.l).2)]
def arY{l:UH}(h:64<l.length):kZ l=(0,8):=by unfold kZ;grind
def YK{l:UH}{n:Nat}{e:Int}(hl:l.length<=64)(h0:∀k,k<n->Sk l k=0)(aM:n<l.length)(he:Sk l n=e)(ca:e≠0):kZ l=((n:Int),e):=by
 unfold kZ;rw[if_neg V,ak_ h0 aM V,he,if_pos ca]
def OP{l:UH}(hl:l.length<=64)(h0:∀k,k<l.length->Sk l k=0):kZ l=(0,if aF l<=4096 then 0 else 8):=by
 unfold kZ;rw[if_neg V,acS h0,if_neg ab]
def v8(l:UH)(n c:Nat):Bool:=(l.take n).any λr=>r.has c
def DP{l:UH}{n c:Nat}{x:Rn}(h:l[n]?=some x):v8 l (n+1) c=(v8 l n c||x.has c):=by
 unfold v8;rw[zcM,h];simp
def zn{l:UH}{n:Nat}{x:Rn}(h0:∀k,k<n->Sk l k=0)(T:ir x):(∃k,k<n∧∃p,l[k]?=some p/\rp p x)↔¬ ∀c,c<512->x.has c=true->v8 l n c=false:=by
 constructor
 ·rintro⟨k,E,p,hp,hs⟩ h;obtain⟨c,U,H,h3⟩:=(Tc (GI hp (h0 k E)) T).1 hs;have h4:=h c U h3;unfold v8 at h4;rw[zdm]at h4;exact h4 p (zag (by rw[zcV E];exact hp)) H
 ·intro h;refine Classical.byContradiction λhn=>h λc F hh=>?_
  unfold v8;rw[zdm];intro p hp hpc;obtain⟨k,E⟩:=iU.1 hp;have hkn:k<n:=au;rw[zcV hkn]at E;exact hn ⟨k,hkn,p,E,(Tc (GI E (h0 k hkn)) T).2 ⟨c,F,hpc,hh⟩⟩
def azR(l:UH):IsU (List.replicate 512 false) (v8 l 0):=⟨zaq,λc F=>by rw[List.getElem?_replicate,if_pos F];rfl⟩
def NU:MT (ao [(277,ah RI),(278,dU YZ),(279,lZ afS),(186,ah oH),(240,ah bF)]) zx (dz true ano):=by
 rintro _ K ⟨_,⟨s,rfl,rfl⟩,Y⟩
 (repeat'((conv=>whnf);first|refine tD ?_|refine dc (λ_=>?_) (λ_=>?_)|refine cT λ_=>?_|fail))
 ·rename_i h;rw[arY V]at Y;exact pA
 rename_i h;refine⟨λm env Z=>∃(n:Nat) (L:QE),(n+m=s.l.length/\(∀k,k<n->Sk s.l k=0)/\IsU L (v8 s.l n))/\Z=[S_ L]/\env=[(0,.pv (uF s)),(4,.ref 0 0 0),(11,.pv (uF s)),eN 12 s.l.length,eN 13 n],s.l.length,⟨0,List.replicate 512 false,⟨V,λk E=>V,azR _⟩,by unfold S_;rw[zcp],rfl⟩,?_⟩;rintro m env Z ⟨n,L,⟨hn,h0,hL⟩,rfl,rfl⟩;by_cases aM:n<s.l.length
 ·obtain⟨x,T⟩:∃x,s.l[n]?=some x:=⟨_,zah aM⟩
  by_cases VK:ir x
  case neg=>
   have hv:kZ s.l=((n:Int),2):=YK V h0 aM (by unfold Sk;rw[T];simp[VK]) ai;rw[hv]at Y
   (repeat'((conv=>whnf);first|refine ae0 T ?_|refine⟨_,⟨x,rfl,rfl⟩,?_⟩|refine ak (by rw[if_neg VK];decide) ?_|refine ak V ?_|refine aY ?_|fail))
   rw[if_neg VK];exact pA
  by_cases hn0:0<n
  ·obtain⟨p,hp⟩:∃p,s.l[n-1]?=some p:=⟨_,zah V⟩
   (repeat'((conv=>whnf);first|refine ae0 T ?_|refine aDU (x:=p) V (by rw[show((n:Int)-1).toNat=n-1 by omega];exact hp) ?_|refine⟨_,⟨x,rfl,rfl⟩,?_⟩|refine ar (λh=>h (if_pos VK)) ?_|refine⟨_,⟨p,x,rfl,⟨(GI hp (h0 _ V)).b,VK.b⟩,rfl⟩,?_⟩|refine⟨x,_,L,rfl,⟨VK,hL⟩,rfl,λok L' b_ hL'=>?_⟩|refine bu V ?_|refine ak V ?_|refine dc (λ_=>?_) (λ_=>?_)|refine aY ?_|fail))
   ·rename_i hj;have hv:kZ s.l=((n:Int),3):=YK V h0 aM (aoI T VK hn0 hp hj) ai;rw[hv]at Y;exact pA
   ·rename_i hj hd;have hv:kZ s.l=((n:Int),23):=YK V h0 aM (aif T VK (λq _ hq=>by rw[hp]at hq;cases hq;exact hj) ((zn h0 VK).2 λh=>by rw[b_.2 h]at hd;cases hd)) ai;rw[hv]at Y;exact pA
   ·rename_i hj hd;have hz:=Sm T VK (λq _ hq=>by rw[hp]at hq;cases hq;exact hj) (λh=>(zn h0 VK).1 h (b_.1 (by simpa using hd)));exact⟨m-1,V,n+1,L',⟨V,λk E=>by
     rcases zcQ (zcR E)with U|U
     ·exact h0 k U
     ·rw[U];exact hz,hL'.congr λc _=>(DP T).symm⟩,rfl,rfl⟩
  ·(repeat'((conv=>whnf);first|refine ae0 T ?_|refine⟨_,⟨x,rfl,rfl⟩,?_⟩|refine ar (λh=>h (if_pos VK)) ?_|refine⟨x,_,L,rfl,⟨VK,hL⟩,rfl,λok L' b_ hL'=>?_⟩|refine bu V ?_|refine ak V ?_|refine ar V ?_|refine dc (λ_=>?_) (λ_=>?_)|refine aY ?_|fail))
   ·rename_i hd;have hv:kZ s.l=((n:Int),23):=YK V h0 aM (aif T VK (λq h _=>absurd h hn0) ((zn h0 VK).2 λh=>by rw[b_.2 h]at hd;cases hd)) ai;rw[hv]at Y;exact pA
   ·rename_i hd;have hz:=Sm T VK (λq h _=>absurd h hn0) (λh=>(zn h0 VK).1 h (b_.1 (by simpa using hd)));exact⟨m-1,V,n+1,L',⟨V,λk E=>by
     rcases zcQ (zcR E)with U|U
     ·exact h0 k U
     ·rw[U];exact hz,hL'.congr λc _=>(DP T).symm⟩,rfl,rfl⟩
 ·(repeat'((conv=>whnf);first|refine⟨_,⟨s,rfl,aod V (λj hj=>h0 j V),rfl⟩,?_⟩|(refine ik ?_;first|refine ar V ?_|refine dc (λ_=>?_) (λ_=>?_)|refine⟨_,⟨_,_,rfl,rfl⟩,?_⟩|fail)))
  ·rename_i hs;rw[OP V (λk E=>h0 k V),if_pos V]at Y;exact pA
  ·rename_i hs;rw[OP V (λk E=>h0 k V),if_neg V]at Y;exact pA
def amT(n m:Int):Int:=0-(0-n)/m
def alY(ps:CK)(p:Prop):Prop:=∃(l:OG) (n:Int),ps=[.sl 1 (l.map pI),pI n]/\l.length<=1000000/\p=(n∈l)
def akP:MT (ao []) TR (dU alY):=by
 rintro _ K ⟨_,⟨l,x,rfl,hl,rfl⟩,Y⟩
 (conv=>whnf)
 refine⟨λm env Z=>∃(n:Nat),(n+m=l.length∧∀k,k<n->l[k]?≠some x)/\Z=[]/\env=[(0,.pv (.sl 1 (l.map pI))),eN 1 x,eN 5 n],l.length,⟨0,⟨V,λk E=>V⟩,rfl,rfl⟩,?_⟩;rintro m env Z ⟨n,⟨hn,h0⟩,rfl,rfl⟩
 (repeat'((conv=>whnf);first|refine bu V ?_|refine dc (λ_=>?_) (λ_=>?_)|refine cT λ_=>?_|refine agh V (λ_ _=>?_)|fail))
 ·rename_i y hy he;exact⟨.pv (.bool _),rfl,trivial,Y true (by simp only[true_iff];exact he▸zag hy)⟩
 ·rename_i y hy he;exact⟨m-1,V,n+1,⟨V,λk E hq=>by
   rcases zcQ (zcR E)with U|U
   ·exact h0 k U hq
   ·subst U;rw[hy]at hq;cases hq;exact he rfl⟩,rfl,rfl⟩
 ·refine⟨.pv (.bool _),rfl,trivial,Y false ?_⟩;simp only[zcO,false_iff];intro T;obtain⟨k,E⟩:=iU.1 T;exact h0 k Dz E
def fL(n:Int):Nat->P8
 |0=>[]
 |k+1=>jW (n%256).toNat::fL (n/256) k
def jZ(k:Nat):∀n,(fL n k).length=k:=by
 induction k with
 |zero=>intro n;rfl
 |succ k ih=>simp[fL,ih]
def acP(k:Nat):∀n,fL n (k+1)=fL n k++[jW (n/256^k%256).toNat]:=by
 induction k with
 |zero=>simp[fL]
 |succ k ih=>
  intro n;rw[fL,ih (n/256),fL,zcY ai]
  grind
def u8P(n:Int):PV.int .u8 (n%256)=aG (jW (n%256).toNat):=rY V
def BT(B:P8)(at_:Nat)(bs:P8):P8:=B.take at_++bs++B.drop (at_+bs.length)
def anA{B bs:P8}{at_:Nat}(h:at_+bs.length<=B.length):(BT B at_ bs).length=B.length:=by unfold BT;grind
def acs(B:P8)(at_:Nat):BT B at_ []=B:=by unfold BT;simp
def aiV{B bs:P8}{at_:Nat}{b:UInt8}(h:at_+bs.length<B.length):(BT B at_ bs).set (at_+bs.length) b=BT B at_ (bs++[b]):=by
 unfold BT;have e:at_+bs.length-(B.take at_++bs).length=0:=au;rw[zcf h]
 grind
def azq{n:Int}{K:Int->Prop}(k:K (n/256)):0<=(8:Int)∧∀r:Int,r=n.fdiv (2^min (8:Int).toNat IntKind.i64.bits)->K r:=by
 have e8:min (8:Int).toNat IntKind.i64.bits=8:=ai
 grind
def auZ(xs:XP)(Z:ax)(K:AV->ax->Prop):Prop:=∃(B:P8) (at_ k:Nat) (n:Int),xs=[.own 0,.pv (pI at_),.pv (pI k),.pv (pI n)]/\(at_+k<=B.length/\B.length<=1000000)/\Z=[.row 5 1 true (B.map aG)]/\K (.tup []) [.row 5 1 true ((BT B at_ (fL n k)).map aG)]
def ajF:OQ (ao []) sN (lZ auZ):=by
 rintro _ _ K ⟨B,at_,k,n,rfl,⟨U,H⟩,rfl,Y⟩
 (conv=>whnf)
 refine⟨λm env Z=>∃(i:Nat),i+m=k/\Z=[.row 5 1 true ((BT B at_ (fL n i)).map aG)]/\env=[(0,.own 0),eN 1 at_,eN 3 (n/256^i),eN 9 k,eN 10 i],k,⟨0,V,by simp[fL,acs],ab⟩,?_⟩;rintro m env Z ⟨i,W,rfl,rfl⟩;have hll:=jZ i n;have qk:=anA (B:=B) (at_:=at_) (bs:=fL n i) V
 (repeat'((conv=>whnf);first|refine azq ?_|refine bu V ?_|refine dc (λ_=>?_) (λ_=>?_)|refine U8m ?_|refine UF V ?_|refine azC V (λ_ _ _=>?_)|refine aY ?_|fail))
 ·refine⟨m-1,V,i+1,V,?_,?_⟩
  ·rw[acP,<-aiV V,<-iM,hll];exact congrArg (λx=>[cK.row 5 1 true (List.set _ _ x)]) (u8P _)
  ·rw[Int.pow_succ,<-zcY (Int.pow_nonneg ai)];rfl
 ·have:i=k:=by omega
  subst this;exact Y
def sgN(n:Int):Nat:=if-128<=n/\n<=127 then 1 else 2
def sgB(n:Int):P8:=fL n (sgN n)
def EQV{n v:Int}{K:Int->Prop}(h:n=v)(k:K v):∀r:Int,r=n->K r:=λr J=>au
def abq(ps:CK)(x:PV):Prop:=∃n:Int,ps=[pI n]/\(-32768<=n/\n<=32767)/\x=pI (sgN n)
def Yk:MT (ao [(241,dU cf)]) FW (ah abq):=by
 rintro _ K ⟨_,⟨n,rfl,h,rfl⟩,Y⟩;unfold sgN at Y
 (conv=>whnf)
 refine⟨λm env Z=>(m=1/\Z=[]/\env=[eN 0 n,eN 3 1])\/(m=0∧¬(-128<=n/\n<=127)/\Z=[]/\env=[eN 0 n,eN 3 2]),1,.inl ⟨rfl,rfl,rfl⟩,?_⟩;rintro m env Z (⟨rfl,rfl,rfl⟩|⟨rfl,hn,rfl,rfl⟩)
 ·(repeat'((conv=>whnf);first|refine EQV (v:= -128) ai ?_|refine EQV (v:=128) ai ?_|(refine ik ?_;first|refine bu V ?_|refine bR ?_|refine ec ?_|refine dc (λ_=>?_) (λ_=>?_)|refine aY ?_|refine⟨_,⟨_,_,_,rfl,rfl⟩,?_⟩|refine HI ?_|fail)))
  ·rename_i F;rw[if_pos V]at Y;exact aO
  ·rename_i F;exact⟨0,ai,.inr ⟨rfl,V,rfl,rfl⟩⟩
 ·(repeat'((conv=>whnf);first|refine EQV (v:= -32768) ai ?_|refine EQV (v:=32768) ai ?_|(refine ik ?_;first|refine bu V ?_|refine bR ?_|refine ak V ?_|refine aY ?_|refine⟨_,⟨_,_,_,rfl,rfl⟩,?_⟩|refine HI ?_|fail)))
  rw[if_neg hn]at Y;exact aO
def i_(l:P8):∀x∈l.map aG,x.flat:=by
 intro x T;obtain⟨t,_,rfl⟩:=zaX.1 T;trivial
def acC(ps:CK)(r:RV):Prop:=∃(n:Int) (k:Nat),ps=[pI n,pI k]/\k<=1000/\r=.fresh 5 1 ((fL n k).map aG)
def Xx:MT (ao []) Gk (dz true acC):=by
 rintro _ K ⟨_,⟨n,k,rfl,E,rfl⟩,Y⟩
 (conv=>whnf)
 refine⟨λm env Z=>∃(i:Nat),i+m=k/\Z=[.row 5 1 true ((fL n i).map aG)]/\env=[eN 0 (n/256^i),(5,.own 0),eN 6 k,eN 7 i],k,⟨0,V,rfl,ab⟩,?_⟩;rintro m env Z ⟨i,W,rfl,rfl⟩;have hll:=jZ i n
 (repeat'((conv=>whnf);first|refine azq ?_|refine bu V ?_|refine dc (λ_=>?_) (λ_=>?_)|refine U8m ?_|refine aY ?_|refine zcv bJ ?_|fail))
 ·refine⟨m-1,V,i+1,V,?_,?_⟩
  ·rw[acP,zaY];exact congrArg (λx=>[cK.row 5 1 true (_++[x])]) (u8P _)
  ·rw[Int.pow_succ,<-zcY (Int.pow_nonneg ai)];rfl
 ·have:i=k:=by omega
  subst this;exact⟨.fresh _ _ _,⟨rfl,rfl,rfl,rfl⟩,i_ _,Y⟩
def uM(ps:CK)(x:PV):Prop:=∃ls:List Rs,ps=[.sl 1 (ls.map uF)]/\ls.length<=100/\x=pI (aZ (ls.map λs=>dv s.l))
def UZ:MT (ao [(238,dz true ano)]) CN (ah uM):=by
 rintro _ K ⟨_,⟨ls,rfl,hl,rfl⟩,Y⟩
 (repeat'((conv=>whnf);first|refine cT λ_=>?_|fail))
 refine⟨λm env Z=>∃(n:Nat),(n+m=ls.length∧∀j,j<n->(ls.map λs=>dv s.l)[j]?=some 0)/\Z=[]/\env=[(7,.pv (.sl 1 (ls.map uF))),eN 8 ls.length,eN 9 n],ls.length,⟨0,⟨V,λj hj=>V⟩,rfl,ab⟩,?_⟩;rintro m env Z ⟨n,⟨hn,h0⟩,rfl,rfl⟩;by_cases aM:n<ls.length
 ·obtain⟨s,hs⟩:∃s,ls[n]?=some s:=⟨_,zah aM⟩
  have hg:(ls.map λs=>dv s.l)[n]?=some (dv s.l):=by rw[zaD,hs];rfl
  (repeat'((conv=>whnf);first|refine jP hs ?_|refine⟨_,⟨s,rfl,rfl⟩,?_⟩|rw[Sl.cells]|refine bu V ?_|refine ak V ?_|refine dc (λ_=>?_) (λ_=>?_)|fail))
  ·rename_i ca;rw[gO _ n h0,zcf (fo hg)]at Y;rw[zah (fo hg)]at hg;rw[Option.some.inj hg]at Y;simp only[aZ]at Y;rw[if_neg (show ¬dv s.l=0 from ca)]at Y;exact aO
  ·rename_i ca;refine⟨m-1,V,n+1,⟨V,λj hj=>?_⟩,rfl,rfl⟩;by_cases hjn:j<n
   ·exact h0 j hjn
   ·rw[show j=n by omega,hg];exact congrArg some (by unfold dv;simpa using ca)
 ·(repeat'((conv=>whnf);first|refine ar V ?_|fail))
  rw[gO _ n h0,zb7 aH]at Y;exact aO
def acB(st:P8×Int)(r:Rn):P8×Int:=
 if r.s= -1 then(st.1++fL (sgN r.n) 1++sgB r.n,st.2)
 else(st.1++fL (sgN r.n+16*sgN (r.s-st.2)) 1++sgB r.n++sgB (r.s-st.2),r.s)
def B9(l:UH)(n:Nat):P8×Int:=(l.take n).foldl acB ([],0)
def uD{l:UH}{n:Nat}{x:Rn}(h:l[n]?=some x):B9 l (n+1)=acB (B9 l n) x:=by
 unfold B9;rw[zcM,h,List.foldl_append];rfl
def rr(l:UH):P8:=(B9 l l.length).1++[0]
def asf(n:Int):(sgB n).length=sgN n:=jZ _ _
def YE(n:Int):1<=sgN n/\sgN n<=2:=by unfold sgN;split<;>omega
def H2(l:UH):∀n,n<=l.length->(B9 l n).1.length<=5*n:=by
 intro n
 induction n with
 |zero=>simp[B9]
 |succ n ih=>
  intro h;rw[uD (zah (show n<l.length by omega))];have U:=YE l[n].n;have H:=YE (l[n].s-(B9 l n).2);unfold acB;split<;>simp only[zad,asf,jZ]<;>omega
def akh{l:UH}(h:∀r∈l,ir r):∀n,n<=l.length->0<=(B9 l n).2/\(B9 l n).2<=511:=by
 intro n
 induction n with
 |zero=>simp[B9]
 |succ n ih=>
  intro hn;rw[uD (zah (show n<l.length by omega))];have U:=h _ (zdn (show n<l.length by omega));unfold ir at U;unfold acB
  grind
def bz{l:UH}(h:dv l=0):l.length<=64/\(∀k,k<l.length->Sk l k=0)/\aF l<=4096∧∀r∈l,ir r:=by
 unfold dv kZ at h;split at h
 ·cases h
 split at h
 ·omega
 rename_i H;have h3:=akt nh;refine⟨V,h3,?_,λr J=>?_⟩
 ·omega
 ·obtain⟨i,W⟩:=iU.1 J;exact GI W (h3 i (fo W))
def aDB{d:Int}{K:Int->Prop}(h:0<=d/\d<=1000)(k:K (d*16)):0<=(4:Int)∧∀r:Int,r=IntKind.i64.wrap (d*2^min (4:Int).toNat IntKind.i64.bits)->K r:=by
 refine⟨ai,λr J=>?_⟩;have e8:(2:Int)^min (4:Int).toNat IntKind.i64.bits=16:=ai;rw[e8,wrap64 V]at J
 grind
def ORH{d s:Int}{K:Int->Prop}(h:0<=d/\d<=1000)(hs:0<=s/\s<16)(k:K (s+16*d)):∀r:Int,r=dB .or .i64 (d*16) s->K r:=λr J=>by
 obtain⟨m,rfl⟩:=zcX h.1;obtain⟨n,rfl⟩:=zcX hs.1;have e:((m:Int)*16)=((2^4*m:Nat):Int):=V;rw[e,ar5 V V,Nat.or_comm,Hs (k:=4) V]at J
 grind
def auX{v:Int}(h:0<=v/\v<256):PV.int .u8 v=aG (jW (v%256).toNat):=by rw[<-u8P,Int.emod_eq_of_lt h.1 h.2]
def aty(s:Rs):aaE 1 [uF s]=true:=by cases s<;>rfl
def H5(ps:CK)(r:RV):Prop:=∃s:Rs,ps=[uF s]/\r=.tup [.pv (.str (if dv s.l=0 then rr s.l else[])),.pv (pI (dv s.l))]
def LB:MT (ao [(185,ah uM),(244,dU yq),(284,ah abq),(285,dz true acC)]) xk (dz true H5):=by
 rintro _ K ⟨_,⟨s,rfl,rfl⟩,Y⟩;have hf:aZ (([s]:List Rs).map λs=>dv s.l)=dv s.l:=by simp only[zau,zcr,aZ];split<;>simp_all
 (repeat'((conv=>whnf);first|refine zcv (aty s) ?_|(refine ik ?_;refine⟨_,⟨[s],rfl,ab,rfl⟩,?_⟩)|refine tD ?_|refine dc (λ_=>?_) (λ_=>?_)|refine cT λ_=>?_|fail))
 ·rename_i ca;replace ca:dv s.l≠0:=hf▸ca;rw[if_neg ca,<-hf]at Y;exact pA
 rename_i hz _;have hz:dv s.l=0:=by refine Classical.byContradiction λh=>hz ?_;rw[hf];exact h
 rw[hz,if_pos rfl]at Y;obtain⟨hl,_,_,b_⟩:=bz hz;refine⟨λm env Z=>∃(n:Nat),(n+m=s.l.length)/\Z=[.row 5 1 true ((B9 s.l n).1.map aG)]/\env=[(5,.own 0),eN 6 (B9 s.l n).2,(17,.pv (uF s)),eN 18 s.l.length,eN 19 n],s.l.length,⟨0,V,rfl,by simp[B9]⟩,?_⟩;rintro m env Z ⟨n,hn,rfl,rfl⟩;have hlen:=H2 s.l n V;have aiM:=akh b_ n V;by_cases aM:n<s.l.length
 ·obtain⟨x,T⟩:∃x,s.l[n]?=some x:=⟨_,zah aM⟩
  have hxo:=b_ x (zag T);have hxb:(1<=x.n/\x.n<=4096)/\(x.s≠ -1->0<=x.s/\x.s<=511):=by unfold ir at hxo;split at hxo<;>constructor<;>omega
  have U:=YE x.n;have H:=YE (x.s-(B9 s.l n).2);have h3:=jZ (sgN x.n) x.n;have h4:=jZ (sgN (x.s-(B9 s.l n).2)) (x.s-(B9 s.l n).2)
  (repeat'((conv=>whnf);first|refine ae0 T ?_|refine aDB V ?_|refine ORH V V ?_|refine⟨_,⟨_,_,rfl,V,rfl⟩,?_⟩|refine⟨_,⟨x,rfl,rfl⟩,?_⟩|refine zcv (by(simp only[zad,zaw,zap,zbh,jZ];omega)) ?_|(refine ik ?_;first|refine bu V ?_|refine bR ?_|refine ec ?_|refine ak V ?_|refine ar V ?_|refine dc (λ_=>?_) (λ_=>?_)|refine U8 V ?_|refine aY ?_|refine⟨_,⟨_,rfl,dg,rfl⟩,?_⟩|fail)))
  ·rename_i F;refine⟨m-1,V,n+1,V,?_,?_⟩
   ·rw[uD T];unfold acB;rw[if_pos F];simp only[zaY];exact congrArg (λz=>[cK.row 5 1 true (_++[z]++_)]) (auX (v:=sgN x.n) V)
   ·rw[uD T];unfold acB;rw[if_pos F];rfl
  ·rename_i F;refine⟨m-1,V,n+1,V,?_,?_⟩
   ·rw[uD T];unfold acB;rw[if_neg F];simp only[zaY];exact congrArg (λz=>[cK.row 5 1 true (_++[z]++_++_)]) (auX (v:=sgN x.n+16*sgN (x.s-(B9 s.l n).2)) V)
   ·rw[uD T];unfold acB;rw[if_neg F];rfl
 ·(repeat'((conv=>whnf);first|refine zcv (by(simp only[zad,zaw,zap,zbh];omega)) ?_|(refine ik ?_;refine⟨(B9 s.l n).1++[0],by simp[aG],?_⟩)|refine ar V ?_|refine aY ?_|fail))
  rw[rr,<-show n=s.l.length by omega]at Y;exact pA
end Go.Dv.Try
namespace Go.Dv.Try
open Go Go.Dv Go.RowKit
section
def avJ:P8:=[34,42,47,58,60,62,63,92,124]
def Ov(c:UInt8):Prop:=(32<=c.toNat/\c.toNat<=126)/\c∉avJ
instance (c:UInt8):Decidable (Ov c):=by unfold Ov;infer_instance
def QP(s:P8):Prop:=s≠[]/\(∀b∈s,Ov b)/\s.getLast?≠some 32/\s.getLast?≠some 46
instance (s:P8):Decidable (QP s):=by unfold QP;infer_instance
def ag7(s:P8):Int:=if 32<s.length then 8 else if QP s then 0 else 4
def eX(s:P8):Prop:=s=[]\/ag7 s=0
instance (s:P8):Decidable (eX s):=by unfold eX;infer_instance
def ixb(l:P8)(c:UInt8):Lib.indexByte l c<0↔c∉l:=by
 constructor
 ·intro h F;have U:=Lib.indexByte_ge l c;obtain⟨k,E⟩:=iU.1 F;exact Lib.indexByte_none (show Lib.indexByte l c= -1 by omega) k E
 ·refine Classical.byContradiction λhn=>?_
  have:=(Lib.indexByte_some (l:=l) (c:=c) (o:=(Lib.indexByte l c).toNat) V).1
  grind
def OD:MT (ao [(321,ah n_)]) tz (ah n_):=by
 rintro _ K ⟨_,⟨l,c,rfl,rfl⟩,Y⟩
 (repeat'((conv=>whnf);first|refine⟨_,⟨l,c,rfl,rfl⟩,?_⟩|fail))
 exact aO
def aip(ps:CK)(p:Prop):Prop:=∃c:UInt8,ps=[aG c]/\p=Ov c
def Kq:MT (ao [(313,ah n_)]) tp (dU aip):=by
 rintro _ K ⟨_,⟨c,rfl,rfl⟩,Y⟩;have F:=ixb avJ c
 (repeat'((conv=>whnf);first|refine⟨_,⟨avJ,c,rfl,rfl⟩,?_⟩|refine dc (λ_=>?_) (λ_=>?_)|fail))
 all_goals exact⟨.pv (.bool _),rfl,trivial,Y _ (by unfold Ov;rw[<-F];simp only[zcO,true_iff,false_iff];omega)⟩
def N3{α:Type}(p:α->Prop)[DecidablePred p]:List α->Int
 |[]=> -1
 |a::l=>if p a then 0 else if N3 p l<0 then-1 else N3 p l+1
section
variable {α:Type} {p:α->Prop} [DecidablePred p]
def Th{l:List α}(h:∀x∈l,¬p x):N3 p l= -1:=by
 induction l with
 |nil=>rfl
 |cons a l ih=>unfold N3;grind
def afc{l:List α}{i:Nat}{x:α}(h0:∀j,j<i→∀y,l[j]?=some y→¬p y)(T:l[i]?=some x)(hp:p x):N3 p l=i:=by
 induction i generalizing l with
 |zero=>
  cases l with
  |nil=>grind
  |cons a l=>unfold N3;grind
 |succ i ih=>
  cases l with
  |nil=>grind
  |cons a l=>
   have:=ih (l:=l) (λj hj y hy=>h0 (j+1) V y au) au;unfold N3;rw[if_neg (h0 0 V a rfl)];omega
def yk(l:List α):(N3 p l= -1∧∀x∈l,¬p x)∨∃i x,N3 p l=((i:Nat):Int)/\l[i]?=some x/\p x∧∀j,j<i→∀y,l[j]?=some y→¬p y:=by
 induction l with
 |nil=>exact .inl ⟨rfl,λx h=>bc⟩
 |cons a l ih=>
  by_cases ha:p a
  ·exact .inr ⟨0,a,by unfold N3;grind,rfl,ha,λj h=>V⟩
  ·rcases ih with⟨U,H⟩|⟨i,x,U,H,h3,h4⟩
   ·refine .inl ⟨by unfold N3;grind,λx T=>?_⟩
    grind
   ·refine .inr ⟨i+1,x,by unfold N3;grind,au,h3,λj hj y hy=>?_⟩
    grind
def asS(l:List α):N3 p l<0↔∀x∈l,¬p x:=by
 rcases yk (p:=p) l with⟨U,H⟩|⟨i,x,U,H,h3,_⟩
 ·grind
 grind
def ae8(l:List α):0<=N3 p l↔∃x∈l,p x:=by
 have:=asS (p:=p) l
 grind
end
def RO(ps:CK)(p:Prop):Prop:=∃c:UInt8,ps=[aG c,.cptr (.clo 300 [])]/\p=¬Ov c
def Kv:MT (ao [(300,dU aip)]) tJ (dU RO):=by
 rintro _ K ⟨_,⟨c,rfl,rfl⟩,Y⟩
 (repeat'((conv=>whnf);first|refine⟨_,⟨c,rfl,rfl⟩,?_⟩|refine bR ?_|refine ec ?_|refine dc (λ_=>?_) (λ_=>?_)|fail))
 all_goals exact KD
abbrev QS:PV:=.clo 312 [.cptr (.clo 300 [])]
def Ka(ps:CK)(x:PV):Prop:=∃l:P8,ps=[.sl 1 (l.map aG),QS]/\l.length<=1000000/\x=pI (N3 (λc=>¬Ov c) l)
def Md:MT (ao [(312,dU RO)]) kF (ah Ka):=by
 rintro _ K ⟨_,⟨l,rfl,hl,rfl⟩,Y⟩
 (repeat'((conv=>whnf);first|refine cT λ_=>?_|fail))
 refine⟨λm env Z=>∃n:Nat,(n+m=l.length∧∀j,j<n→∀y,l[j]?=some y→¬ ¬Ov y)/\Z=[]/\env=[(0,.pv (.sl 1 (l.map aG))),(1,.pv QS),eN 7 l.length,eN 8 n],l.length,⟨0,⟨V,λj hj=>V⟩,rfl,rfl⟩,?_⟩;rintro m env Z ⟨n,⟨hn,h0⟩,rfl,rfl⟩
 (repeat'((conv=>whnf);first|refine⟨_,⟨_,rfl,rfl⟩,?_⟩|refine bu V ?_|refine dc (λ_=>?_) (λ_=>?_)|refine azE V (λ_ _ _=>?_)|fail))
 ·rename_i x T _ h;exact⟨.pv (pI _),cn (afc h0 T h),trivial,Y⟩
 ·rename_i x T _ h;refine⟨m-1,V,n+1,⟨V,λj hj y hy=>?_⟩,rfl,rfl⟩;rcases zcQ (zcR hj)with U|U
  ·exact h0 j U y hy
  ·subst U;rw[T]at hy;cases hy;exact h
 ·refine⟨.pv (pI _),cn (Th λx T=>?_),trivial,Y⟩;obtain⟨k,E⟩:=iU.1 T;exact h0 k Dz x E
def BB(ps:CK)(p:Prop):Prop:=∃l:P8,ps=[.sl 1 (l.map aG),QS]/\l.length<=1000000/\p=∃c∈l,¬Ov c
def E6:MT (ao [(320,ah Ka)]) jg (dU BB):=by
 rintro _ K ⟨_,⟨l,rfl,hl,rfl⟩,Y⟩;rw[<-ae8]at Y
 (repeat'((conv=>whnf);first|refine⟨_,⟨l,rfl,hl,rfl⟩,?_⟩|refine dc (λ_=>?_) (λ_=>?_)|fail))
 all_goals exact TX
def Sy(ps:CK)(p:Prop):Prop:=∃l:P8,ps=[.str l,.clo 300 []]/\l.length<=1000000/\p=∀c∈l,Ov c
def R4:MT (ao [(311,dU BB)]) yw (dU Sy):=by
 rintro _ K ⟨_,⟨l,rfl,hl,rfl⟩,Y⟩;have e:(∀c∈l,Ov c)↔¬ ∃c∈l,¬Ov c:=ab;rw[e]at Y
 (repeat'((conv=>whnf);first|refine⟨_,⟨l,rfl,hl,rfl⟩,?_⟩|refine bR ?_|refine ec ?_|refine dc (λ_=>?_) (λ_=>?_)|refine HI ?_|fail))
 all_goals exact KD
def El(ps:CK)(p:Prop):Prop:=∃(s:P8) (b:UInt8),ps=[.str s,.str [b]]/\s.length<=1000000/\p=(s.getLast?=some b)
def ak0(s:P8)(b:UInt8):(1<=s.length/\s.drop (s.length-1)=[b])↔s.getLast?=some b:=by
 constructor
 ·rintro⟨U,H⟩;rw[<-zaF (s.length-1) s,H];simp
 ·intro h;have ca:s≠[]:=λe=>au
  have U:=zb9.2 ca;rw[zcf (show s.length-1<s.length by omega)]
  grind
def Ml:MT (ao []) iL (dU El):=by
 rintro _ K ⟨_,⟨s,b,rfl,hs,rfl⟩,Y⟩;rw[<-ak0]at Y;have hl:([b]:P8).length=1:=rfl;have e:cut ((s.length:Int)-(([b]:P8).length:Int)).toNat s.length s=s.drop (s.length-1):=by
  rw[hl,show((s.length:Int)-((1:Nat):Int)).toNat=s.length-1 by omega];unfold cut;rw[zcP]
 (repeat'((conv=>whnf);first|refine bu V ?_|refine dc (λ_=>?_) (λ_=>?_)|refine HI ?_|fail))
 ·rename_i U H;exact⟨.pv (.bool _),rfl,trivial,Y _ (by simp only[true_iff];exact⟨V,e▸H⟩)⟩
 ·rename_i U H;exact⟨.pv (.bool _),rfl,trivial,Y _ (by simp only[zcO,false_iff];rw[<-e];exact λh=>H h.2)⟩
 ·rename_i U;exact⟨.pv (.bool _),rfl,trivial,Y _ (by simp only[zcO,false_iff];omega)⟩
def Ox:MT (ao [(314,dU El)]) tO (dU El):=by
 rintro _ K ⟨_,⟨s,b,rfl,hs,rfl⟩,Y⟩
 (repeat'((conv=>whnf);first|refine⟨_,⟨s,b,rfl,hs,rfl⟩,?_⟩|refine dc (λ_=>?_) (λ_=>?_)|fail))
 all_goals exact KD
def Wz(ps:CK)(p:Prop):Prop:=∃s:P8,ps=[.str s]/\p=(QP s/\s.length<=32)
def Vd:MT (ao [(299,dU Sy),(301,dU El)]) Bk (dU Wz):=by
 rintro _ K ⟨_,⟨s,rfl,rfl⟩,Y⟩;unfold QP at Y
 (repeat'((conv=>whnf);first|refine⟨_,⟨s,rfl,V,rfl⟩,?_⟩|refine⟨_,⟨s,32,rfl,V,rfl⟩,?_⟩|refine⟨_,⟨s,46,rfl,V,rfl⟩,?_⟩|refine bR ?_|refine ec ?_|refine dc (λ_=>?_) (λ_=>?_)|fail))
 ·rename_i h;exact⟨.pv (.bool _),rfl,trivial,Y _ (by simp[h])⟩
 ·rename_i h;exact⟨.pv (.bool _),rfl,trivial,Y _ (by simp[h])⟩
 ·rename_i U H h3 h4 h5 h6;exact⟨.pv (.bool _),rfl,trivial,Y _ (by simp only[true_iff];exact⟨⟨U,h3,h5,h6⟩,V⟩)⟩
 ·rename_i h;have h:s=[46,46]:=zcN.1 h;exact⟨.pv (.bool _),rfl,trivial,Y _ (by subst h;simp)⟩
 ·rename_i h;exact⟨.pv (.bool _),rfl,trivial,Y _ (by simp only[zcO,false_iff];exact λg=>h g.1.2.1)⟩
 ·rename_i h;exact⟨.pv (.bool _),rfl,trivial,Y _ (by simp only[zcO,false_iff];exact λg=>h V)⟩
 ·rename_i h;exact⟨.pv (.bool _),rfl,trivial,Y _ (by simp only[zcO,false_iff];exact λg=>h g.1.1)⟩
def ahf(ps:CK)(x:PV):Prop:=∃s:P8,ps=[.str s]/\x=pI (ag7 s)
def OF:MT (ao [(282,ah bF),(283,dU Wz),(281,ah dn)]) wP (ah ahf):=by
 rintro _ K ⟨_,⟨s,rfl,rfl⟩,Y⟩;unfold ag7 at Y
 (repeat'((conv=>whnf);first|refine⟨_,⟨s,rfl,rfl⟩,?_⟩|refine⟨_,⟨_,_,rfl,rfl⟩,?_⟩|refine⟨_,⟨[_,_],rfl,rfl⟩,?_⟩|refine ar V ?_|refine dc (λ_=>?_) (λ_=>?_)|refine aY ?_|fail))
 ·rename_i U H;rw[if_neg V,if_pos H.1]at Y;exact aO
 ·rename_i U H;rw[if_neg V,if_neg (λh=>H ⟨h,V⟩)]at Y;exact aO
 ·rename_i U;rw[if_pos V]at Y;exact aO
end
end Go.Dv.Try
namespace Go.Dv.Try
open Go Go.Dv
def NB:OG:=[16,32,48,64,96,112,128,144,160,176,192]
def Tv:OG:=[16,48,96,112,144]
def Tq(a:At):Prop:=a.ft=0/\a.al=0/\a.sz=0/\a.vd=0
instance (a:At):Decidable (Tq a):=by unfold Tq;infer_instance
def Aq(a:At):Int:=if ¬(a.rn.l.length=0/\Tq a)then 3 else if 400<a.vl.length then 8 else 0
def nn(a:At):Prop:=(0<=a.al/\a.al<=1048576)/\(0<=a.sz/\a.sz<=1048576)/\(0<=a.vd/\a.vd<=1048576)
instance (a:At):Decidable (nn a):=by unfold nn;infer_instance
def xU(a:At):Int:=
 if a.ty∈Tv then 20 else if a.vl≠[]then 3 else if ¬(0<=a.ft/\a.ft<=4096)then 2 else
 if dv a.rn.l≠0 then dv a.rn.l else if 0<a.ft/\a.rn.l.length=0 then 17 else
 if 4096<a.ft+aF a.rn.l then 8 else if 0<a.ft∧¬(a.al=0/\a.sz=0/\a.vd=0)then 3 else
 if ¬nn a then 2 else if a.sz<a.vd then 9 else 0
def uT(a:At):Prop:=(0<=a.id/\a.id<=65535)/\(0<=a.fl/\a.fl<=7)
instance (a:At):Decidable (uT a):=by unfold uT;infer_instance
def Dx(a:At):Int:=if a.rs=true then Aq a else xU a
def Lz(a:At):Int:=if a.ty∉NB then 15 else if ¬eX a.nm then 4 else if ¬uT a then 2 else Dx a
def EK(n:Nat):Nat:=(n+7)/8*8
def oL(a:At):Nat:=if a.rs=true then 24 else 40
def y3(a:At):P8:=if a.rs=true then a.vl else rr a.rn.l
def atN(a:At):Nat:=EK (oL a+a.nm.length)
def Lv(a:At):Nat:=EK (atN a+(y3 a).length)
def anC(a:At):P8:=
 if a.rs=true then fL a.vl.length 4++fL (atN a) 4
 else fL a.ft 4++fL (a.ft+aF a.rn.l-1) 4++fL (atN a) 2++aC 2++fL a.al 4++fL a.sz 4++fL a.vd 4
def apU(a:At):P8:=fL a.ty 4++fL (Lv a) 4++fL (if a.rs=true then 0 else 1) 1++fL a.nm.length 1++fL (oL a) 2++fL a.fl 2++fL a.id 2++anC a
def NJ(a:At):P8:=apU a++a.nm++aC (atN a-oL a-a.nm.length)++y3 a++aC (Lv a-atN a-(y3 a).length)
def iW(a:At):Int:=if Lz a≠0 then Lz a else if 440<(NJ a).length then 16 else 0
def iK(n:Nat):n<=EK n/\EK n<n+8/\EK n%8=0:=by unfold EK;omega
def bZ(n:Nat):(aC n).length=n:=zaq
def adJ{s:P8}(h:eX s):s.length<=32:=by
 rcases h with rfl|h
 ·simp
 ·unfold ag7 at h;omega
structure YV(a:At):Prop where
 ty:0<=a.ty/\a.ty<=192
 NB:a.ty∈NB
 nm:eX a.nm
 nmL:a.nm.length<=32
 idf:uT a
 rs:a.rs=true->a.rn.l.length=0/\Tq a/\a.vl.length<=400
 ot:a.rs=false->a.ty∉Tv/\a.vl=[]/\(0<=a.ft/\a.ft<=4096)/\dv a.rn.l=0/\a.ft+aF a.rn.l<=4096/\nn a/\a.vd<=a.sz
def azh{n:Int}(h:n∈NB):0<=n/\n<=192:=by
 unfold NB at h;simp only[zax,zb6,or_false]at h;omega
def YV.of{a:At}(h:Lz a=0):YV a:=by
 unfold Lz at h;split at h
 ·cases h
 rename_i U;have U:=zcN.1 U;split at h
 ·cases h
 rename_i H;have H:=zcN.1 H;split at h
 ·cases h
 rename_i h3;have h3:=zcN.1 h3;refine⟨azh U,U,H,adJ H,h3,λJ=>?_,λJ=>?_⟩
 ·unfold Dx at h;unfold Aq at h
  grind
 ·unfold Dx at h;rw[J,if_neg ai]at h;unfold xU at h;split at h
  ·cases h
  split at h
  ·cases h
  split at h
  ·cases h
  grind
end Go.Dv.Try
namespace Go.Dv.Try
open Go Go.Dv Go.RowKit Go.MapKept
section
def Wk:List (Int×Bool):=[(16,true),(32,false),(48,true),(64,false),(96,true),(112,true),(128,false),(144,true),(160,false),(176,false),(192,false)]
structure MI(w0:World)(b:Nat)(l:List (Int×Bool))(w:World):Prop where
 b0:w0.heap.size<=b
 lt:b<w.heap.size
 is:∃es n,w.heap[b]?=some (.map es n)/\RM es l
 bel:Below w0.heap.size w0 w
def agZ:∀(l:List (Int×Bool)) (n:Int),n∉l.map Prod.fst->PY l n=none
 |[],_,_=>rfl
 |p::l,n,h=>by
  have U:n≠p.1:=λe=>h (by simp[e])
  have hl:PY (p::l) n=(match decide (n=p.1)with|true=>some p.2|false=>PY l n):=rfl;rw[hl];simp only[U,decide_false];exact agZ l n λhm=>h au
def avV(w:World):∃w',(Instr.makeMap 264 none).run Go.Proofs.Tryz.prog w=.ok (.map (some w.heap.size)) w'/\MI w w.heap.size [] w':=by
 refine⟨_,dw,zai _,?_,⟨#[],0,(MapKept.heap_alloc w _).1,rfl⟩,?_⟩
 ·simp
 ·exact(Below.refl _ _).alloc (zai _) _
def pq{w0 w:World}{b:Nat}{l:List (Int×Bool)}{k:Int}{v:Bool}(h:MI w0 b l w)(E:k∉l.map Prod.fst):
 ∃w',(Instr.mapUpdate 264 (.map (some b)) (.int .i64 k) (.bool v)).run Go.Proofs.Tryz.prog w=.ok () w'/\MI w0 b (l++[(k,v)]) w':=by
 obtain⟨U,H,⟨es,n,h3,h4⟩,h5⟩:=h;obtain⟨j,hj⟩:=Hm l es.toList k 0 h4;rw[agZ l k E]at hj;have hm:=Go.Proofs.Tryz.underlying264;have hd:=Go.Proofs.Tryz.underlying3;refine⟨_,by simp[Instr.mapUpdate,run_underlying hm,MapKept.run_getObj_map h3,run_checkKey (k:=.int .i64 k) hd dw,run_findKey hd hj,run_setObj_map _ h3,Result.andThen];rfl,U,?_,⟨_,_,(heap_set h3).1,?_⟩,?_⟩
 ·grind
 ·unfold RM at h4 ⊢;simp[h4]
 ·exact h5.trans ⟨rfl,rfl,rfl,ab,λr J=>(heap_set h3).2 r V⟩
open Go.Shelf Go.Proofs in
set_option maxRecDepth 100000 in
def ai8(w:World):Calls Go.Proofs.Tryz.prog 245 #[] w λe w'=>∃b es n,e=.returned (.map (some b))/\w.heap.size<=b/\b<w'.heap.size/\w'.heap[b]?=some (.map es n)/\RM es Wk/\Below w.heap.size w w':=by
 have mixed:Go.Proofs.Tryz.prog.follows .mixedOrders=true:=mixed;have t3:=Go.Proofs.Tryz.underlying3;have a3:=Go.Proofs.Tryz.isAgg3;have z3:=Go.Proofs.Tryz.sizeOf3;have v3:=Go.Proofs.Tryz.zeroValue3;have t4:=Go.Proofs.Tryz.underlying4;have a4:=Go.Proofs.Tryz.isAgg4;have z4:=Go.Proofs.Tryz.sizeOf4;have v4:=Go.Proofs.Tryz.zeroValue4;have t264:=Go.Proofs.Tryz.underlying264;have aKG:=Go.Proofs.Tryz.isAgg264;have aKH:=Go.Proofs.Tryz.sizeOf264;have aKI:=Go.Proofs.Tryz.zeroValue264
 go_enter Go.Proofs.Tryz.func245,(show Go.Proofs.Tryz.f245.ntmps=3 from rfl)
 go_wp2
 obtain⟨w1,U,H⟩:=avV w;rw[U];simp only[Result.andThen];rw[Oper.upon_value]
 go_wp2
 obtain⟨w2,e0,m0⟩:=pq (k:=16) (v:=true) H ai;rw[e0];simp only[Result.andThen];rw[Oper.upon_skip]
 go_wp2
 clear e0 H;obtain⟨w3,e1,m1⟩:=pq (k:=32) (v:=false) m0 ai;rw[e1];simp only[Result.andThen];rw[Oper.upon_skip]
 go_wp2
 clear e1 m0;obtain⟨w4,e2,m2⟩:=pq (k:=48) (v:=true) m1 ai;rw[e2];simp only[Result.andThen];rw[Oper.upon_skip]
 go_wp2
 clear e2 m1;obtain⟨w5,e3,m3⟩:=pq (k:=64) (v:=false) m2 ai;rw[e3];simp only[Result.andThen];rw[Oper.upon_skip]
 go_wp2
 clear e3 m2;obtain⟨w6,e4,m4⟩:=pq (k:=96) (v:=true) m3 ai;rw[e4];simp only[Result.andThen];rw[Oper.upon_skip]
 go_wp2
 clear e4 m3;obtain⟨w7,e5,m5⟩:=pq (k:=112) (v:=true) m4 ai;rw[e5];simp only[Result.andThen];rw[Oper.upon_skip]
 go_wp2
 clear e5 m4;obtain⟨w8,e6,m6⟩:=pq (k:=128) (v:=false) m5 ai;rw[e6];simp only[Result.andThen];rw[Oper.upon_skip]
 go_wp2
 clear e6 m5;obtain⟨w9,e7,m7⟩:=pq (k:=144) (v:=true) m6 ai;rw[e7];simp only[Result.andThen];rw[Oper.upon_skip]
 go_wp2
 clear e7 m6;obtain⟨w10,e8,m8⟩:=pq (k:=160) (v:=false) m7 ai;rw[e8];simp only[Result.andThen];rw[Oper.upon_skip]
 go_wp2
 clear e8 m7;obtain⟨w11,e9,m9⟩:=pq (k:=176) (v:=false) m8 ai;rw[e9];simp only[Result.andThen];rw[Oper.upon_skip]
 go_wp2
 clear e9 m8;obtain⟨w12,e10,m10⟩:=pq (k:=192) (v:=false) m9 ai;rw[e10];simp only[Result.andThen];rw[Oper.upon_skip]
 go_wp2
 clear e10 m9
 go_ret
 obtain⟨U,H,⟨es,n,h3,h4⟩,h5⟩:=m10;exact⟨_,es,n,rfl,U,H,h3,h4,h5⟩
def Pn(ps:CK)(r:RV):Prop:=ps=[]/\r=.mp Wk
def anW:bQ Go.Proofs.Tryz.prog 245 (dz true Pn):=by
 refine⟨λe=>bh,λe=>bh,?_,λ_ _ _ _ _ _ _ _ h=>(show False from h).elim,λ_ _ _ _ _ _ _ _ e=>bh⟩;rintro w ok ps vs K _ b_ lf ⟨r,⟨rfl,rfl⟩,Y⟩;simp only[cz]at lf;have:vs= #[]:=au;subst this;refine⟨Go.Proofs.enters_of Go.Proofs.Tryz.func245 dw rfl,(ai8 w).mono ?_⟩;rintro e w' ⟨b,es,n,rfl,U,H,h3,h4,h5⟩;refine⟨_,_,[.map (some b)],rfl,Y,h5,?_,?_,?_⟩
 ·simp only[RR];refine⟨trivial,b,es,n,rfl,⟨.inr U,H,?_⟩,h3,h4⟩;intro u hu;simp at hu;subst hu;intro e;cases e
 ·intro u hu b I;simp at hu;subst hu;cases I
 grind
end
end Go.Dv.Try
namespace Go.Dv.Try
open Go Go.Dv
def az8(n:Int):(PY Wk n).isSome=true↔n∈NB:=by
 unfold Wk PY NB;simp only[]
 repeat'(split;·rename_i h;have:=of_decide_eq_true h;subst this;simp)
 rename_i U H h3 h4 h5 h6 h7 h8 h9 VB h11;simp at*;omega
def av3(n:Int):(PY Wk n).getD false=true↔n∈Tv:=by
 unfold Wk PY Tv;simp only[]
 repeat'(split;·rename_i h;have:=of_decide_eq_true h;subst this;simp)
 rename_i U H h3 h4 h5 h6 h7 h8 h9 VB h11;simp at*;omega
def aaK(ps:CK)(p:Prop):Prop:=∃n:Int,ps=[pI n]/\p=(n∈NB)
def ZF:MT (ao [(245,dz true Pn)]) vr (dU aaK):=by
 rintro _ K ⟨_,⟨n,rfl,rfl⟩,Y⟩
 (repeat'((conv=>whnf);first|refine⟨_,⟨rfl,rfl⟩,?_⟩|fail))
 exact⟨.pv (.bool _),rfl,trivial,Y _ (az8 n)⟩
def xS(ps:CK)(x:PV):Prop:=∃a:At,ps=[a.pv]/\rnS a.rn.l/\x=pI (aF a.rn.l)
def Kc:MT (ao []) sj (ah xS):=by
 rintro _ K ⟨_,⟨a,rfl,hs,rfl⟩,Y⟩
 (repeat'((conv=>whnf);first|refine tD ?_|refine cT λ_=>?_|fail))
 refine⟨λm env Z=>∃(n:Nat),n+m=a.rn.l.length/\Z=[]/\env=[eN 3 (aF (a.rn.l.take n)),(7,.pv (uF a.rn)),eN 8 a.rn.l.length,eN 9 n],a.rn.l.length,⟨0,V,rfl,rfl⟩,?_⟩;rintro m env Z ⟨n,hn,rfl,rfl⟩;have I:=hs.sum n V;have hl:=hs.1
 (repeat'((conv=>whnf);first|(refine IXA V (λx T=>?_);have:=hs.2 x (zag T))|refine bu V ?_|refine dc (λ_=>?_) (λ_=>?_)|refine aY ?_|fail))
 ·exact⟨m-1,V,n+1,V,rfl,by rw[EL T];rfl⟩
 ·rw[za1 V];exact aO
def aa_(ps:CK)(x:PV):Prop:=∃a:At,ps=[a.pv]/\x=pI (Aq a)
def Yv:MT (ao [(191,ah bF),(190,ah dn)]) nQ (ah aa_):=by
 rintro _ K ⟨_,⟨a,rfl,rfl⟩,Y⟩;unfold Aq Tq at Y
 (repeat'((conv=>whnf);first|refine tD ?_|(refine ik ?_;first|refine dc (λ_=>?_) (λ_=>?_)|refine cT λ_=>?_|refine aY ?_|refine⟨_,⟨_,_,rfl,rfl⟩,?_⟩|refine⟨_,⟨[_,_],rfl,rfl⟩,?_⟩|fail)))
 all_goals(refine⟨.pv (pI _),cn ?_,trivial,Y⟩;simp only[aZ,if_true,zcO,if_false,reduceCtorEq];(repeat' split)<;>first|rfl|omega)
def SQ(ps:CK)(x:PV):Prop:=∃s:P8,ps=[.str s]/\x=pI (if eX s then 0 else 4)
def PR:MT (ao [(246,ah ahf),(191,ah bF)]) tv (ah SQ):=by
 rintro _ K ⟨_,⟨s,rfl,rfl⟩,Y⟩;unfold eX at Y
 (repeat'((conv=>whnf);first|refine⟨_,⟨s,rfl,rfl⟩,?_⟩|(refine ik ?_;first|refine dc (λ_=>?_) (λ_=>?_)|refine⟨_,⟨_,_,rfl,rfl⟩,?_⟩|fail)))
 ·rename_i h;have h:s=[]:=h;exact⟨.pv (pI _),cn (by simp[h]),trivial,Y⟩
 ·rename_i h _;have h:s≠[]:=h;exact⟨.pv (pI _),cn (by simp_all),trivial,Y⟩
 ·rename_i h _;have h:s≠[]:=h;exact⟨.pv (pI _),cn (by simp_all),trivial,Y⟩
def aa3(ps:CK)(x:PV):Prop:=∃a:At,ps=[a.pv]/\x=pI (xU a)
def IK{l:UH}(h:dv l=0):rnS l:=aod (by have:=(bz h).1;omega) (bz h).2.1
def ZH{l:UH}(h:dv l=0):0<=aF l/\aF l<=4096:=by
 refine⟨?_,(bz h).2.2.1⟩;have:=(bz h).2.2.2;clear h
 induction l with
 |nil=>exact Int.le_refl 0
 |cons r l ih=>
  have U:=this r ab;have H:=ih (λx T=>this x bP);have:aF (r::l)=r.n+aF l:=by simp[aF]
  unfold ir at U;split at U<;>omega
def aow{A bs:P8}{z g at_:Nat}(e:at_=A.length+g)(h:g+bs.length<=z):BT (A++aC z) at_ bs=A++aC g++bs++aC (z-g-bs.length):=by
 subst e;unfold BT aC;rw[List.take_append,za1 V,List.drop_append,zb7 V,zaZ,show A.length+g-A.length=g by omega,show A.length+g+bs.length-A.length=g+bs.length by omega,List.take_replicate,List.drop_replicate,show min g z=g by omega,show z-(g+bs.length)=z-g-bs.length by omega]
def an4{A X C bs:P8}{at_:Nat}(e:at_=A.length)(h:X.length=bs.length):BT (A++(X++C)) at_ bs=A++(bs++C):=by
 subst e;unfold BT;rw[zbm,<-h,show A.length+X.length=(A++X).length by simp,<-zaj A X C,zbn,zaj]
def ke:P8->Nat->P8->P8
 |B,_,[]=>B
 |B,at_,b::bs=>ke (B.set at_ b) (at_+1) bs
def DE(bs:P8):∀(B:P8) (at_:Nat),(ke B at_ bs).length=B.length:=by
 induction bs with
 |nil=>intro B at_;rfl
 |cons b bs ih=>intro B at_;rw[ke,ih,za0]
def aiT{B bs:P8}{at_:Nat}{b:UInt8}(h:at_+bs.length<B.length):BT B at_ (b::bs)=BT (B.set at_ b) (at_+1) bs:=by
 unfold BT;have U:(B.set at_ b).take (at_+1)=B.take at_++[b]:=by
  rw[zcM,List.take_set_of_le (zai _),zbO V];rfl
 have H:(B.set at_ b).drop (at_+1+bs.length)=B.drop (at_+(b::bs).length):=by
  rw[zdh V];simp only[zap];congr 1;omega
 rw[U,H];simp
def OX(bs:P8):∀(B:P8) (at_:Nat),at_+bs.length<=B.length->ke B at_ bs=BT B at_ bs:=by
 induction bs with
 |nil=>intro B at_ _;rw[acs];rfl
 |cons b bs ih=>
  intro B at_ h;simp only[zap]at h;rw[ke,ih _ _ (by rw[za0];omega),aiT V]
def aex(xs:XP)(Z:ax)(K:AV->ax->Prop):Prop:=∃(B:P8) (at_ k:Nat) (n:Int),xs=[.own 0,.pv (pI at_),.pv (pI k),.pv (pI n)]/\(at_+k<=B.length/\B.length<=1000000)/\Z=[.row 5 1 true (B.map aG)]/\K (.tup []) [.row 5 1 true ((ke B at_ (fL n k)).map aG)]
def ato{xs:XP}{Z:ax}{K:AV->ax->Prop}(h:aex xs Z K):auZ xs Z K:=by
 obtain⟨B,at_,k,n,U,H,h3,h4⟩:=h;rw[OX _ _ _ (by rw[jZ];exact H.1)]at h4;exact⟨B,at_,k,n,U,H,h3,h4⟩
def agz:OQ (ao []) sN (lZ aex):=λxs Z K h=>ajF xs Z K (ato h)
def XD{B ys:P8}{lo n:Nat}(h:n=B.length-lo)(H:lo+ys.length<=B.length):
 (B.map aG).take lo++(ys.map aG).take n++(B.map aG).drop (lo+min (ys.map aG).length n)=(ke B lo ys).map aG:=by
 rw[OX _ _ _ H];unfold BT;have h3:(ys.map aG).take n=ys.map aG:=za1 pd;have h4:min (ys.map aG).length n=ys.length:=pd;rw[h3,h4,<-zc3,<-zc5,zaY,zaY]
def aax(hi:Nat):List.replicate hi (PV.int .u8 0)=(aC hi).map aG:=by unfold aC;rw[zcp];rfl
def WH(ps:CK)(x:PV):Prop:=∃(b:Bool) (h:Int),ps=[pB b]/\h=(if b=true then 24 else 40)/\x=pI h
def Vw:MT (ao []) zL (ah WH):=by
 rintro _ K ⟨_,⟨b,h,rfl,rfl,rfl⟩,Y⟩;cases b
 ·exact aO
 ·exact aO
def Wu(ps:CK)(x:PV):Prop:=∃(n:Int) (m:Nat),ps=[pI n]/\(0<=n/\n<=1000000/\m=EK n.toNat)/\x=pI m
def Va:MT (ao []) tw (ah Wu):=by
 rintro _ K ⟨_,⟨n,m,rfl,⟨U,H,rfl⟩,rfl⟩,Y⟩;unfold EK at Y
 (repeat'((conv=>whnf);first|refine bu V ?_|refine QUO V ?_|fail))
 refine⟨.pv (pI _),cn ?_,trivial,Y⟩;omega
def ati{P bs:P8}{z g at_ n:Nat}(e:at_=P.length+g)(h:g+bs.length<=z)(e2:n=z-g-bs.length):ke (P++aC z) at_ bs=P++aC g++bs++aC n:=by
 rw[OX _ _ _ (by rw[zad,bZ];omega),aow e h,e2]
def am6{P X C bs:P8}{at_:Nat}(e:at_=P.length)(h:X.length=bs.length):ke (P++(X++C)) at_ bs=P++(bs++C):=by
 rw[OX _ _ _ (by simp only[zad];omega),an4 e h]
def gJ(g n:Nat){P bs:P8}{z at_:Nat}(e:at_=P.length+g:=by simp only[List.length_append,jZ,bZ,List.length_nil]<;>omega)(h:g+bs.length<=z:=by(try simp only[jZ])<;>omega)(e2:n=z-g-bs.length:=by(try simp only[jZ])<;>omega):ke (P++aC z) at_ bs=P++aC g++bs++aC n:=ati e h e2
def arl{ty fl id:Int}{nm vl:P8}{hi A:Nat}(U:24+nm.length<=A)(H:A+vl.length<=hi):
 ke (ke (ke (ke (ke (ke (ke (ke (ke (ke (aC hi) 0 (fL ty 4)) 4 (fL (hi:Nat) 4)) 9 (fL (nm.length:Nat) 1)) 10 (fL 24 2)) 12 (fL fl 2)) 14 (fL id 2)) 16 (fL (vl.length:Nat) 4)) 20 (fL (A:Nat) 4)) 24 nm) A vl=
 fL ty 4++fL (hi:Nat) 4++fL 0 1++fL (nm.length:Nat) 1++fL 24 2++fL fl 2++fL id 2++(fL (vl.length:Nat) 4++fL (A:Nat) 4)++nm++aC (A-24-nm.length)++vl++aC (hi-A-vl.length):=by
 rw[<-zaZ (aC hi),gJ 0 (hi-4),gJ 0 (hi-8),gJ 1 (hi-10),gJ 0 (hi-12),gJ 0 (hi-14),gJ 0 (hi-16),gJ 0 (hi-20),gJ 0 (hi-24),gJ 0 (hi-24-nm.length),gJ (A-24-nm.length) (hi-A-vl.length)];have z0:aC 0=[]:=rfl;have z1:aC 1=fL 0 1:=rfl;rw[z0,z1];simp only[zaZ,zbg,zaj]
def ars{ty fl id ft la al sz vd:Int}{nm vl:P8}{hi A:Nat}(U:40+nm.length<=A)(H:A+vl.length<=hi):
 ke (ke (ke (ke (ke (ke (ke (ke (ke (ke (ke (ke (ke (ke (ke (aC hi) 0 (fL ty 4)) 4 (fL (hi:Nat) 4)) 9 (fL (nm.length:Nat) 1)) 10 (fL 40 2)) 12 (fL fl 2)) 14 (fL id 2)) 8 (fL 1 1)) 16 (fL ft 4)) 20 (fL la 4)) 24 (fL (A:Nat) 2)) 28 (fL al 4)) 32 (fL sz 4)) 36 (fL vd 4)) 40 nm) A vl=
 fL ty 4++fL (hi:Nat) 4++fL 1 1++fL (nm.length:Nat) 1++fL 40 2++fL fl 2++fL id 2++(fL ft 4++fL la 4++fL (A:Nat) 2++aC 2++fL al 4++fL sz 4++fL vd 4)++nm++aC (A-40-nm.length)++vl++aC (hi-A-vl.length):=by
 rw[<-zaZ (aC hi),gJ 0 (hi-4),gJ 0 (hi-8),gJ 1 (hi-10),gJ 0 (hi-12),gJ 0 (hi-14),gJ 0 (hi-16)];have m:=am6 (P:=([]:P8)++aC 0++fL ty 4++aC 0++fL (hi:Nat) 4) (X:=aC 1) (C:=fL (nm.length:Nat) 1++(aC 0++(fL 40 2++(aC 0++(fL fl 2++(aC 0++(fL id 2++aC (hi-16)))))))) (at_:=8) (bs:=fL 1 1) (by simp only[zad,jZ,bZ,zbh]) (by rw[jZ,bZ]);simp only[<-zaj]at m ⊢;rw[m,gJ 0 (hi-20),gJ 0 (hi-24),gJ 0 (hi-26),gJ 2 (hi-32),gJ 0 (hi-36),gJ 0 (hi-40),gJ 0 (hi-40-nm.length),gJ (A-40-nm.length) (hi-A-vl.length)];have z0:aC 0=[]:=rfl;rw[z0];simp only[zaZ,zbg,zaj]
def amk(ps:CK)(x:PV):Prop:=∃a:At,ps=[a.pv]/\Lz a=0/\x=.str (NJ a)
def Vz:MT (ao [(248,dz true H5),(249,ah WH),(250,ah Wu),(251,lZ aex),(247,ah xS)]) tE (ah amk):=by
 rintro _ K ⟨_,⟨a,rfl,ha,rfl⟩,Y⟩;have hA:=YV.of ha;obtain⟨ty,nm,id,fl,rs,vl,ft,rn,al,sz,vd⟩:=a;have hnm:=hA.nmL;simp only at hnm;simp only[At.pv];cases rs with
 |true=>
  obtain⟨_,_,PE⟩:=hA.rs rfl;simp only at PE;have U:=iK (24+nm.length);have H:=iK (EK (24+nm.length)+vl.length);obtain⟨hi,hW⟩:∃hi,hi=EK (EK (24+nm.length)+vl.length):=⟨_,rfl⟩
  obtain⟨A,hA⟩:∃A,A=EK (24+nm.length):=⟨_,rfl⟩
  rw[<-hA]at U H hW;rw[<-hW]at H;have ZW:∀B:P8,B.length=hi->(B.map aG).take (Int.toNat 24)++(nm.map aG).take ((B.map aG).length-Int.toNat 24)++(B.map aG).drop (Int.toNat 24+min (nm.map aG).length ((B.map aG).length-Int.toNat 24))=(ke B 24 nm).map aG:=
   λB hB=>XD (lo:=24) vL V
  have HO:∀B:P8,B.length=hi->(B.map aG).take (A:Int).toNat++(vl.map aG).take ((B.map aG).length-(A:Int).toNat)++(B.map aG).drop ((A:Int).toNat+min (vl.map aG).length ((B.map aG).length-(A:Int).toNat))=(ke B A vl).map aG:=
   λB hB=>XD (lo:=A) vL V
  (repeat'((conv=>whnf);first|refine⟨_,⟨true,24,rfl,rfl,rfl⟩,?_⟩|(rw[aax,zaC])|(simp only[ZW,HO,DE,bZ])|refine Or.inr ?_|refine zcv (by(simp only[if_true,zaw,DE,bZ];omega)) ?_|refine⟨_,0,4,_,rfl,⟨aX,aX⟩,rfl,?_⟩|refine⟨_,4,4,_,rfl,⟨aX,aX⟩,rfl,?_⟩|refine⟨_,9,1,_,rfl,⟨aX,aX⟩,rfl,?_⟩|refine⟨_,10,2,_,rfl,⟨aX,aX⟩,rfl,?_⟩|refine⟨_,12,2,_,rfl,⟨aX,aX⟩,rfl,?_⟩|refine⟨_,14,2,_,rfl,⟨aX,aX⟩,rfl,?_⟩|refine⟨_,16,4,_,rfl,⟨aX,aX⟩,rfl,?_⟩|refine⟨_,20,4,_,rfl,⟨aX,aX⟩,rfl,?_⟩|refine⟨_,⟨_,hi,rfl,⟨V,V,by rw[hW];exact congrArg EK V⟩,rfl⟩,?_⟩|(refine ik ?_;first|refine bu V ?_|refine bR ?_|refine cT λ_=>?_|refine BTS ?_|refine aY ?_|refine⟨_,⟨_,_,rfl,dg,rfl⟩,?_⟩|refine HI ?_|fail)))
  rw[show NJ ⟨ty,nm,id,fl,true,vl,ft,rn,al,sz,vd⟩=fL ty 4++fL (hi:Nat) 4++fL 0 1++fL (nm.length:Nat) 1++fL 24 2++fL fl 2++fL id 2++(fL (vl.length:Nat) 4++fL (A:Nat) 4)++nm++aC (A-24-nm.length)++vl++aC (hi-A-vl.length)from by rw[hW,hA];rfl,<-arl U.1 H.1]at Y;exact fJ
 |false=>
  obtain⟨_,rfl,hft,hz,hsm,nP,_⟩:=hA.ot rfl;simp only[nn]at hft hz hsm nP;have hs:=ZH hz;have Xo:=(bz hz).1;have hel:(rr rn.l).length<=400:=by
   unfold rr;have:=H2 rn.l rn.l.length (zai _);simp only[zad,zap,zbh];omega
  obtain⟨vl,PE⟩:∃vl,vl=rr rn.l:=⟨_,rfl⟩
  rw[<-PE]at hel;have U:=iK (40+nm.length);have H:=iK (EK (40+nm.length)+vl.length);obtain⟨hi,hW⟩:∃hi,hi=EK (EK (40+nm.length)+vl.length):=⟨_,rfl⟩
  obtain⟨A,hA⟩:∃A,A=EK (40+nm.length):=⟨_,rfl⟩
  rw[<-hA]at U H hW;rw[<-hW]at H;have ZW:∀B:P8,B.length=hi->(B.map aG).take (Int.toNat 40)++(nm.map aG).take ((B.map aG).length-Int.toNat 40)++(B.map aG).drop (Int.toNat 40+min (nm.map aG).length ((B.map aG).length-Int.toNat 40))=(ke B 40 nm).map aG:=
   λB hB=>XD (lo:=40) vL V
  have HO:∀B:P8,B.length=hi->(B.map aG).take (A:Int).toNat++(vl.map aG).take ((B.map aG).length-(A:Int).toNat)++(B.map aG).drop ((A:Int).toNat+min (vl.map aG).length ((B.map aG).length-(A:Int).toNat))=(ke B A vl).map aG:=
   λB hB=>XD (lo:=A) vL V
  (repeat'((conv=>whnf);first|refine⟨_,⟨false,40,rfl,rfl,rfl⟩,?_⟩|refine⟨RV.tup [.pv (.str vl),.pv (pI 0)],⟨rn,rfl,by rw[hz,if_pos rfl,PE]⟩,?_⟩|(simp only[ZW,HO,DE,bZ])|(rw[aax,zaC])|refine Or.inr ?_|refine zcv (by(simp only[if_true,zaw,DE,bZ];omega)) ?_|refine⟨_,0,4,_,rfl,⟨aX,aX⟩,rfl,?_⟩|refine⟨_,4,4,_,rfl,⟨aX,aX⟩,rfl,?_⟩|refine⟨_,9,1,_,rfl,⟨aX,aX⟩,rfl,?_⟩|refine⟨_,10,2,_,rfl,⟨aX,aX⟩,rfl,?_⟩|refine⟨_,12,2,_,rfl,⟨aX,aX⟩,rfl,?_⟩|refine⟨_,14,2,_,rfl,⟨aX,aX⟩,rfl,?_⟩|refine⟨_,8,1,_,rfl,⟨aX,aX⟩,rfl,?_⟩|refine⟨_,16,4,_,rfl,⟨aX,aX⟩,rfl,?_⟩|refine⟨_,20,4,_,rfl,⟨aX,aX⟩,rfl,?_⟩|refine⟨_,24,2,_,rfl,⟨aX,aX⟩,rfl,?_⟩|refine⟨_,28,4,_,rfl,⟨aX,aX⟩,rfl,?_⟩|refine⟨_,32,4,_,rfl,⟨aX,aX⟩,rfl,?_⟩|refine⟨_,36,4,_,rfl,⟨aX,aX⟩,rfl,?_⟩|refine⟨_,⟨⟨ty,nm,id,fl,false,[],ft,rn,al,sz,vd⟩,rfl,IK hz,rfl⟩,?_⟩|refine⟨_,⟨_,hi,rfl,⟨V,V,by rw[hW];exact congrArg EK V⟩,rfl⟩,?_⟩|(refine ik ?_;first|refine bu V ?_|refine ak ai ?_|refine cT λ_=>?_|refine BTS ?_|refine aY ?_|refine⟨_,⟨_,_,rfl,dg,rfl⟩,?_⟩|refine HI ?_|fail)))
  rw[show NJ ⟨ty,nm,id,fl,false,[],ft,rn,al,sz,vd⟩=fL ty 4++fL (hi:Nat) 4++fL 1 1++fL (nm.length:Nat) 1++fL 40 2++fL fl 2++fL id 2++(fL ft 4++fL (ft+aF rn.l-1) 4++fL (A:Nat) 2++aC 2++fL al 4++fL sz 4++fL vd 4)++nm++aC (A-40-nm.length)++vl++aC (hi-A-vl.length)from by rw[hW,hA,PE];rfl,<-ars U.1 H.1]at Y;exact fJ
def ak7{a:At}{c5 c6 c3 c2 c9:Bool}(hs:0<=a.ft)(h5:c5=true↔¬(0<a.ft/\a.rn.l.length=0))(h6:c6=true↔a.ft+aF a.rn.l<=4096)
 (h3:c3=true↔¬(0<a.ft∧¬(a.al=0/\a.sz=0/\a.vd=0))) (H:c2=true↔nn a) (h9:c9=true↔a.vd<=a.sz):
 (if 0<a.ft/\a.rn.l.length=0 then 17 else if 4096<a.ft+aF a.rn.l then 8 else if 0<a.ft∧¬(a.al=0/\a.sz=0/\a.vd=0)then 3 else if ¬nn a then 2 else if a.sz<a.vd then 9 else 0)=
 aZ [if c5=true then 0 else 17,if c6=true then 0 else 8,if c3=true then 0 else 3,if c2=true then 0 else 2,if c9=true then 0 else 9]:=by
 simp only[aZ,h5,h6,h3,H,h9]
 (repeat' split)<;>first|rfl|omega|contradiction
set_option maxRecDepth 8000 in
def YW:MT (ao [(245,dz true Pn),(191,ah bF),(190,ah dn),(194,dU cf),(238,dz true ano),(247,ah xS)]) si (ah aa3):=by
 rintro _ K ⟨_,⟨a,rfl,rfl⟩,Y⟩
 (repeat'((conv=>whnf);first|refine⟨_,⟨rfl,rfl⟩,?_⟩|refine λ(b:Bool) I=>?_|(refine ik ?_;first|refine aY ?_|refine⟨_,⟨_,_,rfl,rfl⟩,?_⟩|refine⟨_,⟨_,_,_,rfl,rfl⟩,?_⟩|refine⟨_,⟨[_,_,_],rfl,rfl⟩,?_⟩|fail)))
 rename_i b2 H b3 h3 b4 h4;have H:b2=true↔a.ty∉Tv:=by rw[H,<-av3];simp
 have h3:b3=true↔a.vl=[]:=h3;have e1:aZ [if b2=true then 0 else 20,if b3=true then 0 else 3,if b4=true then 0 else 2]=if a.ty∈Tv then 20 else if a.vl≠[]then 3 else if ¬(0<=a.ft/\a.ft<=4096)then 2 else 0:=by
  simp only[aZ,H,h3,h4];by_cases g1:a.ty∈Tv<;>by_cases g2:a.vl=[]<;>by_cases g3:0<=a.ft/\a.ft<=4096<;>simp[g1,g2,g3]
 rw[e1]at I;unfold xU at Y;cases b with
 |true=>
  have I:=I.1 rfl;refine⟨.pv (pI _),cn ?_,trivial,Y⟩;rw[e1];by_cases g1:a.ty∈Tv
  ·simp[g1]
  by_cases g2:a.vl=[]
  ·by_cases g3:0<=a.ft/\a.ft<=4096
   ·exact absurd (by simp[g1,g2,g3]) I
   ·simp[g1,g2,g3]
  ·simp[g1,g2]
 |false=>
 have I:¬_:=λh=>absurd (I.2 h) ai
 have g1:a.ty∉Tv:=λh=>I (by simp[h])
 have g2:a.vl=[]:=zcN.1 λh=>I (by simp[h,g1])
 have g3:0<=a.ft/\a.ft<=4096:=zcN.1 λh=>I (by simp[h,g1,g2])
 rw[if_neg g1,if_neg (λh=>h g2),if_neg (λh=>h g3)]at Y;clear I e1 H h3 h4;by_cases hz:dv a.rn.l=0
 case neg=>
  rw[if_pos hz]at Y
  (repeat'((conv=>whnf);first|refine⟨_,⟨a.rn,rfl,rfl⟩,?_⟩|refine ak hz ?_|fail))
  exact aO
 rw[if_neg (λh=>h hz)]at Y;have hs:=ZH hz;have FJ:(List.map Rn.pv a.rn.l).length=a.rn.l.length:=zaw _
 (repeat'((conv=>whnf);first|refine tD ?_|refine⟨_,⟨a.rn,rfl,rfl⟩,?_⟩|refine ar (λh=>h hz) ?_|refine⟨_,⟨a,rfl,IK hz,rfl⟩,?_⟩|(refine λ(b5:Bool) (hb5:b5=true↔(0:Int)<((List.map Rn.pv a.rn.l).length:Nat))=>?_)|(refine λ(b6:Bool) (hb6:b6=true↔a.ft+aF a.rn.l<=4096)=>?_)|(refine λ(b7:Bool) (hb7:b7=true↔a.vd<=a.sz)=>?_)|refine⟨_,⟨[_,_,_,_,_],rfl,rfl⟩,?_⟩|(refine ik ?_;first|refine bu V ?_|refine bR ?_|refine ec ?_|refine ak V ?_|refine dc (λ_=>?_) (λ_=>?_)|refine aY ?_|refine⟨_,⟨_,_,rfl,rfl⟩,?_⟩|refine⟨_,⟨_,_,_,rfl,rfl⟩,?_⟩|fail)))
 all_goals
  refine⟨.pv (pI _),cn (ak7 (a:=a) V ?_ ?_ ?_ ?_ ?_),trivial,Y⟩;all_goals first
   |(rw[hb6];done)
   |(rw[hb7];done)
   |(simp only[true_iff];(try unfold nn);omega)
   |(simp only[zcO,false_iff];(try unfold nn);omega)
   |(rw[hb5,FJ];omega)
def G0(ps:CK)(x:PV):Prop:=∃a:At,ps=[a.pv]/\a.nm.length<=1000000/\x=pI (iW a)
def akL{a:At}(U:a.ty∈NB)(H:eX a.nm)(h3:uT a):Lz a=Dx a:=by
 unfold Lz;rw[if_neg (λh=>h U),if_neg (λh=>h H),if_neg (λh=>h h3)]
def ata(a:At):iW a=if a.ty∉NB then 15 else if ¬eX a.nm then 4 else if ¬uT a then 2 else if Dx a≠0 then Dx a else if 440<(NJ a).length then 16 else 0:=by
 unfold iW Lz;by_cases U:a.ty∈NB<;>by_cases H:eX a.nm<;>by_cases h3:uT a<;>simp[U,H,h3]
def O1(p q r:Prop)[Decidable p][Decidable q][Decidable r](c1 c3:Bool)(U:c1=true↔p)(h3:c3=true↔r):aZ [if c1=true then 0 else 15,if q then 0 else 4,if c3=true then 0 else 2]=if ¬p then 15 else if ¬q then 4 else if ¬r then 2 else 0:=by
 simp only[aZ,U,h3];by_cases g1:p<;>by_cases g2:q<;>by_cases g3:r<;>simp[g1,g2,g3]
def DB:MT (ao [(192,dU aaK),(191,ah bF),(193,ah SQ),(194,dU cf),(190,ah dn),(195,ah aa_),(196,ah aa3),(197,ah amk)]) lp (ah G0):=by
 rintro _ K ⟨_,⟨a,rfl,hn,rfl⟩,Y⟩;rw[ata]at Y;obtain⟨ty,nm,id,fl,rs,vl,ft,rn,al,sz,vd⟩:=a;simp only at hn Y;simp only[At.pv];by_cases g:ty∈NB/\eX nm/\uT ⟨ty,nm,id,fl,rs,vl,ft,rn,al,sz,vd⟩
 ·obtain⟨g1,g2,g3⟩:=g;rw[if_neg (λh=>h g1),if_neg (λh=>h g2),if_neg (λh=>h g3)]at Y;have e0:aZ [if true=true then 0 else 15,if eX nm then 0 else 4,if true=true then 0 else 2]=0:=by simp[aZ,g2]
  have g4:=g3;simp only[uT]at g4;have h0:Lz ⟨ty,nm,id,fl,rs,vl,ft,rn,al,sz,vd⟩=Dx ⟨ty,nm,id,fl,rs,vl,ft,rn,al,sz,vd⟩:=akL g1 g2 g3;by_cases E:Dx ⟨ty,nm,id,fl,rs,vl,ft,rn,al,sz,vd⟩=0
  ·rw[if_neg (λh=>h E)]at Y;rw[E]at h0;cases rs with
   |true=>
    have xG:Aq ⟨ty,nm,id,fl,true,vl,ft,rn,al,sz,vd⟩=0:=E
    (repeat'((conv=>whnf);first|refine ak g1 ?_|refine ak g4.1 ?_|refine ak g4.2 ?_|refine ar (λh=>h e0) ?_|refine ar (λh=>h xG) ?_|refine⟨_,⟨nm,rfl,rfl⟩,?_⟩|refine⟨_,⟨[_,_,_],rfl,rfl⟩,?_⟩|refine⟨_,⟨⟨ty,nm,id,fl,true,vl,ft,rn,al,sz,vd⟩,rfl,rfl⟩,?_⟩|refine⟨_,⟨⟨ty,nm,id,fl,true,vl,ft,rn,al,sz,vd⟩,rfl,h0,rfl⟩,?_⟩|(refine ik ?_;first|refine dc (λ_=>?_) (λ_=>?_)|refine aY ?_|refine⟨_,⟨_,rfl,rfl⟩,?_⟩|refine⟨_,⟨_,_,rfl,rfl⟩,?_⟩|refine⟨_,⟨_,_,_,rfl,rfl⟩,?_⟩|fail)))
    ·rw[if_neg V]at Y;exact aO
    ·rw[if_pos V]at Y;exact aO
   |false=>
    have xG:xU ⟨ty,nm,id,fl,false,vl,ft,rn,al,sz,vd⟩=0:=E
    (repeat'((conv=>whnf);first|refine ak g1 ?_|refine ak g4.1 ?_|refine ak g4.2 ?_|refine ar (λh=>h e0) ?_|refine ar (λh=>h xG) ?_|refine⟨_,⟨nm,rfl,rfl⟩,?_⟩|refine⟨_,⟨[_,_,_],rfl,rfl⟩,?_⟩|refine⟨_,⟨⟨ty,nm,id,fl,false,vl,ft,rn,al,sz,vd⟩,rfl,rfl⟩,?_⟩|refine⟨_,⟨⟨ty,nm,id,fl,false,vl,ft,rn,al,sz,vd⟩,rfl,h0,rfl⟩,?_⟩|(refine ik ?_;first|refine dc (λ_=>?_) (λ_=>?_)|refine aY ?_|refine⟨_,⟨_,rfl,rfl⟩,?_⟩|refine⟨_,⟨_,_,rfl,rfl⟩,?_⟩|refine⟨_,⟨_,_,_,rfl,rfl⟩,?_⟩|fail)))
    ·rw[if_neg V]at Y;exact aO
    ·rw[if_pos V]at Y;exact aO
  ·rw[if_pos E]at Y;clear h0;cases rs with
   |true=>
    have xG:Aq ⟨ty,nm,id,fl,true,vl,ft,rn,al,sz,vd⟩≠0:=E
    (repeat'((conv=>whnf);first|refine ak g1 ?_|refine ak g4.1 ?_|refine ak g4.2 ?_|refine ar (λh=>h e0) ?_|refine ak xG ?_|refine⟨_,⟨nm,rfl,rfl⟩,?_⟩|refine⟨_,⟨[_,_,_],rfl,rfl⟩,?_⟩|refine⟨_,⟨⟨ty,nm,id,fl,true,vl,ft,rn,al,sz,vd⟩,rfl,rfl⟩,?_⟩|(refine ik ?_;first|refine aY ?_|refine⟨_,⟨_,rfl,rfl⟩,?_⟩|refine⟨_,⟨_,_,rfl,rfl⟩,?_⟩|refine⟨_,⟨_,_,_,rfl,rfl⟩,?_⟩|fail)))
    exact aO
   |false=>
    have xG:xU ⟨ty,nm,id,fl,false,vl,ft,rn,al,sz,vd⟩≠0:=E
    (repeat'((conv=>whnf);first|refine ak g1 ?_|refine ak g4.1 ?_|refine ak g4.2 ?_|refine ar (λh=>h e0) ?_|refine ak xG ?_|refine⟨_,⟨nm,rfl,rfl⟩,?_⟩|refine⟨_,⟨[_,_,_],rfl,rfl⟩,?_⟩|refine⟨_,⟨⟨ty,nm,id,fl,false,vl,ft,rn,al,sz,vd⟩,rfl,rfl⟩,?_⟩|(refine ik ?_;first|refine aY ?_|refine⟨_,⟨_,rfl,rfl⟩,?_⟩|refine⟨_,⟨_,_,rfl,rfl⟩,?_⟩|refine⟨_,⟨_,_,_,rfl,rfl⟩,?_⟩|fail)))
    exact aO
 ·have ca:(if ¬ty∈NB then 15 else if ¬eX nm then 4 else if ¬uT ⟨ty,nm,id,fl,rs,vl,ft,rn,al,sz,vd⟩then 2 else(0:Int))≠0:=by
   by_cases U:ty∈NB<;>by_cases H:eX nm<;>by_cases h3:uT ⟨ty,nm,id,fl,rs,vl,ft,rn,al,sz,vd⟩<;>simp_all
  have Y:K (.pv (pI (if ¬ty∈NB then 15 else if ¬eX nm then 4 else if ¬uT ⟨ty,nm,id,fl,rs,vl,ft,rn,al,sz,vd⟩then 2 else 0))):=by
   have e:∀x:Int,(if ¬ty∈NB then 15 else if ¬eX nm then 4 else if ¬uT ⟨ty,nm,id,fl,rs,vl,ft,rn,al,sz,vd⟩then 2 else x)=(if ¬ty∈NB then 15 else if ¬eX nm then 4 else if ¬uT ⟨ty,nm,id,fl,rs,vl,ft,rn,al,sz,vd⟩then 2 else 0):=by
    intro x;by_cases U:ty∈NB<;>by_cases H:eX nm<;>by_cases h3:uT ⟨ty,nm,id,fl,rs,vl,ft,rn,al,sz,vd⟩<;>simp_all
   rw[e]at Y;exact Y
  (repeat'((conv=>whnf);first|(refine λ(b1:Bool) (xI:b1=true↔ty∈NB)=>?_)|refine⟨_,⟨nm,rfl,rfl⟩,?_⟩|refine⟨_,⟨[_,_,_],rfl,rfl⟩,?_⟩|(refine ak (by rw[O1 (ty∈NB) (eX nm) (uT ⟨ty,nm,id,fl,rs,vl,ft,rn,al,sz,vd⟩) b1 true xI (by simp only[uT,true_iff];omega)];exact ca) ?_)|(refine ak (by rw[O1 (ty∈NB) (eX nm) (uT ⟨ty,nm,id,fl,rs,vl,ft,rn,al,sz,vd⟩) b1 false xI (by simp only[uT,zcO,false_iff];omega)];exact ca) ?_)|(refine ik ?_;first|refine dc (λ_=>?_) (λ_=>?_)|refine aY ?_|refine⟨_,⟨_,rfl,rfl⟩,?_⟩|refine⟨_,⟨_,_,rfl,rfl⟩,?_⟩|refine⟨_,⟨_,_,_,rfl,rfl⟩,?_⟩|fail)))
  all_goals
   first
    |(rw[<-O1 (ty∈NB) (eX nm) (uT ⟨ty,nm,id,fl,rs,vl,ft,rn,al,sz,vd⟩) b1 true xI (by simp only[uT,true_iff];omega)]at Y;exact aO)
    |(rw[<-O1 (ty∈NB) (eX nm) (uT ⟨ty,nm,id,fl,rs,vl,ft,rn,al,sz,vd⟩) b1 false xI (by simp only[uT,zcO,false_iff];omega)]at Y;exact aO)
def GW:MT (ao []) CA (ah dn):=fa
def Fu:MT (ao []) Bx (ah bF):=gH
def FA:MT (ao []) Bp (dU cf):=by
 rintro _ K ⟨_,⟨n,lo,W,rfl,rfl⟩,Y⟩
 (repeat'((conv=>whnf);first|refine dc (λ_=>?_) (λ_=>?_)|fail))
 all_goals exact h_
structure Dk where
 aT:P8
 mp:P8
def Dk.pv(d:Dk):PV:=.agg [.str d.aT,.str d.mp]
def Dk.n(d:Dk):Nat:=d.aT.length/256
def ee(B:P8)(n:Nat):P8:=cut (n*256) ((n+1)*256) B
def kp{B:P8}{n:Nat}(h:(n+1)*256<=B.length):(ee B n).length=256:=by
 unfold ee;rw[qS _ _ _ h];omega
structure St where
 a:At
 d:Dk
 pl:OG
def St.pv(s:St):PV:=.agg [pI s.a.ty,.str s.a.nm,pI s.a.id,pI s.a.fl,pB s.a.rs,.str s.a.vl,pI s.a.ft,uF s.a.rn,pI s.a.al,pI s.a.sz,pI s.a.vd,.str s.d.aT,.str s.d.mp,z7 s.pl]
abbrev sP(s:St):PV:=.cptr s.pv
def GG(ps:CK)(p:Prop):Prop:=∃n:Int,ps=[pI n]/\p=(n= -1)
def Fw:MT (ao []) Bm (dU GG):=by
 rintro _ K ⟨_,⟨n,rfl,rfl⟩,Y⟩
 (repeat'((conv=>whnf);first|refine dc (λ_=>?_) (λ_=>?_)|fail))
 all_goals exact h_
def bk(ps:CK)(x:PV):Prop:=∃d:Dk,ps=[d.pv]/\d.aT.length<=1000000/\x=pI d.n
def zP:MT (ao []) tP (ah bk):=by
 rintro _ K ⟨_,⟨d,rfl,h,rfl⟩,Y⟩
 (repeat'((conv=>whnf);first|refine QUO V ?_|fail))
 exact TT
def JJ(ps:CK)(x:PV):Prop:=∃n m:Int,ps=[pI n,pI m]/\(0<=n/\n<=1000000/\0<m/\m<=1000000)/\x=pI ((n+m-1)/m)
def Ff:MT (ao []) Bq (ah JJ):=by
 rintro _ K ⟨_,⟨n,m,rfl,h,rfl⟩,Y⟩
 (repeat'((conv=>whnf);first|refine bu V ?_|refine QUO V ?_|fail))
 exact aO
def CE(ps:CK)(x:PV):Prop:=∃n:Int,ps=[pI n]/\n<=1000000/\x=.str (aC n.toNat)
def Ho:MT (ao [(174,ah vW)]) Cp (ah CE):=by
 rintro _ K ⟨_,⟨n,rfl,h,rfl⟩,Y⟩
 (repeat'((conv=>whnf);first|refine⟨_,⟨[0],_,rfl,⟨V,V,ab⟩,rfl⟩,?_⟩|refine MAX ?_|fail))
 rw[Hv,show(max 0 n).toNat=n.toNat by omega];exact fJ
def zg(ps:CK)(x:PV):Prop:=∃(s:P8) (n:Int),ps=[.str s,pI n]/\(s.length<=1000000/\ -1000000<=n/\n<=1000000)/\x=.str (s++aC (n-s.length).toNat)
def E1:MT (ao [(122,ah CE)]) Bc (ah zg):=by
 rintro _ K ⟨_,⟨s,n,rfl,h,rfl⟩,Y⟩
 (repeat'((conv=>whnf);first|refine zcv (by(simp only[bZ];omega)) ?_|(refine ik ?_;first|refine bu V ?_|refine⟨_,⟨_,rfl,dg,rfl⟩,?_⟩|fail)))
 exact fJ
def vS(ps:CK)(p:Prop):Prop:=∃n:Int,ps=[pI n]/\p=(0<=n/\n<=32768)
def B8:MT (ao [(160,dU cf)]) wV (dU vS):=by
 rintro _ K ⟨_,⟨n,rfl,rfl⟩,Y⟩
 (repeat'(refine fq ?_;first|refine dc (λ_=>?_) (λ_=>?_)|refine⟨_,⟨_,_,_,rfl,rfl⟩,?_⟩|fail))
 all_goals exact h_
def awe{a:Int}(h:0<=a/\a<=7):dB .and .i64 a 2=2*(a/2%2):=by
 obtain⟨n,rfl⟩:∃n:Nat,a=n:=⟨a.toNat,V⟩
 obtain rfl|rfl|rfl|rfl|rfl|rfl|rfl|rfl:n=0\/n=1\/n=2\/n=3\/n=4\/n=5\/n=6\/n=7:=V;all_goals rfl
def Kp(ps:CK)(p:Prop):Prop:=∃s:St,ps=[sP s]/\(0<=s.a.fl/\s.a.fl<=7)/\p=(s.a.fl/2%2=1)
def B1:MT (ao []) mW (dU Kp):=by
 rintro _ K ⟨_,⟨s,rfl,h,rfl⟩,Y⟩
 (repeat'((conv=>whnf);first|(refine ark ?_;rw[awe h])|refine dc (λ_=>?_) (λ_=>?_)|fail))
 all_goals exact h_
def l4(ps:CK)(p:Prop):Prop:=∃s:St,ps=[sP s]/\(0<=s.a.fl/\s.a.fl<=7)/\p=(s.a.fl%2=1)
def wo:MT (ao []) kz (dU l4):=by
 rintro _ K ⟨_,⟨s,rfl,h,rfl⟩,Y⟩
 (repeat'((conv=>whnf);first|refine dc (λ_=>?_) (λ_=>?_)|refine azg V ?_|fail))
 all_goals exact h_
def yD(ps:CK)(x:PV):Prop:=∃(s:St) (n:Nat),ps=[sP s,pI n]/\((n+1)*256<=s.d.aT.length/\s.d.aT.length<=1000000)/\x=.str (ee s.d.aT n)
def CG:MT (ao []) nS (ah yD):=by
 rintro _ K ⟨_,⟨s,n,rfl,h,rfl⟩,Y⟩
 (repeat'((conv=>whnf);first|refine bu V ?_|refine HI ?_|fail))
 rw[show((n:Int)*256).toNat=n*256 by omega,show(((n:Int)+1)*256).toNat=(n+1)*256 by omega];exact fJ
def RJ(B:P8)(l:OG):Prop:=∀n∈l,n= -1\/(0<=n/\(n+1)*256<=B.length)
def lU(B:P8)(n:Int):P8:=if n= -1 then[]else ee B n.toNat
def fw(B:P8)(l:OG):P8:=l.flatMap (lU B)
def Lb(B:P8)(l:OG):(fw B l).length<=256*l.length:=by
 unfold fw
 induction l with
 |nil=>simp
 |cons n l ih=>
  rw[zan,zad,zap];have:(lU B n).length<=256:=by
   unfold lU;split
   ·simp
   ·unfold ee cut;grind
  omega
def TM(ps:CK)(x:PV):Prop:=∃(s:St) (l:OG),ps=[sP s,z7 l]/\(s.d.aT.length<=1000000/\l.length<=100000/\RJ s.d.aT l)/\x=.str (fw s.d.aT l)
def Fa:MT (ao [(132,ah yD)]) oW (ah TM):=by
 rintro _ K ⟨_,⟨s,l,rfl,⟨U,H,h3⟩,rfl⟩,Y⟩
 (repeat'((conv=>whnf);first|refine cT λ_=>?_|fail))
 refine⟨λm env Z=>∃(n:Nat),n+m=l.length/\Z=[]/\env=[(0,.pv (sP s)),(5,.pv (.str (fw s.d.aT (l.take n)))),(8,.pv (z7 l)),eN 9 l.length,eN 10 n],l.length,⟨0,V,rfl,rfl⟩,?_⟩;rintro m env Z ⟨n,hn,rfl,rfl⟩;have I:=Lb s.d.aT (l.take n);rw[zal]at I;by_cases aM:n<l.length
 ·obtain⟨a,ha⟩:∃a,l[n]?=some a:=⟨_,zah aM⟩
  have hp:=h3 a (zag ha);have hT:fw s.d.aT (l.take (n+1))=fw s.d.aT (l.take n)++lU s.d.aT a:=by
   rw[zcM,ha];simp[fw]
  by_cases h0:a= -1
  ·subst h0
   (repeat'((conv=>whnf);first|refine bu V ?_|refine ak V ?_|refine ar V ?_|refine jP az ?_|fail))
   exact⟨m-1,V,n+1,V,rfl,by rw[hT];simp[lU]⟩
  ·obtain⟨k,rfl⟩:∃k:Nat,a=k:=⟨a.toNat,V⟩
   have iX:(ee s.d.aT k).length=256:=kp V
   (repeat'((conv=>whnf);first|refine⟨_,⟨s,k,rfl,V,rfl⟩,?_⟩|refine zcv (by rw[iX];omega) ?_|refine bu V ?_|refine ak V ?_|refine jP az ?_|fail))
   exact⟨m-1,V,n+1,V,rfl,by rw[hT,lU,if_neg h0];rfl⟩
 ·(repeat'((conv=>whnf);first|refine ar V ?_|fail))
  rw[za1 V];exact fJ
def br(l:OG):Nat:=(l.filter λn=>decide (n≠ -1)).length
def vE(l:OG):br l<=l.length:=zda ..
def ajG{l:OG}{n:Nat}{a:Int}(h:l[n]?=some a):br (l.take (n+1))=br (l.take n)+if a= -1 then 0 else 1:=by
 rw[zcM];unfold br
 grind
def RX(ps:CK)(x:PV):Prop:=∃l:OG,ps=[z7 l]/\l.length<=1000000/\x=pI (br l)
def Ij:MT (ao [(60,dU GG)]) Gh (ah RX):=by
 rintro _ K ⟨_,⟨l,rfl,H,rfl⟩,Y⟩
 (repeat'((conv=>whnf);first|refine cT λ_=>?_|fail))
 refine⟨λm env Z=>∃(n:Nat),n+m=l.length/\Z=[]/\env=[eN 3 (br (l.take n)),(6,.pv (z7 l)),eN 7 l.length,eN 8 n],l.length,⟨0,V,rfl,rfl⟩,?_⟩;rintro m env Z ⟨n,hn,rfl,rfl⟩;have I:=vE (l.take n);rw[zal]at I;by_cases aM:n<l.length
 ·obtain⟨a,ha⟩:∃a,l[n]?=some a:=⟨_,zah aM⟩
  have hT:=ajG ha
  (repeat'(refine fq ?_;first|refine bu V ?_|refine bR ?_|refine ec ?_|refine ak V ?_|refine dc (λ_=>?_) (λ_=>?_)|refine jP az ?_|refine⟨_,⟨_,rfl,rfl⟩,?_⟩|fail))
  ·exact⟨m-1,V,n+1,V,rfl,by rw[hT,if_pos az];rfl⟩
  ·exact⟨m-1,V,n+1,V,rfl,by rw[hT,if_neg az];rfl⟩
 ·(repeat'((conv=>whnf);first|refine ar V ?_|fail))
  rw[za1 V];exact aO
def adm(ps:CK)(p:Prop):Prop:=∃(s:St) (i:Nat),ps=[sP s,pI i]/\s.pl.length<=1000000/\p=(∃a,s.pl[i]?=some a/\a≠ -1)
def Mz:MT (ao [(60,dU GG)]) tQ (dU adm):=by
 rintro _ K ⟨_,⟨s,i,rfl,h,rfl⟩,Y⟩;by_cases aM:i<s.pl.length
 ·obtain⟨a,ha⟩:∃a,s.pl[i]?=some a:=⟨_,zah aM⟩
  have hK':∀r:Bool,(r=true↔a≠ -1)->K (.pv (.bool r)):=λr J=>Y r (by rw[J,ha];simp)
  clear Y
  (repeat'(refine fq ?_;first|refine bR ?_|refine ec ?_|refine ak V ?_|refine dc (λ_=>?_) (λ_=>?_)|refine cT λ_=>?_|refine jP az ?_|refine⟨_,⟨_,rfl,rfl⟩,?_⟩|fail))
  all_goals exact⟨.pv (.bool _),rfl,trivial,hK' _ (by simp_all)⟩
 ·have hK':∀r:Bool,(r=true↔False)->K (.pv (.bool r)):=λr J=>Y r (by rw[J,List.getElem?_eq_none V];simp)
  clear Y
  (repeat'((conv=>whnf);first|refine ar V ?_|refine cT λ_=>?_|fail))
  all_goals exact⟨.pv (.bool _),rfl,trivial,hK' _ ab⟩
abbrev spP(f t:Int):PV:=.agg [pI f,pI t]
def asT(f t:Int):(spP f t).flat:=by
 intro c F;simp at F;rcases F with rfl|rfl<;>trivial
def amJ(ps:CK)(x:PV):Prop:=∃s:St,ps=[sP s]/\x=spP 0 s.a.vl.length
def K0:MT (ao []) tI (ah amJ):=by
 rintro _ K ⟨_,⟨s,rfl,rfl⟩,Y⟩
 (repeat'((conv=>whnf);first|refine aY ?_|fail))
 exact⟨.pv _,rfl,asT _ _,Y⟩
def dh(a:At):Int:=if a.rs=true then a.vl.length else a.vd
def Xu(ps:CK)(x:PV):Prop:=∃s:St,ps=[sP s]/\x=pI (dh s.a)
def GQ:MT (ao []) qu (ah Xu):=by
 rintro _ K ⟨_,⟨s,rfl,rfl⟩,Y⟩;unfold dh at Y;cases h:s.a.rs
 ·(repeat'((conv=>whnf);first|rw[h]|fail))
  rw[h]at Y;exact aO
 ·(repeat'((conv=>whnf);first|rw[h]|fail))
  rw[h]at Y;exact aO
def mL(f t:Int)(c:Int):Prop:=f<min t ((c+1)*256)/\c*256<t
def Lp(ps:CK)(p:Prop):Prop:=∃f t c:Int,ps=[spP f t,pI c]/\(-1000000000<=c/\c<=1000000000)/\p=mL f t c
def Dd:MT (ao []) qB (dU Lp):=by
 rintro _ K ⟨_,⟨f,t,c,rfl,h,rfl⟩,Y⟩;unfold mL at Y
 (repeat'((conv=>whnf);first|refine bu V ?_|refine dc (λ_=>?_) (λ_=>?_)|refine U7 ?_|fail))
 all_goals exact h_
def Au(f t:Int)(c e:Int):Prop:=f<=c*256/\min e ((c+1)*256)<=t
def aav(ps:CK)(p:Prop):Prop:=∃f t c e:Int,ps=[spP f t,pI c,pI e]/\(-1000000000<=c/\c<=1000000000)/\p=Au f t c e
def EW:MT (ao []) rP (dU aav):=by
 rintro _ K ⟨_,⟨f,t,c,e,rfl,h,rfl⟩,Y⟩;unfold Au at Y
 (repeat'((conv=>whnf);first|refine bu V ?_|refine dc (λ_=>?_) (λ_=>?_)|refine U7 ?_|fail))
 all_goals exact h_
def rnP(r:Rn):Prop:=(0<=r.n/\r.n<=4096)/\(-1<=r.s/\r.s<=1000000)
def jd(r:Rn):OG:=(List.range r.n.toNat).map λ(i:Nat)=>if r.s= -1 then(-1:Int)else r.s+(i:Int)
def aq(l:UH):OG:=l.flatMap jd
def Jz(r:Rn):(jd r).length=r.n.toNat:=by simp[jd]
def acN{l:UH}(h:∀r∈l,rnP r):(aq l).length<=4096*l.length:=by
 unfold aq
 induction l with
 |nil=>simp
 |cons r l ih=>
  rw[zan,zad,zap,Jz];have:=ih λq hq=>h q iJ
  have:=(h r ab).1;omega
def ny(ps:CK)(r:RV):Prop:=∃s:Rs,ps=[uF s]/\(s.l.length<=1000∧∀r∈s.l,rnP r)/\r=.pv (z7 (aq s.l))
def BI:MT (ao []) xo (dz false ny):=by
 rintro _ K ⟨_,⟨s,rfl,⟨U,H⟩,rfl⟩,Y⟩
 (repeat'((conv=>whnf);first|refine tD ?_|refine cT λ_=>?_|fail))
 refine⟨λm env Z=>∃(n:Nat),n+m=s.l.length/\Z=[.row 3 1 true ((aq (s.l.take n)).map pI)]/\env=[(3,.own 0),(7,.pv (uF s)),eN 8 s.l.length,eN 9 n],s.l.length,⟨0,V,rfl,rfl⟩,?_⟩;rintro m env Z ⟨n,hn,rfl,rfl⟩;have I:(aq (s.l.take n)).length<=4096*(s.l.take n).length:=acN λr J=>H r (za5 J)
 rw[zal]at I;have FJ:(s.l.map Rn.pv).length=s.l.length:=zaw _;by_cases aM:n<s.l.length
 ·obtain⟨a,ha⟩:∃a,s.l[n]?=some a:=⟨_,zah aM⟩
  have hp:=H a (zag ha);have hT:aq (s.l.take (n+1))=aq (s.l.take n)++jd a:=by
   rw[zcM,ha];simp[aq]
  have hl:=Jz a
  (repeat'((conv=>whnf);first|refine ae0 ha ?_|refine ak V ?_|refine aY ?_|fail))
  refine⟨λm' env Z=>∃(i:Nat),(i:Int)+m'=a.n/\Z=[.row 3 1 true ((aq (s.l.take n)++(jd a).take i).map pI),.box 103 [.pv (pI a.s),.pv (pI a.n)]]/\env=[(3,.own 0),(5,.ref 1 0 0),(7,.pv (uF s)),eN 8 s.l.length,eN 9 n,eN 14 a.n,eN 15 i],a.n.toNat,⟨0,by unfold rnP at hp;omega,ab,rfl⟩,?_⟩;rintro m' env Z ⟨i,W,rfl,rfl⟩;unfold rnP at hp;have hlr:(aq (s.l.take n)++(jd a).take i).length<=4096000+4096:=by
   rw[zad,zal];omega
  by_cases hi2:(i:Int)<a.n
  ·have hg:(jd a)[i]?=some (if a.s= -1 then-1 else a.s+(i:Int)):=by
    unfold jd;rw[zaD,zbD V];rfl
   generalize hG:aq (s.l.take n)++(jd a).take i=G at*
   (repeat'((conv=>whnf);first|refine bu V ?_|refine ak V ?_|refine dc (λ_=>?_) (λ_=>?_)|refine aY ?_|refine zcv bJ ?_|fail))
   ·refine⟨m'-1,V,i+1,V,?_,rfl⟩;rename_i hh;rw[zcM,hg,if_pos hh,<-zaj,hG];simp
   ·refine⟨m'-1,V,i+1,V,?_,rfl⟩;rename_i hh;rw[zcM,hg,if_neg hh,<-zaj,hG];simp
  ·(repeat'((conv=>whnf);first|refine bu V ?_|refine ar V ?_|fail))
   refine⟨m-1,V,n+1,V,?_,rfl⟩;rw[hT,za1 (l:=jd a) (show(jd a).length<=i by omega)]
 ·(repeat'((conv=>whnf);first|refine ar V ?_|fail))
  rw[<-za1 (l:=s.l) (show s.l.length<=n by omega)]at Y;exact⟨.pv (z7 _),rfl,trivial,Y⟩
def m_(acc:UH)(a:Int):UH:=
 match acc.getLast? with
 |some r=>if (a= -1/\r.s= -1)\/(a≠ -1/\r.s≠ -1/\r.s+r.n=a)then acc.dropLast++[⟨r.s,r.n+1⟩]else acc++[⟨a,1⟩]
 |none=>[⟨a,1⟩]
def gT(l:OG):UH:=l.foldl m_ []
def ID{l:OG}{n:Nat}{a:Int}(h:l[n]?=some a):gT (l.take (n+1))=m_ (gT (l.take n)) a:=by
 rw[zcM,h];simp[gT]
def acy(acc:UH)(a:Int):(m_ acc a).length<=acc.length+1:=by
 unfold m_
 grind
def rnQ(k:Nat)(r:Rn):Prop:=(1<=r.n/\r.n<=k)/\(-1<=r.s/\r.s<=1000000)
def ant{acc:UH}{a:Int}{k:Nat}(h:∀r∈acc,rnQ k r)(ha: -1<=a/\a<=1000000):∀r∈m_ acc a,rnQ (k+1) r:=by
 have up:∀r,rnQ k r->rnQ (k+1) r:=λr J=>⟨⟨J.1.1,by have:=J.1.2;omega⟩,J.2⟩
 have new:rnQ (k+1) ⟨a,1⟩:=⟨⟨ab,au⟩,ha⟩
 intro r J;unfold m_ at J;split at J
 ·rename_i q hq;have hm:=h q (zcS hq);split at J
  ·rcases zaA.1 J with U|U
   ·exact up r (h r (zde _ U))
   ·simp at U;subst U;exact⟨⟨by have:=hm.1.1;grind,by have:=hm.1.2;grind⟩,hm.2⟩
  grind
 grind
def Y2{l:OG}(h:∀a∈l,-1<=a/\a<=1000000):∀n,(gT (l.take n)).length<=min n l.length∧∀r∈gT (l.take n),rnQ n r:=by
 intro n
 induction n with
 |zero=>simp[gT]
 |succ n ih=>
  by_cases aM:n<l.length
  ·have ha:=zah aM;rw[ID ha];refine⟨?_,ant ih.2 (h _ (zag ha))⟩;have:=acy (gT (l.take n)) l[n];omega
  ·rw[za1 V]at ih ⊢;exact⟨V,λr J=>by have:=ih.2 r J;exact⟨⟨this.1.1,by have:=this.1.2;omega⟩,this.2⟩⟩
def abr(ps:CK)(r:RV):Prop:=∃l:OG,ps=[z7 l]/\(l.length<=100000∧∀a∈l,-1<=a/\a<=1000000)/\r=.fresh 103 2 ((gT l).map Rn.pv)
def FB:MT (ao [(60,dU GG)]) Bu (dz true abr):=by
 rintro _ K ⟨_,⟨l,rfl,⟨U,H⟩,rfl⟩,Y⟩
 (repeat'((conv=>whnf);first|refine cT λ_=>?_|fail))
 refine⟨λm env Z=>∃(n:Nat),n+m=l.length/\Z=[.row 103 2 true ((gT (l.take n)).map Rn.pv)]/\env=[(3,.own 0),(7,.pv (z7 l)),eN 8 l.length,eN 9 n],l.length,⟨0,V,rfl,rfl⟩,?_⟩;rintro m env Z ⟨n,hn,rfl,rfl⟩;obtain⟨I,hq⟩:=Y2 H n;by_cases aM:n<l.length
 ·obtain⟨a,ha⟩:∃a,l[n]?=some a:=⟨_,zah aM⟩
  have hT:=ID ha;have FJ:((gT (l.take n)).map Rn.pv).length=(gT (l.take n)).length:=zaw _;generalize gT (l.take n)=R at*;cases OL:R.getLast? with
  |none=>
   have:R=[]:=by simpa using OL
   subst this
   (repeat'((conv=>whnf);first|refine zcv lP ?_|refine bu V ?_|refine ak V ?_|refine ar ai ?_|refine cT λ_=>?_|refine jP az ?_|refine aY ?_|fail))
   exact⟨m-1,V,n+1,V,v7,rfl⟩
  |some q=>
   have ca:R≠[]:=by intro e;subst e;cases OL
   have zR:0<R.length:=zb9.2 ca;have hg:R[((R.length:Int)-1).toNat]?=some q:=by
    rw[<-OL,zcU];congr 1;omega
   have hq0:=hq q (zcS OL);unfold rnQ at hq0;have hRA:m_ R a=if (a= -1/\q.s= -1)\/(a≠ -1/\q.s≠ -1/\q.s+q.n=a)then R.dropLast++[(⟨q.s,q.n+1⟩:Rn)]else R++[(⟨a,1⟩:Rn)]:=by
    unfold m_;rw[OL]
   have ql:(R.map Rn.pv).set ((R.length:Int)-1).toNat (PV.agg [pI q.s,pI (q.n+1)])=(R.dropLast++[(⟨q.s,q.n+1⟩:Rn)]).map Rn.pv:=by
    rw[show((R.length:Int)-1).toNat=R.length-1 by omega];have e:R.dropLast++[q]=R:=by
     have e1:=zc2 ca;rw[zc1 ca]at OL;rw[<-Option.some.inj OL];exact e1
    have e2:R.length-1=(R.dropLast.map Rn.pv).length:=ab;have e3:R.map Rn.pv=R.dropLast.map Rn.pv++[q.pv]:=by
     conv=>lhs;rw[<-e]
     rw[zaY];rfl
    rw[e2,e3,zdb _ _ (zai _),zcc,zaY];rfl
   have hq2:=H a (zag ha)
   (repeat'(refine fq ?_;first|refine bu V ?_|refine bR ?_|refine ec ?_|refine ak V ?_|refine ar V ?_|refine dc (λ_=>?_) (λ_=>?_)|refine cT λ_=>?_|refine jP az ?_|refine ox az ?_|refine UF V ?_|refine aY ?_|refine⟨_,⟨_,rfl,rfl⟩,?_⟩|refine zcv bJ ?_|fail))
   all_goals first
    |exact⟨m-1,V,n+1,V,by rw[hT,hRA,if_pos V];exact congrArg (λx=>[cK.row 103 2 true x]) ql,rfl⟩
    |exact⟨m-1,V,n+1,V,by rw[hT,hRA,if_neg V];simp[Rn.pv],rfl⟩
 ·(repeat'((conv=>whnf);first|refine ar V ?_|fail))
  rw[za1 V];exact oQ
def asA{l:OG}{v:Int}{n:Nat}{x:Int}(h0:∀j,j<n→∀y,l[j]?=some y→¬y=v)(T:l[n]?=some x)(ca:¬x=v):∀j,j<n+1→∀y,l[j]?=some y→¬y=v:=by
 grind
def SV(ps:CK)(x:PV):Prop:=∃(l:OG) (v:Int),ps=[z7 l,pI v]/\l.length<=1000000/\x=pI (N3 (λy=>y=v) l)
def Xq:MT (ao []) pN (ah SV):=by
 rintro _ K ⟨_,⟨l,v,rfl,hl,rfl⟩,Y⟩
 (repeat'((conv=>whnf);first|refine cT λ_=>?_|fail))
 refine⟨λm env Z=>∃n:Nat,(n+m=l.length∧∀j,j<n→∀y,l[j]?=some y→¬y=v)/\Z=[]/\env=[(0,.pv (z7 l)),eN 1 v,eN 7 l.length,eN 8 n],l.length,⟨0,⟨V,λj hj=>V⟩,rfl,rfl⟩,?_⟩;rintro m env Z ⟨n,⟨hn,h0⟩,rfl,rfl⟩
 (repeat'((conv=>whnf);first|refine bu V ?_|refine dc (λ_=>?_) (λ_=>?_)|refine agh V (λ_ _=>?_)|fail))
 ·rename_i x T h;exact⟨.pv (pI _),cn (afc h0 T h.symm),trivial,Y⟩
 ·rename_i x T h;exact⟨m-1,V,n+1,⟨V,asA h0 T (λe=>h e.symm)⟩,rfl,rfl⟩
 ·refine⟨.pv (pI _),cn (Th λx T=>?_),trivial,Y⟩;obtain⟨k,E⟩:=iU.1 T;exact h0 k Dz x E
def MS(ps:CK)(p:Prop):Prop:=∃(l:OG) (v:Int),ps=[z7 l,pI v]/\l.length<=1000000/\p=(v∈l)
def Ol:MT (ao [(201,ah SV)]) mC (dU MS):=by
 rintro _ K ⟨_,⟨l,v,rfl,hl,rfl⟩,Y⟩;have e:v∈l↔0<=N3 (λy=>y=v) l:=by
  rw[ae8];exact⟨λh=>⟨v,h,rfl⟩,λ⟨x,U,H⟩=>H▸U⟩
 rw[e]at Y
 (repeat'(refine fq ?_;first|refine dc (λ_=>?_) (λ_=>?_)|refine⟨_,⟨_,_,rfl,dg,rfl⟩,?_⟩|fail))
 all_goals exact TX
def u0(ps:CK)(p:Prop):Prop:=∃(a n:Int),ps=[pI a,.cptr (pI n)]/\p=(n<=a)
def GJ:MT (ao []) kD (dU u0):=by
 rintro _ K ⟨_,⟨a,n,rfl,rfl⟩,Y⟩
 (repeat'((conv=>whnf);first|refine dc (λ_=>?_) (λ_=>?_)|fail))
 all_goals exact h_
abbrev aw7(n:Int):PV:=.clo 199 [.cptr (pI n)]
def V9(ps:CK)(x:PV):Prop:=∃(l:OG) (v:Int),ps=[z7 l,aw7 v]/\l.length<=1000000/\x=pI (N3 (λy=>v<=y) l)
def UX:MT (ao [(199,dU u0)]) lJ (ah V9):=by
 rintro _ K ⟨_,⟨l,v,rfl,hl,rfl⟩,Y⟩
 (repeat'((conv=>whnf);first|refine cT λ_=>?_|fail))
 refine⟨λm env Z=>∃n:Nat,(n+m=l.length∧∀j,j<n→∀y,l[j]?=some y→¬v<=y)/\Z=[]/\env=[(0,.pv (z7 l)),(1,.pv (aw7 v)),eN 7 l.length,eN 8 n],l.length,⟨0,⟨V,λj hj=>V⟩,rfl,rfl⟩,?_⟩;rintro m env Z ⟨n,⟨hn,h0⟩,rfl,rfl⟩
 (repeat'((conv=>whnf);first|refine⟨_,⟨_,_,rfl,rfl⟩,?_⟩|refine bu V ?_|refine dc (λ_=>?_) (λ_=>?_)|refine agh V (λ_ _=>?_)|fail))
 ·rename_i x T h;exact⟨.pv (pI _),cn (afc h0 T h),trivial,Y⟩
 ·rename_i x T h;refine⟨m-1,V,n+1,⟨V,λj hj y hy=>?_⟩,rfl,rfl⟩;rcases zcQ (zcR hj)with U|U
  ·exact h0 j U y hy
  ·subst U;rw[T]at hy;cases hy;exact h
 ·refine⟨.pv (pI _),cn (Th λx T=>?_),trivial,Y⟩;obtain⟨k,E⟩:=iU.1 T;exact h0 k Dz x E
def Ju(ps:CK)(p:Prop):Prop:=∃(l:OG) (v:Int),ps=[z7 l,aw7 v]/\l.length<=1000000/\p=(∃a∈l,v<=a)
def MB:MT (ao [(252,ah V9)]) jU (dU Ju):=by
 rintro _ K ⟨_,⟨l,v,rfl,hl,rfl⟩,Y⟩;have e:(∃a∈l,v<=a)↔0<=N3 (λy=>v<=y) l:=(ae8 l).symm;rw[e]at Y
 (repeat'((conv=>whnf);first|refine⟨_,⟨l,v,rfl,hl,rfl⟩,?_⟩|refine dc (λ_=>?_) (λ_=>?_)|fail))
 all_goals exact TX
def OM:Spec:=AT false false λps K=>∃s:St,ps=[sP s]/\s.pl.length<=1000000/\K (.pv (csP (chunks s.pl)))
def aas:MT (ao [(214,ag6),(213,WL)]) qp OM:=by
 rintro _ K ⟨s,rfl,hl,Y⟩;refine⟨_,rfl,?_⟩;refine⟨_,rfl,hl,?_⟩;cases h:chunks s.pl with
 |nil=>rw[h]at Y;exact Qu
 |cons d cs=>rw[h]at Y;exact rC
def apE{x:UInt8}{k:Nat}(E:k<8)(h:x.toNat/2^k%2=0):nF x k 0=x:=by
 apply zdp.1;rw[ue x E V,h];simp
def aw3{b:P8}{i:Nat}(W:i<8*b.length)(h:aU b i=0):AF b i 0=b:=by
 unfold AF;rw[apE V h];apply zbb
 grind
def jS(b:Bool):Nat:=if b=true then 1 else 0
def zp(b:Bool):jS b<=1:=by cases b<;>decide
def gm(l:QE):P8:=K9 (λi=>jS (l[i]?.getD false)) l.length
def awu:(List.range 8).all (λk=>(List.range 256).all λn=>Nat.beq (n/2^k%2) 1||Nat.beq (n|||2^k) (n+2^k))=true:=ae
def aw_{n k:Nat}(hn:n<256)(E:k<8)(h:n/2^k%2=0):n|||2^k=n+2^k:=by
 have U:=zbr.1 (zbr.1 awu k (zbp.2 E)) n (zbp.2 hn)
 simp_all
def Pr(ps:CK)(x:PV):Prop:=∃l:QE,ps=[.sl 1 (l.map pB)]/\l.length<=4096/\x=.str (gm l)
def mrk(d:Dk):QE:=(List.range d.n).map λi=>decide (aU d.mp i=1)
def asF(d:Dk):(mrk d).length=d.n:=by simp[mrk]
def Ay(ps:CK)(r:RV):Prop:=∃d:Dk,ps=[d.pv]/\(d.aT.length<=1000000/\d.mp.length<=1000000/\gP d.mp d.n=0)/\r=.fresh 4 1 ((mrk d).map pB)
def acn:MT (ao [(138,ah bk),(139,OW)]) Dr (dz true Ay):=by
 rintro _ K ⟨_,⟨d,rfl,⟨U,H,h3⟩,rfl⟩,Y⟩;have hn:d.n<=1000000:=uX
 (repeat'(refine fq ?_;first|refine⟨_,⟨_,rfl,dg,rfl⟩,?_⟩|fail))
 refine⟨λm env Z=>∃n:Nat,n+m=d.n/\Z=[.box 23 [.pv (.str d.aT),.pv (.str d.mp)],.row 4 1 true (((mrk d).take n).map pB)]/\env=[(1,.ref 0 0 0),(3,.own 1),eN 4 d.n,eN 10 d.n,eN 11 n],d.n,⟨0,V,rfl,rfl⟩,?_⟩;rintro m env Z ⟨n,hn,rfl,rfl⟩;have FJ:((mrk d).take n).length<=1000000:=gA;by_cases aM:n<d.n
 ·have I:aco d.mp d.n n=aU d.mp n:=by
   unfold aco Ss;rw[h3];simp;intro h;omega
  have hT:(mrk d).take (n+1)=(mrk d).take n++[decide (aU d.mp n=1)]:=by
   rw[zcM];congr 1;unfold mrk;rw[zaD,zbD aM];rfl
  generalize hG:(mrk d).take n=G at*
  (repeat'(refine fq ?_;first|refine bu V ?_|refine ak V ?_|refine dc (λ_=>?_) (λ_=>?_)|refine aY ?_|refine⟨_,_,_,rfl,dg,?_⟩|refine zcv bJ ?_|fail))
  ·rename_i x;exact⟨m-1,V,n+1,V,by rw[hT,decide_eq_true V];simp,rfl⟩
  ·rename_i x;exact⟨m-1,V,n+1,V,by rw[hT,decide_eq_false V];simp,rfl⟩
 ·(repeat'((conv=>whnf);first|refine ar V ?_|fail))
  rw[za1 (by rw[asF];omega)];exact⟨.fresh _ _ _,⟨rfl,rfl,rfl,rfl⟩,(by intro c F;rw[zaX]at F;obtain⟨x,_,rfl⟩:=F;trivial),Y⟩
def amI{b:P8}{i:Nat}{x:UInt8}(T:b[i/8]?=some x)(h:aU b i=0):
 (b.map aG).set (i/8) (.int .u8 ((x.toNat+2^(i%8):Nat):Int))=(AF b i 1).map aG:=by
 have I:x.toNat/2^(i%8)%2=0:=by unfold aU at h;grind
 unfold AF;rw[T,zbE,zcW];unfold aG;rw[ue x V V,I];simp
def or_val{x:UInt8}{k:Nat}(E:k<8)(h:x.toNat/2^k%2=0):
 (((BitVec.ofInt IntKind.u8.bits (x.toNat:Int)|||BitVec.ofInt IntKind.u8.bits (1*2^min k IntKind.u8.bits%256)).toNat:Nat):Int)%256=((x.toNat+2^k:Nat):Int):=by
 have T:=x.toNat_lt;have H:=by
  have:2^k<=2^7:=zb4 V V;omega
 have hm:min k IntKind.u8.bits=k:=by show min k 8=k;omega
 have hp:(1*2^k%256:Int)=((2^k:Nat):Int):=by
  grind
 rw[hm,hp];show(((BitVec.ofInt 8 (x.toNat:Int)|||BitVec.ofInt 8 ((2^k:Nat):Int)).toNat:Nat):Int)%256=_;rw[BitVec.toNat_or,BitVec.toNat_ofInt,BitVec.toNat_ofInt];have hq:(((2^k:Nat):Int)%((2^8:Nat):Int)).toNat=2^k:=by
  omega
 rw[show((x.toNat:Int)%((2^8:Nat):Int)).toNat=x.toNat by omega,hq];rw[aw_ T E h];have:x.toNat+2^k<256:=by
  have e:=ue x E (v:=1) V;have:=(nF x k 1).toNat_lt
  grind
 omega
def aaQ:MT (ao [(140,Nw)]) DK (ah Pr):=by
 rintro _ K ⟨_,⟨l,rfl,U,rfl⟩,Y⟩;have hs:cM l.length=0:=by unfold cM;rw[if_pos V]
 have A9:atw l.length=aC (oO l.length):=by unfold atw;rw[if_pos hs];congr 1
 have hzl:(aC (oO l.length)).length=oO l.length:=by simp[aC]
 (repeat'((conv=>whnf);first|rw[A9]|refine zcv (by(rw[hzl];unfold oO;omega)) ?_|(refine ik ?_;first|refine cT λ_=>?_|refine⟨_,rfl,?_⟩|fail)))
 refine⟨λm env Z=>∃n:Nat,n+m=l.length/\Z=[.row 5 1 false ((Ou (λi=>jS (l[i]?.getD false)) (aC (oO l.length)) n).map aG)]/\env=[(5,.own 0),(16,.pv (.sl 1 (l.map pB))),eN 17 l.length,eN 18 n],l.length,⟨0,V,rfl,rfl⟩,?_⟩;rintro m env Z ⟨n,hn,rfl,rfl⟩;have hf:∀i:Nat,jS (l[i]?.getD false)<=1:=λi=>zp _
 have hgl:=SN (λi=>jS (l[i]?.getD false)) (aC (oO l.length)) n;by_cases aM:n<l.length
 ·obtain⟨a,ha⟩:∃a,l[n]?=some a:=⟨_,zah aM⟩
  have sD:=acU hf n (z:=aC (oO l.length)) (by rw[hzl];unfold oO;omega) n;rw[if_neg V]at sD;have hT:Ou (λi=>jS (l[i]?.getD false)) (aC (oO l.length)) (n+1)=AF (Ou (λi=>jS (l[i]?.getD false)) (aC (oO l.length)) n) n (jS a):=by
   simp only[Ou];rw[ha];rfl
  rw[Hf]at sD;generalize hG:Ou (λi=>jS (l[i]?.getD false)) (aC (oO l.length)) n=G at*;have hG8:n<8*G.length:=by rw[hgl,hzl];unfold oO;omega
  obtain⟨x,T⟩:∃x,G[n/8]?=some x:=⟨_,zah V⟩
  have ql:=amI T sD;cases a with
  |false=>
   (repeat'((conv=>whnf);first|refine bu V ?_|refine ak V ?_|refine jP az ?_|fail))
   exact⟨m-1,V,n+1,V,by rw[hT,show jS false=0 from rfl,aw3 hG8 sD],rfl⟩
  |true=>
   (repeat'((conv=>whnf);first|refine bu V ?_|refine ak V ?_|refine QUO V ?_|refine REM V ?_|refine U8m ?_|refine jP az ?_|refine ox az ?_|refine UF V ?_|refine aY ?_|refine HI ?_|fail))
   refine⟨m-1,V,n+1,V,?_,rfl⟩;have hv:=or_val (k:=n%8) V (show x.toNat/2^(n%8)%2=0 by unfold aU at sD;rw[T]at sD;exact sD);rw[show((n:Int)/8).toNat=n/8 by omega,show((n:Int)%8).toNat=n%8 by omega,hv,ql,hT];rfl
 ·(repeat'((conv=>whnf);first|refine ar V ?_|refine BTS ?_|fail))
  rw[show n=l.length by omega];exact fJ
def jK(l:P8)(n:Nat):P8:=l++aC (n-l.length)
def jt(a:At)(out:P8):P8:=(jK (out.take a.vd.toNat) a.sz.toNat).take a.sz.toNat
def Hg(a:At)(out:P8):(jt a out).length=a.sz.toNat:=by
 unfold jt jK;rw[zal,zad,bB];omega
def aiy(ps:CK)(x:PV):Prop:=∃(s:St) (b:P8),ps=[sP s,.str b]/\(b.length<=1000000/\(0<=s.a.vd/\s.a.vd<=1000000)/\(0<=s.a.sz/\s.a.sz<=1000000))/\x=.str (jt s.a b)
def abc:MT (ao [(100,ah zg)]) qt (ah aiy):=by
 rintro _ K ⟨_,⟨s,b,rfl,⟨U,H,h3⟩,rfl⟩,Y⟩;have e:cut 0 (min (b.length:Int) s.a.vd).toNat b=b.take s.a.vd.toNat:=by
  unfold cut;rw[zdc];by_cases h:(b.length:Int)<=s.a.vd
  ·rw[za1 V,za1 V]
  ·congr 1;omega
 have hl:(b.take s.a.vd.toNat).length<=1000000:=gA;have e2:cut 0 s.a.sz.toNat (b.take s.a.vd.toNat++aC (s.a.sz-(b.take s.a.vd.toNat).length).toNat)=jt s.a b:=by
  unfold cut jt jK;rw[zdc];congr 3;omega
 (repeat'((conv=>whnf);first|(rw[e])|refine zcv (by(rw[zad,bB];omega)) ?_|(refine ik ?_;first|refine U7 ?_|refine aY ?_|refine⟨_,⟨_,_,rfl,dg,rfl⟩,?_⟩|refine HI ?_|fail)))<;>try(conv=>whnf)
 rw[e2];exact fJ
def mJ(B:P8)(l:OG):P8:=l.flatMap λn=>if n= -1 then aC 256 else ee B n.toNat
def nt(B:P8)(cs:List (OG)):P8:=cs.flatMap λc=>(fD (fw B c)).1
def ba(s:St):P8:=
 if s.a.rs=true then s.a.vl else jt s.a (if s.a.fl%2=1 then nt s.d.aT (chunks s.pl)else mJ s.d.aT s.pl)
def WJ(s:P8):(fD s).1.length<=4096:=by
 unfold fD;split
 ·simp
 split
 ·simp[bB]
 grind
def an6{B:P8}{l:OG}(h:RJ B l):(mJ B l).length=256*l.length:=by
 unfold mJ
 induction l with
 |nil=>simp
 |cons n l ih=>
  rw[zan,zad,zap,ih λx T=>h x bP];have:(if n= -1 then aC 256 else ee B n.toNat).length=256:=by
   split
   ·exact bB _
   ·rcases h n ab with h|h
    ·omega
    ·exact kp V
  omega
def apL(B:P8)(cs:List (OG)):(nt B cs).length<=4096*cs.length:=by
 unfold nt
 induction cs with
 |nil=>simp
 |cons c cs ih=>
  rw[zan,zad,zap];have:=WJ (fw B c);omega
def LH{l:OG}{c:OG}(h:c∈chunks l):c.length<=16∧∀x∈c,x∈l:=by
 unfold chunks at h;rw[zaX]at h;obtain⟨k,_,rfl⟩:=h;refine⟨by rw[acJ];omega,λx T=>?_⟩;unfold cP at T
 grind
def jY{α:Type}(l:List α):(chunks l).length=(l.length+15)/16:=by simp[chunks,ez]
def anF(a:At):Prop:=(0<=a.fl/\a.fl<=7)/\(0<=a.vd/\a.vd<=1000000)/\(0<=a.sz/\a.sz<=1000000)
def qP(ps:CK)(x:PV):Prop:=∃s:St,ps=[sP s]/\(s.d.aT.length<=1000000/\s.pl.length<=128/\RJ s.d.aT s.pl/\anF s.a)/\x=.str (ba s)
def UO:MT (ao [(136,dU l4),(156,OM),(158,ah TM),(157,QV),(159,ah aiy),(122,ah CE),(132,ah yD)]) nR (ah qP):=by
 rintro _ K ⟨_,⟨s,rfl,⟨U,H,h3,h4⟩,rfl⟩,Y⟩;obtain⟨h5,h6,h7⟩:=h4;unfold ba at Y;cases fx:s.a.rs with
 |true=>
  rw[if_pos fx]at Y
  (repeat'((conv=>whnf);first|rw[fx]|fail))<;>try(conv=>whnf)
  exact fJ
 |false=>
  rw[if_neg lI]at Y;by_cases F:s.a.fl%2=1
  ·rw[if_pos F]at Y
   (repeat'((conv=>whnf);first|rw[fx]|(refine⟨_,⟨s,rfl,h5,rfl⟩,?_⟩)|refine CS (Z:=[]) (λ_=>?_)|(refine ik ?_;first|refine ak V ?_|refine cT λ_=>?_|refine⟨_,rfl,dg,?_⟩|fail)))<;>try(conv=>whnf)
   have iX:=jY s.pl;have HM:∀c∈chunks s.pl,c.length<=16∧∀x∈c,x∈s.pl:=λc F=>LH F
   generalize chunks s.pl=cs at*;refine⟨λm env Z=>∃(n:Nat),n+m=cs.length/\Z=[]/\env=[(0,.pv (sP s)),(3,.pv (.str (nt s.d.aT (cs.take n)))),(23,.pv (csP cs)),eN 24 cs.length,eN 25 n],cs.length,⟨0,V,rfl,by simp[nt,Aj]⟩,?_⟩;rintro m env Z ⟨n,hn,rfl,rfl⟩;have VF:=apL s.d.aT (cs.take n);rw[zal]at VF;by_cases aM:n<cs.length
   ·obtain⟨c,KK⟩:∃c,cs[n]?=some c:=⟨_,zah aM⟩
    have hcc:=HM c (zag KK);have zT:=Lb s.d.aT c;have hT:nt s.d.aT (cs.take (n+1))=nt s.d.aT (cs.take n)++(fD (fw s.d.aT c)).1:=by
     rw[zcM,KK];simp[nt]
    have hup:=WJ (fw s.d.aT c);have ca:csP cs=.sl 1 (cs.map z7):=afm QH
    (repeat'((conv=>whnf);first|rw[ca]|refine⟨_,⟨s,c,rfl,⟨V,V,λx T=>h3 x (hcc.2 x T)⟩,rfl⟩,?_⟩|(refine ik ?_;first|refine bu V ?_|refine ak V ?_|refine jP az ?_|refine⟨_,rfl,dg,?_⟩|refine HI ?_|fail)))<;>try(conv=>whnf)
    exact Ro
   ·(repeat'(refine fq ?_;first|refine ar V ?_|refine⟨_,⟨_,_,rfl,dg,rfl⟩,?_⟩|fail))<;>try(conv=>whnf)
    rw[za1 V];exact fJ
  ·rw[if_neg F]at Y
   (repeat'((conv=>whnf);first|rw[fx]|(refine⟨_,⟨s,rfl,h5,rfl⟩,?_⟩)|refine ar V ?_|refine cT λ_=>?_|fail))<;>try(conv=>whnf)
   refine⟨λm env Z=>∃(n:Nat),n+m=s.pl.length/\Z=[]/\env=[(0,.pv (sP s)),(3,.pv (.str (mJ s.d.aT (s.pl.take n)))),(46,.pv (z7 s.pl)),eN 47 s.pl.length,eN 48 n],s.pl.length,⟨0,V,rfl,by simp[mJ,Aj]⟩,?_⟩;rintro m env Z ⟨n,hn,rfl,rfl⟩;have Xo:=an6 (B:=s.d.aT) (l:=s.pl.take n) (λx T=>h3 x (za5 T));rw[zal]at Xo;by_cases aM:n<s.pl.length
   ·obtain⟨c,KK⟩:∃c,s.pl[n]?=some c:=⟨_,zah aM⟩
    have hT:mJ s.d.aT (s.pl.take (n+1))=mJ s.d.aT (s.pl.take n)++(if c= -1 then aC 256 else ee s.d.aT c.toNat):=by
     rw[zcM,KK];simp[mJ]
    have hcc:=h3 c (zag KK);by_cases h0:c= -1
    ·subst h0;rw[if_pos rfl]at hT
     (repeat'((conv=>whnf);first|refine zcv (by(rw[Xo,show(256:Int).toNat=256 from rfl,bB];omega)) ?_|(refine ik ?_;first|refine bu V ?_|refine ak V ?_|refine jP az ?_|refine⟨_,⟨_,rfl,dg,rfl⟩,?_⟩|fail)))<;>try(conv=>whnf)
     exact Ro
    ·obtain⟨k,rfl⟩:∃k:Nat,c=k:=⟨c.toNat,V⟩
     have iX:(ee s.d.aT k).length=256:=kp V;rw[if_neg h0]at hT
     (repeat'((conv=>whnf);first|refine⟨_,⟨s,k,rfl,V,rfl⟩,?_⟩|refine zcv (by(rw[Xo,iX];omega)) ?_|refine bu V ?_|refine ak V ?_|refine ar V ?_|refine jP az ?_|fail))<;>try(conv=>whnf)
     exact Ro
   ·(repeat'(refine fq ?_;first|refine ar V ?_|refine⟨_,⟨_,_,rfl,dg,rfl⟩,?_⟩|fail))<;>try(conv=>whnf)
    rw[za1 V];exact fJ
def mq(d:Dk)(pl:OG):Int:=if ∃a∈pl,(d.n:Int)<=a then 2 else if ∃a∈pl,a≠ -1/\aU d.mp a.toNat=0 then 14 else 0
def MZ(ps:CK)(x:PV):Prop:=∃s:St,ps=[sP s]/\(s.d.aT.length<=1000000/\s.d.mp.length<=1000000/\gP s.d.mp s.d.n=0/\s.pl.length<=1000000∧∀a∈s.pl,-1<=a)/\x=pI (mq s.d s.pl)
def N8:MT (ao [(138,ah bk),(198,dU Ju),(199,dU u0),(60,dU GG),(139,OW)]) mr (ah MZ):=by
 rintro _ K ⟨_,⟨s,rfl,⟨U,H,h3,h4,h5⟩,rfl⟩,Y⟩;unfold mq at Y
 (repeat'((conv=>whnf);first|refine⟨_,⟨s.d,rfl,U,rfl⟩,?_⟩|refine⟨_,⟨s.pl,(s.d.n:Int),rfl,h4,rfl⟩,?_⟩|refine dc (λ_=>?_) (λ_=>?_)|refine cT λ_=>?_|refine aY ?_|fail))<;>try(conv=>whnf)
 ·rename_i x;rw[if_pos x]at Y;exact aO
 rename_i rk _;rw[if_neg rk]at Y;refine⟨λm env Z=>∃(n:Nat),n+m=s.pl.length/\(∀j,j<n→∀y,s.pl[j]?=some y→¬(y≠ -1/\aU s.d.mp y.toNat=0))/\Z=[.fz (.cptr (pI s.d.n))]/\env=[(0,.pv (sP s)),(3,.ref 0 0 0),(22,.pv (z7 s.pl)),eN 23 s.pl.length,eN 24 n],s.pl.length,⟨0,V,λj hj=>V,rfl,rfl⟩,?_⟩;rintro m env Z ⟨n,hn,aBD,rfl,rfl⟩;by_cases aM:n<s.pl.length
 ·obtain⟨c,KK⟩:∃c,s.pl[n]?=some c:=⟨_,zah aM⟩
  have hm:=zag KK;have hcc:=h5 c hm;have atL:¬(s.d.n:Int)<=c:=λh=>rk ⟨c,hm,h⟩
  have zS:¬(c≠ -1/\aU s.d.mp c.toNat=0)→∀j,j<n+1→∀y,s.pl[j]?=some y→¬(y≠ -1/\aU s.d.mp y.toNat=0):=by
   intro hh j hj y hy;rcases zcQ (zcR hj)with U|U
   ·exact aBD j U y hy
   ·subst U;rw[KK]at hy;cases hy;exact hh
  by_cases h0:c= -1
  ·subst h0
   (repeat'(refine fq ?_;first|refine bu V ?_|refine bR ?_|refine ak V ?_|refine jP az ?_|refine⟨_,⟨_,rfl,rfl⟩,?_⟩|fail))<;>try(conv=>whnf)
   exact⟨m-1,V,n+1,V,zS (λh=>h.1 rfl),rfl,rfl⟩
  ·have I:aco s.d.mp s.d.n c=aU s.d.mp c.toNat:=by
    unfold aco Ss;rw[h3];simp;intro h;omega
   (repeat'((conv=>whnf);first|refine⟨s.d.mp,(s.d.n:Int),c,rfl,H,?_⟩|(refine ik ?_;first|refine bu V ?_|refine ec ?_|refine ak V ?_|refine ar V ?_|refine dc (λ_=>?_) (λ_=>?_)|refine jP az ?_|refine aY ?_|refine⟨_,⟨_,rfl,rfl⟩,?_⟩|fail)))<;>try(conv=>whnf)
   ·rename_i x;rw[if_pos ⟨c,hm,h0,V⟩]at Y;exact aO
   ·rename_i x;exact⟨m-1,V,n+1,V,zS (λh=>V),rfl,rfl⟩
 ·rw[if_neg (by rintro⟨a,ha,hh⟩;obtain⟨k,E⟩:=iU.1 ha;exact aBD k Dz a E hh)]at Y
  (repeat'((conv=>whnf);first|refine ar V ?_|fail))<;>try(conv=>whnf)
  exact aO
def kK(c:OG):Prop:=N3 (λy=>y= -1) c<0\/br (c.drop (N3 (λy=>y= -1) c).toNat)=0
def mf(a:At)(pl:OG):Prop:=a.al=br pl*256/\if a.fl%2=1 then(pl.length:Int)=(a.sz+4095)/4096*16∧∀c∈chunks pl,kK c else(pl.length:Int)=(a.sz+255)/256/\(a.fl/2%2=1\/br pl=pl.length)
def lh(a:At)(pl:OG):Int:=open Classical in if mf a pl then 0 else 3
def aAj(c:OG)(k:Nat):[PV.sl 1 (cut k (c.map pI).length (c.map pI))]=[z7 (c.drop k)]:=by
 unfold cut;rw[zcP,<-zc5]
def Rj(ps:CK)(x:PV):Prop:=∃s:St,ps=[sP s]/\(s.pl.length<=10000/\anF s.a)/\x=pI (lh s.a s.pl)
def TQ:MT (ao [(178,ah RX),(136,dU l4),(200,ah JJ),(156,OM),(201,ah SV),(202,dU Kp),(97,ah bF)]) mZ (ah Rj):=by
 rintro _ K ⟨_,⟨s,rfl,⟨U,H⟩,rfl⟩,Y⟩;obtain⟨h5,h6,h7⟩:=H;have VF:=vE s.pl;have iX:=jY s.pl;have HM:∀c∈chunks s.pl,c.length<=16∧∀x∈c,x∈s.pl:=λc F=>LH F
 by_cases F:s.a.fl%2=1
 ·have hS:mf s.a s.pl↔(s.a.al=br s.pl*256/\(s.pl.length:Int)=(s.a.sz+4095)/4096*16)∧∀c∈chunks s.pl,kK c:=by
   unfold mf;rw[if_pos F,and_assoc]
  have hK':∀r:Bool,(r=true↔(s.a.al=br s.pl*256/\(s.pl.length:Int)=(s.a.sz+4095)/4096*16)∧∀c∈chunks s.pl,kK c)->K (.pv (pI (if r=true then 0 else 3))):=by
   intro r J;unfold lh at Y;rw[<-hS]at J;by_cases h:mf s.a s.pl
   ·rw[if_pos h]at Y;rw[if_pos (J.2 h)];exact Y
   ·rw[if_neg h]at Y;rw[if_neg (λe=>h (J.1 e))];exact Y
  clear hS Y;generalize hP:(s.a.al=br s.pl*256/\(s.pl.length:Int)=(s.a.sz+4095)/4096*16)=P at*;generalize nO:chunks s.pl=cs at*
  (repeat'((conv=>whnf);first|refine⟨_,⟨s.pl,rfl,V,rfl⟩,?_⟩|(refine⟨_,⟨s,rfl,h5,rfl⟩,?_⟩)|refine⟨s,rfl,V,?_⟩|rw[nO]|refine CS (Z:=[]) (λ_=>?_)|(refine ik ?_;first|refine bu V ?_|refine ak V ?_|refine dc (λ_=>?_) (λ_=>?_)|refine cT λ_=>?_|refine aY ?_|refine⟨_,⟨_,_,rfl,dg,rfl⟩,?_⟩|fail)))<;>try(conv=>whnf)
  all_goals
   refine⟨λm env Z=>∃(n:Nat) (r:Bool),n+m=cs.length/\(r=true↔P∧∀c∈cs.take n,kK c)/\Z=[]/\env=[(3,.pv (.bool r)),(71,.pv (csP cs)),eN 72 cs.length,eN 73 n],cs.length,⟨0,_,V,?_,rfl,rfl⟩,?_⟩
   ·have e0:(s.pl.map pI).length=s.pl.length:=zaw _;rw[<-hP];simp<;>omega
   rintro m env Z ⟨n,r,hn,J,rfl,rfl⟩;by_cases aM:n<cs.length
   ·obtain⟨c,KK⟩:∃c,cs[n]?=some c:=⟨_,zah aM⟩
    have hcc:=HM c (zag KK);have ca:csP cs=.sl 1 (cs.map z7):=afm QH;have hT:(∀x∈cs.take (n+1),kK x)↔(∀x∈cs.take n,kK x)/\kK c:=by
     rw[zcM,KK];simp only[zdi,zaA,zdj];exact⟨λh=>⟨λx T=>h x (.inl T),h c (.inr rfl)⟩,λh x T=>T.elim (h.1 x) λe=>e▸h.2⟩
    have at8:∀r':Bool,(r'=true↔r=true/\kK c)->(r'=true↔P∧∀x∈cs.take (n+1),kK x):=λr' eI=>by
     rw[eI,J,hT,and_assoc]
    clear J hT hK';cases r with
    |false=>
     (repeat'((conv=>whnf);first|rw[ca]|refine⟨_,⟨c,-1,rfl,V,rfl⟩,?_⟩|refine bu V ?_|refine ak V ?_|refine jP az ?_|fail))<;>try(conv=>whnf)
     exact⟨m-1,V,n+1,false,V,at8 false ab,rfl,rfl⟩
    |true=>
     have hup:=vE (c.drop (N3 (λy=>y= -1) c).toNat);have VG: -1<=N3 (λy=>y= -1) c/\N3 (λy=>y= -1) c<=c.length:=by
      rcases yk (p:=λy=>y=(-1:Int)) c with⟨h,_⟩|⟨i,x,h,H,_⟩
      ·omega
      ·have:=fo H;omega
     (repeat'((conv=>whnf);first|rw[ca]|refine⟨_,⟨c,-1,rfl,V,rfl⟩,?_⟩|refine⟨_,⟨c.drop (N3 (λy=>y= -1) c).toNat,aAj _ _,aH,rfl⟩,?_⟩|refine bu V ?_|refine ak V ?_|refine dc (λ_=>?_) (λ_=>?_)|refine jP az ?_|refine zcv bJ ?_|fail))<;>try(conv=>whnf)
     ·rename_i x;exact⟨m-1,V,n+1,true,V,at8 true (by simp[kK,x]),rfl,rfl⟩
     ·rename_i x y;exact⟨m-1,V,n+1,true,V,at8 true (by simp[kK];right;omega),rfl,rfl⟩
     ·rename_i x y;exact⟨m-1,V,n+1,false,V,at8 false (by simp[kK];omega),rfl,rfl⟩
   ·have:=hK' r (by rw[J,za1 V]);clear hK'
    (repeat'(refine fq ?_;first|refine ar V ?_|refine⟨_,⟨_,_,rfl,rfl⟩,?_⟩|fail))<;>try(conv=>whnf)
    exact⟨.pv (pI _),rfl,trivial,this⟩
 ·have hS:mf s.a s.pl↔(s.a.al=br s.pl*256/\(s.pl.length:Int)=(s.a.sz+255)/256/\(s.a.fl/2%2=1\/br s.pl=s.pl.length)):=by
   unfold mf;rw[if_neg F]
  have hK':∀r:Bool,(r=true↔(s.a.al=br s.pl*256/\(s.pl.length:Int)=(s.a.sz+255)/256/\(s.a.fl/2%2=1\/br s.pl=s.pl.length)))->K (.pv (pI (if r=true then 0 else 3))):=by
   intro r J;unfold lh at Y;rw[<-hS]at J;by_cases h:mf s.a s.pl
   ·rw[if_pos h]at Y;rw[if_pos (J.2 h)];exact Y
   ·rw[if_neg h]at Y;rw[if_neg (λe=>h (J.1 e))];exact Y
  clear hS Y;have e0:(s.pl.map pI).length=s.pl.length:=zaw _;refine Gq ?_;refine⟨_,⟨s.pl,rfl,V,rfl⟩,?_⟩;refine bu V ?_;refine dc (λh8=>?_) (λh8=>?_)
  ·refine⟨_,⟨s,rfl,h5,rfl⟩,?_⟩;refine ar F ?_;refine Gq ?_;refine⟨_,⟨_,_,rfl,V,rfl⟩,?_⟩;refine dc (λh9=>?_) (λh9=>?_)
   ·refine⟨_,⟨s,rfl,h5,rfl⟩,?_⟩;refine dc (λVB=>?_) (λVB=>?_)
    ·refine⟨_,⟨true,3,rfl,rfl⟩,?_⟩;exact⟨.pv (pI _),rfl,trivial,hK' true aH⟩
    ·refine⟨_,⟨s.pl,rfl,V,rfl⟩,?_⟩;refine dc (λh11=>?_) (λh11=>?_)
     ·refine⟨_,⟨true,3,rfl,rfl⟩,?_⟩;exact⟨.pv (pI _),rfl,trivial,hK' true aH⟩
     ·refine⟨_,⟨false,3,rfl,rfl⟩,?_⟩;exact TC
   ·refine⟨_,⟨false,3,rfl,rfl⟩,?_⟩;exact TC
  ·refine⟨_,⟨s,rfl,h5,rfl⟩,?_⟩;refine ar F ?_;refine Gq ?_;refine⟨_,⟨false,3,rfl,rfl⟩,?_⟩;exact TC
def dj(d:Dk):Int:=if d.aT.length%256≠0 then 10 else if 512<d.n then 2 else gP d.mp d.n
def xe(ps:CK)(x:PV):Prop:=∃d:Dk,ps=[d.pv]/\(d.aT.length<=1000000/\d.mp.length<=1000000)/\x=pI (dj d)
def N0:MT (ao [(97,ah bF),(138,ah bk),(148,ah Y8),(96,ah dn)]) vG (ah xe):=by
 rintro _ K ⟨_,⟨d,rfl,⟨U,H⟩,rfl⟩,Y⟩;have hn:d.n<=10000:=uX
 (repeat'((conv=>whnf);first|refine Gq ?_|(refine⟨_,⟨d,rfl,V,rfl⟩,?_⟩)|(refine⟨_,⟨d.mp,min (d.n:Int) 512,rfl,V,rfl⟩,?_⟩)|(refine ik ?_;first|refine dc (λ_=>?_) (λ_=>?_)|refine U7 ?_|refine REM V ?_|refine⟨_,⟨_,_,rfl,rfl⟩,?_⟩|refine⟨_,⟨[_,_,_],rfl,rfl⟩,?_⟩|fail)))
 all_goals
  refine⟨.pv (pI _),?_,trivial,Y⟩;refine cn ?_;simp only[aZ,if_true,zcO,if_false];unfold dj;split<;>(try split)<;>(try omega)
 all_goals(try rw[show(min (d.n:Int) 512)=d.n by omega])
 all_goals simp_all
def wx(a:At):Int:=if iW a≠0 then iW a else if a.ty≠128\/4<=a.fl\/a.fl=3 then 15 else if a.ft≠0 then 20 else if 32768<a.sz then 2 else 0
def MN(ps:CK)(x:PV):Prop:=∃a:At,ps=[a.pv]/\a.nm.length<=1000000/\x=pI (wx a)
def awm{a:Int}(h:0<=a/\a<=7):dB .and .i64 a 4=4*(a/4%2):=by
 obtain⟨n,rfl⟩:∃n:Nat,a=n:=⟨a.toNat,V⟩
 obtain rfl|rfl|rfl|rfl|rfl|rfl|rfl|rfl:n=0\/n=1\/n=2\/n=3\/n=4\/n=5\/n=6\/n=7:=V;all_goals rfl
def awz{a:Int}(h:0<=a/\a<=7):dB .and .i64 a 3=a%4:=by
 obtain⟨n,rfl⟩:∃n:Nat,a=n:=⟨a.toNat,V⟩
 obtain rfl|rfl|rfl|rfl|rfl|rfl|rfl|rfl:n=0\/n=1\/n=2\/n=3\/n=4\/n=5\/n=6\/n=7:=V;all_goals rfl
def ah1{a:At}(h:iW a=0):0<=a.fl/\a.fl<=7:=by
 unfold iW at h;split at h
 ·rename_i g;exact absurd h g
 ·rename_i g;exact(YV.of (zcN.1 g)).idf.2
def OE:MT (ao [(131,ah G0),(97,ah bF),(96,ah dn)]) vR (ah MN):=by
 rintro _ K ⟨_,⟨a,rfl,U,rfl⟩,Y⟩
 (repeat'((conv=>whnf);first|refine Gq ?_|(refine⟨_,⟨a,rfl,U,rfl⟩,?_⟩)|(refine⟨_,⟨[_,_,_,_],rfl,rfl⟩,?_⟩)|(refine ik ?_;first|refine bR ?_|refine ec ?_|refine dc (λ_=>?_) (λ_=>?_)|refine ark ?_|refine⟨_,⟨_,_,rfl,rfl⟩,?_⟩|fail)))
 all_goals
  refine⟨.pv (pI _),?_,trivial,Y⟩;refine cn ?_;simp only[aZ,if_true,zcO,if_false];unfold wx;by_cases hz:iW a=0
  ·have hf:=ah1 hz;have h4:=awm hf;have h3:=awz hf;simp only[hz,ne_eq,not_true_eq_false,if_false];split<;>(try split)<;>(try split)<;>(try omega)
   all_goals(try(rename_i h;exact absurd trivial h))
   all_goals(try rw[h4]at*)
   all_goals(try rw[h3]at*)
   all_goals first
    |omega
    |(simp_all;done)
    |(simp_all<;>omega)
  ·simp[hz]
def Lf(f:Nat->Int)(n:Nat):Int:=aZ ((List.range n).map f)
def aeS(a b:OG):aZ (a++b)=if aZ a=0 then aZ b else aZ a:=by
 induction a with
 |nil=>rfl
 |cons x a ih=>
  simp only[zbe,aZ];omega
def WO(f:Nat->Int)(n:Nat):Lf f (n+1)=if Lf f n=0 then f n else Lf f n:=by
 unfold Lf;rw[zc9,zaY,aeS];by_cases h:f n=0<;>simp[aZ,h]
def Eo{f:Nat->Int}:∀{n:Nat},Lf f n=0↔∀j,j<n->f j=0
 |0=>by simp[Lf,aZ]
 |n+1=>by
  rw[WO];constructor
  ·intro h j hj;split at h
   ·rename_i g;rcases zcQ (zcR hj)with U|U
    ·exact Eo.1 g j U
    grind
   omega
  ·intro h;rw[if_pos (Eo.2 λj hj=>h j V)]
   grind
def aiz{f:Nat->Int}{i:Nat}:∀{n:Nat},(∀j,j<i->f j=0)->i<n->f i≠0->Lf f n=f i
 |0,_,h,_=>by omega
 |n+1,h0,h,ca=>by
  rw[WO];by_cases W:i<n
  ·rw[aiz h0 W ca,if_neg ca]
  ·have:i=n:=by omega
   subst this;rw[if_pos (Eo.2 h0)]
def sV(vd:Int)(i:Nat):Nat:=(min (max 0 (vd-i*4096)) 4096).toNat
def BD(B:P8)(vd:Int)(i:Nat)(c:OG):Int:=
 if (fD (fw B c)).2≠0 then(fD (fw B c)).2
 else if (0<br c/\(fD (fw B c)).1=aC 4096)\/(fD (fw B c)).1.drop (sV vd i)≠aC (4096-sV vd i)then 19 else 0
def kg(B:P8)(vd:Int)(cs:List (OG)):Int:=Lf (λi=>BD B vd i (cs[i]?.getD [])) cs.length
def af4{s:P8}(h:(fD s).2=0):(fD s).1.length=4096:=by
 unfold fD at h ⊢;split
 ·grind
 split
 ·exact bB _
 grind
def Wf{α:Type}(k:Nat)(l:List α):cut k l.length l=l.drop k:=by unfold cut;simp
def Sc(ps:CK)(x:PV):Prop:=∃s:St,ps=[sP s]/\(s.d.aT.length<=1000000/\s.pl.length<=10000/\RJ s.d.aT s.pl/\anF s.a)/\x=pI (kg s.d.aT s.a.vd (chunks s.pl))
def T4:MT (ao [(156,OM),(158,ah TM),(157,QV),(178,ah RX),(122,ah CE)]) mU (ah Sc):=by
 rintro _ K ⟨_,⟨s,rfl,⟨U,H,h3,h4⟩,rfl⟩,Y⟩;obtain⟨h5,h6,h7⟩:=h4;unfold kg at Y;have iX:=jY s.pl;have HM:∀c∈chunks s.pl,c.length<=16∧∀x∈c,x∈s.pl:=λc F=>LH F
 generalize nO:chunks s.pl=cs at*;generalize hF:(λi=>BD s.d.aT s.a.vd i (cs[i]?.getD []))=hc at*
 (repeat'((conv=>whnf);first|refine⟨s,rfl,V,?_⟩|rw[nO]|refine CS (Z:=[]) (λ_=>?_)|refine cT λ_=>?_|fail))
 refine⟨λm env Z=>∃n:Nat,n+m=cs.length/\(∀j,j<n->hc j=0)/\Z=[]/\env=[(0,.pv (sP s)),(10,.pv (csP cs)),eN 11 cs.length,eN 12 n],cs.length,⟨0,V,λj hj=>V,rfl,rfl⟩,?_⟩;rintro m env Z ⟨n,hn,h0,rfl,rfl⟩;by_cases aM:n<cs.length
 ·obtain⟨c,KK⟩:∃c,cs[n]?=some c:=⟨_,zah aM⟩
  have hcc:=HM c (zag KK);have zT:=Lb s.d.aT c;have ca:csP cs=.sl 1 (cs.map z7):=afm QH;have hFn:hc n=BD s.d.aT s.a.vd n c:=by rw[<-hF];simp only;rw[KK];rfl
  have aqI:BD s.d.aT s.a.vd n c≠0->K (.pv (pI (BD s.d.aT s.a.vd n c))):=λh=>by
   rw[aiz h0 aM (by rw[hFn];exact h),hFn]at Y;exact Y
  have aiN:BD s.d.aT s.a.vd n c=0→∀j,j<n+1->hc j=0:=λh j hj=>by
   rcases zcQ (zcR hj)with U|U
   ·exact h0 j U
   ·rw[U,hFn];exact h
  have VF:=vE c;clear Y hF;unfold BD at aqI aiN;have hlen:(fD (fw s.d.aT c)).2=0->(fD (fw s.d.aT c)).1.length=4096:=af4;generalize hU:fD (fw s.d.aT c)=h1 at*;obtain⟨own,e⟩:=h1;simp only at aqI aiN hlen;have xI:e≠0->K (.pv (pI e)):=λh=>by
   have:=aqI (by rw[if_pos h];exact h);rw[if_pos h]at this;exact this
  have nj:¬e≠0->((0<(br c:Int)/\own=aC (4096:Int).toNat)\/cut (min (max 0 (s.a.vd-n*4096)) 4096).toNat own.length own≠aC (4096-min (max 0 (s.a.vd-n*4096)) 4096).toNat)->K (.pv (pI 19)):=λh H=>by
   rw[Wf,show(4096-min (max 0 (s.a.vd-n*4096)) 4096).toNat=4096-sV s.a.vd n by unfold sV;omega]at H;have H:(0<br c/\own=aC 4096)\/own.drop (sV s.a.vd n)≠aC (4096-sV s.a.vd n):=H.imp (λh=>⟨V,h.2⟩) id;have:=aqI (by rw[if_neg h,if_pos H];decide);rw[if_neg h,if_pos H]at this;exact this
  have hg:¬e≠0→¬((0<(br c:Int)/\own=aC (4096:Int).toNat)\/cut (min (max 0 (s.a.vd-n*4096)) 4096).toNat own.length own≠aC (4096-min (max 0 (s.a.vd-n*4096)) 4096).toNat)→∀j,j<n+1->hc j=0:=λh H=>by
   rw[Wf,show(4096-min (max 0 (s.a.vd-n*4096)) 4096).toNat=4096-sV s.a.vd n by unfold sV;omega]at H;have H:¬((0<br c/\own=aC 4096)\/own.drop (sV s.a.vd n)≠aC (4096-sV s.a.vd n)):=λg=>H (g.imp (λh=>⟨V,h.2⟩) id)
   exact aiN (by rw[if_neg h,if_neg H])
  clear aqI aiN
  (repeat'((conv=>whnf);first|rw[ca]|refine⟨_,⟨s,c,rfl,⟨V,V,λx T=>h3 x (hcc.2 x T)⟩,rfl⟩,?_⟩|rw[hU]|(refine ik ?_;first|refine bu V ?_|refine ak V ?_|refine dc (λ_=>?_) (λ_=>?_)|refine MAX ?_|refine U7 ?_|refine jP az ?_|refine aY ?_|refine⟨_,⟨_,rfl,dg,rfl⟩,?_⟩|refine⟨_,rfl,dg,?_⟩|refine zcv bJ ?_|fail)))
  ·rename_i x;exact⟨.pv (pI _),rfl,trivial,xI x⟩
  ·rename_i x y z;exact⟨.pv (pI _),rfl,trivial,nj x (.inl ⟨y,z⟩)⟩
  ·rename_i x y z w;exact⟨.pv (pI _),rfl,trivial,nj x (.inr w)⟩
  ·rename_i x y z w;exact⟨m-1,V,n+1,V,hg x (λg=>g.elim (λg=>z g.2) (λg=>w g)),rfl,rfl⟩
  ·rename_i x y w;exact⟨.pv (pI _),rfl,trivial,nj x (.inr w)⟩
  ·rename_i x y w;exact⟨m-1,V,n+1,V,hg x (λg=>g.elim (λg=>y g.1) (λg=>w g)),rfl,rfl⟩
 ·rw[Eo.2 λj hj=>h0 j V]at Y
  (repeat'((conv=>whnf);first|refine ar V ?_|fail))
  exact aO
def sb{l:UH}(h:∀r∈l,0<=r.n):((aq l).length:Int)=aF l:=by
 unfold aq
 induction l with
 |nil=>rfl
 |cons r l ih=>
  rw[zan,zad,Jz];have:=ih λq hq=>h q iJ
  have:=h r ab;simp only[aF,zau,zdf]at*;omega
def adj{l:UH}{a:Int}(h:a∈aq l):∃r∈l,∃i:Nat,(i:Int)<r.n/\a=if r.s= -1 then-1 else r.s+(i:Int):=by
 unfold aq at h;rw[zbB]at h;obtain⟨r,J,ha⟩:=h;unfold jd at ha
 grind
def pM{r:Rn}(h:ir r):(1<=r.n/\r.n<=4096)/\(-1<=r.s/\r.s<=511)/\(r.s≠ -1->r.s+r.n<=512):=by
 unfold ir at h
 grind
def amv{l:UH}(h:∀r∈l,ir r):∀a∈aq l,-1<=a/\a<=511:=by
 intro a ha;obtain⟨r,J,i,W,rfl⟩:=adj ha;have:=pM (h r J);omega
def aj(d:Dk)(a:At):St:=⟨a,d,aq a.rn.l⟩
def aI(d:Dk)(a:At):Int:=
 if dj d≠0 then dj d else if wx a≠0 then wx a else if a.rs=true then 0
 else if mq d (aq a.rn.l)≠0 then mq d (aq a.rn.l)else if lh a (aq a.rn.l)≠0 then lh a (aq a.rn.l)
 else if a.fl%2=1 then kg d.aT a.vd (chunks (aq a.rn.l))else 0
def dkB(d:Dk):Prop:=d.aT.length<=1000000/\d.mp.length<=1000000
def xd:Spec:=AT false false λps K=>∃(d:Dk) (a:At),ps=[d.pv,a.pv]/\(dkB d/\a.nm.length<=1000000)/\(aI d a=0->K (.tup [.pv (sP (aj d a)),.pv (pI 0)]))/\(aI d a≠0→∀v,v=.val (.pointer none)\/v=sP (aj d a)->K (.tup [.pv v,.pv (pI (aI d a))]))
def iV{a:At}(h:wx a=0):iW a=0/\a.ty=128/\(0<=a.fl/\a.fl<=2)/\a.ft=0/\a.sz<=32768:=by
 unfold wx at h;split at h
 ·omega
 rename_i g;have g:=zcN.1 g;have:=ah1 g;omega
def O3{a:At}(h:iW a=0):YV a:=by
 unfold iW at h;split at h
 ·omega
 ·rename_i g;exact YV.of (zcN.1 g)
def EP{a:At}(h:wx a=0):dv a.rn.l=0:=by
 have g:=O3 (iV h).1;cases J:a.rs with
 |true=>
  have:=(g.rs J).1;have e:a.rn.l=[]:=au;rw[e];rfl
 |false=>exact(g.ot J).2.2.2.1
def Z_{a:At}(h:wx a=0):(aq a.rn.l).length<=4096∧∀x∈aq a.rn.l,-1<=x/\x<=511:=by
 have g:=bz (EP h);have U:=sb (l:=a.rn.l) λr J=>by have:=pM (g.2.2.2 r J);omega
 exact⟨V,amv g.2.2.2⟩
def df{d:Dk}(h:dj d=0):d.aT.length%256=0/\d.n<=512/\gP d.mp d.n=0:=by
 unfold dj at h;omega
def aaH{d:Dk}{pl:OG}(I:∀x∈pl,-1<=x)(h:mq d pl=0):RJ d.aT pl:=by
 unfold mq at h;split at h
 ·cases h
 rename_i g;intro n hn;have U:=I n hn;have H:¬(d.n:Int)<=n:=λe=>g ⟨n,hn,e⟩
 by_cases h3:n= -1
 ·omega
 ·unfold Dk.n at H;omega
def arZ{b:Bool}{P Q:Prop}:b=true->P->(match b with|true=>P|false=>Q):=au
def avS{b:Bool}{P Q:Prop}:b=false->Q->(match b with|true=>P|false=>Q):=au
def aar:MT (ao [(66,ah xe),(95,ah MN),(96,ah dn),(133,dz false ny),(134,ah MZ),(135,ah Rj),(136,dU l4),(137,ah Sc)]) Gl xd:=by
 rintro _ K ⟨d,a,rfl,⟨⟨U,H⟩,h3⟩,yd,qO⟩;have hf:aZ [dj d,wx a]=if dj d=0 then wx a else dj d:=by
  show(if dj d=0 then(if wx a=0 then 0 else wx a)else dj d)=_;split
  ·split
   ·omega
   ·rfl
  ·rfl
 by_cases he:aZ [dj d,wx a]=0
 ·rw[hf]at he;have hd:dj d=0:=by
   by_cases h:dj d=0
   ·exact h
   ·rw[if_neg h]at he;exact he
  have hs:wx a=0:=by rw[if_pos hd]at he;exact he
  obtain⟨g1,g2,g3,g4,g5⟩:=iV hs;have ga:=O3 g1;obtain⟨q1,q2,q3⟩:=df hd;have gr:=bz (EP hs);obtain⟨gl,gb⟩:=Z_ hs;have hO:aI d a=if a.rs=true then 0 else if mq d (aq a.rn.l)≠0 then mq d (aq a.rn.l)else if lh a (aq a.rn.l)≠0 then lh a (aq a.rn.l)
   else if a.fl%2=1 then kg d.aT a.vd (chunks (aq a.rn.l))else 0:=by unfold aI;rw[if_neg V,if_neg V]
  have aed:ny [uF a.rn] (.pv (z7 (aq a.rn.l))):=⟨a.rn,rfl,⟨V,λr J=>acw⟩,rfl⟩
  have hsP:sP (aj d a)=.cptr (.agg [pI a.ty,.str a.nm,pI a.id,pI a.fl,pB a.rs,.str a.vl,pI a.ft,uF a.rn,pI a.al,pI a.sz,pI a.vd,.str d.aT,.str d.mp,z7 (aq a.rn.l)]):=rfl;cases fx:a.rs with
  |true=>
   rw[if_pos fx]at hO
   (repeat'((conv=>whnf);first|refine Gq ?_|(refine⟨_,⟨d,rfl,V,rfl⟩,?_⟩)|(refine⟨_,⟨a,rfl,h3,rfl⟩,?_⟩)|refine ar (by rw[hf];omega) ?_|refine⟨_,aed,?_⟩|refine arZ fx ?_|(refine ik ?_;first|refine⟨_,⟨[_,_],rfl,rfl⟩,?_⟩|fail)))
   exact⟨[.pv _,.pv (pI _)],⟨rfl,rfl,trivial⟩,trivial,yd hO⟩
  |false=>
   rw[if_neg lI]at hO;have hot:=ga.ot fx;have hso:=hot.2.2.2.2.2.1;unfold nn at hso;have aBE:anF a:=⟨⟨V,V⟩,⟨V,V⟩,V,V⟩
   (repeat'((conv=>whnf);first|refine Gq ?_|(refine⟨_,⟨d,rfl,V,rfl⟩,?_⟩)|(refine⟨_,⟨a,rfl,h3,rfl⟩,?_⟩)|refine ar (by rw[hf];omega) ?_|refine⟨_,aed,?_⟩|refine avS fx ?_|refine⟨_,⟨aj d a,rfl,⟨U,H,q3,by show(aq a.rn.l).length<=_;omega,λx T=>(gb x T).1⟩,rfl⟩,?_⟩|(refine ik ?_;first|refine dc (λ_=>?_) (λ_=>?_)|refine⟨_,⟨[_,_],rfl,rfl⟩,?_⟩|fail)))
   ·rename_i x;have x:mq d (aq a.rn.l)≠0:=x;rw[if_pos x]at hO;rw[hO]at qO;exact⟨[.pv _,.pv (pI _)],⟨rfl,rfl,trivial⟩,trivial,qO x _ (.inl rfl)⟩
   rename_i x;have x:¬mq d (aq a.rn.l)≠0:=x;rw[if_neg x]at hO;have aBF:=aaH (λx T=>(gb x T).1) (zcN.1 x)
   (repeat'((conv=>whnf);first|refine⟨_,⟨aj d a,rfl,⟨by show(aq a.rn.l).length<=_;omega,aBE⟩,rfl⟩,?_⟩|(refine⟨_,⟨aj d a,rfl,⟨by show(0:Int)<=a.fl;omega,by show a.fl<=7;omega⟩,rfl⟩,?_⟩)|refine⟨_,⟨aj d a,rfl,⟨U,by show(aq a.rn.l).length<=_;omega,aBF,aBE⟩,rfl⟩,?_⟩|refine dc (λ_=>?_) (λ_=>?_)|fail))
   all_goals
    have KF:K (.tup [.pv (sP (aj d a)),.pv (pI (aI d a))]):=by
     by_cases h0:aI d a=0
     ·have:=yd h0;rw[h0];exact this
     ·exact qO h0 _ (.inr rfl)
   ·rename_i y z;have y:lh a (aq a.rn.l)=0:=y;have z:a.fl%2=1:=z;rw[hO,if_neg V,if_pos z]at KF;exact Q1
   ·rename_i y z;have y:lh a (aq a.rn.l)=0:=y;have z:¬a.fl%2=1:=z;rw[hO,if_neg V,if_neg z,<-y]at KF;exact Q1
   ·rename_i y;have y:¬lh a (aq a.rn.l)=0:=y;rw[hO,if_pos y]at KF;exact Q1
 ·have ca:aI d a=aZ [dj d,wx a]:=by
   rw[hf]at he ⊢;unfold aI;by_cases h:dj d=0
   ·rw[if_pos h]at he ⊢;rw[if_neg V,if_pos he]
   ·rw[if_neg h]at he ⊢;rw[if_pos h]
  rw[ca]at qO;have qO:=qO he;clear ca yd
  (repeat'((conv=>whnf);first|refine Gq ?_|(refine⟨_,⟨d,rfl,V,rfl⟩,?_⟩)|(refine⟨_,⟨a,rfl,h3,rfl⟩,?_⟩)|refine ak he ?_|(refine ik ?_;first|refine⟨_,⟨[_,_],rfl,rfl⟩,?_⟩|fail)))
  exact⟨[.pv _,.pv (pI _)],⟨rfl,rfl,trivial⟩,trivial,qO _ (.inl rfl)⟩
def x3(ps:CK)(x:PV):Prop:=∃(d:Dk) (a:At),ps=[d.pv,a.pv]/\(dkB d/\a.nm.length<=1000000)/\x=pI (aI d a)
def Km:MT (ao [(58,xd)]) rK (ah x3):=by
 rintro _ K ⟨_,⟨d,a,rfl,⟨U,H⟩,rfl⟩,Y⟩;refine⟨d,a,rfl,⟨U,H⟩,λh=>?_,λh v _=>?_⟩
 ·rw[h]at Y;exact aO
 ·exact aO
structure al3(d:Dk)(a:At):Prop where
 dk:dj d=0
 str:wx a=0
 nb:d.n<=512
 bm:gP d.mp d.n=0
 rn:dv a.rn.l=0
 fl:0<=a.fl/\a.fl<=2
 num:anF a
 pl:RJ d.aT (aq a.rn.l)
 len:(aq a.rn.l).length<=128
 res:a.rs=true->a.rn.l=[]/\a.vl.length<=400
def ajg{a:At}{pl:OG}:lh a pl=0↔mf a pl:=by
 unfold lh;simp
def aL{d:Dk}{a:At}(h:aI d a=0):al3 d a/\(a.rs=false->mq d (aq a.rn.l)=0/\mf a (aq a.rn.l)/\(a.fl%2=1->kg d.aT a.vd (chunks (aq a.rn.l))=0)):=by
 unfold aI at h;split at h
 ·omega
 rename_i hd;have hd:=zcN.1 hd;split at h
 ·omega
 rename_i hs;have hs:=zcN.1 hs;obtain⟨g1,g2,g3,g4,g5⟩:=iV hs;have ga:=O3 g1;obtain⟨q1,q2,q3⟩:=df hd;obtain⟨gl,gb⟩:=Z_ hs;split at h
 ·rename_i J;obtain⟨r1,⟨_,_,r2,r3⟩,r4⟩:=ga.rs J;have r1:a.rn.l=[]:=au;refine⟨⟨hd,hs,q2,q3,EP hs,g3,⟨⟨V,V⟩,V,V⟩,?_,?_,λ_=>⟨r1,r4⟩⟩,λtT=>au⟩
  ·rw[r1];intro n hn;trivial
  ·rw[r1];trivial
 have J:a.rs=false:=au;have hso:=(ga.ot J).2.2.2.2.2.1;unfold nn at hso;have hvd:=(ga.ot J).2.2.2.2.2.2;split at h
 ·omega
 rename_i hp;have hp:=zcN.1 hp;split at h
 ·omega
 rename_i zy;have zy:=ajg.1 (zcN.1 zy);have hl:(aq a.rn.l).length<=128:=by
  have:=zy.2
  grind
 refine⟨⟨hd,hs,q2,q3,EP hs,g3,⟨⟨V,V⟩,V,V⟩,aaH (λx T=>(gb x T).1) hp,hl,λtT=>au⟩,λ_=>⟨hp,zy,λF=>?_⟩⟩;omega
def l5{e:Int}{l:OG}(h:e≠0):aZ (e::l)=e:=D3
def Dp{d:Dk}{a:At}(h:al3 d a):(ba (aj d a)).length<=32768:=by
 unfold ba;have U:=(iV h.str).2.2.2.2;split
 ·rename_i J;have:=(h.res J).2;show a.vl.length<=_;omega
 ·rw[Hg];show a.sz.toNat<=_;omega
def DO{d:Dk}{a:At}(h:al3 d a)(I:dkB d):qP [sP (aj d a)] (.str (ba (aj d a))):=
 ⟨aj d a,rfl,⟨I.1,h.len,h.pl,h.num⟩,rfl⟩
def U2(d:Dk)(a:At):P8:=open Classical in if aI d a=0 then ba (aj d a)else[]
def wW(ps:CK)(r:RV):Prop:=∃(d:Dk) (a:At),ps=[d.pv,a.pv]/\(dkB d/\a.nm.length<=1000000)/\r=.tup [.pv (.str (U2 d a)),.pv (pI (aI d a))]
def NS:MT (ao [(58,xd),(94,ah qP)]) vI (dz true wW):=by
 rintro _ K ⟨_,⟨d,a,rfl,⟨U,H⟩,rfl⟩,Y⟩;unfold U2 at Y;refine⟨d,a,rfl,⟨U,H⟩,λh=>?_,λh v _=>?_⟩
 ·have pQ:=(aL h).1;rw[if_pos h,h]at Y
  (repeat'((conv=>whnf);first|refine⟨_,DO pQ U,?_⟩|refine ar V ?_|fail))<;>try(conv=>whnf)
  exact gV
 ·rw[if_neg h]at Y
  (repeat'((conv=>whnf);first|refine ak h ?_|fail))<;>try(conv=>whnf)
  exact gV
def fP(n:Int):Prop:=0<=n/\n<=32768
instance (n:Int):Decidable (fP n):=by unfold fP;infer_instance
def rN(d:Dk)(a:At)(at_ n:Int):Int:=open Classical in if aI d a≠0 then aI d a else if fP at_/\fP n then 0 else 2
def wQ(d:Dk)(a:At)(at_ n:Int):P8:=open Classical in if rN d a at_ n=0 then((ba (aj d a)).drop at_.toNat).take n.toNat else[]
def Q5(ps:CK)(r:RV):Prop:=∃(d:Dk) (a:At) (at_ n:Int),ps=[d.pv,a.pv,pI at_,pI n]/\(dkB d/\a.nm.length<=1000000)/\r=.tup [.pv (.str (wQ d a at_ n)),.pv (pI (rN d a at_ n))]
def XX:MT (ao [(58,xd),(98,dU vS),(97,ah bF),(96,ah dn),(94,ah qP)]) Bb (dz true Q5):=by
 rintro _ K ⟨_,⟨d,a,p,n,rfl,⟨U,H⟩,rfl⟩,Y⟩;refine⟨d,a,rfl,⟨U,H⟩,λh=>?_,λh v _=>?_⟩
 ·have pQ:=(aL h).1;have iX:=Dp pQ;have yd:∀(o:Bool),(o=true↔fP p/\fP n)->K (.tup [.pv (.str (if o=true then((ba (aj d a)).drop p.toNat).take n.toNat else[])),.pv (pI (if o=true then 0 else 2))]):=λo ho=>by
   have he:rN d a p n=if o=true then 0 else 2:=by
    unfold rN;rw[if_neg (λe=>e h)];cases o with
    |true=>rw[if_pos (ho.1 rfl)];rfl
    |false=>rw[if_neg (by rw[<-ho];decide)];rfl
   have hn:wQ d a p n=if o=true then((ba (aj d a)).drop p.toNat).take n.toNat else[]:=by
    unfold wQ;rw[he];cases o with
    |true=>rw[if_pos dw];rfl
    |false=>rw[if_neg ai];rfl
   rw[he,hn]at Y;exact Y
  unfold fP at yd;clear Y;have cI:=DO pQ U;generalize ba (aj d a)=C at*;have HE:fP p->fP n->cut (min p (C.length:Int)).toNat (min (C.length:Int) (min p (C.length:Int)+n)).toNat C=(C.drop p.toNat).take n.toNat:=λhp hn=>by
   unfold fP at hp hn;unfold cut;rw[zds];by_cases F:p.toNat<=C.length
   ·rw[show(min p (C.length:Int)).toNat=p.toNat by omega];by_cases H:p.toNat+n.toNat<=C.length
    ·congr 1;omega
    ·rw[za1 gx,za1 gx]
   ·rw[zb7 V,zb7 V];simp
  (repeat'((conv=>whnf);first|refine⟨_,cI,?_⟩|(refine ik ?_;first|refine bu V ?_|refine ak ai ?_|refine ar ai ?_|refine dc (λ_=>?_) (λ_=>?_)|refine U7 ?_|refine aY ?_|refine⟨_,⟨_,rfl,rfl⟩,?_⟩|refine⟨_,⟨_,_,rfl,rfl⟩,?_⟩|refine HI ?_|refine⟨_,⟨[_,_],rfl,rfl⟩,?_⟩|fail)))<;>try(conv=>whnf)
  ·rename_i x y;rw[HE x y];exact⟨[.pv (.str _),.pv _],⟨rfl,rfl,trivial⟩,⟨trivial,trivial,trivial⟩,yd true aH⟩
  ·rename_i x y;exact⟨[.pv (.str _),.pv _],⟨rfl,rfl,trivial⟩,⟨trivial,trivial,trivial⟩,yd false aH⟩
  ·rename_i x;exact⟨[.pv (.str _),.pv _],⟨rfl,rfl,trivial⟩,⟨trivial,trivial,trivial⟩,yd false aH⟩
 ·have he:rN d a p n=aI d a:=by unfold rN;rw[if_pos h]
  have hn:wQ d a p n=[]:=by unfold wQ;rw[if_neg (by rw[he];exact h)]
  rw[he,hn]at Y
  (repeat'((conv=>whnf);first|refine ak DN ?_|(refine ik ?_;first|refine dc (λ_=>?_) (λ_=>?_)|refine aY ?_|refine⟨_,⟨_,rfl,rfl⟩,?_⟩|refine⟨_,⟨_,_,rfl,rfl⟩,?_⟩|refine⟨_,⟨[_,_],rfl,rfl⟩,?_⟩|fail)))<;>try(conv=>whnf)
  all_goals
   rw[l5 h];exact gV
def zA:At:=⟨0,[],0,0,false,[],0,.nil,0,0,0⟩
def Hr(a:At)(c:P8):At:=⟨a.ty,a.nm,a.id,a.fl,true,c,0,.nil,0,0,0⟩
def ang(a:At)(c:P8):(Hr a c).pv.flat:=by
 intro x T;simp only[zax,zb6,or_false,Hr,Sl.pv]at T;rcases T with rfl|rfl|rfl|rfl|rfl|rfl|rfl|rfl|rfl|rfl|rfl<;>trivial
def SY(ps:CK)(x:PV):Prop:=∃(s:St) (c:P8),ps=[sP s,.str c]/\x=(Hr s.a c).pv
def ZL:MT (ao []) oI (ah SY):=by
 rintro _ K ⟨_,⟨s,c,rfl,rfl⟩,Y⟩
 (repeat'((conv=>whnf);first|refine Gq ?_|fail))<;>try(conv=>whnf)
 exact⟨.pv _,rfl,ang _ _,Y⟩
def ans:∀(l:PW) (k:Nat),ey (k+1) l=2*ey k l:=by
 intro l
 induction l with
 |nil=>intro k;rfl
 |cons t l ih=>
  simp only[ey,ih]
  grind
def Nu(n:Nat)(h:n<65536)(r:P8):vC (CQ n++r)=n:=by
 unfold CQ vC;simp only[zbe,zc8,zbE,List.getElem?_cons_succ];rw[lA V,lA V];omega
def ajj{t:c7}{a:Nat}(h:qD t a)(hd:t.d≠0)(r:P8):De (Ah a) (vC (xN t a++r))=t/\(xN t a).length=2:=by
 have F:=aik h hd;have h':=h;unfold qD at h';have hg:Ah a=16-dp a:=by unfold Ah;grind
 unfold xN;rw[if_pos hd];refine⟨?_,rfl⟩;rw[Nu _ F.1,hg];have hp:=Nat.two_pow_pos (16-dp a);have e:(t.d.toNat-1)*2^(16-dp a)+t.l.toNat-3=(t.l.toNat-3)+2^(16-dp a)*(t.d.toNat-1):=by
  grind
 rw[e];unfold De;rw[Nat.add_mul_div_left _ _ hp,Nat.div_eq_of_lt F.2.2,Nat.add_mul_mod_self_left,Nat.mod_eq_of_lt F.2.2];obtain⟨d,l,b⟩:=t
 grind
def aoC{t:c7}{a:Nat}(h:qD t a)(hd:¬t.d≠0)(r:P8):XV (xN t a++r)=t/\(xN t a).length=1:=by
 unfold qD at h;rw[if_neg hd]at h;unfold xN;rw[if_neg hd];unfold XV;simp only[zbe,zc8,zbE];rw[lA V];obtain⟨d,l,b⟩:=t
 grind
def afD:∀(g:PW) (k:Nat) (r:P8) (a:Nat),g.length<=k->fh g a->
 nG Ah k (ey 0 g) (dQ g a++r) a=((nG Ah (k-g.length) 0 r (gQ g a)).1,g++(nG Ah (k-g.length) 0 r (gQ g a)).2):=by
 intro g
 induction g with
 |nil=>intro k r a _ _;rfl
 |cons t g ih=>
  intro k r a E b_;obtain⟨U,H⟩:=b_;simp only[zap]at E;obtain⟨k,rfl⟩:∃j,k=j+1:=⟨k-1,V⟩
  have hs:ey 0 (t::g)=(if t.d≠0 then 1 else 0)+2*ey 0 g:=by
   simp only[ey];rw[ans]
  simp only[dQ,gQ,zaj,zap];rw[hs];by_cases hd:t.d≠0
  ·rw[if_pos hd];obtain⟨e1,e2⟩:=ajj U hd (dQ g (a+t.made.toNat)++r);rw[Wv Ah k (1+2*ey 0 g) a au V]
   grind
  ·rw[if_neg hd];obtain⟨e1,e2⟩:=aoC U hd (dQ g (a+t.made.toNat)++r);have Pz:t.made=1:=by unfold c7.made;omega
   rw[abw Ah k (0+2*ey 0 g) a au V]
   grind
def ags{l:PW}{a:Nat}(h:l≠[]):1<=(dQ l a).length:=by
 cases l with
 |nil=>grind
 |cons t l=>
  have:1<=(xN t a).length:=by unfold xN CQ;grind
  simp only[dQ,zad];omega
def aki:∀(n:Nat) (l:PW) (f a:Nat),l.length<=n->fh l a->nG Ah 0 f (fA n l a) a=(0,l):=by
 intro n
 induction n with
 |zero=>
  intro l f a h _;have:l=[]:=List.eq_nil_of_length_eq_zero V;subst this;rfl
 |succ n ih=>
  intro l f a h b_;by_cases hl:l=[]
  ·subst hl;rfl
  rw[fA,if_neg hl];have ca:l.take 8≠[]:=by
   simp_all
  have hsg:=Cz (l.take 8) 0;have hp8:2^(l.take 8).length<=2^8:=zb4 V au;rw[Nat.zero_add]at hsg;have OK:=b_;rw[<-zaF 8 l,kH]at OK;have I:=ags (a:=a) ca;rw[RW Ah f a au];have e0:((jW (ey 0 (l.take 8))::(dQ (l.take 8) a++fA n (l.drop 8) (gQ (l.take 8) a)))[0]?.getD 0).toNat=ey 0 (l.take 8):=by
   exact lA V
  rw[e0,List.drop_succ_cons,zdc,afD _ 8 _ a au OK.1];have hlen:(l.take 8).length=min 8 l.length:=zal;by_cases h8:8<=l.length
  ·rw[show 8-(l.take 8).length=0 by omega,ih (l.drop 8) 0 _ au OK.2];simp
  ·have hd:l.drop 8=[]:=zb7 V;have VC:fA n (l.drop 8) (gQ (l.take 8) a)=[]:=by
    rw[hd];cases n with
    |zero=>rfl
    |succ n=>rfl
   obtain⟨j,hj⟩:∃j,8-(l.take 8).length=j+1:=⟨7-(l.take 8).length,V⟩
   rw[VC,hj,Cm];simp[za1 (show l.length<=8 by omega)]
def aja{l:PW}(hl:l≠[])(b_:fh l 0):GL Ah (oR l)=(l,0):=by
 have U:=aki l.length l 0 0 (zai _) b_;have H:(lM l).2=0:=by
  unfold lM;rw[if_neg hl];exact(Nl _ _ _).2 b_
 rw[DI];unfold oR
 grind
def akW(n:Nat)(pk:Bool)(h:1<=n/\n<=4096)(r:P8):vC (vP n pk++r)=n-1+12288+(if pk then 32768 else 0):=by
 unfold vP;rw[Nu _ au]
def ape(s:P8):(afe s).length=(s.length+255)/256*256:=by
 unfold afe;rw[zad,bB];omega
def arx(d:P8)(a k:Nat):∀(m n b:Nat),n<=b->b<j0 d a k n m->d[a+b]?=d[a+b-k]?:=by
 intro m
 induction m with
 |zero=>intro n b U H;simp only[j0]at H;omega
 |succ m ih=>
  intro n b U H;unfold j0 at H
  grind
def aiU(D:P8)(a k:Nat)(E:1<=k)(hka:k<=a):∀n,n<=dC D a k->a+n<=D.length->jo n k (D.take a)=D.take (a+n):=by
 intro n
 induction n with
 |zero=>intro _ _;rfl
 |succ n ih=>
  intro U H;have h3:=ih V V;have h4:=arx D a k (dD D a) 0 n (Nat.zero_le _) az;rw[IS,h3];have hl:(D.take (a+n)).length=a+n:=au;rw[hl,List.getElem?_take,if_pos V,<-h4,<-Nat.add_assoc,zcM,zah (show a+n<D.length by omega)];rfl
def Mk2(D:P8):PW->Nat->Prop
 |[],a=>a=D.length
 |t::l,a=>a<D.length/\((t.d≠0/\1<=t.d/\t.d.toNat<=a/\0<=t.l/\t.l.toNat<=dC D a t.d.toNat)\/(t.d=0/\t=OA D a))/\Mk2 D l (a+t.made.toNat)
def an0(D:P8):∀(l:PW) (a:Nat),Mk2 D l a->Ag l (D.take a)=D:=by
 intro l
 induction l with
 |nil=>intro a h;simp only[Mk2]at h;subst h;simp[Ag]
 |cons t l ih=>
  intro a h;obtain⟨U,H,h3⟩:=h;simp only[Ag];have:KQ t (D.take a)=D.take (a+t.made.toNat):=by
   rcases H with⟨hd,h4,h5,h6,h7⟩|⟨hd0,H⟩
   ·have hd:=hd;have hm:t.made=t.l:=QW;have J:=L1 D a t.d.toNat;have tT:dD D a<=D.length-a:=Nat.min_le_right _ _;unfold KQ;rw[if_pos hd,hm];exact aiU D a t.d.toNat V h5 _ h7 V
   ·have hd:¬t.d≠0:=λh=>h hd0
    have hm:t.made=1:=Sq;unfold KQ;rw[if_neg hd,hm,H];show D.take a++[jW ((OA D a).b).toNat]=D.take (a+1);rw[zcM,zah U];simp[OA,jW,zah U]
  rw[this];exact ih _ h3
def aoP(d:P8):∀(m a:Nat),a+m=d.length->Mk2 d (lS d (aP d) m a) a:=by
 intro m
 induction m using Nat.strongRecOn with
 |_ m ih=>
  intro a hm;cases m with
  |zero=>assumption
  |succ m=>
   have avr:=wc d a V;rw[xc d m a hm];refine⟨V,?_,ih _ V _ V⟩;unfold jf;split
   ·rename_i ca;have U:=JW d a V ca;have H:=aa8 d a _ V U.2.1;simp only[R1]
    grind
   ·exact .inr ⟨rfl,rfl⟩
def asq(d:P8):adn (xO d)=d:=by
 have:=an0 d (xO d) 0 (aoP d _ 0 V);assumption
def awK(n:Nat)(pk:Bool)(h:1<=n/\n<=4096)(r:P8):dJ (vP n pk++r)=n-1+12288+(if pk then 32768 else 0):=akW n pk h r
def head_drop(n:Nat)(pk:Bool)(r:P8):(vP n pk++r).drop 2=r:=by
 rfl
def xh{u:P8}(hu:u.length=4096):fD (gM u)=(u,0)/\(gM u).length<=4096/\(gM u).length%256=0/\((gM u).length=4096->gM u=u):=by
 have hl:=Zk u V;have b_:=TF u V;have VC:=ahy _ hl;have J:=aja hl b_;have he:=asq u;unfold gM;split
 ·rename_i hz;refine⟨?_,ab,ab,ab⟩;unfold fD;have hzz:aC 4096=u:=by rw[<-hu];exact hz.symm
  rw[if_neg ab,if_pos (show([]:P8).length=0 from rfl),hzz]
 ·split
  ·rename_i hz I;generalize hbd:oR (xO u)=bd at*;have qk:=ape (vP bd.length true++bd);have hlen:(vP bd.length true++bd).length=bd.length+2:=by rw[zad,Wy];omega
   rw[hlen]at qk;have hpe:afe (vP bd.length true++bd)=vP bd.length true++(bd++aC ((-((bd.length+2:Nat):Int))%256).toNat):=by
    unfold afe;rw[hlen,zaj]
   have hv:=awK bd.length true ⟨VC,I.1⟩ (bd++aC ((-((bd.length+2:Nat):Int))%256).toNat);rw[if_pos rfl,<-hpe]at hv;have hd:=head_drop bd.length true (bd++aC ((-((bd.length+2:Nat):Int))%256).toNat);rw[<-hpe]at hd;generalize afe (vP bd.length true++bd)=s at*;have F:dJ s%4096+1=bd.length:=V;have ht:(s.drop 2).take bd.length=bd:=by rw[hd,zbm]
   have hd2:s.drop (2+bd.length)=aC (s.length-(2+bd.length)):=by
    rw[<-List.drop_drop,hd,zbn,show((-((bd.length+2:Nat):Int))%256).toNat=s.length-(2+bd.length) by omega]
   refine⟨?_,V,V,λh=>V⟩;unfold fD;rw[if_neg V,if_neg V,if_neg V,if_neg V,if_neg V,F,if_neg V,ht,J];dsimp only;rw[if_neg (λh=>h rfl),he,if_neg V,if_neg (by rintro(h|h);exact h hd2;omega)]
  ·refine⟨?_,V,V,λ_=>rfl⟩;unfold fD;rw[if_neg V,if_neg V,if_pos hu]
def x5(s:St)(i:Nat):Prop:=∃a,s.pl[i]?=some a/\a≠ -1
def VP(s:St)(f t:Int)(i:Nat):Prop:=x5 s i\/mL f t i\/mL 0 s.a.vl.length i
def Vh(s:St)(i:Nat):Prop:=x5 s i\/mL 0 s.a.vl.length i
def zrP(s:St)(f t:Int)(n:Nat)(i:Nat):Prop:=x5 s i∧¬Au f t i n
inductive aeL(s:St):PV->(Nat->Prop)->Prop where
 |write (f t:Int):aeL s (.clo 103 [.cptr (sP s),.cptr (spP f t)]) (VP s f t)
 |size:aeL s (.clo 121 [.cptr (sP s)]) (Vh s)
 |zero (f t:Int) (c:P8):aeL s (.clo 124 [.cptr (sP s),.cptr (spP f t),.cptr (.str c)]) (zrP s f t c.length)
def aw9(ps:CK)(p:Prop):Prop:=∃(s:St) (f t:Int) (i:Nat),ps=[pI i,.cptr (sP s),.cptr (spP f t)]/\(s.pl.length<=1000000/\i<=1000000)/\p=VP s f t i
def apZ:MT (ao [(104,dU adm),(105,dU Lp),(106,ah amJ)]) tS (dU aw9):=by
 rintro _ K ⟨_,⟨s,f,t,i,rfl,⟨U,H⟩,rfl⟩,Y⟩;unfold VP x5 at Y
 (repeat'((conv=>whnf);first|refine⟨_,⟨s,i,rfl,U,rfl⟩,?_⟩|refine⟨_,⟨_,_,(i:Int),rfl,V,rfl⟩,?_⟩|(refine ik ?_;first|refine dc (λ_=>?_) (λ_=>?_)|refine⟨_,⟨_,rfl,rfl⟩,?_⟩|fail)))
 all_goals exact RS
def avN(ps:CK)(p:Prop):Prop:=∃(s:St) (i:Nat),ps=[pI i,.cptr (sP s)]/\(s.pl.length<=1000000/\i<=1000000)/\p=Vh s i
def anu:MT (ao [(104,dU adm),(105,dU Lp),(106,ah amJ)]) tC (dU avN):=by
 rintro _ K ⟨_,⟨s,i,rfl,⟨U,H⟩,rfl⟩,Y⟩;unfold Vh x5 at Y
 (repeat'((conv=>whnf);first|refine⟨_,⟨s,i,rfl,U,rfl⟩,?_⟩|refine⟨_,⟨_,_,(i:Int),rfl,V,rfl⟩,?_⟩|(refine ik ?_;first|refine dc (λ_=>?_) (λ_=>?_)|refine⟨_,⟨_,rfl,rfl⟩,?_⟩|fail)))
 all_goals exact RS
def awf(ps:CK)(p:Prop):Prop:=∃(s:St) (f t:Int) (c:P8) (i:Nat),ps=[pI i,.cptr (sP s),.cptr (spP f t),.cptr (.str c)]/\(s.pl.length<=1000000/\i<=1000000)/\p=zrP s f t c.length i
def aoy:MT (ao [(104,dU adm),(125,dU aav)]) vk (dU awf):=by
 rintro _ K ⟨_,⟨s,f,t,c,i,rfl,⟨U,H⟩,rfl⟩,Y⟩;unfold zrP x5 at Y
 (repeat'((conv=>whnf);first|refine⟨_,⟨s,i,rfl,U,rfl⟩,?_⟩|refine⟨_,⟨_,_,(i:Int),_,rfl,V,rfl⟩,?_⟩|refine bR ?_|refine ec ?_|refine dc (λ_=>?_) (λ_=>?_)|fail))
 all_goals exact RS
def Bz(u:P8):List (P8):=(List.range 16).map λi=>((gM u).drop (i*256)).take 256
def qG(C:P8)(k:Nat):P8:=jK ((C.drop (4096*k)).take 4096) 4096
def pcC(C:P8)(n:Nat):List (P8):=(List.range n).flatMap λk=>Bz (qG C k)
def Wt(sp:Prop)(dt:Nat->Prop)(C:P8)(i:Nat):P8:=open Classical in if sp∧¬dt i then[]else jK ((C.drop (256*i)).take 256) 256
def aJ(s:St)(C:P8)(dt:Nat->Prop):List (P8):=
 if s.a.fl%2=1 then pcC C ((C.length+4095)/4096)else(List.range ((C.length+255)/256)).map (Wt (s.a.fl/2%2=1) dt C)
abbrev chP(C:P8)(v:Int)(c:PV):PV:=.agg [.str C,pI v,c]
def strs(l:List (P8)):CK:=l.map PV.str
def Zm{α:Type}(l:List α)(a b:Nat):cut a (min l.length (a+b)) l=(l.drop a).take b:=by
 unfold cut;by_cases h:a+b<=l.length
 ·grind
 ·rw[za1 au,za1 au]
def vK{l:P8}{n:Nat}(h:l.length<=n):(jK l n).length=n:=by
 unfold jK;rw[zad,bB];omega
def uN(C:P8)(k:Nat):(qG C k).length=4096:=vK au
def W0(u:P8):(Bz u).length=16:=by simp[Bz]
def Sd(C:P8)(n:Nat):pcC C (n+1)=pcC C n++Bz (qG C n):=by
 unfold pcC;rw[zc9];simp
def Zt(C:P8)(n:Nat):(pcC C n).length=16*n:=by
 induction n with
 |zero=>rfl
 |succ n ih=>rw[Sd,zad,W0];omega
def abk{u:P8}(h:u.length=4096):(gM u).length<=4096:=(xh h).2.1
def V0(l:List (P8)):∀c∈strs l,c.flat:=by
 intro c F;unfold strs at F;rw[zaX]at F;obtain⟨x,_,rfl⟩:=F;trivial
def Sa(ps:CK)(r:RV):Prop:=∃(s:St) (C:P8) (v:Int) (c:PV) (dt:Nat->Prop),ps=[sP s,chP C v c]/\(C.length<=40000/\aeL s c dt/\(0<=s.a.fl/\s.a.fl<=7)/\s.pl.length<=1000)/\r=.fresh 9 1 (strs (aJ s C dt))
def amu{s:St}{c:PV}{dt:Nat->Prop}(h:aeL s c dt){k:Nat}(E:s.pl.length<=1000/\k<=1000){Z:ax}{K:AV->ax->Prop}(Y:∀r:Bool,(r=true↔dt k)->K (.pv (.bool r)) Z):
 RQ (ao [(136,dU l4),(100,ah zg),(232,GV),(200,ah JJ),(202,dU Kp),(103,dU aw9),(121,dU avN),(124,dU awf)]) (.pv c) [.pv (pI k)] Z K:=by
 cases h with
 |write f t=>exact⟨_,⟨s,f,t,k,rfl,V,rfl⟩,Y⟩
 |size=>exact⟨_,⟨s,k,rfl,V,rfl⟩,Y⟩
 |zero f t c=>exact⟨_,⟨s,f,t,c,k,rfl,V,rfl⟩,Y⟩
def YT:MT (ao [(136,dU l4),(100,ah zg),(232,GV),(200,ah JJ),(202,dU Kp),(103,dU aw9),(121,dU avN),(124,dU awf)]) pH (dz true Sa):=by
 rintro _ K ⟨_,⟨s,C,v,c,dt,rfl,⟨U,H,h3,h4⟩,rfl⟩,Y⟩;unfold aJ at Y;by_cases F:s.a.fl%2=1
 ·rw[if_pos F]at Y
  (repeat'((conv=>whnf);first|(refine⟨_,⟨s,rfl,h3,rfl⟩,?_⟩)|refine ak V ?_|fail))
  refine⟨λm env Z=>∃k:Nat,(k+m=(C.length+4095)/4096)/\Z=[.box 159 [.pv (.str C),.pv (pI v),.pv c],.row 9 1 true (strs (pcC C k))]/\env=[(3,.ref 0 0 0),(5,.own 1),eN 6 ((4096*k:Nat):Int)],(C.length+4095)/4096,⟨0,V,rfl,rfl⟩,?_⟩;rintro m env Z ⟨k,E,rfl,rfl⟩;have qk:=Zt C k;by_cases aM:k<(C.length+4095)/4096
  ·have VF:=uN C k;have hpk:=abk VF;have hT:=Sd C k;have HE:cut (((4096*k:Nat):Int)).toNat (min (C.length:Int) (((4096*k:Nat):Int)+4096)).toNat C=(C.drop (4096*k)).take 4096:=by
    rw[<-Zm];congr 1;omega
   have aqJ:(C.drop (4096*k)).take 4096++aC ((4096:Int)-(((C.drop (4096*k)).take 4096).length:Nat)).toNat=qG C k:=by
    unfold qG jK;congr 2;omega
   have iX:((C.drop (4096*k)).take 4096).length<=4096:=gA;generalize hA:pcC C k=A at*;have zT:(strs A).length=A.length:=zaw _
   (repeat'((conv=>whnf);first|rw[HE]|(refine⟨_,⟨_,_,rfl,V,rfl⟩,?_⟩)|rw[aqJ]|refine⟨qG C k,rfl,V,λh=>absurd VF h,λ_=>?_⟩|refine bu V ?_|refine ak V ?_|refine U7 ?_|refine HI ?_|fail))
   generalize hU:qG C k=h1 at*;refine⟨λm' env Z=>∃i:Nat,(i+m'=16)/\Z=[.box 159 [.pv (.str C),.pv (pI v),.pv c],.row 9 1 true (strs (A++(Bz h1).take i))]/\env=[(3,.ref 0 0 0),(5,.own 1),eN 6 ((4096*k:Nat):Int),(8,.pv (.str (gM h1))),eN 39 i],16,⟨0,V,ab,rfl⟩,?_⟩;rintro m' env Z ⟨i,W,rfl,rfl⟩;have aFF:=W0 h1;by_cases atL:i<16
   ·have hT2:(Bz h1).take (i+1)=(Bz h1).take i++[((gM h1).drop (i*256)).take 256]:=by
     rw[zcM];congr 1;unfold Bz;rw[zaD,zbD atL];rfl
    have aiO:cut (min ((gM h1).length:Int) ((i:Int)*256)).toNat (min ((gM h1).length:Int) (min ((gM h1).length:Int) ((i:Int)*256)+256)).toNat (gM h1)=((gM h1).drop (i*256)).take 256:=by
     by_cases hq:i*256<=(gM h1).length
     ·rw[<-Zm];congr 1<;>omega
     ·have KI:(gM h1).drop (i*256)=[]:=zb7 V;rw[KI];unfold cut;rw[zb7 gA];simp
    have hll:(strs (A++(Bz h1).take i)).length=A.length+i:=by
     simp[strs,zal,aFF];omega
    generalize hB:A++(Bz h1).take i=B at*;generalize gM h1=Pk at*
    (repeat'((conv=>whnf);first|rw[aiO]|refine bu V ?_|refine ak V ?_|refine U7 ?_|refine aY ?_|refine HI ?_|refine zcv bJ ?_|fail))
    exact⟨m'-1,V,i+1,V,by rw[hT2,<-zaj,hB];simp[strs],rfl⟩
   ·(repeat'((conv=>whnf);first|refine bu V ?_|refine ar V ?_|fail))
    refine⟨m-1,V,k+1,V,?_,?_⟩
    ·rw[hT,za1 V]
    ·have:((4096*k:Nat):Int)+4096=((4096*(k+1):Nat):Int):=by omega
     show[(3,AV.ref 0 0 0),(5,AV.own 1),(6,AV.pv (pI (((4096*k:Nat):Int)+4096)))]=_;rw[this]
  ·(repeat'((conv=>whnf);first|refine ar V ?_|fail))
   rw[show k=(C.length+4095)/4096 by omega];exact⟨.fresh _ _ _,⟨rfl,rfl,rfl,rfl⟩,V0 _,Y⟩
 ·rw[if_neg F]at Y
  (repeat'((conv=>whnf);first|(refine⟨_,⟨s,rfl,h3,rfl⟩,?_⟩)|(refine ik ?_;first|refine ar V ?_|refine⟨_,⟨_,_,rfl,dg,rfl⟩,?_⟩|fail)))
  rw[show(C.length:Int)+256-1=((C.length+255:Nat):Int) by omega];refine⟨λm env Z=>∃k:Nat,(k+m=(C.length+255)/256)/\Z=[.box 159 [.pv (.str C),.pv (pI v),.pv c],.row 9 1 true (strs ((List.range k).map (Wt (s.a.fl/2%2=1) dt C)))]/\env=[(0,.pv (sP s)),(3,.ref 0 0 0),(5,.own 1),eN 63 (((C.length+255:Nat):Int)/256),eN 64 k],(C.length+255)/256,⟨0,V,rfl,rfl⟩,?_⟩;rintro m env Z ⟨k,E,rfl,rfl⟩;by_cases aM:k<(C.length+255)/256
  ·have hT:(List.range (k+1)).map (Wt (s.a.fl/2%2=1) dt C)=(List.range k).map (Wt (s.a.fl/2%2=1) dt C)++[Wt (s.a.fl/2%2=1) dt C k]:=by
    rw[zc9,zaY];rfl
   have HE:cut ((k:Int)*256).toNat (min (C.length:Int) (((k:Int)+1)*256)).toNat C=(C.drop (256*k)).take 256:=by
    rw[<-Zm];congr 1<;>omega
   have iX:((C.drop (256*k)).take 256).length<=256:=gA;have aqJ:(C.drop (256*k)).take 256++aC ((256:Int)-(((C.drop (256*k)).take 256).length:Nat)).toNat=jK ((C.drop (256*k)).take 256) 256:=by
    unfold jK;congr 2;omega
   have hgl:((List.range k).map (Wt (s.a.fl/2%2=1) dt C)).length=k:=ab;have hn:(s.a.fl/2%2=1∧¬dt k)->Wt (s.a.fl/2%2=1) dt C k=[]:=λh=>by unfold Wt;rw[if_pos h]
   have hp:¬(s.a.fl/2%2=1∧¬dt k)->Wt (s.a.fl/2%2=1) dt C k=jK ((C.drop (256*k)).take 256) 256:=λh=>by unfold Wt;rw[if_neg h]
   generalize hG:(List.range k).map (Wt (s.a.fl/2%2=1) dt C)=G at*;have zT:(strs G).length=G.length:=zaw _;refine ak V ?_;refine⟨_,⟨s,rfl,h3,rfl⟩,?_⟩;refine dc (λhs=>?_) (λhs=>?_)
   ·refine amu (Z:=[.box 159 [.pv (.str C),.pv (pI v),.pv c],.row 9 1 true (strs G)]) H V (λr J=>?_);cases r with
    |true=>
     have hpv:=hp (λh=>h.2 (J.1 rfl));rw[hpv]at hT;clear hn hp hpv Y H;generalize (C.drop (256*k)).take 256=P at*;refine bR ?_
     (repeat'((conv=>whnf);first|rw[HE]|(refine⟨_,⟨_,_,rfl,V,rfl⟩,?_⟩)|rw[aqJ]|refine bu V ?_|refine U7 ?_|refine aY ?_|refine HI ?_|refine zcv bJ ?_|fail))
     exact TE
    |false=>
     have hnv:=hn ⟨hs,λh=>by simpa using J.2 h⟩;rw[hnv]at hT;clear hn hp hnv Y H HE aqJ iX;refine ec ?_
     (repeat'((conv=>whnf);first|refine bu V ?_|refine aY ?_|refine zcv bJ ?_|fail))
     exact TE
   ·have hpv:=hp (λh=>hs h.1);rw[hpv]at hT;clear hn hp hpv Y H;generalize (C.drop (256*k)).take 256=P at*
    (repeat'((conv=>whnf);first|rw[HE]|(refine⟨_,⟨_,_,rfl,V,rfl⟩,?_⟩)|rw[aqJ]|refine bu V ?_|refine U7 ?_|refine aY ?_|refine HI ?_|refine zcv bJ ?_|fail))
    exact TE
  ·(repeat'((conv=>whnf);first|refine ar V ?_|fail))
   rw[show k=(C.length+255)/256 by omega];exact⟨.fresh _ _ _,⟨rfl,rfl,rfl,rfl⟩,V0 _,Y⟩
def WB:∀n:Nat,n<256->n=n/2^0%2*1+n/2^1%2*2+n/2^2%2*4+n/2^3%2*8+n/2^4%2*16+n/2^5%2*32+n/2^6%2*64+n/2^7%2*128:=by
 omega
def VY{a b:P8}(hl:a.length=b.length)(h:∀i,i<8*a.length->aU a i=aU b i):a=b:=by
 apply zbb;intro i;by_cases W:i<a.length
 case neg=>grind
 rw[zah W,zah V];congr 1;apply zdp.1;have E:∀k,k<8->a[i].toNat/2^k%2=b[i].toNat/2^k%2:=by
  intro k E;have:=h (8*i+k) V;unfold aU at this;rw[show(8*i+k)/8=i by omega]at this
  grind
 rw[WB _ a[i].toNat_lt,WB _ b[i].toNat_lt,E 0 V,E 1 V,E 2 V,E 3 V,E 4 V,E 5 V,E 6 V,E 7 V]
def Sr(f:Nat->Nat)(n:Nat):(K9 f n).length=oO n:=by simp[K9,SN,aC]
def rF{f:Nat->Nat}(hf:∀i,f i<=1)(n j:Nat):aU (K9 f n) j=if j<n then f j else 0:=by
 unfold K9;rw[acU hf n (by simp[aC,oO];omega),Hf]
def auz{B:P8}{f:Nat->Nat}{n:Nat}(hf:∀i,f i<=1)(hl:B.length=oO n)(h:∀j,j<n->aU B j=f j)(h0:∀j,n<=j->j<8*B.length->aU B j=0):B=K9 f n:=by
 apply VY (by rw[hl,Sr]);intro j hj;rw[rF hf]
 grind
def afZ{f g:Nat->Nat}{n:Nat}(hf:∀i,f i<=1)(hg:∀i,g i<=1)(h:∀i,i<n->f i=g i):K9 f n=K9 g n:=by
 apply auz hg (Sr f n)
 ·intro j hj;rw[rF hf];grind
 ·intro j hj _;rw[rF hf,if_neg V]
def HH(r:Rn)(i:Nat):Bool:=decide (r.s<=i/\(i:Int)<r.s+r.n)
def Zs(t:Nat->Bool)(s:Nat):Nat->Bool
 |0=>false
 |k+1=>Zs t s k||t (s+k)
def Tj{t:Nat->Bool}{s:Nat}:∀{k:Nat},Zs t s k=true↔∃j,s<=j/\j<s+k/\t j=true:=by
 intro k
 induction k with
 |zero=>simp[Zs];omega
 |succ k ih=>
  simp only[Zs,zbF,ih]
  grind
def aeC(l:UH)(i:Nat):Bool:=l.any λr=>HH r i
def dH(r:Rn)(l:UH):aF (r::l)=r.n+aF l:=by simp[aF]
def aj9(p:Nat->Bool):Nat->Nat
 |0=>0
 |n+1=>aj9 p n+(p n).toNat
def aky(p:Nat->Bool):∀n,aF (bf p n)=aj9 p n:=by
 intro n
 induction n with
 |zero=>rfl
 |succ n ih=>
  unfold bf aj9;cases hp:p n with
  |false=>simp[ih]
  |true=>
   simp only[if_true];rcases Pf (bf p n)with e|⟨a,r,e⟩
   ·rw[e]at ih ⊢;rw[AH,dH];grind
   ·rw[e]at ih ⊢;rw[rG];rw[pE,dH]at ih;split
    ·rw[pE,dH];grind
    ·rw[pE,pE,dH,dH];simp_all
def ajw(s:P8):∀n,(aj9 (λi=>decide ((aU s i:Int)=0)) n:Int)=n-iq s n:=by
 intro n
 induction n with
 |zero=>rfl
 |succ n ih=>
  have hle:=fV s n;by_cases h:aU s n=0
  ·have hf:decide ((aU s n:Int)=0)=true:=by grind
   simp only[aj9,iq,hf,zdq,zdo];omega
  ·have hf:decide ((aU s n:Int)=0)=false:=by grind
   simp only[aj9,iq,hf,zdq,zdo];omega
def ab0(p:Nat->Bool):∀n,(bf p n).Pairwise (λa b=>a.s+a.n<b.s)/\((∃a r,bf p n=a++[r]/\r.s+r.n=(n:Int))∨∀r∈bf p n,r.s+r.n<n):=by
 intro n
 induction n with
 |zero=>exact⟨.nil,.inr λ_ h=>bc⟩
 |succ n ih=>
  obtain⟨U,H⟩:=ih;have h0:=(jr p n).1;unfold bf;cases hp:p n with
  |false=>
   simp only[zcO,if_false];exact⟨U,.inr λr J=>by have:=h0 r J;omega⟩
  |true=>
   simp only[if_true];rcases Pf (bf p n)with e|⟨a,r,e⟩
   ·rw[e,AH];exact⟨zcZ _ _,.inl ⟨[],_,rfl,ab⟩⟩
   ·rw[e]at U H h0;rw[e,rG];rw[zcT]at U;obtain⟨h3,h4,h5⟩:=U;split
    ·rename_i he;refine⟨?_,.inl ⟨a,_,rfl,aH⟩⟩;rw[zcT];exact⟨h3,zcZ _ _,λx T y hy=>by simp at hy;subst hy;exact h5 x T r ab⟩
    ·rename_i he;have KF:∀x∈a++[r],x.s+x.n<n:=by
      rcases H with⟨a',r',e',h'⟩|H
      ·have:=List.append_inj_right' e' rfl;simp at this;subst this;exact absurd h' he
      ·exact H
     refine⟨?_,.inl ⟨a++[r],_,rfl,ab⟩⟩;rw[zcT];refine⟨?_,zcZ _ _,λx T y hy=>by simp at hy;subst hy;exact KF x T⟩;rw[zcT];exact⟨h3,h4,h5⟩
def aGE(l:UH):Int:=match l with|[]=>0|r::_=>r.s
def kP(b:Rn):UH->Rn
 |[]=>b
 |x::l=>kP (if x.n<b.n then x else b) l
def ao1{near c:Int}{r:Rn}(F:c<=r.n):r.s<=qW near c r/\qW near c r+c<=r.s+r.n:=by
 unfold qW;omega
def abi:∀{l:UH},(∀r∈l,0<=r.n)->0<=aF l:=by
 intro l
 induction l with
 |nil=>simp
 |cons y l ih=>rw[dH];grind
def afz:∀{l:UH} {c:Int},0<=c->c<=aF l->(∀r∈l,0<=r.n)->lD c l=0:=by
 intro l
 induction l with
 |nil=>intro c h0 h _;simp[aF]at h;unfold lD;omega
 |cons r l ih=>
  intro c h0 h J;have H:=abi (l:=l) λx T=>J x bP
  rw[dH]at h;unfold lD
  grind
def ast{s:P8}{n:Int}(h:0<=n):aF (k7 s n)=n-iq s n.toNat:=by
 unfold k7;have:=(aky (jF s 0) n.toNat).trans (ajw s n.toNat);omega
def akl(p:Nat->Bool):∀(n i:Nat),aeC (bf p n) i=(decide (i<n)&&p i):=by
 intro n
 induction n with
 |zero=>intro i;rfl
 |succ n ih=>
  intro i;have h0:=(jr p n).1;unfold bf;cases hp:p n with
  |false=>
   grind
  |true=>
   simp only[if_true];have main:(aeC (bf p n) i||decide (i=n))=(decide (i<n+1)&&p i):=by
    grind
   rw[<-main];rcases Pf (bf p n)with e|⟨a,r,e⟩
   ·rw[e,AH];simp only[aeC,HH,zdg,zdk,zc4,Bool.false_or]
    grind
   ·rw[e,rG];split
    ·simp only[aeC,zdr,zdg,zdk,zc4,Bool.or_assoc];simp only[HH]
     grind
    ·simp only[aeC,zdr,zdg,zdk,zc4];simp only[HH]
     grind
def P3{f:Nat->Nat}(hf:∀i,f i<=1){k:Nat}(h:k<=4096):gP (K9 f k) k=0:=by
 have hz:cM (k:Int)=0:=by unfold cM;omega
 unfold gP;rw[if_neg (λh=>h hz),if_neg,if_pos]
 ·intro i W hki;rw[rF hf,if_neg V]
 ·rw[Sr,S3 V,zaC];omega
def awP(L:UH)(r:Rn):Prop:=∃e∈L,e.s<=r.s/\r.s+r.n<=e.s+e.n/\1<=r.n
def acK:∀{S:UH} {c:Int} {r:Rn},0<=c->(∀e∈S,1<=e.n)->r∈iu c S→∃e∈S,r.s=e.s/\1<=r.n/\r.n<=e.n:=by
 intro S
 induction S with
 |nil=>intro c r _ _ h;trivial
 |cons e S ih=>
  intro c r F hS h;unfold iu at h
  grind
def af5:∀{S:UH} {c:Int},0<=c->(∀e∈S,1<=e.n)->S.Pairwise (λa b=>∀i,¬(HH a i=true/\HH b i=true))->(iu c S).Pairwise (λa b=>∀i,¬(HH a i=true/\HH b i=true)):=by
 intro S
 induction S with
 |nil=>simp[iu]
 |cons e S ih=>
  intro c F hS hp;unfold iu;by_cases h0:c=0
  ·simp_all
  ·rw[if_neg h0];obtain⟨FK,Xm⟩:=zdl.1 hp;refine zdl.2 ⟨λr J i W=>?_,ih V (λy hy=>hS y pr) Xm⟩;obtain⟨x,T,U,H,h3⟩:=acK V (λy hy=>hS y pr) J;simp only[HH,decide_eq_true_eq]at W;refine FK x T i ?_;simp only[HH,decide_eq_true_eq];omega
def am9:∀{S:UH} {c:Int},aF (iu c S)=c-lD c S:=by
 intro S
 induction S with
 |nil=>simp[iu,lD,aF]
 |cons e S ih=>
  intro c;unfold iu lD;by_cases h0:c=0
  ·simp_all
  ·rw[if_neg h0,dH]
   grind
def atb{near c:Int}:∀(l:UH) (o:Option Int) (x:Int),l.foldl (so near c) o=some x->o=some x∨∃r∈l,x=qW near c r:=by
 intro l
 induction l with
 |nil=>simp
 |cons r l ih=>
  intro o x h;rcases ih _ x h with h|⟨y,hy,e⟩
  ·unfold so at h
   grind
  grind
def acx:∀{S:UH} {c:Int},(iu c S).length<=S.length:=by
 intro S
 induction S with
 |nil=>simp[iu]
 |cons e S ih=>
  unfold iu
  grind
def ac2(l:UH):Prop:=l.Pairwise (λa b=>∀i,¬(HH a i=true/\HH b i=true))
def abu{s:P8}{n:Int}{r:Rn}(hn:0<=n)(h:awP (k7 s n) r):(0<=r.s/\1<=r.n/\r.s+r.n<=n)∧∀i,HH r i=true->aU s i=0:=by
 obtain⟨e,he,U,H,h3⟩:=h;have g:=(jr (jF s 0) n.toNat).1 e he;refine⟨V,λi W=>?_⟩;have g2:=akl (jF s 0) n.toNat i;have:aeC (k7 s n) i=true:=by
  unfold aeC;unfold HH at W ⊢
  grind
 unfold k7 at this;rw[this]at g2;simp only[Bool.true_eq,zaT,decide_eq_true_eq,jF]at g2;omega
def ajl(s:P8)(n:Int):ac2 (k7 s n):=by
 refine(ab0 (jF s 0) n.toNat).1.imp λh i W=>?_
 simp only[HH,decide_eq_true_eq]at W;omega
def afF{l m:UH}(h:l.Perm m)(hl:ac2 l):ac2 m:=by
 refine(h.pairwise_iff λ{a b} hab i W=>hab i ⟨W.2,W.1⟩).1 hl
structure Gat(s:P8)(n c:Int)(l:UH):Prop where
 rn:∀r∈l,(0<=r.s/\1<=r.n/\r.s+r.n<=n)∧∀i,HH r i=true->aU s i=0
 ap:ac2 l
 sum:aF l=c
 len:l.length<=(k7 s n).length
def anl{s:P8}{n c near:Int}(I:gP s n=0)(F:1<=c/\c<=4096)(hn:0<=near/\near<=4095):BQ s n c near=0:=by
 unfold BQ Ss;omega
def al4{s:P8}{n c:Int}{r:Rn}(h:r∈fQ c (k7 s n)):r∈k7 s n/\c<=r.n:=by
 obtain⟨U,H⟩:=zbq.1 h;refine⟨U,?_⟩;simp only[small,Bool.not_eq_true',decide_eq_false_iff_not]at H;omega
def anx{s:P8}{n c near:Int}(I:gP s n=0)(F:1<=c/\c<=4096)(hn:0<=near/\near<=4095)(h0:zM s n c near=0):Gat s n c (Df s n c near):=by
 have ha:=anl I F hn;have hn0:=(lj I).1;unfold zM at h0;unfold Df;rw[if_neg V]at h0 ⊢;cases ho:Ip s n c near with
 |some x=>
  have T:∃r∈fQ c (k7 s n),x=qW near c r:=by
   rcases atb (fQ c (k7 s n)) none x ho with h|h
   ·cases h
   omega
  obtain⟨r,J,rfl⟩:=T;obtain⟨U,H⟩:=al4 J;have iX:=ao1 (near:=near) H;have ca:1<=(k7 s n).length:=zb9.2 (List.ne_nil_of_mem U);refine⟨λq hq=>?_,?_,?_,?_⟩
  ·exact abu hn0 ⟨r,U,au,au,au⟩
  ·unfold ac2;simp
  ·simp[aF]
  omega
 |none=>
  rw[ho]at h0;simp only at h0 ⊢;rw[if_pos h0];have hS:=TU near (k7 s n);generalize Nv near (k7 s n)=S at*;have zR:∀e∈S,1<=e.n:=λe he=>by
   have:=(jr (jF s 0) n.toNat).1 e (hS.1.mem_iff.1 he);omega
  have hz:lD c S=0:=by
   unfold BH at h0;omega
  refine⟨λq hq=>?_,?_,?_,?_⟩
  ·obtain⟨e,he,U,H,h3⟩:=acK V zR hq;exact abu hn0 ⟨e,hS.1.mem_iff.1 he,V,V,V⟩
  ·exact af5 V zR (afF hS.1.symm (ajl s n))
  ·rw[am9];omega
  ·have:=acx (S:=S) (c:=c);have:=hS.1.length_eq;omega
def akd{l m:UH}(h:l.Perm m):aF l=aF m:=by
 induction h with
 |nil=>rfl
 |cons x _ ih=>rw[dH,dH,ih]
 |swap x y l=>simp only[dH];omega
 |trans _ _ U H=>omega
def asp{s:P8}{n c near:Int}(I:gP s n=0)(F:1<=c/\c<=4096)(hn:0<=near/\near<=4095)(h0:zM s n c near≠0):
 (zM s n c near=16/\aF (k7 s n)<c)\/(zM s n c near=8/\64<(k7 s n).length):=by
 have ha:=anl I F hn;unfold zM at h0 ⊢;cases ho:Ip s n c near with
 |some x=>grind
 |none=>
  rw[ho]at h0;simp only at h0 ⊢;have hS:=TU near (k7 s n);generalize Nv near (k7 s n)=S at*;have zR:∀e∈S,0<=e.n:=λe he=>by
   have:=(jr (jF s 0) n.toNat).1 e (hS.1.mem_iff.1 he);omega
  have ZZ:=by
   exact(akd hS.1).symm
  by_cases hz:lD c S=0
  ·rw[hz]at h0 ⊢;have hl:=acx (S:=S) (c:=c);have:=hS.1.length_eq;by_cases Uj:(iu c S).length<=64
   ·rw[Yb Uj]at h0;omega
   ·rw[G_ Uj];omega
  ·rw[Wh hz];by_cases aM:aF S<c
   ·omega
   ·exact absurd (afz V V zR) hz
def Y7{s:P8}{n c:Int}{l:UH}(h:Gat s n c l):((aq l).length:Int)=c/\(∀x∈aq l,(0<=x/\x<n)/\aU s x.toNat=0)/\(aq l).Nodup:=by
 have FI:∀x,x∈aq l→∃r∈l,r.s<=x/\x<r.s+r.n:=λx T=>by
  obtain⟨r,J,i,W,rfl⟩:=adj T
  grind
 refine⟨by rw[sb λr J=>by have:=(h.rn r J).1;omega];exact h.sum,λx T=>?_,?_⟩
 ·obtain⟨r,J,U,H⟩:=FI x T;have g:=h.rn r J;exact⟨V,g.2 _ (by simp only[HH,decide_eq_true_eq];omega)⟩
 ·refine List.pairwise_flatMap.2 ⟨λr J=>?_,?_⟩
  ·have g:=(h.rn r J).1;unfold jd;rw[List.pairwise_map];refine List.Pairwise.imp ?_ List.nodup_range;omega
  ·refine List.Pairwise.imp_of_mem ?_ h.ap;intro p q hp hq hpq x T y hy he;have gp:=(h.rn p hp).1;unfold jd at T hy;rw[zaX]at T hy;obtain⟨i,W,rfl⟩:=T;obtain⟨j,hj,he⟩:=hy;have W:=zbp.1 W;have hj:=zbp.1 hj;refine hpq (p.s+i).toNat ⟨?_,?_⟩<;>simp only[HH,decide_eq_true_eq]<;>omega
def gB(ps:List (P8))(i:Nat):Bool:=decide (ps[i]?.getD []≠[])
def jI(ps:List (P8))(pl:OG)(i:Nat):Int:=if gB ps i=true then pl[i]?.getD (-1)else-1
def z6(ps:List (P8))(pl:OG)(i:Nat):Bool:=gB ps i&&decide (jI ps pl i= -1)
def qj(ps:List (P8))(pl:OG):Nat->Nat
 |0=>0
 |n+1=>qj ps pl n+if z6 ps pl n=true then 1 else 0
def M5(ps:List (P8))(pl:OG):Nat->Int
 |0=>0
 |n+1=>if jI ps pl n= -1 then M5 ps pl n else jI ps pl n
def Kd(ps:List (P8))(pl:OG):OG:=cJ (jI ps pl) ps.length
def b2N(pl k1:OG)(b:Nat->Bool)(c:Nat):Bool:=if (c:Int)∈pl then decide ((c:Int)∈k1)else b c
def x7(ps:List (P8))(pl fr:OG)(i:Nat):Int:=if z6 ps pl i=true then fr[qj ps pl i]?.getD 0 else jI ps pl i
def Ut(fr:OG)(b:Nat->Bool)(c:Nat):Bool:=b c||decide ((c:Int)∈fr)
def Yr(ps:List (P8))(pl:OG):∀n,qj ps pl n<=n
 |0=>zai 0
 |n+1=>by
  have:=Yr ps pl n;unfold qj
  grind
def sq(ps:List (P8))(pl:OG)(n:Nat):qj ps pl (n+1)=qj ps pl n+if z6 ps pl n=true then 1 else 0:=rfl
def an1(ps:List (P8))(pl:OG)(n:Nat):M5 ps pl (n+1)=if jI ps pl n= -1 then M5 ps pl n else jI ps pl n:=rfl
def Ja(ps:List (P8))(pl:OG){n m:Nat}(h:n<=m):qj ps pl n<=qj ps pl m:=by
 induction h with
 |refl=>omega
 |step _ ih=>rw[sq];omega
def xq{ps:List (P8)}{pl:OG}{i:Nat}(h:jI ps pl i≠ -1):jI ps pl i∈pl:=by
 unfold jI at h ⊢
 grind
def aii{ps:List (P8)}{pl:OG}{m:Int}(h:∀a∈pl,-1<=a/\a<m)(hm:0<=m):∀n,0<=M5 ps pl n/\M5 ps pl n<=m
 |0=>⟨Int.le_refl _,hm⟩
 |n+1=>by
  show 0<=(if jI ps pl n= -1 then M5 ps pl n else jI ps pl n)/\(if jI ps pl n= -1 then M5 ps pl n else jI ps pl n)<=m;split
  ·exact aii h hm n
  ·rename_i g;have:=h _ (xq g);omega
abbrev QX(ps:List (P8)):cK:=.row 9 1 true (strs ps)
abbrev qw(b:Nat->Bool)(n:Nat):cK:=.row 4 1 true ((cJ b n).map pB)
abbrev C3(l:OG):cK:=.row 3 1 true (l.map pI)
def iT(ps:List (P8))(pl:OG):Nat:=qj ps pl ps.length
def n6(ps:List (P8))(pl:OG)(b:Nat->Bool):Nat->Bool:=b2N pl (Kd ps pl) b
def gtE(ps:List (P8))(pl:OG)(b:Nat->Bool)(n:Nat):Int:=zM (gm (cJ (n6 ps pl b) n)) n (iT ps pl) (M5 ps pl ps.length)
def gtL(ps:List (P8))(pl:OG)(b:Nat->Bool)(n:Nat):OG:=aq (Df (gm (cJ (n6 ps pl b) n)) n (iT ps pl) (M5 ps pl ps.length))
def wi(ps:List (P8))(pl:OG)(b:Nat->Bool)(n:Nat):Int:=if iT ps pl=0 then 0 else gtE ps pl b n
def mT(ps:List (P8))(pl:OG)(b:Nat->Bool)(n:Nat):OG:=if iT ps pl=0 then[]else gtL ps pl b n
def xi{l:QE}(h:l.length<=4096):gP (gm l) l.length=0∧∀i,aU (gm l) i=if i<l.length then jS (l[i]?.getD false)else 0:=
 ⟨P3 (λ_=>zp _) h,λi=>rF (λ_=>zp _) _ i⟩
def ab4(xs:XP)(Z:ax)(K:AV->ax->Prop):Prop:=∃(s:St) (ps:List (P8)) (b:Nat->Bool) (n:Nat),
 xs=[.pv (sP s),.own 0,.own 1]/\Z=[QX ps,qw b n]/\(ps.length<=1000/\s.pl.length<=1000/\n<=1000∧∀a∈s.pl,-1<=a/\a<n)/\
 (wi ps s.pl b n=0->K (.tup [.own 2,.pv (pI 0)]) [QX ps,qw (Ut (mT ps s.pl b n) (n6 ps s.pl b)) n,C3 (cJ (x7 ps s.pl (mT ps s.pl b n)) ps.length)])/\
 (wi ps s.pl b n≠0->K (.tup [.own 2,.pv (pI (wi ps s.pl b n))]) [QX ps,qw (n6 ps s.pl b) n,C3 []])
def XY:OQ (ao [(104,dU adm),(60,dU GG),(233,dU MS),(61,ah Pr),(234,Ns),(133,dz false ny)]) pJ (lZ ab4):=by
 rintro _ _ K ⟨s,ps,b,n,rfl,rfl,⟨U,H,h3,h4⟩,yd,qO⟩;have VD:(strs ps).length=ps.length:=zaw _
 (repeat'((conv=>whnf);first|refine cT λ_=>?_|fail))
 refine⟨λm env Z=>∃i:Nat,i+m=ps.length/\Z=[QX ps,qw b n,C3 (cJ (jI ps s.pl) i)]/\env=[(0,.pv (sP s)),(1,.own 0),(2,.own 1),(8,.own 2),eN 9 (qj ps s.pl i),eN 10 (M5 ps s.pl i),(21,.own 0),eN 22 ps.length,eN 23 i],ps.length,⟨0,V,rfl,by rw[VD];rfl⟩,?_⟩;rintro m env Z ⟨i,W,rfl,rfl⟩;have HM:=Yr ps s.pl i;by_cases aM:i<ps.length
 ·obtain⟨p,hp⟩:∃p,ps[i]?=some p:=⟨_,zah aM⟩
  have ca:gB ps i=decide (p≠[]):=QT;have F:=sq ps s.pl i;have J:=an1 ps s.pl i;have ht:cJ (jI ps s.pl) (i+1)=cJ (jI ps s.pl) i++[jI ps s.pl i]:=Cf;by_cases ET:p=[]
  ·subst ET;have nr:jI ps s.pl i= -1:=by unfold jI;rw[ca];rfl
   have Us:z6 ps s.pl i=false:=by unfold z6;rw[ca];rfl
   rw[Us,if_neg ai]at F;rw[nr]at J ht;rw[if_pos rfl]at J;clear yd qO;generalize hT:cJ (jI ps s.pl) i=hx at*;have hTl:hx.length=i:=by rw[<-hT];exact b8
   have axl:(hx.map pI).length=hx.length:=zaw _
   (repeat'((conv=>whnf);first|refine zcv (by(rw[VD];omega)) ?_|refine zcv Qp ?_|refine ar (p:=([]:P8)≠[]) lP ?_|refine bu V ?_|refine ak V ?_|refine ox az ?_|refine aY ?_|fail))
   refine⟨m-1,V,i+1,V,by rw[ht];simp,?_⟩;rw[F,J];rfl
  by_cases had:∃a,s.pl[i]?=some a/\a≠ -1
  ·obtain⟨a,ha,ax_⟩:=had;have nr:jI ps s.pl i=a:=by unfold jI;rw[ca,if_pos (by simpa using ET),ha];rfl
   have Us:z6 ps s.pl i=false:=by unfold z6;rw[nr];simp[ax_]
   rw[Us,if_neg ai]at F;rw[nr]at J ht;rw[if_neg ax_]at J;clear yd qO;generalize hT:cJ (jI ps s.pl) i=hx at*;have hTl:hx.length=i:=by rw[<-hT];exact b8
   have axl:(hx.map pI).length=hx.length:=zaw _
   (repeat'((conv=>whnf);first|refine zcv (by(rw[VD];omega)) ?_|refine⟨_,⟨s,i,rfl,V,rfl⟩,?_⟩|refine ak ⟨a,ha,ax_⟩ ?_|refine zcv Qp ?_|refine ak (p:=p≠[]) ET ?_|(refine ik ?_;first|refine bu V ?_|refine ak V ?_|refine ar V ?_|refine jP az ?_|refine ox az ?_|refine aY ?_|refine⟨_,⟨_,rfl,rfl⟩,?_⟩|fail)))
   refine⟨m-1,V,i+1,V,by rw[ht];simp,?_⟩;rw[F,J];rfl
  ·have nr:jI ps s.pl i= -1:=by
    unfold jI;split
    ·cases hq:s.pl[i]? with
     |none=>rfl
     |some a=>
      by_cases ha:a= -1
      ·subst ha;rfl
      ·exact absurd ⟨a,hq,ha⟩ had
    ·rfl
   have Us:z6 ps s.pl i=true:=by unfold z6;rw[ca,nr];simp[ET]
   rw[Us,if_pos rfl]at F;rw[nr]at J ht;rw[if_pos rfl]at J;clear yd qO;generalize hT:cJ (jI ps s.pl) i=hx at*;have hTl:hx.length=i:=by rw[<-hT];exact b8
   have axl:(hx.map pI).length=hx.length:=zaw _
   (repeat'((conv=>whnf);first|refine zcv (by(rw[VD];omega)) ?_|refine⟨_,⟨s,i,rfl,V,rfl⟩,?_⟩|refine ar had ?_|refine zcv Qp ?_|refine ak (p:=p≠[]) ET ?_|(refine ik ?_;first|refine bu V ?_|refine ak V ?_|refine ox az ?_|refine aY ?_|refine⟨_,⟨_,rfl,rfl⟩,?_⟩|fail)))
   refine⟨m-1,V,i+1,V,by rw[ht];simp,?_⟩;rw[F,J];rfl
 ·have W:i=ps.length:=by omega
  subst W;have KH:cJ (jI ps s.pl) ps.length=Kd ps s.pl:=rfl;have aKQ:(Kd ps s.pl).length=ps.length:=b8;rw[KH];have aKR:∀x∈Kd ps s.pl,-1<=x/\x<n:=λx T=>by
   obtain⟨k,E⟩:=iU.1 T;obtain⟨_,rfl⟩:=ack E;by_cases h:jI ps s.pl k= -1
   ·rw[h];omega
   ·exact h4 _ (xq h)
  have aBH:qj ps s.pl ps.length=iT ps s.pl:=rfl;have hnr:=aii (ps:=ps) h4 V ps.length;have nj:n6 ps s.pl b=b2N s.pl (Kd ps s.pl) b:=rfl;rw[aBH];rw[aBH]at HM
  (repeat'((conv=>whnf);first|refine ar V ?_|refine cT λ_=>?_|fail))
  refine⟨λm env Z=>∃j:Nat,j+m=s.pl.length/\Z=[QX ps,qw (b2N (s.pl.take j) (Kd ps s.pl) b) n,C3 (Kd ps s.pl)]/\env=[(1,.own 0),(2,.own 1),(8,.own 2),eN 9 (iT ps s.pl),eN 10 (M5 ps s.pl ps.length),(59,.pv (z7 s.pl)),eN 60 s.pl.length,eN 61 j],s.pl.length,⟨0,V,rfl,rfl⟩,?_⟩;rintro m env Z ⟨j,hj,rfl,rfl⟩;by_cases aM:j<s.pl.length
  ·obtain⟨a,ha⟩:∃a,s.pl[j]?=some a:=⟨_,zah aM⟩
   have ha4:=h4 a (zag ha);have htk:∀x,x∈s.pl.take (j+1)↔x∈s.pl.take j\/x=a:=λx=>by rw[zcM,ha];simp
   clear yd qO;by_cases h0:a= -1
   ·subst h0;have I:cJ (b2N (s.pl.take (j+1)) (Kd ps s.pl) b) n=cJ (b2N (s.pl.take j) (Kd ps s.pl) b) n:=j_ λc F=>by
     unfold b2N;have:((c:Int)∈s.pl.take (j+1))↔((c:Int)∈s.pl.take j):=⟨λh=>((htk _).1 h).elim id (λh=>V),λh=>(htk _).2 (.inl h)⟩
     simp only[this]
    (repeat'(refine fq ?_;first|refine bu V ?_|refine bR ?_|refine ak V ?_|refine jP az ?_|refine⟨_,⟨_,rfl,rfl⟩,?_⟩|fail))
    exact⟨m-1,V,j+1,V,by simp only[qw];rw[I],rfl⟩
   ·have fu:∀r:Bool,(r=true↔a∈Kd ps s.pl)->((cJ (b2N (s.pl.take j) (Kd ps s.pl) b) n).map pB).set a.toNat (pB r)=(cJ (b2N (s.pl.take (j+1)) (Kd ps s.pl) b) n).map pB:=λr J=>by
     rw[<-zcW,kS];congr 1;refine j_ λc F=>?_
     unfold b2N;by_cases hca:c=a.toNat
     ·have:(c:Int)=a:=by omega
      rw[if_pos hca,if_pos (by rw[htk];exact .inr this),this];cases r<;>simp_all
     ·rw[if_neg hca];have:((c:Int)∈s.pl.take (j+1))↔((c:Int)∈s.pl.take j):=⟨λh=>((htk _).1 h).elim id (λh=>V),λh=>(htk _).2 (.inl h)⟩
      simp only[this]
    (repeat'((conv=>whnf);first|refine⟨_,⟨Kd ps s.pl,a,rfl,V,rfl⟩,?_⟩|(refine ik ?_;first|refine bu V ?_|refine ec ?_|refine ak V ?_|refine ar V ?_|refine dc (λ_=>?_) (λ_=>?_)|refine jP az ?_|refine T0 V ?_|refine N9 V ?_|refine aY ?_|refine⟨_,⟨_,rfl,rfl⟩,?_⟩|fail)))
    ·rename_i x;exact⟨m-1,V,j+1,V,by simp only[qw];rw[<-fu true (by simp[x])],rfl⟩
    ·rename_i x;exact⟨m-1,V,j+1,V,by simp only[qw];rw[<-fu false (by simp[x])],rfl⟩
  have hj:j=s.pl.length:=V;subst hj;rw[zcP,<-nj];by_cases hm0:iT ps s.pl=0
  ·have Y:=yd (by unfold wi;rw[if_pos hm0]);clear yd qO;have hN:mT ps s.pl b n=[]:=by unfold mT;rw[if_pos hm0]
   have h3:cJ (Ut [] (n6 ps s.pl b)) n=cJ (n6 ps s.pl b) n:=j_ λc _=>by simp[Ut]
   have h5:cJ (x7 ps s.pl []) ps.length=Kd ps s.pl:=j_ λi W=>by
    unfold x7;rw[if_neg];intro h;have h6:=Ja ps s.pl (show i+1<=ps.length by omega);rw[sq,if_pos h]at h6;have:qj ps s.pl ps.length=0:=hm0;omega
   simp only[qw]at Y;rw[hN,h3,h5]at Y
   (repeat'((conv=>whnf);first|refine ak V ?_|refine ar V ?_|fail))
   exact Y
  have hlT:(cJ (n6 ps s.pl b) n).length=n:=b8;have Gw:=xi (l:=cJ (n6 ps s.pl b) n) V;rw[hlT]at Gw;have hml:(gm (cJ (n6 ps s.pl b) n)).length<=100000:=by
   have:=lj Gw.1;unfold vz at this;omega
  have hE:wi ps s.pl b n=gtE ps s.pl b n:=by unfold wi;rw[if_neg hm0]
  have hL:mT ps s.pl b n=gtL ps s.pl b n:=by unfold mT;rw[if_neg hm0]
  rw[hE,hL]at yd;rw[hE]at qO;have hL2:gtL ps s.pl b n=aq (Df (gm (cJ (n6 ps s.pl b) n)) n (iT ps s.pl) (M5 ps s.pl ps.length)):=rfl;have hE2:gtE ps s.pl b n=zM (gm (cJ (n6 ps s.pl b) n)) n (iT ps s.pl) (M5 ps s.pl ps.length):=rfl;have hng:M5 ps s.pl ps.length<=4095:=V;have aya:gtE ps s.pl b n=0->Gat (gm (cJ (n6 ps s.pl b) n)) n (iT ps s.pl) (Df (gm (cJ (n6 ps s.pl b) n)) n (iT ps s.pl) (M5 ps s.pl ps.length)):=λh=>anx Gw.1 V V h
  by_cases he:gtE ps s.pl b n=0
  ·have hg:=aya he;have Y:=yd he;clear yd qO aya;have hpc:=Y7 hg;rw[<-hL2]at hpc;have aed:ny [PV.sl 2 ((Df (gm (cJ (n6 ps s.pl b) n)) n (iT ps s.pl) (M5 ps s.pl ps.length)).map Rn.pv)] (.pv (z7 (gtL ps s.pl b n))):=by
    refine⟨.sl (Df (gm (cJ (n6 ps s.pl b) n)) n (iT ps s.pl) (M5 ps s.pl ps.length)),rfl,⟨?_,λr J=>?_⟩,rfl⟩
    ·have U:=acN (l:=Df (gm (cJ (n6 ps s.pl b) n)) n (iT ps s.pl) (M5 ps s.pl ps.length)) λr J=>by have:=(hg.rn r J).1;exact⟨V,V⟩
     have H:(Df (gm (cJ (n6 ps s.pl b) n)) n (iT ps s.pl) (M5 ps s.pl ps.length)).length<=aF (Df (gm (cJ (n6 ps s.pl b) n)) n (iT ps s.pl) (M5 ps s.pl ps.length)):=by
      have:∀l:UH,(∀r∈l,1<=r.n)->(l.length:Int)<=aF l:=by
       intro l
       induction l with
       |nil=>intro _;simp[aF]
       |cons r l ih=>
        intro h;rw[dH,zap];have:=ih λq hq=>h q iJ
        have:=h r ab;omega
      exact this _ λr J=>(hg.rn r J).1.2.1
     rw[hg.sum]at H;show(Df _ _ _ _).length<=1000;omega
    ·have:=(hg.rn r J).1;exact⟨V,V⟩
   have hE2:zM (gm (cJ (n6 ps s.pl b) n)) n (iT ps s.pl) (M5 ps s.pl ps.length)=0:=he
   (repeat'((conv=>whnf);first|refine ar V ?_|refine⟨_,⟨cJ (n6 ps s.pl b) n,rfl,V,rfl⟩,?_⟩|refine⟨_,n,_,_,rfl,hml,?_⟩|refine⟨_,aed,?_⟩|refine cT λ_=>?_|refine aY ?_|fail))
   generalize hF:gtL ps s.pl b n=hc at*;have aBJ:cJ (Ut (hc.take 0) (n6 ps s.pl b)) n=cJ (n6 ps s.pl b) n:=j_ λc _=>by simp[Ut]
   have ayb:cJ (λj=>if j<0 then x7 ps s.pl hc j else jI ps s.pl j) ps.length=Kd ps s.pl:=j_ λc _=>ab
   refine⟨λm env Z=>∃i:Nat,i+m=ps.length/\Z=[QX ps,qw (Ut (hc.take (qj ps s.pl i)) (n6 ps s.pl b)) n,C3 (cJ (λj=>if j<i then x7 ps s.pl hc j else jI ps s.pl j) ps.length)]/\env=[(2,.own 1),(8,.own 2),(18,.pv (z7 (hc.drop (qj ps s.pl i)))),(94,.own 0),eN 95 ps.length,eN 96 i],ps.length,⟨0,V,?_,by rw[VD];rfl⟩,?_⟩
   ·simp only[qw,C3];rw[show qj ps s.pl 0=0 from rfl,aBJ,ayb]
   rintro m env Z ⟨i,W,rfl,rfl⟩;by_cases aM:i<ps.length
   ·obtain⟨p,hp⟩:∃p,ps[i]?=some p:=⟨_,zah aM⟩
    have ca:gB ps i=decide (p≠[]):=QT;have F:=sq ps s.pl i;have aHQ:qj ps s.pl (i+1)<=iT ps s.pl:=Ja ps s.pl (show i+1<=ps.length by omega);clear Y;cases Us:z6 ps s.pl i with
    |true=>
     rw[Us,if_pos rfl]at F;have iX:qj ps s.pl i<hc.length:=V;obtain⟨x,T⟩:∃x,hc[qj ps s.pl i]?=some x:=⟨_,zah iX⟩
     have hxb:=(hpc.2.1 x (zag T)).1;have PB:x7 ps s.pl hc i=x:=by unfold x7;rw[if_pos Us,T];rfl
     have aua:=Us;unfold z6 at aua;simp only[zaT,decide_eq_true_eq]at aua;have ET:p≠[]:=by have:=aua.1;rw[ca]at this;simpa using this
     have hd:hc.drop (qj ps s.pl i)=x::hc.drop (qj ps s.pl i+1):=by
      rw[zcf iX];congr 1;rw[zah iX]at T;exact Option.some.inj T
     have htk:∀y,y∈hc.take (qj ps s.pl (i+1))↔y∈hc.take (qj ps s.pl i)\/y=x:=λy=>by rw[F,zcM,T];simp
     have aBK:((cJ (λj=>if j<i then x7 ps s.pl hc j else jI ps s.pl j) ps.length).map pI).set i (pI x)=(cJ (λj=>if j<i+1 then x7 ps s.pl hc j else jI ps s.pl j) ps.length).map pI:=by
      rw[<-zcW,kS];congr 1;refine j_ λj hj=>?_
      by_cases h:j=i
      ·subst h;rw[if_pos rfl,if_pos V,PB]
      ·rw[if_neg h];by_cases H:j<i
       ·rw[if_pos H,if_pos V]
       ·rw[if_neg H,if_neg V]
     have aBL:((cJ (Ut (hc.take (qj ps s.pl i)) (n6 ps s.pl b)) n).map pB).set x.toNat (pB true)=(cJ (Ut (hc.take (qj ps s.pl (i+1))) (n6 ps s.pl b)) n).map pB:=by
      rw[<-zcW,kS];congr 1;refine j_ λc F=>?_
      unfold Ut;by_cases h:c=x.toNat
      ·have:(c:Int)=x:=by omega
       rw[if_pos h,this];simp[htk]
      ·rw[if_neg h];have:((c:Int)∈hc.take (qj ps s.pl (i+1)))↔((c:Int)∈hc.take (qj ps s.pl i)):=⟨λh=>((htk _).1 h).elim id (λh=>V),λh=>(htk _).2 (.inl h)⟩
       simp only[this]
     have ayc:(λj=>if j<i then x7 ps s.pl hc j else jI ps s.pl j) i= -1:=by simp only[Nat.lt_irrefl,if_false];exact aua.2
     have aBM:((cJ (λj=>if j<i then x7 ps s.pl hc j else jI ps s.pl j) ps.length).map pI).length=ps.length:=by rw[zaw,b8]
     have hgT:((cJ (λj=>if j<i then x7 ps s.pl hc j else jI ps s.pl j) ps.length).map pI)[i]?=some (pI (-1)):=by rw[zaD,bw aM];exact congrArg (λz=>some (pI z)) ayc
     (repeat'((conv=>whnf);first|rw[hd]|refine⟨pI x,⟨V,rfl⟩,?_⟩|refine⟨pI x,zbO (by rw[zaw,b8];omega),?_⟩|(refine ik ?_;first|refine bu V ?_|refine ak V ?_|refine ak az ?_|refine ox az ?_|refine T0 V ?_|refine N9 V ?_|refine UF V ?_|refine aY ?_|refine⟨_,⟨_,rfl,rfl⟩,?_⟩|refine zcv bJ ?_|fail)))
     refine⟨m-1,V,i+1,V,?_,?_⟩
     ·simp only[qw,C3];rw[<-aBK,<-aBL];simp
     ·have e2:AV.pv (PV.sl 1 (cut (1:Int).toNat ((x::hc.drop (qj ps s.pl i+1)).map pI).length ((x::hc.drop (qj ps s.pl i+1)).map pI)))=.pv (z7 (hc.drop (qj ps s.pl (i+1)))):=by
       have:=aAj (x::hc.drop (qj ps s.pl i+1)) 1;rw[F];simpa using this
      simp only[<-e2];rfl
    |false=>
     rw[Us,if_neg ai]at F;have F:qj ps s.pl (i+1)=qj ps s.pl i:=F;have PB:x7 ps s.pl hc i=jI ps s.pl i:=by unfold x7;rw[Us];rfl
     have hT:cJ (λj=>if j<i+1 then x7 ps s.pl hc j else jI ps s.pl j) ps.length=cJ (λj=>if j<i then x7 ps s.pl hc j else jI ps s.pl j) ps.length:=j_ λj hj=>by
      by_cases h:j=i
      ·subst h;rw[if_pos V,if_neg V,PB]
      ·by_cases H:j<i
       ·rw[if_pos H,if_pos V]
       ·rw[if_neg H,if_neg V]
     have ayc:(λj=>if j<i then x7 ps s.pl hc j else jI ps s.pl j) i=jI ps s.pl i:=by simp only[Nat.lt_irrefl,if_false]
     have aBM:((cJ (λj=>if j<i then x7 ps s.pl hc j else jI ps s.pl j) ps.length).map pI).length=ps.length:=by rw[zaw,b8]
     have hgT:((cJ (λj=>if j<i then x7 ps s.pl hc j else jI ps s.pl j) ps.length).map pI)[((i:Nat):Int).toNat]?=some (pI (jI ps s.pl i)):=by rw[zaC,zaD,bw aM];exact congrArg (λz=>some (pI z)) ayc
     unfold z6 at Us;have hbk:¬(p≠[]/\jI ps s.pl i= -1):=λh=>by rw[ca,h.2]at Us;simp[h.1]at Us
     by_cases ET:p=[]
     ·subst ET
      (repeat'((conv=>whnf);first|refine ar (p:=([]:P8)≠[]) lP ?_|refine bu V ?_|refine ak V ?_|refine ox az ?_|refine UF V ?_|fail))
      refine⟨m-1,V,i+1,V,?_,?_⟩
      ·simp only[qw,C3];rw[hT,F]
      ·rw[F];rfl
     ·have KH:¬jI ps s.pl i= -1:=λh=>hbk ⟨ET,h⟩
      (repeat'((conv=>whnf);first|refine ak (p:=p≠[]) ET ?_|refine⟨_,hgT,?_⟩|refine ar KH ?_|(refine ik ?_;first|refine bu V ?_|refine ak V ?_|refine ox az ?_|refine N9 V ?_|refine UF V ?_|refine⟨_,⟨_,rfl,rfl⟩,?_⟩|fail)))
      refine⟨m-1,V,i+1,V,?_,?_⟩
      ·simp only[qw,C3];rw[hT,F]
      ·rw[F];rfl
   ·have W:i=ps.length:=by omega
    subst W;have hcF:qj ps s.pl ps.length=hc.length:=by have:=hpc.1;show iT ps s.pl=_;omega
    have hT:cJ (λj=>if j<ps.length then x7 ps s.pl hc j else jI ps s.pl j) ps.length=cJ (x7 ps s.pl hc) ps.length:=j_ λj hj=>if_pos hj
    rw[hcF,za1 (zai _),List.drop_of_length_le (zai _)];simp only[qw,C3]at Y ⊢;rw[hT]
    (repeat'((conv=>whnf);first|refine ar V ?_|fail))
    exact Y
  ·have Y:=qO he;clear yd qO aya;have hE2:zM (gm (cJ (n6 ps s.pl b) n)) n (iT ps s.pl) (M5 ps s.pl ps.length)≠0:=he
   (repeat'((conv=>whnf);first|refine ar V ?_|refine⟨_,⟨cJ (n6 ps s.pl b) n,rfl,V,rfl⟩,?_⟩|refine⟨_,n,_,_,rfl,hml,?_⟩|refine ak V ?_|refine cT λ_=>?_|refine aY ?_|fail))
   exact Y
def He(B:P8)(k:Nat)(p:P8):P8:=B.take (256*k)++p++B.drop (256*k+256)
def QB{B p:P8}{k:Nat}(h:(k+1)*256<=B.length)(hp:p.length=256):(He B k p).length=B.length:=by
 unfold He;grind
def N5(B:P8)(ps:List (P8))(P:Nat->Int):Nat->P8
 |0=>B
 |i+1=>if gB ps i=true then He (N5 B ps P i) (P i).toNat (ps[i]?.getD [])else N5 B ps P i
def LY(B:P8)(ps:List (P8))(P:Nat->Int)(i:Nat):N5 B ps P (i+1)=if gB ps i=true then He (N5 B ps P i) (P i).toNat (ps[i]?.getD [])else N5 B ps P i:=rfl
def aw5(ps:List (P8)):Prop:=∀p∈ps,p=[]\/p.length=256
def J7{ps:List (P8)}{i:Nat}:gB ps i=true↔∃p,ps[i]?=some p/\p≠[]:=by
 unfold gB
 grind
def H0{B:P8}{ps:List (P8)}{P:Nat->Int}(hp:aw5 ps)(hP:∀i,gB ps i=true->0<=P i/\(P i+1)*256<=B.length):∀i,(N5 B ps P i).length=B.length
 |0=>rfl
 |i+1=>by
  rw[LY];have ih:=H0 (B:=B) hp hP i;split
  ·rename_i h;have U:=hP i h;obtain⟨p,H,h3⟩:=J7.1 h;rw[QB V (by rw[H];exact(hp p (zag H)).resolve_left h3),ih]
  omega
def al5(s:St)(C:P8)(dt:Nat->Prop):aw5 (aJ s C dt):=by
 intro p hp;unfold aJ at hp;split at hp
 ·unfold pcC at hp;rw[zbB]at hp;obtain⟨k,_,hp⟩:=hp;unfold Bz at hp;rw[zaX]at hp;obtain⟨i,_,rfl⟩:=hp;have:=(xh (uN C k)).2.2.1;generalize gM (qG C k)=q at*;by_cases h:i*256<q.length
  ·grind
  simp_all
 ·rw[zaX]at hp;obtain⟨i,_,rfl⟩:=hp;unfold Wt;split
  ·simp
  ·right;exact vK au
def rv(s:St)(C:P8)(dt:Nat->Prop):(aJ s C dt).length=if s.a.fl%2=1 then 16*((C.length+4095)/4096)else(C.length+255)/256:=by
 unfold aJ;split
 ·exact Zt _ _
 ·simp
def db(d:Dk)(c:Nat):Bool:=decide (aU d.mp c=1)
def Yz(d:Dk):mrk d=cJ (db d) d.n:=rfl
def Ax(s:St)(C:P8)(dt:Nat->Prop):Nat->Int:=x7 (aJ s C dt) s.pl (mT (aJ s C dt) s.pl (db s.d) s.d.n)
def zX(s:St)(C:P8)(dt:Nat->Prop):OG:=cJ (Ax s C dt) (aJ s C dt).length
def yf(s:St)(C:P8)(v:Int)(dt:Nat->Prop):At:=
 ⟨s.a.ty,s.a.nm,s.a.id,s.a.fl,false,[],0,.sl (gT (zX s C dt)),br (zX s C dt)*256,C.length,v⟩
def zW(s:St)(C:P8)(v:Int)(dt:Nat->Prop):Int:=
 if wi (aJ s C dt) s.pl (db s.d) s.d.n≠0 then wi (aJ s C dt) s.pl (db s.d) s.d.n
 else if 64<(gT (zX s C dt)).length\/iW (yf s C v dt)≠0 then 8 else 0
def FT(s:St)(C:P8)(dt:Nat->Prop):Dk:=
 ⟨N5 s.d.aT (aJ s C dt) (Ax s C dt) (aJ s C dt).length,gm (cJ (Ut (mT (aJ s C dt) s.pl (db s.d) s.d.n) (n6 (aJ s C dt) s.pl (db s.d))) s.d.n)⟩
def zD:Dk:=⟨[],[]⟩
structure UB(s:St):Prop where
 aT:s.d.aT.length<=200000
 mp:s.d.mp.length<=1000000
 n:s.d.n<=512
 bm:gP s.d.mp s.d.n=0
 fl:0<=s.a.fl/\s.a.fl<=7
 len:s.pl.length<=128
 pl:RJ s.d.aT s.pl
 nm:s.a.nm.length<=1000000
def Ze{s:St}(h:UB s):∀a∈s.pl,-1<=a/\a<s.d.n:=λa ha=>by
 rcases h.pl a ha with h|h
 ·omega
 ·unfold Dk.n;omega
def apQ{s:St}(h:UB s){ps:List (P8)}(hl:ps.length<=1000)(hm:iT ps s.pl≠0)(he:gtE ps s.pl (db s.d) s.d.n=0):
 Gat (gm (cJ (n6 ps s.pl (db s.d)) s.d.n)) s.d.n (iT ps s.pl) (Df (gm (cJ (n6 ps s.pl (db s.d)) s.d.n)) s.d.n (iT ps s.pl) (M5 ps s.pl ps.length)):=by
 have hn:=h.n;have Gw:=xi (l:=cJ (n6 ps s.pl (db s.d)) s.d.n) nd;rw[b8]at Gw;have hnr:=aii (ps:=ps) (Ze h) V ps.length;have:=Yr ps s.pl ps.length;have aFI:iT ps s.pl=qj ps s.pl ps.length:=rfl;exact anx Gw.1 V V he
def apn{s:St}(h:UB s){ps:List (P8)}(hl:ps.length<=1000)(he:wi ps s.pl (db s.d) s.d.n=0){i:Nat}(W:i<ps.length)(hn:gB ps i=true):
 0<=x7 ps s.pl (mT ps s.pl (db s.d) s.d.n) i/\x7 ps s.pl (mT ps s.pl (db s.d) s.d.n) i<s.d.n:=by
 unfold x7;split
 ·rename_i hm;have U:qj ps s.pl (i+1)<=iT ps s.pl:=Ja ps s.pl V;rw[sq,if_pos hm]at U;unfold wi at he;unfold mT;rw[if_neg V]at he ⊢;have hg:=Y7 (apQ h hl V he);have hlen:qj ps s.pl i<(gtL ps s.pl (db s.d) s.d.n).length:=by unfold gtL;omega
  have T:=zah hlen;rw[T];exact(hg.2.1 _ (zag T)).1
 ·rename_i hm;have ca:jI ps s.pl i≠ -1:=by
   unfold z6 at hm
   grind
  have U:=Ze h _ (xq ca);omega
def ah6{Q p:P8}{k:Int}(E:0<=k/\(k+1)*256<=Q.length)(hp:p.length=256):
 (Q.map aG).take (k*256).toNat++(p.map aG).take ((Q.map aG).length-(k*256).toNat)++(Q.map aG).drop ((k*256).toNat+min (p.map aG).length ((Q.map aG).length-(k*256).toNat))=(He Q k.toNat p).map aG:=by
 unfold He;rw[zaw,zaw,hp,show(k*256).toNat=256*k.toNat by omega,show min 256 (Q.length-256*k.toNat)=256 by omega,
  za1 (l:=p.map aG) au,zaY,zaY,zc3,zc5]
def Q_(ps:CK)(r:RV):Prop:=∃(s:St) (C:P8) (v:Int) (c:PV) (dt:Nat->Prop),ps=[sP s,chP C v c]/\(UB s/\C.length<=32768/\aeL s c dt)/\
 r=.tup [.pv (if zW s C v dt=0 then FT s C dt else zD).pv,.pv (if zW s C v dt=0 then yf s C v dt else zA).pv,.pv (pI (zW s C v dt))]
def agk:MT (ao [(175,dz true Sa),(59,dz true Ay),(176,lZ ab4),(177,dz true abr),(178,ah RX),(131,ah G0),(61,ah Pr)]) rR (dz false Q_):=by
 rintro _ K ⟨_,⟨s,C,v,c,dt,rfl,⟨h,H,h3⟩,rfl⟩,Y⟩;have qk:=rv s C dt;have ET:(aJ s C dt).length<=200:=Rx;have HB:=al5 s C dt;have I:=Ze h;have aqK:=λ(he:wi (aJ s C dt) s.pl (db s.d) s.d.n=0) i W hn=>apn h (ps:=aJ s C dt) V he (i:=i) W hn
 have cI:Sa [sP s,chP C v c] (.fresh 9 1 (strs (aJ s C dt))):=⟨s,C,v,c,dt,rfl,⟨V,h3,h.fl,by have:=h.len;omega⟩,rfl⟩
 have Z0:Ay [s.d.pv] (.fresh 4 1 ((mrk s.d).map pB)):=⟨s.d,rfl,⟨by have:=h.aT;omega,h.mp,h.bm⟩,rfl⟩
 rw[Yz]at Z0;have hEd:zW s C v dt=if wi (aJ s C dt) s.pl (db s.d) s.d.n≠0 then wi (aJ s C dt) s.pl (db s.d) s.d.n else if 64<(gT (zX s C dt)).length\/iW (yf s C v dt)≠0 then 8 else 0:=rfl
 have hLd:zX s C dt=cJ (Ax s C dt) (aJ s C dt).length:=rfl;have hPd:Ax s C dt=x7 (aJ s C dt) s.pl (mT (aJ s C dt) s.pl (db s.d) s.d.n):=rfl;have hAd:yf s C v dt=⟨s.a.ty,s.a.nm,s.a.id,s.a.fl,false,[],0,.sl (gT (zX s C dt)),br (zX s C dt)*256,C.length,v⟩:=rfl;have hDd:FT s C dt=⟨N5 s.d.aT (aJ s C dt) (Ax s C dt) (aJ s C dt).length,gm (cJ (Ut (mT (aJ s C dt) s.pl (db s.d) s.d.n) (n6 (aJ s C dt) s.pl (db s.d))) s.d.n)⟩:=rfl;generalize zW s C v dt=hk at*;generalize yf s C v dt=A at*;generalize FT s C dt=D at*;generalize zX s C dt=L at*;rw[<-hPd]at aqK;have aFK:∀i,Ax s C dt i≠ -1\/Ax s C dt i= -1:=λi=>V
 generalize Ax s C dt=P at*
 (repeat'((conv=>whnf);first|refine⟨_,cI,?_⟩|refine⟨_,Z0,?_⟩|fail))
 clear cI Z0;generalize VD:aJ s C dt=ps at*;refine⟨s,ps,db s.d,s.d.n,rfl,rfl,⟨V,by have:=h.len;omega,by have:=h.n;omega,I⟩,λhe=>?_,λhe=>?_⟩
 ·rw[he,if_neg ai]at hEd;have aqK:=aqK he;rw[<-hPd,<-hLd];have hLl:L.length=ps.length:=by rw[hLd];exact b8
  have hLb:∀a∈L,-1<=a/\a<=1000000:=λa ha=>by
   obtain⟨k,E⟩:=iU.1 ha;rw[hLd]at E;obtain⟨KH,rfl⟩:=ack E;have hn:=h.n;cases ca:gB ps k with
   |true=>have:=aqK k KH ca;omega
   |false=>
    rw[hPd];unfold x7 z6 jI;rw[ca];simp
  have VF:=vE L;generalize Ut (mT ps s.pl (db s.d) s.d.n) (n6 ps s.pl (db s.d))=b at*;have aqL:G0 [A.pv] (pI (iW A)):=⟨A,rfl,by rw[hAd];exact h.nm,rfl⟩
  have hA1:A.pv=.agg [pI s.a.ty,.str s.a.nm,pI s.a.id,pI s.a.fl,pB false,.str [],pI 0,.sl 2 ((gT L).map Rn.pv),pI (br L*256),pI C.length,pI v]:=by rw[hAd];rfl
  rw[hA1]at aqL;have hby:=h.aT
  (repeat'((conv=>whnf);first|refine⟨_,⟨L,rfl,⟨V,hLb⟩,rfl⟩,?_⟩|refine⟨_,⟨L,rfl,V,rfl⟩,?_⟩|refine⟨_,aqL,?_⟩|refine bu V ?_|refine ar V ?_|refine dc (λ_=>?_) (λ_=>?_)|refine cT λ_=>?_|refine aY ?_|refine HI ?_|fail))
  ·rename_i x;have x:64<(gT L).length:=V;rw[if_pos (.inl x)]at hEd;rw[hEd,if_neg ai,if_neg ai]at Y;exact gz
  ·rename_i x;rw[if_pos (.inr x)]at hEd;rw[hEd,if_neg ai,if_neg ai]at Y;exact gz
  rename_i x0 x1 _;have x0:¬64<(gT L).length:=V;rw[if_neg (λh=>h.elim x0 x1)]at hEd;rw[hEd,if_pos rfl,if_pos rfl]at Y;clear aqL VF hLb;have avw:∀i,gB ps i=true->0<=P i/\(P i+1)*256<=s.d.aT.length:=λi W=>by
   obtain⟨p,hp,_⟩:=J7.1 W;have:=aqK i (fo hp) W;unfold Dk.n at this;omega
  have aBN:=H0 (B:=s.d.aT) (P:=P) HB avw;have zT:(strs ps).length=ps.length:=zaw _;refine⟨λm env Z=>∃i:Nat,i+m=ps.length/\
   Z=[.box 23 [.pv (.str []),.pv (.str [])],.box 31 [.pv (pI 0),.pv (.str []),.pv (pI 0),.pv (pI 0),.pv (pB false),.pv (.str []),.pv (pI 0),.pv (.nil 2),.pv (pI 0),.pv (pI 0),.pv (pI 0)],qw b s.d.n,C3 L,
    .box 31 [.pv (pI s.a.ty),.pv (.str s.a.nm),.pv (pI s.a.id),.pv (pI s.a.fl),.pv (pB false),.pv (.str []),.pv (pI 0),.own 7,.pv (pI (br L*256)),.pv (pI C.length),.pv (pI v)],
    .row 5 1 false ((N5 s.d.aT ps P i).map aG),QX ps,.row 103 2 true ((gT L).map Rn.pv)]/\
   env=[(4,.ref 0 0 0),(5,.ref 1 0 0),(8,.own 2),(9,.own 3),(11,.ref 4 0 0),(12,.own 5),(83,.own 6),eN 84 (strs ps).length,eN 85 i],ps.length,⟨0,V,rfl,rfl⟩,?_⟩
  rintro m env Z ⟨i,W,rfl,rfl⟩;have aHV:=aBN i;by_cases aM:i<ps.length
  ·obtain⟨p,hp⟩:∃p,ps[i]?=some p:=⟨_,zah aM⟩
   have ca:gB ps i=decide (p≠[]):=QT;have hT:=LY s.d.aT ps P i;rw[hp,zbE]at hT;clear Y aBN;by_cases ET:p=[]
   ·subst ET;rw[ca,if_neg ai]at hT
    (repeat'((conv=>whnf);first|refine ar (p:=([]:P8)≠[]) lP ?_|refine bu V ?_|refine ak V ?_|refine ox az ?_|refine UF V ?_|fail))
    exact⟨m-1,V,i+1,V,by rw[hT],rfl⟩
   ·have hnt:gB ps i=true:=by rw[ca];simpa using ET
    rw[hnt,if_pos rfl]at hT;have hPi:=avw i hnt;have aBO:=(HB p (zag hp)).resolve_left ET;have hgL:(L.map pI)[((i:Nat):Int).toNat]?=some (pI (P i)):=by
     rw[zaC,zaD,hLd,bw aM];rfl
    generalize hQ:N5 s.d.aT ps P i=Q at*;have hql:(Q.map aG).length=Q.length:=zaw _
    (repeat'((conv=>whnf);first|refine ak (p:=p≠[]) ET ?_|refine⟨_,hgL,?_⟩|refine Or.inr ?_|refine zcv (by rw[hql];omega) ?_|refine bu V ?_|refine ak V ?_|refine ox az ?_|refine UF V ?_|fail))
    have jH:=ah6 (Q:=Q) (p:=p) (k:=P i) V aBO;exact⟨m-1,V,i+1,V,by rw[hT,<-jH],rfl⟩
  ·have W:i=ps.length:=by omega
   subst W;rw[hDd]at Y;rw[hA1]at Y
   (repeat'((conv=>whnf);first|refine⟨_,⟨cJ b s.d.n,rfl,by rw[b8];have:=h.n;omega,rfl⟩,?_⟩|refine ar V ?_|refine BTS ?_|refine aY ?_|fail))
   exact⟨[.pv (Dk.mk _ _).pv,.pv (.agg [_,_,_,_,_,_,_,_,_,_,_]),.pv (pI _)],⟨rfl,rfl,rfl,trivial⟩,trivial,Y⟩
 ·rw[if_pos he]at hEd;rw[hEd,if_neg he,if_neg he]at Y
  (repeat'((conv=>whnf);first|refine ak he ?_|refine aY ?_|fail))
  exact gz
def Jp(ps:CK)(r:RV):Prop:=∃s:Rs,ps=[uF s]/\s.l.length<=1000000/\r=.fresh 103 2 (s.l.map Rn.pv)
def Zb:MT (ao []) cY (dz true Jp):=by
 rintro _ K ⟨_,⟨s,rfl,h,rfl⟩,Y⟩;cases s with
 |nil=>
  (conv=>whnf)
  exact⟨.fresh _ _ _,⟨rfl,rfl,rfl,rfl⟩,(λ_ h=>bc),Y⟩
 |sl l=>
  refine λr J=>?_
  cases r with
  |true=>
   have hl:l=[]:=by
    cases l with
    |nil=>rfl
    |cons x l=>exact absurd (J ab) ai
   subst hl
   (conv=>whnf)
   exact⟨.fresh _ _ _,⟨rfl,rfl,rfl,rfl⟩,(λ_ h=>bc),Y⟩
  |false=>
   have h:l.length<=1000000:=h;have FJ:(l.map Rn.pv).length=l.length:=zaw _
   (repeat'((conv=>whnf);first|refine zcv aH ?_|refine aY ?_|fail))
   exact oQ
def Wg(s:St)(C:P8)(v:Int)(dt:Nat->Prop):Int:=if s.a.rs=true/\C.length<=200 then 0 else zW s C v dt
def ZU(s:St)(C:P8)(v:Int)(dt:Nat->Prop):Dk:=if s.a.rs=true/\C.length<=200 then s.d else if zW s C v dt=0 then FT s C dt else zD
def chA(s:St)(C:P8)(v:Int)(dt:Nat->Prop):At:=if s.a.rs=true/\C.length<=200 then Hr s.a C else if zW s C v dt=0 then yf s C v dt else zA
def yO(ps:CK)(r:RV):Prop:=∃(s:St) (C:P8) (v:Int) (c:PV) (dt:Nat->Prop),ps=[sP s,chP C v c]/\(UB s/\C.length<=32768/\aeL s c dt)/\
 r=.tup [.pv (ZU s C v dt).pv,.pv (chA s C v dt).pv,.pv (pI (Wg s C v dt))]
def U4:MT (ao [(62,ah SY),(123,dz false Q_)]) nT (dz false yO):=by
 rintro _ K ⟨_,⟨s,C,v,c,dt,rfl,⟨h,H,h3⟩,rfl⟩,Y⟩;have cI:Q_ [sP s,chP C v c] _:=⟨s,C,v,c,dt,rfl,⟨h,H,h3⟩,rfl⟩
 unfold Wg ZU chA at Y;cases fx:s.a.rs with
 |true=>
  by_cases hl:C.length<=200
  ·rw[if_pos ⟨fx,hl⟩,if_pos ⟨fx,hl⟩,if_pos ⟨fx,hl⟩]at Y
   (repeat'((conv=>whnf);first|refine Gq ?_|refine arZ fx ?_|(refine ik ?_;first|refine ak V ?_|refine⟨_,⟨_,_,rfl,rfl⟩,?_⟩|fail)))
   exact⟨[.pv s.d.pv,.pv (Hr s.a C).pv,.pv (pI _)],⟨rfl,rfl,rfl,trivial⟩,trivial,Y⟩
  ·have hn:¬(s.a.rs=true/\C.length<=200):=λh=>hl h.2
   rw[if_neg hn,if_neg hn,if_neg hn]at Y
   (repeat'((conv=>whnf);first|refine arZ fx ?_|refine⟨_,cI,?_⟩|refine ar V ?_|refine aY ?_|fail))
   exact CC
 |false=>
  have hn:¬(s.a.rs=true/\C.length<=200):=λh=>by rw[fx]at h;exact absurd h.1 ai
  rw[if_neg hn,if_neg hn,if_neg hn]at Y
  (repeat'((conv=>whnf);first|refine avS fx ?_|refine⟨_,cI,?_⟩|refine aY ?_|fail))
  exact CC
def D8(d:Dk):Prop:=d.aT.length<=200000/\d.mp.length<=1000000
def DM{d:Dk}(h:D8 d):dkB d:=⟨by have:=h.1;omega,h.2⟩
def al3.st{d:Dk}{a:At}(h:al3 d a)(hd:D8 d)(hn:a.nm.length<=1000000):UB (aj d a):=
 ⟨hd.1,hd.2,h.nb,h.bm,⟨h.fl.1,by show a.fl<=7;have:=h.fl.2;omega⟩,h.len,h.pl,hn⟩
def ZN(C:P8)(p:Nat)(dat:P8):P8:=(jK C (p+dat.length)).take p++dat++(jK C (p+dat.length)).drop (p+dat.length)
def sQ(d:Dk)(a:At)(p:Int)(dat:P8):Int:=if aI d a≠0 then aI d a else if ¬fP p then 2 else if 32768-p<dat.length then 8 else 0
def NX(d:Dk)(a:At)(p:Int)(dat:P8):Int:=
 if sQ d a p dat≠0 then sQ d a p dat else if dat=[]then 0
 else Wg (aj d a) (ZN (ba (aj d a)) p.toNat dat) (max (dh a) (p+dat.length)) (VP (aj d a) p (p+dat.length))
def Uo(d:Dk)(a:At)(p:Int)(dat:P8):Dk:=
 if sQ d a p dat≠0 then zD else if dat=[]then d
 else ZU (aj d a) (ZN (ba (aj d a)) p.toNat dat) (max (dh a) (p+dat.length)) (VP (aj d a) p (p+dat.length))
def QN(d:Dk)(a:At)(p:Int)(dat:P8):At:=
 if sQ d a p dat≠0 then zA else if dat=[]then{ a with rn:=.sl a.rn.l }
 else chA (aj d a) (ZN (ba (aj d a)) p.toNat dat) (max (dh a) (p+dat.length)) (VP (aj d a) p (p+dat.length))
def Tg{e:Int}{l:OG}(h:e≠0):aZ (0::e::l)≠0:=D3
def z0:¬(0:Int)≠0:=ai
def z2:(2:Int)≠0:=ai
def z8:(8:Int)≠0:=ai
def n0:([]:P8)=[]:=rfl
def Jh(C:P8)(p:Nat)(dat:P8):(ZN C p dat).length=max C.length (p+dat.length):=by
 have:(jK C (p+dat.length)).length=max C.length (p+dat.length):=by unfold jK;rw[zad,bB];omega
 unfold ZN;simp only[zad,zal,zay,this];omega
def Mc(ps:CK)(r:RV):Prop:=∃(d:Dk) (a:At) (p:Int) (dat:P8),ps=[d.pv,a.pv,pI p,.str dat]/\(D8 d/\a.nm.length<=1000000/\a.rn.l.length<=1000000/\dat.length<=1000000)/\
 r=.tup [.pv (Uo d a p dat).pv,.pv (QN d a p dat).pv,.pv (pI (NX d a p dat))]
def UG:MT (ao [(58,xd),(98,dU vS),(97,ah bF),(96,ah dn),(99,dz true Jp),(94,ah qP),(100,ah zg),(102,ah Xu),(101,dz false yO)]) zl (dz false Mc):=by
 rintro _ K ⟨_,⟨d,a,p,dat,rfl,⟨U,H,h3,h4⟩,rfl⟩,Y⟩;refine⟨d,a,rfl,⟨DM U,H⟩,λh=>?_,λh v hv=>?_⟩
 ·have pQ:=(aL h).1;have iX:=Dp pQ;have cI:=DO pQ (DM U);have fu:=pQ.st U H;by_cases Eh:0<=p/\p<=32768
  ·by_cases hlg:(dat.length:Int)<=32768-p
   ·have he:sQ d a p dat=0:=by unfold sQ fP;rw[if_neg (λe=>e h),if_neg (λe=>e Eh),if_neg V]
    unfold NX Uo QN at Y;rw[he,if_neg z0,if_neg z0,if_neg z0]at Y;by_cases hd0:dat=[]
    ·subst hd0;rw[if_pos n0,if_pos n0,if_pos n0]at Y
     (repeat'((conv=>whnf);first|refine ak Eh ?_|refine Gq ?_|refine ak (p:=([]:P8)=[]) rfl ?_|refine⟨_,⟨a.rn,rfl,h3,rfl⟩,?_⟩|(refine ik ?_;first|refine bu V ?_|refine ak V ?_|refine ar ai ?_|refine⟨_,⟨_,rfl,rfl⟩,?_⟩|refine⟨_,⟨_,_,rfl,rfl⟩,?_⟩|refine⟨_,⟨[_,_,_],rfl,rfl⟩,?_⟩|fail)))
     exact⟨[.pv d.pv,.pv (At.pv { a with rn:=.sl a.rn.l }),.pv (pI _)],⟨rfl,rfl,rfl,trivial⟩,trivial,Y⟩
    ·rw[if_neg hd0,if_neg hd0,if_neg hd0]at Y;have FM:yO [sP (aj d a),chP (ZN (ba (aj d a)) p.toNat dat) (max (dh a) (p+dat.length)) (.clo 103 [.cptr (sP (aj d a)),.cptr (spP p (p+dat.length))])] _:=
      ⟨aj d a,_,_,_,_,rfl,⟨fu,by rw[Jh];omega,.write p (p+dat.length)⟩,rfl⟩
     have aqM:ba (aj d a)++aC (p+dat.length-(ba (aj d a)).length).toNat=jK (ba (aj d a)) (p.toNat+dat.length):=by
      unfold jK;congr 2;omega
     unfold ZN at Y FM;have hzl:(jK (ba (aj d a)) (p.toNat+dat.length)).length<=32768/\p.toNat+dat.length<=(jK (ba (aj d a)) (p.toNat+dat.length)).length:=by
      unfold jK;rw[zad,bB];omega
     generalize ba (aj d a)=C0 at*;generalize jK C0 (p.toNat+dat.length)=σ at*;have ZW:cut 0 p.toNat σ=σ.take p.toNat:=Qe;have HO:cut (p+dat.length).toNat σ.length σ=σ.drop (p.toNat+dat.length):=by unfold cut;rw[zcP];congr 1;omega
     have VH:(σ.take p.toNat).length<=32768:=gA;have FL:(σ.drop (p.toNat+dat.length)).length<=32768:=gx
     (repeat'((conv=>whnf);first|refine ak Eh ?_|refine Gq ?_|refine ar hd0 ?_|refine⟨_,cI,?_⟩|rw[aqM]|rw[ZW]|rw[HO]|refine zcv (by(simp only[zad];omega)) ?_|refine⟨_,FM,?_⟩|(refine ik ?_;first|refine bu V ?_|refine ak V ?_|refine ar ai ?_|refine MAX ?_|refine⟨_,⟨_,rfl,rfl⟩,?_⟩|refine⟨_,⟨_,_,rfl,rfl⟩,?_⟩|refine⟨_,⟨_,_,rfl,dg,rfl⟩,?_⟩|refine HI ?_|refine⟨_,⟨[_,_,_],rfl,rfl⟩,?_⟩|fail)))
     exact CC
   ·have he:sQ d a p dat=8:=by unfold sQ fP;rw[if_neg (λe=>e h),if_neg (λe=>e Eh),if_pos V]
    unfold NX Uo QN at Y;rw[he,if_pos z8,if_pos z8,if_pos z8]at Y
    (repeat'((conv=>whnf);first|refine ak Eh ?_|(refine ik ?_;first|refine bu V ?_|refine ar V ?_|refine ak ai ?_|refine aY ?_|refine⟨_,⟨_,rfl,rfl⟩,?_⟩|refine⟨_,⟨_,_,rfl,rfl⟩,?_⟩|refine⟨_,⟨[_,_,_],rfl,rfl⟩,?_⟩|fail)))
    exact gz
  ·have he:sQ d a p dat=2:=by unfold sQ fP;rw[if_neg (λe=>e h),if_pos Eh]
   unfold NX Uo QN at Y;rw[he,if_pos z2,if_pos z2,if_pos z2]at Y
   (repeat'((conv=>whnf);first|refine ar Eh ?_|refine ak (Tg ai) ?_|refine λx _=>?_|(refine ik ?_;first|refine aY ?_|refine⟨_,⟨_,rfl,rfl⟩,?_⟩|refine⟨_,⟨_,_,rfl,rfl⟩,?_⟩|refine⟨_,⟨[_,_,_],rfl,rfl⟩,?_⟩|fail)))
   exact gz
 ·have he:sQ d a p dat=aI d a:=by unfold sQ;rw[if_pos h]
  unfold NX Uo QN at Y;rw[he,if_pos h,if_pos h,if_pos h]at Y;clear he;rcases hv with rfl|rfl
  ·(repeat'((conv=>whnf);first|refine ak DN ?_|refine λx _=>?_|(refine ik ?_;first|refine aY ?_|refine⟨_,⟨_,rfl,rfl⟩,?_⟩|refine⟨_,⟨_,_,rfl,rfl⟩,?_⟩|refine⟨_,⟨[_,_,_],rfl,rfl⟩,?_⟩|fail)))
   rw[l5 h];exact gz
  ·(repeat'((conv=>whnf);first|refine ak DN ?_|refine λx _=>?_|(refine ik ?_;first|refine aY ?_|refine⟨_,⟨_,rfl,rfl⟩,?_⟩|refine⟨_,⟨_,_,rfl,rfl⟩,?_⟩|refine⟨_,⟨[_,_,_],rfl,rfl⟩,?_⟩|fail)))
   rw[l5 h];exact gz
def U3(C:P8)(n:Nat):P8:=(jK C n).take n
def IG(C:P8)(n:Nat):(U3 C n).length=n:=by
 unfold U3 jK;rw[zal,zad,bB];omega
def x9(d:Dk)(a:At)(n:Int):Int:=if aI d a≠0 then aI d a else if ¬fP n then 2 else 0
def VN(d:Dk)(a:At)(n:Int):Int:=if x9 d a n≠0 then x9 d a n else Wg (aj d a) (U3 (ba (aj d a)) n.toNat) (min (dh a) n) (Vh (aj d a))
def szD(d:Dk)(a:At)(n:Int):Dk:=if x9 d a n≠0 then zD else ZU (aj d a) (U3 (ba (aj d a)) n.toNat) (min (dh a) n) (Vh (aj d a))
def szA(d:Dk)(a:At)(n:Int):At:=if x9 d a n≠0 then zA else chA (aj d a) (U3 (ba (aj d a)) n.toNat) (min (dh a) n) (Vh (aj d a))
def Mx(ps:CK)(r:RV):Prop:=∃(d:Dk) (a:At) (n:Int),ps=[d.pv,a.pv,pI n]/\(D8 d/\a.nm.length<=1000000)/\
 r=.tup [.pv (szD d a n).pv,.pv (szA d a n).pv,.pv (pI (VN d a n))]
def NN:MT (ao [(58,xd),(98,dU vS),(97,ah bF),(96,ah dn),(94,ah qP),(100,ah zg),(102,ah Xu),(101,dz false yO)]) yL (dz false Mx):=by
 rintro _ K ⟨_,⟨d,a,n,rfl,⟨U,H⟩,rfl⟩,Y⟩;refine⟨d,a,rfl,⟨DM U,H⟩,λh=>?_,λh v hv=>?_⟩
 ·have pQ:=(aL h).1;have iX:=Dp pQ;have cI:=DO pQ (DM U);have fu:=pQ.st U H;by_cases Eh:0<=n/\n<=32768
  ·have he:x9 d a n=0:=by unfold x9 fP;rw[if_neg (λe=>e h),if_neg (λe=>e Eh)]
   unfold VN szD szA at Y;rw[he,if_neg z0,if_neg z0,if_neg z0]at Y;have FM:yO [sP (aj d a),chP (U3 (ba (aj d a)) n.toNat) (min (dh a) n) (.clo 121 [.cptr (sP (aj d a))])] _:=
    ⟨aj d a,_,_,_,_,rfl,⟨fu,by rw[IG];omega,.size⟩,rfl⟩
   have aqM:ba (aj d a)++aC (n-(ba (aj d a)).length).toNat=jK (ba (aj d a)) n.toNat:=by
    unfold jK;congr 2;omega
   unfold U3 at Y FM;have hzl:(jK (ba (aj d a)) n.toNat).length<=32768/\n.toNat<=(jK (ba (aj d a)) n.toNat).length:=by
    unfold jK;rw[zad,bB];omega
   generalize ba (aj d a)=C0 at*;generalize jK C0 n.toNat=σ at*;have ZW:cut 0 n.toNat σ=σ.take n.toNat:=Qe
   (repeat'((conv=>whnf);first|refine ak Eh ?_|refine Gq ?_|refine⟨_,cI,?_⟩|rw[aqM]|rw[ZW]|refine⟨_,FM,?_⟩|(refine ik ?_;first|refine ar ai ?_|refine U7 ?_|refine⟨_,⟨_,rfl,rfl⟩,?_⟩|refine⟨_,⟨_,_,rfl,rfl⟩,?_⟩|refine⟨_,⟨_,_,rfl,dg,rfl⟩,?_⟩|refine HI ?_|refine⟨_,⟨[_,_],rfl,rfl⟩,?_⟩|fail)))
   exact CC
  ·have he:x9 d a n=2:=by unfold x9 fP;rw[if_neg (λe=>e h),if_pos Eh]
   unfold VN szD szA at Y;rw[he,if_pos z2,if_pos z2,if_pos z2]at Y
   (repeat'((conv=>whnf);first|refine ar Eh ?_|(refine ik ?_;first|refine ak ai ?_|refine aY ?_|refine⟨_,⟨_,rfl,rfl⟩,?_⟩|refine⟨_,⟨_,_,rfl,rfl⟩,?_⟩|refine⟨_,⟨[_,_],rfl,rfl⟩,?_⟩|fail)))
   exact gz
 ·have he:x9 d a n=aI d a:=by unfold x9;rw[if_pos h]
  unfold VN szD szA at Y;rw[he,if_pos h,if_pos h,if_pos h]at Y;clear he;rcases hv with rfl|rfl
  all_goals
   (repeat'((conv=>whnf);first|refine ak DN ?_|refine λx _=>?_|(refine ik ?_;first|refine aY ?_|refine⟨_,⟨_,rfl,rfl⟩,?_⟩|refine⟨_,⟨_,_,rfl,rfl⟩,?_⟩|refine⟨_,⟨[_,_],rfl,rfl⟩,?_⟩|fail)))
   rw[l5 h];exact gz
def zrC(C:P8)(f t:Nat):P8:=C.take f++aC (t-f)++C.drop t
def X6(C:P8)(p:Int):Int:=min p C.length
def Z2(C:P8)(p n:Int):Int:=min C.length (X6 C p+n)
def wJ(d:Dk)(a:At)(p n:Int):Int:=if aI d a≠0 then aI d a else if ¬(fP p/\fP n)then 2 else 0
def HJ(d:Dk)(a:At)(p n:Int):P8:=zrC (ba (aj d a)) (X6 (ba (aj d a)) p).toNat (Z2 (ba (aj d a)) p n).toNat
def UC(d:Dk)(a:At)(p n:Int):Nat->Prop:=zrP (aj d a) (X6 (ba (aj d a)) p) (Z2 (ba (aj d a)) p n) (HJ d a p n).length
def WS(d:Dk)(a:At)(p n:Int):Int:=if wJ d a p n≠0 then wJ d a p n else if a.rs=true then 0 else zW (aj d a) (HJ d a p n) a.vd (UC d a p n)
def zrD(d:Dk)(a:At)(p n:Int):Dk:=if wJ d a p n≠0 then zD else if a.rs=true then d else if zW (aj d a) (HJ d a p n) a.vd (UC d a p n)=0 then FT (aj d a) (HJ d a p n) (UC d a p n)else zD
def zrA(d:Dk)(a:At)(p n:Int):At:=if wJ d a p n≠0 then zA else if a.rs=true then Hr a (HJ d a p n)else if zW (aj d a) (HJ d a p n) a.vd (UC d a p n)=0 then yf (aj d a) (HJ d a p n) a.vd (UC d a p n)else zA
def O8{C:P8}{f t:Nat}(h:f<=t/\t<=C.length):(zrC C f t).length=C.length:=by
 unfold zrC;simp only[zad,zal,zay,bB];omega
def Rq(ps:CK)(r:RV):Prop:=∃(d:Dk) (a:At) (p n:Int),ps=[d.pv,a.pv,pI p,pI n]/\(D8 d/\a.nm.length<=1000000)/\
 r=.tup [.pv (zrD d a p n).pv,.pv (zrA d a p n).pv,.pv (pI (WS d a p n))]
def Rb:MT (ao [(58,xd),(98,dU vS),(97,ah bF),(96,ah dn),(94,ah qP),(122,ah CE),(62,ah SY),(123,dz false Q_)]) Bn (dz false Rq):=by
 rintro _ K ⟨_,⟨d,a,p,n,rfl,⟨U,H⟩,rfl⟩,Y⟩;refine⟨d,a,rfl,⟨DM U,H⟩,λh=>?_,λh v hv=>?_⟩
 ·have pQ:=(aL h).1;have iX:=Dp pQ;have cI:=DO pQ (DM U);have fu:=pQ.st U H;by_cases Eh:(0<=p/\p<=32768)/\(0<=n/\n<=32768)
  ·have he:wJ d a p n=0:=by unfold wJ fP;rw[if_neg (λe=>e h),if_neg (λe=>e Eh)]
   obtain⟨hp,hn⟩:=Eh;unfold WS zrD zrA at Y;rw[he,if_neg z0,if_neg z0,if_neg z0]at Y;have hN:HJ d a p n=zrC (ba (aj d a)) (X6 (ba (aj d a)) p).toNat (Z2 (ba (aj d a)) p n).toNat:=rfl;have hQ:UC d a p n=zrP (aj d a) (X6 (ba (aj d a)) p) (Z2 (ba (aj d a)) p n) (HJ d a p n).length:=rfl;have hnl:(HJ d a p n).length=(ba (aj d a)).length:=by rw[hN];exact O8 (by unfold Z2 X6;omega)
   have Pz:Q_ [sP (aj d a),chP (HJ d a p n) a.vd (.clo 124 [.cptr (sP (aj d a)),.cptr (spP (X6 (ba (aj d a)) p) (Z2 (ba (aj d a)) p n)),.cptr (.str (HJ d a p n))])] _:=
    ⟨aj d a,_,_,_,_,rfl,⟨fu,V,.zero (X6 (ba (aj d a)) p) (Z2 (ba (aj d a)) p n) (HJ d a p n)⟩,rfl⟩
   rw[<-hQ]at Pz;generalize UC d a p n=Qd at*;unfold X6 Z2 X6 zrC at*;generalize HJ d a p n=N at*;generalize ba (aj d a)=C0 at*;have ZW:cut 0 (min p (C0.length:Int)).toNat C0=C0.take (min p (C0.length:Int)).toNat:=Qe;have HO:cut (min (C0.length:Int) (min p (C0.length:Int)+n)).toNat C0.length C0=C0.drop (min (C0.length:Int) (min p (C0.length:Int)+n)).toNat:=by unfold cut;rw[zcP]
   have hNc:C0.take (min p (C0.length:Int)).toNat++aC (min (C0.length:Int) (min p (C0.length:Int)+n)-min p (C0.length:Int)).toNat++C0.drop (min (C0.length:Int) (min p (C0.length:Int)+n)).toNat=N:=by
    rw[hN];congr 3;omega
   cases fx:a.rs with
   |true=>
    rw[if_pos fx,if_pos fx,if_pos fx]at Y
    (repeat'((conv=>whnf);first|refine ak hp ?_|refine ak hn ?_|refine Gq ?_|refine⟨_,cI,?_⟩|rw[ZW]|rw[HO]|refine zcv ac_ ?_|rw[hNc]|refine arZ fx ?_|refine⟨_,⟨aj d a,N,rfl,rfl⟩,?_⟩|(refine ik ?_;first|refine bu V ?_|refine ar ai ?_|refine U7 ?_|refine⟨_,⟨_,rfl,rfl⟩,?_⟩|refine⟨_,⟨_,_,rfl,rfl⟩,?_⟩|refine⟨_,⟨_,rfl,dg,rfl⟩,?_⟩|refine HI ?_|refine⟨_,⟨[_,_],rfl,rfl⟩,?_⟩|fail)))
    exact⟨[.pv d.pv,.pv (Hr a N).pv,.pv (pI _)],⟨rfl,rfl,rfl,trivial⟩,trivial,Y⟩
   |false=>
    have hnr:¬a.rs=true:=lI;rw[if_neg hnr,if_neg hnr,if_neg hnr]at Y
    (repeat'((conv=>whnf);first|refine ak hp ?_|refine ak hn ?_|refine Gq ?_|refine⟨_,cI,?_⟩|rw[ZW]|rw[HO]|refine zcv ac_ ?_|rw[hNc]|refine avS fx ?_|refine⟨_,Pz,?_⟩|(refine ik ?_;first|refine bu V ?_|refine ar ai ?_|refine U7 ?_|refine⟨_,⟨_,rfl,rfl⟩,?_⟩|refine⟨_,⟨_,_,rfl,rfl⟩,?_⟩|refine⟨_,⟨_,rfl,dg,rfl⟩,?_⟩|refine HI ?_|refine⟨_,⟨[_,_],rfl,rfl⟩,?_⟩|fail)))
    exact CC
  ·have he:wJ d a p n=2:=by unfold wJ fP;rw[if_neg (λe=>e h),if_pos Eh]
   unfold WS zrD zrA at Y;rw[he,if_pos z2,if_pos z2,if_pos z2]at Y;by_cases hp:0<=p/\p<=32768
   ·have hn:¬(0<=n/\n<=32768):=λhn=>Eh ⟨hp,hn⟩
    (repeat'((conv=>whnf);first|refine ak hp ?_|refine ar hn ?_|(refine ik ?_;first|refine ak ai ?_|refine aY ?_|refine⟨_,⟨_,rfl,rfl⟩,?_⟩|refine⟨_,⟨_,_,rfl,rfl⟩,?_⟩|refine⟨_,⟨[_,_],rfl,rfl⟩,?_⟩|fail)))
    exact gz
   ·(repeat'((conv=>whnf);first|refine ar hp ?_|(refine ik ?_;first|refine ak ai ?_|refine aY ?_|refine⟨_,⟨_,rfl,rfl⟩,?_⟩|refine⟨_,⟨_,_,rfl,rfl⟩,?_⟩|refine⟨_,⟨[_,_],rfl,rfl⟩,?_⟩|fail)))
    exact gz
 ·have he:wJ d a p n=aI d a:=by unfold wJ;rw[if_pos h]
  unfold WS zrD zrA at Y;rw[he,if_pos h,if_pos h,if_pos h]at Y;clear he;rcases hv with rfl|rfl
  all_goals
   (repeat'((conv=>whnf);first|refine ak DN ?_|(refine ik ?_;first|refine dc (λ_=>?_) (λ_=>?_)|refine aY ?_|refine⟨_,⟨_,rfl,rfl⟩,?_⟩|refine⟨_,⟨_,_,rfl,rfl⟩,?_⟩|refine⟨_,⟨[_,_],rfl,rfl⟩,?_⟩|fail)))
   all_goals
    rw[l5 h];exact gz
def FY(pl:OG)(i:Nat):Bool:=decide (pl[i]?.getD (-1)≠ -1)
def daE(a:At):Int:=if iW a≠0 then iW a else if a.rs=true then 20 else 0
def O0(a:At):UH:=if daE a=0 then bf (FY (aq a.rn.l)) (aq a.rn.l).length else[]
def Rv(ps:CK)(r:RV):Prop:=∃a:At,ps=[a.pv]/\a.nm.length<=1000000/\r=.tup [.fresh 103 2 ((O0 a).map Rn.pv),.pv (pI (daE a))]
def ahz{a:At}(h:iW a=0):dv a.rn.l=0:=by
 have g:=O3 h;cases J:a.rs with
 |true=>
  have e:a.rn.l=[]:=by simpa using(g.rs J).1
  rw[e];rfl
 |false=>exact(g.ot J).2.2.2.1
def aoT{s:Rs}(h:dv s.l=0):ny [uF s] (.pv (z7 (aq s.l))):=by
 have gr:=bz h;exact⟨s,rfl,⟨V,λr J=>acw⟩,rfl⟩
def auS{l:UH}(h:dv l=0):(aq l).length<=4096∧∀x∈aq l,-1<=x/\x<=511:=by
 have g:=bz h;have U:=sb (l:=l) λr J=>by have:=pM (g.2.2.2 r J);omega
 exact⟨V,amv g.2.2.2⟩
def ZA:MT (ao [(131,ah G0),(97,ah bF),(96,ah dn),(133,dz false ny),(60,dU GG)]) Bw (dz true Rv):=by
 rintro _ K ⟨_,⟨a,rfl,h,rfl⟩,Y⟩;by_cases he:iW a=0
 ·cases fx:a.rs with
  |true=>
   have H:daE a=20:=by unfold daE;rw[if_neg (λe=>e he),if_pos fx]
   unfold O0 at Y;rw[H,if_neg ai]at Y
   (repeat'((conv=>whnf);first|refine Gq ?_|(refine⟨_,⟨a,rfl,h,rfl⟩,?_⟩)|refine ar (p:=a.rs=false) lI ?_|rw[he]|refine ak (Tg ai) ?_|(refine ik ?_;first|refine⟨_,⟨_,_,rfl,rfl⟩,?_⟩|refine⟨_,⟨[_,_],rfl,rfl⟩,?_⟩|fail)))
   exact SE
  |false=>
   have H:daE a=0:=by unfold daE;rw[if_neg (λe=>e he),if_neg lI]
   unfold O0 at Y;rw[H,if_pos rfl]at Y;have hpa:=aoT (ahz he);have ET:=auS (ahz he)
   (repeat'((conv=>whnf);first|refine Gq ?_|(refine⟨_,⟨a,rfl,h,rfl⟩,?_⟩)|refine ak (p:=a.rs=false) fx ?_|refine⟨_,hpa,?_⟩|rw[he]|(refine ik ?_;first|refine ar ai ?_|refine cT λ_=>?_|refine⟨_,⟨_,_,rfl,rfl⟩,?_⟩|refine⟨_,⟨[_,_],rfl,rfl⟩,?_⟩|fail)))
   generalize aq a.rn.l=PL at*;refine⟨λm env Z=>∃i:Nat,i+m=PL.length/\Z=[.row 103 2 true (te (FY PL) i)]/\env=[(5,.own 0),(22,.pv (z7 PL)),eN 23 PL.length,eN 24 i],PL.length,⟨0,V,rfl,rfl⟩,?_⟩;rintro m env Z ⟨i,W,rfl,rfl⟩;obtain⟨J,hl,_⟩:=jr (FY PL) i;by_cases aM:i<PL.length
   ·obtain⟨x,T⟩:∃x,PL[i]?=some x:=⟨_,zah aM⟩
    have hxh:FY PL i=decide (x≠ -1):=by unfold FY;rw[T];rfl
    clear Y;have Xo:(te (FY PL) i).length=(bf (FY PL) i).length:=zaw _;by_cases h0:x= -1
    ·subst h0;have hpf:FY PL i=false:=by rw[hxh];decide
     (repeat'(refine fq ?_;first|refine bu V ?_|refine ak V ?_|refine cT λ_=>?_|refine jP az ?_|refine⟨_,⟨_,rfl,rfl⟩,?_⟩|fail))
     exact⟨m-1,V,i+1,V,by unfold te;rw[ahK hpf],rfl⟩
    ·have hpt:FY PL i=true:=by rw[hxh];simpa using h0
     have A9:=S7 (p:=FY PL) (n:=i) hpt;have avx:=λx y=>Xf (p:=FY PL) (n:=i) (x:=x) (y:=y) hpt
     unfold te at*;cases OL:(bf (FY PL) i).getLast? with
     |none=>
      have KI:bf (FY PL) i=[]:=by simpa using OL
      have A9:=A9 λq hq=>by rw[KI]at hq;simp at hq
      rw[KI]at A9 ⊢
      (repeat'((conv=>whnf);first|refine ar h0 ?_|refine zcv lP ?_|(refine ik ?_;first|refine bu V ?_|refine ak V ?_|refine ar ai ?_|refine cT λ_=>?_|refine jP az ?_|refine aY ?_|refine⟨_,⟨_,rfl,rfl⟩,?_⟩|fail)))
      exact⟨m-1,V,i+1,V,congrArg (λl=>[cK.row _ _ _ l]) A9,rfl⟩
     |some q=>
      have ca:bf (FY PL) i≠[]:=by intro e;rw[e]at OL;cases OL
      have zR:0<(bf (FY PL) i).length:=zb9.2 ca;have hg:(bf (FY PL) i)[(((bf (FY PL) i).length:Nat):Int).toNat-1]?=some q:=by
       rw[<-OL,zcU];rfl
      have T9:(bf (FY PL) i)[(((bf (FY PL) i).length:Int)-1).toNat]?=some q:=by
       rw[<-hg];congr 1;omega
      have hq:=J q (zcS OL);have I:=λhe=>avx q q hg he rfl
      have hn:=λ(he:q.s+q.n≠i)=>A9 λu hu=>by
       rw[show(bf (FY PL) i).length-1=(((bf (FY PL) i).length:Nat):Int).toNat-1 by omega,hg]at hu;rw[<-Option.some.inj hu];exact he
      clear A9 avx OL;generalize bf (FY PL) i=R at*
      (repeat'((conv=>whnf);first|refine ar h0 ?_|(refine ik ?_;first|refine bu V ?_|refine ak V ?_|refine dc (λ_=>?_) (λ_=>?_)|refine cT λ_=>?_|refine jP az ?_|refine ox az ?_|refine UF V ?_|refine aY ?_|refine⟨_,⟨_,rfl,rfl⟩,?_⟩|refine zcv bJ ?_|fail)))
      ·rename_i he;exact⟨m-1,V,i+1,V,congrArg (λl=>[cK.row _ _ _ l]) (I he),rfl⟩
      ·rename_i he;exact⟨m-1,V,i+1,V,congrArg (λl=>[cK.row _ _ _ l]) (hn he),rfl⟩
   ·have W:i=PL.length:=by omega
    subst W
    (repeat'((conv=>whnf);first|refine ar V ?_|fail))
    exact Tm
 ·have H:daE a=iW a:=by unfold daE;rw[if_pos he]
  unfold O0 at Y;rw[H,if_neg he]at Y
  (repeat'((conv=>whnf);first|refine Gq ?_|(refine⟨_,⟨a,rfl,h,rfl⟩,?_⟩)|refine ak (by rw[l5 he];exact he) ?_|(refine ik ?_;first|refine dc (λ_=>?_) (λ_=>?_)|refine⟨_,⟨_,_,rfl,rfl⟩,?_⟩|refine⟨_,⟨[_,_],rfl,rfl⟩,?_⟩|fail)))
  all_goals
   rw[l5 he];exact SE
def MJ(ps:CK)(p:Prop):Prop:=∃(l:QE) (v:Bool),ps=[.sl 1 (l.map pB),pB v]/\l.length<=1000000/\p=(v∈l)
def Lc:MT (ao [(237,Qc)]) gC (dU MJ):=by
 rintro args K ⟨_,⟨l,v,U,H,rfl⟩,Y⟩;exact NM args K ⟨l,v,U,H,Y⟩
def L8(s:St)(p:Int)(tr:Rn):Prop:=0<=p/\(0<=tr.s/\tr.s<=s.d.n-1)/\(1<=tr.n/\tr.n<=s.d.n-tr.s)
instance (s:St) (p:Int) (tr:Rn):Decidable (L8 s p tr):=by unfold L8;infer_instance
def MD(s:St)(p:Int)(tr:Rn):Int:=
 if s.a.rs=true then 20 else if ¬L8 s p tr then 2 else if (s.pl.length:Int)-tr.n<p then 37
 else if (br ((s.pl.drop p.toNat).take tr.n.toNat):Int)≠tr.n then 3 else if true∈((cJ (db s.d) s.d.n).drop tr.s.toNat).take tr.n.toNat then 18 else 0
def Lw(ps:CK)(x:PV):Prop:=∃(s:St) (p:Int) (tr:Rn),ps=[sP s,pI p,tr.pv]/\UB s/\x=pI (MD s p tr)
def O5{α β:Type}(f:α->β)(l:List α){a n:Nat}:cut a (a+n) (l.map f)=((l.drop a).take n).map f:=by
 unfold cut;rw[zds,show a+n-a=n by omega,zc3,zc5]
def U5:MT (ao [(138,ah bk),(160,dU cf),(97,ah bF),(96,ah dn),(59,dz true Ay),(178,ah RX),(184,dU MJ)]) oy (ah Lw):=by
 rintro _ K ⟨_,⟨s,p,tr,rfl,h,rfl⟩,Y⟩;have hby:=h.aT;have hnb:=h.n;have hln:=h.len;have Z0:Ay [s.d.pv] (.fresh 4 1 ((cJ (db s.d) s.d.n).map pB)):=⟨s.d,rfl,⟨V,h.mp,h.bm⟩,by rw[<-Yz]⟩
 have hml:(s.pl.map pI).length=s.pl.length:=zaw _;by_cases fx:s.a.rs=true
 ·have he:MD s p tr=20:=by unfold MD;rw[if_pos fx]
  rw[he]at Y
  (repeat'((conv=>whnf);first|refine⟨_,⟨s.d,rfl,V,rfl⟩,?_⟩|refine ar (p:=s.a.rs=false) lI ?_|refine ak (by rw[l5 ai];decide) ?_|(refine ik ?_;first|refine bu V ?_|refine dc (λ_=>?_) (λ_=>?_)|refine aY ?_|refine⟨_,⟨_,_,rfl,rfl⟩,?_⟩|refine⟨_,⟨_,_,_,rfl,rfl⟩,?_⟩|refine⟨_,⟨[_,_],rfl,rfl⟩,?_⟩|fail)))
  all_goals exact aO
 have ayd:s.a.rs=false:=by simpa using fx
 by_cases b_:L8 s p tr
 ·have Ub:=b_;unfold L8 at b_;by_cases VL:(s.pl.length:Int)-tr.n<p
  ·have he:MD s p tr=37:=by unfold MD;rw[if_neg fx,if_neg (λe=>e Ub),if_pos VL]
   rw[he]at Y
   (repeat'((conv=>whnf);first|refine⟨_,⟨s.d,rfl,V,rfl⟩,?_⟩|refine ak (p:=s.a.rs=false) ayd ?_|refine Gq ?_|refine ak (by rw[hml];omega) ?_|(refine ik ?_;first|refine bu V ?_|refine ak V ?_|refine ar ai ?_|refine⟨_,⟨_,_,rfl,rfl⟩,?_⟩|refine⟨_,⟨_,_,_,rfl,rfl⟩,?_⟩|refine⟨_,⟨[_,_],rfl,rfl⟩,?_⟩|fail)))
   all_goals exact aO
  ·have HE:cut p.toNat (p+tr.n).toNat (s.pl.map pI)=((s.pl.drop p.toNat).take tr.n.toNat).map pI:=by
    rw[show(p+tr.n).toNat=p.toNat+tr.n.toNat by omega,O5]
   have aiO:cut tr.s.toNat (tr.s+tr.n).toNat ((cJ (db s.d) s.d.n).map pB)=(((cJ (db s.d) s.d.n).drop tr.s.toNat).take tr.n.toNat).map pB:=by
    rw[show(tr.s+tr.n).toNat=tr.s.toNat+tr.n.toNat by omega,O5]
   have he:MD s p tr=if (br ((s.pl.drop p.toNat).take tr.n.toNat):Int)≠tr.n then 3 else if true∈((cJ (db s.d) s.d.n).drop tr.s.toNat).take tr.n.toNat then 18 else 0:=by
    unfold MD;rw[if_neg fx,if_neg (λe=>e Ub),if_neg VL]
   rw[he]at Y;have A8:((cJ (db s.d) s.d.n).map pB).length=s.d.n:=by rw[zaw,b8]
   have hu:=vE ((s.pl.drop p.toNat).take tr.n.toNat);rw[zal]at hu;have aKZ:(((cJ (db s.d) s.d.n).drop tr.s.toNat).take tr.n.toNat).length<=1000:=gA;have hUl:((s.pl.drop p.toNat).take tr.n.toNat).length<=1000:=TO;generalize ((cJ (db s.d) s.d.n).drop tr.s.toNat).take tr.n.toNat=B2 at*;generalize (s.pl.drop p.toNat).take tr.n.toNat=h1 at*;generalize (cJ (db s.d) s.d.n).map pB=BR at*;clear he
   (repeat'((conv=>whnf);first|refine⟨_,⟨s.d,rfl,V,rfl⟩,?_⟩|refine ak (p:=s.a.rs=false) ayd ?_|refine ar (by rw[hml];omega) ?_|refine⟨_,Z0,?_⟩|refine Gq ?_|rw[HE]|refine⟨_,⟨h1,rfl,V,rfl⟩,?_⟩|(refine ik ?_;first|refine bu V ?_|refine ak V ?_|refine ar ai ?_|refine dc (λ_=>?_) (λ_=>?_)|refine⟨_,⟨_,_,rfl,rfl⟩,?_⟩|refine⟨_,⟨_,_,_,rfl,rfl⟩,?_⟩|refine HI ?_|refine⟨_,⟨[_,_],rfl,rfl⟩,?_⟩|fail)))
   ·rename_i T;refine Or.inl ?_
    (conv=>whnf)
    refine HI ?_
    (conv=>whnf)
    refine HI ?_
    (conv=>whnf)
    rw[aiO];refine⟨_,⟨B2,true,rfl,V,rfl⟩,?_⟩
    (conv=>whnf)
    refine dc (λI=>?_) (λI=>?_)
    ·(conv=>whnf)
     refine bR ?_
     (conv=>whnf)
     refine⟨_,⟨false,18,rfl,rfl⟩,?_⟩
     (conv=>whnf)
     refine aY ?_
     (conv=>whnf)
     refine⟨_,⟨[_,_],rfl,rfl⟩,?_⟩
     (conv=>whnf)
     refine Gq ?_
     (conv=>whnf)
     exact⟨.pv (pI _),cn (by rw[if_neg (λe=>e T),if_pos I];rfl),trivial,Y⟩
    ·(conv=>whnf)
     refine ec ?_
     (conv=>whnf)
     refine⟨_,⟨true,18,rfl,rfl⟩,?_⟩
     (conv=>whnf)
     refine aY ?_
     (conv=>whnf)
     refine⟨_,⟨[_,_],rfl,rfl⟩,?_⟩
     (conv=>whnf)
     refine Gq ?_
     (conv=>whnf)
     exact⟨.pv (pI _),cn (by rw[if_neg (λe=>e T),if_neg I];rfl),trivial,Y⟩
   ·rename_i T;refine Or.inl ?_
    (conv=>whnf)
    refine HI ?_
    (conv=>whnf)
    refine HI ?_
    (conv=>whnf)
    rw[aiO];refine⟨_,⟨B2,true,rfl,V,rfl⟩,?_⟩
    (conv=>whnf)
    refine dc (λI=>?_) (λI=>?_)
    ·(conv=>whnf)
     refine bR ?_
     (conv=>whnf)
     refine⟨_,⟨false,18,rfl,rfl⟩,?_⟩
     (conv=>whnf)
     refine aY ?_
     (conv=>whnf)
     refine⟨_,⟨[_,_],rfl,rfl⟩,?_⟩
     (conv=>whnf)
     refine Gq ?_
     (conv=>whnf)
     exact⟨.pv (pI _),cn (by rw[if_pos T];rfl),trivial,Y⟩
    ·(conv=>whnf)
     refine ec ?_
     (conv=>whnf)
     refine⟨_,⟨true,18,rfl,rfl⟩,?_⟩
     (conv=>whnf)
     refine aY ?_
     (conv=>whnf)
     refine⟨_,⟨[_,_],rfl,rfl⟩,?_⟩
     (conv=>whnf)
     refine Gq ?_
     (conv=>whnf)
     exact⟨.pv (pI _),cn (by rw[if_pos T];rfl),trivial,Y⟩
 ·have he:MD s p tr=2:=by unfold MD;rw[if_neg fx,if_pos b_]
  rw[he]at Y;unfold L8 at b_
  (repeat'((conv=>whnf);first|refine⟨_,⟨s.d,rfl,V,rfl⟩,?_⟩|refine ak (p:=s.a.rs=false) ayd ?_|(refine ik ?_;first|refine bu V ?_|refine ar V ?_|refine ak ai ?_|refine dc (λ_=>?_) (λ_=>?_)|refine aY ?_|refine⟨_,⟨_,_,rfl,rfl⟩,?_⟩|refine⟨_,⟨_,_,_,rfl,rfl⟩,?_⟩|refine⟨_,⟨[_,_],rfl,rfl⟩,?_⟩|fail)))
  all_goals exact aO
instance (a b:Rn):Decidable (iw a b):=by unfold iw;infer_instance
def sT(acc:UH)(r:Rn):UH:=
 match acc.getLast? with
 |some q=>if iw q r then acc.dropLast++[⟨q.s,q.n+r.n⟩]else acc++[r]
 |none=>[r]
def VX(acc:UH):ax:=match acc with
 |[]=>[.box 260 [.pv (.nil 2)]]
 |acc=>[.box 260 [.own 1],.row 103 2 true (acc.map Rn.pv)]
def lsD(acc:UH):ax:=[.box 260 [.own 2],.dead,.row 103 2 true (acc.map Rn.pv)]
def fI{acc:UH}(h:acc≠[]):VX acc=[.box 260 [.own 1],.row 103 2 true (acc.map Rn.pv)]:=by
 cases acc with
 |nil=>grind
 |cons _ _=>rfl
def ry(acc:UH)(r:Rn):sT acc r≠[]:=by
 unfold sT;split
 ·split<;>simp
 ·simp
def rnC(r:Rn):Prop:= -1000000000<=r.s/\r.s<=1000000000/\ -1000000000<=r.n/\r.n<=1000000000
def auA(xs:XP)(Z:ax)(K:AV->ax->Prop):Prop:=∃(acc:UH) (r:Rn),xs=[.ref 0 0 0,.pv r.pv]/\(acc.length<=100000/\rnC r∧∀q∈acc,rnC q)/\Z=VX acc/\K (.tup []) (VX (sT acc r))/\(acc≠[]->K (.tup []) (lsD (sT acc r)))
def ajx:OQ (ao [(278,dU YZ)]) Bh (lZ auA):=by
 rintro _ _ K ⟨acc,r,rfl,⟨U,H,h3⟩,rfl,Y,qO⟩;unfold rnC at H;cases OL:acc.getLast? with
 |none=>
  have:acc=[]:=by simpa using OL
  subst this
  (repeat'((conv=>whnf);first|refine Gq ?_|refine zcv lP ?_|refine ar ai ?_|refine cT λ_=>?_|fail))
  exact Y
 |some q=>
  have ca:acc≠[]:=by intro e;subst e;cases OL
  have zR:0<acc.length:=zb9.2 ca;have hg:acc[((acc.length:Int)-1).toNat]?=some q:=by
   rw[<-OL,zcU];congr 1;omega
  have hq:=h3 q (zcS OL);unfold rnC at hq;have hRA:sT acc r=if iw q r then acc.dropLast++[(⟨q.s,q.n+r.n⟩:Rn)]else acc++[r]:=by
   unfold sT;rw[OL]
  have ql:(acc.map Rn.pv).set ((acc.length:Int)-1).toNat (PV.agg [pI q.s,pI (q.n+r.n)])=(acc.dropLast++[(⟨q.s,q.n+r.n⟩:Rn)]).map Rn.pv:=by
   rw[show((acc.length:Int)-1).toNat=acc.length-1 by omega];have e:acc.dropLast++[q]=acc:=by
    have e1:=zc2 ca;rw[zc1 ca]at OL;rw[<-Option.some.inj OL];exact e1
   have e2:acc.length-1=(acc.dropLast.map Rn.pv).length:=ab;have e3:acc.map Rn.pv=acc.dropLast.map Rn.pv++[q.pv]:=by
    conv=>lhs;rw[<-e]
    rw[zaY];rfl
   rw[e2,e3,zdb _ _ (zai _),zcc,zaY];rfl
  have FJ:(acc.map Rn.pv).length=acc.length:=zaw _;rw[fI (ry acc r),hRA]at Y;have qO:=qO ca;unfold lsD at qO;rw[hRA]at qO;rw[fI ca]
  (repeat'((conv=>whnf);first|refine Gq ?_|refine⟨_,⟨q,r,rfl,⟨by unfold IQ;omega,by unfold IQ;omega⟩,rfl⟩,?_⟩|refine bu V ?_|refine ak V ?_|refine dc (λ_=>?_) (λ_=>?_)|refine cT λ_=>?_|refine ox az ?_|refine UF V ?_|refine zcv bJ ?_|fail))
  ·rename_i hj;rw[if_pos hj,<-ql]at Y;exact Y
  ·rename_i hj;rw[if_neg hj,zaY]at qO;exact qO
def eU(acc l:UH):UH:=l.foldl sT acc
def zc{acc l:UH}{n:Nat}{r:Rn}(h:l[n]?=some r):eU acc (l.take (n+1))=sT (eU acc (l.take n)) r:=by
 unfold eU;rw[zcM,h];simp
def amL(acc:UH)(r:Rn):(sT acc r).length<=acc.length+1:=by
 unfold sT
 grind
def RF(acc:UH):∀l:UH,(eU acc l).length<=acc.length+l.length:=by
 intro l
 induction l generalizing acc with
 |nil=>simp[eU]
 |cons r l ih=>
  have:=ih (sT acc r);have:=amL acc r;simp only[eU,zbi,zap]at*;omega
def zu(l m:UH):aF (l++m)=aF l+aF m:=by simp[aF]
def anq{P:Rn->Prop}{acc:UH}{r:Rn}(h:∀q∈acc,P q)(J:P r)(hj:∀q∈acc,iw q r->P ⟨q.s,q.n+r.n⟩):∀q∈sT acc r,P q:=by
 intro q hq;unfold sT at hq;split at hq
 ·split at hq
  ·rcases zaA.1 hq with U|U
   ·exact h q (zde _ U)
   grind
  grind
 grind
def WK(r:Rn):Prop:=1<=r.n/\r.n<=4096/\(r.s= -1\/(0<=r.s/\r.s+r.n<=512))
def rnJ(k:Int)(r:Rn):Prop:=1<=r.n/\r.n<=k/\(r.s= -1\/(0<=r.s/\r.s+r.n<=512))
def aw1{acc:UH}{r:Rn}{k:Int}(h:∀q∈acc,rnJ k q)(J:WK r)(E:0<=k):∀q∈sT acc r,rnJ (k+r.n) q:=by
 unfold WK at J;refine anq (λq hq=>?_) ?_ λq hq hj=>?_
 ·have:=h q hq;unfold rnJ at*;omega
 ·unfold rnJ;omega
 ·unfold iw at hj;unfold rnJ at*
  grind
def amK{l:UH}:∀{acc:UH} {k:Int},(∀q∈acc,rnJ k q)->0<=k->(∀r∈l,WK r)→∀q∈eU acc l,rnJ (k+aF l) q:=by
 induction l with
 |nil=>intro acc k h _ _;simpa[eU]using h
 |cons r l ih=>
  intro acc k h E hl;have J:=hl r ab;have:=ih (acc:=sT acc r) (k:=k+r.n) (aw1 h J E) (by unfold WK at J;omega) λq hq=>hl q iJ
  rw[dH];have e:k+(r.n+aF l)=k+r.n+aF l:=V;rw[e];exact this
def abA(xs:XP)(Z:ax)(K:AV->ax->Prop):Prop:=∃(acc l:UH) (k:Int),xs=[.ref 0 0 0,.pv (.sl 2 (l.map Rn.pv))]/\(acc.length<=1000/\l.length<=1000/\(0<=k/\k<=100000)/\(∀q∈acc,rnJ k q)∧∀q∈l,WK q)/\Z=VX acc/\K (.tup []) (VX (eU acc l))/\(acc≠[]->K (.tup []) (lsD (eU acc l)))
def XB:OQ (ao [(280,lZ auA)]) vn (lZ abA):=by
 rintro _ _ K ⟨acc,l,k,rfl,⟨U,H,h3,h4,h5⟩,rfl,Y,qO⟩;have FJ:(l.map Rn.pv).length=l.length:=zaw _;have ZZ:∀n:Nat,0<=aF (l.take n)/\aF (l.take n)<=4096*n:=λn=>by
  induction n with
  |zero=>simp[aF]
  |succ n ih=>
   by_cases aM:n<l.length
   ·have T:l[n]?=some l[n]:=zah aM;have:=h5 _ (zag T);unfold WK at this;rw[zcM,T,zu];simp only[zdi,aF,zau,zcr,zdf,List.sum_nil]at*;omega
   ·rw[za1 V]at ih ⊢;omega
 have hC:∀n:Nat,n<=l.length→∀q∈eU acc (l.take n),rnC q:=λn hn q hq=>by
  have:=amK h4 h3.1 (λr J=>h5 r (za5 J)) q hq;have:=ZZ n;unfold rnJ at*;unfold rnC;omega
 have hL:∀n:Nat,(eU acc (l.take n)).length<=2000:=λn=>by
  have:=RF acc (l.take n);rw[zal]at this;omega
 have hR:∀r∈l,rnC r:=λr J=>by
  have:=h5 r J;unfold WK at this;unfold rnC;omega
 by_cases ca:acc=[]
 ·subst ca
  (repeat'((conv=>whnf);first|refine cT λ_=>?_|fail))
  refine⟨λm env Z=>∃n:Nat,n+m=l.length/\Z=VX (eU [] (l.take n))/\env=[(0,.ref 0 0 0),(6,.pv (.sl 2 (l.map Rn.pv))),eN 7 l.length,eN 8 n],l.length,⟨0,V,rfl,rfl⟩,?_⟩;rintro m env Z ⟨n,hn,rfl,rfl⟩;by_cases aM:n<l.length
  ·obtain⟨r,J⟩:∃r,l[n]?=some r:=⟨_,zah aM⟩
   have hT:=zc (acc:=[]) J;have hCn:=hC n V;have hLn:=hL n;have hRr:=hR r (zag J);clear Y qO hC hL;generalize hA:eU [] (l.take n)=A at*;by_cases Z7:A=[]
   ·rw[Z7,show VX []=[.box 260 [.pv (.nil 2)]]from rfl];rw[Z7]at hT;have hT2:VX (sT [] r)=[.box 260 [.own 1],.row 103 2 true ([r].map Rn.pv)]:=rfl;have hT3:VX (eU [] (l.take (n+1)))=[.box 260 [.own 1],.row 103 2 true ([r].map Rn.pv)]:=v7
    (repeat'((conv=>whnf);first|refine ak V ?_|refine jP az ?_|refine aY ?_|fail))
    refine⟨[],r,rfl,⟨ab,hRr,λq hq=>by cases hq⟩,rfl,?_,λh=>absurd rfl h⟩;rw[hT2]
    (repeat'((conv=>whnf);first|refine bu V ?_|fail))
    exact TG
   ·rw[fI Z7];have hT3:VX (eU [] (l.take (n+1)))=VX (sT A r):=by rw[hT]
    rw[fI (ry A r)]at hT3
    (repeat'((conv=>whnf);first|refine ak V ?_|refine jP az ?_|refine aY ?_|fail))
    refine⟨A,r,rfl,⟨V,hRr,hCn⟩,(fI Z7).symm,?_,λ_=>?_⟩
    ·rw[fI (ry A r)]
     (repeat'((conv=>whnf);first|refine bu V ?_|fail))
     exact TG
    ·unfold lsD
     (repeat'((conv=>whnf);first|refine bu V ?_|fail))
     exact TG
  ·have hn:n=l.length:=by omega
   subst hn;rw[zcP];by_cases Z7:eU [] l=[]
   ·rw[Z7]at Y ⊢
    (repeat'((conv=>whnf);first|refine ar V ?_|fail))
    exact Y
   ·rw[fI Z7]at Y ⊢
    (repeat'((conv=>whnf);first|refine ar V ?_|fail))
    exact Y
 ·rw[fI ca];have hcn:∀n:Nat,eU acc (l.take n)≠[]:=λn=>by
   cases n with
   |zero=>simpa[eU]using ca
   |succ n=>
    by_cases aM:n<l.length
    ·rw[zc (zah aM)];exact ry _ _
    ·cases FL:l.getLast? with
     |none=>
      have:l=[]:=by simpa using FL
      subst this;simpa[eU]using ca
     |some q=>
      have hnl:l≠[]:=by intro e;subst e;cases FL
      rw[za1 V,<-zcP (l:=l),show l.length=l.length-1+1 by have:=zb9.2 hnl;omega,
       zc (zah (by have:=zb9.2 hnl;omega))]
      exact ry _ _
  have qO:=qO ca
  (repeat'((conv=>whnf);first|refine cT λ_=>?_|fail))
  refine⟨λm env Z=>∃n:Nat,n+m=l.length/\(Z=VX (eU acc (l.take n))\/Z=lsD (eU acc (l.take n)))/\env=[(0,.ref 0 0 0),(6,.pv (.sl 2 (l.map Rn.pv))),eN 7 l.length,eN 8 n],l.length,⟨0,V,.inl (fI ca).symm,rfl⟩,?_⟩;rintro m env Z ⟨n,hn,hσ,rfl⟩;by_cases aM:n<l.length
  ·obtain⟨r,J⟩:∃r,l[n]?=some r:=⟨_,zah aM⟩
   have hT:=zc (acc:=acc) J;have hCn:=hC n V;have hLn:=hL n;have Z7:=hcn n;have hRr:=hR r (zag J);clear Y qO hC hL;generalize hA:eU acc (l.take n)=A at*;have hT3:VX (eU acc (l.take (n+1)))=VX (sT A r):=by rw[hT]
   have hT4:lsD (eU acc (l.take (n+1)))=lsD (sT A r):=by rw[hT]
   rw[fI (ry A r)]at hT3;unfold lsD at hT4;rw[fI Z7]at hσ;rcases hσ with rfl|rfl
   ·(repeat'((conv=>whnf);first|refine ak V ?_|refine jP az ?_|refine aY ?_|fail))
    refine⟨A,r,rfl,⟨V,hRr,hCn⟩,(fI Z7).symm,?_,λ_=>?_⟩
    ·rw[fI (ry A r)]
     (repeat'((conv=>whnf);first|refine bu V ?_|fail))
     exact⟨m-1,V,n+1,V,.inl hT3.symm,rfl⟩
    ·unfold lsD
     (repeat'((conv=>whnf);first|refine bu V ?_|fail))
     exact TS
   ·unfold lsD
    (repeat'((conv=>whnf);first|refine ak V ?_|refine jP az ?_|refine aY ?_|fail))
    refine⟨A,r,rfl,⟨V,hRr,hCn⟩,(fI Z7).symm,?_,λ_=>?_⟩
    ·rw[fI (ry A r)]
     (repeat'((conv=>whnf);first|refine bu V ?_|fail))
     exact TS
    ·unfold lsD
     (repeat'((conv=>whnf);first|refine bu V ?_|fail))
     exact TS
  ·have hn:n=l.length:=by omega
   subst hn;rw[zcP]at hσ;have Z7:=hcn l.length;rw[zcP]at Z7;rw[fI Z7]at hσ Y;rcases hσ with rfl|rfl
   ·(repeat'((conv=>whnf);first|refine ar V ?_|fail))
    exact Y
   ·unfold lsD at*
    (repeat'((conv=>whnf);first|refine ar V ?_|fail))
    exact qO
def av1(lone:Bool)(R:CK->RV->Prop):abJ (dz lone R):=⟨λe=>bh,λ_ _ h=>h,rfl⟩
def akg:abJ vO:=by
 refine⟨λ_=>⟨rfl,λps K h=>?_⟩,λ_ _ h=>h,rfl⟩;obtain⟨a,b,rfl,U,H⟩:=h;by_cases ha:a=0
 ·exact⟨pI b,H ha,λK' h=>⟨a,b,rfl,λh'=>absurd ha h',λ_=>h⟩⟩
 ·exact⟨pI a,U ha,λK' h=>⟨a,b,rfl,λ_=>h,λh'=>absurd h' ha⟩⟩
def KZ:MT (ao []) JM (ah dn):=fa
def dnF(l:UH)(n:Nat):Prop:=∀k,k<n→∀r,l[k]?=some r→∀c,c<512->r.has c=true->v8 l k c=false
def aph{l:UH}{n:Nat}{x:Rn}(T:l[n]?=some x):dnF l (n+1)↔dnF l n∧∀c,c<512->x.has c=true->v8 l n c=false:=by
 unfold dnF
 grind
def dnE(l:UH):Int:=open Classical in if ¬dnF l l.length then 23 else if aF l<=4096/\l.length<=64 then 0 else 8
def am8(xs:XP)(Z:ax)(K:AV->ax->Prop):Prop:=∃acc:UH,xs=[.ref 0 0 0]/\(acc≠[]/\acc.length<=1000∧∀q∈acc,ir q)/\Z=VX acc/\(dnE acc=0->K (.tup [.own 1,.pv (pI 0)]) (VX acc))/\(dnE acc≠0->K (.tup [.own 2,.pv (pI (dnE acc))]) (VX acc++[.row 103 2 true []]))
def agl:OQ (ao [(279,lZ afS),(240,ah bF),(186,ah oH),(239,ah dn)]) yS (lZ am8):=by
 rintro _ _ K ⟨acc,rfl,⟨h0,U,H⟩,rfl,yd,qO⟩;have FJ:(acc.map Rn.pv).length=acc.length:=zaw _;rw[fI h0]at yd qO ⊢;have hS:rnS acc:=⟨U,λr J=>by have:=pM (H r J);omega⟩
 (repeat'((conv=>whnf);first|refine cT λ_=>?_|fail))
 refine⟨λm env Z=>∃(n:Nat) (fr:Bool) (L:QE),(n+m=acc.length/\IsU L (v8 acc n)/\(fr=true↔dnF acc n))/\Z=[.box 260 [.own 1],.row 103 2 true (acc.map Rn.pv),S_ L]/\env=[(0,.ref 0 0 0),(4,.ref 2 0 0),(5,.pv (pB fr)),(12,.own 1),eN 13 acc.length,eN 14 n],acc.length,⟨0,true,List.replicate 512 false,⟨V,azR _,by simp[dnF]⟩,by unfold S_;rw[zcp],rfl⟩,?_⟩;rintro m env Z ⟨n,fr,L,⟨hn,hL,tg⟩,rfl,rfl⟩;by_cases aM:n<acc.length
 ·obtain⟨x,T⟩:∃x,acc[n]?=some x:=⟨_,zah aM⟩
  have VK:=H x (zag T);have hds:=aph T;clear yd qO
  (repeat'((conv=>whnf);first|refine⟨x,_,L,rfl,⟨VK,hL⟩,rfl,λok L' b_ hL'=>?_⟩|refine ak V ?_|refine ox az ?_|refine UF V ?_|refine aY ?_|fail))
  have hL2:=hL'.congr λc _=>(DP T).symm
  cases ok with
  |true=>
   (repeat'((conv=>whnf);first|refine bu V ?_|fail))
   exact⟨m-1,V,n+1,fr,L',⟨V,hL2,by rw[tg,hds];exact⟨λh=>⟨h,b_.1 rfl⟩,λh=>h.1⟩⟩,rfl,rfl⟩
  |false=>
   (repeat'((conv=>whnf);first|refine bu V ?_|fail))
   exact⟨m-1,V,n+1,false,L',⟨V,hL2,by rw[hds];exact Iff.intro (λh=>bc) (λh=>b_.2 h.2)⟩,rfl,rfl⟩
 ·have hn:n=acc.length:=by omega
  subst hn;have hE:dnE acc=if fr=true then(if aF acc<=4096/\acc.length<=64 then 0 else 8)else 23:=by
   unfold dnE;cases fr with
   |true=>rw[if_neg (λe=>e (tg.1 rfl)),if_pos rfl]
   |false=>rw[if_pos (λe=>by have:=tg.2 e;cases this),if_neg ai]
  have zT:oH [.sl 2 (acc.map Rn.pv)] (pI (aF acc)):=⟨.sl acc,rfl,hS,rfl⟩
  cases fr with
  |true=>
   rw[if_pos rfl]at hE
   (repeat'((conv=>whnf);first|refine Gq ?_|refine⟨_,zT,?_⟩|(refine ik ?_;first|refine ar V ?_|refine ak ai ?_|refine ar ai ?_|refine dc (λ_=>?_) (λ_=>?_)|refine⟨_,⟨_,_,rfl,rfl⟩,?_⟩|refine⟨_,⟨[_,_],rfl,rfl⟩,?_⟩|fail)))
   ·exact yd (by rw[hE,if_pos V])
   all_goals
    have hE2:dnE acc=8:=by rw[hE,if_neg V]
    have:=qO (by rw[hE2];decide);rw[hE2]at this;exact this
  |false=>
   rw[if_neg ai]at hE;have:=qO (by rw[hE];decide);rw[hE]at this
   (repeat'((conv=>whnf);first|refine Gq ?_|refine⟨_,zT,?_⟩|(refine ik ?_;first|refine ar V ?_|refine ak ai ?_|refine dc (λ_=>?_) (λ_=>?_)|refine⟨_,⟨_,_,rfl,rfl⟩,?_⟩|refine⟨_,⟨[_,_],rfl,rfl⟩,?_⟩|fail)))
   all_goals exact this
def ZR(st:UH×Int×Int)(r:Rn):UH×Int×Int:=
 (st.1++(if min st.2.2 (r.n-min st.2.1 r.n)=0 then[]else[⟨if r.s= -1 then-1 else r.s+min st.2.1 r.n,min st.2.2 (r.n-min st.2.1 r.n)⟩]),
   st.2.1-min st.2.1 r.n,st.2.2-min st.2.2 (r.n-min st.2.1 r.n))
def Gj(l:UH)(f n:Int):UH×Int×Int:=l.foldl ZR ([],f,n)
def acZ{l:UH}{f n:Int}{k:Nat}{r:Rn}(h:l[k]?=some r):Gj (l.take (k+1)) f n=ZR (Gj (l.take k) f n) r:=by
 unfold Gj;rw[zcM,h];simp
def aup{l:UH}{f n:Int}(hf:0<=f/\0<=n)(hl:∀r∈l,ir r):∀k,((Gj (l.take k) f n).1.length<=k/\(0<=(Gj (l.take k) f n).2.1/\(Gj (l.take k) f n).2.1<=f)/\0<=(Gj (l.take k) f n).2.2/\(Gj (l.take k) f n).2.2<=n)∧∀q∈(Gj (l.take k) f n).1,WK q:=by
 intro k
 induction k with
 |zero=>simp[Gj];omega
 |succ k ih=>
  by_cases aM:k<l.length
  ·have T:=zah aM;have J:=pM (hl _ (zag T));rw[acZ T];generalize Gj (l.take k) f n=st at*;obtain⟨out,f',n'⟩:=st;simp only at ih;unfold ZR;simp only;refine⟨⟨?_,V,V⟩,λq hq=>?_⟩
   ·grind
   ·rcases zaA.1 hq with h|h
    ·grind
    ·split at h
     ·cases h
     ·unfold WK
      grind
  ·rw[za1 V]at ih ⊢
   grind
def XT(ps:CK)(r:RV):Prop:=∃(s:Rs) (f n:Int),ps=[uF s,pI f,pI n]/\((0<=f/\f<=100000)/\(0<=n/\n<=100000)/\s.l.length<=1000∧∀r∈s.l,ir r)/\r=.fresh 103 2 ((Gj s.l f n).1.map Rn.pv)
def afM:MT (ao [(244,dU yq)]) MO (dz true XT):=by
 rintro _ K ⟨_,⟨s,f,n,rfl,⟨U,H,h3,h4⟩,rfl⟩,Y⟩
 (repeat'((conv=>whnf);first|refine tD ?_|refine cT λ_=>?_|fail))
 refine⟨λm env Z=>∃k:Nat,k+m=s.l.length/\Z=[.row 103 2 true ((Gj (s.l.take k) f n).1.map Rn.pv)]/\env=[eN 1 (Gj (s.l.take k) f n).2.1,eN 2 (Gj (s.l.take k) f n).2.2,(7,.own 0),(13,.pv (uF s)),eN 14 s.l.length,eN 15 k],s.l.length,⟨0,V,rfl,rfl⟩,?_⟩;rintro m env Z ⟨k,E,rfl,rfl⟩;obtain⟨⟨b1,b2,b3⟩,_⟩:=aup (f:=f) (n:=n) ⟨V,V⟩ h4 k;by_cases aM:k<s.l.length
 ·obtain⟨x,T⟩:∃x,s.l[k]?=some x:=⟨_,zah aM⟩
  have hT:=acZ (f:=f) (n:=n) T;have J:=pM (h4 _ (zag T));clear Y;generalize Gj (s.l.take k) f n=st at*;unfold ZR at hT;generalize st.1=out at*;generalize st.2.1=f' at*;generalize st.2.2=n' at*;have hol:(out.map Rn.pv).length=out.length:=zaw _
  (repeat'((conv=>whnf);first|refine ae0 T ?_|(refine ik ?_;first|refine bu V ?_|refine bR ?_|refine ec ?_|refine ak V ?_|refine dc (λ_=>?_) (λ_=>?_)|refine U7 ?_|refine aY ?_|refine⟨_,⟨_,rfl,rfl⟩,?_⟩|refine zcv bJ ?_|fail)))
  ·rename_i h0;exact⟨m-1,V,k+1,V,by rw[hT];simp only[if_pos h0];rw[zbg],v7⟩
  ·rename_i h0 hh;rw[if_neg h0,if_pos hh]at hT;exact⟨m-1,V,k+1,V,by rw[hT];simp[Rn.pv],v7⟩
  ·rename_i h0 hh;rw[if_neg h0,if_neg hh]at hT;exact⟨m-1,V,k+1,V,by rw[hT];simp[Rn.pv],v7⟩
 ·(repeat'((conv=>whnf);first|refine ar V ?_|fail))
  rw[za1 V];exact oQ
abbrev Hn(l:UH):PV:=.sl 2 (l.map Rn.pv)
def amX(acc l m:UH):eU acc (l++m)=eU (eU acc l) m:=by simp[eU]
def aw6{q:Rn}{k:Int}(h:rnJ k q)(E:k<=4096):ir q:=by
 unfold rnJ at h;unfold ir;split<;>omega
def XI{l:UH}(h:∀r∈l,WK r):0<=aF l:=by
 induction l with
 |nil=>simp[aF]
 |cons r l ih=>
  rw[dH];have:=ih λq hq=>h q iJ
  have U:=h r ab;unfold WK at U;omega
def uE{ls:List (UH)}{k:Nat}{l:UH}(h:ls[k]?=some l):(ls.take (k+1)).flatten=(ls.take k).flatten++l:=by
 rw[zcM,h];simp
def ao7{ls:List (UH)}(h:∀l∈ls,∀r∈l,WK r)(k:Nat):0<=aF (ls.take k).flatten/\aF (ls.take k).flatten<=aF ls.flatten:=by
 have e:ls.flatten=(ls.take k).flatten++(ls.drop k).flatten:=by rw[<-List.flatten_append,zaF]
 have U:0<=aF (ls.take k).flatten:=XI λr J=>by
  obtain⟨l,hl,Xo⟩:=zc0.1 J;exact h l (za5 hl) r Xo
 have H:0<=aF (ls.drop k).flatten:=XI λr J=>by
  obtain⟨l,hl,Xo⟩:=zc0.1 J;exact h l (List.mem_of_mem_drop hl) r Xo
 rw[e,zu];omega
def arP{l:UH}(h:∀r∈l,WK r):(l.length:Int)<=aF l:=by
 induction l with
 |nil=>simp[aF]
 |cons r l ih=>
  rw[dH,zap];have:=ih λq hq=>h q iJ
  have U:=h r ab;unfold WK at U;omega
def ahg:∀(l:UH) {A:UH},A≠[]->eU A l≠[]
 |[],_,h=>h
 |r::l,A,_=>ahg l (ry A r)
def mdL(hr:UH):UH:=open Classical in if dnE hr=0 then hr else[]
def XQ(ps:CK)(r:RV):Prop:=∃ls:List (UH),ps=[.sl 1 (ls.map Hn)]/\(ls.length<=4/\(∀l∈ls,l.length<=200∧∀r∈l,WK r)/\aF ls.flatten<=4096/\ls.flatten≠[])/\
 r=.tup [.fresh 103 2 ((mdL (eU [] ls.flatten)).map Rn.pv),.pv (pI (dnE (eU [] ls.flatten)))]
def adf:MT (ao [(242,lZ abA),(243,lZ am8)]) M9 (dz true XQ):=by
 rintro _ K ⟨_,⟨ls,rfl,⟨U,H,h3,h4⟩,rfl⟩,Y⟩;have hW:∀l∈ls,∀r∈l,WK r:=λl hl=>(H l hl).2
 have hF:∀k,∀r∈(ls.take k).flatten,WK r:=λk r J=>by
  obtain⟨l,hl,Xo⟩:=zc0.1 J;exact hW l (za5 hl) r Xo
 have hJ:∀k,∀q∈eU [] (ls.take k).flatten,rnJ (aF (ls.take k).flatten) q:=λk q hq=>by
  have:=amK (acc:=[]) (k:=0) (λ_ h=>bc) V (hF k) q hq;simpa using this
 have ca:eU [] ls.flatten≠[]:=by
  cases OL:ls.flatten.getLast? with
  |none=>exact absurd (by simpa using OL) h4
  |some q=>
   have hp:=zb9.2 h4;rw[<-zcP (l:=ls.flatten),show ls.flatten.length=ls.flatten.length-1+1 by omega,zc (zah V)];exact ry _ _
 have hl0:eU [] ls.flatten≠[]->(eU [] ls.flatten).length<=5000:=λ_=>by
  have:=RF [] ls.flatten;have:=arP (l:=ls.flatten) λr J=>by
   obtain⟨l,hl,Xo⟩:=zc0.1 J;exact hW l hl r Xo
  simp at*;omega
 have PB:∀k,(ls.take k).flatten.length<=200*k:=λk=>by
  induction k with
  |zero=>simp
  |succ k ih=>
   by_cases aM:k<ls.length
   ·have T:ls[k]?=some ls[k]:=zah aM;rw[uE T,zad];have:=(H _ (zag T)).1;omega
   ·rw[za1 V]at ih ⊢;omega
 have iX:∀k,(eU [] (ls.take k).flatten).length<=200*k:=λk=>by
  have:=RF [] (ls.take k).flatten;have:=PB k;simp at*;omega
 have FJ:(ls.map Hn).length=ls.length:=zaw _
 (repeat'((conv=>whnf);first|refine cT λ_=>?_|fail))
 refine⟨λm env Z=>∃k:Nat,k+m=ls.length/\Z=VX (eU [] (ls.take k).flatten)/\env=[(4,.ref 0 0 0),(7,.pv (.sl 1 (ls.map Hn))),eN 8 ls.length,eN 9 k],ls.length,⟨0,V,rfl,rfl⟩,?_⟩;rintro m env Z ⟨k,E,rfl,rfl⟩;have hs:=ao7 hW k;by_cases aM:k<ls.length
 ·obtain⟨l,hl⟩:∃l,ls[k]?=some l:=⟨_,zah aM⟩
  have hlw:=H l (zag hl);have hT:eU [] (ls.take (k+1)).flatten=eU (eU [] (ls.take k).flatten) l:=by rw[uE hl,amX]
  have hJk:=hJ k;have aBP:=iX k;clear Y;generalize eU [] (ls.take k).flatten=A at*;by_cases hA:A=[]
  ·subst hA;rw[show VX []=[.box 260 [.pv (.nil 2)]]from rfl]
   (repeat'((conv=>whnf);first|refine ak V ?_|refine jP az ?_|fail))
   refine⟨[],l,0,rfl,⟨ab,V,V,(λq hq=>by cases hq),hlw.2⟩,rfl,?_,λh=>absurd rfl h⟩;by_cases hB:eU [] l=[]
   ·rw[hB]at hT ⊢;rw[show VX []=[.box 260 [.pv (.nil 2)]]from rfl]
    (repeat'((conv=>whnf);first|refine bu V ?_|fail))
    exact⟨m-1,V,k+1,V,v7,rfl⟩
   ·rw[fI hB]
    (repeat'((conv=>whnf);first|refine bu V ?_|fail))
    exact P0
  ·rw[fI hA]
   (repeat'((conv=>whnf);first|refine ak V ?_|refine jP az ?_|fail))
   have hB:eU A l≠[]:=ahg l hA;refine⟨A,l,aF (ls.take k).flatten,rfl,⟨V,V,V,hJk,hlw.2⟩,(fI hA).symm,?_,λ_=>?_⟩
   ·rw[fI hB]
    (repeat'((conv=>whnf);first|refine bu V ?_|fail))
    exact P0
   ·unfold lsD
    (repeat'((conv=>whnf);first|refine bu V ?_|fail))
    exact P0
 ·have E:k=ls.length:=by omega
  subst E;have hJk:=hJ ls.length;have aBP:=iX ls.length;rw[zcP]at hJk aBP ⊢;unfold mdL at Y;generalize eU [] ls.flatten=A at*;rw[fI ca]
  (repeat'((conv=>whnf);first|refine ar V ?_|fail))
  refine⟨A,rfl,⟨ca,V,λq hq=>aw6 (hJk q hq) h3⟩,(fI ca).symm,λhe=>?_,λhe=>?_⟩
  ·rw[he,if_pos rfl]at Y;rw[fI ca]
   (conv=>whnf)
   exact Tm
  ·rw[if_neg he]at Y;rw[fI ca]
   (conv=>whnf)
   exact SE
def apu{r:Rn}(h:ir r):WK r:=by
 unfold ir at h;unfold WK;split at h<;>omega
def aun{l:UH}{f n:Int}(hf:0<=f/\0<=n)(hl:∀r∈l,ir r):(Gj l f n).1.length<=l.length∧∀q∈(Gj l f n).1,WK q:=by
 have:=aup hf hl l.length;rw[zcP]at this;exact⟨this.1.1,this.2⟩
def aiu{l:UH}(hl:∀r∈l,ir r):∀(out:UH) (f n:Int),0<=f->0<=n->aF (l.foldl ZR (out,f,n)).1=aF out+min n (max 0 (aF l-f)):=by
 induction l with
 |nil=>intro out f n U H;simp[aF];omega
 |cons r l ih=>
  intro out f n U H;have J:=pM (hl r ab);have hnn:0<=aF l:=XI λq hq=>apu (hl q iJ)
  rw[zbi,dH];have:=ih (λq hq=>hl q iJ) (ZR (out,f,n) r).1 (ZR (out,f,n) r).2.1 (ZR (out,f,n) r).2.2;have e:ZR (out,f,n) r=((ZR (out,f,n) r).1,(ZR (out,f,n) r).2.1,(ZR (out,f,n) r).2.2):=rfl;rw[e,this (by unfold ZR;simp only;omega) (by unfold ZR;simp only;omega)];unfold ZR;simp only;rw[zu];split
  ·simp[aF]at*;omega
  ·simp[aF]at*;omega
def Z1(l:UH)(p:Int)(tr:Rn):UH:=(Gj l 0 p).1++[tr]++(Gj l (p+tr.n) (aF l)).1
def rpE(l:UH)(p:Int)(tr:Rn):Int:=dnE (eU [] (Z1 l p tr))
def Ht(ps:CK)(r:RV):Prop:=∃(s:Rs) (p:Int) (tr:Rn),ps=[uF s,pI p,Hn [tr]]/\(dv s.l=0/\dv [tr]=0/\0<=p/\p+tr.n<=aF s.l)/\
 r=.tup [.fresh 103 2 ((mdL (eU [] (Z1 s.l p tr))).map Rn.pv),.pv (pI (rpE s.l p tr))]
def D1(ps:CK)(x:PV):Prop:=∃(s:Rs) (p:Int) (tr:Rn),ps=[uF s,pI p,Hn [tr],pI tr.n]/\(dv s.l=0/\dv [tr]=0/\0<=p/\p+tr.n<=aF s.l)/\x=pI 0
def Of:MT (ao [(185,ah uM),(241,dU cf),(240,ah bF),(186,ah oH),(239,ah dn)]) zi (ah D1):=by
 rintro _ K ⟨_,⟨s,p,tr,rfl,⟨U,H,h3,h4⟩,rfl⟩,Y⟩;have I:=ZH U;have J:=pM ((bz H).2.2.2 tr ab);have ayf:uM [.sl 1 [uF s,Hn [tr]]] (pI 0):=⟨[s,.sl [tr]],rfl,ab,cn (by show(0:Int)=aZ [dv s.l,dv [tr]];rw[U,H];rfl)⟩
 have hlen:oH [uF s] (pI (aF s.l)):=⟨s,rfl,IK U,rfl⟩
 (repeat'((conv=>whnf);first|refine zcv (show aaE 1 [uF s,Hn [tr]]=true by cases s<;>rfl) ?_|refine⟨_,ayf,?_⟩|refine⟨_,hlen,?_⟩|(refine ik ?_;first|refine bu V ?_|refine ak V ?_|refine aY ?_|refine⟨_,⟨_,_,rfl,rfl⟩,?_⟩|refine⟨_,⟨_,_,_,rfl,rfl⟩,?_⟩|refine⟨_,⟨[_,_,_],rfl,rfl⟩,?_⟩|fail)))
 exact aO
def To:MT (ao [(185,ah uM),(186,ah oH),(187,ah D1),(189,dz true XT),(188,dz true XQ)]) Bt (dz true Ht):=by
 rintro _ K ⟨_,⟨s,p,tr,rfl,⟨U,H,h3,h4⟩,rfl⟩,Y⟩;have I:=ZH U;have gr:=bz U;have htr:=(bz H).2.2.2 tr ab;have J:=pM htr;have ayf:uM [.sl 1 [Hn [tr]]] (pI 0):=⟨[.sl [tr]],rfl,ab,cn (by show(0:Int)=aZ [dv [tr]];rw[H];rfl)⟩
 have aM:oH [Hn [tr]] (pI tr.n):=⟨.sl [tr],rfl,IK H,cn (by simp[aF,Sl.l])⟩
 have hlen:oH [uF s] (pI (aF s.l)):=⟨s,rfl,IK U,rfl⟩
 have FM:D1 [uF s,pI p,Hn [tr],pI tr.n] (pI 0):=⟨s,p,tr,rfl,⟨U,H,h3,h4⟩,rfl⟩
 have FK:XT [uF s,pI 0,pI p] (.fresh 103 2 ((Gj s.l 0 p).1.map Rn.pv)):=⟨s,0,p,rfl,⟨V,V,V,gr.2.2.2⟩,rfl⟩
 have Xm:XT [uF s,pI (p+tr.n),pI (aF s.l)] (.fresh 103 2 ((Gj s.l (p+tr.n) (aF s.l)).1.map Rn.pv)):=⟨s,p+tr.n,aF s.l,rfl,⟨V,V,V,gr.2.2.2⟩,rfl⟩
 have hw1:=aun (f:=0) (n:=p) ⟨V,V⟩ gr.2.2.2;have hw2:=aun (f:=p+tr.n) (n:=aF s.l) ⟨V,V⟩ gr.2.2.2;have nk:=aiu gr.2.2.2 [] 0 p V V;have PA:=aiu gr.2.2.2 [] (p+tr.n) (aF s.l) V V;have Pz:XQ [.sl 1 [Hn (Gj s.l 0 p).1,Hn [tr],Hn (Gj s.l (p+tr.n) (aF s.l)).1]] (.tup [.fresh 103 2 ((mdL (eU [] (Z1 s.l p tr))).map Rn.pv),.pv (pI (rpE s.l p tr))]):=by
  have e:[(Gj s.l 0 p).1,[tr],(Gj s.l (p+tr.n) (aF s.l)).1].flatten=Z1 s.l p tr:=by simp[Z1]
  refine⟨[(Gj s.l 0 p).1,[tr],(Gj s.l (p+tr.n) (aF s.l)).1],rfl,⟨ab,?_,?_,?_⟩,?_⟩
  ·intro l hl;simp only[zax,zb6,or_false]at hl;rcases hl with rfl|rfl|rfl
   ·exact⟨V,hw1.2⟩
   ·exact⟨ab,λr J=>by rw[zdj]at J;subst J;exact apu htr⟩
   ·exact⟨V,hw2.2⟩
  ·rw[e];unfold Z1;rw[zu,zu];unfold Gj;rw[nk,PA];simp only[aF,zau,zcr,zdf,List.sum_nil]at*;omega
  ·rw[e];unfold Z1;simp
  ·rw[e];rfl
 generalize (Gj s.l 0 p).1=P1 at*;generalize (Gj s.l (p+tr.n) (aF s.l)).1=P2 at*
 (repeat'((conv=>whnf);first|refine⟨_,ayf,?_⟩|refine⟨_,aM,?_⟩|refine⟨_,FM,?_⟩|refine⟨_,hlen,?_⟩|refine⟨_,FK,?_⟩|refine⟨_,Xm,?_⟩|refine⟨_,Pz,?_⟩|refine bu V ?_|refine ak V ?_|refine ar V ?_|refine aY ?_|fail))
 exact Tm
def mvA(a:At)(p:Int)(tr:Rn):At:={ a with rn:=.sl (eU [] (Z1 a.rn.l p tr)) }
def HG(B:P8)(pl:OG)(p:Int)(tr:Rn):Nat->P8
 |0=>B
 |k+1=>He (HG B pl p tr k) (tr.s+k).toNat (ee B (pl[p.toNat+k]?.getD 0).toNat)
def AY(b:Nat->Bool)(pl:OG)(p:Int)(tr:Rn):Nat->Nat->Bool
 |0=>b
 |k+1=>λc=>if c=(tr.s+k).toNat then true else if c=(pl[p.toNat+k]?.getD 0).toNat then false else AY b pl p tr k c
def Cc(d:Dk)(a:At)(p:Int)(tr:Rn):Int:=
 if aI d a≠0 then aI d a else if MD (aj d a) p tr≠0 then MD (aj d a) p tr else if rpE a.rn.l p tr≠0 then 8 else if iW (mvA a p tr)≠0 then 8 else 0
def MW(d:Dk)(a:At)(p:Int)(tr:Rn):Dk:=if Cc d a p tr≠0 then zD else⟨HG d.aT (aq a.rn.l) p tr tr.n.toNat,gm (cJ (AY (db d) (aq a.rn.l) p tr tr.n.toNat) d.n)⟩
def Uw(d:Dk)(a:At)(p:Int)(tr:Rn):At:=if Cc d a p tr≠0 then zA else mvA a p tr
def ajP{r:Rn}(h:ir r):dv [r]=0:=by
 have I:=pM h;have h0:∀k,k<[r].length->Sk [r] k=0:=λk E=>by
  have:k=0:=au;subst this;exact Sm (x:=r) rfl h (λ_ h=>V) V
 unfold dv;rw[OP ab h0,if_pos (by simp[aF];omega)]
def SG:∀{l:OG},br l=l.length→∀x∈l,x≠ -1
 |[],_=>λ_ h=>by cases h
 |a::l,h=>by
  have hl:=vE l;unfold br at h hl;rw[List.filter_cons]at h;split at h
  ·simp_all
  grind
structure aDM(s:St)(p:Int)(tr:Rn):Prop where
 ok:L8 s p tr
 rs:s.a.rs=false
 len:p+tr.n<=s.pl.length
 from_:∀k:Nat,(k:Int)<tr.n→∃x,s.pl[p.toNat+k]?=some x/\x≠ -1
 free:∀c:Nat,tr.s<=c->(c:Int)<tr.s+tr.n->db s.d c=false
def Ra{s:St}{p:Int}{tr:Rn}(h:MD s p tr=0):aDM s p tr:=by
 unfold MD at h;split at h
 ·cases h
 split at h
 ·cases h
 rename_i H;have H:=zcN.1 H;split at h
 ·cases h
 split at h
 ·cases h
 split at h
 ·cases h
 rename_i h5;have h2':=H;unfold L8 at h2';have hlen:((s.pl.drop p.toNat).take tr.n.toNat).length=tr.n.toNat:=au;refine⟨H,au,V,λk E=>?_,λc h6 h7=>?_⟩
 ·have T:s.pl[p.toNat+k]?=some (s.pl[p.toNat+k]'V):=zah V;refine⟨_,T,SG (l:=(s.pl.drop p.toNat).take tr.n.toNat) V _ ?_⟩;refine zag (i:=k) ?_
  grind
 ·cases I:db s.d c with
  |false=>rfl
  |true=>
   refine absurd ?_ h5;refine zag (i:=c-tr.s.toNat) ?_;rw[zcV V,List.getElem?_drop,show tr.s.toNat+(c-tr.s.toNat)=c by omega,bw V,I]
def O6{B:P8}{pl:OG}{p:Int}{tr:Rn}(h:∀k:Nat,(k:Int)<tr.n->0<=tr.s+k/\(tr.s+k+1)*256<=B.length/\((pl[p.toNat+k]?.getD 0).toNat+1)*256<=B.length):∀k:Nat,(k:Int)<=tr.n->(HG B pl p tr k).length=B.length
 |0,_=>rfl
 |k+1,E=>by
  have ih:=O6 (B:=B) h k V;have hh:=h k V;unfold HG;rw[QB V (kp hh.2.2),ih]
def IX(ps:CK)(r:RV):Prop:=∃(d:Dk) (a:At) (p:Int) (tr:Rn),ps=[d.pv,a.pv,pI p,tr.pv]/\(D8 d/\a.nm.length<=1000000)/\
 r=.tup [.pv (MW d a p tr).pv,.pv (Uw d a p tr).pv,.pv (pI (Cc d a p tr))]
def aak:MT (ao [(58,xd),(129,ah Lw),(130,dz true Ht),(131,ah G0),(59,dz true Ay),(132,ah yD),(61,ah Pr)]) C4 (dz false IX):=by
 rintro _ K ⟨_,⟨d,a,p,tr,rfl,⟨U,H⟩,rfl⟩,Y⟩;refine⟨d,a,rfl,⟨DM U,H⟩,λh=>?_,λh v hv=>?_⟩
 ·have pQ:=(aL h).1;have fu:=pQ.st U H;have hmv:Lw [sP (aj d a),pI p,tr.pv] (pI (MD (aj d a) p tr)):=⟨aj d a,p,tr,rfl,fu,rfl⟩
  by_cases hm:MD (aj d a) p tr=0
  ·have mo:=Ra hm;have b_:=mo.ok;unfold L8 at b_;have hnb:d.n<=512:=pQ.nb;have PH:(aj d a).d=d:=rfl;rw[PH]at b_;have hdn:256*d.n<=d.aT.length:=uX;have hby:d.aT.length<=200000:=U.1;have qk:(aj d a).pl=aq a.rn.l:=rfl;have KN:=mo.from_;have MG:=Ze fu;rw[qk]at KN MG;rw[PH]at MG;obtain⟨N,hN⟩:∃N,N=d.n:=⟨_,rfl⟩
   obtain⟨BL,hBL⟩:∃BL,BL=d.aT.length:=⟨_,rfl⟩
   rw[<-hN]at b_ hnb hdn MG;rw[<-hBL]at hdn hby;have htr:ir tr:=by clear h hm;unfold ir;split<;>omega
   have aFM:=sb (l:=a.rn.l) λr J=>by have:=pM ((bz pQ.rn).2.2.2 r J);omega
   have hlen:p+tr.n<=aF a.rn.l:=by have h3:=mo.len;rw[qk]at h3;omega
   have hrp:Ht [uF a.rn,pI p,Hn [tr]] _:=⟨a.rn,p,tr,rfl,⟨pQ.rn,ajP htr,V,hlen⟩,rfl⟩
   have hpb:p<=128:=by have h3:=mo.len;have h4:=pQ.len;rw[qk]at h3;omega
   clear aFM hlen;have tg:∀k:Nat,(k:Int)<tr.n→∃x:Nat,(aq a.rn.l)[p.toNat+k]?=some (x:Int)/\256*(x+1)<=BL/\x<N:=λk E=>by
    clear h hm;obtain⟨x,T,ca⟩:=KN k E;have:=MG x (zag T);refine⟨x.toNat,by rw[T];congr 1;omega,V,V⟩
   have hlB:=O6 (B:=d.aT) (pl:=aq a.rn.l) (p:=p) (tr:=tr) λk E=>by
    clear h hm;obtain⟨x,T,A7,hx3⟩:=tg k E;rw[T,zbE,<-hBL];exact⟨V,V,by rw[zaC,zc7];exact A7⟩
   rw[<-hBL]at hlB;by_cases J:rpE a.rn.l p tr=0
   ·have Pz:mdL (eU [] (Z1 a.rn.l p tr))=eU [] (Z1 a.rn.l p tr):=by unfold mdL;rw[if_pos (show dnE _=0 from J)]
    rw[Pz]at hrp;have hAA:(mvA a p tr).pv=.agg [pI a.ty,.str a.nm,pI a.id,pI a.fl,pB a.rs,.str a.vl,pI a.ft,Hn (eU [] (Z1 a.rn.l p tr)),pI a.al,pI a.sz,pI a.vd]:=rfl;have Ea:G0 [(mvA a p tr).pv] (pI (iW (mvA a p tr))):=⟨mvA a p tr,rfl,H,rfl⟩
    by_cases ha:iW (mvA a p tr)=0
    ·have he:Cc d a p tr=0:=by unfold Cc;rw[if_neg (λe=>e h),if_neg (λe=>e hm),if_neg (λe=>e J),if_neg (λe=>e ha)]
     unfold MW Uw at Y;rw[he,if_neg z0,if_neg z0]at Y;have Z0:Ay [d.pv] (.fresh 4 1 ((cJ (db d) d.n).map pB)):=⟨d,rfl,⟨by have:=U.1;omega,U.2,pQ.bm⟩,by rw[<-Yz]⟩
     rw[<-hN]at Z0 Y;rw[hAA]at Ea Y;generalize eU [] (Z1 a.rn.l p tr)=hr at*;generalize iW (mvA a p tr)=AE at*;have iX:∀x:Nat,256*(x+1)<=BL->yD [sP (aj d a),pI x] (.str (ee d.aT x)):=λx T=>⟨aj d a,x,rfl,⟨by rw[hBL,zc7]at T;exact T,by show d.aT.length<=_;omega⟩,rfl⟩
     (repeat'((conv=>whnf);first|refine⟨_,hmv,?_⟩|refine⟨_,hrp,?_⟩|refine⟨_,Ea,?_⟩|refine⟨_,Z0,?_⟩|refine zcv (show d.aT.length<=_ by rw[<-hBL];omega) ?_|refine ak V ?_|refine ar V ?_|refine aY ?_|fail))
     refine⟨λm env Z=>∃k:Nat,(k:Int)+m=tr.n/\
      Z=[.box 31 [.pv (pI a.ty),.pv (.str a.nm),.pv (pI a.id),.pv (pI a.fl),.pv (pB a.rs),.pv (.str a.vl),.pv (pI a.ft),.own 6,.pv (pI a.al),.pv (pI a.sz),.pv (pI a.vd)],.box 103 [.pv (pI tr.s),.pv (pI tr.n)],
       .box 23 [.pv (.str []),.pv (.str [])],.box 31 [.pv (pI 0),.pv (.str []),.pv (pI 0),.pv (pI 0),.pv (pB false),.pv (.str []),.pv (pI 0),.pv (.nil 2),.pv (pI 0),.pv (pI 0),.pv (pI 0)],
       qw (AY (db d) (aq a.rn.l) p tr k) N,.row 5 1 false ((HG d.aT (aq a.rn.l) p tr k).map aG),.row 103 2 true (hr.map Rn.pv)]/\
      env=[eN 2 p,(5,.ref 0 0 0),(7,.ref 1 0 0),(8,.ref 2 0 0),(9,.ref 3 0 0),(11,.pv (sP (aj d a))),(14,.own 4),(15,.own 5),eN 61 tr.n,eN 62 k],tr.n.toNat,⟨0,V,rfl,rfl⟩,?_⟩
     rintro m env Z ⟨k,E,rfl,rfl⟩;clear h hm J he ha;by_cases aM:(k:Int)<tr.n
     ·obtain⟨x,T,A7,hx3⟩:=tg k aM;have hlk:=hlB k V;have hgx:(aq a.rn.l)[(p+(k:Int)).toNat]?=some (x:Int):=by rw[<-T];congr 1;omega
      have hBk:HG d.aT (aq a.rn.l) p tr (k+1)=He (HG d.aT (aq a.rn.l) p tr k) (tr.s+k).toNat (ee d.aT x):=by
       show He _ _ (ee d.aT ((aq a.rn.l)[p.toNat+k]?.getD 0).toNat)=_;rw[T];rfl
      have hFk:(((cJ (AY (db d) (aq a.rn.l) p tr k) N).map pB).set ((x:Int)).toNat (pB false)).set (tr.s+(k:Int)).toNat (pB true)=(cJ (AY (db d) (aq a.rn.l) p tr (k+1)) N).map pB:=by
       rw[<-zcW,<-zcW,kS,kS];congr 1;refine j_ λc F=>?_
       show _=if c=(tr.s+k).toNat then true else if c=((aq a.rn.l)[p.toNat+k]?.getD 0).toNat then false else AY (db d) (aq a.rn.l) p tr k c
       rw[T];rfl
      have jH:=ah6 (Q:=HG d.aT (aq a.rn.l) p tr k) (p:=ee d.aT x) (k:=tr.s+k) V (kp (by rw[<-hBL,zc7];exact A7));have aFO:=iX x A7;have hcx:=kp (B:=d.aT) (n:=x) (by rw[<-hBL,zc7];exact A7);clear Y hmv hrp Ea Z0 iX MG tg hlB KN;have hql:((HG d.aT (aq a.rn.l) p tr k).map aG).length=BL:=by rw[zaw];exact hlk
      have hy:∃y:Bool,(((cJ (AY (db d) (aq a.rn.l) p tr k) N).map pB).set ((x:Int)).toNat (pB false))[(tr.s+(k:Int)).toNat]?=some (pB y):=by
       by_cases he:((x:Int)).toNat=(tr.s+(k:Int)).toNat
       ·exact⟨false,by rw[<-he,zbO (by rw[zaw,b8];omega)]⟩
       ·exact⟨_,by rw[zdd he,zaD,bw V];rfl⟩
      obtain⟨y,hy⟩:=hy;have aBQ:(((cJ (AY (db d) (aq a.rn.l) p tr k) N).map pB).set ((x:Int)).toNat (pB false)).length=N:=by rw[za0,zaw,b8]
      simp only[qw];clear hN hBL;generalize HG d.aT (aq a.rn.l) p tr k=Q at*;generalize AY (db d) (aq a.rn.l) p tr k=hc at*
      (repeat'((conv=>whnf);first|refine Gq ?_|refine⟨_,aFO,?_⟩|refine Or.inr ?_|refine zcv (by rw[hql];omega) ?_|refine zcv (by rw[aBQ];omega) ?_|refine⟨_,hy,?_⟩|refine bu V ?_|refine ak V ?_|refine az7 V az ?_|refine T0 V ?_|refine N9 V ?_|fail))
      exact⟨m-1,V,k+1,V,by rw[hBk,<-jH,<-hFk],rfl⟩
     ·have E:k=tr.n.toNat:=by omega
      subst E
      (repeat'((conv=>whnf);first|refine Gq ?_|refine⟨_,⟨cJ (AY (db d) (aq a.rn.l) p tr tr.n.toNat) N,rfl,nd,rfl⟩,?_⟩|refine ar V ?_|refine BTS ?_|fail))
      exact⟨[.pv (.agg [_,_]),.pv (.agg [_,_,_,_,_,_,_,_,_,_,_]),.pv (pI _)],⟨rfl,rfl,rfl,trivial⟩,trivial,Y⟩
    ·have he:Cc d a p tr=8:=by unfold Cc;rw[if_neg (λe=>e h),if_neg (λe=>e hm),if_neg (λe=>e J),if_pos ha]
     unfold MW Uw at Y;rw[he,if_pos z8,if_pos z8]at Y;rw[hAA]at Ea
     (repeat'((conv=>whnf);first|refine⟨_,hmv,?_⟩|refine⟨_,hrp,?_⟩|refine⟨_,Ea,?_⟩|refine ak V ?_|refine ar V ?_|refine aY ?_|fail))
     exact gz
   ·have he:Cc d a p tr=8:=by unfold Cc;rw[if_neg (λe=>e h),if_neg (λe=>e hm),if_pos J]
    unfold MW Uw at Y;rw[he,if_pos z8,if_pos z8]at Y
    (repeat'((conv=>whnf);first|refine⟨_,hmv,?_⟩|refine⟨_,hrp,?_⟩|refine ak V ?_|refine ar V ?_|refine aY ?_|fail))
    exact gz
  ·have he:Cc d a p tr=MD (aj d a) p tr:=by unfold Cc;rw[if_neg (λe=>e h),if_pos hm]
   unfold MW Uw at Y;rw[he,if_pos hm,if_pos hm]at Y
   (repeat'((conv=>whnf);first|refine⟨_,hmv,?_⟩|refine ak V ?_|refine aY ?_|fail))
   exact gz
 ·have he:Cc d a p tr=aI d a:=by unfold Cc;rw[if_pos h]
  unfold MW Uw at Y;rw[he,if_pos h,if_pos h]at Y;rcases hv with rfl|rfl
  all_goals
   (repeat'((conv=>whnf);first|refine ar (p:=aI d a=0) h ?_|refine ak h ?_|refine aY ?_|fail))
   exact gz
def akv(a b:OG):br (a++b)=br a+br b:=by unfold br;simp
def Ri{l:OG}:br l=0↔∀x∈l,x= -1:=by
 unfold br;simp
def ajI{B:P8}{l:OG}(h:RJ B l):fw B l=[]↔br l=0:=by
 rw[Ri];unfold fw;rw[List.flatMap_eq_nil_iff];refine⟨λhh x T=>?_,λhh x T=>?_⟩
 ·have:=hh x T;unfold lU at this;rcases h x T with U|U
  ·exact U
  ·have H:=kp (B:=B) (n:=x.toNat) V
   grind
 ·unfold lU;grind
def qZ{α:Type}(l:List α){k:Nat}(E:k<ez l.length):(chunks l)[k]?=some (cP l k):=by
 unfold chunks
 grind
def H8(ps:CK)(r:RV):Prop:=∃s:Rs,ps=[uF s]/\s.l.length<=1000000/\r=.fresh 103 2 (s.l.map Rn.pv)
def LG:MT (ao []) Br (dz true H8):=by
 rintro _ K ⟨_,⟨s,rfl,hs,rfl⟩,Y⟩;have FJ:(s.l.map Rn.pv).length=s.l.length:=zaw _
 (repeat'((conv=>whnf);first|refine tD ?_|refine aY ?_|refine zcv bJ ?_|fail))
 exact oQ
def aS(a:At):At:={ a with rn:=.sl a.rn.l }
def uK(ps:CK)(r:RV):Prop:=∃a:At,ps=[a.pv]/\a.rn.l.length<=1000000/\r=.pv (aS a).pv
def Vm:MT (ao [(45,dz true H8)]) rI (dz false uK):=by
 rintro _ K ⟨_,⟨a,rfl,hs,rfl⟩,Y⟩
 (repeat'((conv=>whnf);first|refine⟨_,⟨a.rn,rfl,hs,rfl⟩,?_⟩|refine aY ?_|fail))
 exact⟨.pv (aS a).pv,rfl,trivial,Y⟩
def ajO(s:P8)(p:Nat)(b:P8):P8:=s.take p++b++s.drop (p+b.length)
def PI{s:P8}{p:Nat}{b:P8}(h:p+b.length<=s.length):(ajO s p b).length=s.length:=by
 unfold ajO;simp only[zad,zal,zay];omega
def ama(C:P8)(p:Nat)(dat:P8):P8:=if dat=[]then C else ajO (U3 C (max C.length (p+dat.length))) p dat
def aix(C:P8)(p n:Int):P8:=ajO C (min p C.length).toNat (aC (min (p+n) C.length-min p C.length).toNat)
def NR(pl:OG):OG:=pl.filter λx=>decide (x≠ -1)
def al2{pl:OG}{x:Int}:x∈NR pl↔x∈pl/\x≠ -1:=by unfold NR;rw[zbq];simp
def SK(pl:OG):(NR pl).length=br pl:=rfl
def Ks(s:P8):∀n,iq s n<=n
 |0=>zai 0
 |n+1=>by
  have:=Ks s n;have H:=fV s n;unfold iq;omega
def afx(d e:Dk)(A B:OG)(c:Nat):Prop:=
 ((c:Int)∉A/\(c:Int)∉B->aU e.mp c=aU d.mp c/\ee d.aT c=ee e.aT c)/\((c:Int)∈A/\(c:Int)∉B->aU e.mp c=0)/\((c:Int)∈B->aU e.mp c=1)/\((c:Int)∈B/\(c:Int)∉A->aU d.mp c=0)
def aal(d e:Dk)(a b:At):Prop:=(d.aT.length=e.aT.length/\dj e=0)∧∀c,c<d.n->afx d e (NR (aq a.rn.l)) (NR (aq b.rn.l)) c
def aoj(l:QE):Nat:=l.countP id
def YM(a:At)(f t:Int)(i:Nat):Bool:=(if a.rs=true then decide ((i:Int)*256<a.vl.length)else FY (aq a.rn.l) i)||(decide (f<t)&&decide ((i:Int)*256<t)&&decide (f<((i:Int)+1)*256))
def Vs(a:At)(f t sz:Int):QE:=(List.range (amT sz 256).toNat).map (YM a f t)
def apB(acc:UH)(a:Int):sT acc ⟨a,1⟩=m_ acc a:=by
 unfold sT m_;cases acc.getLast? with
 |none=>rfl
 |some q=>
  have:iw q ⟨a,1⟩↔((a= -1/\q.s= -1)\/(a≠ -1/\q.s≠ -1/\q.s+q.n=a)):=by unfold iw;simp only;omega
  simp only[this]
def tB(pl:OG)(p:Int)(tr:Rn):Nat->OG
 |0=>pl
 |k+1=>(tB pl p tr k).set (p+k).toNat (tr.s+k)
def Pd(pl:OG)(p:Int)(tr:Rn):∀k,(tB pl p tr k).length=pl.length
 |0=>rfl
 |k+1=>by rw[tB,za0];exact Pd pl p tr k
def abW{l:OG}:br l=l.length↔∀x∈l,x≠ -1:=by
 unfold br
 simp_all
def HK(a:At)(p:Int)(tr:Rn):At:={ a with rn:=.sl (gT (tB (aq a.rn.l) p tr tr.n.toNat)) }
def mxE(d:Dk)(a:At)(p:Int)(tr:Rn):Int:=
 if MD (aj d a) p tr≠0 then MD (aj d a) p tr else if 64<(gT (tB (aq a.rn.l) p tr tr.n.toNat)).length\/iW (HK a p tr)≠0 then 8 else 0
def mbL(l:OG)(pl:OG)(p:Int)(tr:Rn):Nat->OG
 |0=>l
 |k+1=>((mbL l pl p tr k).set (tr.s+k).toNat 1).set (pl[p.toNat+k]?.getD 0).toNat 0
def Pw(l pl:OG)(p:Int)(tr:Rn):∀k,(mbL l pl p tr k).length=l.length
 |0=>rfl
 |k+1=>by rw[mbL,za0,za0];exact Pw l pl p tr k
def MK(d:Dk)(a:At)(p:Int)(tr:Rn):Dk:=⟨HG d.aT (aq a.rn.l) p tr tr.n.toNat,K9 (λi=>((mbL (Ji d.mp d.n) (aq a.rn.l) p tr tr.n.toNat)[i]?.getD 0).toNat) d.n⟩
end Go.Dv.Try
end
