/- Own work: parts of the proof, shortened and laid together by a tool of our own. -/
import Derived.Test.YtmdfbbcifbgdnaaGreatP4
import Derived.KernelRfl
set_option linter.defProp false
set_option linter.unusedSimpArgs false
set_option linter.unusedVariables false
open List renaming getElem?_eq_getElem→zah, mem_of_getElem?→zag, length_map→zaw, getElem?_eq_some_iff→zaa, getElem?_map→za9, length_append→zad, mem_iff_getElem?→zaE, getElem?_eq_none→zaK, mem_singleton→zcS, take_add_one→zck, append_assoc→zaj, map_append→zbs, mem_cons→zax, length_take→zal, append_nil→zbf, take_of_length_le→za1, length_singleton→zbM, length_cons→zam, getElem?_cons_succ→zbI, length_set→za0, getElem?_set_self→zcm, getElem?_append_right→zak, pairwise_iff_getElem→zcW, getElem?_take_of_lt→zch, mem_map→zaX, filter_append→zbS, mem_append→zaA, mem_append_left→zb7, mem_cons_of_mem→zdB, not_mem_nil→zcp, getElem?_range→zbz, pairwise_singleton→zdC, filter_cons_of_pos→zdD, filter_cons_of_neg→zdE, mem_filter→zbn, mem_range'_1→zc4, flatMap_cons→zao, eq_nil_or_concat→zcT, concat_eq_append→zcU, take_length→zcV, mem_of_mem_take→zaL, mem_flatMap→zbA, map_set→zc1, map_map→zdG, ext_getElem?→zba, drop_of_length_le→zcX, map_cons→zau, any_eq_true→zdH, mem_append_right→zb5, nil_append→zaZ, getElem?_drop→zaB, sum_cons→zdr, foldl_append→zc0, getElem_mem→zcN, length_eq_zero_iff→zdJ, range_succ→zdj, filter_eq_nil_iff→zdK, drop_zero→zde, take_zero→zdL, length_filter_le→zdM, take_append_drop→zaD, range'_1_concat→zdN, pairwise_append→zdO, getElem?_set_ne→zct, map_congr_left→zbC, set_set→zdP, pairwise_cons→zdQ, getElem?_set→zaS, range'_succ→zdT, length_drop→zay, foldl_cons→zbg, mem_range'→zdV, nil_prefix→zdW
open And renaming intro→zcd
open Int renaming toNat_natCast→zaC, natCast_add→zdc, le_refl→zdF, add_assoc→zdI, zero_add→zdR, mul_add→zdS
open Option renaming getD_some→zbx
open Nat renaming le_refl→zai, zero_le→zbV, sub_self→zcH, not_lt_zero→zcq, lt_or_eq_of_le→zcb, le_of_lt_succ→zcl, le_of_not_lt→zdU, min_eq_left→zat
open Decidable renaming not_not→zb2
open Bool renaming false_eq_true→zbZ
open Array renaming toList_inj→zco
namespace Go.Dv.Try
open Go Go.Dv
def ata{v:Vo}{i:Int}(h:LI v i=0):wX v=0/\0<=i/\i<=(v.st.l.length:Int)-1:=by
 unfold LI at h;by_cases g:wX v=0
 ·refine⟨g,?_⟩;rw[if_neg (λh=>h g)]at h;split at h
  ·assumption
  ·exact absurd h ao
 ·rw[if_pos g]at h;exact sF
def U1.rb{v:Vo}(h:U1 v){a:At}(ha:a∈v.st.l):a.rn.l.length<=100000∧∀r∈a.rn.l,r.s= -1\/CM r:=by
 have hl:=(bZ (bc (h.op a ha)).1.rn).1;have hd:=(rX h.dk).2.1;refine⟨ab,λr hr=>?_⟩;rcases Bd (h.op a ha) r hr with h|⟨h,h',CA⟩
 ·exact .inl h
 ·exact .inr ⟨h,h',ab⟩
noncomputable def fm(v:Vo)(i:Int):List Rn:=open Classical in if LI v i≠0 then[]else Yd (ni v i).rn.l
def A8(ps:List PV)(r:RV):Prop:=∃(v:Vo) (i:Int),ps=[v.pv,pI i]/\OS v/\r=.tup [.fresh 37 2 ((fm v i).map Rn.pv),.pv (pI (LI v i))]
def agD:MT (ay [(63,c8 false ZQ),(64,c8 true H7)]) MG (c8 false A8):=by
 rintro _ K ⟨_,⟨v,i,rfl,h1,rfl⟩,hK⟩;have ho:ZQ [v.pv,pI i] _:=⟨v,i,rfl,h1,rfl⟩
 unfold fm at hK;by_cases he:LI v i=0
 case neg=>
  rw[if_pos he]at hK
  (repeat'((conv=>whnf);first|refine⟨_,ho,?_⟩|refine au he ?_|refine bT ?_|fail))<;>try(conv=>whnf)
  exact⟨[.fresh _ _ _,.pv (pI _)],⟨⟨rfl,rfl,rfl,rfl⟩,rfl,trivial⟩,trivial,hK⟩
 rw[if_neg (λh=>h he)]at hK;obtain⟨sM,hi⟩:=ata he;have hk:=P0 h1 sM;obtain⟨b,hb⟩:∃b,v.st.l[i.toNat]?=some b:=⟨_,zah ab⟩
 have eb:ni v i=b:=by unfold ni;rw[hb];rfl
 rw[eb]at hK;obtain⟨q1,q2⟩:=hk.rb (zag hb);have jg:H7 [v.pv,pI i] _:=⟨v,i,b,rfl,⟨hi.1,hb,q1,q2⟩,rfl⟩
 (repeat'((conv=>whnf);first|refine⟨_,ho,?_⟩|refine aw (λh=>h he) ?_|refine⟨_,jg,?_⟩|refine bT ?_|fail))<;>try(conv=>whnf)
 rw[he]at hK;exact⟨[.fresh _ _ _,.pv (pI _)],⟨⟨rfl,rfl,rfl,rfl⟩,rfl,trivial⟩,trivial,hK⟩
def avb:∀x:Fin 256,∀k:Fin 8,iz .andNot .u8 (x.val:Int) ((2^k.val:Nat):Int)=(((Po (UInt8.ofNat x.val) k.val 0).toNat:Nat):Int):=LM
def avh:∀x:Fin 256,∀k:Fin 8,iz .or .u8 (((Po (UInt8.ofNat x.val) k.val 0).toNat:Nat):Int) ((2^k.val:Nat):Int)=(((Po (UInt8.ofNat x.val) k.val 1).toNat:Nat):Int):=LM
def avk(b:UInt8){k:Nat}(h:k<8):iz .andNot .u8 (b.toNat:Int) ((2^k:Nat):Int)=((Po b k 0).toNat:Int):=by
 have:=avb ⟨b.toNat,b.toNat_lt⟩ ⟨k,h⟩;simpa using this
def avj(b:UInt8){k:Nat}(h:k<8):iz .or .u8 ((Po b k 0).toNat:Int) ((2^k:Nat):Int)=((Po b k 1).toNat:Int):=by
 have:=avh ⟨b.toNat,b.toNat_lt⟩ ⟨k,h⟩;simpa using this
def azs{a:Int}{K:Int->Prop}(h:0<=a/\a<8)(k:K ((2^a.toNat:Nat):Int)):0<=a∧∀r:Int,r=IntKind.u8.wrap (1*2^min a.toNat IntKind.u8.bits)->K r:=by
 refine⟨h.1,λr hr=>?_⟩;have e:IntKind.u8.wrap (1*2^min a.toNat IntKind.u8.bits)=((2^a.toNat:Nat):Int):=by
  have h1:a=0\/a=1\/a=2\/a=3\/a=4\/a=5\/a=6\/a=7:=ab;rcases h1 with rfl|rfl|rfl|rfl|rfl|rfl|rfl|rfl<;>decide
 rw[hr,e];exact k
def aps(xs:List AV)(σ:aF)(K:AV->aF->Prop):Prop:=
 ∃(ap:Bool) (B:List UInt8) (n i v:Int),xs=[.agg [.own 0,.pv (pI n)],.pv (pI i),.pv (pI v)]/\σ=[.row 5 1 ap (B.map aL)]/\(0<=i/\i<8*B.length/\B.length<=1000000/\0<=v/\v<=1)/\K (.tup []) [.row 5 1 ap ((aau B i.toNat v.toNat).map aL)]
def arj:gO (ay []) Fp (sB aps):=by
 rintro _ _ K ⟨ap,B,n,i,v,rfl,rfl,⟨h0,h1,h2,h3,h4⟩,hK⟩;have e1:(i/8).toNat=i.toNat/8:=ab;have e2:(i%8).toNat=i.toNat%8:=ab;have hB:∀x,B[(i/8).toNat]?=some x->(B.map aL).set (i/8).toNat (.int .u8 (iz .andNot .u8 (x.toNat:Int) ((2^(i%8).toNat:Nat):Int)))=(aau B i.toNat 0).map aL:=by
  intro x hx;rw[e1]at hx;unfold aau;rw[e1,e2,avk x ab,hx];exact oU
 (repeat'(refine iM ?_;first|refine azs ab ?_|refine aFZ ?_|refine de (λ_=>?_) (λ_=>?_)|refine l7 ab ?_|refine lW ab ?_|refine uM aA ?_|refine Q3 ab ?_|refine aJm ab (λ_ _ _=>?_)|refine bT ?_|refine zcd cu ?_|fail))<;>try(conv=>whnf)
 ·rename_i x hx _ hv;have hv:v=1:=ab;subst hv;rw[hB x hx];have hl:=aFK B i.toNat 0;rw[e1]at hx;have h0:(aau B i.toNat 0)[(i/8).toNat]?=some (Po x (i.toNat%8) 0):=by
   unfold aau;rw[e1,hx,zcm ab];rfl
  (repeat'(refine iM ?_;first|refine aFZ ?_|refine uM aA ?_|refine Q3 ab ?_|refine bT ?_|fail))<;>try(conv=>whnf)
  have e3:((aau B i.toNat 0).map aL).set (i/8).toNat (.int .u8 (iz .or .u8 ((Po x (i.toNat%8) 0).toNat:Int) ((2^(i%8).toNat:Nat):Int)))=(aau B i.toNat 1).map aL:=by
   unfold aau;rw[e1,e2,avj x ab,hx];rw[show PV.int .u8 ((Po x (i.toNat%8) 1).toNat:Int)=aL (Po x (i.toNat%8) 1)from rfl,oU,zdP];rfl
  rw[e3];exact hK
 ·rename_i x hx _ hv;have hv:v=0:=ab;subst hv;rw[hB x hx];exact hK
def asl{n:Int}(h:fx n≠0):fx n=2:=by
 unfold fx at h ⊢;split
 ·rename_i h';rw[if_pos h']at h;exact kN
 ·rfl
def aos(s:List UInt8)(n m:Int):Int:=if nu s n≠0 then nu s n else if fx m≠0 then fx m else if aJI (λi=>decide (bH s i=1)) m.toNat (n.toNat-m.toNat)then 18 else 0
def axA(s:List UInt8)(n m:Int):List UInt8:=if aos s n m=0 then VA (bH s) m.toNat else[]
def adt:Spec:=EM true false λps K=>∃(s:List UInt8) (n m:Int),ps=[.str s,pI n,pI m]/\(s.length<=1000000)/\K (.tup [.pv (.str (axA s n m)),.pv (pI (aos s n m))])
def ag2:MT (ay [(173,afd),(182,agu),(175,ah awJ),(183,sB aps)]) Ml adt:=by
 rintro _ K ⟨s,n,tt,rfl,hs,hK⟩;unfold axA aos at hK;by_cases he:nu s n=0
 case neg=>
  simp only[he,ne_eq,not_false_eq_true,if_true,if_false]at hK
  (repeat'(refine iM ?_;first|refine au ab ?_|refine bT ?_|refine⟨_,_,rfl,cU,?_⟩|fail))<;>try(conv=>whnf)
  (refine⟨_,?_,?_,hK⟩<;>repeat'(first|exact rfl|exact trivial|exact bD _|exact dn _|exact cr|refine⟨?_,?_⟩))
 obtain⟨h1,h2,h3,h4,h5⟩:=iR he;simp only[he,ne_eq,not_true_eq_false,if_false]at hK
 (repeat'(refine iM ?_;first|refine aw ab ?_|refine bT ?_|refine⟨_,_,rfl,cU,?_⟩|refine⟨_,rfl,?_⟩|fail))<;>try(conv=>whnf)
 refine⟨λh=>?_,λh=>?_⟩
 rotate_left
 ·simp only[h,not_false_eq_true,if_true,if_false,asl h]at hK
  (repeat'(refine iM ?_;first|refine au ab ?_|refine bT ?_|fail))<;>try(conv=>whnf)
  (refine⟨_,?_,?_,hK⟩<;>repeat'(first|exact rfl|exact trivial|exact bD _|exact dn _|exact cr|refine⟨?_,?_⟩))
 have ht:=as9 h;simp only[h,not_true_eq_false,if_false]at hK
 (repeat'(refine iM ?_;first|refine aw ab ?_|refine bT ?_|fail))<;>try(conv=>whnf)
 have hz:(ai (qO tt.toNat)).length=qO tt.toNat:=by simp[ai]
 have CG:qO tt.toNat<=512/\tt.toNat<=8*qO tt.toNat:=by unfold qO;omega
 refine⟨λm env σ=>∃(i:Nat) (B:List UInt8),(i+m=n/\B.length=qO tt.toNat/\(∀j:Nat,tt<=j->j<i->bH s j=0)∧∀j,bH B j=if j<i then bH s j else 0)/\σ=[.box 207 [.own 2,.pv (pI n)],.box 207 [.own 3,.pv (pI tt)],.row 5 1 false (s.map aL),.row 5 1 false (B.map aL)]/\env=[eN 2 tt,(8,.ref 0 0 0),(10,.ref 1 0 0),eN 29 n,eN 30 i],n.toNat,⟨0,ai (qO tt.toNat),⟨ab,hz,λj _ h=>ab,λj=>by rw[Ou,if_neg ab]⟩,rfl,rfl⟩,?_⟩;rintro m env σ ⟨i,B,⟨hi,hB,h0,hb⟩,rfl,rfl⟩
 (repeat'(refine iM ?_;first|refine bj ab ?_|refine de (λ_=>?_) (λ_=>?_)|refine yR ?_|refine⟨_,⟨_,_,_,rfl,cU,rfl⟩,?_⟩|refine⟨_,_,_,_,_,rfl,rfl,cU,?_⟩|fail))<;>try(conv=>whnf)
 ·rename_i _ kn;have kn:bH s i=0:=by simpa using kn
  refine⟨m-1,ab,i+1,B,⟨ab,hB,λj hj kJ=>?_,λj=>?_⟩,rfl,rfl⟩
  ·by_cases h:j=i
   ·rw[h];exact kn
   ·exact h0 j hj ab
  ·rw[hb];by_cases h:j=i
   ·subst h;simp[kn]
   ·by_cases h':j<i
    ·rw[if_pos h',if_pos ab]
    ·rw[if_neg h',if_neg ab]
 ·rename_i _ h1b hle;have h1b:bH s i=1:=by have:=mK s i;simp at h1b;omega
  have hh:aJI (λi=>decide (bH s i=1)) tt.toNat (n.toNat-tt.toNat)=true:=Ru.2 ⟨i,ab,ab,by simpa using h1b⟩;rw[if_pos hh]at hK
  (conv=>whnf)
  (refine⟨_,?_,?_,hK⟩<;>repeat'(first|exact rfl|exact trivial|exact bD _|exact dn _|exact cr|refine⟨?_,?_⟩))
 ·rename_i _ h1b hle;have h1b:bH s i=1:=by have:=mK s i;simp at h1b;omega
  refine⟨m-1,ab,i+1,aau B i 1,⟨ab,by simp[hB],λj hj kJ=>h0 j hj ab,λj=>?_⟩,rfl,rfl⟩;rw[ate ab (zai _),hb];by_cases h:j=i
  ·subst h;simp[h1b]
  ·rw[if_neg h];by_cases h':j<i
   ·rw[if_pos h',if_pos ab]
   ·rw[if_neg h',if_neg ab]
 ·have hi:i=n.toNat:=by omega
  subst hi;have hh:¬aJI (λi=>decide (bH s i=1)) tt.toNat (n.toNat-tt.toNat)=true:=λhh=>by
   obtain⟨j,CH,pr,tY⟩:=Ru.1 hh;rw[h0 j ab ab]at tY;cases tY
  have e:B=VA (bH s) tt.toNat:=by
   refine aFT (mK s) hB (λj hj=>?_) λj hj _=>?_
   ·rw[hb];by_cases h':j<n.toNat
    ·rw[if_pos h']
    ·rw[if_neg h'];by_cases h8:j<8*s.length
     ·exact(h5 j h8 ab).symm
     ·unfold bH;rw[zaK ab];simp
   ·rw[hb];by_cases h':j<n.toNat
    ·rw[if_pos h'];exact h0 j ab h'
    ·rw[if_neg h']
  rw[if_neg hh,if_pos rfl,<-e]at hK
  (conv=>whnf)
  (refine⟨_,?_,?_,hK⟩<;>repeat'(first|exact rfl|exact trivial|exact bD _|exact dn _|exact cr|refine⟨?_,?_⟩))
section
open Classical in
noncomputable def PX(v:Vo)(c lo hi:Int):Int:=if wX v≠0 then wX v else if lo<=c/\c<=hi then aos v.d.mp v.d.n c else 2
noncomputable def nh(v:Vo)(c:Int):List UInt8:=v.d.a_.take (min (v.d.n:Int) c*256).toNat++alf [0] (max 0 (c-v.d.n)*256).toNat
noncomputable def T8(v:Vo)(c lo hi:Int):Vo:=if PX v c lo hi≠0 then TZ else⟨⟨nh v c,axA v.d.mp v.d.n c⟩,.sl (v.st.l.map aB)⟩
def TM(ps:List PV)(r:RV):Prop:=∃(v:Vo) (c lo hi:Int),ps=[v.pv,pI c,pI lo,pI hi]/\(OS v/\0<=lo/\(wX v=0->hi<=3900))/\r=.tup [.pv (T8 v c lo hi).pv,.pv (pI (PX v c lo hi))]
def ah3:∀n,(alf [0] n).length=n
 |0=>rfl
 |n+1=>by simp[alf,ah3 n];try omega
set_option maxHeartbeats 4000000 in
def ag_:MT (ay [(74,c8 false gU),(92,bF bG),(68,ah dG),(66,ah gB),(90,c8 false Ks),(86,ah bA),(130,adt),(131,ah Lo)]) PF (c8 false TM):=by
 rintro _ K ⟨_,⟨v,c,lo,hi,rfl,⟨h1,h2,h3⟩,rfl⟩,hK⟩;have ho:gU [v.pv] _:=⟨v,rfl,h1,rfl⟩
 have Yk:=acx h1;have di:=P0 h1;unfold T8 PX at hK;generalize wX v=E at*;by_cases hE:E=0
 case neg=>
  simp only[if_pos hE]at hK
  (repeat'((conv=>whnf);first|refine⟨_,ho,?_⟩|refine⟨_,⟨_,_,_,rfl,rfl⟩,?_⟩|(refine au (by rw[Cc _ hE];exact hE) ?_)|(refine fe ?_;first|refine de (λ_=>?_) (λ_=>?_)|refine bT ?_|refine⟨_,⟨_,_,rfl,rfl⟩,?_⟩|refine⟨_,⟨[_,_],rfl,rfl⟩,?_⟩|fail)))<;>try(conv=>whnf)
  all_goals
   rw[Cc _ hE];exact⟨[.pv TZ.pv,.pv (pI _)],⟨rfl,rfl,trivial⟩,trivial,hK⟩
 subst hE;simp only[ne_eq,not_true_eq_false,if_false]at hK;by_cases hc:lo<=c/\c<=hi
 case neg=>
  simp only[if_neg hc]at hK;rw[if_pos ao]at hK
  (repeat'((conv=>whnf);first|refine⟨_,ho,?_⟩|refine⟨_,⟨_,_,_,rfl,rfl⟩,?_⟩|refine aw hc ?_|(refine au (by rw[CB ao];decide) ?_)|(refine fe ?_;first|refine bT ?_|refine⟨_,⟨_,_,rfl,rfl⟩,?_⟩|refine⟨_,⟨[_,_],rfl,rfl⟩,?_⟩|fail)))<;>try(conv=>whnf)
  rw[CB ao];exact⟨[.pv TZ.pv,.pv (pI 2)],⟨rfl,rfl,trivial⟩,trivial,hK⟩
 simp only[if_pos hc]at hK;have hv:=Yk rfl;have hk:=di rfl;have h3:=h3 rfl;have eh:Ks [v.pv] _:=⟨v,rfl,hv.own,rfl⟩
 obtain⟨d1,d2,d3⟩:=rX hk.dk;have hb:=h1.1;have mE:bA [v.d.pv] _:=⟨v.d,rfl,hb.1,rfl⟩
 have hn:v.d.n=v.d.a_.length/256:=rfl;unfold nh at hK;generalize v.d.n=N at*;by_cases hz:aos v.d.mp N c=0
 case neg=>
  rw[if_pos hz]at hK
  (repeat'((conv=>whnf);first|refine⟨_,ho,?_⟩|refine⟨_,⟨_,_,_,rfl,rfl⟩,?_⟩|refine au hc ?_|(refine aw (by rw[NO];exact λh=>h rfl) ?_)|refine⟨_,eh,?_⟩|refine⟨_,mE,?_⟩|refine⟨_,_,_,rfl,hb.2,?_⟩|refine au hz ?_|(refine fe ?_;first|refine bT ?_|refine⟨_,⟨_,_,rfl,rfl⟩,?_⟩|refine⟨_,⟨[_,_],rfl,rfl⟩,?_⟩|fail)))<;>try(conv=>whnf)
  exact⟨[.pv TZ.pv,.pv (pI _)],⟨rfl,rfl,trivial⟩,trivial,hK⟩
 rw[if_neg (λh=>h hz),hz]at hK;have ui:Lo [.str [0],pI (max 0 (c-N)*256)] _:=⟨[0],_,rfl,⟨ab,ab,ao⟩,rfl⟩
 have hlen:(((cut 0 (min (N:Int) c*256).toNat v.d.a_).length+(alf [0] (max 0 (c-N)*256).toNat).length:Nat):Int)<=9223372036854775807:=by
  rw[ah3];have:(cut 0 (min (N:Int) c*256).toNat v.d.a_).length<=v.d.a_.length:=by unfold cut;rw[zde,zal];omega
  have:=hb.1;omega
 (repeat'((conv=>whnf);first|refine⟨_,ho,?_⟩|refine⟨_,⟨_,_,_,rfl,rfl⟩,?_⟩|refine au hc ?_|(refine aw (by rw[NO];exact λh=>h rfl) ?_)|refine⟨_,eh,?_⟩|refine⟨_,mE,?_⟩|refine⟨_,_,_,rfl,hb.2,?_⟩|refine aw (λh=>h hz) ?_|refine⟨_,ui,?_⟩|refine zcd hlen ?_|(refine fe ?_;first|refine bj ab ?_|refine fQ ?_|refine MIN ?_|refine bT ?_|refine⟨_,⟨_,_,rfl,rfl⟩,?_⟩|refine wz ?_|refine⟨_,⟨[_,_],rfl,rfl⟩,?_⟩|fail)))<;>try(conv=>whnf)
 exact⟨[.pv (Vo.pv ⟨⟨_,_⟩,.sl _⟩),.pv (pI 0)],⟨rfl,rfl,trivial⟩,trivial,hK⟩
def IE(ps:List PV)(r:RV):Prop:=∃(v:Vo) (c:Int),ps=[v.pv,pI c]/\OS v/\r=.tup [.pv (T8 v c 1 v.d.n).pv,.pv (pI (PX v c 1 v.d.n))]
def afw:MT (ay [(86,ah bA),(85,c8 false TM)]) Nh (c8 false IE):=by
 rintro _ K ⟨_,⟨v,c,rfl,h1,rfl⟩,hK⟩;have mE:bA [v.d.pv] _:=⟨v.d,rfl,h1.1.1,rfl⟩
 have hr:TM [v.pv,pI c,pI 1,pI v.d.n] _:=⟨v,c,1,v.d.n,rfl,⟨h1,ab,λh=>by have:=(rX (P0 h1 h).dk).2.1;omega⟩,rfl⟩
 (repeat'((conv=>whnf);first|refine⟨_,mE,?_⟩|refine⟨_,hr,?_⟩|refine bT ?_|fail))<;>try(conv=>whnf)
 exact⟨[.pv (T8 v c 1 v.d.n).pv,.pv (pI _)],⟨rfl,rfl,trivial⟩,trivial,hK⟩
end
def alV(ps:List PV)(x:PV):Prop:=∃a b:Rn,ps=[a.pv,b.pv]/\True/\x=pI (apL a.n b.n)
def aq_:MT (ay [(128,ah Ts)]) Mp (ah alV):=by
 rintro _ K ⟨_,⟨a,b,rfl,-,rfl⟩,hK⟩;have hc:Ts [pI a.n,pI b.n] _:=⟨a.n,b.n,rfl,rfl⟩
 (repeat'((conv=>whnf);first|refine⟨_,hc,?_⟩|fail))<;>try(conv=>whnf)
 exact aG
def Ot(b:Rn):List Rn->Rn
 |[]=>b
 |x::l=>Ot (if b.n<x.n then x else b) l
def ara(b:Rn):∀(l:List Rn) (x:Rn),Ot b (l++[x])=if (Ot b l).n<x.n then x else Ot b l:=by
 intro l
 induction l generalizing b with
 |nil=>intro x;rfl
 |cons y l ih=>intro x;exact ih _ x
def ZD(b:Rn):∀l:List Rn,Ot b l=b\/Ot b l∈l:=by
 intro l
 induction l generalizing b with
 |nil=>exact .inl rfl
 |cons x l ih=>
  rcases ih (if b.n<x.n then x else b)with h|h
  ·unfold Ot;rw[h];split
   ·exact .inr aj
   ·exact .inl rfl
  ·exact .inr (by unfold Ot;simp[h])
def aoV:Spec:=EM true false λps K=>∃(b:Rn) (l:List Rn),ps=[.sl 2 ((b::l).map Rn.pv),.clo 80 []]/\l.length<=1000000/\K (.pv (Ot b l).pv)
def apt{a b:Int}:0<apL a b↔b<a:=by
 unfold apL;split
 ·exact⟨λh=>absurd h ao,λh=>ab⟩
 ·split
  ·rename_i h;exact⟨λ_=>h,λ_=>ao⟩
  ·rename_i h;exact⟨λg=>absurd g ao,λg=>absurd g h⟩
def ao1:MT (ay [(80,ah alV)]) dy aoV:=by
 rintro _ K ⟨b,l,rfl,hl,hK⟩;have hlen:(b::l).length=l.length+1:=rfl;have gJ:((b::l).map Rn.pv).length=l.length+1:=aj;have zW:((b::l).map Rn.pv)[(0:Int).toNat]?=some b.pv:=rfl;generalize hP:(b::l).map Rn.pv=P at*
 (repeat'((conv=>whnf);first|refine aw ab ?_|refine⟨_,⟨ab,zW⟩,?_⟩|refine dq λ_=>?_|refine bT ?_|fail))
 refine⟨λm env σ=>∃(i:Nat),(i+m=l.length)/\σ=[.box 37 [.pv (pI 0),.pv (pI 0)],.box 37 [.pv (pI (Ot b (l.take i)).s),.pv (pI (Ot b (l.take i)).n)]]/\env=[(0,.pv (.sl 2 P)),(1,.pv (.clo 80 [])),(4,.ref 0 0 0),(5,.ref 1 0 0),eN 6 ((i+1:Nat):Int)],l.length,⟨0,ab,rfl,rfl⟩,?_⟩;rintro m env σ ⟨i,hi,rfl,rfl⟩;by_cases aU:i<l.length
 case neg=>
  have:i=l.length:=ab;subst this;rw[zcV]
  (repeat'((conv=>whnf);first|refine aw ab ?_|refine dq λ_=>?_|refine bT ?_|fail))
  exact⟨.pv (Ot b l).pv,rfl,bD [Ot b l] (Ot b l).pv aj,hK⟩
 obtain⟨y,hy⟩:∃y,l[i]?=some y:=⟨_,zah aU⟩
 have hgn:P[((i+1:Nat):Int).toNat]?=some y.pv:=by rw[<-hP,zaC,za9,zbI,hy];rfl
 have e:Ot b (l.take (i+1))=if (Ot b (l.take i)).n<y.n then y else Ot b (l.take i):=by rw[zck,hy,show(some y).toList=[y]from rfl,ara]
 generalize Ot b (l.take i)=M at*;have hf:alV [y.pv,M.pv] _:=⟨y,M,rfl,trivial,rfl⟩
 by_cases hc:M.n<y.n
 ·rw[if_pos hc]at e
  (repeat'((conv=>whnf);first|refine au ab ?_|refine⟨_,⟨ab,hgn⟩,?_⟩|refine⟨_,hf,?_⟩|refine au (apt.2 hc) ?_|refine bj ab ?_|refine dq λ_=>?_|refine bT ?_|fail))
  exact⟨m-1,ab,i+1,ab,by rw[e],rfl⟩
 ·rw[if_neg hc]at e
  (repeat'((conv=>whnf);first|refine au ab ?_|refine⟨_,⟨ab,hgn⟩,?_⟩|refine⟨_,hf,?_⟩|refine aw (λh=>hc (apt.1 h)) ?_|refine bj ab ?_|refine dq λ_=>?_|refine bT ?_|fail))
  exact⟨m-1,ab,i+1,ab,by rw[e],rfl⟩
structure Sc where
 p:Int
 f:Int
 e:Int
 l:Int
def Sc.pv(x:Sc):PV:=.agg [pI x.p,pI x.f,pI x.e,pI x.l]
def Sc.flat(x:Sc):x.pv.flat:=λc hc=>by
 rcases hc with _|⟨_,_|⟨_,_|⟨_,_|⟨_,h⟩⟩⟩⟩<;>first|exact trivial|cases h
def akU:List Rn->Int
 |[]=>0
 |b::l=>(Ot b l).n
def XT(l:List At):Int:=(l.map λa=>((Yd a.rn.l).length:Int)).sum
noncomputable def WL(v:Vo):List Rn:=ae (aqZ v λ_=>True) (cf v).length
noncomputable def Zi(v:Vo):Sc:=⟨XT v.st.l,bI (WL v),(WL v).length,akU (WL v)⟩
noncomputable def NH(v:Vo):Sc:=open Classical in if wX v≠0 then⟨0,0,0,0⟩else Zi v
def ari{l:List At}{n:Nat}{a:At}(h:l[n]?=some a):XT (l.take (n+1))=XT (l.take n)+((Yd a.rn.l).length:Int):=by
 unfold XT;rw[zck,h];simp
def ary{B:Nat}:∀{l:List At},(∀a∈l,(Yd a.rn.l).length<=B)->0<=XT l/\XT l<=B*l.length
 |[],_=>by simp[XT]
 |a::l,h=>by
  have h1:=h a aj;obtain⟨h2,h3⟩:=ary (l:=l) λx hx=>h x iP
  have e:XT (a::l)=((Yd a.rn.l).length:Int)+XT l:=by simp[XT]
  rw[e,zam];refine⟨ab,?_⟩;have:(B:Int)*((l.length+1:Nat):Int)=B*l.length+B:=by rw[zdc,zdS];simp
  omega
def HW(ps:List PV)(r:RV):Prop:=∃v:Vo,ps=[v.pv]/\OS v/\r=.tup [.pv (NH v).pv,.pv (pI (wX v))]
set_option maxHeartbeats 4000000 in
def ah1:MT (ay [(74,c8 false gU),(77,bF amX),(76,c8 true aeM),(78,ah ajs),(80,ah alV),(79,aoV),(64,c8 true H7)]) Qb (c8 true HW):=by
 rintro _ K ⟨_,⟨v,rfl,h1,rfl⟩,hK⟩;have ho:gU [v.pv] _:=⟨v,rfl,h1,rfl⟩
 by_cases he:wX v=0
 case neg=>
  have e:NH v=⟨0,0,0,0⟩:=by unfold NH;rw[if_pos he]
  rw[e]at hK
  (repeat'((conv=>whnf);first|refine⟨_,ho,?_⟩|refine au he ?_|refine bT ?_|fail))
  exact⟨[.pv (Sc.pv ⟨0,0,0,0⟩),.pv (pI _)],⟨rfl,rfl,trivial⟩,⟨Sc.flat _,trivial,trivial⟩,hK⟩
 have e:NH v=Zi v:=by unfold NH;rw[if_neg (λh=>h he)]
 rw[e,he]at hK;have hk:=P0 h1 he;have aCy:=(rX hk.dk).2.1;have hlen:=hk.len;have gJ:(v.st.l.map At.pv).length=v.st.l.length:=zaw _;have aoA:aeM [v.pv,.clo 77 []] (.fresh 37 2 ((WL v).map Rn.pv)):=⟨v,_,_,rfl,⟨hk,.any⟩,rfl⟩
 obtain⟨eH,SL⟩:=ah9 (aqZ v λ_=>True) (cf v).length;rw[yx]at eH SL;have hF:(WL v).length<=512:=by unfold WL;rw[yx];omega
 have jE:∀q∈WL v,0<=q.n/\q.n<=100000:=λq hq=>by
  unfold WL at hq;rw[yx]at hq;have:=eH q hq;omega
 have z7:((WL v).map Rn.pv).length=(WL v).length:=zaw _;unfold Zi at hK;generalize WL v=F at*;have aHt:ajs [.sl 2 (F.map Rn.pv)] _:=⟨F,rfl,⟨ab,jE⟩,rfl⟩
 have ko:=agV jE;generalize bI F=S at*;have SF:∀a∈v.st.l,(Yd a.rn.l).length<=100000:=λa ha=>by
  obtain⟨q1,q2⟩:=hk.rb ha;have:=(arw q2 a.rn.l.length).2;rw[zcV]at this;omega
 have step:(F=[]/\akU F=0)∨∃b l,F=b::l/\akU F=(Ot b l).n:=by
  cases F with
  |nil=>exact .inl ⟨rfl,rfl⟩
  |cons b l=>exact .inr ⟨b,l,rfl,rfl⟩
 have rB:∀b l,F=b::l->l.length<=1000000:=λb l h=>by rw[h,zam]at hF;omega
 generalize akU F=L at*;rcases step with⟨jK,rfl⟩|⟨b,l,jK,rfl⟩<;>((repeat'((conv=>whnf);first|refine⟨_,ho,?_⟩|refine aw (λh=>h he) ?_|refine⟨_,aoA,?_⟩|refine⟨_,aHt,?_⟩|refine⟨b,l,by rw[jK],rB b l jK,?_⟩|refine aw (by rw[jK];simp;first|done|fail) ?_|refine au (by rw[jK,zam];omega) ?_|refine KP ?_|refine dq λ_=>?_|refine bT ?_|fail)))
 all_goals
  refine⟨λm env σ=>∃n:Nat,n+m=v.st.l.length/\σ=[.box 49 [.pv (pI 0),.pv (pI 0),.pv (pI 0),.pv (pI 0)],fq v,.box 49 [.pv (pI (XT (v.st.l.take n))),.pv (pI S),.pv (pI F.length),.pv (pI _)]]/\env=[(2,.ref 0 0 0),(4,.ref 1 0 0),(7,.ref 2 0 0),eN 34 v.st.l.length,eN 35 n],v.st.l.length,⟨0,ab,rfl,rfl⟩,?_⟩;rintro m env σ ⟨n,hn,rfl,rfl⟩;unfold fq;by_cases aU:n<v.st.l.length
  ·obtain⟨a,ha⟩:∃a,v.st.l[n]?=some a:=⟨_,zah aU⟩
   have HA:=zag ha;have qH:D4 v.st=.sl 11 (v.st.l.map At.pv):=Sl.zN ha;obtain⟨q1,q2⟩:=hk.rb HA;have jg:H7 [.agg [.str v.d.a_,.str v.d.mp,D4 v.st],pI n] _:=⟨v,n,a,rfl,⟨ab,by rw[zaC];exact ha,q1,q2⟩,rfl⟩
   have lk:=ary (l:=v.st.l.take n) (B:=100000) λx hx=>SF x (zaL hx)
   have Af:=SF a HA;have fM:=ari ha;rw[zal]at lk;have qG:((Yd a.rn.l).map Rn.pv).length=(Yd a.rn.l).length:=zaw _;generalize XT (v.st.l.take n)=P at*
   (repeat'((conv=>whnf);first|refine au ab ?_|refine⟨_,jg,?_⟩|refine bj ab ?_|refine bT ?_|fail))
   exact⟨m-1,ab,n+1,ab,by rw[fM,qG],rfl⟩
  ·(repeat'((conv=>whnf);first|refine aw ab ?_|refine bT ?_|fail))
   rw[za1 ab];exact⟨[.pv (Sc.pv ⟨XT v.st.l,S,F.length,_⟩),.pv (pI _)],⟨rfl,rfl,trivial⟩,⟨Sc.flat _,trivial,trivial⟩,hK⟩
def Nd(l:List At):Int:=(l.map λa=>((LZ (Dc a)).length:Int)).sum
def anU(l:List Rn):Int:=l.foldl (λm r=>max m r.n) 0
noncomputable def eJ(v:Vo):Sc:=⟨Nd v.st.l,bI (acZ v.d),(acZ v.d).length,anU (acZ v.d)⟩
def aqI{l:List At}{n:Nat}{a:At}(h:l[n]?=some a):Nd (l.take (n+1))=Nd (l.take n)+((LZ (Dc a)).length:Int):=by
 unfold Nd;rw[zck,h];simp
def aru{B:Nat}:∀{l:List At},(∀a∈l,(LZ (Dc a)).length<=B)->0<=Nd l/\Nd l<=B*l.length
 |[],_=>by simp[Nd]
 |a::l,h=>by
  have h1:=h a aj;obtain⟨h2,h3⟩:=aru (l:=l) λx hx=>h x iP
  have e:Nd (a::l)=((LZ (Dc a)).length:Int)+Nd l:=by simp[Nd]
  rw[e,zam];refine⟨ab,?_⟩;have:(B:Int)*((l.length+1:Nat):Int)=B*l.length+B:=by rw[zdc,zdS];simp
  omega
def aq5{l:List Rn}{n:Nat}{r:Rn}(h:l[n]?=some r):anU (l.take (n+1))=max (anU (l.take n)) r.n:=by
 unfold anU;rw[zck,h,Option.toList_some,zc0];rfl
def Ty(ps:List PV)(r:RV):Prop:=∃v:Vo,ps=[v.pv]/\U1 v/\r=.pv (eJ v).pv
set_option maxHeartbeats 4000000 in
def ahk:MT (ay [(19,c8 true A3),(84,c8 true abT)]) Wq (c8 true Ty):=by
 rintro _ K ⟨_,⟨v,rfl,hv,rfl⟩,hK⟩;obtain⟨h1,h2,h3,h4⟩:=hv.n8;have hlen:=hv.len;have sM:=hv.op;have pe:abT [v.d.pv] _:=⟨v.d,rfl,⟨ab,h2,h4,h3⟩,rfl⟩
 have e_:∀a∈v.st.l,(LZ (Dc a)).length<=1000:=λa ha=>by
  obtain⟨q1,q2,q3⟩:=Re (sM a ha);have:=(aoo (awf q3) (Dc a).length).2;rw[zcV]at this;have:=ajE a;omega
 obtain⟨eH,SL⟩:=ah9 (λc=>¬bH v.d.mp c=1) v.d.n;unfold eJ at hK;have jE:∀q∈acZ v.d,0<=q.n/\q.n<=512:=λq hq=>by have:=eH q hq;omega
 have z7:(acZ v.d).length<=512:=by unfold acZ;omega
 generalize acZ v.d=F at*;have rB:(F.map Rn.pv).length=F.length:=zaw _
 (conv=>whnf)
 refine⟨λm env σ=>∃n:Nat,n+m=v.st.l.length/\σ=[.box 26 [.pv (.str v.d.a_),.pv (.str v.d.mp),.pv (D4 v.st)],.box 49 [.pv (pI 0),.pv (pI 0),.pv (pI 0),.pv (pI 0)],.box 49 [.pv (pI (Nd (v.st.l.take n))),.pv (pI 0),.pv (pI 0),.pv (pI 0)]]/\env=[(1,.ref 0 0 0),(2,.ref 1 0 0),(3,.ref 2 0 0),eN 4 n],v.st.l.length,⟨0,ab,rfl,rfl⟩,?_⟩;rintro m env σ ⟨n,hn,rfl,rfl⟩;by_cases aU:n<v.st.l.length
 ·obtain⟨a,ha⟩:∃a,v.st.l[n]?=some a:=⟨_,zah aU⟩
  have HA:=zag ha;have qH:D4 v.st=.sl 11 (v.st.l.map At.pv):=Sl.zN ha;have Nl:=dX (f:=At.pv) ha;obtain⟨q1,q2,q3⟩:=Re (sM a HA);have jg:A3 [a.pv] _:=⟨a,rfl,⟨ab,q3,ab⟩,rfl⟩
  have lk:=aru (l:=v.st.l.take n) (B:=1000) λx hx=>e_ x (zaL hx)
  have Af:=e_ a HA;have fM:=aqI ha;rw[zal]at lk;have qG:((LZ (Dc a)).map Rn.pv).length=(LZ (Dc a)).length:=zaw _;generalize Nd (v.st.l.take n)=P at*;rw[qH]
  (repeat'((conv=>whnf);first|refine au ab ?_|refine⟨_,⟨ab,Nl⟩,?_⟩|refine⟨_,jg,?_⟩|refine bj ab ?_|refine dq λ_=>?_|refine bT ?_|fail))<;>try(conv=>whnf)
  exact⟨m-1,ab,n+1,ab,by rw[fM,qG],rfl⟩
 ·(repeat'((conv=>whnf);first|refine KP ?_|refine aw ab ?_|refine⟨_,pe,?_⟩|refine dq λ_=>?_|refine bT ?_|fail))<;>try(conv=>whnf)
  rw[za1 ab];generalize Nd v.st.l=P at*;refine⟨λm env σ=>∃n:Nat,n+m=F.length/\σ=[.box 49 [.pv (pI 0),.pv (pI 0),.pv (pI 0),.pv (pI 0)],.box 49 [.pv (pI P),.pv (pI (bI (F.take n))),.pv (pI F.length),.pv (pI (anU (F.take n)))],.row 37 2 true (F.map Rn.pv)]/\env=[(2,.ref 0 0 0),(3,.ref 1 0 0),(5,.own 2),eN 6 n],F.length,⟨0,ab,rfl,rfl⟩,?_⟩;rintro m env σ ⟨n,hn,rfl,rfl⟩;by_cases aU:n<F.length
  ·obtain⟨r,hr⟩:∃r,F[n]?=some r:=⟨_,zah aU⟩
   have n9:=dX (f:=Rn.pv) hr;have tZ:=jE r (zag hr);have hs:=aeq hr;have kj:=aq5 hr;have ko:=agV (l:=F.take n) λr hr=>by have:=jE r (zaL hr);omega
   rw[zal]at ko;generalize bI (F.take n)=S at*;generalize anU (F.take n)=M at*
   (repeat'((conv=>whnf);first|refine au ab ?_|refine zcd ⟨ab,ab⟩ ?_|refine⟨_,n9,?_⟩|refine bj ab ?_|refine fQ ?_|refine dq λ_=>?_|refine bT ?_|fail))<;>try(conv=>whnf)
   exact⟨m-1,ab,n+1,ab,by rw[hs,kj],rfl⟩
  ·(repeat'((conv=>whnf);first|refine aw ab ?_|refine dq λ_=>?_|refine bT ?_|fail))<;>try(conv=>whnf)
   rw[za1 ab];exact⟨.pv (Sc.pv ⟨P,_,_,_⟩),rfl,Sc.flat _,hK⟩
def gp(ps:List PV)(x:PV):Prop:=∃(v:Vo) (t:Rn),ps=[v.pv,t.pv]/\v.d.a_.length<=1000000/\x=pI (open Classical in if uR v.d t then 0 else 2)
def Hw:MT (ay [(31,ah bA),(32,bF bG)]) Ay (ah gp):=by
 rintro _ K ⟨_,⟨v,t,rfl,h,rfl⟩,hK⟩;have hn:v.d.n<=1000000:=so;have hc:bA [v.d.pv] (pI v.d.n):=⟨v.d,rfl,h,rfl⟩
 unfold uR at hK;generalize v.d.n=N at*
 (repeat'((conv=>whnf);first|refine⟨_,hc,?_⟩|refine⟨_,⟨_,_,_,rfl,rfl⟩,?_⟩|refine bj ab ?_|refine aN ?_|refine bP ?_|refine de (λ_=>?_) (λ_=>?_)|fail))<;>try(conv=>whnf)
 all_goals
  refine⟨.pv (pI _),bu ?_,trivial,hK⟩;split<;>omega
section
def ave(a:At):Prop:=a.rn.l.length<=66/\a.vl.length<=1000/\a.nm.length<=60
def ahf(v:Vo):Prop:=(v.d.a_.length<=20481/\v.d.mp.length<=20/\v.st.l.length<=10)∧∀a∈v.st.l,ave a
def Wr(ps:List PV)(p:Prop):Prop:=∃v:Vo,ps=[v.pv]/\p=ahf v
set_option maxHeartbeats 2000000 in
def aqF:MT (ay []) adK (bF Wr):=by
 rintro _ K ⟨_,⟨v,rfl,rfl⟩,hK⟩;have gJ:(v.st.l.map At.pv).length=v.st.l.length:=zaw _;by_cases hc:v.d.a_.length<=20481/\v.d.mp.length<=20/\v.st.l.length<=10
 case neg=>
  have hn:¬ahf v:=λh=>hc h.1
  (repeat'((conv=>whnf);first|refine KP ?_|refine au ab ?_|refine de (λ_=>?_) (λ_=>?_)|refine dq λ_=>?_|fail))<;>try(conv=>whnf)
  all_goals first
   |(exfalso;omega)
   |exact⟨.pv (.bool false),rfl,trivial,hK false (by simp only[hn,zbZ])⟩
 obtain⟨c1,c2,c3⟩:=hc
 (repeat'((conv=>whnf);first|refine KP ?_|refine aw ab ?_|refine dq λ_=>?_|fail))<;>try(conv=>whnf)
 refine⟨λm env σ=>∃n:Nat,(n+m=v.st.l.length∧∀j a,j<n->v.st.l[j]?=some a->ave a)/\σ=[.box 26 [.pv (.str v.d.a_),.pv (.str v.d.mp),.pv (D4 v.st)]]/\env=[(1,.ref 0 0 0),eN 3 n],v.st.l.length,⟨0,⟨ab,λj a h=>ab⟩,rfl,rfl⟩,?_⟩;rintro m env σ ⟨n,⟨hn,tT⟩,rfl,rfl⟩;by_cases aU:n<v.st.l.length
 ·obtain⟨a,ha⟩:∃a,v.st.l[n]?=some a:=⟨_,zah aU⟩
  have qH:D4 v.st=.sl 11 (v.st.l.map At.pv):=Sl.zN ha;have Nl:=dX (f:=At.pv) ha;have jm:(a.rn.l.map Rn.pv).length=a.rn.l.length:=zaw _;rw[qH];by_cases hf:ave a
  ·obtain⟨f1,f2,f3⟩:=hf
   (repeat'((conv=>whnf);first|refine KP ?_|refine au ab ?_|refine⟨_,⟨ab,Nl⟩,?_⟩|refine aw ab ?_|refine bj ab ?_|refine dq λ_=>?_|fail))<;>try(conv=>whnf)
   refine⟨m-1,ab,n+1,⟨ab,λj b hj hb=>?_⟩,rfl,rfl⟩;rcases zcb (zcl hj)with h1|h1
   ·exact tT j b h1 hb
   ·subst h1;rw[ha]at hb;cases hb;exact⟨f1,f2,f3⟩
  ·have hn:¬ahf v:=λh=>hf (h.2 a (zag ha))
   unfold ave at hf
   (repeat'((conv=>whnf);first|refine KP ?_|refine au ab ?_|refine⟨_,⟨ab,Nl⟩,?_⟩|refine de (λ_=>?_) (λ_=>?_)|refine dq λ_=>?_|fail))<;>try(conv=>whnf)
   all_goals first
    |(exfalso;omega)
    |exact⟨.pv (.bool false),rfl,trivial,hK false (by simp only[hn,zbZ])⟩
 ·have hy:ahf v:=⟨⟨c1,c2,c3⟩,λa ha=>by
   obtain⟨j,hj⟩:=jk.1 ha;exact tT j a (by have:=eT hj;omega) hj⟩
  (repeat'((conv=>whnf);first|refine KP ?_|refine aw ab ?_|refine dq λ_=>?_|fail))<;>try(conv=>whnf)
  exact⟨.pv (.bool true),rfl,trivial,hK true (by simp only[hy])⟩
def ahf.b{v:Vo}(h:ahf v):OS v/\(∀a∈v.st.l,a.rn.l.length<=1000000)/\eW v:=by
 obtain⟨⟨h1,h2,h3⟩,h4⟩:=h;refine⟨⟨⟨ab,ab⟩,λa ha=>by have:=(h4 a ha).2.2;omega,ab⟩,λa ha=>by have:=(h4 a ha).1;omega,ab,λa ha=>by have:=(h4 a ha).1;omega⟩
def OA(ps:List PV)(x:PV):Prop:=∃v:Vo,ps=[v.pv]/\(OS v∧∀a∈v.st.l,a.rn.l.length<=1000000)/\x=pI (wX v)
def aow:MT (ay [(23,c8 true H4)]) Jy (ah OA):=by
 rintro _ K ⟨_,⟨v,rfl,h,rfl⟩,hK⟩;have hc:H4 [v.pv] _:=⟨v,rfl,h,rfl⟩
 (repeat'((conv=>whnf);first|refine⟨_,hc,?_⟩|fail))<;>try(conv=>whnf)
 exact aG
open Classical in
noncomputable def ixE(v:Vo)(i:Int):Int:=if 0<=i/\i<=(v.st.l.length:Int)-1 then 0 else 6
def adG(ps:List PV)(x:PV):Prop:=∃(v:Vo) (i:Int),ps=[v.pv,pI i]/\v.st.l.length<=1000000/\x=pI (ixE v i)
def aq2:MT (ay [(32,bF bG)]) Li (ah adG):=by
 rintro _ K ⟨_,⟨v,i,rfl,h,rfl⟩,hK⟩;have gJ:(v.st.l.map At.pv).length=v.st.l.length:=zaw _;unfold ixE at hK
 (repeat'((conv=>whnf);first|refine KP ?_|refine⟨_,⟨_,_,_,rfl,rfl⟩,?_⟩|refine bj ab ?_|refine aN ?_|refine bP ?_|refine de (λ_=>?_) (λ_=>?_)|refine dq λ_=>?_|fail))<;>try(conv=>whnf)
 all_goals
  refine⟨.pv (pI _),bu ?_,trivial,hK⟩;split<;>omega
end
def aml{α β:Type}{f:α->β}{a b:Nat}{l:List α}:cut a b (l.map f)=(cut a b l).map f:=by simp[cut]
def acS(l:List Rn)(r:Rn)(i:Nat):aiC (l++[r]) i=(aiC l i||fR r i):=by simp[aiC]
def are(l:List Rn)(r:Rn):ki (aiC l) r=aiC (l++[r]):=by
 funext i;rw[acS];rfl
def amZ:aiC []=λ_=>false:=by funext i;rfl
def T7{n:Int}{l:List Rn}{i:Nat}{r:Rn}(h:l[i]?=some r):Kd n (aiC (l.take i)) (l.drop i)=if azh n r then(if aJI (aiC (l.take i)) r.s.toNat r.n.toNat then 23 else Kd n (aiC (l.take (i+1))) (l.drop (i+1)))else 2:=by
 have hi:i<l.length:=by
  by_cases hi:i<l.length
  ·exact hi
  ·rw[zaK ab]at h;cases h
 have e:l[i]=r:=by rw[zah hi]at h;exact Option.some.inj h
 rw[List.drop_eq_getElem_cons hi,e];simp only[Kd];rw[are,zck,h];rfl
def aoB{n:Int}{l:List Rn}{i:Nat}(h:l.length<=i)(t:Nat->Bool):Kd n t (l.drop i)=0:=by
 rw[List.drop_eq_nil_of_le h];rfl
def Tb(f:Nat->Nat)(l:List Rn)(v:Nat)(i:Nat):Nat:=if aiC l i then v else f i
def ath{f:Nat->Nat}(hf:∀i,f i<=1){l:List Rn}{v:Nat}(hv:v<=1)(i:Nat):Tb f l v i<=1:=by
 unfold Tb;split
 ·exact hv
 ·exact hf i
def XZ:Spec:=EM true false λps K=>∃(x:PV) (n:Int) (l:List Rn),ps=[.agg [x,pI n],.sl 2 (l.map Rn.pv)]/\(0<=n/\n<=4096)/\K (.pv (pI (NX l n)))
def agy:MT (ay [(170,bF bG),(195,ah2)]) yT XZ:=by
 rintro _ K ⟨x,n,l,rfl,⟨x3,hn⟩,hK⟩;unfold NX at hK;by_cases hl:64<l.length
 ·rw[if_pos hl]at hK
  (repeat'(refine iM ?_;first|refine au ab ?_|refine dq λ_=>?_|fail))<;>try(conv=>whnf)
  (refine⟨_,?_,?_,hK⟩<;>repeat'(first|exact rfl|exact trivial|exact bD _|exact dn _|exact cr|refine⟨?_,?_⟩))
 ·rw[if_neg hl]at hK
  (repeat'(refine iM ?_;first|refine aw ab ?_|refine dq λ_=>?_|refine wz ?_|fail))<;>try(conv=>whnf)
  refine⟨λm env σ=>∃i:Nat,(i+m=l.length/\Kd n (λ_=>false) l=Kd n (aiC (l.take i)) (l.drop i))/\σ=[.box 207 [.pv x,.pv (pI n)],.row 4 1 true ((cQ (aiC (l.take i)) n.toNat).map pB)]/\env=[(2,.ref 0 0 0),(5,.own 1),(16,.pv (.sl 2 (l.map Rn.pv))),eN 17 l.length,eN 18 i],l.length,⟨0,⟨ab,by rw[zdL,amZ];rfl⟩,by rw[zdL,amZ,<-ard,as_],rfl⟩,?_⟩;rintro m env σ ⟨i,⟨hi,he⟩,rfl,rfl⟩
  (repeat'(refine iM ?_;first|refine bj ab ?_|refine aN ?_|refine bP ?_|refine de (λ_=>?_) (λ_=>?_)|refine aii ab (λ_ _=>?_)|refine bT ?_|refine⟨_,⟨_,_,_,rfl,rfl⟩,?_⟩|refine wz ?_|refine zcd cu ?_|refine .inr ?_|fail))<;>try(conv=>whnf)
  rotate_left
  ·rw[he,T7 aA]at hK;simp[azh, *]at hK
   (refine⟨_,?_,?_,hK⟩<;>repeat'(first|exact rfl|exact trivial|exact bD _|exact dn _|exact cr|refine⟨?_,?_⟩))
  ·rw[he,T7 aA]at hK;simp only[azh, *,false_and,if_false]at hK
   (refine⟨_,?_,?_,hK⟩<;>repeat'(first|exact rfl|exact trivial|exact bD _|exact dn _|exact cr|refine⟨?_,?_⟩))
  ·rw[he,aoB ab]at hK
   (refine⟨_,?_,?_,hK⟩<;>repeat'(first|exact rfl|exact trivial|exact bD _|exact dn _|exact cr|refine⟨?_,?_⟩))
  rename_i _ r hr h1 h2;have e0:(r.s.toNat+((r.s+r.n).toNat-r.s.toNat))=r.s.toNat+r.n.toNat:=ab;rw[e0];have mE:(cut r.s.toNat (r.s.toNat+r.n.toNat) (cQ (aiC (l.take i)) n.toNat)).length=r.n.toNat:=by rw[awU aH];omega
  refine⟨cut r.s.toNat (r.s.toNat+r.n.toNat) (cQ (aiC (l.take i)) n.toNat),true,by rw[aml],ab,λb hb=>?_⟩;have hb:b=true↔aJI (aiC (l.take i)) r.s.toNat r.n.toNat=true:=by
   rw[hb,Ru,jk];constructor
   ·rintro⟨j,hj⟩;have aU:=eT hj;rw[aqo ab,bO ab]at hj;exact⟨r.s.toNat+j,ab,ab,Option.some.inj hj⟩
   ·rintro⟨j,h3,h4,h5⟩;refine⟨j-r.s.toNat,?_⟩;rw[aqo ab,bO ab,show r.s.toNat+(j-r.s.toNat)=j by omega,h5]
  cases b with
  |true=>
   rw[he,T7 aA,if_pos ⟨h1,h2⟩,if_pos (hb.1 rfl)]at hK
   (conv=>whnf)
   (refine⟨_,?_,?_,hK⟩<;>repeat'(first|exact rfl|exact trivial|exact bD _|exact dn _|exact cr|refine⟨?_,?_⟩))
  |false=>
   have hb:¬aJI (aiC (l.take i)) r.s.toNat r.n.toNat=true:=λh=>by have:=hb.2 h;cases this
   (repeat'(refine iM ?_;first|refine dq λ_=>?_|refine zcd cu ?_|fail))<;>try(conv=>whnf)
   have hlen:(cut r.s.toNat (r.s.toNat+((r.s+r.n).toNat-r.s.toNat)) ((cQ (aiC (l.take i)) n.toNat).map pB)).length=r.n.toNat:=by rw[e0,aml,zaw,mE]
   refine⟨λm' env σ=>∃k:Nat,(k+m'=r.n.toNat)/\σ=[.box 207 [.pv x,.pv (pI n)],.row 4 1 true ((cQ (λj=>aiC (l.take i) j||decide (r.s<=j/\(j:Int)<r.s+k)) n.toNat).map pB)]/\env=[(2,.ref 0 0 0),(5,.own 1),(8,.sub 1 1 r.s.toNat ((r.s+r.n).toNat-r.s.toNat)),(16,.pv (.sl 2 (l.map Rn.pv))),eN 17 l.length,eN 18 i,eN 52 (r.n.toNat:Nat),eN 53 k],r.n.toNat,⟨0,ab,?_,by rw[<-hlen];rfl⟩,?_⟩
   ·have:cQ (λj=>aiC (l.take i) j||decide (r.s<=j/\(j:Int)<r.s+(0:Nat))) n.toNat=cQ (aiC (l.take i)) n.toNat:=kT λj _=>by
     have:¬(r.s<=j/\(j:Int)<r.s+(0:Nat)):=ab;rw[decide_eq_false this,Bool.or_false]
    rw[this]
   ·rintro m' env σ ⟨k,hk,rfl,rfl⟩
    (repeat'(refine iM ?_;first|refine bj ab ?_|refine de (λ_=>?_) (λ_=>?_)|refine Vx ab ?_|refine bT ?_|refine zcd cu ?_|fail))<;>try(conv=>whnf)
    ·have aU:r.s.toNat+k<n.toNat:=by omega
     refine⟨m'-1,ab,k+1,ab,?_,rfl⟩;rw[zaC,oU,tg];refine congrArg (λt=>[_,dC.row _ _ _ (List.map pB t)]) (kT λj _=>?_);by_cases hj:j=r.s.toNat+k
     ·subst hj;simp;omega
     ·rw[if_neg hj];have:(r.s<=(j:Int)/\(j:Int)<r.s+(k:Nat))↔(r.s<=(j:Int)/\(j:Int)<r.s+(k+1:Nat)):=ab;rw[decide_eq_decide.2 this]
    ·refine⟨m-1,ab,i+1,⟨ab,?_⟩,?_,rfl⟩
     ·rw[he,T7 hr,if_pos ⟨h1,h2⟩,if_neg hb]
     ·refine congrArg (λt=>[_,dC.row _ _ _ (List.map pB t)]) (kT λj _=>?_);have:aiC (l.take (i+1)) j=(aiC (l.take i) j||fR r j):=by
       rw[zck,hr];exact acS _ _ _
      rw[this];have:(r.s<=(j:Int)/\(j:Int)<r.s+(k:Nat))↔(r.s<=(j:Int)/\(j:Int)<r.s+r.n):=ab;unfold fR;rw[decide_eq_decide.2 this]
def aov(xs:List AV)(σ:aF)(K:AV->aF->Prop):Prop:=
 ∃(ap:Bool) (B:List UInt8) (n:Int) (l:List Rn) (v:Nat),xs=[.agg [.own 0,.pv (pI n)],.pv (.sl 2 (l.map Rn.pv)),.pv (pI v)]/\σ=[.row 5 1 ap (B.map aL)]/\(0<=n/\n<=4096/\n<=8*B.length/\B.length<=1000000/\v<=1)/\
  ∀B':List UInt8,B'.length=B.length->(Ob (bH B) n l v=0→∀j,bH B' j=Tb (bH B) l v j)->K (.pv (pI (Ob (bH B) n l v))) [.row 5 1 ap (B'.map aL)]
def aoG:gO (ay [(226,XZ),(175,ah awJ),(183,sB aps)]) Fv (sB aov):=by
 rintro _ _ K ⟨ap,B,n,l,v,rfl,rfl,⟨h0,h1,h2,h3,h4⟩,hK⟩;unfold Ob at hK;by_cases he:NX l n=0
 case neg=>
  rw[if_pos he]at hK
  (repeat'(refine iM ?_;first|refine au ab ?_|refine⟨_,_,_,rfl,cU,?_⟩|fail))<;>try(conv=>whnf)
  exact hK B rfl λh=>absurd h he
 rw[if_neg (λh=>h he)]at hK;obtain⟨hl,di,AW⟩:=agU he
 (repeat'(refine iM ?_;first|refine aw ab ?_|refine dq λ_=>?_|refine⟨_,_,_,rfl,cU,?_⟩|fail))<;>try(conv=>whnf)
 refine⟨λm env σ=>∃(i:Nat) (B1:List UInt8),(i+m=l.length/\B1.length=B.length/\(∀r∈l.take i,aJI (λj=>decide (bH B j=v)) r.s.toNat r.n.toNat=false)∧∀j,bH B1 j=Tb (bH B) (l.take i) v j)/\σ=[.row 5 1 ap (B1.map aL),.box 207 [.own 0,.pv (pI n)]]/\env=[eN 2 v,(3,.ref 1 0 0),(17,.pv (.sl 2 (l.map Rn.pv))),eN 18 l.length,eN 19 i],l.length,⟨0,B,⟨ab,rfl,λr h=>bV,λj=>by simp[Tb,aiC]⟩,rfl,rfl⟩,?_⟩;rintro m env σ ⟨i,B1,⟨hi,hB,hh,hb⟩,rfl,rfl⟩
 (repeat'(refine iM ?_;first|refine de (λ_=>?_) (λ_=>?_)|refine aii ab (λ_ _=>?_)|refine bT ?_|fail))<;>try(conv=>whnf)
 ·rename_i r hr;obtain⟨Gw,CW⟩:=di r (zag hr);refine⟨λm' env σ=>∃(k:Nat) (B2:List UInt8),(k+m'=r.n.toNat/\B2.length=B.length/\aJI (λj=>decide (bH B j=v)) r.s.toNat k=false∧∀j,bH B2 j=if r.s.toNat<=j/\j<r.s.toNat+k then v else Tb (bH B) (l.take i) v j)/\σ=[.row 5 1 ap (B2.map aL),.box 207 [.own 0,.pv (pI n)],.box 37 [.pv (pI r.s),.pv (pI r.n)]]/\env=[eN 2 v,(3,.ref 1 0 0),(9,.ref 2 0 0),(17,.pv (.sl 2 (l.map Rn.pv))),eN 18 l.length,eN 19 i,eN 24 r.n,eN 25 k],r.n.toNat,⟨0,B1,⟨ab,hB,rfl,λj=>by rw[hb,if_neg ab]⟩,rfl,rfl⟩,?_⟩;rintro m' env σ ⟨k,B2,⟨hk,XC,hf,t_⟩,rfl,rfl⟩;have aK4:aiC (l.take i) (r.s.toNat+k)=true→¬((k:Int)<r.n):=by
   intro h aU;unfold aiC at h;rw[zdH]at h;obtain⟨a,ha,h'⟩:=h;obtain⟨q,hq⟩:=jk.1 ha;have rL:q<i:=by
    have:=eT hq;simp at this;omega
   rw[zch rL]at hq;have aJ9:=eT hq;have aym:=eT hr;have:=(zcW.1 AW) q i aJ9 aym rL;rw[zah aJ9]at hq;rw[zah aym]at hr;rw[Option.some.inj hq,Option.some.inj hr]at this;refine this (r.s.toNat+k) ⟨h',?_⟩;simp only[fR,decide_eq_true_eq];omega
  have ei:(r.s+(k:Int)).toNat=r.s.toNat+k:=ab;have Ue:(k:Int)<r.n->bH B2 (r.s+(k:Int)).toNat=bH B (r.s.toNat+k):=by
   intro aU;rw[ei,t_,if_neg ab];unfold Tb;rw[if_neg λh=>aK4 h aU]
  (repeat'(refine iM ?_;first|refine bj ab ?_|refine de (λ_=>?_) (λ_=>?_)|refine⟨_,⟨_,_,_,rfl,cU,rfl⟩,?_⟩|refine⟨_,_,_,_,_,rfl,rfl,cU,?_⟩|fail))<;>try(conv=>whnf)
  ·rename_i aU hc;rw[Ue aU]at hc;have hh:aJI (λj=>decide (bH B j=v)) r.s.toNat r.n.toNat=true:=Ru.2 ⟨r.s.toNat+k,ab,ab,aH⟩;have ha:(l.any λr=>aJI (λi=>decide (bH B i=v)) r.s.toNat r.n.toNat)=true:=zdH.2 ⟨r,zag hr,hh⟩;rw[if_pos ha]at hK;exact hK B2 XC λh=>bV
  ·rename_i aU hc;rw[Ue aU]at hc;refine⟨m'-1,ab,k+1,aau B2 (r.s+(k:Int)).toNat v,⟨ab,by simp[XC],?_,λj=>?_⟩,rfl,rfl⟩
   ·simp only[aJI,hf,Bool.false_or,decide_eq_false_iff_not];omega
   ·rw[ate ab h4,t_];by_cases hj:j=(r.s+(k:Int)).toNat
    ·rw[if_pos hj,if_pos ab]
    ·rw[if_neg hj];by_cases Gx:r.s.toNat<=j/\j<r.s.toNat+k
     ·rw[if_pos Gx,if_pos ab]
     ·rw[if_neg Gx,if_neg ab]
  ·refine⟨m-1,ab,i+1,B2,⟨ab,XC,λx hx=>?_,λj=>?_⟩,rfl,rfl⟩
   ·rw[zck,hr]at hx;rcases zaA.1 hx with hx|hx
    ·exact hh x hx
    ·simp at hx;subst hx;rw[show x.n.toNat=k by omega];exact hf
   ·rw[t_];unfold Tb;have:aiC (l.take (i+1)) j=(aiC (l.take i) j||fR r j):=by
     rw[zck,hr];exact acS _ _ _
    rw[this];have e:(r.s.toNat<=j/\j<r.s.toNat+k)↔fR r j=true:=by
     simp only[fR,decide_eq_true_eq];omega
    by_cases h:fR r j=true
    ·rw[if_pos (e.2 h),if_pos uQ]
    ·rw[if_neg (λh'=>h (e.1 h'))];have:fR r j=false:=ky;simp[this]
 ·have ei:i=l.length:=by omega
  subst ei;rw[zcV]at hh hb;have ha:(l.any λr=>aJI (λi=>decide (bH B i=v)) r.s.toNat r.n.toNat)=false:=by
   rw[List.any_eq_false];intro r hr;rw[hh r hr];simp
  rw[ha]at hK;exact hK B1 hB λ_=>hb
def TF(s:List UInt8)(n:Int)(l:List Rn)(v:Nat):List UInt8:=if aew s n l v=0 then VA (Tb (bH s) l v) n.toNat else[]
def Ye:Spec:=EM true false λps K=>∃(s:List UInt8) (n:Int) (l:List Rn) (v:Nat),ps=[.str s,pI n,.sl 2 (l.map Rn.pv),pI v]/\(s.length<=1000000/\v<=1)/\K (.tup [.pv (.str (TF s n l v)),.pv (pI (aew s n l v))])
def arE{n:Int}{f:Nat->Nat}{l:List Rn}{v:Nat}(h:Ob f n l v=0)(j:Nat)(hj:n.toNat<=j):aiC l j=false:=by
 unfold Ob at h;split at h
 ·rename_i h';exact absurd h h'
 ·rename_i h';obtain⟨_,h1,_⟩:=agU (Decidable.of_not_not h');cases hc:aiC l j with
  |false=>rfl
  |true=>
   unfold aiC at hc;obtain⟨r,hr,hi⟩:=zdH.1 hc;obtain⟨h2,h3⟩:=h1 r hr;simp only[fR,decide_eq_true_eq]at hi;omega
def agw:MT (ay [(173,afd),(190,sB aov)]) Ld Ye:=by
 rintro _ K ⟨s,n,l,v,rfl,⟨hs,hv⟩,hK⟩;unfold TF aew at hK;by_cases he:nu s n=0
 case neg=>
  rw[if_pos he,if_neg he]at hK
  (repeat'(refine iM ?_;first|refine au ab ?_|refine aw ab ?_|refine bT ?_|refine⟨_,_,rfl,cU,?_⟩|fail))<;>try(conv=>whnf)
  (refine⟨_,?_,?_,hK⟩<;>repeat'(first|exact rfl|exact trivial|exact bD _|exact dn _|exact cr|refine⟨?_,?_⟩))
 obtain⟨h1,h2,h3,h4,h5⟩:=iR he;simp only[he,ne_eq,not_true_eq_false,if_false]at hK
 (repeat'(refine iM ?_;first|refine au ab ?_|refine bT ?_|refine⟨_,_,rfl,cU,?_⟩|refine⟨_,_,_,_,_,rfl,rfl,cU,?_⟩|fail))<;>try(conv=>whnf)
 refine λB' hB hb=>?_
 by_cases hm:Ob (bH s) n l v=0
 ·have e:B'=VA (Tb (bH s) l v) n.toNat:=by
   refine aFT (ath (mK s) hv) ?_ (λj _=>hb hm j) λj hj Gx=>?_
   ·have:=abD h1;omega
   ·rw[hb hm];unfold Tb;rw[arE hm j hj];exact h5 j ab hj
  rw[if_pos hm,<-e,hm]at hK;rw[hm]
  (repeat'(refine iM ?_;first|refine aw ab ?_|refine yR ?_|fail))<;>try(conv=>whnf)
  (refine⟨_,?_,?_,hK⟩<;>repeat'(first|exact rfl|exact trivial|exact bD _|exact dn _|exact cr|refine⟨?_,?_⟩))
 ·rw[if_neg hm]at hK
  (repeat'(refine iM ?_;first|refine au ab ?_|fail))<;>try(conv=>whnf)
  (refine⟨_,?_,?_,hK⟩<;>repeat'(first|exact rfl|exact trivial|exact bD _|exact dn _|exact cr|refine⟨?_,?_⟩))
def Pf(ps:List PV)(r:RV):Prop:=∃(s:List UInt8) (n:Int) (l:List Rn),ps=[.str s,pI n,.sl 2 (l.map Rn.pv)]/\s.length<=1000000/\r=.tup [.pv (.str (TF s n l 1)),.pv (pI (aew s n l 1))]
def ag1:MT (ay [(136,Ye)]) PL (c8 true Pf):=by
 rintro _ K ⟨_,⟨s,n,l,rfl,h1,rfl⟩,hK⟩
 (repeat'((conv=>whnf);first|refine⟨s,n,l,1,rfl,⟨h1,ao⟩,?_⟩|fail))<;>try(conv=>whnf)
 exact⟨[.pv (.str _),.pv (pI _)],⟨rfl,rfl,trivial⟩,⟨trivial,trivial,trivial⟩,hK⟩
def Xh(v w:Vo)(m:Mv):Vo:=iO v ⟨w.d.a_,TF v.d.mp v.d.n [m.t] 1⟩ m.k.toNat (ni v m.k)
def swV(v w:Vo)(m:Mv):Vo:=iO (Xh v w m) (Xh v w m).d m.k.toNat (ni w m.k)
noncomputable def akj(v:Vo)(m:Mv):Int:=open Classical in if wX v≠0 then wX v else ub v m
noncomputable def afD(v:Vo)(m:Mv):List Vo:=open Classical in if akj v m≠0 then[]else[bp v,bp (Xh v (nX v m) m),bp (swV v (nX v m) m),bp (nX v m)]
def N7(ps:List PV)(r:RV):Prop:=∃(v:Vo) (m:Mv),ps=[v.pv,m.pv]/\OS v/\r=.tup [.fresh 26 3 ((afD v m).map Vo.pv),.pv (pI (akj v m))]
def apm{v:Vo}{m:Mv}(h:ub v m=0):0<=m.k/\m.k<=(v.st.l.length:Int)-1/\dJ v.d (ni v m.k) m.p m.t=0:=by
 unfold ub at h;split at h
 ·exact absurd h ao
 ·rename_i g;exact⟨(zb2.1 g).1,(zb2.1 g).2,h⟩
set_option maxHeartbeats 4000000 in
def af5:MT (ay [(74,c8 false gU),(99,c8 false Lq),(100,c8 false GC),(86,ah bA),(93,c8 true Pf),(90,c8 false Ks)]) NJ (c8 false N7):=by
 rintro _ K ⟨_,⟨v,m,rfl,h1,rfl⟩,hK⟩;have ho:gU [v.pv] _:=⟨v,rfl,h1,rfl⟩
 by_cases he:wX v=0
 case neg=>
  have e:akj v m=wX v:=by unfold akj;rw[if_pos he]
  have e2:afD v m=[]:=by unfold afD;rw[e,if_pos he]
  rw[e2,e]at hK
  (repeat'((conv=>whnf);first|refine⟨_,ho,?_⟩|refine au he ?_|refine bT ?_|fail))<;>try(conv=>whnf)
  exact⟨[.fresh _ _ _,.pv (pI _)],⟨⟨rfl,rfl,rfl,rfl⟩,rfl,trivial⟩,trivial,hK⟩
 have Yk:=acx h1 he;have uk:Lq [v.pv,m.pv] _:=⟨v,m,rfl,Yk.1,rfl⟩
 have e:akj v m=ub v m:=by unfold akj;rw[if_neg (λh=>h he)]
 by_cases hm:ub v m=0
 case neg=>
  have e2:afD v m=[]:=by unfold afD;rw[e,if_pos hm]
  rw[e2,e]at hK
  (repeat'((conv=>whnf);first|refine⟨_,ho,?_⟩|refine aw (λh=>h he) ?_|refine⟨_,uk,?_⟩|refine au hm ?_|refine bT ?_|fail))<;>try(conv=>whnf)
  exact⟨[.fresh _ _ _,.pv (pI _)],⟨⟨rfl,rfl,rfl,rfl⟩,rfl,trivial⟩,trivial,hK⟩
 have e2:afD v m=[bp v,bp (Xh v (nX v m) m),bp (swV v (nX v m) m),bp (nX v m)]:=by unfold afD;rw[e,if_neg (λh=>h hm)]
 rw[e2,e,hm]at hK;rw[hm]at uk;have kO:=aql Yk m;obtain⟨k0,k1,-⟩:=apm hm;have yJ:(nX v m).st.l.length=v.st.l.length:=by
  unfold nX;rw[if_neg (λh=>h hm)];exact za0
 generalize nX v m=w at*;obtain⟨b,hb⟩:∃b,v.st.l[m.k.toNat]?=some b:=⟨_,zah ab⟩
 obtain⟨c,hc⟩:∃c,w.st.l[m.k.toNat]?=some c:=⟨_,zah ab⟩
 have eb:ni v m.k=b:=by unfold ni;rw[hb];rfl
 have ec:ni w m.k=c:=by unfold ni;rw[hc];rfl
 have qH:D4 v.st=.sl 11 (v.st.l.map At.pv):=Sl.zN hb;have Ag:D4 w.st=.sl 11 (w.st.l.map At.pv):=Sl.zN hc;have hgb:(v.st.l.map At.pv)[m.k.toNat]?=some b.pv:=by rw[za9,hb];rfl
 have gW:(w.st.l.map At.pv)[m.k.toNat]?=some c.pv:=by rw[za9,hc];rfl
 have jV:v.pv=.agg [.str v.d.a_,.str v.d.mp,.sl 11 (v.st.l.map At.pv)]:=by unfold Vo.pv;rw[qH]
 have Ss:w.pv=.agg [.str w.d.a_,.str w.d.mp,.sl 11 (w.st.l.map At.pv)]:=by unfold Vo.pv;rw[Ag]
 have hwi:GC [v.pv,w.d.pv,pI m.k,b.pv] _:=⟨v,w.d,m.k,b,rfl,⟨⟨k0,ab⟩,Yk.1.2.1⟩,rfl⟩
 have mE:bA [v.d.pv] _:=⟨v.d,rfl,h1.1.1,rfl⟩
 have Ah:Pf [.str v.d.mp,pI v.d.n,.sl 2 ([m.t].map Rn.pv)] _:=⟨v.d.mp,v.d.n,[m.t],rfl,h1.1.2,rfl⟩
 have Aw:Xh v w m=⟨⟨w.d.a_,TF v.d.mp v.d.n [m.t] 1⟩,.sl (v.st.l.set m.k.toNat b)⟩:=by unfold Xh;rw[eb];rfl
 have azV:swV v w m=iO (Xh v w m) (Xh v w m).d m.k.toNat c:=by unfold swV;rw[ec]
 generalize hX:TF v.d.mp v.d.n [m.t] 1=X at*;have ayt:GC [(Xh v w m).pv,(Xh v w m).d.pv,pI m.k,c.pv] _:=⟨Xh v w m,(Xh v w m).d,m.k,c,rfl,⟨⟨k0,by rw[Aw];show _<(v.st.l.set _ _).length;rw[za0];omega⟩,by rw[Aw];show(v.st.l.set _ _).length<=_;rw[za0];exact Yk.1.2.1⟩,rfl⟩
 rw[<-azV]at ayt;have eh:∀x:Vo,(x.st.l.length<=100000∧∀a∈x.st.l,a.rn.l.length<=1000000)->Ks [x.pv] (.pv (bp x).pv):=λx h=>⟨x,rfl,h,rfl⟩
 have LO:v.st.l.set m.k.toNat b=v.st.l:=by
  obtain⟨g,rfl⟩:=zaa.1 hb;exact List.set_getElem_self g
 have o1:=eh v Yk.own;have o4:=eh w kO.own;have o2:=eh (Xh v w m) (by rw[Aw,LO];exact Yk.own);have o3:=eh (swV v w m) (by
  rw[azV,Aw,LO];refine⟨by show(v.st.l.set _ _).length<=_;rw[za0];exact Yk.own.1,λa ha=>?_⟩;rcases List.mem_or_eq_of_mem_set (show a∈v.st.l.set _ _ from ha)with ha|rfl
  ·exact Yk.own.2 a ha
  ·exact kO.own.2 a (zag hc))
 rw[Aw]at ayt o2;rw[jV]at ho uk hwi o1 ⊢;rw[Ss]at uk o4
 (repeat'((conv=>whnf);first|refine⟨_,ho,?_⟩|refine aw (λh=>h he) ?_|refine⟨_,uk,?_⟩|refine⟨_,⟨k0,hgb⟩,?_⟩|refine⟨_,hwi,?_⟩|refine⟨_,mE,?_⟩|refine⟨_,Ah,?_⟩|refine⟨_,⟨k0,gW⟩,?_⟩|refine⟨_,ayt,?_⟩|refine⟨_,o1,?_⟩|refine⟨_,o2,?_⟩|refine⟨_,o3,?_⟩|refine⟨_,o4,?_⟩|refine aw ab ?_|refine bT ?_|fail))<;>try(conv=>whnf)
 rw[Aw]at hK;exact⟨[.fresh _ _ _,.pv (pI _)],⟨⟨rfl,rfl,rfl,rfl⟩,rfl,trivial⟩,trivial,hK⟩
def arC(d:Dk)(a:At)(p:Int)(t:Rn):dJ d (aB a) p t=dJ d a p t:=FB
def arv(d:Dk)(a:At)(p:Int)(t:Rn):jM d (aB a) p t=jM d a p t:=FB
def arF(d:Dk)(a:At)(p:Int)(t:Rn):jG d (aB a) p t=jG d a p t:=FB
noncomputable def lmV(v:Vo)(m:Mv):Vo:=open Classical in if ub v m≠0 then TZ else bp (nX v m)
def Y_(ps:List PV)(r:RV):Prop:=∃(v:Vo) (m:Mv),ps=[v.pv,m.pv]/\Zb v/\r=.tup [.pv (lmV v m).pv,.pv (pI (ub v m))]
set_option maxHeartbeats 4000000 in
def ajn:MT (ay [(17,ah adG),(55,c8 false dK),(101,c8 false Lr),(15,c8 false qM)]) WI (c8 false Y_):=by
 rintro _ K ⟨_,⟨v,m,rfl,hv,rfl⟩,hK⟩;obtain⟨⟨h1,h2,h3⟩,h4⟩:=hv;have XM:adG [v.pv,pI m.k] _:=⟨v,m.k,rfl,ab,rfl⟩
 unfold ixE at XM;by_cases hk:0<=m.k/\m.k<=(v.st.l.length:Int)-1
 case neg=>
  have e1:ub v m=6:=by unfold ub;rw[if_pos hk]
  have e2:lmV v m=TZ:=by unfold lmV;rw[e1,if_pos ao]
  rw[e1,e2]at hK;rw[if_neg hk]at XM
  (repeat'((conv=>whnf);first|refine⟨_,XM,?_⟩|refine au ao ?_|refine bT ?_|fail))<;>try(conv=>whnf)
  exact⟨[.pv TZ.pv,.pv (pI 6)],⟨rfl,rfl,trivial⟩,trivial,hK⟩
 rw[if_pos hk]at XM;obtain⟨b,hb⟩:∃b,v.st.l[m.k.toNat]?=some b:=⟨_,zah ab⟩
 have kE:=zag hb;have E3:∀x∈v.st.l,x.rn.l.length<=1000000:=λx hx=>by have:=(bZ (h4 x hx)).1;omega
 have qH:D4 v.st=.sl 11 (v.st.l.map At.pv):=Sl.zN hb;have hg:(v.st.l.map At.pv)[m.k.toNat]?=some b.pv:=by rw[za9,hb];rfl
 have Aw:dK [b.pv] _:=⟨b,rfl,E3 b kE,rfl⟩
 have uk:Lr [v.d.pv,(aB b).pv,pI m.p,m.t.pv] _:=⟨v.d,aB b,m.p,m.t,rfl,⟨h1,h3 b kE⟩,rfl⟩
 rw[arC,arv,arF]at uk;have e0:ni v m.k=b:=by unfold ni;rw[hb];rfl
 have e1:ub v m=dJ v.d b m.p m.t:=by unfold ub;rw[if_neg (λh=>h hk),e0]
 have hA:dJ v.d b m.p m.t=0->(jG v.d b m.p m.t).rn.l.length<=1000000:=λhe=>by
  have hm:ub v m=0:=by rw[e1];exact he
  have:=(aql ⟨⟨h1,h2,h3⟩,h4⟩ m).own.2 (jG v.d b m.p m.t) (by
   unfold nX;rw[if_neg (λh=>h hm),e0];exact zag (i:=m.k.toNat) (by show(v.st.l.set _ _)[_]?=_;rw[zcm ab]))
  exact this
 have e2:lmV v m=if dJ v.d b m.p m.t≠0 then TZ else⟨jM v.d b m.p m.t,.sl ((v.st.l.map aB).set m.k.toNat (aB (jG v.d b m.p m.t)))⟩:=by
  unfold lmV;rw[e1];split
  ·rfl
  ·rename_i g;unfold nX;rw[e1,if_neg g,e0];show bp _=_;unfold bp iO;rw[show(Sl.sl (v.st.l.set m.k.toNat (jG v.d b m.p m.t))).l=v.st.l.set m.k.toNat (jG v.d b m.p m.t)from rfl,zc1]
 have hC:qM [v.pv] _:=⟨v,rfl,⟨ab,E3⟩,rfl⟩
 have jV:v.pv=.agg [.str v.d.a_,.str v.d.mp,.sl 11 (v.st.l.map At.pv)]:=by unfold Vo.pv;rw[qH]
 rw[e1,e2]at hK;rw[jV]at XM hC ⊢;clear e1 e2 e0 h4;generalize dJ v.d b m.p m.t=E at*;generalize jM v.d b m.p m.t=D at*;generalize jG v.d b m.p m.t=A at*;by_cases hE:E=0
 case neg=>
  rw[if_pos hE]at hK
  (repeat'((conv=>whnf);first|refine⟨_,XM,?_⟩|refine aw (λh=>h rfl) ?_|refine⟨_,⟨hk.1,hg⟩,?_⟩|refine⟨_,Aw,?_⟩|refine⟨_,uk,?_⟩|refine au hE ?_|refine bT ?_|fail))<;>try(conv=>whnf)
  exact⟨[.pv TZ.pv,.pv (pI _)],⟨rfl,rfl,trivial⟩,trivial,hK⟩
 rw[if_neg (λh=>h hE)]at hK;have hcA:dK [A.pv] _:=⟨A,rfl,hA hE,rfl⟩
 have bJ:((v.st.l.map aB).map At.pv).length=v.st.l.length:=aj;have KS:((v.st.l.map aB).map At.pv)[m.k.toNat]?=some (aB b).pv:=by rw[za9,za9,hb];rfl
 have LO:((v.st.l.map aB).map At.pv).set m.k.toNat (aB A).pv=((v.st.l.map aB).set m.k.toNat (aB A)).map At.pv:=by rw[zc1]
 (repeat'((conv=>whnf);first|refine⟨_,XM,?_⟩|refine aw (λh=>h rfl) ?_|refine⟨_,⟨hk.1,hg⟩,?_⟩|refine⟨_,Aw,?_⟩|refine⟨_,uk,?_⟩|refine aw (λh=>h hE) ?_|refine⟨_,hC,?_⟩|refine⟨_,hcA,?_⟩|refine zcd ⟨ab,ab⟩ ?_|refine⟨_,KS,?_⟩|refine bT ?_|fail))<;>try(conv=>whnf)
 have e3:Vo.pv ⟨D,.sl ((v.st.l.map aB).set m.k.toNat (aB A))⟩=.agg [.str D.a_,.str D.mp,.sl 11 (((v.st.l.map aB).map At.pv).set m.k.toNat (aB A).pv)]:=by rw[LO];rfl
 rw[e3,hE]at hK;exact⟨[.pv _,.pv (pI 0)],⟨rfl,rfl,trivial⟩,trivial,hK⟩
def R2(v:Vo)(i:Int)(h:0<=i/\i<=(v.st.l.length:Int)-1):ni (bp v) i=aB (ni v i):=by
 obtain⟨b,hb⟩:∃b,v.st.l[i.toNat]?=some b:=⟨_,zah ab⟩
 unfold ni;rw[hb,show(bp v).st.l=v.st.l.map aB from rfl,za9,hb];rfl
def akM(v:Vo)(m:Mv):ub (bp v) m=ub v m:=by
 unfold ub;rw[show(bp v).st.l.length=v.st.l.length from zaw _];split
 ·rfl
 ·rename_i h;rw[R2 v m.k (zb2.1 h)];exact arC _ _ _ _
def KF(v:Vo):bp (bp v)=bp v:=by
 unfold bp;simp only[show(Sl.sl (v.st.l.map aB)).l=v.st.l.map aB from rfl,zdG];rfl
def as2(v:Vo)(m:Mv):bp (nX (bp v) m)=bp (nX v m):=by
 unfold nX;rw[akM];split
 ·exact KF v
 ·rename_i h;have hm:=apm (zb2.1 h);rw[R2 v m.k ⟨hm.1,hm.2.1⟩];show bp (iO (bp v) (jM v.d (aB _) _ _) _ (jG v.d (aB _) _ _))=_;rw[arv,arF];unfold bp iO;simp only[show ∀l:List At,(Sl.sl l).l=l from λ_=>rfl,zc1,zdG];rfl
noncomputable def Yo(v:Vo)(s:Sl Mv):Vo×Int×Int:=if s.l.length<=300 then(if (PU v 0 s.l).2.2≠0 then(TZ,(PU v 0 s.l).2.1,(PU v 0 s.l).2.2)else(bp (PU v 0 s.l).1,s.l.length,0))else(TZ,0,8)
def ae7(v:Vo):∀(l:List Mv) (i:Int),(PU (bp v) i l).2=(PU v i l).2/\bp (PU (bp v) i l).1=bp (PU v i l).1:=by
 intro l
 induction l generalizing v with
 |nil=>exact λi=>⟨rfl,KF v⟩
 |cons m r ih=>
  intro i;unfold PU;rw[akM];split
  ·exact⟨rfl,KF v⟩
  ·have h1:=ih (nX (bp v) m) (i+1);have h2:=ih (nX v m) (i+1);rw[as2]at h1;exact⟨h1.1.symm.trans h2.1,h1.2.symm.trans h2.2⟩
def aaT{v:Vo}(h:Zb v):Zb (bp v):=by
 obtain⟨⟨h1,h2,h3⟩,h4⟩:=h;have hl:(bp v).st.l=v.st.l.map aB:=rfl;refine⟨⟨h1,by rw[hl,zaw];exact h2,λa ha=>?_⟩,λa ha=>?_⟩<;>
 ·rw[hl]at ha;obtain⟨b,hb,rfl⟩:=zaX.1 ha;first|exact h3 b hb|exact h4 b hb
def UP(ps:List PV)(r:RV):Prop:=∃(v:Vo) (s:Sl Mv),ps=[v.pv,OI s]/\(Zb v/\s.l.length<=1000000)/\r=.tup [.pv (Yo v s).1.pv,.pv (pI (Yo v s).2.1),.pv (pI (Yo v s).2.2)]
set_option maxHeartbeats 4000000 in
def ahr:MT (ay [(15,c8 false qM),(43,c8 false Y_)]) P4 (c8 false UP):=by
 rintro _ K ⟨_,⟨v,s,rfl,⟨hv,hs⟩,rfl⟩,hK⟩;have gJ:(s.l.map Mv.pv).length=s.l.length:=zaw _;unfold Yo at hK;by_cases hl:s.l.length<=300
 case neg=>
  rw[if_neg hl]at hK
  (repeat'((conv=>whnf);first|refine KP ?_|refine au ab ?_|refine dq λ_=>?_|refine bT ?_|fail))<;>try(conv=>whnf)
  exact⟨[.pv TZ.pv,.pv (pI 0),.pv (pI 8)],⟨rfl,rfl,rfl,trivial⟩,trivial,hK⟩
 rw[if_pos hl]at hK;have hC:qM [v.pv] _:=⟨v,rfl,⟨by have:=hv.own;omega,hv.own.2⟩,rfl⟩
 (repeat'((conv=>whnf);first|refine KP ?_|refine aw ab ?_|refine⟨_,hC,?_⟩|refine dq λ_=>?_|refine bT ?_|fail))<;>try(conv=>whnf)
 refine⟨λm env σ=>∃(n:Nat) (w:Vo),(n+m=s.l.length/\Zb w/\bp w=w/\(PU v 0 s.l).2=(PU w n (s.l.drop n)).2/\bp (PU v 0 s.l).1=bp (PU w n (s.l.drop n)).1)/\
  ((n=0/\w=bp v/\σ=[.box 26 [.pv (.str []),.pv (.str []),.pv (.nil 11)],.box 26 [.pv (.str v.d.a_),.pv (.str v.d.mp),.own 2],.row 41 11 true ((v.st.l.map aB).map At.pv)])\/
    σ=[.box 26 [.pv (.str []),.pv (.str []),.pv (.nil 11)],.box 26 [.pv (.str w.d.a_),.pv (.str w.d.mp),.pv (D4 w.st)]])/\
  env=[(1,.pv (OI s)),(4,.ref 0 0 0),(7,.ref 1 0 0),eN 8 n],s.l.length,⟨0,bp v,⟨ab,aaT hv,KF v,(ae7 v s.l 0).1.symm,(ae7 v s.l 0).2.symm⟩,.inl ⟨rfl,rfl,rfl⟩,rfl⟩,?_⟩
 rintro m env σ ⟨n,w,⟨hn,hw,how,vA,mU⟩,hσ,rfl⟩;have Ss:(bp v).pv=.agg [.str v.d.a_,.str v.d.mp,.sl 11 ((v.st.l.map aB).map At.pv)]:=rfl;by_cases aU:n<s.l.length
 ·obtain⟨a,ha⟩:∃a,s.l[n]?=some a:=⟨_,zah aU⟩
  have qH:OI s=.sl 4 (s.l.map Mv.pv):=Sl.zN ha;have Nl:=dX (f:=Mv.pv) ha;have uk:Y_ [w.pv,a.pv] _:=⟨w,a,rfl,hw,rfl⟩
  rw[drop_cons ha]at vA mU;have hB:PU w n (a::s.l.drop (n+1))=if ub w a≠0 then(w,(n:Int),ub w a)else PU (nX w a) (n+1) (s.l.drop (n+1)):=rfl;rw[hB]at vA mU;rw[qH];by_cases he:ub w a=0
  case neg=>
   rw[if_pos he]at vA;rw[vA,if_pos he]at hK;rcases hσ with⟨rfl,rfl,rfl⟩|rfl
   ·rw[Ss]at uk
    (repeat'((conv=>whnf);first|refine au ab ?_|refine⟨_,⟨ab,Nl⟩,?_⟩|refine⟨_,uk,?_⟩|refine dq λ_=>?_|refine bT ?_|fail))<;>try(conv=>whnf)
    exact⟨[.pv TZ.pv,.pv (pI _),.pv (pI _)],⟨rfl,rfl,rfl,trivial⟩,trivial,hK⟩
   ·(repeat'((conv=>whnf);first|refine au ab ?_|refine⟨_,⟨ab,Nl⟩,?_⟩|refine⟨_,uk,?_⟩|refine dq λ_=>?_|refine bT ?_|fail))<;>try(conv=>whnf)
    exact⟨[.pv TZ.pv,.pv (pI _),.pv (pI _)],⟨rfl,rfl,rfl,trivial⟩,trivial,hK⟩
  ·have hlv:lmV w a=bp (nX w a):=by unfold lmV;rw[if_neg (λh=>h he)]
   rw[hlv]at uk;rw[if_neg (λh=>h he)]at vA mU;have Gs:∀k:Nat,k=n+1->Zb (bp (nX w a))/\bp (bp (nX w a))=bp (nX w a)/\(PU v 0 s.l).2=(PU (bp (nX w a)) (k:Nat) (s.l.drop k)).2/\bp (PU v 0 s.l).1=bp (PU (bp (nX w a)) (k:Nat) (s.l.drop k)).1:=λk hk=>by
    subst hk;obtain⟨g1,g2⟩:=ae7 (nX w a) (s.l.drop (n+1)) ((n+1:Nat):Int);exact⟨aaT (aql hw a),KF _,by rw[g1];exact vA,by rw[g2];exact mU⟩
   obtain⟨k1,k2,k3,k4⟩:=Gs (n+1) rfl;rcases hσ with⟨rfl,rfl,rfl⟩|rfl
   ·rw[Ss]at uk
    (repeat'((conv=>whnf);first|refine au ab ?_|refine⟨_,⟨ab,Nl⟩,?_⟩|refine⟨_,uk,?_⟩|refine aw (λh=>h he) ?_|refine bj ab ?_|refine dq λ_=>?_|refine bT ?_|fail))<;>try(conv=>whnf)
    exact⟨m-1,ab,0+1,bp (nX (bp v) a),⟨ab,k1,k2,k3,k4⟩,.inr rfl,rfl⟩
   ·(repeat'((conv=>whnf);first|refine au ab ?_|refine⟨_,⟨ab,Nl⟩,?_⟩|refine⟨_,uk,?_⟩|refine aw (λh=>h he) ?_|refine bj ab ?_|refine dq λ_=>?_|refine bT ?_|fail))<;>try(conv=>whnf)
    exact⟨m-1,ab,n+1,bp (nX w a),⟨ab,k1,k2,k3,k4⟩,.inr rfl,rfl⟩
 ·rw[zcX ab]at vA mU;have hB:PU w n []=(w,0,0):=rfl;rw[hB]at vA mU;rw[vA,if_neg (λh=>h rfl),mU]at hK;simp only at hK;rw[how]at hK;rcases hσ with⟨rfl,rfl,rfl⟩|rfl
  ·(repeat'((conv=>whnf);first|refine KP ?_|refine aw ab ?_|refine dq λ_=>?_|refine bT ?_|fail))<;>try(conv=>whnf)
   exact⟨[.pv (bp v).pv,.pv (pI _),.pv (pI 0)],⟨rfl,rfl,rfl,trivial⟩,trivial,hK⟩
  ·(repeat'((conv=>whnf);first|refine KP ?_|refine aw ab ?_|refine dq λ_=>?_|refine bT ?_|fail))<;>try(conv=>whnf)
   exact⟨[.pv w.pv,.pv (pI _),.pv (pI 0)],⟨rfl,rfl,rfl,trivial⟩,trivial,hK⟩
def acq(ps:List PV)(p:Prop):Prop:=∃v:Vo,ps=[v.pv]/\eW v/\p=aqV v TZ
def amO:eW TZ:=⟨ao,λa ha=>by cases ha⟩
def aob:MT (ay [(34,bF Uq)]) ab_ (bF acq):=by
 rintro _ K ⟨_,⟨v,rfl,h,rfl⟩,hK⟩;have hq:Uq [v.pv,TZ.pv] _:=⟨v,TZ,rfl,⟨h,amO⟩,rfl⟩
 (repeat'((conv=>whnf);first|refine⟨_,hq,?_⟩|(refine λ(b:Bool) (hb:b=true↔_)=>?_)|fail))<;>try(conv=>whnf)
 exact⟨.pv (.bool _),rfl,trivial,hK _ hb⟩
def akH(ps:List PV)(r:RV):Prop:=∃v:Vo,ps=[v.pv]/\(L1 v∧∀a∈v.st.l,a.rn.l.length<=1000000)/\r=.tup [.fresh 9 1 (Px (ac4 v)),.pv (pB true)]
def arJ(l:List (List UInt8)):∀x∈Px l,x.flat:=by
 intro x hx;obtain⟨b,_,rfl⟩:=zaX.1 hx;exact trivial
set_option maxHeartbeats 4000000 in
def aou:MT (ay [(55,c8 false dK),(102,c8 true Fc)]) ME (c8 true akH):=by
 rintro _ K ⟨_,⟨v,rfl,⟨hv,hr⟩,rfl⟩,hK⟩;have hlen:=hv.1.2.2;have sM:=(AZ.1 hv.2).2.2.1;have mE:(ac4 v).length=v.st.l.length:=zaw _
 (conv=>whnf)
 refine⟨λm env σ=>∃n:Nat,n+m=v.st.l.length/\σ=[.box 26 [.pv (.str v.d.a_),.pv (.str v.d.mp),.pv (D4 v.st)],.row 9 1 true (Px ((ac4 v).take n))]/\env=[(1,.ref 0 0 0),(4,.own 1),eN 5 n],v.st.l.length,⟨0,ab,rfl,rfl⟩,?_⟩;rintro m env σ ⟨n,hn,rfl,rfl⟩;by_cases aU:n<v.st.l.length
 ·obtain⟨a,ha⟩:∃a,v.st.l[n]?=some a:=⟨_,zah aU⟩
  have HA:=zag ha;have qH:D4 v.st=.sl 11 (v.st.l.map At.pv):=Sl.zN ha;have Nl:=dX (f:=At.pv) ha;have h0:=sM a HA;have Aw:dK [a.pv] _:=⟨a,rfl,hr a HA,rfl⟩
  have CY:Fc [v.d.pv,(aB a).pv] _:=⟨v.d,aB a,rfl,⟨hv.1.1,hv.1.2.1 a HA⟩,rfl⟩
  have e1:auS v.d (aB a)=aV (ar v.d a):=by unfold auS;rw[kU,h0,YP];rfl
  rw[kU,h0,e1]at CY;have hl:(Px ((ac4 v).take n)).length=n:=by unfold Px;rw[zaw,zal];omega
  have ht:Px ((ac4 v).take (n+1))=Px ((ac4 v).take n)++[.str (aV (ar v.d a))]:=by
   rw[zck,show(ac4 v)[n]?=some (aV (ar v.d a)) by unfold ac4;rw[za9,ha];rfl];unfold Px;rw[zbs];rfl
  generalize Px ((ac4 v).take n)=T at*;rw[qH]
  (repeat'((conv=>whnf);first|refine au ab ?_|refine⟨_,⟨ab,Nl⟩,?_⟩|refine⟨_,Aw,?_⟩|refine⟨_,CY,?_⟩|refine zcd ⟨by rw[hl];simp;omega,by rw[hl];simp;omega⟩ ?_|refine bj ab ?_|refine aw ab ?_|refine dq λ_=>?_|refine bT ?_|fail))<;>try(conv=>whnf)
  exact⟨m-1,ab,n+1,ab,by rw[ht],rfl⟩
 ·(repeat'((conv=>whnf);first|refine KP ?_|refine aw ab ?_|refine dq λ_=>?_|fail))<;>try(conv=>whnf)
  rw[za1 ab];exact⟨[.fresh _ _ _,.pv (.bool true)],⟨⟨rfl,rfl,rfl,rfl⟩,rfl,trivial⟩,⟨arJ _,trivial,trivial⟩,hK⟩
def PI:At:=⟨128,[],0,0,false,[],0,.sl [⟨4,2⟩,⟨8,1⟩],768,700,700⟩
def Ta:At:=⟨128,[98],1,0,false,[],0,.sl [⟨6,2⟩],512,512,512⟩
def OF:Dk:=⟨ai 16384,255::1::ai 6⟩
def Dj:Vo:=⟨OF,.sl [PI,Ta]⟩
def Xx:Mv:=⟨1,0,⟨9,2⟩⟩
def arc:OF.n=64:=by
 unfold Dk.n OF;rw[aW]
def aAm:fH OF:=⟨by show(ai 16384).length<=_;rw[aW];decide,ao⟩
def azD:gm OF=0:=by
 unfold gm;rw[arc,show OF.a_=ai 16384 from rfl,aW,if_neg ao,if_neg ao];show nu (255::1::ai 6) 64=0;decide+kernel
def azg{l:List Int}(h:(∀a∈l,a<64/\(a≠ -1->bH (255::1::ai 6) a.toNat≠0))):pG OF l=0:=by
 unfold pG;rw[arc,if_neg,if_neg]
 ·rintro⟨a,ha,h1,h2⟩;exact(h a ha).2 h1 h2
 ·rintro⟨a,ha,h1⟩;have:=(h a ha).1;omega
def azz{a:At}(h1:oT a=0)(h2:a.rs=false)(h3:a.fl=0)(h4:∀x∈az a.rn.l,x<64/\(x≠ -1->bH (255::1::ai 6) x.toNat≠0))(h5:a.al=bt (az a.rn.l)*256/\((az a.rn.l).length:Int)=(a.sz+255)/256/\bt (az a.rn.l)=(az a.rn.l).length):aK OF a=0:=by
 have hs:iW a (az a.rn.l)=0:=by
  unfold iW;rw[if_pos];unfold lJ;rw[h3,if_neg ao];exact⟨h5.1,h5.2.1,.inr h5.2.2⟩
 unfold aK;rw[azD,h1,h2,azg h4,hs,h3];simp
def aAo:aK OF PI=0:=azz LM rfl rfl LM LM
def aza:aK OF Ta=0:=azz LM rfl rfl LM LM
def agt:wX Dj=0:=by
 refine AZ.2 ⟨azD,ao,λa ha=>?_,?_⟩
 ·rcases zax.1 ha with rfl|ha
  ·exact aAo
  ·rw[zcS]at ha;subst ha;exact aza
 ·refine zdQ.2 ⟨λb hb=>?_,zdC _ _⟩;rw[zcS]at hb;subst hb;intro c h1 h2;have e1:az PI.rn.l=[4,5,8]:=LM;have e2:az Ta.rn.l=[6,7]:=LM;rw[e1]at h1;rw[e2]at h2;simp only[zax,zcp,or_false]at h1 h2;omega
def adj:OS Dj:=by
 refine⟨aAm,λa ha=>?_,ao⟩;rcases zax.1 ha with rfl|ha
 ·decide
 ·rw[zcS]at ha;subst ha;decide
def azn:ub Dj Xx=0:=by
 have hk:0<=Xx.k/\Xx.k<=(Dj.st.l.length:Int)-1:=⟨ao,ao⟩
 have e0:Dj.st.l[Xx.k.toNat]?=some Ta:=zaa.2 ⟨ao,rfl⟩;have e:ni Dj Xx.k=Ta:=by unfold ni;rw[e0];rfl
 have e2:dJ Dj.d Ta Xx.p Xx.t=dJ OF Ta 0 ⟨9,2⟩:=rfl;unfold ub;rw[if_neg (λh=>h hk),e,e2,(azk aza).1];have hm:SJ (ar OF Ta) 0 ⟨9,2⟩=0:=by
  have dB:=arc;have e3:((cQ (df OF) 64).drop (9:Int).toNat).take (2:Int).toNat=[false,false]:=by
   have:df OF=λc=>decide (bH (255::1::ai 6) c=1):=rfl
   rw[this];decide+kernel
  have a2:Pv (ar OF Ta) 0 ⟨9,2⟩:=by
   have e:(ar OF Ta).d.n=64:=arc;unfold Pv;rw[e];decide
  have a4:(ar OF Ta).pl=[6,7]:=(show az Ta.rn.l=[6,7] by decide+kernel)
  have a5:¬true∈((cQ (df (ar OF Ta).d) (ar OF Ta).d.n).drop (9:Int).toNat).take (2:Int).toNat:=by
   have e:cQ (df (ar OF Ta).d) (ar OF Ta).d.n=cQ (df OF) 64:=by
    show cQ (df OF) OF.n=_;rw[dB]
   rw[e,e3];decide
  unfold SJ;rw[if_neg (λh=>nomatch h),if_neg (λh=>h a2),a4,if_neg ao,if_neg LM,if_neg a5]
 unfold fE;rw[if_neg (λh=>h hm),if_neg];rintro(h|h)
 ·revert h;decide+kernel
 ·revert h;decide+kernel
def alI{P:Nat->Prop}{k:Nat}:∀n,(∀c,c<n->(P c↔k<=c))->ae P n=if n<=k then[]else[⟨k,(n:Int)-k⟩]
 |0,_=>by simp[ae]
 |n+1,h=>by
  have ih:=alI n λc hc=>h c ab
  by_cases hn:k<=n
  ·rw[N0 ((h n ab).2 hn),ih];by_cases e:n<=k
   ·rw[if_pos e,if_neg ab,Hu];have:n=k:=ab;subst this;congr 2;omega
   ·rw[if_neg e,if_neg ab];show Vh ([]++[_]) _=_;rw[xw,if_pos (by simp only;omega)];simp only[zaZ];congr 2;omega
  ·rw[GJ (λg=>hn ((h n ab).1 g)),ih,if_pos ab,if_pos ab]
def akN{d:Dk}:∀{l:List At} {o:List Int} {i:Int},(FH d o i l).2=0→∀c,(ac5 o i l)[c]?.getD 0=yL c (o[c]?.getD 0) i l
 |[],o,i,_,c=>rfl
 |a::l,o,i,h,c=>by
  obtain⟨h0,o',ho,h2⟩:=aeW h;have e1:ac5 o i (a::l)=ac5 o' (i+1) l:=by
   show ac5 ((Wi o i (xM a.rn.l)).getD o) _ _=_;rw[ho];rfl
  have e2:yL c (o[c]?.getD 0) i (a::l)=yL c (if c∈Dc a then i else o[c]?.getD 0) (i+1) l:=rfl;rw[e1,e2,akN h2 c,aa8 ho c,R_ h0]
def ah7{v:Vo}(h:U1 v):cf v=b8 v:=by
 have h1:=yx v;have h2:=aj3 v;refine zba λc=>?_
 by_cases hc:c<v.d.n
 ·rw[aiZ hc];have h3:=akN h.ch c;have h4:(Fu v.d)[c]?.getD 0=xd v.d c:=by
   unfold Fu;rw[za9,zbz hc];rfl
  rw[h4]at h3;have h5:(cf v)[c]?=some ((cf v)[c]?.getD 0):=by
   rw[zah ab];rfl
  rw[h5];exact congrArg some h3
 ·rw[zaK ab,zaK ab]
def atp{d:Dk}{a:At}(h:aK d a=0){c:Nat}(hc:c∈xM a.rn.l):bH d.mp c=1/\c<d.n:=by
 have hr:=Bd h;have hp:=(abi λr ic=>(hr r ic).imp id (·.1)).1 hc;exact⟨QX h hp,by
  obtain⟨r,Ql,Wo⟩:=zbA.1 hc;have h5:=hr r Ql;unfold M9 at Wo;split at Wo
  ·exact absurd Wo aj
  ·rw[zc4]at Wo;omega⟩
def aie{c:Nat}:∀{l:List At} {o i:Int},(∀a∈l,c∉Dc a)->yL c o i l=o
 |[],_,_,_=>rfl
 |a::l,o,i,h=>by
  show yL c (if c∈Dc a then i else o) (i+1) l=o;rw[if_neg (h a aj)];exact aie λx hx=>h x iP
def aid{c:Nat}:∀{l:List At} {o i:Int},0<=i->((∃a∈l,c∈Dc a)\/0<=o)->0<=yL c o i l
 |[],_,_,_,h=>h.elim (λ⟨_,h,_⟩=>bV) id
 |a::l,o,i,hi,h=>by
  show 0<=yL c (if c∈Dc a then i else o) (i+1) l;refine aid ab ?_;by_cases g:c∈Dc a
  ·rw[if_pos g];exact .inr hi
  ·rw[if_neg g];rcases h with⟨x,hx,uu⟩|h
   ·rcases zax.1 hx with rfl|hx
    ·exact absurd uu g
    ·exact .inl ⟨x,hx,uu⟩
   ·exact .inr h
def axp{v:Vo}(h:U1 v){c:Nat}(hc:c<v.d.n):(∃a∈v.st.l,c∈Dc a)/\bH v.d.mp c=1/\0<=yL c (xd v.d c) 0 v.st.l\/(∀a∈v.st.l,c∉Dc a)/\yL c (xd v.d c) 0 v.st.l=xd v.d c:=by
 by_cases g:∃a∈v.st.l,c∈Dc a
 ·left;refine⟨g,?_,aid ab (.inl g)⟩;obtain⟨a,ha,Mq⟩:=g;rw[R_ (h.op a ha)]at Mq;exact(atp (h.op a ha) Mq).1
 ·right;have g2:∀a∈v.st.l,c∉Dc a:=λa ha Mq=>g ⟨a,ha,Mq⟩
  exact⟨g2,aie g2⟩
def atL{v:Vo}(h:U1 v){c:Nat}(hc:c<v.d.n):(cf v)[c]?=some (-1)↔¬bH v.d.mp c=1:=by
 rw[ah7 h,aiZ hc];have hb:xd v.d c=if bH v.d.mp c=1 then-2 else-1:=rfl
 rcases axp h hc with⟨_,h2,h3⟩|⟨_,h2⟩
 ·constructor
  ·intro e;have:=Option.some.inj e;omega
  ·intro e;exact absurd h2 e
 ·rw[h2,hb];constructor
  ·intro e g;rw[if_pos g]at e;have:=Option.some.inj e;omega
  ·intro g;rw[if_neg g]
def aiJ{P Q:Nat->Prop}:∀n,(∀c,c<n->(P c↔Q c))->ae P n=ae Q n
 |0,_=>rfl
 |n+1,h=>by
  have ih:=aiJ n λc hc=>h c ab
  by_cases g:P n
  ·rw[N0 g,N0 ((h n ab).1 g),ih]
  ·rw[GJ g,GJ (λk=>g ((h n ab).2 k)),ih]
def awy{v:Vo}(h:U1 v):WL v=acZ v.d:=by
 unfold WL acZ;rw[yx];refine aiJ _ λc hc=>?_
 unfold aqZ;rw[atL h hc];exact⟨λh=>h.1,λh=>⟨h,trivial⟩⟩
def Ua:∀(n:Nat) (p:List Rn) (s k:Int) (c:Nat),s+k=c->(List.range' c n).foldl (λ(acc:List Rn) (c:Nat)=>Vh acc (c:Int)) (p++[⟨s,k⟩])=p++[⟨s,k+n⟩]
 |0,p,s,k,c,_=>by simp
 |n+1,p,s,k,c,h=>by
  rw[zdT,zbg,xw,if_pos (by simp only;omega)];rw[Ua n p s (k+1) (c+1) ab];congr 3;omega
def asz{acc:List Rn}{r:Rn}(h:r.s= -1\/(0<=r.s/\1<=r.n)):(M9 r).foldl (λ(acc:List Rn) (c:Nat)=>Vh acc (c:Int)) acc=cg acc r:=by
 by_cases hs:r.s= -1
 ·unfold M9 cg;rw[if_pos hs,if_pos hs];rfl
 ·have h:=h.resolve_left hs;have e:M9 r=List.range' r.s.toNat r.n.toNat:=by unfold M9;rw[if_neg hs]
  obtain⟨n,hn⟩:∃n,r.n.toNat=n+1:=⟨r.n.toNat-1,ab⟩
  have ZI:((r.s.toNat:Nat):Int)=r.s:=ab;have LD:(1:Int)+(n:Nat)=r.n:=ab;rw[e,hn,zdT,zbg];rcases zcT acc with rfl|⟨p,q,rfl⟩
  ·rw[Hu,aac hs];have:=Ua n [] ((r.s.toNat:Nat):Int) 1 (r.s.toNat+1) ab;rw[zaZ]at this;rw[this,ZI,LD];rfl
  ·simp only[zcU];rw[xw,Sj hs];by_cases g:q.s+q.n=r.s
   ·rw[if_pos ab,if_pos g,Ua n p q.s (q.n+1) (r.s.toNat+1) ab];congr 3;omega
   ·rw[if_neg ab,if_neg g,Ua n (p++[q]) _ 1 (r.s.toNat+1) ab,ZI,LD]
def auW{l:List Rn}(h:∀r∈l,r.s= -1\/(0<=r.s/\1<=r.n)):LZ (xM l)=Yd l:=by
 have main:∀(l:List Rn) (acc:List Rn),(∀r∈l,r.s= -1\/(0<=r.s/\1<=r.n))->(xM l).foldl (λ(acc:List Rn) (c:Nat)=>Vh acc (c:Int)) acc=l.foldl cg acc:=by
  intro l
  induction l with
  |nil=>intro acc _;rfl
  |cons r l ih=>
   intro acc h;have e:xM (r::l)=M9 r++xM l:=zao;rw[e,zc0,asz (h r aj),ih _ λx hx=>h x iP];rfl
 exact main l [] h
def amk{d:Dk}{a:At}(h:aK d a=0):LZ (Dc a)=Yd a.rn.l:=by
 rw[R_ h];refine auW λr hr=>?_
 have h1:=Bd h r hr;have h2:=rG ((bZ (bc h).1.rn).2.2.2 r hr);rcases h1 with h1|h1
 ·exact .inl h1
 ·exact .inr ⟨h1.1,h2.1.1⟩
def amg:∀(l:List Rn) (b:Rn),(Ot b l).n=l.foldl (λm r=>max m r.n) b.n
 |[],b=>rfl
 |x::l,b=>by
  show(Ot (if b.n<x.n then x else b) l).n=(l.foldl (λm r=>max m r.n) (max b.n x.n))
  rw[amg l];congr 1;split<;>omega
def auw{l:List Rn}(h:∀r∈l,0<=r.n):akU l=anU l:=by
 cases l with
 |nil=>rfl
 |cons b l=>
  have hb:=h b aj;show(Ot b l).n=l.foldl (λm r=>max m r.n) (max 0 b.n);rw[amg,show max 0 b.n=b.n by omega]
def asm{d:Dk}:∀{l:List At},(∀a∈l,aK d a=0)->XT l=Nd l
 |[],_=>rfl
 |a::l,h=>by
  have ih:=asm (l:=l) λx hx=>h x iP
  unfold XT Nd at*;rw[zau,zau,zdr,zdr,ih,amk (h a aj)]
def alK{v:Vo}(h:U1 v):Zi v=eJ v:=by
 unfold Zi eJ;rw[awy h,asm h.op,auw λr hr=>by have:=(ah9 (λc=>¬bH v.d.mp c=1) v.d.n).1 r hr;omega]
def amj{c:Nat}:∀(l:List At) (o i:Int),yL c o i (l.map aB)=yL c o i l
 |[],_,_=>rfl
 |a::l,o,i=>amj l _ _
def avV(v:Vo):b8 (bp v)=b8 v:=by
 unfold b8;exact zbC λc _=>amj v.st.l _ _
def akG(ps:List PV)(r:RV):Prop:=ps=[]/\r=.pv Dj.pv
set_option maxHeartbeats 2000000 in
def an0:MT (ay [(97,ah Xs)]) S2 (c8 false akG):=by
 rintro _ K ⟨_,⟨rfl,rfl⟩,hK⟩;obtain⟨Z,hZ⟩:∃Z,Z=ai (16384:Int).toNat:=⟨_,rfl⟩
 have hl:Z.length=16384:=by rw[hZ,aW];rfl
 have e:Dj.pv=.agg [.str Z,.str (255::1::ai 6),.sl 11 [PI.pv,Ta.pv]]:=by rw[hZ];rfl
 have hz:Xs [pI 16384] (.str Z):=⟨16384,rfl,ab,by rw[hZ]⟩
 have Am:Xs [pI 6] (.str (ai 6)):=⟨6,rfl,ab,rfl⟩
 rw[e]at hK;clear hZ e;have hle:((([255,1]:List UInt8).length+(ai 6).length:Nat):Int)<=9223372036854775807:=by rw[aW];decide
 (repeat'((conv=>whnf);first|refine⟨_,hz,?_⟩|refine⟨_,Am,?_⟩|refine zcd hle ?_|refine bT ?_|fail))<;>try(conv=>whnf)
 exact FI
def azf:NH Dj=⟨3,55,1,55⟩:=by
 have hk:=P0 adj agt;have hf:acZ Dj.d=[⟨9,55⟩]:=by
  unfold acZ;rw[show Dj.d.n=64 from arc];have h:=alI (P:=λc=>¬bH Dj.d.mp c=1) (k:=9) 64 (by
   have e:Dj.d.mp=255::1::ai 6:=rfl;rw[e];intro c hc;have:∀c:Fin 64,(¬bH (255::1::ai 6) c.val=1↔9<=c.val):=LM;exact this ⟨c,hc⟩)
  rw[h,if_neg ao];rfl
 unfold NH;rw[if_neg (λh=>h agt),alK hk];unfold eJ;rw[hf];have:Nd Dj.st.l=3:=by
  show Nd [PI,Ta]=3;decide+kernel
 rw[this];rfl
def awb:LI Dj 0=0:=by
 unfold LI;rw[if_neg (λh=>h agt),if_pos ⟨ao,ao⟩]
def azv:fm Dj 0=[⟨4,2⟩,⟨8,1⟩]:=by
 unfold fm;rw[if_neg (λh=>h awb)];have e0:Dj.st.l[(0:Int).toNat]?=some PI:=rfl;have e:ni Dj 0=PI:=by unfold ni;rw[e0];rfl
 rw[e];decide+kernel
def azj:akj Dj Xx=0/\(afD Dj Xx).length=4:=by
 have e:akj Dj Xx=0:=by unfold akj;rw[if_neg (λh=>h agt)];exact azn
 refine⟨e,?_⟩;unfold afD;rw[if_neg (λh=>h e)];rfl
def awc:PX Dj 9 1 Dj.d.n=0/\PX Dj 8 1 Dj.d.n=18:=by
 have en:Dj.d.n=64:=arc;rw[en];have r9:aos (255::1::ai 6) 64 9=0:=LM;have r8:aos (255::1::ai 6) 64 8=18:=LM;constructor
 ·unfold PX;rw[if_neg (λh=>h agt),if_pos ⟨ao,ao⟩,en];exact r9
 ·unfold PX;rw[if_neg (λh=>h agt),if_pos ⟨ao,ao⟩,en];exact r8
def KL(ps:List PV)(x:PV):Prop:=ps=[]/\x=pB true
set_option maxHeartbeats 4000000 in
def an8:MT (ay [(62,c8 false akG),(22,c8 true HW),(14,c8 false A8),(42,c8 false N7),(27,c8 false IE),(18,bF jW)]) WC (ah KL):=by
 rintro _ K ⟨_,⟨rfl,rfl⟩,hK⟩;have lQ:akG [] (.pv Dj.pv):=⟨rfl,rfl⟩
 have ed:HW [Dj.pv] (.tup [.pv (NH Dj).pv,.pv (pI (wX Dj))]):=⟨Dj,rfl,adj,rfl⟩
 have hpc:A8 [Dj.pv,pI 0] _:=⟨Dj,0,rfl,adj,rfl⟩
 have fM:N7 [Dj.pv,.agg [pI 1,pI 0,pI 9,pI 2]] _:=⟨Dj,Xx,rfl,adj,rfl⟩
 have h9:IE [Dj.pv,pI 9] _:=⟨Dj,9,rfl,adj,rfl⟩
 have h8:IE [Dj.pv,pI 8] _:=⟨Dj,8,rfl,adj,rfl⟩
 obtain⟨s1,s2⟩:=azj;rw[agt,azf]at ed;rw[azv,awb]at hpc;rw[s1]at fM;rw[awc.1]at h9;rw[awc.2]at h8;have qH:((afD Dj Xx).map Vo.pv).length=4:=by rw[zaw];exact s2
 generalize (afD Dj Xx).map Vo.pv=L at*;generalize T8 Dj 9 1 Dj.d.n=X9 at*;generalize T8 Dj 8 1 Dj.d.n=X8 at*;generalize Dj=V at*;have QL:jW [.sl 2 [.agg [pI 4,pI 2],.agg [pI 8,pI 1]],.sl 2 [.agg [pI 4,pI 2],.agg [pI 8,pI 1]]] _:=⟨.sl [⟨4,2⟩,⟨8,1⟩],.sl [⟨4,2⟩,⟨8,1⟩],rfl,ao,rfl⟩
 (repeat'((conv=>whnf);first|refine⟨_,lQ,?_⟩|refine⟨_,ed,?_⟩|refine⟨_,hpc,?_⟩|refine⟨_,fM,?_⟩|refine⟨_,h9,?_⟩|refine⟨_,h8,?_⟩|refine⟨_,QL,?_⟩|refine au rfl ?_|refine au ab ?_|refine dq λ_=>?_|refine bT ?_|fail))<;>try(conv=>whnf)
 exact⟨.pv (pB true),rfl,trivial,hK⟩
def aqa{d:Dk}:∀(l:List At) (o:List Int) (i:Int),FH d o i (l.map aB)=FH d o i l
 |[],_,_=>rfl
 |a::l,o,i=>by
  rw[zau];unfold FH;rw[kU,awk];split
  ·rfl
  ·split
   ·rfl
   ·exact aqa l _ _
def amC(v:Vo):ZX (bp v)=ZX v:=by
 unfold ZX;rw[show(bp v).st.l=v.st.l.map aB from rfl,zaw,aqa];rfl
def x_(v:Vo):wX (bp v)=wX v:=by unfold wX;rw[amC]
def Og{v:Vo}(h:OS v):OS (bp v):=by
 refine⟨h.1,λa ha=>?_,by show(v.st.l.map aB).length<=_;rw[zaw];exact h.2.2⟩;obtain⟨b,hb,rfl⟩:=zaX.1 (show a∈v.st.l.map aB from ha);exact h.2.1 b hb
def av1{v:Vo}(h:eW v):eW (bp v):=by
 refine⟨by show(v.st.l.map aB).length<=_;rw[zaw];exact h.1,λa ha=>?_⟩;obtain⟨b,hb,rfl⟩:=zaX.1 (show a∈v.st.l.map aB from ha);exact h.2 b hb
def CU(l:List Bool)(a:Nat):Nat->Nat
 |0=>0
 |j+1=>CU l a j+mS (l[a+j]?.getD false)*2^j
def DS(l:List Bool)(a:Nat):∀j,CU l a j<2^j
 |0=>Nat.zero_lt_succ _
 |j+1=>by
  have:=DS l a j;unfold CU mS;rw[Nat.pow_succ];split<;>omega
def Eg{l:List Bool}{a j:Nat}(h:l.length<=a+j):∀k,CU l a (j+k)=CU l a j
 |0=>rfl
 |k+1=>by
  show CU l a (j+k)+mS (l[a+(j+k)]?.getD false)*2^(j+k)=_;have e:l[a+(j+k)]?=none:=zaK ab;rw[Eg h k,e];simp[mS]
def EU(l:List Bool)(a:Nat){i:Nat}(hi:i<8):CU l a 8/2^i%2=mS (l[a+i]?.getD false):=by
 have main:∀(b0 b1 b2 b3 b4 b5 b6 b7:Bool) (i:Fin 8),(((((((((0+mS b0*2^0)+mS b1*2^1)+mS b2*2^2)+mS b3*2^3)+mS b4*2^4)+mS b5*2^5)+mS b6*2^6)+mS b7*2^7)/2^i.val%2)=mS (([b0,b1,b2,b3,b4,b5,b6,b7]:List Bool)[i.val]?.getD false):=LM;have h:=main (l[a+0]?.getD false) (l[a+1]?.getD false) (l[a+2]?.getD false) (l[a+3]?.getD false) (l[a+4]?.getD false) (l[a+5]?.getD false) (l[a+6]?.getD false) (l[a+7]?.getD false) ⟨i,hi⟩;refine Eq.trans h ?_;have h2:i=0\/i=1\/i=2\/i=3\/i=4\/i=5\/i=6\/i=7:=ab;rcases h2 with rfl|rfl|rfl|rfl|rfl|rfl|rfl|rfl<;>rfl
def YV(l:List Bool)(k:Nat):List UInt8:=(List.range k).map λi=>UInt8.ofNat (CU l (8*i) 8)
def C4(l:List Bool)(k:Nat):(YV l k).length=k:=by simp[YV]
def E7(l:List Bool):YV l (qO l.length)=mG l:=by
 have pD:∀j,j<8*qO l.length->bH (YV l (qO l.length)) j=mS (l[j]?.getD false):=λj hj=>by
  unfold bH;have h1:(YV l (qO l.length))[j/8]?=some (UInt8.ofNat (CU l (8*(j/8)) 8)):=by
   unfold YV;rw[za9,zbz ab];rfl
  have h2:=DS l (8*(j/8)) 8;rw[h1,zbx,UInt8.toNat_ofNat',Nat.mod_eq_of_lt h2,EU l _ ab,show 8*(j/8)+j%8=j by omega]
 refine aFT (λi=>Jj _) (C4 _ _) (λj hj=>pD j (by unfold qO;omega)) λj hj Gx=>?_
 rw[C4]at Gx;rw[pD j Gx];rw[zaK hj];rfl
def kx(ps:List PV)(x:PV):Prop:=∃l:List Bool,ps=[.sl 1 (l.map pB)]/\l.length<=1000000/\x=.str (mG l)
set_option maxHeartbeats 4000000 in
def O3:MT (ay [(107,ah Ci),(129,ah jQ),(137,ah M0)]) rV (ah kx):=by
 rintro _ K ⟨_,⟨l,rfl,hl,rfl⟩,hK⟩;rw[<-E7]at hK;have gJ:(l.map pB).length=l.length:=zaw _
 (conv=>whnf)
 refine⟨λm env σ=>∃k:Nat,(k+m=qO l.length)/\σ=[]/\env=[(0,.pv (.sl 1 (l.map pB))),(3,.pv (.str (YV l k))),eN 4 ((8*k:Nat):Int)],qO l.length,⟨0,ab,rfl,rfl⟩,?_⟩;rintro m env σ ⟨k,hk,rfl,rfl⟩;have h8:qO l.length=(l.length+7)/8:=rfl;by_cases aU:k<qO l.length
 case neg=>
  (repeat'((conv=>whnf);first|refine aw ab ?_|refine dq λ_=>?_|fail))<;>try(conv=>whnf)
  rw[show k=qO l.length by omega];exact bM
 (repeat'((conv=>whnf);first|refine au ab ?_|refine dq λ_=>?_|fail))<;>try(conv=>whnf)
 refine⟨λm2 env σ=>∃j:Nat,(j+m2=8)/\σ=[]/\env=[(0,.pv (.sl 1 (l.map pB))),(3,.pv (.str (YV l k))),eN 4 ((8*k:Nat):Int),eN 5 ((CU l (8*k) j:Nat):Int),eN 6 j],8,⟨0,ab,rfl,rfl⟩,?_⟩;rintro m2 env σ ⟨j,hj,rfl,rfl⟩;have yJ:=DS l (8*k) j;have HU:=DS l (8*k) 8;have hp:2^j<=2^8:=Nat.pow_le_pow_right ao ab;have hle:M0 [pI ((CU l (8*k) 8:Nat):Int),pI (1:Nat)] _:=⟨_,1,rfl,⟨ab,ab,ao⟩,rfl⟩
 have hz:aJ ((CU l (8*k) 8:Nat):Int) 1=[UInt8.ofNat (CU l (8*k) 8)]:=by
  show[lV _]=_;rw[show(((CU l (8*k) 8:Nat):Int)%256).toNat=CU l (8*k) 8 by omega];rfl
 have Gs:YV l (k+1)=YV l k++[UInt8.ofNat (CU l (8*k) 8)]:=by
  unfold YV;rw[zdj,zbs];rfl
 have Gn:=C4 l k;rw[hz]at hle;by_cases HQ:j<8/\8*k+j<l.length
 ·obtain⟨b,hb⟩:∃b,l[8*k+j]?=some b:=⟨_,zah HQ.2⟩
  have hgb:(l.map pB)[((8*k:Nat)+(j:Nat):Int).toNat]?=some (pB b):=by
   rw[show((8*k:Nat)+(j:Nat):Int).toNat=8*k+j by omega,za9,hb];rfl
  have hP:jQ [pI j] (pI ((2^j:Nat):Int)):=⟨j,rfl,ab,by rw[zaC]⟩
  have hw:CU l (8*k) (j+1)=CU l (8*k) j+mS b*2^j:=by
   show CU l (8*k) j+mS (l[8*k+j]?.getD false)*2^j=_;rw[hb];rfl
  generalize 2^j=Q at*;generalize CU l (8*k) j=W at*;cases b with
  |true=>
   have hB:Ci [pB true] (pI 1):=⟨true,rfl,rfl⟩
   rw[show mS true=1 from rfl,Nat.one_mul]at hw
   (repeat'((conv=>whnf);first|refine au ab ?_|refine⟨_,⟨ab,hgb⟩,?_⟩|refine⟨_,hB,?_⟩|refine⟨_,hP,?_⟩|refine bj ab ?_|refine dq λ_=>?_|fail))<;>try(conv=>whnf)
   exact⟨m2-1,ab,j+1,ab,rfl,by rw[hw,zdc];simp⟩
  |false=>
   have hB:Ci [pB false] (pI 0):=⟨false,rfl,rfl⟩
   rw[show mS false=0 from rfl,Nat.zero_mul]at hw
   (repeat'((conv=>whnf);first|refine au ab ?_|refine⟨_,⟨ab,hgb⟩,?_⟩|refine⟨_,hB,?_⟩|refine⟨_,hP,?_⟩|refine bj ab ?_|refine dq λ_=>?_|fail))<;>try(conv=>whnf)
   exact⟨m2-1,ab,j+1,ab,rfl,by rw[hw];simp⟩
 ·have ayC:CU l (8*k) j=CU l (8*k) 8:=by
   by_cases h:j=8
   ·rw[h]
   ·have:=Eg (l:=l) (a:=8*k) (j:=j) ab (8-j);rw[show j+(8-j)=8 by omega]at this;exact this.symm
  rw[ayC]
  (repeat'((conv=>whnf);first|refine aw ab ?_|refine⟨_,hle,?_⟩|refine zcd (by rw[Gn];simp;omega) ?_|refine zcd (by rw[Gn];simp;omega) ?_|refine bj ab ?_|refine de (λ_=>?_) (λ_=>?_)|refine dq λ_=>?_|fail))<;>try(conv=>whnf)
  all_goals exact⟨m-1,ab,k+1,ab,rfl,by rw[Gs,show((8*(k+1):Nat):Int)=((8*k:Nat):Int)+8 by omega]⟩
section
def Ec(v:Vo)(d:Dk):Vo:=⟨d,.sl (v.st.l.map aB)⟩
def Om(v:Vo)(c:Nat):Prop:=∀k,c<=k->k<v.d.n→¬bH v.d.mp k=1
open Classical in
noncomputable def Gh(v:Vo)(c:Nat):Vo:=if Om v c then Ec v ⟨v.d.a_.take (c*256),mG ((ey v.d).take c)⟩else TZ
def KO(ps:List PV)(r:RV):Prop:=∃(v:Vo) (c:Nat) (b:Bool),ps=[v.pv,pI c]/\(U1 v/\c<=v.d.n/\(b=true↔Om v c))/\r=.tup [.pv (Gh v c).pv,.pv (pB b)]
def C0{d:Dk}{c:Nat}(h:c<d.n):(ey d)[c]?=some (decide (bH d.mp c=1)):=by
 unfold ey;rw[za9,zbz h];rfl
set_option maxHeartbeats 4000000 in
def Iq:MT (ay [(94,c8 true A4),(15,c8 false qM),(95,ah kx)]) Bf (c8 false KO):=by
 rintro _ K ⟨_,⟨v,c,b0,rfl,⟨hv,hc,cq⟩,rfl⟩,hK⟩;obtain⟨h1,h2,h3,h4⟩:=hv.n8;have hu:A4 [v.d.pv] _:=⟨v.d,rfl,⟨hv.b.1,h2⟩,rfl⟩
 have hN:eW v:=⟨hv.b.2.2,λa ha=>by have:=(hv.rb ha).1;omega⟩
 have hC:qM [v.pv] _:=⟨v,rfl,hN,rfl⟩
 have Vr:=fg v.d;have E2:((ey v.d).map pB).length=v.d.n:=by rw[zaw,Vr]
 have M8:v.d.n=v.d.a_.length/256:=rfl
 (repeat'((conv=>whnf);first|refine⟨_,hu,?_⟩|fail))<;>try(conv=>whnf)
 refine⟨λm env σ=>∃k:Nat,(k+m=v.d.n/\c<=k∧∀j,c<=j->j<k→¬bH v.d.mp j=1)/\σ=[.box 26 [.pv (.str v.d.a_),.pv (.str v.d.mp),.pv (D4 v.st)],.box 26 [.pv (.str []),.pv (.str []),.pv (.nil 11)],.row 4 1 true ((ey v.d).map pB)]/\env=[eN 1 c,(2,.ref 0 0 0),(4,.ref 1 0 0),(6,.own 2),eN 7 k],v.d.n-c,⟨c,⟨ab,ab,λj hj Gx=>ab⟩,rfl,rfl⟩,?_⟩;rintro m env σ ⟨k,⟨hk,kY,tT⟩,rfl,rfl⟩;by_cases aU:k<v.d.n
 ·have hg:((ey v.d).map pB)[(k:Int).toNat]?=some (pB (decide (bH v.d.mp k=1))):=dX (C0 aU);by_cases hb:bH v.d.mp k=1
  ·have hs:¬Om v c:=λh=>h k kY aU hb
   rw[decide_eq_true hb]at hg;unfold Gh at hK;rw[if_neg hs,show b0=false by cases b0 with|false=>rfl|true=>exact absurd (cq.1 rfl) hs]at hK
   (repeat'((conv=>whnf);first|refine au ab ?_|refine zcd ⟨ab,ab⟩ ?_|refine⟨_,hg,?_⟩|refine dq λ_=>?_|refine bT ?_|fail))<;>try(conv=>whnf)
   exact⟨[.pv TZ.pv,.pv (pB false)],⟨rfl,rfl,trivial⟩,trivial,hK⟩
  ·rw[decide_eq_false hb]at hg
   (repeat'((conv=>whnf);first|refine au ab ?_|refine zcd ⟨ab,ab⟩ ?_|refine⟨_,hg,?_⟩|refine bj ab ?_|refine dq λ_=>?_|fail))<;>try(conv=>whnf)
   refine⟨m-1,ab,k+1,⟨ab,ab,λj hj Gx=>?_⟩,rfl,rfl⟩;by_cases e:j=k
   ·rw[e];exact hb
   ·exact tT j hj ab
 ·have hs:Om v c:=λj hj Gx=>tT j hj ab
  unfold Gh at hK;rw[if_pos hs,cq.2 hs]at hK;have HR:cut 0 (c:Int).toNat ((ey v.d).map pB)=((ey v.d).take c).map pB:=by
   unfold cut;rw[zde,zaC,List.map_take]
  have kE:kx [.sl 1 (cut 0 (c:Int).toNat ((ey v.d).map pB))] _:=⟨(ey v.d).take c,by rw[HR],eI,rfl⟩
  have Ck:cut 0 ((c:Int)*256).toNat v.d.a_=v.d.a_.take (c*256):=by
   unfold cut;rw[zde];congr 1
  have e3:(Ec v ⟨v.d.a_.take (c*256),mG ((ey v.d).take c)⟩).pv=.agg [.str (cut 0 ((c:Int)*256).toNat v.d.a_),.str (mG ((ey v.d).take c)),.sl 11 ((v.st.l.map aB).map At.pv)]:=by rw[Ck];rfl
  rw[e3]at hK
  (repeat'((conv=>whnf);first|refine aw ab ?_|refine⟨_,hC,?_⟩|refine Or.inl ?_|refine zcd ⟨ab,ab⟩ ?_|refine⟨_,kE,?_⟩|refine bj ab ?_|refine dq λ_=>?_|refine bT ?_|fail))<;>try(conv=>whnf)
  exact⟨[.pv _,.pv (pB true)],⟨rfl,rfl,trivial⟩,trivial,hK⟩
end
def U1.N{v:Vo}(h:U1 v):eW v:=⟨h.b.2.2,λa ha=>by have:=(h.rb ha).1;omega⟩
def vt(v:Vo)(t:Rn)(k:Nat):Nat:=(((List.range' t.s.toNat k).filter λc=>decide (0<=(b8 v)[c]?.getD 0)).length)
def IW(v:Vo)(t:Rn)(k:Nat):vt v t (k+1)=vt v t k+if 0<=(b8 v)[t.s.toNat+k]?.getD 0 then 1 else 0:=by
 unfold vt;rw[zdN,zbS,zad];congr 1;by_cases h:0<=(b8 v)[t.s.toNat+k]?.getD 0
 ·rw[if_pos h,zdD ky];rfl
 ·rw[if_neg h,zdE ky];rfl
def IK(v:Vo)(t:Rn)(k:Nat):vt v t k<=k:=by
 unfold vt;have:=zdM (λc=>decide (0<=(b8 v)[c]?.getD 0)) (List.range' t.s.toNat k);rw[List.length_range']at this;exact this
def DT(ps:List PV)(x:PV):Prop:=∃(v:Vo) (t:Rn),ps=[v.pv,t.pv]/\(U1 v/\uR v.d t)/\x=pI ((vt v t t.n.toNat:Nat):Int)
set_option maxHeartbeats 4000000 in
def H5:MT (ay [(25,c8 true NY),(107,ah Ci)]) CR (ah DT):=by
 rintro _ K ⟨_,⟨v,t,rfl,⟨hv,hp⟩,rfl⟩,hK⟩;obtain⟨h1,h2,h3,h4⟩:=hv.n8;unfold uR at hp;have ho:NY [v.pv] _:=⟨v,rfl,hv,rfl⟩
 have sS:=aj3 v;have Kz:((b8 v).map pI).length=v.d.n:=by rw[zaw,sS]
 (repeat'((conv=>whnf);first|refine⟨_,ho,?_⟩|fail))<;>try(conv=>whnf)
 refine⟨λm env σ=>∃k:Nat,(k+m=t.n.toNat)/\σ=[.box 37 [.pv (pI t.s),.pv (pI t.n)],.row 3 1 true ((b8 v).map pI)]/\env=[(3,.ref 0 0 0),(5,.own 1),eN 6 ((vt v t k:Nat):Int),eN 7 (t.s+(k:Nat))],t.n.toNat,⟨0,ab,rfl,by simp[vt]⟩,?_⟩;rintro m env σ ⟨k,hk,rfl,rfl⟩;by_cases aU:k<t.n.toNat
 ·obtain⟨w,hw⟩:∃w,(b8 v)[t.s.toNat+k]?=some w:=⟨_,zah ab⟩
  have hg:((b8 v).map pI)[(t.s+(k:Nat)).toNat]?=some (pI w):=by
   rw[show(t.s+(k:Nat)).toNat=t.s.toNat+k by omega,za9,hw];rfl
  have hs:=IW v t k;have hle:=IK v t k;rw[hw,zbx]at hs;generalize vt v t k=C at*;have J9:Ci [pB true] (pI 1):=⟨true,rfl,rfl⟩
  have Ke:Ci [pB false] (pI 0):=⟨false,rfl,rfl⟩
  by_cases h0:0<=w
  ·rw[if_pos h0]at hs
   (repeat'((conv=>whnf);first|refine au ab ?_|refine zcd ⟨ab,ab⟩ ?_|refine⟨_,hg,?_⟩|refine⟨_,J9,?_⟩|refine bj ab ?_|fail))<;>try(conv=>whnf)
   exact⟨m-1,ab,k+1,ab,rfl,by rw[hs,zdc,zdc,zdI];rfl⟩
  ·rw[if_neg h0]at hs
   (repeat'((conv=>whnf);first|refine au ab ?_|refine zcd ⟨ab,ab⟩ ?_|refine⟨_,hg,?_⟩|refine aw ab ?_|refine⟨_,Ke,?_⟩|refine bj ab ?_|fail))<;>try(conv=>whnf)
   exact⟨m-1,ab,k+1,ab,rfl,by rw[hs,zdc k,zdI];simp⟩
 ·(repeat'((conv=>whnf);first|refine aw ab ?_|refine bj ab ?_|fail))<;>try(conv=>whnf)
  rw[show t.n.toNat=k by omega]at hK;exact aG
def j6(l:List Bool)(s k:Nat):List Bool:=(List.range l.length).map λi=>if s<=i/\i<s+k then true else l[i]?.getD false
def gq(l:List Bool)(s k:Nat):(j6 l s k).length=l.length:=by simp[j6]
def j7{l:List Bool}{s k i:Nat}(h:i<l.length):(j6 l s k)[i]?=some (if s<=i/\i<s+k then true else l[i]?.getD false):=by
 unfold j6;rw[za9,zbz h];rfl
def Eb(l:List Bool)(s:Nat):j6 l s 0=l:=by
 refine zba λi=>?_
 by_cases h:i<l.length
 ·rw[j7 h,if_neg ab,zah h];rfl
 ·rw[zaK (by rw[gq];omega),zaK ab]
def D6{l:List Bool}{s k:Nat}(h:s+k<l.length):(j6 l s k).set (s+k) true=j6 l s (k+1):=by
 refine zba λi=>?_
 by_cases hi:i<l.length
 ·rw[zaS,j7 hi,j7 hi,gq];by_cases e:s+k=i
  ·subst e;rw[if_pos rfl,if_pos h,if_pos ab]
  ·rw[if_neg e];by_cases g:s<=i/\i<s+k
   ·rw[if_pos g,if_pos ab]
   ·rw[if_neg g,if_neg ab]
 ·rw[zaK (by rw[za0,gq];omega),zaK (by rw[gq];omega)]
def IC(v:Vo)(t:Rn):Vo:=if 0<vt v t t.n.toNat then TZ else Ec v ⟨v.d.a_,mG (j6 (ey v.d) t.s.toNat t.n.toNat)⟩
def zU(ps:List PV)(r:RV):Prop:=∃(v:Vo) (t:Rn),ps=[v.pv,t.pv]/\(U1 v/\uR v.d t)/\r=.tup [.pv (IC v t).pv,.pv (pB (decide (¬0<vt v t t.n.toNat)))]
set_option maxHeartbeats 4000000 in
def Hx:MT (ay [(48,ah DT),(94,c8 true A4),(15,c8 false qM),(95,ah kx)]) Cz (c8 false zU):=by
 rintro _ K ⟨_,⟨v,t,rfl,⟨hv,hp⟩,rfl⟩,hK⟩;obtain⟨h1,h2,h3,h4⟩:=hv.n8;have jB:DT [v.pv,t.pv] _:=⟨v,t,rfl,⟨hv,hp⟩,rfl⟩
 have Kh:=IK v t t.n.toNat;unfold uR at hp;unfold IC at hK;generalize vt v t t.n.toNat=C at*;by_cases Jw:0<C
 ·rw[if_pos Jw,decide_eq_false (λh=>h Jw)]at hK
  (repeat'((conv=>whnf);first|refine⟨_,jB,?_⟩|refine au ab ?_|refine bT ?_|fail))<;>try(conv=>whnf)
  exact⟨[.pv TZ.pv,.pv (pB false)],⟨rfl,rfl,trivial⟩,trivial,hK⟩
 rw[if_neg Jw,decide_eq_true Jw]at hK;have hu:A4 [v.d.pv] _:=⟨v.d,rfl,⟨hv.b.1,h2⟩,rfl⟩
 have hC:qM [v.pv] _:=⟨v,rfl,hv.N,rfl⟩
 have Vr:=fg v.d;have wR:=Eb (ey v.d) t.s.toNat;have G8:=λk=>gq (ey v.d) t.s.toNat k
 have G9:=λk (h:t.s.toNat+k<(ey v.d).length)=>D6 (k:=k) h
 have He:=λk (h:t.s.toNat+k<(ey v.d).length)=>j7 (l:=ey v.d) (s:=t.s.toNat) (k:=k) h
 (repeat'((conv=>whnf);first|refine⟨_,jB,?_⟩|refine aw ab ?_|refine⟨_,hu,?_⟩|fail))<;>try(conv=>whnf)
 refine⟨λm env σ=>∃k:Nat,(k+m=t.n.toNat)/\σ=[.box 26 [.pv (.str v.d.a_),.pv (.str v.d.mp),.pv (D4 v.st)],.box 37 [.pv (pI t.s),.pv (pI t.n)],.box 26 [.pv (.str []),.pv (.str []),.pv (.nil 11)],.row 4 1 true ((j6 (ey v.d) t.s.toNat k).map pB)]/\env=[(2,.ref 0 0 0),(3,.ref 1 0 0),(4,.ref 2 0 0),(6,.own 3),eN 7 (t.s+(k:Nat))],t.n.toNat,⟨0,ab,by rw[wR],aj⟩,?_⟩;rintro m env σ ⟨k,hk,rfl,rfl⟩;have Hn:=G8 k;have H2:((j6 (ey v.d) t.s.toNat k).map pB).length=v.d.n:=by rw[zaw,Hn,Vr]
 by_cases aU:k<t.n.toNat
 ·have XM:(t.s+(k:Nat)).toNat=t.s.toNat+k:=by omega
  obtain⟨y,hy⟩:∃y,(j6 (ey v.d) t.s.toNat k)[t.s.toNat+k]?=some y:=⟨_,He k ab⟩
  have hg:((j6 (ey v.d) t.s.toNat k).map pB)[(t.s+(k:Nat)).toNat]?=some (pB y):=by
   rw[XM,za9,hy];rfl
  have LO:((j6 (ey v.d) t.s.toNat k).map pB).set (t.s+(k:Nat)).toNat (pB true)=(j6 (ey v.d) t.s.toNat (k+1)).map pB:=by
   rw[XM,<-zc1,G9 k ab]
  (repeat'((conv=>whnf);first|refine au ab ?_|refine zcd ⟨ab,ab⟩ ?_|refine⟨_,hg,?_⟩|refine bj ab ?_|refine bT ?_|fail))<;>try(conv=>whnf)
  exact⟨m-1,ab,k+1,ab,by rw[<-LO],by rw[zdc,zdI];rfl⟩
 ·have e:t.n.toNat=k:=by omega
  rw[e]at hK;have kE:kx [.sl 1 ((j6 (ey v.d) t.s.toNat k).map pB)] _:=⟨_,rfl,ab,rfl⟩
  (repeat'((conv=>whnf);first|refine aw ab ?_|refine⟨_,hC,?_⟩|refine⟨_,kE,?_⟩|refine bj ab ?_|refine bT ?_|fail))<;>try(conv=>whnf)
  have e3:(Ec v ⟨v.d.a_,mG (j6 (ey v.d) t.s.toNat k)⟩).pv=.agg [.str v.d.a_,.str (mG (j6 (ey v.d) t.s.toNat k)),.sl 11 ((v.st.l.map aB).map At.pv)]:=rfl;rw[e3]at hK;exact⟨[.pv _,.pv (pB true)],⟨rfl,rfl,trivial⟩,trivial,hK⟩
def VS{d:Dk}{a:At}{p:Int}{tr:Rn}(he:dJ d a p tr=0):uR d tr∧∀c:Nat,tr.s<=c->(c:Int)<tr.s+tr.n→¬bH d.mp c=1:=by
 have h0:=Zv he;have hm:SJ (ar d a) p tr=0:=by
  unfold dJ at he;rw[if_neg (λh=>h h0)]at he;split at he
  ·rename_i g;exact absurd he g
  ·rename_i g;exact K6
 unfold SJ at hm;split at hm
 ·exact absurd hm ao
 split at hm
 ·exact absurd hm ao
 rename_i di;have di:=zb2.1 di;split at hm
 ·exact absurd hm ao
 split at hm
 ·exact absurd hm ao
 split at hm
 ·exact absurd hm ao
 rename_i hbz;unfold Pv at di;have hd:(ar d a).d=d:=rfl;rw[hd]at di hbz;refine⟨⟨di.2.1,di.2.2⟩,λc h1 h2 hb=>hbz ?_⟩;rw[jk];refine⟨c-tr.s.toNat,?_⟩;rw[zch ab,zaB,show tr.s.toNat+(c-tr.s.toNat)=c by omega,bO ab];unfold df;rw[decide_eq_true hb]
def VU{b:Nat->Bool}{pl:List Int}{p:Int}{tr:Rn}{c:Nat}:∀k:Nat,Jv b pl p tr k c=true->b c=true∨∃j:Nat,j<k/\c=(tr.s+j).toNat
 |0,h=>.inl h
 |k+1,h=>by
  unfold Jv at h;split at h
  ·rename_i g;exact .inr ⟨k,ab,g⟩
  ·split at h
   ·cases h
   ·rcases VU k h with h|⟨j,hj,e⟩
    ·exact .inl h
    ·exact .inr ⟨j,ab,e⟩
def DJ{B:List UInt8}{pl:List Int}{p:Int}{tr:Rn}{c:Nat}(h:∀k:Nat,(k:Int)<tr.n->0<=tr.s+k/\(tr.s+k+1)*256<=B.length/\((pl[p.toNat+k]?.getD 0).toNat+1)*256<=B.length)(hc:256*(c+1)<=B.length)(ho:∀j:Nat,(j:Int)<tr.n->c≠(tr.s+j).toNat):
 ∀k:Nat,(k:Int)<=tr.n->eU (J2 B pl p tr k) c=eU B c
 |0,_=>rfl
 |k+1,hk=>by
  obtain⟨g1,g2,g3⟩:=h k ab;have hl:=Xk h k ab;have ih:=DJ h hc ho k ab;show eU (MF (J2 B pl p tr k) (tr.s+(k:Int)).toNat (eU B (pl[p.toNat+k]?.getD 0).toNat)) c=_;rw[ahQ ab (gI ab) ab,if_neg (ho k ab),ih]
def aaA{d:Dk}{a:At}{p:Int}{tr:Rn}(hd:wU d)(hn:a.nm.length<=1000000)(he:dJ d a p tr=0):
 (∀c:Nat,c<d.n→¬(tr.s<=c/\(c:Int)<tr.s+tr.n)->eU (jM d a p tr).a_ c=eU d.a_ c)∧∀c:Nat,c<d.n->bH (jM d a p tr).mp c=1->bH d.mp c=1\/(tr.s<=c/\(c:Int)<tr.s+tr.n):=by
 have h0:=Zv he;obtain⟨hp,_⟩:=VS he;unfold uR at hp;have hm:SJ (ar d a) p tr=0:=by
  unfold dJ at he;rw[if_neg (λh=>h h0)]at he;split at he
  ·rename_i g;exact absurd he g
  ·rename_i g;exact K6
 have hD:jM d a p tr=⟨J2 d.a_ (az a.rn.l) p tr tr.n.toNat,mG (cQ (Jv (df d) (az a.rn.l) p tr tr.n.toNat) d.n)⟩:=by
  unfold jM;rw[if_neg (λh=>h he)]
 rw[hD];have qG:=(bc h0).1.pl;have M8:d.n=d.a_.length/256:=rfl;have Gr:∀k:Nat,(k:Int)<tr.n->0<=tr.s+k/\(tr.s+k+1)*256<=d.a_.length/\(((az a.rn.l)[p.toNat+k]?.getD 0).toNat+1)*256<=d.a_.length:=λk hk=>by
  refine⟨ab,ab,?_⟩;cases hx:(az a.rn.l)[p.toNat+k]? with
  |none=>simp only[Option.getD_none];omega
  |some x=>
   rcases qG x (zag hx)with g|g
   ·subst g;simp only[zbx];omega
   ·simp only[zbx];omega
 constructor
 ·intro c hc ho;exact DJ Gr ab (λj hj e=>ho ab) tr.n.toNat ab
 ·intro c hc hb;have e:bH (mG (cQ (Jv (df d) (az a.rn.l) p tr tr.n.toNat) d.n)) c=mS (Jv (df d) (az a.rn.l) p tr tr.n.toNat c):=by
   unfold mG;rw[ck,KI (λi=>Jj _),if_pos hc,bO hc];rfl
  have hb:bH (mG (cQ (Jv (df d) (az a.rn.l) p tr tr.n.toNat) d.n)) c=1:=hb;rw[e]at hb;have ht:Jv (df d) (az a.rn.l) p tr tr.n.toNat c=true:=by
   cases g:Jv (df d) (az a.rn.l) p tr tr.n.toNat c with
   |true=>rfl
   |false=>rw[g]at hb;exact absurd hb ao
  rcases VU _ ht with g|⟨j,hj,e⟩
  ·exact .inl (of_decide_eq_true g)
  ·exact .inr ab
def Ez{d:Dk}{t:Rn}{c:Nat}(hp:uR d t):bH (mG (j6 (ey d) t.s.toNat t.n.toNat)) c=1↔c<d.n/\(bH d.mp c=1\/(t.s<=c/\(c:Int)<t.s+t.n)):=by
 unfold uR at hp;unfold mG;rw[KI (λ_=>Jj _),gq,fg];by_cases hc:c<d.n
 case neg=>rw[if_neg hc];omega
 rw[if_pos hc,j7 (by rw[fg];exact hc),C0 hc,zbx,zbx];by_cases g:t.s.toNat<=c/\c<t.s.toNat+t.n.toNat
 ·rw[if_pos g];exact⟨λ_=>⟨hc,.inr ab⟩,λ_=>rfl⟩
 ·rw[if_neg g];by_cases k:bH d.mp c=1
  ·rw[decide_eq_true k];exact⟨λ_=>⟨hc,.inl k⟩,λ_=>rfl⟩
  ·rw[decide_eq_false k];refine⟨λh=>?_,λh=>?_⟩
   ·cases h
   ·rcases h.2 with h|h
    ·exact absurd h k
    ·omega
def V1(l:List Rn)(c:Int):bI (Vh l c)=bI l+1:=by
 rcases zcT l with rfl|⟨p,q,rfl⟩
 ·rw[Hu];rfl
 ·simp only[zcU];rw[xw];split
  ·rw[J8,J8];show _+(q.n+1+0)=_+(q.n+0)+1;omega
  ·rw[J8];rfl
def VQ(s:List UInt8):∀n:Nat,bI (ae (λc=>¬bH s c=1) n)+(oF s n:Int)=n
 |0=>rfl
 |n+1=>by
  have ih:=VQ s n;have hb:=mK s n;have e:oF s (n+1)=oF s n+bH s n:=rfl;by_cases g:bH s n=1
  ·rw[GJ (λk=>k g),e,g];omega
  ·rw[N0 g,V1,e];omega
def Du(d:Dk):bI (acZ d)=d.n-(oF d.mp d.n:Int):=by
 have:=VQ d.mp d.n;unfold acZ;omega
def Tu(v:Vo):ac4 (bp v)=ac4 v:=by
 unfold ac4;rw[show(bp v).st.l=v.st.l.map aB from rfl,zdG];exact zbC λa _=>YP v.d a
def L1.rn{v:Vo}(h:L1 v):∀a∈v.st.l,a.rn.l.length<=1000000:=(acx h.1 h.2).own.2
section
def F9(ps:List PV)(p:Prop):Prop:=∃c:Int,ps=[pI c]/\p=(0<=c)
def DO:MT (ay []) gN (bF F9):=by
 rintro _ K ⟨_,⟨c,rfl,rfl⟩,hK⟩
 (repeat'((conv=>whnf);first|refine de (λ_=>?_) (λ_=>?_)|fail))<;>try(conv=>whnf)
 all_goals exact YS
def F6(ps:List PV)(p:Prop):Prop:=∃(c:Int) (t:Rn),ps=[pI c,.cptr t.pv]/\((-1000000<=t.s/\t.s<=1000000)/\(-1000000<=t.n/\t.n<=1000000))/\p=(t.s<=c/\c<=t.s+t.n-1)
def DM:MT (ay [(92,bF bG)]) kA (bF F6):=by
 rintro _ K ⟨_,⟨c,t,rfl,h,rfl⟩,hK⟩
 (repeat'((conv=>whnf);first|refine⟨_,⟨_,_,_,rfl,rfl⟩,?_⟩|refine bj ab ?_|refine de (λ_=>?_) (λ_=>?_)|fail))<;>try(conv=>whnf)
 all_goals exact YS
def Io(ps:List PV)(x:PV):Prop:=∃l:List Int,ps=[rI l,.clo 89 []]/\l.length<=1000000/\x=pI (WD (λy=>0<=y) l)
def T_:MT (ay [(89,bF F9)]) qE (ah Io):=by
 rintro _ K ⟨_,⟨l,rfl,hl,rfl⟩,hK⟩;have gJ:(l.map pI).length=l.length:=zaw _
 (repeat'((conv=>whnf);first|refine dq λ_=>?_|fail))<;>try(conv=>whnf)
 refine⟨λm env σ=>∃n:Nat,(n+m=l.length∧∀j,j<n→∀y,l[j]?=some y→¬0<=y)/\σ=[]/\env=[(0,.pv (rI l)),(1,.pv (.clo 89 [])),eN 7 l.length,eN 8 n],l.length,⟨0,⟨ab,λj hj=>ab⟩,rfl,rfl⟩,?_⟩;rintro m env σ ⟨n,⟨hn,h0⟩,rfl,rfl⟩;by_cases aU:n<l.length
 ·obtain⟨x,hx⟩:∃x,l[n]?=some x:=⟨_,zah aU⟩
  have Wk:=dX (f:=pI) hx;have hq:F9 [pI x] _:=⟨x,rfl,rfl⟩
  by_cases h:0<=x
  ·(repeat'((conv=>whnf);first|refine au ab ?_|refine⟨_,⟨ab,Wk⟩,?_⟩|refine⟨_,hq,?_⟩|fail))<;>try(conv=>whnf)
   exact⟨.pv (pI _),bu (alT h0 hx h),trivial,hK⟩
  ·(repeat'((conv=>whnf);first|refine au ab ?_|refine⟨_,⟨ab,Wk⟩,?_⟩|refine⟨_,hq,?_⟩|refine aw h ?_|refine bj ab ?_|fail))<;>try(conv=>whnf)
   refine⟨m-1,ab,n+1,⟨ab,λj hj y hy=>?_⟩,rfl,rfl⟩;rcases zcb (zcl hj)with h1|h1
   ·exact h0 j h1 y hy
   ·subst h1;rw[hx]at hy;cases hy;exact h
 ·(repeat'((conv=>whnf);first|refine aw ab ?_|fail))<;>try(conv=>whnf)
  refine⟨.pv (pI _),bu (aaK λx hx=>?_),trivial,hK⟩;obtain⟨k,hk⟩:=jk.1 hx;exact h0 k vg x hk
def F5(ps:List PV)(p:Prop):Prop:=∃l:List Int,ps=[rI l,.clo 89 []]/\l.length<=1000000/\p=(∃a∈l,0<=a)
def It:MT (ay [(133,ah Io)]) nT (bF F5):=by
 rintro _ K ⟨_,⟨l,rfl,hl,rfl⟩,hK⟩;have e:(∃a∈l,0<=a)↔0<=WD (λy=>0<=y) l:=(ak7 l).symm;rw[e]at hK
 (repeat'((conv=>whnf);first|refine⟨_,⟨l,rfl,hl,rfl⟩,?_⟩|refine de (λ_=>?_) (λ_=>?_)|fail))<;>try(conv=>whnf)
 all_goals exact JH
def E6(t:Rn)(c:Int):Prop:=t.s<=c/\c<=t.s+t.n-1
def DW(ps:List PV)(r:RV):Prop:=∃(v:Vo) (t:Rn),ps=[v.pv,.clo 91 [.cptr t.pv]]/\(U1 v/\((-1000000<=t.s/\t.s<=1000000)/\(-1000000<=t.n/\t.n<=1000000)))/\r=.fresh 37 2 ((ae (aqZ v (E6 t)) (cf v).length).map Rn.pv)
set_option maxHeartbeats 4000000 in
def H6:MT (ay [(75,c8 true HB),(91,bF F6)]) Ey (c8 true DW):=by
 rintro _ K ⟨_,⟨v,t,rfl,⟨hv,zM⟩,rfl⟩,hK⟩;have hw:HB [v.pv] _:=⟨v,rfl,hv,rfl⟩
 have B8:(cf v).length<=1000000:=by rw[yx];have:=hv.b.1.1;unfold Dk.n;omega
 have awp:∀n,aqZ v (E6 t) n↔(cf v)[n]?=some (-1)/\(t.s<=n/\(n:Int)<=t.s+t.n-1):=λn=>Iff.rfl
 generalize aqZ v (E6 t)=P at*;generalize cf v=O at*;have Cf:(O.map pI).length=O.length:=zaw _;have hq:∀n:Nat,F6 [pI n,.cptr t.pv] (t.s<=n/\(n:Int)<=t.s+t.n-1):=λn=>⟨n,t,rfl,zM,rfl⟩
 (repeat'((conv=>whnf);first|refine⟨_,hw,?_⟩|refine dq λ_=>?_|fail))<;>try(conv=>whnf)
 refine⟨λm env σ=>∃n:Nat,n+m=O.length/\σ=[.row 37 2 true ((ae P n).map Rn.pv),.row 3 1 true (O.map pI)]/\env=[(1,.pv (.clo 91 [.cptr t.pv])),(5,.own 0),(10,.own 1),eN 11 O.length,eN 12 n],O.length,⟨0,ab,rfl,rfl⟩,?_⟩;rintro m env σ ⟨n,hn,rfl,rfl⟩;by_cases aU:n<O.length
 case neg=>
  (repeat'((conv=>whnf);first|refine aw ab ?_|fail))<;>try(conv=>whnf)
  have:n=O.length:=ab;subst this;exact vj
 obtain⟨x,hx⟩:∃x,O[n]?=some x:=⟨_,zah aU⟩
 have Wk:(O.map pI)[(n:Int).toNat]?=some (pI x):=by rw[zaC,za9,hx];rfl
 have Z6:P n↔x= -1/\(t.s<=n/\(n:Int)<=t.s+t.n-1):=by
  rw[awp];constructor
  ·rintro⟨h1,h2⟩;rw[hx]at h1;cases h1;exact⟨rfl,h2⟩
  ·rintro⟨h1,h2⟩;subst h1;exact⟨hx,h2⟩
 have rD:=hq n;obtain⟨hb,Gn⟩:=ah9 P n;by_cases I_:x= -1
 case neg=>
  have ht:=GJ (P:=P) (n:=n) λh=>I_ (Z6.1 h).1
  generalize ae P n=acc at*
  (repeat'((conv=>whnf);first|refine au ab ?_|refine zcd ⟨ab,ab⟩ ?_|refine⟨_,Wk,?_⟩|refine bj ab ?_|fail))<;>try(conv=>whnf)
  exact⟨m-1,ab,n+1,ab,by rw[ht],rfl⟩
 by_cases hQ:(t.s<=n/\(n:Int)<=t.s+t.n-1)
 case neg=>
  have ht:=GJ (P:=P) (n:=n) λh=>hQ (Z6.1 h).2
  generalize ae P n=acc at*
  (repeat'((conv=>whnf);first|refine au ab ?_|refine zcd ⟨ab,ab⟩ ?_|refine⟨_,Wk,?_⟩|refine aw (λh=>h I_) ?_|refine⟨_,rD,?_⟩|refine aw hQ ?_|refine bj ab ?_|refine bP ?_|fail))<;>try(conv=>whnf)
  exact⟨m-1,ab,n+1,ab,by rw[ht],rfl⟩
 have ht:=N0 (P:=P) (n:=n) (Z6.2 ⟨I_,hQ⟩);generalize ae P n=acc at*;rcases zcT acc with rfl|⟨p,q,rfl⟩
 ·rw[Hu]at ht
  (repeat'((conv=>whnf);first|refine au ab ?_|refine zcd ⟨ab,ab⟩ ?_|refine⟨_,Wk,?_⟩|refine aw (λh=>h I_) ?_|refine⟨_,rD,?_⟩|refine zcd (by simp;first|done|fail) ?_|refine bj ab ?_|refine aN ?_|refine aw ao ?_|refine dq λ_=>?_|refine bT ?_|fail))<;>try(conv=>whnf)
  exact⟨m-1,ab,n+1,ab,by rw[ht];rfl,rfl⟩
 ·simp only[zcU]at*;rw[xw]at ht;have hq2:=hb q aj;have qG:(p++[q]).length=p.length+1:=aj;have XM:(((p++[q]).length:Int)-1).toNat=p.length:=ab;have kf:((p++[q]).map Rn.pv).length=(p++[q]).length:=zaw _;have fc:((p++[q]).map Rn.pv)[(((p++[q]).length:Int)-1).toNat]?=some q.pv:=by
   rw[XM,za9,zak (zai _),zcH];rfl
  have Jq:∀x:Rn,((p++[q]).map Rn.pv).set (((p++[q]).length:Int)-1).toNat x.pv=(p++[x]).map Rn.pv:=λx=>by
   rw[XM,zbs,List.set_append_right _ _ aj];simp
  (repeat'((conv=>whnf);first|refine au ab ?_|refine zcd ⟨ab,ab⟩ ?_|refine⟨_,Wk,?_⟩|refine aw (λh=>h I_) ?_|refine⟨_,rD,?_⟩|refine⟨_,fc,?_⟩|refine bj ab ?_|refine aN ?_|refine de (λ_=>?_) (λ_=>?_)|refine dq λ_=>?_|refine bT ?_|refine zcd cu ?_|fail))<;>try(conv=>whnf)
  ·rename_i y;rw[if_pos y]at ht;exact⟨m-1,ab,n+1,ab,by rw[ht];exact congrArg (λy=>[dC.row 37 2 true y,_]) (Jq ⟨q.s,q.n+1⟩),rfl⟩
  ·rename_i y;rw[if_neg y]at ht;exact⟨m-1,ab,n+1,ab,by rw[ht,zbs (l₁:=p++[q]) (l₂:=[⟨(n:Int),1⟩])];rfl,rfl⟩
def EO(n:Int)(mp:List UInt8)(l:List Rn):List UInt8:=l.foldl (λmp r=>TF mp n [r] 1) mp
noncomputable def Ik(v:Vo)(t:Rn):List Rn:=ae (aqZ v (E6 t)) (cf v).length
def Xn(v:Vo)(t:Rn):Prop:=∃a∈cut t.s.toNat (t.s+t.n).toNat (cf v),0<=a
open Classical in
noncomputable def Pb(v:Vo)(t:Rn):Int:=if IM v t≠0 then IM v t else if Xn v t then 18 else 0
noncomputable def Ny(v:Vo)(t:Rn):Vo:=if Pb v t≠0 then TZ else⟨⟨v.d.a_,EO v.d.n v.d.mp (Ik v t)⟩,.sl (v.st.l.map aB)⟩
def Fs(ps:List PV)(r:RV):Prop:=∃(v:Vo) (t:Rn),ps=[v.pv,t.pv]/\OS v/\r=.tup [.pv (Ny v t).pv,.pv (pI (Pb v t))]
def Is{n:Int}(hn:0<=n/\n<=100000):∀(l:List Rn) (mp:List UInt8),mp.length<=1000000->(EO n mp l).length<=1000000
 |[],mp,h=>h
 |r::l,mp,h=>Is hn l _ (by
  show(TF mp n [r] 1).length<=1000000;unfold TF;split
  ·rw[Zf];unfold qO;omega
  ·exact zbV _)
set_option maxHeartbeats 4000000 in
def FZ:MT (ay [(87,c8 false D2),(75,c8 true HB),(88,bF F5),(90,c8 false Ks),(86,ah bA),(76,c8 true DW),(93,c8 true Pf)]) tN (c8 false Fs):=by
 rintro _ K ⟨_,⟨v,t,rfl,h1,rfl⟩,hK⟩;have ho:D2 [v.pv,t.pv] _:=⟨v,t,rfl,h1,rfl⟩
 by_cases hE:IM v t=0
 case neg=>
  have e1:Pb v t=IM v t:=by unfold Pb;rw[if_pos hE]
  have e2:Ny v t=TZ:=by unfold Ny;rw[e1,if_pos hE]
  rw[e2,e1]at hK
  (repeat'((conv=>whnf);first|refine⟨_,ho,?_⟩|refine au hE ?_|refine bT ?_|fail))<;>try(conv=>whnf)
  exact⟨[.pv TZ.pv,.pv (pI _)],⟨rfl,rfl,trivial⟩,trivial,hK⟩
 have sM:wX v=0:=by
  unfold IM at hE;split at hE
  ·rename_i g;exact absurd hE g
  ·rename_i g;exact K6
 have FQ:uR v.d t:=by
  unfold IM at hE;rw[if_neg (λg=>g sM)]at hE;split at hE
  ·assumption
  ·exact absurd hE ao
 have JE:=P0 h1 sM;have Yk:=acx h1 sM;have hd:=(rX JE.dk).2.1;have hw:HB [v.pv] _:=⟨v,rfl,JE,rfl⟩
 have Cf:=yx v;have KE:((cf v).map pI).length=v.d.n:=by rw[zaw,Cf]
 unfold uR at FQ;have PE:F5 [.sl 1 (cut t.s.toNat (t.s+t.n).toNat ((cf v).map pI)),.clo 89 []] (Xn v t):=⟨cut t.s.toNat (t.s+t.n).toNat (cf v),by unfold cut rI;rw[<-List.map_take,<-List.map_drop],by unfold cut;rw[zay,zal];omega,rfl⟩
 by_cases hO:Xn v t
 ·have eE:Pb v t=18:=by unfold Pb;rw[if_neg (λg=>g hE),if_pos hO]
  have e2:Ny v t=TZ:=by unfold Ny;rw[eE,if_pos ao]
  rw[e2,eE]at hK
  (repeat'((conv=>whnf);first|refine⟨_,ho,?_⟩|refine aw (λh=>h hE) ?_|refine⟨_,hw,?_⟩|refine Or.inl ?_|refine zcd ⟨ab,ab⟩ ?_|refine⟨_,PE,?_⟩|refine au hO ?_|refine bj ab ?_|refine bT ?_|fail))<;>try(conv=>whnf)
  exact⟨[.pv TZ.pv,.pv (pI 18)],⟨rfl,rfl,trivial⟩,trivial,hK⟩
 have eE:Pb v t=0:=by unfold Pb;rw[if_neg (λg=>g hE),if_neg hO]
 have e2:Ny v t=⟨⟨v.d.a_,EO v.d.n v.d.mp (Ik v t)⟩,.sl (v.st.l.map aB)⟩:=by unfold Ny;rw[eE,if_neg (λg=>g rfl)]
 rw[e2,eE]at hK;have eh:Ks [v.pv] _:=⟨v,rfl,Yk.own,rfl⟩
 have mE:bA [v.d.pv] _:=⟨v.d,rfl,h1.1.1,rfl⟩
 have pe:DW [v.pv,.clo 91 [.cptr t.pv]] (.fresh 37 2 ((Ik v t).map Rn.pv)):=⟨v,t,rfl,⟨JE,ab⟩,rfl⟩
 have bJ:(Ik v t).length<=512:=by unfold Ik;have:=(ah9 (aqZ v (E6 t)) (cf v).length).2;omega
 have XJ:=Is (n:=v.d.n) ab;have Kn:=h1.1.2;clear e2 eE;generalize Ik v t=L at*;have Ib:(L.map Rn.pv).length=L.length:=zaw _
 (repeat'((conv=>whnf);first|refine⟨_,ho,?_⟩|refine aw (λh=>h hE) ?_|refine⟨_,hw,?_⟩|refine Or.inl ?_|refine zcd ⟨ab,ab⟩ ?_|refine⟨_,PE,?_⟩|refine aw hO ?_|refine⟨_,eh,?_⟩|refine⟨_,mE,?_⟩|refine⟨_,pe,?_⟩|refine bj ab ?_|refine dq λ_=>?_|refine bT ?_|fail))<;>try(conv=>whnf)
 refine⟨λm env σ=>∃k:Nat,k+m=L.length/\σ=[.box 26 [.pv (.str []),.pv (.str []),.pv (.nil 11)],.box 26 [.pv (.str v.d.a_),.pv (.str (EO v.d.n v.d.mp (L.take k))),.pv (D4 (bp v).st)],.row 37 2 true (L.map Rn.pv)]/\env=[(4,.ref 0 0 0),(8,.ref 1 0 0),eN 9 v.d.n,(41,.own 2),eN 42 L.length,eN 43 k],L.length,⟨0,ab,rfl,rfl⟩,?_⟩;rintro m env σ ⟨k,hk,rfl,rfl⟩;by_cases aU:k<L.length
 ·obtain⟨r,hr⟩:∃r,L[k]?=some r:=⟨_,zah aU⟩
  have n9:=dX (f:=Rn.pv) hr;have Ah:Pf [.str (EO v.d.n v.d.mp (L.take k)),pI v.d.n,.sl 2 ([r].map Rn.pv)] _:=⟨_,v.d.n,[r],rfl,XJ _ _ Kn,rfl⟩
  have ht:TF (EO v.d.n v.d.mp (L.take k)) v.d.n [r] 1=EO v.d.n v.d.mp (L.take (k+1)):=by
   unfold EO;rw[zck,hr,zc0];rfl
  rw[ht]at Ah;generalize EO v.d.n v.d.mp (L.take k)=X at*
  (repeat'((conv=>whnf);first|refine au ab ?_|refine zcd ⟨ab,ab⟩ ?_|refine⟨_,n9,?_⟩|refine⟨_,Ah,?_⟩|refine bj ab ?_|refine bT ?_|fail))<;>try(conv=>whnf)
  exact⟨m-1,ab,k+1,ab,rfl,rfl⟩
 ·rw[za1 ab]
  (repeat'((conv=>whnf);first|refine aw ab ?_|refine bT ?_|fail))<;>try(conv=>whnf)
  exact⟨[.pv _,.pv (pI 0)],⟨rfl,rfl,trivial⟩,trivial,hK⟩
end
def R7(P:Nat->Prop):∀n:Nat,(∀c:Nat,(∃r∈ae P n,fR r c=true)↔c<n/\P c)/\(ae P n).Pairwise (λa b=>∀i,¬(fR a i=true/\fR b i=true))
 |0=>by
  refine⟨λc=>⟨λh=>?_,λh=>absurd h.1 ab⟩,.nil⟩;obtain⟨r,hr,_⟩:=h;cases hr
 |n+1=>by
  obtain⟨h1,h2⟩:=R7 P n;by_cases g:P n
  case neg=>
   rw[GJ g];refine⟨λc=>(h1 c).trans ⟨λh=>⟨ab,h.2⟩,λh=>⟨?_,h.2⟩⟩,h2⟩;have:c≠n:=λe=>g (e▸h.2)
   omega
  rw[N0 g];have hb:=(ah9 P n).1;generalize ae P n=l at*;have kR:∀c:Nat,fR (⟨(n:Int),1⟩:Rn) c=true↔c=n:=λc=>by
   unfold fR;rw[decide_eq_true_eq];simp only;omega
  rcases zcT l with rfl|⟨p,q,rfl⟩
  ·rw[Hu];refine⟨λc=>?_,zdC _ _⟩;have JR:=h1 c;simp only[zcp,false_and,exists_false,false_iff]at JR;simp only[zcS,exists_eq_left,kR];constructor
   ·rintro rfl;exact⟨ab,g⟩
   ·intro h;apply Classical.byContradiction;intro k;exact JR ⟨ab,h.2⟩
  ·simp only[zcU]at*;rw[xw];have hq:=hb q aj;have cell:∀c:Nat,(∃r∈p++[q],fR r c=true)\/c=n↔c<n+1/\P c:=λc=>by
    rw[h1 c];constructor
    ·rintro(h|rfl)
     ·exact⟨ab,h.2⟩
     ·exact⟨ab,g⟩
    ·intro h;by_cases k:c=n
     ·exact .inr k
     ·exact .inl ⟨ab,h.2⟩
   have jB:∀a∈p++[q],∀i:Nat,fR a i=true->i<n:=λa ha i hi=>by
    have:=hb a ha;unfold fR at hi;rw[decide_eq_true_eq]at hi;omega
   split
   ·rename_i e;have hx:∀c:Nat,fR (⟨q.s,q.n+1⟩:Rn) c=true↔fR q c=true\/c=n:=λc=>by
     unfold fR;rw[decide_eq_true_eq,decide_eq_true_eq];simp only;omega
    constructor
    ·intro c;rw[<-cell c];simp only[zaA,zcS];constructor
     ·rintro⟨r,hr|rfl,hc⟩
      ·exact .inl ⟨r,.inl hr,hc⟩
      ·rcases(hx c).1 hc with h|h
       ·exact .inl ⟨q,.inr rfl,h⟩
       ·exact .inr h
     ·rintro(⟨r,hr|rfl,hc⟩|h)
      ·exact⟨r,.inl hr,hc⟩
      ·exact⟨_,.inr rfl,(hx c).2 (.inl hc)⟩
      ·exact⟨_,.inr rfl,(hx c).2 (.inr h)⟩
    ·rw[zdO]at h2 ⊢;refine⟨h2.1,zdC _ _,λa ha b t_ i hi=>?_⟩;rw[zcS]at t_;subst t_;rcases(hx i).1 hi.2 with h|h
     ·exact h2.2.2 a ha q aj i ⟨hi.1,h⟩
     ·have:=jB a (by simp[ha]) i hi.1;omega
   ·constructor
    ·intro c;rw[<-cell c];constructor
     ·rintro⟨r,hr,hc⟩;rcases zaA.1 hr with hr|hr
      ·exact .inl ⟨r,hr,hc⟩
      ·rw[zcS]at hr;subst hr;exact .inr ((kR c).1 hc)
     ·rintro(⟨r,hr,hc⟩|h)
      ·exact⟨r,zb7 _ hr,hc⟩
      ·exact⟨_,zb5 _ (zcS.2 rfl),(kR c).2 h⟩
    ·rw[zdO];refine⟨h2,zdC _ _,λa ha b t_ i hi=>?_⟩;rw[zcS]at t_;subst t_;have:=jB a ha i hi.1;have:=(kR i).1 hi.2;omega
def RI{n:Nat}(hn:n<=4096):∀(l:List Rn) (mp:List UInt8),nu mp n=0->(∀r∈l,azh n r)->(∀r∈l,∀c:Nat,fR r c=true→¬bH mp c=1)->l.Pairwise (λa b=>∀i,¬(fR a i=true/\fR b i=true))->
 nu (EO n mp l) n=0∧∀c,c<n->(bH (EO n mp l) c=1↔bH mp c=1∨∃r∈l,fR r c=true)
 |[],mp,h0,_,_,_=>⟨h0,λc _=>⟨.inl,λh=>h.elim id λ⟨r,hr,_⟩=>by cases hr⟩⟩
 |r::l,mp,h0,h1,h2,h3=>by
  have hr:=h1 r aj;have ji:NX [r] n=0:=by
   unfold NX;rw[if_neg aj];show(if azh n r then(if aJI (λ_=>false) r.s.toNat r.n.toNat then 23 else 0)else 2)=0;rw[if_pos hr,if_neg];intro g;obtain⟨_,_,_,g⟩:=Ru.1 g;cases g
  have hE:aew mp n [r] 1=0:=by
   unfold aew Ob;rw[h0,if_neg (λg=>g rfl),ji,if_neg (λg=>g rfl),if_neg];intro g;obtain⟨x,hx,k⟩:=zdH.1 g;rw[zcS]at hx;rw[hx]at k;obtain⟨j,g1,g2,g3⟩:=Ru.1 k;refine h2 r aj j ?_ (of_decide_eq_true g3);unfold azh at hr;unfold fR;rw[decide_eq_true_eq];omega
  have hR:TF mp n [r] 1=VA (Tb (bH mp) [r] 1) n:=by
   unfold TF;rw[if_pos hE,zaC]
  have hle:=ath (mK mp) (l:=[r]) (zai 1);have pD:∀c,c<n->(bH (TF mp n [r] 1) c=1↔bH mp c=1\/fR r c=true):=λc hc=>by
   rw[hR,KI hle,if_pos hc];unfold Tb aiC;simp only[List.any_cons,List.any_nil,Bool.or_false];split
   ·rename_i g;exact⟨λ_=>.inr g,λ_=>rfl⟩
   ·rename_i g;exact⟨.inl,λh=>h.resolve_right g⟩
  have AW:=zdQ.1 h3;have ih:=RI hn l (TF mp n [r] 1) (by rw[hR];exact asp hle hn) (λx hx=>h1 x iP) (λx hx c hc hb=>by
   have cM:c<n:=by
    have:=h1 x iP;unfold azh at this;unfold fR at hc;rw[decide_eq_true_eq]at hc;omega
   rcases(pD c cM).1 hb with g|g
   ·exact h2 x iP c hc g
   ·exact AW.1 x hx c ⟨g,hc⟩) AW.2
  refine⟨ih.1,λc hc=>?_⟩;rw[show EO n mp (r::l)=EO n (TF mp n [r] 1) l from rfl,ih.2 c hc,pD c hc];constructor
  ·rintro((h|h)|⟨x,hx,hc⟩)
   ·exact .inl h
   ·exact .inr ⟨r,aj,h⟩
   ·exact .inr ⟨x,iP,hc⟩
  ·rintro(h|⟨x,hx,Cw⟩)
   ·exact .inl (.inl h)
   ·rcases zax.1 hx with rfl|hx
    ·exact .inl (.inr Cw)
    ·exact .inr ⟨x,hx,Cw⟩
def F7{a b:List UInt8}{n:Nat}(ha:nu a n=0)(hb:nu b n=0)(h:∀c,c<n->(bH a c=1↔bH b c=1)):a=b:=by
 obtain⟨a1,a2,a3,a4,a5⟩:=iR ha;obtain⟨b1,b2,b3,b4,b5⟩:=iR hb;have hl:a.length=b.length:=ab;refine aqe hl λi hi=>?_
 by_cases hc:i<n
 ·have h1:=mK a i;have h2:=mK b i;have h3:=h i hc;omega
 ·rw[a5 i hi ab,b5 i ab ab]
def Jk{v:Vo}{t:Rn}(h:U1 v)(hp:uR v.d t):EO v.d.n v.d.mp (Ik v t)=mG (j6 (ey v.d) t.s.toNat t.n.toNat):=by
 obtain⟨d1,d2,d3⟩:=rX h.dk;have hl:=yx v;obtain⟨c1,c2⟩:=R7 (aqZ v (E6 t)) (cf v).length;have hb:=(ah9 (aqZ v (E6 t)) (cf v).length).1;have Gp:∀c:Nat,(∃r∈Ik v t,fR r c=true)↔c<v.d.n∧¬bH v.d.mp c=1/\E6 t c:=λc=>by
  refine(c1 c).trans ?_;rw[hl];constructor
  ·rintro⟨g1,g2,g3⟩;exact⟨g1,(atL h g1).1 g2,g3⟩
  ·rintro⟨g1,g2,g3⟩;exact⟨g1,(atL h g1).2 g2,g3⟩
 obtain⟨m1,m2⟩:=RI (n:=v.d.n) ab (Ik v t) v.d.mp d3 (λr hr=>by have:=hb r hr;unfold azh;omega) (λr hr c hc=>((Gp c).1 ⟨r,hr,hc⟩).2.1) c2;have hs:=(DF (l:=j6 (ey v.d) t.s.toNat t.n.toNat) (by rw[gq,fg];omega)).1;rw[gq,fg]at hs;refine F7 m1 hs λc hc=>?_
 rw[m2 c hc,Ez hp,Gp c];unfold E6;constructor
 ·rintro(g|⟨g1,g2,g3⟩)
  ·exact⟨hc,.inl g⟩
  ·exact⟨hc,.inr ab⟩
 ·rintro⟨_,g|g⟩
  ·exact .inl g
  ·by_cases k:bH v.d.mp c=1
   ·exact .inl k
   ·exact .inr ⟨hc,k,ab⟩
def aaY{v:Vo}{t:Rn}(h:U1 v)(hp:uR v.d t):Xn v t↔0<vt v t t.n.toNat:=by
 unfold Xn vt uR at*;rw[ah7 h];have hl:=aj3 v;rw[List.length_pos_iff_exists_mem];constructor
 ·rintro⟨a,ha,h0⟩;obtain⟨i,hi⟩:=zaE.1 ha;have j9:i<(t.s+t.n).toNat-t.s.toNat:=by
   have:=(zaa.1 hi).1;rw[awU ab]at this;exact this
  rw[aqo ab]at hi;refine⟨t.s.toNat+i,zbn.2 ⟨zdV.2 ⟨i,ab,ab⟩,?_⟩⟩;rw[hi];exact decide_eq_true h0
 ·rintro⟨c,hc⟩;obtain⟨h1,h2⟩:=zbn.1 hc;obtain⟨i,hi,rfl⟩:=zdV.1 h1;rw[Nat.one_mul]at h2;obtain⟨a,ha⟩:∃a,(b8 v)[t.s.toNat+i]?=some a:=⟨_,zah ab⟩
  rw[ha]at h2;refine⟨a,zaE.2 ⟨i,?_⟩,of_decide_eq_true h2⟩;rw[aqo ab,ha]
def Ju{v:Vo}{t:Rn}(h:U1 v)(hv:U1 (bp v))(sM:wX v=0)(hp:uR v.d t):Pb (bp v) t=(if 0<vt v t t.n.toNat then 18 else 0)/\Ny (bp v) t=IC v t:=by
 have eQ:uR (bp v).d t:=hp;have jB:vt (bp v) t t.n.toNat=vt v t t.n.toNat:=by unfold vt;rw[avV]
 have hO:=aaY hv eQ;rw[jB]at hO;have ho:IM (bp v) t=0:=by unfold IM;rw[x_,if_neg (λg=>g sM),if_pos eQ]
 have hE:Pb (bp v) t=if 0<vt v t t.n.toNat then 18 else 0:=by
  unfold Pb;rw[if_neg (λg=>g ho)];by_cases g:Xn (bp v) t
  ·rw[if_pos g,if_pos (hO.1 g)]
  ·rw[if_neg g,if_neg (λk=>g (hO.2 k))]
 refine⟨hE,?_⟩;unfold Ny IC;rw[hE];by_cases g:0<vt v t t.n.toNat
 ·rw[if_pos g,if_pos g,if_pos ao]
 ·rw[if_neg g,if_neg g,if_neg (λk=>k rfl),Jk hv eQ];show(⟨_,.sl ((v.st.l.map aB).map aB)⟩:Vo)=_;rw[zdG];rfl
def Yq{l:List Bool}{n:Nat}(h:l.length=n)(hn:n<=4096):nu (mG l) n=0∧∀i,bH (mG l) i=1↔i<n/\l[i]?=some true:=by
 subst h;obtain⟨h1,h2⟩:=DF hn;refine⟨h1,λi=>?_⟩;rw[h2 i];by_cases hi:i<l.length
 ·rw[if_pos hi,zah hi,zbx];cases l[i]<;>simp[mS,hi]
 ·rw[if_neg hi];simp[hi]
def FY{d:Dk}{i:Nat}:(ey d)[i]?=some true↔i<d.n/\bH d.mp i=1:=by
 by_cases h:i<d.n
 ·rw[C0 h];simp[h]
 ·rw[zaK (by rw[fg];omega)];simp[h]
def IJ{v:Vo}(h:L1 v){c:Nat}(h1:1<=c)(h2:c<=v.d.n):(Om v c->PX (bp v) c 1 v.d.n=0)/\(¬Om v c->PX (bp v) c 1 v.d.n=18)/\T8 (bp v) c 1 v.d.n=Gh v c:=by
 have hk:=P0 h.1 h.2;obtain⟨d1,d2,d3⟩:=rX hk.dk;have hz:fx (c:Int)=0:=by unfold fx;rw[if_pos ab]
 have hh:aJI (λi=>decide (bH v.d.mp i=1)) ((c:Nat):Int).toNat (((v.d.n:Nat):Int).toNat-((c:Nat):Int).toNat)=true↔¬Om v c:=by
  rw[Ru,zaC,zaC];unfold Om;constructor
  ·rintro⟨j,g1,g2,g3⟩ g;exact g j g1 ab (of_decide_eq_true g3)
  ·intro g;apply Classical.byContradiction;intro k;exact g λj g1 g2 g3=>k ⟨j,g1,ab,decide_eq_true g3⟩
 have hr:aos v.d.mp v.d.n c=if aJI (λi=>decide (bH v.d.mp i=1)) ((c:Nat):Int).toNat (((v.d.n:Nat):Int).toNat-((c:Nat):Int).toNat)then 18 else 0:=by
  unfold aos;rw[d3,if_neg (λg=>g rfl),hz,if_neg (λg=>g rfl)]
 have hE:PX (bp v) c 1 v.d.n=aos v.d.mp v.d.n c:=by
  unfold PX;rw[x_,if_neg (λg=>g h.2),if_pos ab];rfl
 have e1:Om v c->PX (bp v) c 1 v.d.n=0:=λg=>by rw[hE,hr,if_neg (λk=>hh.1 k g)]
 have e2:¬Om v c->PX (bp v) c 1 v.d.n=18:=λg=>by rw[hE,hr,if_pos (hh.2 g)]
 refine⟨e1,e2,?_⟩;by_cases g:Om v c
 case neg=>unfold T8 Gh;rw[e2 g,if_pos ao,if_neg g]
 have hm:axA v.d.mp v.d.n c=mG ((ey v.d).take c):=by
  have h0:=e1 g;rw[hE]at h0;have hl:((ey v.d).take c).length=c:=by rw[zal,fg];omega
  obtain⟨m1,m2⟩:=Yq hl ab;unfold axA;rw[if_pos h0,zaC];refine F7 (asp (mK _) ab) m1 λi hi=>?_
  rw[KI (mK _),if_pos hi,m2 i,zch hi,FY];exact⟨λk=>⟨hi,ab,k⟩,λk=>k.2.2⟩
 have hb:nh (bp v) c=v.d.a_.take (c*256):=by
  show v.d.a_.take (min (v.d.n:Int) c*256).toNat++alf [0] (max 0 ((c:Int)-v.d.n)*256).toNat=_;rw[show(min (v.d.n:Int) c*256).toNat=c*256 by omega,show(max 0 ((c:Int)-v.d.n)*256).toNat=0 by omega];exact zbf _
 unfold T8 Gh;rw[e1 g,if_neg (λk=>k rfl),if_pos g,hb,show axA (bp v).d.mp (bp v).d.n c=_ from hm];show(⟨_,.sl ((v.st.l.map aB).map aB)⟩:Vo)=_;rw[zdG];rfl
def IZ{v:Vo}{c lo hi:Int}(h:wX v=0)(hc:¬(lo<=c/\c<=hi)):PX (bp v) c lo hi=2/\T8 (bp v) c lo hi=TZ:=by
 have e:PX (bp v) c lo hi=2:=by unfold PX;rw[x_,if_neg (λg=>g h),if_neg hc]
 refine⟨e,?_⟩;unfold T8;rw[e,if_pos ao]
def abe{v:Vo}{c:Int}(h:L1 v):(¬(1<=c/\c<=v.d.n)/\PX (bp v) c 1 v.d.n=2/\T8 (bp v) c 1 v.d.n=TZ)\/
 ((1<=c/\c<=v.d.n)/\KO [v.pv,pI c] (.tup [.pv (T8 (bp v) c 1 v.d.n).pv,.pv (pB true)])/\PX (bp v) c 1 v.d.n=0/\eW (T8 (bp v) c 1 v.d.n))\/
 ((1<=c/\c<=v.d.n)/\KO [v.pv,pI c] (.tup [.pv TZ.pv,.pv (pB false)])/\PX (bp v) c 1 v.d.n=18/\T8 (bp v) c 1 v.d.n=TZ):=by
 by_cases hc:1<=c/\c<=v.d.n
 case neg=>exact .inl ⟨hc,IZ h.2 hc⟩
 obtain⟨k,rfl⟩:∃k:Nat,c=k:=⟨c.toNat,ab⟩
 have hk:=P0 h.1 h.2;obtain⟨s1,s2,s3⟩:=IJ h (c:=k) ab ab;by_cases g:Om v k
 ·refine .inr (.inl ⟨hc,⟨v,k,true,rfl,⟨hk,ab,⟨λ_=>g,λ_=>rfl⟩⟩,by rw[s3]⟩,s1 g,?_⟩);rw[s3];unfold Gh;rw[if_pos g];exact av1 (v:=v) hk.N
 ·have ez:Gh v k=TZ:=by unfold Gh;rw[if_neg g]
  exact .inr (.inr ⟨hc,⟨v,k,false,rfl,⟨hk,ab,⟨λe=>cz,λe=>absurd e g⟩⟩,by rw[ez]⟩,s2 g,by rw[s3,ez]⟩)
abbrev aAz:List CT:=[.int .i64,.str,.int .i64,.int .i64,.bool,.str,.int .i64,.sl true [.int .i64,.int .i64],.int .i64,.int .i64,.int .i64]
abbrev kG:Bool×List CT:=(true,[.str,.str,.sl true [.int .i64,.str,.int .i64,.int .i64,.bool,.str,.int .i64,.sl true [.int .i64,.int .i64],.int .i64,.int .i64,.int .i64]])
def ajp{y:PV}(h:∃zs,y=.agg zs/\ou [.str,.str,.sl true aAz] zs):∃v:Vo,y=v.pv:=by
 obtain⟨zs,rfl,h⟩:=h;simp only[ou]at h;obtain⟨_,_,rfl,hb,_,_,rfl,hm,_,_,rfl,hs,rfl⟩:=h;simp only[MD]at hb hm hs;obtain⟨b,rfl,_⟩:=hb;obtain⟨m,rfl,_⟩:=hm;obtain⟨aC,rfl,_,he⟩:=hs;obtain⟨l,rfl,_⟩:=awZ (g:=At.pv) (q:=λ_=>True) λz hz=>by
  obtain⟨a,ha⟩:=auD ((he z hz).1 trivial);exact⟨a,ha,trivial⟩
 exact⟨⟨⟨b,m⟩,.sl l⟩,rfl⟩
abbrev JX:Bool×List CT:=(true,[.int .i64,.int .i64])
def Jh{y:PV}(h:∃zs,y=.agg zs/\ou [.int .i64,.int .i64] zs):∃t:Rn,y=t.pv:=by
 obtain⟨zs,rfl,h⟩:=h;simp only[ou,MD]at h;obtain⟨_,_,rfl,⟨s,rfl,_⟩,_,_,rfl,⟨n,rfl,_⟩,rfl⟩:=h;exact⟨⟨s,n⟩,rfl⟩
def RP{r:Rn}{k:Nat}:fR r k=true↔r.s<=k/\(k:Int)<r.s+r.n:=by unfold fR;rw[decide_eq_true_eq]
def abk{b:At}{l:List Int}(h:gu b=0)(c_:b.rs=false)(hf:b.ft=0)(hb:∀x∈l,x= -1\/(0<=x/\x<512))(hd:yw l)(hl:l.length<=128)(hn:(IA l).length<=64):gu { b with rn:=.sl (IA l) }=0:=by
 have ok:=AD h;obtain⟨o1,o2,o3,o4,o5,o6,o7⟩:=ok.ot c_;have hr:=apJ hb hd ab hn;have t_:∀a∈l,-1<=a/\a<=1000000:=λa ha=>by rcases hb a ha with h|h<;>omega
 have hq:=(agT t_ l.length).2;rw[zcV]at hq;have hs:=xA (l:=IA l) (λr hr=>by have:=(hq r hr).1;omega);rw[ZB t_]at hs;have hk:Iv { b with rn:=.sl (IA l) }=0:=by
  show(if b.rs=true then Hy _ else GG { b with rn:=.sl (IA l) })=0;rw[if_neg qD];unfold GG;show(if b.ty∈VG then(20:Int)else if b.vl≠[]then 3 else if ¬(0<=b.ft/\b.ft<=4096)then 2 else
   if dU (IA l)≠0 then dU (IA l)else if 0<b.ft/\(IA l).length=0 then 17 else
   if 4096<b.ft+bI (IA l)then 8 else if 0<b.ft∧¬(b.al=0/\b.sz=0/\b.vd=0)then 3 else
   if ¬pL b then 2 else if b.sz<b.vd then 9 else 0)=0
  rw[if_neg o1,if_neg (λg=>g o2),if_neg (λg=>g o3),hr,if_neg (λg=>g rfl),if_neg ab,if_neg ab,if_neg ab,if_neg (λg=>g o6),if_neg ab]
 have hw:(T5 { b with rn:=.sl (IA l) }).length<=440:=by
  rw[al6 (a:={ b with rn:=.sl (IA l) }) c_];have h1:=i_ (40+b.nm.length);have o_:(N8 { b with rn:=.sl (IA l) }).length<=321:=by
   show(if b.rs=true then b.vl else qL (IA l)).length<=321;rw[if_neg qD];unfold qL;have:=JP (IA l) _ (zai _);rw[zad,zbM];omega
  have kp:=ok.DL;have e1:l8 { b with rn:=.sl (IA l) }=B5 (40+b.nm.length):=by
   show B5 ((if b.rs=true then 24 else 40)+b.nm.length)=_;rw[if_neg qD]
  have h2:=i_ (l8 { b with rn:=.sl (IA l) }+(N8 { b with rn:=.sl (IA l) }).length);show B5 (l8 { b with rn:=.sl (IA l) }+(N8 { b with rn:=.sl (IA l) }).length)<=440;omega
 unfold gu;rw[if_neg,if_neg ab];refine λh=>h ?_
 unfold TI;rw[if_neg,if_neg,if_neg,hk]
 ·exact λh=>h ok.GZ
 ·exact λh=>h ok.nm
 ·exact λh=>h ok.S3
def WX{l:List Int}(h:∀x∈l,x≠ -1):bt l=l.length:=by
 unfold bt;rw[List.filter_eq_self.2 λx hx=>decide_eq_true (h x hx)]
structure MvR(w:Vo)(i:Nat)(b:At)(p m:Nat)(s:Int)(x:Vo):Prop where
 g:L1 x
 fN:ac4 x=ac4 w
 n:x.d.n=w.d.n
 fr:bI (acZ x.d)=bI (acZ w.d)
 st:x.st.l=w.st.l.set i { b with rn:=.sl (IA (C8 (az b.rn.l) p ⟨s,m⟩ m)) }
 bit:∀c:Nat,c<w.d.n->bH x.d.mp c=1->bH w.d.mp c=1\/(s<=c/\(c:Int)<s+m)
 pl:az (IA (C8 (az b.rn.l) p ⟨s,m⟩ m))=C8 (az b.rn.l) p ⟨s,m⟩ m
def aaD{w:Vo}{i p m:Nat}{s:Int}{b:At}(hw:L1 w)(hb:w.st.l[i]?=some b)(E3:b.rs=false)(mY:1<=m)(h2:p+m<=(az b.rn.l).length)
 (h4:∀k,p<=k->k<p+m->Jc (az b.rn.l) k=true) (hs:0<=s) (iS:s+m<=w.d.n) (ae0:∀c:Nat,s<=c->(c:Int)<s+m→¬bH w.d.mp c=1):
 ((IA (C8 (az b.rn.l) p ⟨s,m⟩ m)).length<=64->ub w ⟨i,p,⟨s,m⟩⟩=0/\MvR w i b p m s (nX w ⟨i,p,⟨s,m⟩⟩))/\
 (¬(IA (C8 (az b.rn.l) p ⟨s,m⟩ m)).length<=64->ub w ⟨i,p,⟨s,m⟩⟩=8):=by
 have iX:=(zaa.1 hb).1;have kE:=zag hb;obtain⟨o1,o2,o3,o4⟩:=AZ.1 hw.2;have h0:=o3 b kE;have WW:=L0 o1;have kp:=hw.1.2.1 b kE;obtain⟨ok,oo⟩:=bc h0;obtain⟨q1,q2,q3,q4,q5⟩:=lE ok.str;have rK:=ok.nb;have hlen:=ok.len;have aka:=ok.pl;have agA:∀x∈az b.rn.l,x= -1\/(0<=x/\x<512):=λx hx=>by
  rcases aka x hx with g|g
  ·exact .inl g
  ·have M8:w.d.n=w.d.a_.length/256:=rfl;exact .inr ab
 have Es:=u0 ok.rn;have PB:∀j:Nat,(C8 (az b.rn.l) p ⟨s,m⟩ m)[j]?=if p<=j/\j<p+m then some (s+((j-p:Nat):Int))else(az b.rn.l)[j]?:=λj=>by
  have g:=Sz (pl:=az b.rn.l) (p:=(p:Int)) (tr:=⟨s,m⟩) ab (k:=m) ab j;rw[zaC]at g;exact g
 have AY:(C8 (az b.rn.l) p ⟨s,m⟩ m).length=(az b.rn.l).length:=Xy _ _ _ _;have fM:ni w (i:Int)=b:=by unfold ni;rw[zaC,hb];rfl
 have hmE:SJ (ar w.d b) p ⟨s,m⟩=0:=by
  unfold SJ;have e1:(ar w.d b).a.rs=false:=E3;have e2:(ar w.d b).pl=az b.rn.l:=rfl;have e3:(ar w.d b).d=w.d:=rfl;rw[e1,if_neg ao,if_neg,if_neg,if_neg,if_neg]
  ·rw[e3];intro g;obtain⟨j,hj⟩:=zaE.1 g;simp only at hj;have hjm:j<m:=by
    have:=(zaa.1 hj).1;rw[zal]at this;omega
   rw[zch ab,zaB,bO ab]at hj;have hj:=Option.some.inj hj;unfold df at hj;exact ae0 (s.toNat+j) ab ab (of_decide_eq_true hj)
  ·rw[e2];refine λg=>g ?_
   simp only[zaC];rw[WX,zal,zay]
   ·omega
   ·intro x hx;obtain⟨j,hj⟩:=zaE.1 hx;have hjm:j<m:=by
     have:=(zaa.1 hj).1;rw[zal]at this;omega
    rw[zch ab,zaB]at hj;have g:=h4 (p+j) ab ab;unfold Jc at g;rw[hj,zbx]at g;exact of_decide_eq_true g
  ·rw[e2];simp only;omega
  ·refine λg=>g ?_
   unfold Pv;rw[e3];simp only;omega
 have hNb:∀x∈C8 (az b.rn.l) p ⟨s,m⟩ m,x= -1\/(0<=x/\x<512):=λx hx=>by
  obtain⟨j,hj⟩:=zaE.1 hx;rw[PB j]at hj;split at hj
  ·have:=Option.some.inj hj;exact .inr ab
  ·exact agA x (zag hj)
 have hNd:yw (C8 (az b.rn.l) p ⟨s,m⟩ m):=Xt λj k x hj hk hx=>by
  rw[PB j]at hj;rw[PB k]at hk;have pD:∀y:Int,y∈az b.rn.l->y≠ -1->bH w.d.mp y.toNat=1:=λy hy h1=>QX h0 (by
   rcases agA y hy with g|g
   ·exact absurd g h1
   ·rw[show((y.toNat:Nat):Int)=y by omega];exact hy)
  by_cases g1:p<=j/\j<p+m
  ·rw[if_pos g1]at hj;have hj:=Option.some.inj hj;by_cases g2:p<=k/\k<p+m
   ·rw[if_pos g2]at hk;have hk:=Option.some.inj hk;omega
   ·rw[if_neg g2]at hk;have:=pD x (zag hk) hx;exact absurd this (ae0 x.toNat ab ab)
  ·rw[if_neg g1]at hj;by_cases g2:p<=k/\k<p+m
   ·rw[if_pos g2]at hk;have hk:=Option.some.inj hk;have:=pD x (zag hj) hx;exact absurd this (ae0 x.toNat ab ab)
   ·rw[if_neg g2]at hk;exact XD Es hj hk hx
 have hxA:Il b p ⟨s,m⟩={ b with rn:=.sl (IA (C8 (az b.rn.l) p ⟨s,m⟩ m)) }:=by
  unfold Il;simp only[zaC]
 have uk:ub w ⟨i,p,⟨s,m⟩⟩=fE w.d b p ⟨s,m⟩:=by
  unfold ub;rw[if_neg (by simp only;omega)];show dJ w.d (ni w i) p _=_;rw[fM];exact(azk h0).1
 have hxE:fE w.d b p ⟨s,m⟩=if 64<(IA (C8 (az b.rn.l) p ⟨s,m⟩ m)).length\/gu (Il b p ⟨s,m⟩)≠0 then 8 else 0:=by
  unfold fE;rw[hmE,if_neg (λg=>g rfl)];simp only[zaC]
 refine⟨λiG=>?_,λiG=>by rw[uk,hxE,if_pos (.inl ab)]⟩;have IF:gu (Il b p ⟨s,m⟩)=0:=by
  rw[hxA];exact abk q1 E3 q4 hNb hNd (by rw[AY];exact hlen) iG
 have hx:fE w.d b p ⟨s,m⟩=0:=by
  rw[hxE,if_neg];rintro(g|g)
  ·omega
  ·exact g IF
 have he:dJ w.d b p ⟨s,m⟩=0:=by rw[(azk h0).1];exact hx
 have atZ:ub w ⟨i,p,⟨s,m⟩⟩=0:=by rw[uk];exact hx
 refine⟨atZ,?_⟩;have aLE:=aaz hw ⟨i,p,⟨s,m⟩⟩;have hG:=aiL hw ⟨i,p,⟨s,m⟩⟩;have ml:=aBQ h0 WW kp he;have md:=aaA WW kp he;have e:nX w ⟨i,p,⟨s,m⟩⟩=iO w (Lz w.d b p ⟨s,m⟩) i (Il b p ⟨s,m⟩):=by
  unfold nX;rw[if_neg (λg=>g atZ)];show iO w (jM w.d (ni w i) p _) ((i:Int)).toNat (jG w.d (ni w i) p _)=_;rw[fM,ml.D,ml.A,zaC]
 rw[ml.D]at md;rw[e]at hG aLE ⊢;refine⟨hG,aLE.1,aLE.2,?_,by show w.st.l.set i _=_;rw[hxA],λc hc uq=>md.2 c hc uq,ZB λx hx=>by rcases hNb x hx with g|g<;>omega⟩;show bI (acZ (Lz w.d b p ⟨s,m⟩))=_;rw[Du,ml.n,ml.gy,<-Du]
structure Sh where
 k:Int
 p:Int
 c:Int
def M4:List Rn->Rn->Nat
 |[],_=>0
 |a::l,x=>if x.s=a.s/\x.n=a.n then 0 else M4 l x+1
def tu:∀{l:List Rn} {x:Rn},x∈l->l[M4 l x]?=some x
 |[],_,h=>by cases h
 |a::l,x,h=>by
  unfold M4;split
  ·rename_i e;cases x;cases a;simp only at e;rw[e.1,e.2];rfl
  ·rename_i e;rcases zax.1 h with rfl|h
   ·exact absurd ⟨rfl,rfl⟩ e
   ·rw[zbI];exact tu h
def dv:List Rn->Rn
 |[]=>⟨0,0⟩
 |b::l=>Ot b l
def Ng(R:List Rn)(n:Int):List Rn:=R.set (M4 R (dv R)) ⟨(dv R).s+n,(dv R).n-n⟩
def Hp(i:Int):Nat->Int->Int->List Rn->List Mv×List Rn
 |0,_,_,R=>([],R)
 |f+1,p,c,R=>if 0<c then(⟨i,p,⟨(dv R).s,min c (dv R).n⟩⟩::(Hp i f (p+min c (dv R).n) (c-min c (dv R).n) (Ng R (min c (dv R).n))).1,(Hp i f (p+min c (dv R).n) (c-min c (dv R).n) (Ng R (min c (dv R).n))).2)else([],R)
def gj:List Sh->List Rn->List Mv×List Rn
 |[],R=>([],R)
 |s::l,R=>((Hp s.k s.c.toNat s.p s.c R).1++(gj l (Hp s.k s.c.toNat s.p s.c R).2).1,(gj l (Hp s.k s.c.toNat s.p s.c R).2).2)
def RW:∀(l m:List Sh) (R:List Rn),gj (l++m) R=((gj l R).1++(gj m (gj l R).2).1,(gj m (gj l R).2).2)
 |[],m,R=>rfl
 |s::l,m,R=>by
  show((Hp s.k s.c.toNat s.p s.c R).1++(gj (l++m) _).1,(gj (l++m) _).2)=_;rw[RW l m];show _=(((Hp s.k s.c.toNat s.p s.c R).1++(gj l _).1)++_,_)
  rw[zaj];rfl
def OY(i p:Int)(R:List Rn){c:Int}(h:¬0<c):∀f,Hp i f p c R=([],R)
 |0=>rfl
 |f+1=>by unfold Hp;rw[if_neg h]
def S5{i p:Int}{R:List Rn}{c:Int}{f:Nat}(h:0<c):Hp i (f+1) p c R=(⟨i,p,⟨(dv R).s,min c (dv R).n⟩⟩::(Hp i f (p+min c (dv R).n) (c-min c (dv R).n) (Ng R (min c (dv R).n))).1,(Hp i f (p+min c (dv R).n) (c-min c (dv R).n) (Ng R (min c (dv R).n))).2):=by
 conv=>lhs;unfold Hp
 rw[if_pos h]
def abj(b:Rn):∀l:List Rn,b.n<=(Ot b l).n∧∀r∈l,r.n<=(Ot b l).n:=by
 intro l
 induction l generalizing b with
 |nil=>exact⟨zdF _,λr h=>bV⟩
 |cons x l ih=>
  obtain⟨h1,h2⟩:=ih (if b.n<x.n then x else b);show b.n<=(Ot (if b.n<x.n then x else b) l).n∧∀r∈x::l,r.n<=(Ot (if b.n<x.n then x else b) l).n;have h3:b.n<=(if b.n<x.n then x else b).n/\x.n<=(if b.n<x.n then x else b).n:=Bt;refine⟨ab,λr hr=>?_⟩;rcases zax.1 hr with rfl|hr
  ·omega
  ·exact h2 r hr
def sX{R:List Rn}(h:R≠[]):dv R∈R:=by
 cases R with
 |nil=>exact kN
 |cons b l=>
  rcases ZD b l with g|g
  ·show Ot b l∈_;rw[g];simp
  ·exact zdB _ g
def aev{R:List Rn}:∀r∈R,r.n<=(dv R).n:=by
 cases R with
 |nil=>intro r h;cases h
 |cons b l=>
  intro r h;have:=abj b l;rcases zax.1 h with rfl|h
  ·exact this.1
  ·exact this.2 r h
def Wg:∀{R:List Rn},0<bI R→∃r∈R,0<r.n
 |[],h=>absurd h ao
 |r::l,h=>by
  have h:0<r.n+bI l:=h;by_cases g:0<r.n
  ·exact⟨r,aj,g⟩
  ·obtain⟨x,h1,h2⟩:=Wg (R:=l) ab;exact⟨x,by simp[h1],h2⟩
def UZ{R:List Rn}(h:0<bI R):R≠[]/\0<(dv R).n:=by
 obtain⟨r,h1,h2⟩:=Wg h;have:=aev r h1;exact⟨λg=>(by rw[g]at h1;cases h1),ab⟩
def TN:∀{R:List Rn} {i:Nat} {a x:Rn},R[i]?=some a->bI (R.set i x)=bI R-a.n+x.n
 |[],i,a,x,h=>by simp at h
 |r::l,0,a,x,h=>by
  have h:some r=some a:=h;have h:=Option.some.inj h;subst h;show x.n+bI l=r.n+bI l-r.n+x.n;omega
 |r::l,i+1,a,x,h=>by
  rw[zbI]at h;show r.n+bI (l.set i x)=r.n+bI l-a.n+x.n;rw[TN h];omega
def Sa{R:List Rn}(h:R≠[])(n:Int):bI (Ng R n)=bI R-n:=by
 unfold Ng;rw[TN (tu (sX h))];show bI R-(dv R).n+((dv R).n-n)=_;omega
def S1(R:List Rn)(n:Int):(Ng R n).length=R.length:=za0
def R5{R:List Rn}(h:R≠[])(n:Int)(j:Nat):(Ng R n)[j]?=if M4 R (dv R)=j then some ⟨(dv R).s+n,(dv R).n-n⟩else R[j]?:=by
 unfold Ng;rw[zaS,if_pos (zaa.1 (tu (sX h))).1]
def YN{R:List Rn}{n:Int}(h:R≠[])(hn:0<=n/\n<=(dv R).n){A B:Int}(hb:∀r∈R,(A<=r.s/\0<=r.n)/\r.s+r.n<=B):∀r∈Ng R n,(A<=r.s/\0<=r.n)/\r.s+r.n<=B:=by
 intro r hr;obtain⟨j,hj⟩:=zaE.1 hr;rw[R5 h]at hj;split at hj
 ·have:=Option.some.inj hj;subst this;have:=hb _ (sX h);simp only;omega
 ·exact hb r (zag hj)
def Mx(R:List Rn):Nat:=R.countP λr=>decide (r.n=0)
def U3(R:List Rn):Mx R<=R.length:=List.countP_le_length
def abK{R:List Rn}{n:Int}(h:R≠[])(h1:0<(dv R).n):Mx (Ng R n)=Mx R+if n=(dv R).n then 1 else 0:=by
 have hg:=tu (sX h);obtain⟨hl,he⟩:=zaa.1 hg;unfold Mx Ng;rw[List.countP_set hl,he,decide_eq_false (by omega:¬(dv R).n=0)];by_cases g:n=(dv R).n
 ·rw[if_pos g,decide_eq_true (show(dv R).n-n=0 by omega)];simp
 ·rw[if_neg g,decide_eq_false (show ¬(dv R).n-n=0 by omega)];simp
structure RmI(w:Vo)(t:Rn)(R:List Rn):Prop where
 b:∀r∈R,(0<=r.s/\0<=r.n)/\r.s+r.n<=w.d.n
 fre:∀r∈R,∀c:Nat,r.s<=c->(c:Int)<r.s+r.n→¬bH w.d.mp c=1∧¬(t.s<=c/\(c:Int)<t.s+t.n)
 Xl:∀(i j:Nat) (a b:Rn),i≠j->R[i]?=some a->R[j]?=some b→∀c:Int,¬((a.s<=c/\c<a.s+a.n)/\b.s<=c/\c<b.s+b.n)
def RmI.use{w w':Vo}{t:Rn}{R:List Rn}{n:Int}(h:RmI w t R)(dI:R≠[])(hn:0<=n/\n<=(dv R).n)(hd:w'.d.n=w.d.n)(hb:∀c:Nat,c<w.d.n->bH w'.d.mp c=1->bH w.d.mp c=1\/((dv R).s<=c/\(c:Int)<(dv R).s+n)):RmI w' t (Ng R n):=by
 have hm:=sX dI;have hg:=tu hm;refine⟨by rw[hd];exact YN dI hn h.b,λr hr c c1 c2=>?_,λi j a b zk ha hbb c hc=>?_⟩
 ·obtain⟨j,hj⟩:=zaE.1 hr;rw[R5 dI]at hj;split at hj
  ·have:=Option.some.inj hj;subst this;simp only at c1 c2;have h2:=h.fre _ hm c ab ab;have h3:=h.b _ hm;exact⟨λg=>(hb c ab g).elim h2.1 (λg=>ab),h2.2⟩
  ·rename_i g;have hrm:=zag hj;have h2:=h.fre r hrm c c1 c2;have h3:=h.b r hrm;refine⟨λq=>(hb c ab q).elim h2.1 (λq=>?_),h2.2⟩;exact h.Xl _ _ _ _ g hg hj c ⟨⟨q.1,ab⟩,c1,c2⟩
 ·rw[R5 dI]at ha hbb;split at ha
  ·rename_i e1;have:=Option.some.inj ha;subst this;rw[if_neg ab]at hbb;simp only at hc;exact h.Xl _ _ _ _ (show M4 R (dv R)≠j by omega) hg hbb c ⟨⟨ab,ab⟩,hc.2⟩
  ·rename_i e1;split at hbb
   ·have:=Option.some.inj hbb;subst this;simp only at hc;exact h.Xl _ _ _ _ (show i≠M4 R (dv R) by omega) ha hg c ⟨hc.1,ab,ab⟩
   ·exact h.Xl _ _ _ _ zk ha hbb c hc
def Ns{h:Nat->Bool}:∀(n:Nat) {cl:List Nat},(∀i,i<n->h i=true->i∈cl)->gy h n<=cl.length
 |0,cl,_=>zbV _
 |n+1,cl,H=>by
  rw[cJ];by_cases g:h n=true
  ·rw[if_pos g];have h1:=Ns n (cl:=cl.filter λi=>decide (i≠n)) λi hi hh=>zbn.2 ⟨H i ab hh,aH⟩
   have h2:(cl.filter λi=>decide (i≠n)).length<cl.length:=List.length_filter_lt_length_iff_exists.2 ⟨n,H n ab g,aj⟩;omega
  ·rw[if_neg g];exact Ns n λi hi hh=>H i ab hh
def XG(P:List Int)(i:Nat):Int:=P[i]?.getD (-1)
def aa9(P:List Int):cQ (XG P) P.length=P:=by
 refine zba λi=>?_
 by_cases h:i<P.length
 ·rw[bO h];unfold XG;rw[zah h];rfl
 ·rw[zaK kD,zaK ab]
def T2{P:List Int}(h:∀x∈P,-1<=x):(IA P).length=gy (bR (XG P)) P.length:=by
 have:=(Xc (L:=XG P) (λi=>by
  unfold XG;cases g:P[i]? with
  |none=>simp
  |some x=>exact h x (zag g)) P.length).1
 rw[aa9]at this;exact this
def Pt(h:Nat->Bool):∀n,((List.range n).filter h).length=gy h n
 |0=>rfl
 |n+1=>by
  rw[zdj,zbS,zad,Pt h n,cJ];congr 1;by_cases g:h n=true
  ·rw[if_pos g,zdD g];rfl
  ·rw[if_neg g,zdE g];rfl
def aet{P P':List Int}{p m:Nat}{s:Int}(hP:∀j:Nat,P'[j]?=if p<=j/\j<p+m then some (s+((j-p:Nat):Int))else P[j]?)(hs:0<=s){i:Nat}(h:bR (XG P') i=true):bR (XG P) i=true\/i=p\/i=p+m:=by
 by_cases e1:i=p
 ·exact .inr (.inl e1)
 by_cases e2:i=p+m
 ·exact .inr (.inr e2)
 refine .inl ?_;unfold bR at h ⊢;rw[decide_eq_true_eq]at h ⊢;rcases h with h|h
 ·exact .inl h
 by_cases i0:i=0
 ·exact .inl i0
 refine .inr λj=>h ?_
 unfold XG at j ⊢;rw[hP,hP];by_cases g:p<i/\i<p+m
 ·rw[if_pos ab,if_pos ab];unfold zC;simp only[zbx];omega
 ·rw[if_neg ab,if_neg ab];exact j
def R6(t r:Rn):Prop:=r.s≠ -1/\max r.s t.s<min (r.s+r.n) (t.s+t.n)
instance (t r:Rn):Decidable (R6 t r):=by unfold R6;infer_instance
def NZ(t:Rn)(i p:Int)(r:Rn):List Sh:=if R6 t r then[⟨i,p+max r.s t.s-r.s,min (r.s+r.n) (t.s+t.n)-max r.s t.s⟩]else[]
def gY(t:Rn)(i p:Int):List Rn->List Sh
 |[]=>[]
 |r::l=>NZ t i p r++gY t i (p+r.n) l
def gk(t:Rn)(i:Int):List At->List Sh
 |[]=>[]
 |a::l=>gY t i 0 a.rn.l++gk t (i+1) l
def SD(t:Rn)(i:Int):∀(l m:List Rn) (p:Int),gY t i p (l++m)=gY t i p l++gY t i (p+bI l) m
 |[],m,p=>by show gY t i p m=[]++gY t i (p+0) m;rw[zaZ,Int.add_zero]
 |q::l,m,p=>by
  show NZ t i p q++gY t i (p+q.n) (l++m)=NZ t i p q++gY t i (p+q.n) l++gY t i (p+(q.n+bI l)) m;rw[SD t i l,zaj,zdI]
def SX(t:Rn):∀(l m:List At) (i:Int),gk t i (l++m)=gk t i l++gk t (i+l.length) m
 |[],m,i=>by show gk t i m=[]++gk t (i+((0:Nat):Int)) m;simp
 |b::l,m,i=>by
  show gY t i 0 b.rn.l++gk t (i+1) (l++m)=gY t i 0 b.rn.l++gk t (i+1) l++gk t (i+((l.length+1:Nat):Int)) m;rw[SX t l,zaj];congr 3;omega
def abQ(t:Rn)(i p:Int)(r:Rn):gY t i p [r]=NZ t i p r:=zbf _
def PJ{t:Rn}{i:Int}{l:List Rn}{j:Nat}{r:Rn}(h:l[j]?=some r):gY t i 0 (l.take (j+1))=gY t i 0 (l.take j)++NZ t i (bI (l.take j)) r:=by
 rw[zck,h,show(some r).toList=[r]from rfl,SD,abQ,zdR]
def TU{t:Rn}{l:List At}{i:Nat}{a:At}(h:l[i]?=some a):gk t 0 (l.take (i+1))=gk t 0 (l.take i)++gY t i 0 a.rn.l:=by
 have hl:=(zaa.1 h).1;rw[zck,h,show(some a).toList=[a]from rfl,SX,zdR,zal,zat ab];show _++(gY t i 0 a.rn.l++[])=_;rw[zbf]
def aej{t:Rn}{l:List At}{i:Nat}{a:At}(h:l[i]?=some a)(j:Nat):gk t 0 (l.take i)++gY t i 0 (a.rn.l.take j)<+:gk t 0 l:=by
 have e1:gk t 0 l=gk t 0 (l.take (i+1))++gk t (0+(l.take (i+1)).length) (l.drop (i+1)):=by rw[<-SX,zaD]
 have e2:gY t i 0 a.rn.l=gY t i 0 (a.rn.l.take j)++gY t i (0+bI (a.rn.l.take j)) (a.rn.l.drop j):=by rw[<-SD,zaD]
 rw[e1,TU h,e2,zaj,zaj];exact(List.prefix_append_right_inj _).2 (List.prefix_append ..)
def We(t:Rn)(w:Vo)(m:Mv):Prop:=
 (1<=m.t.n∧∀c:Int,m.t.s<=c->c<m.t.s+m.t.n→¬(t.s<=c/\c<t.s+t.n))/\
 (0<=m.k/\0<=m.p)∧∃b,w.st.l[m.k.toNat]?=some b/\(∀j:Nat,m.p<=j->(j:Int)<m.p+m.t.n→∃x,(az b.rn.l)[j]?=some x/\t.s<=x/\x<t.s+t.n)/\
  ∃b',(nX w m).st.l=w.st.l.set m.k.toNat b'∧∀j:Nat,¬(m.p<=j/\(j:Int)<m.p+m.t.n)->(az b'.rn.l)[j]?=(az b.rn.l)[j]?
def BE(t:Rn):Vo->List Mv->Vo->Prop
 |w,[],w'=>w'=w
 |w,m::l,w'=>(ub w m=0/\We t w m)/\BE t (nX w m) l w'
def ND{t:Rn}:∀{l m:List Mv} {w w1 w2:Vo},BE t w l w1->BE t w1 m w2->BE t w (l++m) w2
 |[],m,w,w1,w2,h,k=>by have h:w1=w:=h;subst h;exact k
 |x::l,m,w,w1,w2,h,k=>⟨h.1,ND (l:=l) h.2 k⟩
def KR{t:Rn}:∀{l:List Mv} {w w1:Vo},BE t w l w1→∀(i:Int) (rest:List Mv),PU w i (l++rest)=PU w1 (i+l.length) rest
 |[],w,w1,h,i,rest=>by
  have h:w1=w:=h;subst h;show PU w1 i rest=PU w1 (i+((0:Nat):Int)) rest;simp
 |x::l,w,w1,h,i,rest=>by
  show(if ub w x≠0 then _ else PU (nX w x) (i+1) (l++rest))=_;rw[if_neg (λg=>g h.1.1),KR (l:=l) h.2];congr 1;show i+1+(l.length:Int)=i+((l.length+1:Nat):Int);omega
structure X4(v:Vo)(t:Rn)(w:Vo)(R:List Rn)(lo:Nat->Nat)(cl:Nat->List Nat):Prop where
 g:L1 w
 fN:ac4 w=ac4 v
 n:w.d.n=v.d.n
 len:w.st.l.length=v.st.l.length
 fr:bI (acZ w.d)=bI (acZ v.d)
 st:∀k a,v.st.l[k]?=some a→∃b,w.st.l[k]?=some b/\b.rs=a.rs/\(az b.rn.l).length=(az a.rn.l).length/\(∀j,lo k<=j->(az b.rn.l)[j]?=(az a.rn.l)[j]?)/\(∀j x,j<lo k->(az b.rn.l)[j]?=some x→¬(t.s<=x/\x<t.s+t.n))/\
  ∀i,i<(az a.rn.l).length->bR (XG (az b.rn.l)) i=true->i∈cl k
 rm:RmI w t R
def CN{α:Type}(f:Nat->α)(k:Nat)(x:α)(i:Nat):α:=if i=k then x else f i
def iq{α:Type}(f:Nat->α)(k:Nat)(x:α):CN f k x k=x:=if_pos rfl
def JD{α:Type}(f:Nat->α){k i:Nat}(x:α)(h:i≠k):CN f k x i=f i:=if_neg h
def KN(l:List Nat)(i:Nat):List Nat:=if i∈l then l else i::l
def IP(l:List Nat)(i x:Nat):x∈l\/x=i->x∈KN l i:=by
 unfold KN;split
 ·rename_i h;rintro(g|rfl);exact g;exact h
 ·rintro(g|rfl)
  ·exact zdB _ g
  ·simp
def Td(l:List Nat)(i:Nat):(KN l i).length<=l.length+(if i∈l then 0 else 1):=by
 unfold KN;split<;>simp
def Q0(v:Vo)(R:List Rn):Prop:=(∃a∈v.st.l,16<a.rn.l.length)\/16<R.length
def abS{v:Vo}{t:Rn}{k:Nat}{a:At}(ha:v.st.l[k]?=some a)(c_:a.rs=false){p:Nat}{w:Vo}{R:List Rn}{lo:Nat->Nat}{cl:Nat->List Nat}(I:X4 v t w R lo cl)(UC:lo k<=p)
 (uq:∀j,lo k<=j->j<p→∀x,(az a.rn.l)[j]?=some x→¬(t.s<=x/\x<t.s+t.n)) {m:Nat} (hm:1<=m) (FQ:∀j,p<=j->j<p+m→∃x,(az a.rn.l)[j]?=some x/\x≠ -1/\t.s<=x/\x<t.s+t.n) (dI:R≠[]) (hmn:(m:Int)<=(dv R).n):
 (ub w ⟨k,p,⟨(dv R).s,m⟩⟩=0/\We t w ⟨k,p,⟨(dv R).s,m⟩⟩/\X4 v t (nX w ⟨k,p,⟨(dv R).s,m⟩⟩) (Ng R m) (CN lo k (p+m)) (CN cl k (KN (KN (cl k) p) (p+m))))\/
 (ub w ⟨k,p,⟨(dv R).s,m⟩⟩=8/\64<(KN (KN (cl k) p) (p+m)).length):=by
 obtain⟨b,hb,E3,Gn,G1,t_,rv⟩:=I.st k a ha;have Eo:=(zaa.1 hb).1;have tZ:=I.rm.b _ (sX dI);have hrf:=I.rm.fre _ (sX dI);have qG:p+m<=(az a.rn.l).length:=by
  obtain⟨x,hx,_⟩:=FQ (p+m-1) ab ab;have:=(zaa.1 hx).1;omega
 have hd:∀j,p<=j->j<p+m->Jc (az b.rn.l) j=true:=λj h1 h2=>by
  obtain⟨x,hx,I_,_⟩:=FQ j h1 h2;unfold Jc;rw[G1 j ab,hx,zbx];exact decide_eq_true I_
 have hms:=aaD (s:=(dv R).s) I.g hb (by rw[E3];exact c_) hm ab hd tZ.1.1 ab (λc c1 c2=>(hrf c c1 ab).1);have hP:∀j:Nat,(C8 (az b.rn.l) p ⟨(dv R).s,m⟩ m)[j]?=if p<=j/\j<p+m then some ((dv R).s+((j-p:Nat):Int))else(az b.rn.l)[j]?:=λj=>by
  have g:=Sz (pl:=az b.rn.l) (p:=(p:Int)) (tr:=⟨(dv R).s,m⟩) ab (k:=m) ab j;rw[zaC]at g;exact g
 have AY:(C8 (az b.rn.l) p ⟨(dv R).s,m⟩ m).length=(az a.rn.l).length:=(Xy _ _ _ _).trans Gn;have mE:∀i,i<(az a.rn.l).length->bR (XG (C8 (az b.rn.l) p ⟨(dv R).s,m⟩ m)) i=true->i∈KN (KN (cl k) p) (p+m):=λi hi h=>by
  rcases aet hP tZ.1.1 h with g|g|g
  ·exact IP _ _ _ (.inl (IP _ _ _ (.inl (rv i hi g))))
  ·exact IP _ _ _ (.inl (IP _ _ _ (.inr g)))
  ·exact IP _ _ _ (.inr g)
 have SF:∀x∈C8 (az b.rn.l) p ⟨(dv R).s,m⟩ m,-1<=x:=λx hx=>by
  obtain⟨j,hj⟩:=zaE.1 hx;rw[hP]at hj;split at hj
  ·have:=Option.some.inj hj;omega
  ·have:=(bc ((AZ.1 I.g.2).2.2.1 b (zag hb))).1.pl x (zag hj);rcases this with g|g<;>omega
 by_cases iG:(IA (C8 (az b.rn.l) p ⟨(dv R).s,m⟩ m)).length<=64
 case neg=>
  refine .inr ⟨hms.2 iG,?_⟩;have:=Ns _ mE;rw[<-AY,<-T2 SF]at this;omega
 obtain⟨h0,M⟩:=hms.1 iG;have LO:(nX w ⟨k,p,⟨(dv R).s,m⟩⟩).st.l=w.st.l.set k { b with rn:=.sl (IA (C8 (az b.rn.l) p ⟨(dv R).s,m⟩ m)) }:=M.st;refine .inl ⟨h0,⟨⟨by simp only;omega,λc c1 c2=>?_⟩,⟨by simp only;omega,by simp only;omega⟩,b,hb,λj j1 j2=>?_,_,LO,λj hj=>?_⟩,M.g,M.fN.trans I.fN,M.n.trans I.n,by rw[LO,za0];exact I.len,M.fr.trans I.fr,λk' a' ha'=>?_,?_⟩
 ·simp only at c1 c2;have:=(hrf c.toNat ab ab).2;rwa[show((c.toNat:Nat):Int)=c by omega]at this
 ·simp only at j1 j2;obtain⟨x,hx,_,vR⟩:=FQ j ab ab;exact⟨x,by rw[G1 j ab];exact hx,vR⟩
 ·simp only at hj;show(az (IA (C8 (az b.rn.l) p ⟨(dv R).s,m⟩ m)))[j]?=_;rw[M.pl,hP,if_neg ab]
 ·by_cases hk:k'=k
  ·subst hk;rw[ha]at ha';have e:=Option.some.inj ha';subst e;refine⟨{ b with rn:=.sl (IA (C8 (az b.rn.l) p ⟨(dv R).s,m⟩ m)) },by rw[LO,zcm Eo],E3,?_,λj hj=>?_,λj x hj hx=>?_,λi hi j9=>?_⟩
   ·show(az (IA _)).length=_;rw[M.pl];exact AY
   ·rw[iq]at hj;show(az (IA (C8 (az b.rn.l) p ⟨(dv R).s,m⟩ m)))[j]?=_;rw[M.pl,hP,if_neg ab];exact G1 j ab
   ·rw[iq]at hj;have hx:(az (IA (C8 (az b.rn.l) p ⟨(dv R).s,m⟩ m)))[j]?=some x:=hx;rw[M.pl,hP]at hx;split at hx
    ·have:=Option.some.inj hx;have:=(hrf ((dv R).s.toNat+(j-p)) ab ab).2;rwa[show(((dv R).s.toNat+(j-p):Nat):Int)=x by omega]at this
    ·by_cases HQ:j<lo k'
     ·exact t_ j x HQ hx
     ·rw[G1 j ab]at hx;exact uq j ab ab x hx
   ·have j9:bR (XG (az (IA (C8 (az b.rn.l) p ⟨(dv R).s,m⟩ m)))) i=true:=j9;rw[M.pl]at j9;rw[iq];exact mE i hi j9
  ·obtain⟨b',q1,q2,q3,q4,q5,q6⟩:=I.st k' a' ha';refine⟨b',by rw[LO,zct ab];exact q1,q2,q3,λj hj=>q4 j (by rwa[JD _ _ hk]at hj),λj x hj hx=>q5 j x (by rwa[JD _ _ hk]at hj) hx,λi hi j9=>?_⟩;rw[JD _ _ hk];exact q6 i hi j9
 ·exact I.rm.use dI ab M.n λc c1 c2=>M.bit c c1 c2
def jU(l:List Sh):Int:=(l.map λs=>s.c).sum
def ir(l m:List Sh):jU (l++m)=jU l+jU m:=by unfold jU;rw[zbs,List.sum_append]
def X4.raise{v:Vo}{t:Rn}{w:Vo}{R:List Rn}{lo:Nat->Nat}{cl:Nat->List Nat}(I:X4 v t w R lo cl){k q:Nat}(h:∀a,v.st.l[k]?=some a→∀j,lo k<=j->j<q→∀x,(az a.rn.l)[j]?=some x→¬(t.s<=x/\x<t.s+t.n))(hq:lo k<=q):X4 v t w R (CN lo k q) cl:=by
 refine⟨I.g,I.fN,I.n,I.len,I.fr,λk' a ha=>?_,I.rm⟩;obtain⟨b,q1,q2,q3,q4,q5,q6⟩:=I.st k' a ha;by_cases hk:k'=k
 ·subst hk;refine⟨b,q1,q2,q3,λj hj=>q4 j (by rw[iq]at hj;omega),λj x hj hx=>?_,q6⟩;rw[iq]at hj;by_cases g:j<lo k'
  ·exact q5 j x g hx
  ·rw[q4 j ab]at hx;exact h a ha j ab hj x hx
 ·exact⟨b,q1,q2,q3,λj hj=>q4 j (by rwa[JD _ _ hk]at hj),λj x hj hx=>q5 j x (by rwa[JD _ _ hk]at hj) hx,q6⟩
def V2{α:Type}(f:Nat->α)(k:Nat)(x y:α):CN (CN f k x) k y=CN f k y:=by
 funext i;unfold CN;split<;>rfl
def ad_{w:Vo}{m:Mv}{l:List Mv}{i e:Int}(h:ub w m=e)(he:e≠0):(PU w i (m::l)).2.2=e:=by
 show(if ub w m≠0 then(_,_,ub w m)else PU (nX w m) (i+1) l:Vo×Int×Int).2.2=e;rw[if_pos (by rw[h];exact he),h]
def RC{v:Vo}{t:Rn}{k:Nat}{a:At}(ha:v.st.l[k]?=some a)(c_:a.rs=false):∀(f p c:Nat) (w:Vo) (R:List Rn) (lo:Nat->Nat) (cl:Nat->List Nat),c<=f->1<=c->X4 v t w R lo cl->lo k<=p->
 (∀j,lo k<=j->j<p→∀x,(az a.rn.l)[j]?=some x→¬(t.s<=x/\x<t.s+t.n))->(∀j,p<=j->j<p+c→∃x,(az a.rn.l)[j]?=some x/\x≠ -1/\t.s<=x/\x<t.s+t.n)->(c:Int)<=bI R->
 (∃w' Uy,BE t w (Hp k f p c R).1 w'/\X4 v t w' (Hp k f p c R).2 (CN lo k (p+c)) Uy/\(∀i,i≠k->Uy i=cl i)/\(Uy k).length+Mx R<=(cl k).length+Mx (Hp k f p c R).2+(if p∈cl k then 1 else 2)/\
   bI (Hp k f p c R).2=bI R-c/\(Hp k f p c R).2.length=R.length/\(Hp k f p c R).1.length+Mx R<=Mx (Hp k f p c R).2+1)\/
 ((∀(i:Int) (rest:List Mv),(PU w i ((Hp k f p c R).1++rest)).2.2=8)/\64+Mx R<(cl k).length+(if p∈cl k then 1 else 2)+R.length)
 |0,p,c,w,R,lo,cl,hf,hc,_,_,_,_,_=>by omega
 |f+1,p,c,w,R,lo,cl,hf,hc,I,UC,uq,FQ,aHt=>by
  obtain⟨dI,hpk⟩:=UZ (R:=R) ab;have hxe:=U3 R;obtain⟨m,hm⟩:∃m:Nat,min (c:Int) (dv R).n=m:=⟨(min (c:Int) (dv R).n).toNat,ab⟩
  have mY:1<=m/\m<=c/\(m:Int)<=(dv R).n/\(m<c->(m:Int)=(dv R).n):=ab;rw[S5 (by omega:(0:Int)<(c:Int)),hm];have e1:(p:Int)+(m:Int)=((p+m:Nat):Int):=ab;have e2:(c:Int)-(m:Int)=((c-m:Nat):Int):=ab;rw[e1,e2];have I_:=abK (n:=(m:Int)) dI hpk;have lX:=Sa dI (m:Int);have pj:=S1 R (m:Int);have ha1:=Td (cl k) p;have ha2:=Td (KN (cl k) p) (p+m);have ha3:(KN (KN (cl k) p) (p+m)).length<=(cl k).length+(if p∈cl k then 1 else 2):=by
   split at ha1<;>split<;>split at ha2<;>first|omega|(exfalso;simp_all;done)
  rcases abS ha c_ I UC uq mY.1 (λj h1 h2=>FQ j h1 ab) dI mY.2.2.1 with⟨g1,g2,g3⟩|⟨g1,g2⟩
  case inr=>
   refine .inr ⟨λi rest=>ad_ g1 ao,ab⟩
  by_cases Vu:m=c
  ·subst Vu;have e3:∀q:Int,Hp k f q ((m-m:Nat):Int) (Ng R m)=([],Ng R m):=λq=>OY _ _ _ ab f
   rw[e3];refine .inl ⟨_,_,⟨⟨g1,g2⟩,rfl⟩,g3,λi hi=>JD _ _ hi,?_,lX,pj,?_⟩
   ·rw[iq];show _<=(cl k).length+Mx (Ng R m)+_;split at I_<;>omega
   ·show 1+Mx R<=Mx (Ng R m)+1;split at I_<;>omega
  have hmc:(m:Int)=(dv R).n:=mY.2.2.2 ab;rw[if_pos hmc]at I_;have jB:p+m∈CN cl k (KN (KN (cl k) p) (p+m)) k:=by rw[iq];exact IP _ _ _ (.inr rfl)
  rcases RC ha c_ f (p+m) (c-m) (nX w ⟨k,p,⟨(dv R).s,m⟩⟩) (Ng R m) (CN lo k (p+m)) (CN cl k (KN (KN (cl k) p) (p+m))) ab ab g3 (by rw[iq];exact zai _) (λj h1 h2=>by rw[iq]at h1;omega) (λj h1 h2=>FQ j ab ab) ab with⟨w',Uy,r1,r2,r3,r4,r5,r6,r7⟩|⟨r1,r2⟩
  ·rw[V2,show p+m+(c-m)=p+c by omega]at r2;rw[if_pos jB,iq]at r4;refine .inl ⟨w',Uy,⟨⟨g1,g2⟩,r1⟩,r2,λi hi=>(r3 i hi).trans (JD _ _ hi),?_,?_,r6.trans pj,?_⟩
   ·show _<=(cl k).length+Mx (Hp k f (p+m:Nat) (c-m:Nat) (Ng R m)).2+_;omega
   ·show bI (Hp k f (p+m:Nat) (c-m:Nat) (Ng R m)).2=_;rw[r5,lX];omega
   ·show(Hp k f (p+m:Nat) (c-m:Nat) (Ng R m)).1.length+1+Mx R<=Mx (Hp k f (p+m:Nat) (c-m:Nat) (Ng R m)).2+1;omega
  ·rw[if_pos jB,iq]at r2;refine .inr ⟨λi rest=>?_,ab⟩;show(if ub w _≠0 then _ else PU (nX w _) (i+1) ((Hp k f (p+m:Nat) (c-m:Nat) (Ng R m)).1++rest):Vo×Int×Int).2.2=8;rw[if_neg (λg=>g g1)];exact r1 _ rest
def Rr(r:Rn):(iV r).length=r.n.toNat:=by unfold iV;simp
def Sq:∀{l:List Rn},(∀r∈l,0<=r.n)->((az l).length:Int)=bI l
 |[],_=>rfl
 |r::l,h=>by
  have e:az (r::l)=iV r++az l:=zao;rw[e,zad,Rr];have:=Sq (l:=l) λx hx=>h x iP
  have:=h r aj;show _=r.n+bI l;omega
def aec{pre l:List Rn}{r:Rn}{j:Nat}(h1:(az pre).length<=j)(h2:(j:Int)<(az pre).length+r.n):(az (pre++r::l))[j]?=some (if r.s= -1 then-1 else r.s+((j-(az pre).length:Nat):Int)):=by
 have e:az (pre++r::l)=az pre++(iV r++az l):=by unfold az;rw[List.flatMap_append,zao]
 rw[e,zak h1,List.getElem?_append_left (by rw[Rr];omega)];unfold iV;rw[za9,zbz ab];rfl
def afk{d:Dk}{a:At}(h0:aK d a=0){r t:Rn}(hr:r∈a.rn.l)(h:R6 t r):a.rs=false:=by
 cases g:a.rs with
 |false=>rfl
 |true=>
  have h1:Dc a=[]:=by unfold Dc;rw[if_pos g]
  rw[R_ h0]at h1;have hon:=Bd h0 r hr;obtain⟨h2,h3⟩:=h;have:r.s.toNat∈xM a.rn.l:=zbA.2 ⟨r,hr,by unfold M9;rw[if_neg h2,zc4];omega⟩;rw[h1]at this;cases this
def Vn{v:Vo}{t:Rn}{k:Nat}{a:At}(hv:L1 v)(ht:0<=t.s)(ha:v.st.l[k]?=some a):∀(l pre:List Rn) (w:Vo) (R:List Rn) (lo:Nat->Nat) (cl:Nat->List Nat),a.rn.l=pre++l->X4 v t w R lo cl->lo k=(az pre).length->
 (cl k).length<=a.rn.l.length+2*pre.length+Mx R->jU (gY t k (bI pre) l)<=bI R->
 (∃w' xF Uy,BE t w (gj (gY t k (bI pre) l) R).1 w'/\X4 v t w' (gj (gY t k (bI pre) l) R).2 xF Uy/\(∀i,i≠k->xF i=lo i/\Uy i=cl i)/\(az a.rn.l).length<=xF k/\
   bI (gj (gY t k (bI pre) l) R).2=bI R-jU (gY t k (bI pre) l)/\(gj (gY t k (bI pre) l) R).2.length=R.length/\(gj (gY t k (bI pre) l) R).1.length+Mx R<=Mx (gj (gY t k (bI pre) l) R).2+l.length)\/
 ((∀(i:Int) (rest:List Mv),(PU w i ((gj (gY t k (bI pre) l) R).1++rest)).2.2=8)/\(16<a.rn.l.length\/16<R.length)):=by
 have h0:=(AZ.1 hv.2).2.2.1 a (zag ha);have hon:=λr hr=>Bd h0 r hr
 have lF:=(bZ (bc h0).1.rn).2.2.2;have x3:∀r∈a.rn.l,0<=r.n:=λr hr=>by have:=rG (lF r hr);omega
 intro l
 induction l with
 |nil=>
  intro pre w R lo cl hp I UC mE hs;rw[zbf]at hp;refine .inl ⟨w,lo,cl,rfl,I,λ_ _=>⟨rfl,rfl⟩,by rw[hp,UC];exact zai _,?_,rfl,?_⟩
  ·show bI R=bI R-0;omega
  ·show 0+Mx R<=Mx R+0;omega
 |cons r l ih=>
  intro pre w R lo cl hp I UC mE hs;have hrm:r∈a.rn.l:=by rw[hp];simp
  have JA:=hon r hrm;have hr0:=x3 r hrm;have qG:=Sq (l:=pre) λx hx=>x3 x (by rw[hp];simp[hx])
  have eQ:a.rn.l=(pre++[r])++l:=by rw[hp];simp
  have lk:bI (pre++[r])=bI pre+r.n:=by
   rw[J8];show _+(r.n+0)=_;omega
  have ano:(az (pre++[r])).length=(az pre).length+r.n.toNat:=by
   have:=Sq (l:=pre++[r]) λx hx=>x3 x (by rw[eQ];exact zb7 _ hx)
   omega
  have azt:(pre++[r]).length=pre.length+1:=aj;have IF:∀j,(az pre).length<=j->j<(az pre).length+r.n.toNat->(az a.rn.l)[j]?=some (if r.s= -1 then-1 else r.s+((j-(az pre).length:Nat):Int)):=λj h1 h2=>by
   rw[hp];exact aec h1 ab
  have avQ:gY t k (bI pre) (r::l)=NZ t k (bI pre) r++gY t k (bI (pre++[r])) l:=by rw[lk];rfl
  rw[avQ]at hs ⊢;have Pd:=U3 R;by_cases jB:R6 t r
  case neg=>
   have e:NZ t k (bI pre) r=[]:=by unfold NZ;rw[if_neg jB]
   rw[e,zaZ]at hs ⊢;have I2:=I.raise (k:=k) (q:=(az (pre++[r])).length) (λa' ha' j j1 j2 x hx=>by
    rw[ha]at ha';have e:=Option.some.inj ha';subst e;rw[IF j ab ab]at hx;have hx:=Option.some.inj hx;split at hx
    ·omega
    ·rename_i g;intro q;exact jB ⟨g,ab⟩) ab
   rcases ih (pre++[r]) w R _ cl eQ I2 (iq _ _ _) (by rw[azt];omega) hs with⟨w',xF,Uy,r1,r2,r3,r4,r5,r6,r7⟩|r1
   ·exact .inl ⟨w',xF,Uy,r1,r2,λi hi=>⟨(r3 i hi).1.trans (JD _ _ hi),(r3 i hi).2⟩,r4,r5,r6,by rw[zam];omega⟩
   ·exact .inr r1
  have Us:=jB;obtain⟨n1,n2⟩:=jB;have c_:=afk h0 hrm Us;have CW:=JA.resolve_left n1;have e:NZ t k (bI pre) r=[⟨k,bI pre+max r.s t.s-r.s,min (r.s+r.n) (t.s+t.n)-max r.s t.s⟩]:=by unfold NZ;rw[if_pos Us]
  rw[e]at hs ⊢;rw[ir]at hs ⊢;obtain⟨p,jg⟩:∃p:Nat,bI pre+max r.s t.s-r.s=p:=⟨(bI pre+max r.s t.s-r.s).toNat,ab⟩
  obtain⟨c,YZ⟩:∃c:Nat,min (r.s+r.n) (t.s+t.n)-max r.s t.s=c:=⟨(min (r.s+r.n) (t.s+t.n)-max r.s t.s).toNat,ab⟩
  rw[jg,YZ]at hs ⊢;have lX:jU [(⟨k,p,c⟩:Sh)]=c:=Int.add_zero _;rw[lX]at hs ⊢;have z_:∀(l:List Rn) (q:Int),0<=jU (gY t k q l):=by
   intro l
   induction l with
   |nil=>intro q;exact zdF _
   |cons y l ih=>
    intro q;show 0<=jU (NZ t k q y++gY t k (q+y.n) l);rw[ir];have:=ih (q+y.n);unfold NZ;split
    ·rename_i g;show 0<=(_+0)+_;simp only;have:=g.2;omega
    ·show 0<=0+_;omega
  have akg:=z_ l (bI (pre++[r]));have hgA:gj ([(⟨k,p,c⟩:Sh)]++gY t k (bI (pre++[r])) l) R=((Hp k c p c R).1++(gj (gY t k (bI (pre++[r])) l) (Hp k c p c R).2).1,(gj (gY t k (bI (pre++[r])) l) (Hp k c p c R).2).2):=rfl;rw[hgA];have ko:(if p∈cl k then 1 else 2)<=2:=Bt;have WZ:a.rn.l.length=pre.length+(l.length+1):=by rw[hp,zad,zam]
  rcases RC ha c_ c p c w R lo cl (zai _) ab I ab (λj j1 j2 x hx=>by
   rw[IF j ab ab]at hx;have hx:=Option.some.inj hx;rw[if_neg n1]at hx;omega) (λj j1 j2=>⟨_,by rw[IF j ab ab,if_neg n1],ab,ab,ab⟩) ab with⟨w1,cl1,r1,r2,r3,r4,r5,r6,r7⟩|⟨r1,r2⟩
  case inr=>
   refine .inr ⟨λi rest=>by show(PU w i ((_++_)++rest)).2.2=8;rw[zaj];exact r1 i _,ab⟩
  have I2:=r2.raise (k:=k) (q:=(az (pre++[r])).length) (λa' ha' j j1 j2 x hx=>by
   rw[ha]at ha';have e:=Option.some.inj ha';subst e;rw[iq]at j1;rw[IF j ab ab]at hx;have hx:=Option.some.inj hx;rw[if_neg n1]at hx;omega) (by rw[iq];omega)
  rw[V2]at I2;generalize hq:Hp k c p c R=q at*;rcases ih (pre++[r]) w1 q.2 _ cl1 eQ I2 (iq _ _ _) (by rw[azt];omega) ab with⟨w',xF,Uy,s1,s2,s3,s4,s5,s6,s7⟩|⟨s1,s2⟩
  ·refine .inl ⟨w',xF,Uy,ND r1 s1,s2,λi hi=>⟨(s3 i hi).1.trans (JD _ _ hi),(s3 i hi).2.trans (r3 i hi)⟩,s4,?_,s6.trans r6,?_⟩
   ·show bI (gj _ q.2).2=_;rw[s5,r5];omega
   ·show(q.1++(gj _ q.2).1).length+Mx R<=Mx (gj _ q.2).2+(l.length+1);rw[zad];omega
  ·refine .inr ⟨λi rest=>?_,by rw[r6]at s2;exact s2⟩;show(PU w i ((q.1++(gj _ q.2).1)++rest)).2.2=8;rw[zaj,KR r1];exact s1 _ _
def abv{v:Vo}{t:Rn}(hv:L1 v)(ht:0<=t.s):∀(l pre:List At) (w:Vo) (R:List Rn) (lo:Nat->Nat) (cl:Nat->List Nat),v.st.l=pre++l->X4 v t w R lo cl->
 (∀k a,pre.length<=k->v.st.l[k]?=some a->lo k=0/\(cl k).length<=a.rn.l.length)->(∀k a,k<pre.length->v.st.l[k]?=some a->(az a.rn.l).length<=lo k)->jU (gk t pre.length l)<=bI R->
 (∃w' xF Uy,BE t w (gj (gk t pre.length l) R).1 w'/\X4 v t w' (gj (gk t pre.length l) R).2 xF Uy/\(∀k a,v.st.l[k]?=some a->(az a.rn.l).length<=xF k)/\(gj (gk t pre.length l) R).2.length=R.length/\
   (gj (gk t pre.length l) R).1.length+Mx R<=Mx (gj (gk t pre.length l) R).2+(l.map λa=>a.rn.l.length).sum)\/
 ((∀(i:Int) (rest:List Mv),(PU w i ((gj (gk t pre.length l) R).1++rest)).2.2=8)/\Q0 v R):=by
 intro l
 induction l with
 |nil=>
  intro pre w R lo cl hp I _ h2 hs;rw[zbf]at hp;exact .inl ⟨w,lo,cl,rfl,I,λk a ha=>h2 k a (by rw[<-hp];exact(zaa.1 ha).1) ha,rfl,by show 0+Mx R<=Mx R+0;omega⟩
 |cons a l ih=>
  intro pre w R lo cl hp I h1 h2 hs;have ha:v.st.l[pre.length]?=some a:=by rw[hp,zak (zai _),zcH];rfl
  have eQ:v.st.l=(pre++[a])++l:=by rw[hp];simp
  have LA:(pre++[a]).length=pre.length+1:=aj;obtain⟨g1,g2⟩:=h1 _ a (zai _) ha;have e:gk t pre.length (a::l)=gY t pre.length (bI []) a.rn.l++gk t ((pre++[a]).length:Nat) l:=by
   show gY t pre.length 0 a.rn.l++gk t ((pre.length:Int)+1) l=_;rw[LA];rfl
  rw[e]at hs ⊢;rw[ir]at hs;rw[RW];have z_:∀(l:List At) (i:Int),0<=jU (gk t i l):=by
   intro l
   induction l with
   |nil=>intro i;exact zdF _
   |cons b l ih=>
    intro i;show 0<=jU (gY t i 0 b.rn.l++gk t (i+1) l);rw[ir];have:=ih (i+1);have:∀(l:List Rn) (q:Int),0<=jU (gY t i q l):=by
     intro l
     induction l with
     |nil=>intro q;exact zdF _
     |cons y l ih=>
      intro q;show 0<=jU (NZ t i q y++gY t i (q+y.n) l);rw[ir];have:=ih (q+y.n);unfold NZ;split
      ·rename_i g;show 0<=(_+0)+_;simp only;have:=g.2;omega
      ·show 0<=0+_;omega
    have:=this b.rn.l 0;omega
  have akg:=z_ l ((pre++[a]).length:Nat);rcases Vn hv ht ha a.rn.l [] w R lo cl rfl I g1 aH ab with⟨w1,lo1,cl1,r1,r2,r3,r4,r5,r6,r7⟩|⟨r1,r2⟩
  case inr=>
   refine .inr ⟨λi rest=>by rw[zaj];exact r1 i _,?_⟩;rcases r2 with r2|r2
   ·exact .inl ⟨a,zag ha,r2⟩
   ·exact .inr r2
  generalize gj (gY t pre.length (bI []) a.rn.l) R=q at*;rcases ih (pre++[a]) w1 q.2 lo1 cl1 eQ r2 (λk b hk hb=>by
   rw[LA]at hk;rw[(r3 k ab).1,(r3 k ab).2];exact h1 k b ab hb) (λk b hk hb=>by
   rw[LA]at hk;by_cases g:k=pre.length
   ·subst g;rw[ha]at hb;cases hb;exact r4
   ·rw[(r3 k g).1];exact h2 k b ab hb) ab with⟨w',xF,Uy,s1,s2,s3,s4,s5⟩|⟨s1,s2⟩
  ·refine .inl ⟨w',xF,Uy,ND r1 s1,s2,s3,s4.trans r6,?_⟩;show(q.1++(gj _ q.2).1).length+Mx R<=Mx (gj _ q.2).2+_;rw[zad,zau,zdr];omega
  ·refine .inr ⟨λi rest=>?_,?_⟩
   ·rw[zaj,KR r1];exact s1 _ _
   ·rcases s2 with s2|s2
    ·exact .inl s2
    ·exact .inr (by rw[r6]at s2;exact s2)
def LK(t:Rn)(c:Int):Prop:=¬(t.s<=c/\c<=t.s+t.n-1)
noncomputable def Fi(v:Vo)(t:Rn):List Rn:=ae (aqZ v (LK t)) (cf v).length
def R1{v:Vo}(h:U1 v)(t:Rn):Fi v t=ae (λc=>¬bH v.d.mp c=1/\LK t c) v.d.n:=by
 unfold Fi;rw[yx];refine aiJ _ λc hc=>?_
 unfold aqZ;rw[atL h hc]
def RJ{v:Vo}(h:U1 v){t:Rn}:RmI v t (Fi v t):=by
 rw[R1 h];have hb:=(ah9 (λc:Nat=>¬bH v.d.mp c=1/\LK t c) v.d.n).1;obtain⟨h1,h2⟩:=R7 (λc:Nat=>¬bH v.d.mp c=1/\LK t c) v.d.n;refine⟨λr hr=>by have:=hb r hr;omega,λr hr c c1 c2=>?_,λi j a b zk ha hbb c hc=>?_⟩
 ·have:=((h1 c).1 ⟨r,hr,RP.2 ⟨c1,c2⟩⟩).2;exact⟨this.1,λg=>this.2 ab⟩
 ·obtain⟨hi,rfl⟩:=zaa.1 ha;obtain⟨hj,rfl⟩:=zaa.1 hbb;have h0:=hb _ (zcN hi);have key:∀x y:Rn,(∀c,¬(fR x c=true/\fR y c=true))->0<=x.s→¬((x.s<=c/\c<x.s+x.n)/\y.s<=c/\c<y.s+y.n):=λx y q h0 g=>q c.toNat ⟨RP.2 ab,RP.2 ab⟩
  rcases Nat.lt_or_ge i j with g|g
  ·exact key _ _ (zcW.1 h2 i j hi hj g) h0.1 hc
  ·have h3:=hb _ (zcN hj);exact key _ _ (zcW.1 h2 j i hj hi ab) h3.1 ⟨hc.2,hc.1⟩
noncomputable def PH(v:Vo)(t:Rn):List Mv:=(gj (gk t 0 v.st.l) (Fi v t)).1
structure afK(v:Vo)(t:Rn)(w:Vo):Prop where
 ch:BE t v (PH v t) w
 g:L1 w
 fN:ac4 w=ac4 v
 n:w.d.n=v.d.n
 fr:bI (acZ w.d)=bI (acZ v.d)
 no:∀a∈w.st.l,∀x∈az a.rn.l,¬(t.s<=x/\x<t.s+t.n)
def Xe{v:Vo}{t:Rn}(hv:L1 v)(ht:0<=t.s)(hs:jU (gk t 0 v.st.l)<=bI (Fi v t)):
 (∃w,afK v t w/\((PH v t).length<=300\/Q0 v (Fi v t)))\/((PU v 0 (PH v t)).2.2=8/\Q0 v (Fi v t)):=by
 have hk:=P0 hv.1 hv.2;obtain⟨o1,o2,o3,o4⟩:=AZ.1 hv.2
 let cl0:Nat->List Nat:=λk=>match v.st.l[k]? with
  |some a=>(List.range (az a.rn.l).length).filter (bR (XG (az a.rn.l)))
  |none=>[]
 have agF:∀k a,v.st.l[k]?=some a->cl0 k=(List.range (az a.rn.l).length).filter (bR (XG (az a.rn.l))):=λk a ha=>by
  show(match v.st.l[k]? with|some a=>_|none=>[])=_;rw[ha]
 have I:X4 v t v (Fi v t) (λ_=>0) cl0:=by
  refine⟨hv,rfl,rfl,rfl,rfl,λk a ha=>⟨a,ha,rfl,rfl,λ_ _=>rfl,λj x hj=>absurd hj (zcq _),λi hi h=>?_⟩,RJ hk⟩;rw[agF k a ha];exact zbn.2 ⟨List.mem_range.2 hi,h⟩
 have fM:∀k a,v.st.l[k]?=some a->(cl0 k).length<=a.rn.l.length:=λk a ha=>by
  have h0:=(bc (o3 a (zag ha))).1;rw[agF k a ha,Pt,<-T2 λx hx=>by rcases h0.pl x hx with g|g<;>omega];exact XP λr hr=>by
   have:=(bZ h0.rn).2.2.2 r hr;unfold jZ at this;split at this<;>omega
 rcases abv hv ht v.st.l [] v (Fi v t) _ cl0 rfl I (λk a _ ha=>⟨rfl,fM k a ha⟩) (λk a hk=>absurd hk (zcq _)) hs with⟨w,lo,cl,r1,r2,r3,r4,r5⟩|⟨r1,r2⟩
 ·refine .inl ⟨w,⟨r1,r2.g,r2.fN,r2.n,r2.fr,λb hb x hx=>?_⟩,?_⟩
  ·obtain⟨k,hk⟩:=zaE.1 hb;have Eo:=(zaa.1 hk).1;rw[r2.len]at Eo;obtain⟨a,ha⟩:∃a,v.st.l[k]?=some a:=⟨_,zah Eo⟩
   obtain⟨b',q1,q2,q3,q4,q5,_⟩:=r2.st k a ha;rw[hk]at q1;cases q1;obtain⟨j,hj⟩:=zaE.1 hx;have HQ:=(zaa.1 hj).1;exact q5 j x (by have:=r3 k a ha;omega) hj
  ·by_cases g:Q0 v (Fi v t)
   ·exact .inr g
   ·refine .inl ?_;have g1:∀a∈v.st.l,a.rn.l.length<=16:=λa ha=>zdU λh=>g (.inl ⟨a,ha,h⟩)
    have g2:(Fi v t).length<=16:=zdU λh=>g (.inr h)
    have hx:=U3 (gj (gk t 0 v.st.l) (Fi v t)).2;have hr4:(gj (gk t 0 v.st.l) (Fi v t)).2.length=(Fi v t).length:=r4;have hr5:(gj (gk t 0 v.st.l) (Fi v t)).1.length+Mx (Fi v t)<=Mx (gj (gk t 0 v.st.l) (Fi v t)).2+(v.st.l.map λa=>a.rn.l.length).sum:=r5;have aHt:∀l:List At,(∀a∈l,a.rn.l.length<=16)->(l.map λa=>a.rn.l.length).sum<=16*l.length:=by
     intro l
     induction l with
     |nil=>intro _;exact zai _
     |cons a l ih=>
      intro h;have:=ih λx hx=>h x iP
      have:=h a aj;rw[zau,zdr,zam];omega
    have:=aHt v.st.l g1;show(gj (gk t 0 v.st.l) (Fi v t)).1.length<=300;omega
 ·refine .inr ⟨?_,r2⟩;have:=r1 0 [];rw[zbf]at this;exact this
instance (t:Rn) (c:Int):Decidable (LK t c):=by unfold LK;infer_instance
def inQ(t:Rn)(c:Nat):Bool:=decide (t.s<=(c:Int)/\(c:Int)<t.s+t.n)
def TV{t:Rn}(s:Nat):∀n:Nat,(((List.range' s n).filter (inQ t)).length:Int)=max 0 (min ((s:Int)+n) (t.s+t.n)-max (s:Int) t.s)
 |0=>by show(0:Int)=_;simp only[Int.natCast_zero];omega
 |n+1=>by
  rw[zdN,zbS,zad];have ih:=TV (t:=t) s n;by_cases h:inQ t (s+n)=true
  ·rw[zdD h];unfold inQ at h;rw[decide_eq_true_eq]at h;show((_+1:Nat):Int)=_;omega
  ·rw[zdE h];unfold inQ at h;rw[decide_eq_true_eq]at h;show((_+0:Nat):Int)=_;omega
def afM{t r:Rn}(i p:Int)(ht:0<=t.s)(h:r.s= -1\/(0<=r.s/\0<=r.n)):jU (NZ t i p r)=(((M9 r).filter (inQ t)).length:Int):=by
 unfold NZ M9;by_cases hs:r.s= -1
 ·rw[if_neg (λg=>g.1 hs),if_pos hs];rfl
 ·have h:=h.resolve_left hs;rw[if_neg hs,TV];by_cases g:R6 t r
  ·rw[if_pos g];have g2:=g.2;show min (r.s+r.n) (t.s+t.n)-max r.s t.s+0=_;omega
  ·rw[if_neg g];have g2:¬max r.s t.s<min (r.s+r.n) (t.s+t.n):=λq=>g ⟨hs,q⟩
   show(0:Int)=_;omega
def ade{t:Rn}(ht:0<=t.s)(i:Int):∀(l:List Rn) (p:Int),(∀r∈l,r.s= -1\/(0<=r.s/\0<=r.n))->jU (gY t i p l)=(((xM l).filter (inQ t)).length:Int)
 |[],_,_=>rfl
 |r::l,p,h=>by
  have e:xM (r::l)=M9 r++xM l:=zao;show jU (NZ t i p r++gY t i (p+r.n) l)=_;rw[ir,e,zbS,zad,afM i p ht (h r aj),ade ht i l _ λx hx=>h x iP];omega
def adz{t:Rn}(ht:0<=t.s):∀(l:List At) (i:Int),(∀a∈l,∀r∈a.rn.l,r.s= -1\/(0<=r.s/\0<=r.n))->jU (gk t i l)=(((Uv l).filter (inQ t)).length:Int)
 |[],_,_=>rfl
 |a::l,i,h=>by
  have e:Uv (a::l)=xM a.rn.l++Uv l:=zao;show jU (gY t i 0 a.rn.l++gk t (i+1) l)=_;rw[ir,e,zbS,zad,ade ht i a.rn.l 0 (h a aj),adz ht l _ λx hx=>h x iP];omega
def TX{d:Dk}{a:At}(h:aK d a=0):∀r∈a.rn.l,r.s= -1\/(0<=r.s/\0<=r.n):=λr hr=>(Bd h r hr).imp id λg=>⟨g.1,g.2.1⟩
def K8{v:Vo}(h:U1 v){c:Nat}(hc:c<v.d.n):0<=(b8 v)[c]?.getD 0↔c∈Uv v.st.l:=by
 have hm:c∈Uv v.st.l↔∃a∈v.st.l,c∈Dc a:=by
  unfold Uv;rw[zbA];exact⟨λ⟨a,ha,g⟩=>⟨a,ha,by rw[R_ (h.op a ha)];exact g⟩,λ⟨a,ha,g⟩=>⟨a,ha,by rw[R_ (h.op a ha)]at g;exact g⟩⟩
 rw[hm,aiZ hc,zbx];rcases axp h hc with⟨g1,_,g3⟩|⟨g1,g2⟩
 ·exact⟨λ_=>g1,λ_=>g3⟩
 ·rw[g2];have:xd v.d c=if bH v.d.mp c=1 then-2 else-1:=rfl
  constructor
  ·intro g;rw[this]at g;split at g<;>omega
  ·rintro⟨a,ha,g⟩;exact absurd g (g1 a ha)
def Yv{v:Vo}(h:L1 v){t:Rn}(hp:uR v.d t):((vt v t t.n.toNat:Nat):Int)=jU (gk t 0 v.st.l):=by
 have hk:=P0 h.1 h.2;obtain⟨h1,h2,h3,h4,_⟩:=avR.1 h.2;unfold uR at hp;rw[adz hp.1.1 _ _ λa ha=>TX (h3 a ha)];unfold vt;refine congrArg Nat.cast (List.Perm.length_eq ?_);refine(List.perm_ext_iff_of_nodup (List.Pairwise.filter _ List.nodup_range') (List.Pairwise.filter _ h4)).2 λc=>?_
 rw[zbn,zbn,zc4,decide_eq_true_eq];unfold inQ;rw[decide_eq_true_eq];constructor
 ·rintro⟨g1,g2⟩;exact⟨(K8 hk ab).1 g2,ab⟩
 ·rintro⟨g1,g2⟩;exact⟨ab,(K8 hk ab).2 g1⟩
def Zd{v:Vo}(h:L1 v){t:Rn}(hp:uR v.d t)(tT:∀a∈v.st.l,∀x∈az a.rn.l,¬(t.s<=x/\x<t.s+t.n)):vt v t t.n.toNat=0:=by
 have hk:=P0 h.1 h.2;unfold uR at hp;unfold vt;rw[zdJ,zdK];intro c hc g;rw[zc4]at hc;rw[decide_eq_true_eq]at g;obtain⟨a,ha,Mq⟩:=zbA.1 ((K8 hk ab).1 g);have:=(abi λr hr=>(TX (hk.op a ha) r hr).imp id (·.1)).1 Mq;exact tT a ha _ this ab
def Kr(v:Vo)(t:Rn)(k:Nat):Nat:=((List.range k).filter λ(c:Nat)=>decide ((b8 v)[c]?.getD 0= -1/\LK t c)).length
def Rx(v:Vo)(t:Rn)(k:Nat):Kr v t (k+1)=Kr v t k+if (b8 v)[k]?.getD 0= -1/\LK t k then 1 else 0:=by
 unfold Kr;rw[zdj,zbS,zad];congr 1;by_cases h:(b8 v)[k]?.getD 0= -1/\LK t k
 ·rw[if_pos h,zdD ky];rfl
 ·rw[if_neg h,zdE ky];rfl
def aeo{v:Vo}(h:U1 v)(t:Rn):bI (Fi v t)=((Kr v t v.d.n:Nat):Int):=by
 have hl:=yx v;have key:∀n,n<=v.d.n->bI (ae (aqZ v (LK t)) n)=((Kr v t n:Nat):Int):=by
  intro n
  induction n with
  |zero=>intro _;rfl
  |succ n ih=>
   intro hn;have ih:=ih ab;rw[Rx];have e:aqZ v (LK t) n↔((b8 v)[n]?.getD 0= -1/\LK t n):=by
    unfold aqZ;rw[ah7 h];obtain⟨y,hy⟩:∃y,(b8 v)[n]?=some y:=⟨_,zah (by rw[aj3];omega)⟩
    rw[hy];simp
   by_cases g:aqZ v (LK t) n
   ·rw[N0 g,V1,ih,if_pos (e.1 g)];omega
   ·rw[GJ g,ih,if_neg (λq=>g (e.2 q))];omega
 have:=key v.d.n (zai _);unfold Fi;rw[hl];exact this
def TC{c:Nat}:∀{l:List At} {o i:Int} {k:Nat} {a:At},l[k]?=some a->c∈Dc a->(∀j b,j≠k->l[j]?=some b->c∉Dc b)->yL c o i l=i+k
 |[],_,_,k,a,h,_,_=>by simp at h
 |b::l,o,i,0,a,h,hc,hn=>by
  have h:some b=some a:=h;have h:=Option.some.inj h;subst h;show yL c (if c∈Dc b then i else o) (i+1) l=_;rw[if_pos hc,aie λx hx=>?_]
  ·simp
  ·obtain⟨j,hj⟩:=zaE.1 hx;exact hn (j+1) x ab (by rw[zbI];exact hj)
 |b::l,o,i,k+1,a,h,hc,hn=>by
  rw[zbI]at h;show yL c (if c∈Dc b then i else o) (i+1) l=_;rw[TC (k:=k) h hc λj x hj hx=>hn (j+1) x ab (by rw[zbI];exact hx)]
  push_cast;omega
def U0{v:Vo}(h:L1 v){c k:Nat}{a:At}(hc:c<v.d.n)(ha:v.st.l[k]?=some a)(hm:c∈xM a.rn.l):(b8 v)[c]?=some (k:Int):=by
 obtain⟨o1,o2,o3,o4⟩:=AZ.1 h.2;have hk:=P0 h.1 h.2;rw[aiZ hc,TC ha (by rw[R_ (o3 a (zag ha))];exact hm) λj b hj hb Ck=>?_,zdR];rw[R_ (o3 b (zag hb))]at Ck;have hr:=λ(x:At) (hx:x∈v.st.l)=>λr hr=>(TX (o3 x hx) r hr).imp id (·.1)
 have ca:=(abi (hr a (zag ha))).1 hm;have cb:=(abi (hr b (zag hb))).1 Ck;obtain⟨ka,rfl⟩:=zaa.1 ha;obtain⟨kb,rfl⟩:=zaa.1 hb;rcases Nat.lt_or_ge j k with g|g
 ·exact zcW.1 o4 j k kb ka g c cb ca
 ·exact zcW.1 o4 k j ka kb ab c ca cb
def ZR{w:Vo}{t:Rn}{m:Mv}(h:L1 w)(hm:We t w m){c:Nat}(hc:c<w.d.n){x:Int}(hx:(b8 w)[c]?=some x)(h0:0<=x):(b8 (nX w m))[c]?=some x\/(t.s<=c/\(c:Int)<=t.s+t.n-1):=by
 have hk:=P0 h.1 h.2;have hg:=aiL h m;have hn:=(aaz h m).2;obtain⟨_,⟨k0,p0⟩,b,hb,jB,b',LO,zZ⟩:=hm;have SF:=(K8 hk hc).1 (by rw[hx];exact h0);obtain⟨a,ha,Mq⟩:=zbA.1 SF;obtain⟨k,hak⟩:=zaE.1 ha;have eh:=U0 h hc hak Mq;rw[hx]at eh;have eh:=Option.some.inj eh;subst eh;by_cases e:k=m.k.toNat
 ·subst e;rw[hb]at hak;have e2:=Option.some.inj hak;subst e2;have Aw:=(abi λr hr=>(TX (hk.op b ha) r hr).imp id (·.1)).1 Mq;obtain⟨j,hj⟩:=zaE.1 Aw;by_cases g:m.p<=j/\(j:Int)<m.p+m.t.n
  ·obtain⟨y,hy,cj⟩:=jB j g.1 g.2;rw[hj]at hy;have:=Option.some.inj hy;exact .inr ab
  ·left;have Gx:=zZ j g;rw[hj]at Gx;have t_:(nX w m).st.l[m.k.toNat]?=some b':=by rw[LO,zcm (zaa.1 hb).1]
   have ho:=(AZ.1 hg.2).2.2.1 b' (zag t_);exact U0 hg ab t_ ((abi λr hr=>(TX ho r hr).imp id (·.1)).2 (zag Gx))
 ·left;exact U0 hg ab (by rw[LO,zct ab];exact hak) Mq
def ZJ{t:Rn}{w:Vo}{m:Mv}(h:We t w m)(hn:1<=t.n):¬(m.t.s<t.s+t.n/\t.s<m.t.s+m.t.n):=λg=>by
 obtain⟨⟨h1,h2⟩,_⟩:=h;exact h2 (max m.t.s t.s) ab ab ⟨ab,ab⟩
section
open Classical in
noncomputable def V6(v:Vo)(t:Rn):Int:=if IM v t≠0 then IM v t else if bI (Fi v t)<jU (gk t 0 v.st.l)then 16 else Im v (.sl (PH v t))
open Classical in
noncomputable def V0(v:Vo)(t:Rn):List Mv:=if V6 v t≠0 then[]else PH v t
def OD(ps:List PV)(r:RV):Prop:=∃(v:Vo) (t:Rn),ps=[v.pv,t.pv]/\OS v/\r=.tup [.pv (.sl 4 ((V0 v t).map Mv.pv)),.pv (pI (V6 v t))]
def aaJ{v:Vo}{t:Rn}(h:L1 v)(hp:uR v.d t):
 (bI (Fi v t)<jU (gk t 0 v.st.l)/\V6 v t=16/\V0 v t=[])\/(¬bI (Fi v t)<jU (gk t 0 v.st.l)/\V6 v t=8/\V0 v t=[]/\Q0 v (Fi v t))\/
 (¬bI (Fi v t)<jU (gk t 0 v.st.l)/\V6 v t=0/\V0 v t=PH v t/\(PH v t).length<=300∧∃w,afK v t w):=by
 have ho:IM v t=0:=by unfold IM;rw[if_neg (λg=>g h.2),if_pos hp]
 have hE:V6 v t=if bI (Fi v t)<jU (gk t 0 v.st.l)then 16 else Im v (.sl (PH v t)):=by unfold V6;rw[if_neg (λg=>g ho)]
 have hL:∀e:Int,V6 v t=e->e≠0->V0 v t=[]:=λe h1 h2=>by unfold V0;rw[if_pos (by rw[h1];exact h2)]
 by_cases hs:bI (Fi v t)<jU (gk t 0 v.st.l)
 ·rw[if_pos hs]at hE;exact .inl ⟨hs,hE,hL _ hE ao⟩
 rw[if_neg hs]at hE;rcases Xe h hp.1.1 ab with⟨w,W,akF⟩|⟨g1,g2⟩
 ·have hb:(PU v 0 (PH v t)).2.2=0:=by
   have:=KR W.ch 0 [];rw[zbf]at this;rw[this];rfl
  by_cases hl:(PH v t).length<=300
  ·have e:Im v (.sl (PH v t))=0:=by
    unfold Im;rw[show(Sl.sl (PH v t)).l=PH v t from rfl,if_neg (λg=>g hb),if_pos hl]
   rw[e]at hE;exact .inr (.inr ⟨hs,hE,by unfold V0;rw[if_neg (λg=>g hE)],hl,w,W⟩)
  ·have e:Im v (.sl (PH v t))=8:=by
    unfold Im;rw[show(Sl.sl (PH v t)).l=PH v t from rfl,if_neg (λg=>g hb),if_neg hl]
   rw[e]at hE;exact .inr (.inl ⟨hs,hE,hL _ hE ao,akF.resolve_left hl⟩)
 ·have e:Im v (.sl (PH v t))=8:=by
   unfold Im;rw[show(Sl.sl (PH v t)).l=PH v t from rfl,g1,if_pos ao]
  rw[e]at hE;exact .inr (.inl ⟨hs,hE,hL _ hE ao,g2⟩)
def So{v:Vo}{t:Rn}(h:IM v t≠0):V6 v t=IM v t/\V0 v t=[]:=by
 have e:V6 v t=IM v t:=by unfold V6;rw[if_pos h]
 exact⟨e,by unfold V0;rw[if_pos (by rw[e];exact h)]⟩
def aaN{v:Vo}(h:U1 v)(h2:U1 (bp v))(t:Rn):Fi (bp v) t=Fi v t:=by rw[R1 h,R1 h2];rfl
def VH(v:Vo)(t:Rn)(k:Nat):vt (bp v) t k=vt v t k:=by unfold vt;rw[avV]
def ab3(v:Vo)(t:Rn)(k:Nat):Kr (bp v) t k=Kr v t k:=by unfold Kr;rw[avV]
def ace(v:Vo):bp (bp v)=bp v:=by
 unfold bp;rw[show(Sl.sl (v.st.l.map aB)).l=v.st.l.map aB from rfl,zdG];rfl
def ad9{w:Vo}(m:Mv)(h:ub w m=0):lmV (bp w) m=bp (nX w m):=by
 unfold lmV;rw[if_neg (λg=>g (by rw[akM];exact h)),as2]
end
def K_(ps:List PV)(x:PV):Prop:=∃(v:Vo) (t:Rn),ps=[v.pv,t.pv]/\(U1 v/\uR v.d t)/\x=pI ((Kr v t v.d.n:Nat):Int)
def VY(v:Vo)(t:Rn)(k:Nat):Kr v t k<=k:=by
 unfold Kr;have:=zdM (λ(c:Nat)=>decide ((b8 v)[c]?.getD 0= -1/\LK t c)) (List.range k);rw[List.length_range]at this;exact this
set_option maxHeartbeats 4000000 in
def Qp:MT (ay [(25,c8 true NY),(32,bF bG),(107,ah Ci)]) J0 (ah K_):=by
 rintro _ K ⟨_,⟨v,t,rfl,⟨hv,hp⟩,rfl⟩,hK⟩;obtain⟨h1,h2,h3,h4⟩:=hv.n8;unfold uR at hp;have ho:NY [v.pv] _:=⟨v,rfl,hv,rfl⟩
 have sS:=aj3 v;have Kz:((b8 v).map pI).length=v.d.n:=by rw[zaw,sS]
 (repeat'((conv=>whnf);first|refine⟨_,ho,?_⟩|fail))<;>try(conv=>whnf)
 refine⟨λm env σ=>∃k:Nat,(k+m=v.d.n)/\σ=[.box 37 [.pv (pI t.s),.pv (pI t.n)],.row 3 1 true ((b8 v).map pI)]/\env=[(3,.ref 0 0 0),(5,.own 1),eN 6 ((Kr v t k:Nat):Int),eN 7 (k:Nat)],v.d.n,⟨0,ab,rfl,by simp[Kr]⟩,?_⟩;rintro m env σ ⟨k,hk,rfl,rfl⟩;by_cases aU:k<v.d.n
 ·obtain⟨w,hw⟩:∃w,(b8 v)[k]?=some w:=⟨_,zah ab⟩
  have hg:=dX (f:=pI) hw;have hs:=Rx v t k;have hle:=VY v t k;rw[hw,zbx]at hs;generalize Kr v t k=C at*;have J9:Ci [pB true] (pI 1):=⟨true,rfl,rfl⟩
  have Ke:Ci [pB false] (pI 0):=⟨false,rfl,rfl⟩
  have hwi:bG [pI k,pI t.s,pI (t.s+t.n-1)] (t.s<=(k:Int)/\(k:Int)<=t.s+t.n-1):=⟨k,t.s,t.s+t.n-1,rfl,rfl⟩
  by_cases h0:w= -1
  ·by_cases hq:t.s<=(k:Int)/\(k:Int)<=t.s+t.n-1
   ·rw[if_neg (λg=>g.2 hq)]at hs
    (repeat'((conv=>whnf);first|refine au ab ?_|refine zcd ⟨ab,ab⟩ ?_|refine⟨_,hg,?_⟩|refine⟨_,hwi,?_⟩|refine⟨_,Ke,?_⟩|refine bj ab ?_|refine aN ?_|refine dq λ_=>?_|fail))<;>try(conv=>whnf)
    exact⟨m-1,ab,k+1,ab,rfl,by rw[hs];simp⟩
   ·rw[if_pos ⟨h0,hq⟩]at hs
    (repeat'((conv=>whnf);first|refine au ab ?_|refine zcd ⟨ab,ab⟩ ?_|refine⟨_,hg,?_⟩|refine⟨_,hwi,?_⟩|refine aw hq ?_|refine⟨_,J9,?_⟩|refine bj ab ?_|refine bP ?_|refine dq λ_=>?_|fail))<;>try(conv=>whnf)
    exact⟨m-1,ab,k+1,ab,rfl,by rw[hs];simp⟩
  ·rw[if_neg (λg=>h0 g.1)]at hs
   (repeat'((conv=>whnf);first|refine au ab ?_|refine zcd ⟨ab,ab⟩ ?_|refine⟨_,hg,?_⟩|refine aw h0 ?_|refine⟨_,Ke,?_⟩|refine bj ab ?_|refine dq λ_=>?_|fail))<;>try(conv=>whnf)
   exact⟨m-1,ab,k+1,ab,rfl,by rw[hs];simp⟩
 ·(repeat'((conv=>whnf);first|refine aw ab ?_|refine dq λ_=>?_|fail))<;>try(conv=>whnf)
  rw[show v.d.n=k by omega]at hK;exact aG
def Hq(v:Vo):Vo:=⟨v.d,.nil⟩
def T4{v:Vo}(h:U1 v):U1 (Hq v):=⟨⟨h.b.1,(λa ha=>(by cases ha)),zbV _⟩,h.dk,zbV _,rfl⟩
def Xp{v:Vo}(h:U1 v){t:Rn}(hp:uR v.d t):¬0<vt (Hq v) t t.n.toNat/\acZ (IC (Hq v) t).d=Fi v t:=by
 have hk:=T4 h;obtain⟨h1,h2,h3,h4⟩:=hk.n8;have hz:vt (Hq v) t t.n.toNat=0:=by
  unfold vt;rw[zdJ,zdK];intro c hc g;rw[zc4]at hc;rw[decide_eq_true_eq]at g;unfold uR at hp;have:=(K8 hk (c:=c) (by show c<v.d.n;omega)).1 g;cases this
 refine⟨ab,?_⟩;have e:IC (Hq v) t=Ec (Hq v) ⟨v.d.a_,mG (j6 (ey v.d) t.s.toNat t.n.toNat)⟩:=by unfold IC;rw[if_neg ab];rfl
 rw[e,R1 h];show ae (λc=>¬bH (mG (j6 (ey v.d) t.s.toNat t.n.toNat)) c=1) (Dk.n ⟨v.d.a_,mG (j6 (ey v.d) t.s.toNat t.n.toNat)⟩)=_;rw[show Dk.n ⟨v.d.a_,mG (j6 (ey v.d) t.s.toNat t.n.toNat)⟩=v.d.n from rfl];refine aiJ _ λc hc=>?_
 rw[Ez hp];unfold LK;constructor
 ·intro g;exact⟨λq=>g ⟨hc,.inl q⟩,λq=>g ⟨hc,.inr ab⟩⟩
 ·rintro⟨g1,g2⟩ ⟨_,q⟩;rcases q with q|q
  ·exact g1 q
  ·exact g2 ab
def Ln(ps:List PV)(x:PV):Prop:=∃(v:Vo) (t:Rn),ps=[v.pv,t.pv]/\(U1 v/\uR v.d t/\Q0 v (Fi v t))/\x=pB true
set_option maxHeartbeats 4000000 in
def Qq:MT (ay [(37,c8 false zU),(84,c8 true abT)]) JQ (ah Ln):=by
 rintro _ K ⟨_,⟨v,t,rfl,⟨hv,hp,ht⟩,rfl⟩,hK⟩;obtain⟨z1,z2⟩:=Xp hv hp;have hm:zU [(Hq v).pv,t.pv] (.tup [.pv (IC (Hq v) t).pv,.pv (pB true)]):=⟨Hq v,t,rfl,⟨T4 hv,hp⟩,by rw[decide_eq_true z1]⟩
 obtain⟨h1,h2,h3,h4⟩:=hv.n8;have hd:(IC (Hq v) t).d=⟨v.d.a_,mG (j6 (ey v.d) t.s.toNat t.n.toNat)⟩:=by unfold IC;rw[if_neg z1];rfl
 have XJ:(mG (j6 (ey v.d) t.s.toNat t.n.toNat)).length=qO v.d.n:=by unfold mG;rw[Zf,gq,fg]
 have akI:v.d.n<=8*qO v.d.n/\qO v.d.n<=1000:=by unfold qO;omega
 have pe:abT [(IC (Hq v) t).d.pv] _:=⟨(IC (Hq v) t).d,rfl,by rw[hd];exact⟨(show v.d.n<=1000 by omega),(show v.d.n<=8*(mG (j6 (ey v.d) t.s.toNat t.n.toNat)).length by rw[XJ];exact akI.1),h4,(show(mG (j6 (ey v.d) t.s.toNat t.n.toNat)).length<=1000000 by rw[XJ];omega)⟩,rfl⟩
 rw[z2]at pe;obtain⟨B,hB⟩:∃B,IC (Hq v) t=B:=⟨_,rfl⟩
 rw[hB]at hm pe;have vu:((Fi v t).map Rn.pv).length=(Fi v t).length:=zaw _;have qH:v.st.l.length<=8:=hv.len;have JL:(v.st.l.map At.pv).length=v.st.l.length:=zaw _
 (conv=>whnf)
 refine⟨λm env σ=>∃k:Nat,(k+m=v.st.l.length∧∀j a,j<k->v.st.l[j]?=some a->a.rn.l.length<=16)/\σ=[.box 26 [.pv (.str v.d.a_),.pv (.str v.d.mp),.pv (D4 v.st)],.box 37 [.pv (pI t.s),.pv (pI t.n)]]/\env=[(2,.ref 0 0 0),(3,.ref 1 0 0),eN 5 (k:Nat)],v.st.l.length,⟨0,⟨ab,λj a hj=>absurd hj (zcq _)⟩,rfl,rfl⟩,?_⟩;rintro m env σ ⟨k,⟨hk,nK⟩,rfl,rfl⟩;by_cases aU:k<v.st.l.length
 ·obtain⟨a,ha⟩:∃a,v.st.l[k]?=some a:=⟨_,zah aU⟩
  have hS:D4 v.st=.sl 11 (v.st.l.map At.pv):=Sl.zN ha;have Nl:=dX (f:=At.pv) ha;have hrm:(a.rn.l.map Rn.pv).length=a.rn.l.length:=zaw _;rw[hS];by_cases vT:16<a.rn.l.length
  ·(repeat'((conv=>whnf);first|refine au ab ?_|refine⟨_,⟨ab,Nl⟩,?_⟩|refine KP ?_|refine dq λ_=>?_|fail))<;>try(conv=>whnf)
   exact⟨.pv (pB true),rfl,trivial,hK⟩
  ·(repeat'((conv=>whnf);first|refine au ab ?_|refine⟨_,⟨ab,Nl⟩,?_⟩|refine KP ?_|refine aw ab ?_|refine bj ab ?_|refine dq λ_=>?_|fail))<;>try(conv=>whnf)
   refine⟨m-1,ab,k+1,⟨ab,λj b hj hb=>?_⟩,rfl,rfl⟩;by_cases e:j=k
   ·subst e;rw[ha]at hb;cases hb;omega
   ·exact nK j b ab hb
 ·have vT:16<(Fi v t).length:=by
   rcases ht with⟨a,ha,h⟩|h
   ·obtain⟨j,hj⟩:=zaE.1 ha;have:=nK j a (by have:=(zaa.1 hj).1;omega) hj;omega
   ·exact h
  (repeat'((conv=>whnf);first|refine KP ?_|refine aw ab ?_|refine⟨_,hm,?_⟩|refine⟨_,pe,?_⟩|refine aN ?_|refine au ab ?_|refine dq λ_=>?_|refine bT ?_|fail))<;>try(conv=>whnf)
  exact⟨.pv (pB true),rfl,trivial,hK⟩
structure ac_(v:Vo)(s:Sl Mv):Prop where
 e:(Yo v s).2.2=0
 g:L1 (Yo v s).1
 fN:ac4 (Yo v s).1=ac4 v
 fr:bI (acZ (Yo v s).1.d)=bI (acZ v.d)
def Ow(ps:List PV)(x:PV):Prop:=∃(v:Vo) (s:Sl Mv),ps=[v.pv,OI s]/\(L1 v/\s.l.length<=1000000/\ac_ v s)/\x=pB true
set_option maxHeartbeats 4000000 in
def TS:MT (ay [(41,c8 false UP),(16,ah OA),(45,c8 true akH),(46,bF aeY),(26,c8 true Ty)]) Mc (ah Ow):=by
 rintro _ K ⟨_,⟨v,s,rfl,⟨hv,hs,H⟩,rfl⟩,hK⟩;obtain⟨h1,h2,h3,h4⟩:=H;have qG:UP [v.pv,OI s] _:=⟨v,s,rfl,⟨acx hv.1 hv.2,hs⟩,rfl⟩
 generalize Yo v s=R at*;obtain⟨X,J,E⟩:=R;simp only at h1 h2 h3 h4 qG;subst h1;have hXE:OA [X.pv] _:=⟨X,rfl,⟨h2.1,h2.rn⟩,rfl⟩
 rw[h2.2]at hXE;have Oi:akH [v.pv] _:=⟨v,rfl,⟨hv,hv.rn⟩,rfl⟩
 have Cw:akH [X.pv] _:=⟨X,rfl,⟨h2,h2.rn⟩,rfl⟩
 rw[h3]at Cw;have lX:Ty [v.pv] _:=⟨v,rfl,P0 hv.1 hv.2,rfl⟩
 have ZI:Ty [X.pv] _:=⟨X,rfl,P0 h2.1 h2.2,rfl⟩
 have hes:(eJ v).f=(eJ X).f:=h4.symm;have mE:(ac4 v).length<=1000000:=by unfold ac4;rw[zaw];exact hv.1.2.2
 have htx:aeY [.sl 1 (Px (ac4 v)),.sl 1 (Px (ac4 v))] _:=⟨_,_,rfl,⟨mE,mE⟩,rfl⟩
 generalize ac4 v=CV at*
 (repeat'((conv=>whnf);first|refine⟨_,qG,?_⟩|refine aw (λh=>h rfl) ?_|refine⟨_,hXE,?_⟩|refine⟨_,Oi,?_⟩|refine⟨_,Cw,?_⟩|refine⟨_,htx,?_⟩|refine au rfl ?_|refine⟨_,lX,?_⟩|refine⟨_,ZI,?_⟩|refine au hes ?_|refine bT ?_|fail))<;>try(conv=>whnf)
 exact⟨.pv (pB true),rfl,trivial,hK⟩
def Pj(ps:List PV)(x:PV):Prop:=∃(v:Vo) (t:Rn),ps=[v.pv,t.pv]/\x=pB true
def YH{v w:Vo}{t:Rn}{l:List Mv}(h:L1 v)(hc:BE t (bp v) l w)(hw:L1 w)(aLE:ac4 w=ac4 (bp v))(pe:bI (acZ w.d)=bI (acZ (bp v).d))(hl:l.length<=300):ac_ v (.sl l):=by
 have hb:=KR hc 0 [];rw[zbf]at hb;obtain⟨b1,b2⟩:=ae7 v l 0;have h1:(PU v 0 l).2.2=0:=by rw[<-b1,hb];rfl
 have h2:bp (PU v 0 l).1=bp w:=by rw[<-b2,hb];rfl
 have e:Yo v (.sl l)=(bp w,(l.length:Int),0):=by
  unfold Yo;rw[show(Sl.sl l).l=l from rfl,if_pos hl,if_neg (λg=>g h1),h2]
 exact⟨by rw[e],by rw[e];exact axS hw,by rw[e];show ac4 (bp _)=_;rw[Tu,aLE,Tu],by rw[e];exact pe⟩
set_option maxHeartbeats 16000000 in
def Oe:MT (ay [(12,ah KL),(13,bF Wr),(15,c8 false qM),(47,c8 false OD),(16,ah OA),(36,ah gp),(48,ah DT),(49,ah K_),(50,ah Ln),(51,ah Ow),(43,c8 false Y_),(25,c8 true NY),(32,bF bG),(29,c8 false Fs),(37,c8 false zU),(34,bF Uq),(31,ah bA),(27,c8 false IE),(33,c8 false KO),(30,bF acq)]) si (ah Pj):=by
 rintro _ K ⟨_,⟨v,t,rfl,rfl⟩,hK⟩;have lD:KL [] (pB true):=⟨rfl,rfl⟩
 have cT:Wr [v.pv] _:=⟨v,rfl,rfl⟩
 by_cases hf:ahf v
 case neg=>
  (repeat'((conv=>whnf);first|refine⟨_,lD,?_⟩|refine⟨_,cT,?_⟩|refine aw hf ?_|refine aN ?_|refine bP ?_|fail))<;>try(conv=>whnf)
  exact⟨.pv (pB true),rfl,trivial,hK⟩
 obtain⟨hb,hr,hn⟩:=hf.b;have hC:qM [v.pv] _:=⟨v,rfl,hn,rfl⟩
 have Aw:OD [(bp v).pv,t.pv] (.tup [.pv (.sl 4 ((V0 (bp v) t).map Mv.pv)),.pv (pI (V6 (bp v) t))]):=⟨bp v,t,rfl,Og hb,rfl⟩
 have fh:OA [v.pv] _:=⟨v,rfl,⟨hb,hr⟩,rfl⟩
 by_cases he:wX v=0
 case neg=>
  have ho:IM (bp v) t=wX v:=by unfold IM;rw[if_pos (by rw[x_];exact he),x_]
  obtain⟨e1,e2⟩:=So (v:=bp v) (t:=t) (by rw[ho];exact he);rw[e1,e2,ho]at Aw
  (repeat'((conv=>whnf);first|refine⟨_,lD,?_⟩|refine⟨_,cT,?_⟩|refine au hf ?_|refine⟨_,hC,?_⟩|refine⟨_,Aw,?_⟩|refine⟨_,fh,?_⟩|refine aw he ?_|refine au he ?_|refine au rfl ?_|refine aN ?_|refine dq λ_=>?_|refine bT ?_|fail))<;>try(conv=>whnf)
  exact⟨.pv (pB true),rfl,trivial,hK⟩
 have hG:L1 v:=⟨hb,he⟩
 have hGo:=axS hG;have hk:=P0 hb he;have hko:=P0 hGo.1 hGo.2;have mW:v.d.a_.length<=1000000:=hb.1.1;rw[he]at fh;by_cases hp:uR v.d t
 case neg=>
  have ho:IM (bp v) t=2:=by unfold IM;rw[if_neg (λg=>g hGo.2),if_neg (show ¬uR (bp v).d t from hp)]
  obtain⟨e1,e2⟩:=So (v:=bp v) (t:=t) (by rw[ho];decide);rw[e1,e2,ho]at Aw;have um:gp [v.pv,t.pv] (pI 2):=⟨v,t,rfl,mW,by rw[if_neg hp]⟩
  (repeat'((conv=>whnf);first|refine⟨_,lD,?_⟩|refine⟨_,cT,?_⟩|refine au hf ?_|refine⟨_,hC,?_⟩|refine⟨_,Aw,?_⟩|refine⟨_,fh,?_⟩|refine au rfl ?_|refine⟨_,um,?_⟩|refine au ao ?_|refine aN ?_|refine dq λ_=>?_|refine bT ?_|fail))<;>try(conv=>whnf)
  exact⟨.pv (pB true),rfl,trivial,hK⟩
 have um:gp [v.pv,t.pv] (pI 0):=⟨v,t,rfl,mW,by rw[if_pos hp]⟩
 have jB:DT [v.pv,t.pv] (pI ((vt v t t.n.toNat:Nat):Int)):=⟨v,t,rfl,⟨hk,hp⟩,rfl⟩
 have hou:K_ [v.pv,t.pv] (pI ((Kr v t v.d.n:Nat):Int)):=⟨v,t,rfl,⟨hk,hp⟩,rfl⟩
 have e1:=Yv hGo (t:=t) hp;have e2:=aeo hko t;rw[VH]at e1;rw[ab3,show(bp v).d=v.d from rfl]at e2;have law:=aaJ hGo (t:=t) hp;rw[<-e1,e2]at law;have Kh:=IK v t t.n.toNat;have hole:=VY v t v.d.n;have hd5:v.d.n<=512:=(rX hk.dk).2.1;have jg:=hp;unfold uR at jg;rcases law with⟨l1,l2,l3⟩|⟨l1,l2,l3,l4⟩|⟨l1,l2,l3,l4,w,W⟩
 ·rw[l2,l3]at Aw;generalize vt v t t.n.toNat=IN at*;generalize Kr v t v.d.n=ON at*
  (repeat'((conv=>whnf);first|refine⟨_,lD,?_⟩|refine⟨_,cT,?_⟩|refine au hf ?_|refine⟨_,hC,?_⟩|refine⟨_,Aw,?_⟩|refine⟨_,fh,?_⟩|refine au rfl ?_|refine⟨_,um,?_⟩|refine aw ao ?_|refine⟨_,jB,?_⟩|refine⟨_,hou,?_⟩|refine au ab ?_|refine dq λ_=>?_|refine bT ?_|fail))<;>try(conv=>whnf)
  exact⟨.pv (pB true),rfl,trivial,hK⟩
 ·rw[l2,l3]at Aw;have hta:Ln [v.pv,t.pv] _:=⟨v,t,rfl,⟨hk,hp,?_⟩,rfl⟩
  rotate_left
  ·rw[aaN hk hko]at l4;rcases l4 with⟨a,ha,h⟩|h
   ·obtain⟨b,t_,rfl⟩:=zaX.1 (show a∈v.st.l.map aB from ha);exact .inl ⟨b,t_,h⟩
   ·exact .inr h
  generalize vt v t t.n.toNat=IN at*;generalize Kr v t v.d.n=ON at*
  (repeat'((conv=>whnf);first|refine⟨_,lD,?_⟩|refine⟨_,cT,?_⟩|refine au hf ?_|refine⟨_,hC,?_⟩|refine⟨_,Aw,?_⟩|refine⟨_,fh,?_⟩|refine au rfl ?_|refine⟨_,um,?_⟩|refine aw ao ?_|refine⟨_,jB,?_⟩|refine⟨_,hou,?_⟩|refine aw ab ?_|refine⟨_,hta,?_⟩|refine dq λ_=>?_|refine bT ?_|fail))<;>try(conv=>whnf)
  exact⟨.pv (pB true),rfl,trivial,hK⟩
 rw[l2,l3]at Aw;have UH:=W.ch;have sQ:=YH hG UH W.g W.fN W.fr l4;have hwn:w.d.n=v.d.n:=W.n;generalize PH (bp v) t=L at*;have Ib:(L.map Mv.pv).length=L.length:=zaw _;have hke:Ow [v.pv,.sl 4 (L.map Mv.pv)] _:=⟨v,.sl L,rfl,⟨hG,by show L.length<=_;omega,sQ⟩,rfl⟩
 have Ss:uR w.d t:=by unfold uR;rw[hwn];exact jg
 have hz:=Zd W.g Ss W.no;generalize vt v t t.n.toNat=IN at*;generalize Kr v t v.d.n=ON at*
 (repeat'((conv=>whnf);first|refine⟨_,lD,?_⟩|refine⟨_,cT,?_⟩|refine au hf ?_|refine⟨_,hC,?_⟩|refine⟨_,Aw,?_⟩|refine⟨_,fh,?_⟩|refine au rfl ?_|refine⟨_,um,?_⟩|refine aw ao ?_|refine⟨_,jB,?_⟩|refine⟨_,hou,?_⟩|refine aw ab ?_|refine⟨_,hke,?_⟩|refine dq λ_=>?_|refine bT ?_|fail))<;>try(conv=>whnf)
 have UC:∀w0:Vo,(bp w0).pv=.agg [.str w0.d.a_,.str w0.d.mp,.sl 11 ((w0.st.l.map aB).map At.pv)]:=λw0=>rfl
 refine⟨λq env σ=>∃(n:Nat) (w0:Vo) (X:List PV),(n+q=L.length/\BE t w0 (L.drop n) w/\L1 w0/\w0.d.n=v.d.n/\(bp w0).pv=.agg [.str w0.d.a_,.str w0.d.mp,.sl 11 X])/\(σ=[.box 26 [.pv (.str v.d.a_),.pv (.str v.d.mp),.pv (D4 v.st)],.box 37 [.pv (pI t.s),.pv (pI t.n)],.box 26 [.pv (.str w0.d.a_),.pv (.str w0.d.mp),.own 3],.row 41 11 true X]\/
  σ=[.box 26 [.pv (.str v.d.a_),.pv (.str v.d.mp),.pv (D4 v.st)],.box 37 [.pv (pI t.s),.pv (pI t.n)],.box 26 [.pv (.str w0.d.a_),.pv (.str w0.d.mp),.pv (.sl 11 X)]])/\
  env=[(2,.ref 0 0 0),(3,.ref 1 0 0),(5,.pv (.sl 4 (L.map Mv.pv))),(8,.ref 2 0 0),eN 9 (n:Nat)],L.length,⟨0,bp v,(v.st.l.map aB).map At.pv,⟨ab,UH,hGo,rfl,by rw[ace];rfl⟩,.inl rfl,rfl⟩,?_⟩
 rintro q env σ ⟨n,w0,X,⟨hnq,jF,hG0,x3,hX⟩,hσ,rfl⟩;have hk0:=P0 hG0.1 hG0.2;have acD:=axS hG0;have akL:=P0 acD.1 acD.2;by_cases aU:n<L.length
 case neg=>
  rw[zcX ab]at jF;have jF:w=w0:=jF;subst jF;have hGu:=axS W.g;have hku:=P0 hGu.1 hGu.2;have akQ:=P0 (axS hGu).1 (axS hGu).2;have xf:uR (bp w).d t:=Ss;have pd:(bp w).d.n=v.d.n:=hwn;have hiz:vt (bp w) t t.n.toNat=0:=by rw[VH];exact hz
  have g:¬0<vt (bp w) t t.n.toNat:=ab;obtain⟨b1,b2⟩:=Ju hku akQ hGu.2 xf;rw[if_neg g]at b1;have wi:DT [(bp w).pv,t.pv] (pI 0):=⟨bp w,t,rfl,⟨hku,xf⟩,by rw[hiz];rfl⟩
  have hCu:qM [(bp w).pv] _:=⟨bp w,rfl,hku.N,rfl⟩
  have kE:Fs [(bp (bp w)).pv,t.pv] (.tup [.pv (Ny (bp (bp w)) t).pv,.pv (pI 0)]):=⟨bp (bp w),t,rfl,Og hGu.1,by rw[b1]⟩
  have hM:zU [(bp w).pv,t.pv] (.tup [.pv (Ny (bp (bp w)) t).pv,.pv (pB true)]):=⟨bp w,t,rfl,⟨hku,xf⟩,by rw[b2,decide_eq_true g]⟩
  have nB:eW (Ny (bp (bp w)) t):=by rw[b2];unfold IC;rw[if_neg g];exact av1 (v:=bp w) hku.N
  have same:∀X:Vo,eW X->Uq [X.pv,X.pv] True:=λX h=>⟨X,X,rfl,⟨h,h⟩,(eq_true ⟨rfl,rfl,rfl⟩).symm⟩
  have mE:bA [v.d.pv] (pI v.d.n):=⟨v.d,rfl,hb.1.1,rfl⟩
  have tT:acq [TZ.pv] _:=⟨TZ,rfl,amO,rfl⟩
  have mD:aqV TZ TZ:=⟨rfl,rfl,rfl⟩
  have yB:IE [(bp (bp w)).pv,pI t.s] (.tup [.pv (T8 (bp (bp w)) t.s 1 v.d.n).pv,.pv (pI (PX (bp (bp w)) t.s 1 v.d.n))]):=⟨bp (bp w),t.s,rfl,Og hGu.1,by rw[<-pd];rfl⟩
  have a1:=abe (c:=t.s) hGu;rw[pd]at a1;rw[hX]at wi hCu hM a1;generalize Ny (bp (bp w)) t=BV at*;generalize T8 (bp (bp w)) t.s 1 v.d.n=SV at*;generalize PX (bp (bp w)) t.s 1 v.d.n=SE at*;rw[UC]at kE yB;by_cases h0:t.s=0
  ·rcases hσ with rfl|rfl<;>
   ·(repeat'((conv=>whnf);first|refine aw ab ?_|refine⟨_,wi,?_⟩|refine⟨_,hCu,?_⟩|refine⟨_,kE,?_⟩|refine⟨_,hM,?_⟩|refine⟨_,same _ nB,?_⟩|refine au trivial ?_|refine au h0 ?_|refine aN ?_|refine dq λ_=>?_|refine bT ?_|fail))<;>try(conv=>whnf)
    exact⟨.pv (pB true),rfl,trivial,hK⟩
  by_cases h1:t.s+t.n=v.d.n
  case neg=>
   rcases hσ with rfl|rfl<;>
   ·(repeat'((conv=>whnf);first|refine aw ab ?_|refine⟨_,wi,?_⟩|refine⟨_,hCu,?_⟩|refine⟨_,kE,?_⟩|refine⟨_,hM,?_⟩|refine⟨_,same _ nB,?_⟩|refine au trivial ?_|refine⟨_,mE,?_⟩|refine au h1 ?_|refine bj ab ?_|refine aN ?_|refine dq λ_=>?_|refine bT ?_|fail))<;>try(conv=>whnf)
    exact⟨.pv (pB true),rfl,trivial,hK⟩
  rcases a1 with⟨w1,_⟩|⟨w1,hS,rfl,nS⟩|⟨w1,hS,rfl,rfl⟩
  ·omega
  all_goals
   rcases hσ with rfl|rfl<;>
   ·(repeat'((conv=>whnf);first|refine aw ab ?_|refine⟨_,wi,?_⟩|refine⟨_,hCu,?_⟩|refine⟨_,kE,?_⟩|refine⟨_,hM,?_⟩|refine⟨_,same _ nB,?_⟩|refine au trivial ?_|refine⟨_,mE,?_⟩|refine⟨_,yB,?_⟩|refine⟨_,hS,?_⟩|refine au rfl ?_|refine aw ao ?_|refine⟨_,same _ nS,?_⟩|refine⟨_,tT,?_⟩|refine au mD ?_|refine bj ab ?_|refine dq λ_=>?_|refine bT ?_|fail))<;>try(conv=>whnf)
    exact⟨.pv (pB true),rfl,trivial,hK⟩
 obtain⟨m,hm⟩:∃m,L[n]?=some m:=⟨_,zah aU⟩
 have hgm:=dX (f:=Mv.pv) hm;rw[drop_cons hm]at jF;obtain⟨⟨oB,aoH⟩,Oi⟩:=jF;have hG1:=aiL hG0 m;have Kt:(nX w0 m).d.n=v.d.n:=(aaz hG0 m).2.trans x3;have lM:Y_ [(bp w0).pv,m.pv] (.tup [.pv (bp (nX w0 m)).pv,.pv (pI 0)]):=⟨bp w0,m,rfl,acx acD.1 acD.2,by rw[ad9 m oB,akM,oB]⟩
 have ho1:NY [(bp w0).pv] (.fresh 3 1 ((b8 w0).map pI)):=⟨bp w0,rfl,akL,by rw[avV]⟩
 have agL:=axS hG1;have rr:NY [(bp (nX w0 m)).pv] (.fresh 3 1 ((b8 (nX w0 m)).map pI)):=⟨bp (nX w0 m),rfl,P0 agL.1 agL.2,by rw[avV]⟩
 have avo:=ZJ aoH jg.2.1;have vQ:(0<=m.t.s/\m.t.s<=512)/\(0<=m.t.n/\m.t.n<=512):=by
  unfold ub at oB;split at oB
  ·cases oB
  ·obtain⟨hq,_⟩:=VS oB;unfold uR at hq;omega
 have akt:∀(c:Nat) (x:Int),c<v.d.n->(b8 w0)[c]?=some x->0<=x->(b8 (nX w0 m))[c]?=some x\/(t.s<=c/\(c:Int)<=t.s+t.n-1):=λc x hc hx h0=>ZR hG0 aoH ab hx h0
 have pj:(b8 w0).length=v.d.n:=by rw[aj3,x3]
 have LA:(b8 (nX w0 m)).length=v.d.n:=by rw[aj3,Kt]
 rw[hX]at lM ho1;rw[UC]at lM rr;generalize b8 w0=O1 at*;generalize b8 (nX w0 m)=O2 at*;have mY:(O1.map pI).length=v.d.n:=by rw[zaw];exact pj
 have sL:(O2.map pI).length=v.d.n:=by rw[zaw];exact LA
 rcases hσ with rfl|rfl
 all_goals
  by_cases hA:m.t.s<t.s+t.n;all_goals
   (repeat'((conv=>whnf);first|refine au ab ?_|refine⟨_,⟨ab,hgm⟩,?_⟩|refine aw hA ?_|refine aw ab ?_|refine⟨_,lM,?_⟩|refine⟨_,ho1,?_⟩|refine⟨_,rr,?_⟩|refine bj ab ?_|refine dq λ_=>?_|refine bT ?_|fail))<;>try(conv=>whnf)
   first
    |refine⟨λq2 ahb σ2=>∃c:Nat,c+q2=v.d.n/\σ2=[.box 26 [.pv (.str v.d.a_),.pv (.str v.d.mp),.pv (D4 v.st)],.box 37 [.pv (pI t.s),.pv (pI t.n)],.box 26 [.pv (.str w0.d.a_),.pv (.str w0.d.mp),.own 6],.box 26 [.pv (.str (nX w0 m).d.a_),.pv (.str (nX w0 m).d.mp),.pv (.sl 11 (((nX w0 m).st.l.map aB).map At.pv))],.row 3 1 true (O1.map pI),.row 3 1 true (O2.map pI),.fz (.sl 11 X)]/\ahb=[(2,.ref 0 0 0),(3,.ref 1 0 0),(5,.pv (.sl 4 (L.map Mv.pv))),(8,.ref 2 0 0),eN 9 (n:Nat),(11,.ref 3 0 0),(13,.own 4),(14,.own 5),eN 15 (c:Nat)],v.d.n,⟨0,ab,rfl,rfl⟩,?_⟩
    |refine⟨λq2 ahb σ2=>∃c:Nat,c+q2=v.d.n/\σ2=[.box 26 [.pv (.str v.d.a_),.pv (.str v.d.mp),.pv (D4 v.st)],.box 37 [.pv (pI t.s),.pv (pI t.n)],.box 26 [.pv (.str w0.d.a_),.pv (.str w0.d.mp),.pv (.sl 11 X)],.box 26 [.pv (.str (nX w0 m).d.a_),.pv (.str (nX w0 m).d.mp),.pv (.sl 11 (((nX w0 m).st.l.map aB).map At.pv))],.row 3 1 true (O1.map pI),.row 3 1 true (O2.map pI)]/\ahb=[(2,.ref 0 0 0),(3,.ref 1 0 0),(5,.pv (.sl 4 (L.map Mv.pv))),(8,.ref 2 0 0),eN 9 (n:Nat),(11,.ref 3 0 0),(13,.own 4),(14,.own 5),eN 15 (c:Nat)],v.d.n,⟨0,ab,rfl,rfl⟩,?_⟩
   rintro q2 ahb σ2 ⟨c,hcq,rfl,rfl⟩;by_cases mE:c<v.d.n
   case neg=>
    (repeat'((conv=>whnf);first|refine aw ab ?_|refine bj ab ?_|refine dq λ_=>?_|refine bT ?_|fail))<;>try(conv=>whnf)
    exact⟨q-1,ab,n+1,nX w0 m,_,⟨ab,Oi,hG1,Kt,UC _⟩,.inr rfl,rfl⟩
   obtain⟨x,hx⟩:∃x,O1[c]?=some x:=⟨_,zah ab⟩
   obtain⟨y,hy⟩:∃y,O2[c]?=some y:=⟨_,zah ab⟩
   have Wk:=dX (f:=pI) hx;have jX:=dX (f:=pI) hy;have hkx:=akt c x mE hx;have hwi:bG [pI c,pI t.s,pI (t.s+t.n-1)] (t.s<=(c:Int)/\(c:Int)<=t.s+t.n-1):=⟨c,t.s,t.s+t.n-1,rfl,rfl⟩
   by_cases SI:0<=x
   case neg=>
    (repeat'((conv=>whnf);first|refine au ab ?_|refine zcd ⟨ab,ab⟩ ?_|refine⟨_,Wk,?_⟩|refine aw SI ?_|refine bj ab ?_|refine dq λ_=>?_|refine bT ?_|fail))<;>try(conv=>whnf)
    exact⟨q2-1,ab,c+1,ab,rfl,rfl⟩
   by_cases zn:y=x
   ·(repeat'((conv=>whnf);first|refine au ab ?_|refine zcd ⟨ab,ab⟩ ?_|refine⟨_,Wk,?_⟩|refine⟨_,jX,?_⟩|refine aw (λh=>h zn) ?_|refine bj ab ?_|refine dq λ_=>?_|refine bT ?_|fail))<;>try(conv=>whnf)
    exact⟨q2-1,ab,c+1,ab,rfl,rfl⟩
   ·have Us:t.s<=(c:Int)/\(c:Int)<=t.s+t.n-1:=(hkx SI).resolve_left λg=>by
     rw[hy]at g;exact zn (Option.some.inj g)
    (repeat'((conv=>whnf);first|refine au ab ?_|refine zcd ⟨ab,ab⟩ ?_|refine⟨_,Wk,?_⟩|refine⟨_,jX,?_⟩|refine⟨_,hwi,?_⟩|refine bj ab ?_|refine aN ?_|refine aN ?_|refine dq λ_=>?_|refine bT ?_|fail))<;>try(conv=>whnf)
    exact⟨q2-1,ab,c+1,ab,rfl,rfl⟩
def Sh.pv(x:Sh):PV:=.agg [pI x.k,pI x.p,pI x.c]
structure afW(v:Vo)(t:Rn):Prop where
 len:v.st.l.length<=100000
 rl:∀a∈v.st.l,a.rn.l.length<=1000000
 rb:∀a∈v.st.l,∀r∈a.rn.l,(-1<=r.s/\r.s<=1000000)/\(0<=r.n/\r.n<=1000000)
 tb:(-1000000<=t.s/\t.s<=1000000)/\(-1000000<=t.n/\t.n<=1000000)
def R3{B:Int}:∀{l:List Rn},(∀r∈l,0<=r.n/\r.n<=B)->0<=bI l/\bI l<=B*l.length
 |[],_=>by simp[bI]
 |r::l,h=>by
  have h1:=h r aj;have h2:=R3 (l:=l) λx hx=>h x iP
  show 0<=r.n+bI l/\r.n+bI l<=B*((l.length+1:Nat):Int)
  push_cast
  rw[zdS,Int.mul_one];omega
def afR:PC:=.region [⟨some 11,none,.fldA 0 (.tmp 1)⟩,⟨some 12,none,.fldA 2 (.tmp 11)⟩,⟨some 13,none,.load false 1 (.tmp 12)⟩,⟨some 14,none,.lenR (.tmp 13)⟩,⟨some 15,none,.mv (.const (.int .i64 0))⟩]
def afN:PC:=.region [⟨some 16,none,.bin .lss (.tmp 15) (.tmp 14)⟩]
def afl:PC:=.region [⟨some 17,none,.mv (.tmp 15)⟩,⟨some 18,none,.idxA 11 (.tmp 13) (.tmp 15)⟩,⟨some 19,none,.load true 11 (.tmp 18)⟩,⟨some 5,none,.alloc 41 (.agg [.int .i64 0,.str [],.int .i64 0,.int .i64 0,.bool false,.str [],.int .i64 0,.nil 2,.int .i64 0,.int .i64 0,.int .i64 0])⟩,⟨some 4,none,.mv (.tmp 17)⟩,⟨none,none,.store 11 (.tmp 5) (.tmp 19)⟩]
def af3:PC:=.region [⟨some 6,none,.mv (.const (.int .i64 0))⟩]
def afT:PC:=.region [⟨some 20,none,.fldA 7 (.tmp 5)⟩,⟨some 21,none,.load false 1 (.tmp 20)⟩,⟨some 22,none,.lenR (.tmp 21)⟩,⟨some 23,none,.mv (.const (.int .i64 0))⟩]
def afV:PC:=.region [⟨some 24,none,.bin .lss (.tmp 23) (.tmp 22)⟩]
def afY:PC:=.region [⟨some 25,none,.idxA 2 (.tmp 21) (.tmp 23)⟩,⟨some 26,none,.load true 2 (.tmp 25)⟩,⟨some 8,none,.alloc 37 (.agg [.int .i64 0,.int .i64 0])⟩,⟨none,none,.store 2 (.tmp 8) (.tmp 26)⟩]
def afq:PC:=.draw [⟨some 27,none,.fldA 0 (.tmp 8)⟩,⟨some 28,none,.load false 1 (.tmp 27)⟩,⟨some 29,none,.fldA 0 (.tmp 2)⟩,⟨some 30,none,.load false 1 (.tmp 29)⟩,⟨some 31,none,.mm true (.tmp 28) (.tmp 30)⟩,⟨some 32,none,.fldA 0 (.tmp 8)⟩,⟨some 33,none,.load false 1 (.tmp 32)⟩,⟨some 34,none,.fldA 1 (.tmp 8)⟩,⟨some 35,none,.load false 1 (.tmp 34)⟩,⟨some 36,none,.bin .add (.tmp 33) (.tmp 35)⟩,⟨some 37,none,.fldA 0 (.tmp 2)⟩,⟨some 38,none,.load false 1 (.tmp 37)⟩,⟨some 39,none,.fldA 1 (.tmp 2)⟩,⟨some 40,none,.load false 1 (.tmp 39)⟩,⟨some 41,none,.bin .add (.tmp 38) (.tmp 40)⟩,⟨some 42,none,.mm false (.tmp 36) (.tmp 41)⟩,⟨some 9,none,.mv (.tmp 31)⟩,⟨some 10,none,.mv (.tmp 42)⟩] [[],[0],[],[2],[1,3],[],[5],[],[7],[6,8],[],[10],[],[12],[11,13],[9,14],[4,0,1,2,3,4],[15,16,0,1,2,3,4,5,6,7,8,9,10,11,12,13,14,15,16]]
def TJ:List PO:=[⟨some 43,none,.fldA 0 (.tmp 8)⟩,⟨some 44,none,.load false 1 (.tmp 43)⟩,⟨some 45,none,.bin .neq (.tmp 44) (.const (.int .i64 (-1)))⟩,⟨some 46,none,.mv (.tmp 45)⟩,⟨some 47,some (46,true),.mv (.tmp 9)⟩,⟨some 48,some (46,true),.mv (.tmp 10)⟩,⟨some 49,some (46,true),.bin .lss (.tmp 47) (.tmp 48)⟩,⟨some 50,none,.pick (.tmp 46) (.tmp 49) (.const (.bool false))⟩,⟨some 51,none,.mv (.tmp 50)⟩,⟨some 52,some (51,true),.mv (.tmp 0)⟩,⟨some 53,some (51,true),.mv (.tmp 4)⟩,⟨some 54,some (51,true),.mv (.tmp 6)⟩,⟨some 55,some (51,true),.mv (.tmp 9)⟩,⟨some 56,some (51,true),.bin .add (.tmp 54) (.tmp 55)⟩,⟨some 57,some (51,true),.fldA 0 (.tmp 8)⟩,⟨some 58,some (51,true),.load false 1 (.tmp 57)⟩,⟨some 59,some (51,true),.bin .sub (.tmp 56) (.tmp 58)⟩,⟨some 60,some (51,true),.mv (.tmp 10)⟩,⟨some 61,some (51,true),.mv (.tmp 9)⟩,⟨some 62,some (51,true),.bin .sub (.tmp 60) (.tmp 61)⟩,⟨some 63,some (51,true),.build [.int .i64 0,.int .i64 0,.int .i64 0] [(0,(1,.tmp 53)),(1,(1,.tmp 59)),(2,(1,.tmp 62))]⟩,⟨some 64,some (51,true),.callv (.tmp 52) [.tmp 63]⟩,⟨some 65,some (51,true),.un .not (.tmp 64)⟩,⟨some 66,none,.pick (.tmp 51) (.tmp 65) (.const (.bool false))⟩]
def afy:PC:=.region [⟨some 67,none,.mv (.tmp 6)⟩,⟨some 68,none,.fldA 1 (.tmp 8)⟩,⟨some 69,none,.load false 1 (.tmp 68)⟩,⟨some 70,none,.bin .add (.tmp 67) (.tmp 69)⟩,⟨some 6,none,.mv (.tmp 70)⟩]
def afx:PC:=.region [⟨some 71,none,.bin .add (.tmp 23) (.const (.int .i64 1))⟩,⟨some 23,none,.mv (.tmp 71)⟩]
def af_:PC:=.region [⟨some 72,none,.bin .add (.tmp 15) (.const (.int .i64 1))⟩,⟨some 15,none,.mv (.tmp 72)⟩]
def XS:List Nat:=[0,1,2,4,5,6,8,9,10,13,14,15,21,22,23]
def aaO:∃(A B C D E F G H Z V W:Code) (id:Nat) (os:Array Oper) (o21 o8:Oper),
 Go.Proofs.Tryz.f146.body=some (.seq A (.block 0 (.loop (.seq B (.seq (.cond (.tmp 16) .skip (.exit 0)) (.seq (.block 1 (.seq C (.seq D (.seq E (.block 2 (.loop (.seq F (.seq (.cond (.tmp 24) .skip (.exit 2)) (.seq (.block 3 (.seq G (.seq H (.seq (.seq (.region id os false) (.cond (.tmp 66) .ret .skip)) Z)))) V))))))))) W))))))/\
 nR Go.Proofs.Tryz.prog 73 A=some (strip afR)/\nR Go.Proofs.Tryz.prog 73 B=some (strip afN)/\nR Go.Proofs.Tryz.prog 73 C=some (strip afl)/\nR Go.Proofs.Tryz.prog 73 D=some (strip af3)/\nR Go.Proofs.Tryz.prog 73 E=some (strip afT)/\nR Go.Proofs.Tryz.prog 73 F=some (strip afV)/\
 nR Go.Proofs.Tryz.prog 73 G=some (strip afY)/\nR Go.Proofs.Tryz.prog 73 H=some (strip afq)/\nR Go.Proofs.Tryz.prog 73 Z=some (strip afy)/\nR Go.Proofs.Tryz.prog 73 V=some (strip afx)/\nR Go.Proofs.Tryz.prog 73 W=some (strip af_)/\
 Ol (UR Go.Proofs.Tryz.prog false os 73) os.toList=some TJ/\os[21]?=some o21/\os[8]?=some o8/\o8.dst=some 51/\
 (o21.guard=some (8,true)/\o21.dst=some 64∧∃c,o21.op=.call c/\c.callee=.value (.tmp 52)/\c.args= #[.tmp 63]):=
 ⟨_,_,_,_,_,_,_,_,_,_,_,_,_,_,_,rfl,ak,ak,ak,ak,ak,ak,ak,ak,ak,ak,ak,ak,rfl,rfl,rfl,rfl,rfl,_,rfl,rfl,rfl⟩
section
def eO(Y:PV)(v:Vo)(t:Rn)(S:PV)(n i:Nat):List (Nat×PV):=[(0,Y),(1,.cptr v.pv),(2,.cptr t.pv),(13,S),(14,pI n),(15,pI i)]
def eR(Y:PV)(v:Vo)(t:Rn)(S:PV)(n i:Nat)(R:PV)(k:Nat)(p:Int)(j:Nat):List (Nat×PV):=[(0,Y),(1,.cptr v.pv),(2,.cptr t.pv),(4,pI i),(6,pI p),(13,S),(14,pI n),(15,pI i),(21,R),(22,pI k),(23,pI j)]
section
variable {Y:PV} {v:Vo} {t:Rn} {S R:PV} {n i k j:Nat} {p:Int}
def ai1:vc (ay []) [] XS afR (Uz [] (eO Y v t (D4 v.st) v.st.l.length 0)) (mh [(0,Y),(1,.cptr v.pv),(2,.cptr t.pv)]) []:=by
 (repeat'((conv=>whnf);first|refine KP ?_|refine dq λ_=>?_|refine bT ?_|fail))<;>try(conv=>whnf)
 all_goals trivial
def aif{b:Bool}(hb:b=decide (i<n)):vc (ay []) [] XS afN (Uz [] ((16,pB b)::eO Y v t S n i)) (mh (eO Y v t S n i)) []:=by
 subst hb;by_cases h:i<n
 ·rw[decide_eq_true h]
  (repeat'((conv=>whnf);first|refine au ab ?_|refine bT ?_|fail))<;>try(conv=>whnf)
  all_goals trivial
 ·rw[decide_eq_false h]
  (repeat'((conv=>whnf);first|refine aw ab ?_|refine bT ?_|fail))<;>try(conv=>whnf)
  all_goals trivial
def aiq{l:List At}{a:At}(hi:l[i]?=some a):vc (ay []) [] XS afl (Uz [.tmp 5] ((4,pI i)::(5,.cptr a.pv)::eO Y v t (.sl 11 (l.map At.pv)) n i)) (mh (eO Y v t (.sl 11 (l.map At.pv)) n i)) []:=by
 have hg:=dX (f:=At.pv) hi;generalize l.map At.pv=L at*;obtain⟨ty,nm,id,fl,rs,vl,ft,rn,al,sz,vd⟩:=a;cases rn<;>(repeat'((conv=>whnf);first|refine⟨_,⟨ab,hg⟩,?_⟩|refine bT ?_|fail))<;>try(conv=>whnf)
 all_goals trivial
def ai_{A:PV}:vc (ay []) [] XS af3 (Uz [] ((6,pI 0)::(4,pI i)::(5,A)::eO Y v t S n i)) (mh ((4,pI i)::(5,A)::eO Y v t S n i)) []:=by
 (repeat'((conv=>whnf);first|refine bT ?_|fail))<;>try(conv=>whnf)
 all_goals trivial
def aiI{a:At}:vc (ay []) [] XS afT (Uz [] (eR Y v t S n i (qF a.rn) a.rn.l.length 0 0)) (mh ((6,pI 0)::(4,pI i)::(5,.cptr a.pv)::eO Y v t S n i)) []:=by
 (repeat'((conv=>whnf);first|refine KP ?_|refine dq λ_=>?_|refine bT ?_|fail))<;>try(conv=>whnf)
 all_goals trivial
def aiN{b:Bool}(hb:b=decide (j<k)):vc (ay []) [] XS afV (Uz [] ((24,pB b)::eR Y v t S n i R k p j)) (mh (eR Y v t S n i R k p j)) []:=by
 subst hb;by_cases h:j<k
 ·rw[decide_eq_true h]
  (repeat'((conv=>whnf);first|refine au ab ?_|refine bT ?_|fail))<;>try(conv=>whnf)
  all_goals trivial
 ·rw[decide_eq_false h]
  (repeat'((conv=>whnf);first|refine aw ab ?_|refine bT ?_|fail))<;>try(conv=>whnf)
  all_goals trivial
def aiz{l:List Rn}{r:Rn}(hj:l[j]?=some r):vc (ay []) [] XS afY (Uz [.tmp 8] ((8,.cptr r.pv)::eR Y v t S n i (.sl 2 (l.map Rn.pv)) k p j)) (mh (eR Y v t S n i (.sl 2 (l.map Rn.pv)) k p j)) []:=by
 have hg:=dX (f:=Rn.pv) hj;generalize l.map Rn.pv=L at*
 (repeat'((conv=>whnf);first|refine⟨_,⟨ab,hg⟩,?_⟩|refine bT ?_|fail))<;>try(conv=>whnf)
 all_goals trivial
def aiu{r:Rn}(hr:(-1<=r.s/\r.s<=1000000)/\(0<=r.n/\r.n<=1000000))(ht:(-1000000<=t.s/\t.s<=1000000)/\(-1000000<=t.n/\t.n<=1000000)):
 vc (ay []) [] XS afq (Uz [] ((9,pI (max r.s t.s))::(10,pI (min (r.s+r.n) (t.s+t.n)))::(8,.cptr r.pv)::eR Y v t S n i R k p j)) (mh ((8,.cptr r.pv)::eR Y v t S n i R k p j)) []:=by
 refine oQ ?_
 (repeat'((conv=>whnf);first|refine bj ab ?_|refine fQ ?_|refine MIN ?_|refine bT ?_|fail))<;>try(conv=>whnf)
 all_goals trivial
def eY(Y:PV)(v:Vo)(t:Rn)(S:PV)(n i:Nat)(R:PV)(k:Nat)(p:Int)(j:Nat)(r:Rn):List (Nat×PV):=(9,pI (max r.s t.s))::(10,pI (min (r.s+r.n) (t.s+t.n)))::(8,.cptr r.pv)::eR Y v t S n i R k p j
def af2{r:Rn}(hr:(-1<=r.s/\r.s<=1000000)/\(0<=r.n/\r.n<=1000000))(ht:(-1000000<=t.s/\t.s<=1000000)/\(-1000000<=t.n/\t.n<=1000000))(hp:0<=p/\p<=1000000000000)(h:R6 t r):
 X5 (ay []) (λenv _=>fB ((51,pB true)::(52,Y)::(63,Sh.pv ⟨i,p+max r.s t.s-r.s,min (r.s+r.n) (t.s+t.n)-max r.s t.s⟩)::(8,.cptr r.pv)::eR Y v t S n i R k p j) env) ((TJ.drop 0).take 21) (mh (eY Y v t S n i R k p j r)) []:=by
 obtain⟨h1,h2⟩:=h
 (repeat'((conv=>whnf);first|refine au h1 ?_|refine au h2 ?_|refine bj ab ?_|refine bT ?_|fail))<;>try(conv=>whnf)
 all_goals trivial
def af8{r:Rn}(h:¬R6 t r):X5 (ay []) (λenv _=>fB ((66,pB false)::(8,.cptr r.pv)::eR Y v t S n i R k p j) env) ((TJ.drop 0).take 24) (mh (eY Y v t S n i R k p j r)) []:=by
 by_cases h1:r.s≠ -1
 ·have h2:¬max r.s t.s<min (r.s+r.n) (t.s+t.n):=λg=>h ⟨h1,g⟩
  (repeat'((conv=>whnf);first|refine au h1 ?_|refine aw h2 ?_|refine bT ?_|fail))<;>try(conv=>whnf)
  all_goals trivial
 ·(repeat'((conv=>whnf);first|refine aw h1 ?_|refine bT ?_|fail))<;>try(conv=>whnf)
  all_goals trivial
def agc{r:Rn}:X5 (ay []) (λenv _=>fB ((66,pB false)::(8,.cptr r.pv)::eR Y v t S n i R k p j) env) ((TJ.drop 22).take 2) (mh ((64,pB true)::(51,pB true)::(8,.cptr r.pv)::eR Y v t S n i R k p j)) []:=by
 (repeat'((conv=>whnf);first|refine aN ?_|refine bT ?_|fail))<;>try(conv=>whnf)
 all_goals trivial
def af4:X5 (ay []) (λenv _=>fB [(66,pB true)] env) ((TJ.drop 22).take 2) (mh [(64,pB false),(51,pB true)]) []:=by
 (repeat'((conv=>whnf);first|refine bP ?_|refine bT ?_|fail))<;>try(conv=>whnf)
 all_goals trivial
def aiG{r:Rn}{b:Bool}(hr:(-1<=r.s/\r.s<=1000000)/\(0<=r.n/\r.n<=1000000))(hp:0<=p/\p<=1000000000000):vc (ay []) [] XS afy (Uz [] (eR Y v t S n i R k (p+r.n) j)) (mh ((66,pB b)::(8,.cptr r.pv)::eR Y v t S n i R k p j)) []:=by
 (repeat'((conv=>whnf);first|refine bj ab ?_|refine bT ?_|fail))<;>try(conv=>whnf)
 all_goals trivial
def afF(hj:j<=1000000):vc (ay []) [] XS afx (Uz [] (eR Y v t S n i R k p (j+1))) (mh (eR Y v t S n i R k p j)) []:=by
 (repeat'((conv=>whnf);first|refine bj ab ?_|refine bT ?_|fail))<;>try(conv=>whnf)
 all_goals trivial
def aim(hi:i<=1000000):vc (ay []) [] XS af_ (Uz [] (eO Y v t S n (i+1))) (mh (eR Y v t S n i R k p j)) []:=by
 (repeat'((conv=>whnf);first|refine bj ab ?_|refine bT ?_|fail))<;>try(conv=>whnf)
 all_goals trivial
end
end
end Go.Dv.Try
namespace Go.Dv.Try
open Go Go.Dv Go.RowKit
def Y7(jh:List PV)(L:List (List PV)):Prop:=∃(v:Vo) (t:Rn),jh=[.cptr v.pv,.cptr t.pv]/\afW v t/\L=(gk t 0 v.st.l).map λs=>[s.pv]
def C1{α:Type}(J:List α->(Nat->Prop)->World->Prop)(y:α->List PV)(E:List (Nat×PV))(D:List Sh)(a:Act)(W:World):Prop:=
 ∃Qg X pre,NF 73 Qg W a E/\(∀b,Qg b→¬X b)/\J pre X W/\pre.map y=D.map λs=>[s.pv]
def C1.Yg{α:Type}{J:List α->(Nat->Prop)->World->Prop}{y:α->List PV}{B:Nat}(hJ:∀X,AbidesFrom B λpre=>J pre X)(hX:∀pre X W1,J pre X W1→∀b,X b->b<W1.heap.size)(hΓ:Sound Go.Proofs.Tryz.prog (ay []))
 {E E':List (Nat×PV)} {D:List Sh} {a:Act} {W:World} (I:C1 J y E D a W) {c:Code} {pc:PC} (hc:nR Go.Proofs.Tryz.prog 73 c=some (strip pc)) (hs:fw pc=true) {l:List Operand} (hv:vc (ay []) [] XS pc (Uz l E') (mh E) []) (m:Nat) {R:Exit->Act->World->Prop}
 (h:∀a' W',C1 J y E' D a' W'->R .normal a' W'):c.wpIn Fence.wide m Go.Proofs.Tryz.prog R a W:=by
 obtain⟨Qg,X,pre,I,hd,hj,hp⟩:=I;refine I.piece hΓ mixed hc hs l hv m λacE a' W' I' hg hn=>h a' W' ⟨acE,X,pre,I',λb hb hx=>?_,hJ X pre W W' none hj hg (λr e=>cz),hp⟩
 rcases hn b hb with g|g
 ·exact hd b g hx
 ·have:=hX pre X W hj b hx;omega
def C1.num{α:Type}{J:List α->(Nat->Prop)->World->Prop}{y:α->List PV}{E:List (Nat×PV)}{D:List Sh}{a:Act}{W:World}(I:C1 J y E D a W){p:Nat}{x:Int}(h:(p,pI x)∈E):a.tmps.getD p undef=.int .i64 x:=by
 obtain⟨_,_,_,I,_⟩:=I;have:=I.get h;simpa only[Rd]using this
def C1.bool{α:Type}{J:List α->(Nat->Prop)->World->Prop}{y:α->List PV}{E:List (Nat×PV)}{D:List Sh}{a:Act}{W:World}(I:C1 J y E D a W){p:Nat}{b:Bool}(h:(p,pB b)∈E):a.tmps.getD p undef=.bool b:=by
 obtain⟨_,_,_,I,_⟩:=I;have:=I.get h;simpa only[Rd]using this
def C1.sub{α:Type}{J:List α->(Nat->Prop)->World->Prop}{y:α->List PV}{E E':List (Nat×PV)}{D:List Sh}{a:Act}{W:World}(I:C1 J y E D a W)(h:∀q∈E',q∈E):C1 J y E' D a W:=by
 obtain⟨Qg,X,pre,I,r⟩:=I;exact⟨Qg,X,pre,I.sub h,r⟩
def C1.ops{α:Type}{J:List α->(Nat->Prop)->World->Prop}{y:α->List PV}{B:Nat}(hJ:∀X,AbidesFrom B λpre=>J pre X)(hX:∀pre X W1,J pre X W1→∀b,X b->b<W1.heap.size)(hΓ:Sound Go.Proofs.Tryz.prog (ay []))
 {E E':List (Nat×PV)} {D:List Sh} {a:Act} {W:World} (I:C1 J y E D a W) {os:Array Oper} (hl:Ol (UR Go.Proofs.Tryz.prog false os 73) os.toList=some TJ) (i k:Nat) (js:List Nat) (hk:i+k<=24)
 (hv:X5 (ay []) (λenv _=>fB E' env) ((TJ.drop i).take k) (mh E) []) (m:Nat) {Q:Exit->Act->World->Prop} (h:∀a' W',C1 J y E' D a' W'->wpOpsIn Fence.wide m Go.Proofs.Tryz.prog os Q js a' W'):wpOpsIn Fence.wide m Go.Proofs.Tryz.prog os Q (List.range' i k++js) a W:=by
 obtain⟨Qg,X,pre,I,hd,hj,hp⟩:=I;refine I.ops hΓ hl i k js hk hv λacE a' W' I' hg hn=>h a' W' ⟨acE,X,pre,I',λb hb hx=>?_,hJ X pre W W' none hj hg (λr e=>cz),hp⟩
 rcases hn b hb with g|g
 ·exact hd b g hx
 ·have:=hX pre X W hj b hx;omega
def afn{os:Array Oper}(h:Ol (UR Go.Proofs.Tryz.prog false os 73) os.toList=some TJ):os.size=24:=by
 obtain⟨hl,_,_⟩:=Tn h ⟨none,none,.nilS 0⟩;exact hl.symm
set_option maxHeartbeats 1000000 in
def TW(hΓ:Sound Go.Proofs.Tryz.prog (ay [])):Y9 Go.Proofs.Tryz.prog 146 Y7:=by
 intro m w jN jh vs L di rT kW;obtain⟨v,t,rfl,hI,rfl⟩:=kW;have hf:Go.Proofs.Tryz.prog.funcs[146]?=some Go.Proofs.Tryz.f146:=ak;obtain⟨A,B,C,D,E,F,G,H,Z,V,W1,id,os,o21,o8,ab0,cA,cB,cC,cD,cE,cF,cG,cH,cZ,cV,cW,cO,g21,g8,d8,og,od,cc,oop,akS,akV⟩:=aaO;refine⟨?_,Go.Proofs.enters_of hf ak ab0⟩;obtain⟨v1,v2,rfl,r1,r2⟩:∃v1 v2,vs= #[v1,v2]/\Rd jN w (.cptr v.pv) v1/\Rd jN w (.cptr t.pv) v2:=by
  simp only[bS]at rT;obtain⟨v1,x,e1,r1,v2,x2,rfl,r2,rfl⟩:=rT;exact⟨v1,v2,by rw[<-zco];exact e1,r1,r2⟩
 let Ls:=gk t 0 v.st.l
 let y:{ k:Nat//k<Ls.length }->List PV:=λk=>[(Ls[k.1]'k.2).pv]
 let en:{ k:Nat//k<Ls.length }->Array Value:=λk=> #[.agg #[.int .i64 (Ls[k.1]'k.2).k,.int .i64 (Ls[k.1]'k.2).p,.int .i64 (Ls[k.1]'k.2).c]]
 have Gp:∀{ok:Nat->Prop} {W:World} (s:Sh) (u:Value),Rd ok W s.pv u↔u=.agg #[.int .i64 s.k,.int .i64 s.p,.int .i64 s.c]:=λs u=>by
  unfold Sh.pv;simp only[Rd,bS];constructor
  ·rintro⟨_,vs,rfl,a,r,e,rfl,b,r2,rfl,rfl,c,r3,rfl,rfl,rfl⟩;rw[show vs= #[.int .i64 s.k,.int .i64 s.p,.int .i64 s.c] by rw[<-zco];exact e]
  ·rintro rfl;refine⟨λc hc=>?_,_,rfl,_,_,rfl,rfl,_,_,rfl,rfl,_,_,rfl,rfl,rfl⟩;simp only[zax,zcp,or_false]at hc;rcases hc with rfl|rfl|rfl<;>rfl
 refine⟨{ k:Nat//k<Ls.length },y,en,λk=>⟨zaX.2 ⟨(Ls[k.1]'k.2),zcN k.2,rfl⟩,?_⟩,?_⟩
 ·show bS jN w [(Ls[k.1]'k.2).pv] [_];simp only[bS];exact⟨_,_,rfl,(Gp _ _).2 rfl,rfl⟩
 intro yy J Jx W hb hJ HG hX hY X0 h0 hj0;refine callsIn_of_wp hf ab0 trivial ?_;obtain⟨Y,hYd⟩:∃Y,Y=Value.func (.yield yy) #[] #[]:=⟨_,rfl⟩
 have u4:∀b o,jN b->W.cell? ⟨b,o,none⟩=w.cell? ⟨b,o,none⟩:=λb o Cs=>World.cell?_of_block (hb.block b (di b Cs))
 have GY:C1 J y [(0,.val Y),(1,.cptr v.pv),(2,.cptr t.pv)] [] { tmps:=(#[Value.func (.yield yy) #[] #[]]++ #[v1,v2])++Array.replicate (Go.Proofs.Tryz.f146.ntmps-(#[Value.func (.yield yy) #[] #[]]++ #[v1,v2]).size) undef,defers:=[] } W:=by
  have hn:Go.Proofs.Tryz.f146.ntmps-(#[Value.func (.yield yy) #[] #[]]++ #[v1,v2]).size=70:=by
   rw[show Go.Proofs.Tryz.f146.ntmps=73 by kernel_rfl];rfl
  rw[hn];obtain⟨a0,a1,a2,a3⟩:=ao8 (Value.func (.yield yy) #[] #[]) v1 v2 70;refine⟨jN,X0,[],⟨a3,rfl,λb Cs=>Nat.lt_of_lt_of_le (di b Cs) hb.size,λq hq=>?_⟩,h0,hj0,rfl⟩;simp only[zax,zcp,or_false]at hq;rcases hq with rfl|rfl|rfl
  ·show Rd _ _ _ (Array.getD _ 0 undef);rw[a0,hYd];simp only[Rd];exact⟨trivial,rfl⟩
  ·show Rd _ _ _ (Array.getD _ 1 undef);rw[a1];exact Rd.mono (λ_ h=>h) u4 _ _ r1
  ·show Rd _ _ _ (Array.getD _ 2 undef);rw[a2];exact Rd.mono (λ_ h=>h) u4 _ _ r2
 generalize ({ tmps:=(#[Value.func (.yield yy) #[] #[]]++ #[v1,v2])++Array.replicate (Go.Proofs.Tryz.f146.ntmps-(#[Value.func (.yield yy) #[] #[]]++ #[v1,v2]).size) undef,defers:=[] }:Act)=aKL at GY;refine wpIn_seq (GY.Yg hJ hX hΓ cA rfl ai1 m λaKM WA i1=>?_);refine wpIn_block ?_;refine wpIn_loop (λact W=>∃i:Nat,C1 J y (eO (.val Y) v t (D4 v.st) v.st.l.length i) (gk t 0 (v.st.l.take i)) act W/\i<=v.st.l.length) (λact _=>((v.st.l.length:Int)+1-intOf (act.tmps.getD 15 undef)).toNat) ⟨0,i1,ab⟩ ?_;clear i1 GY;rintro act W2 ⟨i,I2,jB⟩;have t15:=I2.num (p:=15) (x:=i) (by simp[eO]);have hlen:=hI.len;refine wpIn_seq (I2.Yg hJ hX hΓ cB rfl (aif rfl) m λamY W3 I3=>?_);by_cases aU:i<v.st.l.length
 case neg=>
  rw[decide_eq_false aU]at I3;refine wpIn_seq (wpIn_cond_false (I3.bool (p:=16) (b:=false) aj) (wpIn_exit ?_));obtain⟨Qg,X,pre,I,hd,hj,hp⟩:=I3;refine⟨I.defs,.tuple #[],results_none rfl _ _ _,⟨_,rfl⟩,.inl ⟨pre,X,?_,hj⟩⟩;show pre.map y=_;rw[hp,za1 ab]
 rw[decide_eq_true aU]at I3;refine wpIn_seq (wpIn_cond_true (I3.bool (p:=16) (b:=true) aj) (wpIn_skip ?_));replace I3:=I3.sub (E':=eO (.val Y) v t (D4 v.st) v.st.l.length i) (λq hq=>zdB _ hq);obtain⟨a,ha⟩:∃a,v.st.l[i]?=some a:=⟨_,zah aU⟩
 have HA:=zag ha;have hS:D4 v.st=.sl 11 (v.st.l.map At.pv):=Sl.zN ha;have vu:=hI.rl a HA;have tZ:=hI.rb a HA;refine wpIn_seq (wpIn_block ?_);rw[hS]at I3 ⊢;refine wpIn_seq (I3.Yg hJ hX hΓ cC rfl (aiq ha) m λaG5 W4 I4=>?_);refine wpIn_seq (I4.Yg hJ hX hΓ cD rfl ai_ m λUG W5 I5=>?_);refine wpIn_seq (I5.Yg hJ hX hΓ cE rfl aiI m λayy W6 I6=>?_);refine wpIn_block ?_;refine wpIn_loop (λtk W=>∃j:Nat,C1 J y (eR (.val Y) v t (.sl 11 (v.st.l.map At.pv)) v.st.l.length i (qF a.rn) a.rn.l.length (bI (a.rn.l.take j)) j) (gk t 0 (v.st.l.take i)++gY t i 0 (a.rn.l.take j)) tk W/\j<=a.rn.l.length) (λtk _=>((a.rn.l.length:Int)+1-intOf (tk.tmps.getD 23 undef)).toNat) ⟨0,by rw[zdL];show C1 J y _ (_++[]) _ _;rw[zbf];exact I6,ab⟩ ?_;clear I2 I3 I4 I5 I6;rintro WV W7 ⟨j,I7,nd⟩;have t23:=I7.num (p:=23) (x:=j) (by simp[eR]);refine wpIn_seq (I7.Yg hJ hX hΓ cF rfl (aiN rfl) m λan6 W8 I8=>?_);by_cases HQ:j<a.rn.l.length
 case neg=>
  rw[decide_eq_false HQ]at I8;refine wpIn_seq (wpIn_cond_false (I8.bool (p:=24) (b:=false) aj) (wpIn_exit ?_));replace I8:=I8.sub (E':=eR (.val Y) v t (.sl 11 (v.st.l.map At.pv)) v.st.l.length i (qF a.rn) a.rn.l.length (bI (a.rn.l.take j)) j) (λq hq=>zdB _ hq);refine I8.Yg hJ hX hΓ cW rfl (aim ab) m λQT W9 I9=>?_
  rw[za1 (show a.rn.l.length<=j by omega),<-TU ha]at I9;refine⟨⟨i+1,I9,ab⟩,?_⟩;have u15:=I9.num (p:=15) (x:=((i+1:Nat):Int)) (by simp[eO]);rw[t15,u15];show((v.st.l.length:Int)+1-((i+1:Nat):Int)).toNat<((v.st.l.length:Int)+1-(i:Int)).toNat;omega
 rw[decide_eq_true HQ]at I8;refine wpIn_seq (wpIn_cond_true (I8.bool (p:=24) (b:=true) aj) (wpIn_skip ?_));replace I8:=I8.sub (E':=eR (.val Y) v t (.sl 11 (v.st.l.map At.pv)) v.st.l.length i (qF a.rn) a.rn.l.length (bI (a.rn.l.take j)) j) (λq hq=>zdB _ hq);obtain⟨r,hr⟩:∃r,a.rn.l[j]?=some r:=⟨_,zah HQ⟩
 have JA:=tZ r (zag hr);have hR:qF a.rn=.sl 2 (a.rn.l.map Rn.pv):=Sl.zN hr;have ko:=R3 (l:=a.rn.l.take j) λx hx=>(tZ x (zaL hx)).2
 rw[zal,zat nd]at ko;have aHt:bI (a.rn.l.take (j+1))=bI (a.rn.l.take j)+r.n:=by
  rw[zck,hr,show(some r).toList=[r]from rfl,J8];show _+(r.n+0)=_;omega
 have aGs:=aej (t:=t) ha (j+1);rw[PJ hr]at aGs;rw[hR]at I8 ⊢;have fin:∀(QT:Act) (W9:World),C1 J y ((66,pB false)::(8,.cptr r.pv)::eR (.val Y) v t (.sl 11 (v.st.l.map At.pv)) v.st.l.length i (.sl 2 (a.rn.l.map Rn.pv)) a.rn.l.length (bI (a.rn.l.take j)) j) (gk t 0 (v.st.l.take i)++gY t i 0 (a.rn.l.take (j+1))) QT W9->
  ∀{Q:Exit->Act->World->Prop},(∀act W,C1 J y (eR (.val Y) v t (.sl 11 (v.st.l.map At.pv)) v.st.l.length i (.sl 2 (a.rn.l.map Rn.pv)) a.rn.l.length (bI (a.rn.l.take (j+1))) j) (gk t 0 (v.st.l.take i)++gY t i 0 (a.rn.l.take (j+1))) act W->Q .normal act W)->Z.wpIn Fence.wide m Go.Proofs.Tryz.prog Q QT W9:=by
  intro QT W9 I9 Q hQ;rw[aHt]at hQ;exact I9.Yg hJ hX hΓ cZ rfl (aiG JA ab) m hQ
 refine wpIn_seq (wpIn_block ?_);refine wpIn_seq (I8.Yg hJ hX hΓ cG rfl (aiz hr) m λQT W9 I9=>?_);refine wpIn_seq (I9.Yg hJ hX hΓ cH rfl (aiu JA hI.tb) m λalW W10 I10=>?_);have last:∀(QT:Act) (W9:World),C1 J y ((66,pB false)::(8,.cptr r.pv)::eR (.val Y) v t (.sl 11 (v.st.l.map At.pv)) v.st.l.length i (.sl 2 (a.rn.l.map Rn.pv)) a.rn.l.length (bI (a.rn.l.take j)) j) (gk t 0 (v.st.l.take i)++gY t i 0 (a.rn.l.take (j+1))) QT W9->
  ∀{Q:Exit->Act->World->Prop},(∀act W,C1 J y (eR (.val Y) v t (.sl 11 (v.st.l.map At.pv)) v.st.l.length i (.sl 2 (a.rn.l.map Rn.pv)) a.rn.l.length (bI (a.rn.l.take (j+1))) j) (gk t 0 (v.st.l.take i)++gY t i 0 (a.rn.l.take (j+1))) act W->Q .normal act W)->(Code.cond (.tmp 66) .ret .skip).wpIn Fence.wide m Go.Proofs.Tryz.prog (Exit.then (Z.wpIn Fence.wide m Go.Proofs.Tryz.prog Q) Q) QT W9:=by
  intro QT W9 I9 Q hQ;exact wpIn_cond_false (I9.bool (p:=66) (b:=false) aj) (wpIn_skip (fin QT W9 I9 hQ))
 have hinv:∀(act:Act) (W:World),C1 J y (eR (.val Y) v t (.sl 11 (v.st.l.map At.pv)) v.st.l.length i (.sl 2 (a.rn.l.map Rn.pv)) a.rn.l.length (bI (a.rn.l.take (j+1))) j) (gk t 0 (v.st.l.take i)++gY t i 0 (a.rn.l.take (j+1))) act W->True:=λ_ _ _=>trivial
 refine wpIn_seq (wpIn_seq (wpIn_region ?_));rw[afn cO];by_cases Us:R6 t r
 case neg=>
  have e:gY t i 0 (a.rn.l.take (j+1))=gY t i 0 (a.rn.l.take j):=by rw[PJ hr];unfold NZ;rw[if_neg Us,zbf]
  rw[<-e]at I10;refine I10.ops hJ hX hΓ cO 0 24 [] ao (af8 Us) m λPW W11 I11=>?_
  refine last PW W11 I11 λal0 W12 I12=>?_
  refine I12.Yg hJ hX hΓ cV rfl (afF ab) m λal2 W13 I13=>?_
  refine⟨⟨j+1,I13,ab⟩,?_⟩;have u23:=I13.num (p:=23) (x:=((j+1:Nat):Int)) (by simp[eR]);rw[t23,u23];show((a.rn.l.length:Int)+1-((j+1:Nat):Int)).toNat<((a.rn.l.length:Int)+1-(j:Int)).toNat;omega
 have yB:NZ t i (bI (a.rn.l.take j)) r=[⟨i,bI (a.rn.l.take j)+max r.s t.s-r.s,min (r.s+r.n) (t.s+t.n)-max r.s t.s⟩]:=by unfold NZ;rw[if_pos Us]
 have e:gk t 0 (v.st.l.take i)++gY t i 0 (a.rn.l.take (j+1))=(gk t 0 (v.st.l.take i)++gY t i 0 (a.rn.l.take j))++[⟨i,bI (a.rn.l.take j)+max r.s t.s-r.s,min (r.s+r.n) (t.s+t.n)-max r.s t.s⟩]:=by rw[PJ hr,yB,zaj]
 rw[yB,<-zaj]at aGs;refine I10.ops hJ hX hΓ cO 0 21 [21,22,23] ao (af2 JA hI.tb ab Us) m λPW W11 I11=>?_
 rw[e]at last;generalize (⟨i,bI (a.rn.l.take j)+max r.s t.s-r.s,min (r.s+r.n) (t.s+t.n)-max r.s t.s⟩:Sh)=sh at*;generalize hD:gk t 0 (v.st.l.take i)++gY t i 0 (a.rn.l.take j)=D at*;have t51:=I11.bool (p:=51) (b:=true) aj;obtain⟨Qg,X,pre,I,hd,hj,hp⟩:=I11;have y52:PW.tmps.getD 52 undef=.func (.yield yy) #[] #[]:=by
  have:=I.get (p:=52) (x:=.val Y) aj;rw[<-hYd];simp only[Rd]at this;exact this.1
 have y63:=(Gp _ _).1 (I.get (p:=63) (x:=sh.pv) aj);have hk:D.length<Ls.length:=by
  have:=aGs.length_le;rw[zad,zbM]at this;exact this
 have HJ:Ls[D.length]'hk=sh:=by
  obtain⟨x,hx⟩:=aGs;have:Ls[D.length]?=some sh:=by
   show(gk t 0 v.st.l)[D.length]?=some sh;rw[<-hx,zaj,zak (zai _),zcH];rfl
  rw[zah hk]at this;exact Option.some.inj this
 have qG:pre.length=D.length:=by
  have:=congrArg List.length hp;simpa using this
 have aD4:(pre++[(⟨D.length,hk⟩:{ k:Nat//k<Ls.length })]).map y=(D++[sh]).map λs=>[s.pv]:=by
  rw[zbs,zbs,hp];show _++[[(Ls[D.length]'hk).pv]]=_;rw[HJ];rfl
 obtain⟨fn,tm,qJ,bd,hy,zL⟩:=hY pre ⟨D.length,hk⟩ X W11 hj (by show(Ls.map λs=>[s.pv])[pre.length]?=_;rw[qG,za9,zah hk];rfl);refine YK g21 (Xd og g8 d8 t51) od oop akS akV (l:=yy) y52 ?_;have hen:en ⟨D.length,hk⟩= #[PW.tmps.getD 63 undef]:=by
  rw[y63];show #[Value.agg #[.int .i64 (Ls[D.length]'hk).k,.int .i64 (Ls[D.length]'hk).p,.int .i64 (Ls[D.length]'hk).c]]=_;rw[HJ]
 rw[hen]at hy;refine⟨fn,tm,qJ,bd,hy,zL.mono ?_⟩;rintro e2 W12 (⟨rfl,X',j12,k12⟩|⟨rfl,jx⟩)
 ·refine⟨_,rfl,?_⟩;obtain⟨I12,ak5⟩:=I.round k12 hd;have I13:C1 J y ((64,pB true)::(51,pB true)::(8,.cptr r.pv)::eR (.val Y) v t (.sl 11 (v.st.l.map At.pv)) v.st.l.length i (.sl 2 (a.rn.l.map Rn.pv)) a.rn.l.length (bI (a.rn.l.take j)) j) (D++[sh]) (PW.put (some 64) (.bool true)) W12:=by
   refine⟨Qg,X',_,I12.put (x:=pB true) ao eo (λq hq=>?_),ak5,j12,aD4⟩;rcases zax.1 hq with rfl|hq
   ·exact .inl rfl
   ·refine .inr ⟨?_,?_⟩
    ·rcases zax.1 hq with rfl|hq
     ·simp
     ·simp[hq]
    ·unfold eR at hq;simp only[zax,zcp,or_false]at hq;rcases hq with rfl|rfl|rfl|rfl|rfl|rfl|rfl|rfl|rfl|rfl|rfl|rfl|rfl<;>simp
  refine I13.ops hJ hX hΓ cO 22 2 [] ao agc m λaag W14 I14=>?_
  refine last aag W14 I14 λal5 W15 I15=>?_
  refine I15.Yg hJ hX hΓ cV rfl (afF ab) m λal_ W16 I16=>?_
  rw[<-e]at I16;refine⟨⟨j+1,I16,ab⟩,?_⟩;have u23:=I16.num (p:=23) (x:=((j+1:Nat):Int)) (by simp[eR]);rw[t23,u23];show((a.rn.l.length:Int)+1-((j+1:Nat):Int)).toNat<((a.rn.l.length:Int)+1-(j:Int)).toNat;omega
 ·refine⟨_,rfl,?_⟩;have I13:NF 73 (λ_=>False) W12 (PW.put (some 64) (.bool false)) [(64,pB false),(51,pB true)]:=by
   have I0:NF 73 (λ_=>False) W12 PW [(51,pB true)]:=⟨I.size,I.defs,λ_ h=>h.elim,λq hq=>by
    rw[zcS]at hq;subst hq;simp only[Rd];exact t51⟩
   refine I0.put (x:=pB false) ao eo (λq hq=>?_);simp only[zax,zcp,or_false]at hq;rcases hq with rfl|rfl
   ·exact .inl rfl
   ·exact .inr ⟨aj,ao⟩
  refine I13.ops hΓ cO 22 2 [] ao af4 λacE aag W14 I14 hg hn=>?_
  have t66:aag.tmps.getD 66 undef=.bool true:=by
   have:=I14.get (p:=66) (x:=pB true) aj;simpa only[Rd]using this
  refine wpIn_cond_true t66 (wpIn_ret ?_);refine⟨I14.defs,.tuple #[],results_none rfl _ _ _,⟨_,rfl⟩,.inr ⟨_,?_,HG _ W12 W14 none jx hg (λr e=>cz)⟩⟩;show(pre++[(⟨D.length,hk⟩:{ k:Nat//k<Ls.length })]).map y<+:_;rw[aD4];exact aGs.map _
end Go.Dv.Try
namespace Go.Dv.Try
open Go Go.Dv
def MO(ps:List PV)(y:PV):Prop:=∃(l:List Rn) (x:Rn),ps=[.sl 2 (l.map Rn.pv),x.pv]/\(x∈l/\l.length<=1000000)/\y=pI (M4 l x)
def Tr:MT (ay []) bW (ah MO):=by
 rintro _ K ⟨_,⟨l,x,rfl,⟨hx,hl⟩,rfl⟩,hK⟩;have gJ:(l.map Rn.pv).length=l.length:=zaw _
 (repeat'((conv=>whnf);first|refine dq λ_=>?_|fail))<;>try(conv=>whnf)
 refine⟨λm env σ=>∃n:Nat,(n+m=l.length/\x∈l.drop n/\M4 l x=n+M4 (l.drop n) x)/\σ=[.box 37 [.pv (pI x.s),.pv (pI x.n)]]/\env=[(0,.pv (.sl 2 (l.map Rn.pv))),(3,.ref 0 0 0),eN 7 l.length,eN 8 n],l.length,⟨0,⟨ab,hx,aj⟩,rfl,rfl⟩,?_⟩;rintro m env σ ⟨n,⟨hn,hxn,he⟩,rfl,rfl⟩;by_cases aU:n<l.length
 case neg=>rw[zcX ab]at hxn;cases hxn
 obtain⟨a,ha⟩:∃a,l[n]?=some a:=⟨_,zah aU⟩
 have Nl:=dX (f:=Rn.pv) ha;rw[drop_cons ha]at hxn he;by_cases e:x.s=a.s/\x.n=a.n
 ·have h0:M4 l x=n:=by rw[he];unfold M4;rw[if_pos e];rfl
  rw[h0]at hK;have e2:[pI x.s,pI x.n]=[pI a.s,pI a.n]:=by rw[e.1,e.2]
  (repeat'((conv=>whnf);first|refine au ab ?_|refine⟨_,⟨ab,Nl⟩,?_⟩|refine bT ?_|fail))<;>try(conv=>whnf)
  exact⟨.pv (pI n),rfl,trivial,hK⟩
 ·have h1:x∈l.drop (n+1):=by
   rcases zax.1 hxn with h|h
   ·exact absurd ⟨by rw[h],by rw[h]⟩ e
   ·exact h
  have h2:M4 l x=(n+1)+M4 (l.drop (n+1)) x:=by
   rw[he];show n+(if _ then 0 else M4 (l.drop (n+1)) x+1)=_;rw[if_neg e];omega
  have e2:¬[pI x.s,pI x.n]=[pI a.s,pI a.n]:=λh=>by
   simp only[List.cons.injEq,PV.int.injEq,true_and,and_true]at h;exact e h
  (repeat'((conv=>whnf);first|refine au ab ?_|refine⟨_,⟨ab,Nl⟩,?_⟩|refine aw e2 ?_|refine bj ab ?_|refine bT ?_|fail))<;>try(conv=>whnf)
  exact⟨m-1,ab,n+1,⟨ab,h1,h2⟩,rfl,rfl⟩
def K3(ps:List PV)(y:PV):Prop:=∃(b:Rn) (l:List Rn),ps=[.sl 2 ((b::l).map Rn.pv),.clo 80 []]/\l.length<=1000000/\y=(Ot b l).pv
def SQ:MT (ay [(80,ah alV)]) dy (ah K3):=by
 rintro args K ⟨_,⟨b,l,h1,h2,rfl⟩,hK⟩;exact ao1 args K ⟨b,l,h1,h2,hK⟩
def Jf:Spec:={ lone:=false,fn:=false,run:=λ_ _=>False,iter:=Y7,mu:=false,qS:=λ_ _ _=>False }
def T3(hΓ:Sound Go.Proofs.Tryz.prog (ay [])):bU Go.Proofs.Tryz.prog 146 Jf:=
 ⟨(λe=>cz),(λe=>cz),(λ_ _ _ _ _ _ _ _ h=>(show False from h).elim),TW hΓ,(λ_ _ _ _ _ _ _ _ e=>cz)⟩
def O_:Spec:=EM false false λps K=>∃(v:Vo) (t:Rn),ps=[v.pv,t.pv]/\K (.pv (.clo 146 [.cptr v.pv,.cptr t.pv]))
def QR:MT (ay [(146,Jf)]) ku O_:=by
 rintro _ K ⟨v,t,rfl,hK⟩;obtain⟨⟨b,m⟩,s⟩:=v;cases s<;>
 ·(conv=>whnf)
  exact FI
def rmB(R:List Rn):Prop:=∀r∈R,(0<=r.s/\0<=r.n)/\r.s+r.n<=512
def Yt(k:Int):∀(f:Nat) (p c:Int) (R:List Rn),0<=c->c<=f->rmB R->c<=bI R->bI (Hp k f p c R).2=bI R-c/\rmB (Hp k f p c R).2/\(Hp k f p c R).2.length=R.length/\((Hp k f p c R).1.length:Int)<=c
 |0,p,c,R,h0,hf,hb,_=>by
  have:c=0:=ab;subst this;exact⟨by show bI R=bI R-0;omega,hb,rfl,zdF _⟩
 |f+1,p,c,R,h0,hf,hb,hs=>by
  by_cases hc:0<c
  ·obtain⟨dI,hpk⟩:=UZ (R:=R) ab;rw[S5 hc];have hu:=Sa dI (min c (dv R).n);obtain⟨i1,i2,i3,i4⟩:=Yt k f (p+min c (dv R).n) (c-min c (dv R).n) (Ng R (min c (dv R).n)) ab ab (YN dI ab hb) ab;refine⟨by rw[i1,hu];omega,i2,i3.trans (S1 _ _),?_⟩;show((_+1:Nat):Int)<=c;omega
  ·rw[OY k p R hc];exact⟨by show bI R=_;omega,hb,rfl,h0⟩
def UI:∀(l:List Sh) (R:List Rn),(∀s∈l,1<=s.c)->rmB R->jU l<=bI R->bI (gj l R).2=bI R-jU l/\rmB (gj l R).2/\(gj l R).2.length=R.length/\((gj l R).1.length:Int)<=jU l
 |[],R,_,hb,_=>⟨by show bI R=bI R-0;omega,hb,rfl,zdF _⟩
 |s::l,R,hp,hb,hs=>by
  have hc:=hp s aj;have hl:∀x∈l,1<=x.c:=λx hx=>hp x iP
  have da:∀l:List Sh,(∀x∈l,1<=x.c)->0<=jU l:=by
   intro l
   induction l with
   |nil=>intro _;exact zdF _
   |cons y l ih=>
    intro h;have:=h y aj;have:=ih λx hx=>h x iP
    show 0<=y.c+jU l;omega
  have da:=da l hl;have hs:s.c+jU l<=bI R:=hs;obtain⟨i1,i2,i3,i4⟩:=Yt s.k s.c.toNat s.p s.c R ab ab hb ab;obtain⟨j1,j2,j3,j4⟩:=UI l (Hp s.k s.c.toNat s.p s.c R).2 hl i2 ab;refine⟨by show bI (gj l _).2=bI R-(s.c+jU l);rw[j1,i1];omega,j2,j3.trans i3,?_⟩;show(((Hp s.k s.c.toNat s.p s.c R).1++(gj l (Hp s.k s.c.toNat s.p s.c R).2).1).length:Int)<=s.c+jU l;rw[zad];omega
structure Zp(s:Sh)(G:List Mv×List Rn)(f:Nat)(p c:Int)(R:List Rn)(M:List Mv):Prop where
 c0:0<=c/\c<=f
 m:M++(Hp s.k f p c R).1=G.1
 r:(Hp s.k f p c R).2=G.2
 b:rmB R
 len:R.length<=512
 sum:c<=bI R
 ml:(M.length:Int)+c<=512
 pb:0<=p/\p+c<=4000000000000
def Zp.stop{s:Sh}{G:List Mv×List Rn}{f:Nat}{p c:Int}{R:List Rn}{M:List Mv}(I:Zp s G f p c R M)(h:¬0<c):M=G.1/\R=G.2:=by
 have h1:=I.m;have h2:=I.r;rw[OY s.k p R h]at h1 h2;exact⟨by rw[<-h1,zbf],h2⟩
def Zp.step{s:Sh}{G:List Mv×List Rn}{f:Nat}{p c:Int}{R:List Rn}{M:List Mv}(I:Zp s G f p c R M)(h:0<c):R≠[]/\1<=min c (dv R).n/\
 ∃f',Zp s G f' (p+min c (dv R).n) (c-min c (dv R).n) (Ng R (min c (dv R).n)) (M++[⟨s.k,p,⟨(dv R).s,min c (dv R).n⟩⟩]):=by
 have hs:=I.sum;have h0:=I.c0;have XJ:=I.ml;have e_:=I.pb;obtain⟨dI,hpk⟩:=UZ (R:=R) ab;obtain⟨g,rfl⟩:∃g,f=g+1:=⟨f-1,ab⟩
 have h1:=I.m;have h2:=I.r;rw[S5 h]at h1 h2;have hu:=Sa dI (min c (dv R).n);refine⟨dI,ab,g,⟨ab,ab⟩,by rw[<-h1,zaj];rfl,h2,YN dI ab I.b,by rw[S1];exact I.len,ab,?_,ab⟩;rw[zad,zbM]
 push_cast
 omega
def Zp.start{l:List Sh}{s:Sh}{R0:List Rn}(hb:rmB R0)(hl:R0.length<=512)(hc:∀x∈l++[s],1<=x.c)(hs:jU (l++[s])<=bI R0)(h5:jU (l++[s])<=512)(hp:0<=s.p/\s.p<=2000000000000):
 Zp s (gj (l++[s]) R0) s.c.toNat s.p s.c (gj l R0).2 (gj l R0).1:=by
 have e:jU (l++[s])=jU l+s.c:=by rw[ir];show _+(s.c+0)=_;omega
 have ed:=hc s aj;obtain⟨i1,i2,i3,i4⟩:=UI l R0 (λx hx=>hc x (zb7 _ hx)) hb ab;have ea:gj (l++[s]) R0=((gj l R0).1++((Hp s.k s.c.toNat s.p s.c (gj l R0).2).1++[]),(Hp s.k s.c.toNat s.p s.c (gj l R0).2).2):=RW l [s] R0;rw[ea,zbf];exact⟨ab,rfl,rfl,i2,ab,ab,ab,ab⟩
def adJ{t:Rn}(i:Int):∀(l:List Rn) (p:Int),(∀r∈l,0<=r.n/\r.n<=1000000)→∀s∈gY t i p l,p<=s.p/\s.p<=p+1000000*(l.length:Int)
 |[],_,_,s,h=>by cases h
 |r::l,p,hb,s,h=>by
  have hr:=hb r aj;have e:((r::l).length:Int)=l.length+1:=aj;rw[e];rcases zaA.1 (show s∈NZ t i p r++gY t i (p+r.n) l from h)with h|h
  ·unfold NZ at h;split at h
   ·rename_i g;rw[zcS]at h;subst h;have:=g.2;simp only;omega
   ·cases h
  ·have:=adJ i l (p+r.n) (λx hx=>hb x iP) s h;omega
def acM{t:Rn}:∀(l:List At) (i:Int),(∀a∈l,a.rn.l.length<=1000000∧∀r∈a.rn.l,0<=r.n/\r.n<=1000000)→∀s∈gk t i l,0<=s.p/\s.p<=1000000000000
 |[],_,_,s,h=>by cases h
 |a::l,i,hb,s,h=>by
  obtain⟨h1,h2⟩:=hb a aj;rcases zaA.1 (show s∈gY t i 0 a.rn.l++gk t (i+1) l from h)with h|h
  ·have:=adJ i a.rn.l 0 h2 s h;omega
  ·exact acM l _ (λx hx=>hb x iP) s h
def ai9{v:Vo}(h:U1 v){t:Rn}(hp:uR v.d t):afW v t:=by
 obtain⟨h1,h2,h3,h4⟩:=h.n8;unfold uR at hp;refine⟨by have:=h.len;omega,λa ha=>?_,λa ha r hr=>?_,ab⟩
 ·have:=(bZ (bc (h.op a ha)).1.rn).1;omega
 ·have h5:=Bd (h.op a ha) r hr;have h6:=rG ((bZ (bc (h.op a ha)).1.rn).2.2.2 r hr);omega
def Y5{l m:List Sh}(h:(l.map λs=>[s.pv])=m.map λs=>[s.pv]):l=m:=
 (List.map_inj_right (f:=λs:Sh=>[s.pv]) (λx y e=>by
   cases x;cases y;simp only[Sh.pv,List.cons.injEq,PV.agg.injEq,PV.int.injEq,true_and,and_true]at e;obtain⟨rfl,rfl,rfl⟩:=e;rfl)).1 h
def Wd{l L:List Sh}{x:List PV}(h:(L.map λs=>[s.pv])[(l.map λs=>[s.pv]).length]?=some x)(hp:l<+:L):∃s,x=[s.pv]/\l++[s]<+:L:=by
 rw[zaw,za9]at h;cases hs:L[l.length]? with
 |none=>rw[hs]at h;cases h
 |some s=>
  rw[hs]at h;have h:=Option.some.inj h;refine⟨s,h.symm,?_⟩;obtain⟨m,rfl⟩:=hp;rw[zak (zai _),zcH]at hs;cases m with
  |nil=>cases hs
  |cons y m=>
   have hs:some y=some s:=hs;have:=Option.some.inj hs;subst this;exact⟨m,aj⟩
def acf(t r:Rn)(i p:Int):∀s∈NZ t i p r,1<=s.c:=by
 unfold NZ;split
 ·rename_i g;intro s hs;rw[zcS]at hs;subst hs;have:=g.2;simp only;omega
 ·intro s hs;cases hs
def Wa(t:Rn)(i:Int):∀(l:List Rn) (p:Int),∀s∈gY t i p l,1<=s.c
 |[],_,s,h=>by cases h
 |r::l,p,s,h=>by
  rcases zaA.1 (show s∈NZ t i p r++gY t i (p+r.n) l from h)with h|h
  ·exact acf t r i p s h
  ·exact Wa t i l _ s h
def Sw(t:Rn):∀(l:List At) (i:Int),∀s∈gk t i l,1<=s.c
 |[],_,s,h=>by cases h
 |a::l,i,s,h=>by
  rcases zaA.1 (show s∈gY t i 0 a.rn.l++gk t (i+1) l from h)with h|h
  ·exact Wa t i a.rn.l 0 s h
  ·exact Sw t l _ s h
def SA:∀{l:List Sh},(∀s∈l,1<=s.c)->(l.length:Int)<=jU l
 |[],_=>zdF _
 |s::l,h=>by
  have h1:=h s aj;have h2:=SA (l:=l) λx hx=>h x iP
  show((l.length+1:Nat):Int)<=s.c+jU l;omega
def aaC{v:Vo}(h:L1 v){t:Rn}(hp:uR v.d t){l:List Sh}(hl:l<+:gk t 0 v.st.l):0<=jU l/\jU l<=512/\(∀s∈l,1<=s.c):=by
 obtain⟨m,hm⟩:=hl;have Gq:=Sw t v.st.l 0;rw[<-hm]at Gq;have h1:=SA λs hs=>Gq s (zb7 m hs)
 have h2:=SA λs hs=>Gq s (zb5 l hs)
 have h3:=Yv h hp;rw[<-hm,ir]at h3;have h4:=IK v t t.n.toNat;have h5:v.d.n<=512:=(rX (P0 h.1 h.2).dk).2.1;unfold uR at hp;exact⟨ab,ab,λs hs=>Gq s (zb7 m hs)⟩
def Yn{v:Vo}{t:Rn}{LS l:List Sh}(e:gk t 0 v.st.l=LS)(hl:l<+:LS)(h:L1 v)(hp:uR v.d t):jU l<=jU LS:=by
 obtain⟨m,rfl⟩:=hl;rw[ir];have Gq:=Sw t v.st.l 0;rw[e]at Gq;have:=SA λs hs=>Gq s (zb5 l hs)
 omega
set_option maxHeartbeats 8000000 in
def Oq:MT (ay [(87,c8 false D2),(76,c8 true aeM),(103,bF ajL),(104,O_),(146,Jf),(78,ah ajs),(105,ah MO),(79,ah K3),(80,ah alV),(106,c8 false M1)]) Fj (c8 false OD):=by
 rintro _ K ⟨_,⟨v,t,rfl,h1,rfl⟩,hK⟩;have ho:D2 [v.pv,t.pv] _:=⟨v,t,rfl,h1,rfl⟩
 by_cases hE:IM v t=0
 case neg=>
  obtain⟨e1,e2⟩:=So hE;rw[e1,e2]at hK
  (repeat'((conv=>whnf);first|refine⟨_,ho,?_⟩|(refine au hE ?_)|refine bT ?_|fail))<;>try(conv=>whnf)
  exact⟨[.pv (.sl 4 []),.pv (pI _)],⟨rfl,rfl,trivial⟩,trivial,hK⟩
 have sM:wX v=0:=by
  apply Classical.byContradiction;intro g;unfold IM at hE;rw[if_pos g]at hE;exact g hE
 have hp:uR v.d t:=by
  apply Classical.byContradiction;intro g;unfold IM at hE;rw[if_neg (λh=>h sM),if_neg g]at hE;exact absurd hE ao
 have hk:=P0 h1 sM;have jB:=ai9 hk hp;have hd5:v.d.n<=512:=(rX hk.dk).2.1;have jg:=hp;unfold uR at jg;have aoA:aeM [v.pv,.clo 103 [.cptr t.pv]] (.fresh 37 2 ((Fi v t).map Rn.pv)):=⟨v,_,_,rfl,⟨hk,.out t jB.tb⟩,rfl⟩
 have hEE:V6 v t=if bI (Fi v t)<jU (gk t 0 v.st.l)then 16 else Im v (.sl (PH v t)):=by unfold V6;rw[if_neg (λg=>g hE)]
 have hrI:=RJ hk (t:=t);have vu:(Fi v t).length<=512:=by
  have:=(ah9 (aqZ v (LK t)) (cf v).length).2;have:=yx v;unfold Fi;omega
 have JL:ajs [.sl 2 ((Fi v t).map Rn.pv)] (pI (bI (Fi v t))):=⟨_,rfl,⟨ab,λr hr=>by have:=hrI.b r hr;omega⟩,rfl⟩
 have aah:=λ(l:List Sh) (h:l<+:gk t 0 v.st.l)=>aaC (v:=v) ⟨h1,sM⟩ hp h
 have c_:0<=bI (Fi v t)/\bI (Fi v t)<=512*512:=by
  have:=R3 (B:=512) (l:=Fi v t) λr hr=>by have:=hrI.b r hr;omega
  omega
 obtain⟨R0,hR0⟩:∃R0,Fi v t=R0:=⟨_,rfl⟩
 rw[hR0]at aoA JL hrI vu hEE c_;obtain⟨LS,hLS⟩:∃LS,gk t 0 v.st.l=LS:=⟨_,rfl⟩
 have hrB:rmB R0:=λr hr=>by have:=hrI.b r hr;omega
 have hLp:=acM (t:=t) v.st.l 0 λa ha=>⟨jB.rl a ha,λr hr=>(jB.rb a ha r hr).2⟩
 have kW:Y7 [.cptr v.pv,.cptr t.pv] (LS.map λ(s:Sh)=>[s.pv]):=⟨v,t,rfl,jB,by rw[hLS]⟩
 rw[hLS]at hEE aah
 (repeat'((conv=>whnf);first|refine⟨_,ho,?_⟩|(refine aw (λh=>h hE) ?_)|refine⟨_,aoA,?_⟩|refine⟨v,t,rfl,?_⟩|refine bT ?_|fail))<;>try(conv=>whnf)
 refine⟨LS.map λ(s:Sh)=>[s.pv],λpre σ=>∃l:List Sh,(pre=(l.map λ(s:Sh)=>[s.pv])/\l<+:LS)/\σ=[.box 26 [.pv (.str v.d.a_),.pv (.str v.d.mp),.pv (D4 v.st)],.fz (.cptr t.pv),.row 75 4 true [],.box 110 [.pv (.str v.d.a_),.pv (.str v.d.mp),.pv (D4 v.st)],.row 37 2 true (R0.map Rn.pv),.box 29 [.own 4],.box 3 [.pv (pI (jU l))]],kW,λx hx=>by obtain⟨_,_,rfl⟩:=zaX.1 hx;rfl,⟨rfl,[],⟨rfl,zdW⟩,rfl⟩,?_,?_⟩
 ·rintro pre x σ hx hnx ⟨l,⟨rfl,hl⟩,rfl⟩;obtain⟨s,rfl,LA⟩:=Wd hnx hl;have G1:=aah l hl;have t_:=aah _ LA;have ZI:jU (l++[s])=jU l+s.c:=by rw[ir];show _+(s.c+0)=_;omega
  rw[ZI]at t_
  (repeat'((conv=>whnf);first|refine bj ab ?_|refine bT ?_|fail))<;>try(conv=>whnf)
  exact⟨l++[s],⟨by rw[zbs];rfl,LA⟩,by rw[ZI]⟩
 rintro σ ⟨l,⟨pj,_⟩,rfl⟩;have:=Y5 pj;subst this;by_cases aU:bI R0<jU LS
 ·rw[if_pos aU]at hEE;have eL:V0 v t=[]:=by unfold V0;rw[if_pos (by rw[hEE];decide)]
  rw[hEE,eL]at hK
  (repeat'((conv=>whnf);first|refine⟨_,JL,?_⟩|refine au ab ?_|refine bT ?_|fail))<;>try(conv=>whnf)
  exact⟨[.pv (.sl 4 []),.pv (pI 16)],⟨rfl,rfl,trivial⟩,trivial,hK⟩
 rw[if_neg aU]at hEE
 (repeat'((conv=>whnf);first|refine⟨_,JL,?_⟩|refine aw ab ?_|refine⟨v,t,rfl,?_⟩|refine bT ?_|fail))<;>try(conv=>whnf)
 refine⟨LS.map λ(s:Sh)=>[s.pv],λpre σ=>∃l:List Sh,(pre=(l.map λ(s:Sh)=>[s.pv])/\l<+:LS)/\(((gj l R0).1=[]/\σ=[.box 26 [.pv (.str v.d.a_),.pv (.str v.d.mp),.pv (D4 v.st)],.fz (.cptr t.pv),.row 75 4 true [],.box 110 [.pv (.str v.d.a_),.pv (.str v.d.mp),.pv (D4 v.st)],.row 37 2 true ((gj l R0).2.map Rn.pv),.box 29 [.own 4],.box 3 [.pv (pI (jU LS))],.box 67 [.pv (.nil 4)]])\/σ=[.box 26 [.pv (.str v.d.a_),.pv (.str v.d.mp),.pv (D4 v.st)],.fz (.cptr t.pv),.row 75 4 true [],.box 110 [.pv (.str v.d.a_),.pv (.str v.d.mp),.pv (D4 v.st)],.row 37 2 true ((gj l R0).2.map Rn.pv),.box 29 [.own 4],.box 3 [.pv (pI (jU LS))],.box 67 [.own 8],.row 75 4 true ((gj l R0).1.map Mv.pv)]),kW,λx hx=>by obtain⟨_,_,rfl⟩:=zaX.1 hx;rfl,⟨rfl,[],⟨rfl,zdW⟩,.inl ⟨rfl,rfl⟩⟩,?_,?_⟩
 ·rintro pre x σ hx hnx ⟨l,⟨rfl,hl⟩,hσ⟩;obtain⟨s,rfl,LA⟩:=Wd hnx hl;obtain⟨b1,b2,b3⟩:=aah _ LA;have lk:=hLp s (by rw[<-hLS]at hx;obtain⟨x,vR,e⟩:=zaX.1 hx;cases x;cases s;simp only[Sh.pv,List.cons.injEq,PV.agg.injEq,PV.int.injEq,true_and,and_true]at e;obtain⟨rfl,rfl,rfl⟩:=e;exact vR);have hle:=Yn hLS LA ⟨h1,sM⟩ hp;have fM:Zp s (gj (l++[s]) R0) s.c.toNat s.p s.c (gj l R0).2 (gj l R0).1:=Zp.start hrB vu b3 ab b2 ab;rcases hσ with⟨hM,rfl⟩|rfl
  ·(repeat'((conv=>whnf);first|refine bT ?_|fail))<;>try(conv=>whnf)
   refine⟨λq env σ=>∃(f:Nat) (p c:Int) (R:List Rn) (M:List Mv),(q=c.toNat/\Zp s (gj (l++[s]) R0) f p c R M)/\((M=[]/\σ=[.box 26 [.pv (.str v.d.a_),.pv (.str v.d.mp),.pv (D4 v.st)],.fz (.cptr t.pv),.row 75 4 true [],.box 110 [.pv (.str v.d.a_),.pv (.str v.d.mp),.pv (D4 v.st)],.row 37 2 true (R.map Rn.pv),.box 29 [.own 4],.box 3 [.pv (pI (jU LS))],.box 67 [.pv (.nil 4)],.box 154 [.pv (pI s.k),.pv (pI p),.pv (pI c)]])\/σ=[.box 26 [.pv (.str v.d.a_),.pv (.str v.d.mp),.pv (D4 v.st)],.fz (.cptr t.pv),.row 75 4 true [],.box 110 [.pv (.str v.d.a_),.pv (.str v.d.mp),.pv (D4 v.st)],.row 37 2 true (R.map Rn.pv),.box 29 [.own 4],.box 3 [.pv (pI (jU LS))],.box 67 [.own 9],.box 154 [.pv (pI s.k),.pv (pI p),.pv (pI c)],.row 75 4 true (M.map Mv.pv)])/\env=[(8,.ref 5 0 0),(11,.ref 7 0 0),(12,.ref 8 0 0)],s.c.toNat,⟨_,_,_,_,_,⟨rfl,fM⟩,.inl ⟨hM,rfl⟩,rfl⟩,?_⟩;rintro q env σ ⟨f,p,c,R,M,⟨rfl,I⟩,hσ,rfl⟩;have hb:=I.b;have hlen:=I.len;have jF:=I.c0;have XJ:=I.ml;have e_:=I.pb;have hMm:(M.map Mv.pv).length=M.length:=zaw _;have hRm:(R.map Rn.pv).length=R.length:=zaw _;by_cases hc:0<c
   case neg=>
    obtain⟨e1,e2⟩:=I.stop hc;rcases hσ with⟨rfl,rfl⟩|rfl
    all_goals
     (repeat'((conv=>whnf);first|refine aw hc ?_|refine bT ?_|fail))<;>try(conv=>whnf)
     first
      |exact⟨l++[s],⟨by rw[zbs];rfl,LA⟩,.inl ⟨e1.symm,by rw[e2]⟩⟩
      |exact⟨l++[s],⟨by rw[zbs];rfl,LA⟩,.inr (by rw[e1,e2])⟩
   obtain⟨dI,Kt,f',J⟩:=I.step hc;have kj:K3 [.sl 2 (R.map Rn.pv),.clo 80 []] (dv R).pv:=by
    cases R with
    |nil=>exact absurd rfl dI
    |cons b r=>exact⟨b,r,rfl,by rw[zam]at hlen;omega,rfl⟩
   have yK:=sX dI;have XM:MO [.sl 2 (R.map Rn.pv),(dv R).pv] (pI (M4 R (dv R))):=⟨R,dv R,rfl,⟨yK,ab⟩,rfl⟩
   have hg:=dX (f:=Rn.pv) (tu yK);have iX:=(zaa.1 (tu yK)).1;have hpk:=hb _ yK;have gx:((R.map Rn.pv).set (M4 R (dv R)) (PV.agg [pI ((dv R).s+min c (dv R).n),pI (dv R).n])).set (M4 R (dv R)) (PV.agg [pI ((dv R).s+min c (dv R).n),pI ((dv R).n-min c (dv R).n)])=(Ng R (min c (dv R).n)).map Rn.pv:=by rw[zdP];exact(zc1 (f:=Rn.pv) (a:=⟨(dv R).s+min c (dv R).n,(dv R).n-min c (dv R).n⟩)).symm
   have mU:((R.map Rn.pv).set (M4 R (dv R)) (PV.agg [pI ((dv R).s+min c (dv R).n),pI (dv R).n]))[((M4 R (dv R):Nat):Int).toNat]?=some (PV.agg [pI ((dv R).s+min c (dv R).n),pI (dv R).n]):=by
    rw[zaC,zcm (by rw[hRm];exact iX)]
   have qH:((R.map Rn.pv).set (M4 R (dv R)) (PV.agg [pI ((dv R).s+min c (dv R).n),pI (dv R).n])).length=R.length:=by rw[za0,hRm]
   generalize hP:R.map Rn.pv=P at*;generalize dv R=k at*;generalize hI:M4 R k=ix at*;rcases hσ with⟨rfl,rfl⟩|rfl
   all_goals
    (repeat'((conv=>whnf);first|refine au hc ?_|refine⟨_,kj,?_⟩|refine⟨_,XM,?_⟩|refine zcd ⟨ab,ab⟩ ?_|refine⟨_,hg,?_⟩|refine⟨_,mU,?_⟩|refine zcd ⟨(by simp;first|done|fail),(by simp;first|done|fail)⟩ ?_|refine zcd ⟨by simp only[zad,zbM,hMm];omega,by simp only[zad,zbM,hMm];omega⟩ ?_|refine bj ab ?_|refine MIN ?_|refine bT ?_|refine zcd cu ?_|fail))<;>try(conv=>whnf)
    exact⟨(c-min c k.n).toNat,ab,f',_,_,_,_,⟨rfl,J⟩,.inr (by rw[<-gx,zbs];rfl),rfl⟩
  ·(repeat'((conv=>whnf);first|refine bT ?_|fail))<;>try(conv=>whnf)
   refine⟨λq env σ=>∃(f:Nat) (p c:Int) (R:List Rn) (M:List Mv),(q=c.toNat/\Zp s (gj (l++[s]) R0) f p c R M)/\(σ=[.box 26 [.pv (.str v.d.a_),.pv (.str v.d.mp),.pv (D4 v.st)],.fz (.cptr t.pv),.row 75 4 true [],.box 110 [.pv (.str v.d.a_),.pv (.str v.d.mp),.pv (D4 v.st)],.row 37 2 true (R.map Rn.pv),.box 29 [.own 4],.box 3 [.pv (pI (jU LS))],.box 67 [.own 8],.row 75 4 true (M.map Mv.pv),.box 154 [.pv (pI s.k),.pv (pI p),.pv (pI c)]]\/σ=[.box 26 [.pv (.str v.d.a_),.pv (.str v.d.mp),.pv (D4 v.st)],.fz (.cptr t.pv),.row 75 4 true [],.box 110 [.pv (.str v.d.a_),.pv (.str v.d.mp),.pv (D4 v.st)],.row 37 2 true (R.map Rn.pv),.box 29 [.own 4],.box 3 [.pv (pI (jU LS))],.box 67 [.own 10],.dead,.box 154 [.pv (pI s.k),.pv (pI p),.pv (pI c)],.row 75 4 true (M.map Mv.pv)])/\env=[(8,.ref 5 0 0),(11,.ref 7 0 0),(12,.ref 9 0 0)],s.c.toNat,⟨_,_,_,_,_,⟨rfl,fM⟩,.inl rfl,rfl⟩,?_⟩;rintro q env σ ⟨f,p,c,R,M,⟨rfl,I⟩,hσ,rfl⟩;have hb:=I.b;have hlen:=I.len;have jF:=I.c0;have XJ:=I.ml;have e_:=I.pb;have hMm:(M.map Mv.pv).length=M.length:=zaw _;have hRm:(R.map Rn.pv).length=R.length:=zaw _;by_cases hc:0<c
   case neg=>
    obtain⟨e1,e2⟩:=I.stop hc;rcases hσ with rfl|rfl
    all_goals
     (repeat'((conv=>whnf);first|refine aw hc ?_|refine bT ?_|fail))<;>try(conv=>whnf)
     first
      |exact⟨l++[s],⟨by rw[zbs];rfl,LA⟩,.inl ⟨e1.symm,by rw[e2]⟩⟩
      |exact⟨l++[s],⟨by rw[zbs];rfl,LA⟩,.inr (by rw[e1,e2])⟩
   obtain⟨dI,Kt,f',J⟩:=I.step hc;have kj:K3 [.sl 2 (R.map Rn.pv),.clo 80 []] (dv R).pv:=by
    cases R with
    |nil=>exact absurd rfl dI
    |cons b r=>exact⟨b,r,rfl,by rw[zam]at hlen;omega,rfl⟩
   have yK:=sX dI;have XM:MO [.sl 2 (R.map Rn.pv),(dv R).pv] (pI (M4 R (dv R))):=⟨R,dv R,rfl,⟨yK,ab⟩,rfl⟩
   have hg:=dX (f:=Rn.pv) (tu yK);have iX:=(zaa.1 (tu yK)).1;have hpk:=hb _ yK;have gx:((R.map Rn.pv).set (M4 R (dv R)) (PV.agg [pI ((dv R).s+min c (dv R).n),pI (dv R).n])).set (M4 R (dv R)) (PV.agg [pI ((dv R).s+min c (dv R).n),pI ((dv R).n-min c (dv R).n)])=(Ng R (min c (dv R).n)).map Rn.pv:=by rw[zdP];exact(zc1 (f:=Rn.pv) (a:=⟨(dv R).s+min c (dv R).n,(dv R).n-min c (dv R).n⟩)).symm
   have mU:((R.map Rn.pv).set (M4 R (dv R)) (PV.agg [pI ((dv R).s+min c (dv R).n),pI (dv R).n]))[((M4 R (dv R):Nat):Int).toNat]?=some (PV.agg [pI ((dv R).s+min c (dv R).n),pI (dv R).n]):=by
    rw[zaC,zcm (by rw[hRm];exact iX)]
   have qH:((R.map Rn.pv).set (M4 R (dv R)) (PV.agg [pI ((dv R).s+min c (dv R).n),pI (dv R).n])).length=R.length:=by rw[za0,hRm]
   generalize hP:R.map Rn.pv=P at*;generalize dv R=k at*;generalize hI:M4 R k=ix at*;rcases hσ with rfl|rfl
   all_goals
    (repeat'((conv=>whnf);first|refine au hc ?_|refine⟨_,kj,?_⟩|refine⟨_,XM,?_⟩|refine zcd ⟨ab,ab⟩ ?_|refine⟨_,hg,?_⟩|refine⟨_,mU,?_⟩|refine zcd ⟨by simp only[zad,zbM,hMm];omega,by simp only[zad,zbM,hMm];omega⟩ ?_|refine bj ab ?_|refine MIN ?_|refine bT ?_|refine zcd cu ?_|fail))<;>try(conv=>whnf)
    exact⟨(c-min c k.n).toNat,ab,f',_,_,_,_,⟨rfl,J⟩,.inr (by rw[<-gx,zbs];rfl),rfl⟩
 rintro σ ⟨l,⟨pj,_⟩,hσ⟩;have:=Y5 pj;subst this;have hcS:PH v t=(gj LS R0).1:=by unfold PH;rw[hLS,hR0]
 obtain⟨b1,b2,b3⟩:=aah LS (List.prefix_refl _);obtain⟨g1,g2,g3,g4⟩:=UI LS R0 b3 hrB ab;rw[hcS]at hEE;have hLL:V0 v t=if Im v (.sl (gj LS R0).1)≠0 then[]else(gj LS R0).1:=by unfold V0;rw[hEE,hcS]
 rw[hLL,hEE]at hK;have y9:=ar4 h1 sM;generalize (gj LS R0).2=RR at*;generalize (gj LS R0).1=MM at*;rcases hσ with⟨rfl,rfl⟩|rfl
 ·have PA:M1 [v.pv,.nil 4] (.tup [.pv (if Im v (.sl [])≠0 then .sl 4 []else .nil 4),.pv (pI (Im v (.sl [])))]):=⟨v,.nil,rfl,⟨y9,zbV _⟩,rfl⟩
  generalize Im v (.sl [])=e at*;by_cases he:e=0
  ·rw[if_neg (λg=>g he)]at PA hK
   (repeat'((conv=>whnf);first|refine⟨_,PA,?_⟩|fail))<;>try(conv=>whnf)
   exact⟨[.pv (.sl 4 []),.pv (pI _)],⟨Or.inr rfl,rfl,trivial⟩,trivial,hK⟩
  ·rw[if_pos he]at PA hK
   (repeat'((conv=>whnf);first|refine⟨_,PA,?_⟩|fail))<;>try(conv=>whnf)
   exact⟨[.pv (.sl 4 []),.pv (pI _)],⟨rfl,rfl,trivial⟩,trivial,hK⟩
 ·have PA:M1 [v.pv,.sl 4 (MM.map Mv.pv)] (.tup [.pv (if Im v (.sl MM)≠0 then .sl 4 []else .sl 4 (MM.map Mv.pv)),.pv (pI (Im v (.sl MM)))]):=⟨v,.sl MM,rfl,⟨y9,by show MM.length<=_;omega⟩,rfl⟩
  have e:(if Im v (.sl MM)≠0 then PV.sl 4 []else .sl 4 (MM.map Mv.pv))=.sl 4 ((if Im v (.sl MM)≠0 then[]else MM).map Mv.pv):=by split<;>rfl
  rw[e]at PA
  (repeat'((conv=>whnf);first|refine⟨_,PA,?_⟩|fail))<;>try(conv=>whnf)
  exact⟨[.pv (.sl 4 _),.pv (pI _)],⟨rfl,rfl,trivial⟩,trivial,hK⟩
def aea:∀xs,xS [kG,JX] xs->(ah Pj).run xs λr=>r=.pv (.bool true):=λxs h=>by
 simp only[xS]at h;obtain⟨y,_,rfl,h1,_,w,_,rfl,h4,_,rfl⟩:=h;obtain⟨v,rfl⟩:=ajp (h1 trivial);obtain⟨t,rfl⟩:=Jh (h4 trivial);exact⟨_,⟨v,t,rfl,rfl⟩,rfl⟩
def dQ(lone:Bool)(R:List PV->RV->Prop):ajo (c8 lone R):=⟨λe=>cz,λ_ _ h=>h,rfl⟩
def apT:ajo BX:=by
 refine⟨λ_=>⟨rfl,λps K h=>?_⟩,λ_ _ h=>h,rfl⟩;obtain⟨a,b,rfl,h1,h2⟩:=h;by_cases ha:a=0
 ·exact⟨pI b,h2 ha,λK' h=>⟨a,b,rfl,λh'=>absurd ha h',λ_=>h⟩⟩
 ·exact⟨pI a,h1 ha,λK' h=>⟨a,b,rfl,λ_=>h,λh'=>absurd h' ha⟩⟩
def SN:MT (ay []) RZ (ah gB):=kS
def rQ:bU bb 293 (ah jj):=Qi.sound mixed aq (ax _) (by rintro _ _ ⟨_,⟨_,rfl,_⟩,_⟩;rfl) Kv
def th:bU bb 276 (ah jj):=Wl.sound mixed (aaB rQ aq) (ax _) (by rintro _ _ ⟨_,⟨_,rfl,_⟩,_⟩;rfl) No
def fJ:bU bb 260 (ah rU):=Ul.sound mixed (aaB th aq) (ax _) (by rintro _ _ ⟨_,⟨_,rfl,_⟩,_⟩;rfl) Ki
def ja:bU bb 295 (ah fF):=Ov.sound mixed (aaB fJ aq) (ax _) (by rintro _ _ ⟨_,⟨_,rfl,_⟩,_⟩;rfl) Hr
def rP:bU bb 294 (ah jl):=Q7.sound mixed aq (ax _) (by rintro _ _ ⟨_,⟨_,_,_,rfl,_⟩,_⟩;rfl) IT
def eZ:bU bb 239 (ah l5):=Rh.sound mixed aq (ax _) (by rintro _ _ ⟨_,⟨_,_,rfl,_⟩,_⟩;rfl) IX
def kL:bU bb 238 (ah qZ):=Tz.sound mixed aq (ax _) (by rintro _ _ ⟨_,⟨_,rfl,_⟩,_⟩;rfl) JC
def dz:bU bb 263 (ah cm):=My.sound mixed aq (ax _) (by rintro _ _ ⟨_,⟨_,rfl,_⟩,_⟩;rfl) Ku
def c7:bU bb 261 (ah dW):=WK.sound mixed (aaB dz aq) (ax _) (by rintro _ _ ⟨_,⟨_,rfl,_⟩,_⟩;rfl) MP
def vD:bU bb 277 (ah wY):=MA.sound mixed (aaB dz (aaB eZ (aaB kL (aaB rP (aaB ja (aaB c7 aq)))))) (ax _) (by rintro _ _ ⟨_,⟨_,_,rfl,_⟩,_⟩;rfl) Zl
def q8:bU bb 262 oZ:=GU.sound mixed (aaB vD (aaB c7 aq)) (azL _ _) (by rintro _ _ ⟨_,rfl,_⟩;rfl) Qo
def vG:bU bb 241 tf:=M3.sound mixed (aaB dz aq) (azL _ _) (by rintro _ _ ⟨_,rfl,_⟩;rfl) Y2
def pF:bU bb 259 (ah P5):=Si.sound mixed aq (ax _) (by rintro _ _ ⟨_,⟨_,rfl,_⟩,_⟩;rfl) ae4
def Aq:bU bb 237 abr:=RH.sound mixed (aaB pF (aaB eZ aq)) (azL _ _) (by rintro _ _ ⟨_,_,rfl,_⟩;rfl) afO
def yC:bU bb 240 S4:=QZ.sound mixed (aaB fJ (aaB pF (aaB c7 (aaB q8 aq)))) (azL _ _) (by rintro _ _ ⟨_,rfl,_⟩;rfl) afI
def we:bU bb 97 (ah Xs):=Qc.sound mixed aq (ax _) (by rintro _ _ ⟨_,⟨_,rfl,_⟩,_⟩;rfl) akb
def mA:bU bb 242 (ah GS):=MR.sound mixed aq (ax _) (by rintro _ _ ⟨_,⟨_,rfl,_⟩,_⟩;rfl) YU
def uP:bU bb 170 (ah lz):=Iz.sound mixed aq (ax _) (by rintro _ _ ⟨_,⟨_,_,_,rfl,_⟩,_⟩;rfl) M7
def ej:bU bb 172 (ah jw):=Vz.sound mixed aq (ax _) (by rintro _ _ ⟨_,⟨_,_,rfl,_⟩,_⟩;rfl) Nc
def gi:bU bb 129 (ah jQ):=ag5.sound mixed aq (ax _) (by rintro _ _ ⟨_,⟨_,rfl,_⟩,_⟩;rfl) Te
def vS:bU bb 171 (ah ae6):=acL.sound mixed aq (ax _) (by rintro _ _ ⟨_,⟨_,rfl,_⟩,_⟩;rfl) amE
def nU:bU bb 125 (ah HN):=JV.sound mixed (aaB uP (aaB vS (aaB ej aq))) (ax _) (by rintro _ _ ⟨_,⟨_,_,rfl,_⟩,_⟩;rfl) PQ
def lq:bU bb 170 (bF bG):=Iz.sound mixed aq (b_ _) (by rintro _ _ ⟨_,⟨_,_,_,rfl,_⟩,_⟩;rfl) acU
def bw:bU bb 32 (bF bG):=DQ.sound mixed aq (b_ _) (by rintro _ _ ⟨_,⟨_,_,_,rfl,_⟩,_⟩;rfl) acX
def rZ:bU bb 175 (ah awJ):=Pr.sound mixed aq (ax _) (by rintro _ _ ⟨_,⟨_,_,_,rfl,_⟩,_⟩;rfl) as7
def wg:bU bb 173 afd:=acs.sound mixed (aaB nU aq) (azL _ _) (by rintro _ _ ⟨_,_,rfl,_⟩;rfl) alR
def dN:bU bb 174 BX:=Yw.sound mixed aq apT (by rintro _ _ ⟨_,_,rfl,_⟩;rfl) agS
def tO:bU bb 126 XF:=X7.sound mixed (aaB wg (aaB dN (aaB ej (aaB lq (aaB rZ aq))))) (azL _ _) (by rintro _ _ ⟨_,_,_,rfl,_⟩;rfl) ahs
def Gl:bU bb 182 agu:=ZZ.sound mixed (aaB lq (aaB vS aq)) (azL _ _) (by rintro _ _ ⟨_,rfl,_⟩;rfl) aip
def vC:bU bb 201 JN:=Pg.sound mixed (aaB Gl aq) (azL _ _) (by rintro _ _ ⟨_,rfl,_⟩;rfl) V4
def s8:bU bb 227 Sn:=DK.sound mixed aq (azL _ _) (by rintro _ _ ⟨_,_,rfl,_⟩;rfl) agM
def ua:bU bb 195 ah2:=Ac.sound mixed (aaB s8 aq) (azL _ _) (by rintro _ _ ⟨_,_,rfl,_⟩;rfl) VP
def En:bU bb 181 (ah afu):=VK.sound mixed aq (ax _) (by rintro _ _ ⟨_,⟨_,rfl,_⟩,_⟩;rfl) ahJ
def yA:bU bb 128 (ah Ts):=Q_.sound mixed (aaB En aq) (ax _) (by rintro _ _ ⟨_,⟨_,_,rfl,_⟩,_⟩;rfl) adf
def kB:bU bb 148 (ah gB):=QM.sound mixed aq (ax _) (by rintro _ _ ⟨_,⟨_,rfl,_⟩,_⟩;rfl) kS
def Hz:bU bb 243 (ah gB):=adw.sound mixed aq (ax _) (by rintro _ _ ⟨_,⟨_,rfl,_⟩,_⟩;rfl) Qv
def fA:bU bb 149 (ah dG):=OP.sound mixed aq (ax _) (by rintro _ _ ⟨_,⟨_,_,rfl,_⟩,_⟩;rfl) jP
def D9:bU bb 244 (ah dG):=ZC.sound mixed aq (ax _) (by rintro _ _ ⟨_,⟨_,_,rfl,_⟩,_⟩;rfl) OQ
def jo:bU bb 229 (ah dG):=ac9.sound mixed aq (ax _) (by rintro _ _ ⟨_,⟨_,_,rfl,_⟩,_⟩;rfl) RG
def oK:bU bb 152 (bF bG):=OM.sound mixed aq (b_ _) (by rintro _ _ ⟨_,⟨_,_,_,rfl,_⟩,_⟩;rfl) uL
def nr:bU bb 230 (bF bG):=acA.sound mixed aq (b_ _) (by rintro _ _ ⟨_,⟨_,_,_,rfl,_⟩,_⟩;rfl) Sd
def fT:bU bb 233 (bF BJ):=acP.sound mixed aq (b_ _) (by rintro _ _ ⟨_,⟨_,rfl,_⟩,_⟩;rfl) ae1
def Ae:bU bb 246 (ah Ph):=Wh.sound mixed (aaB fT (aaB nr (aaB jo aq))) (ax _) (by rintro _ _ ⟨_,⟨_,rfl,_⟩,_⟩;rfl) Yf
def vV:bU bb 247 (bF Ab):=agd.sound mixed (aaB fT aq) (b_ _) (by rintro _ _ ⟨_,⟨_,_,rfl,_⟩,_⟩;rfl) akf
def sE:bU bb 248 (sB ag6):=Th.rJ mixed (aaB fT aq) (by rintro _ _ _ ⟨_,_,_,rfl,_⟩;rfl) al1
def jr:bU bb 197 (ah iu):=ac8.sound mixed aq (ax _) (by rintro _ _ ⟨_,⟨_,rfl,_⟩,_⟩;rfl) agW
def tE:bU bb 208 (c8 true aae):=TO.sound mixed (aaB Ae (aaB vV (aaB sE (aaB jr (aaB jo aq))))) (dQ _ _) (by rintro _ _ ⟨_,⟨_,rfl,_⟩,_⟩;rfl) Wc
def vk:bU bb 83 (bF YX):=alj.sound mixed aq (b_ _) (by rintro _ _ ⟨_,⟨_,_,rfl,_⟩,_⟩;rfl) aqO
def j_:bU bb 137 (ah M0):=CX.sound mixed aq (ax _) (by rintro _ _ ⟨_,⟨_,_,rfl,_⟩,_⟩;rfl) afU
def FP:bU bb 249 (ah aaw):=acK.sound mixed (aaB nr aq) (ax _) (by rintro _ _ ⟨_,⟨_,rfl,_⟩,_⟩;rfl) afr
def FM:bU bb 250 (c8 true Z0):=adl.sound mixed aq (dQ _ _) (by rintro _ _ ⟨_,⟨_,_,rfl,_⟩,_⟩;rfl) agJ
def lu:bU bb 196 (ah wB):=aaM.sound mixed (aaB tE aq) (ax _) (by rintro _ _ ⟨_,⟨_,rfl,_⟩,_⟩;rfl) ac2
def vL:bU bb 210 (c8 true G7):=QA.sound mixed (aaB lu (aaB fT (aaB FP (aaB FM aq)))) (dQ _ _) (by rintro _ _ ⟨_,⟨_,rfl,_⟩,_⟩;rfl) Uu
def nF:bU bb 281 (bF AM):=uY.sound mixed aq (b_ _) (by rintro _ _ ⟨_,⟨_,_,rfl,_⟩,_⟩;rfl) Uk
def wF:bU bb 266 (bF AM):=MN.sound mixed (aaB nF aq) (b_ _) (by rintro _ _ ⟨_,⟨_,_,rfl,_⟩,_⟩;rfl) Wt
def fj:bU bb 209 (ah xr):=Js.sound mixed aq (ax _) (by rintro _ _ ⟨_,⟨_,rfl,_⟩,_⟩;rfl) Ro
def tU:bU bb 153 (ah E9):=EF.sound mixed (aaB fA (aaB kB aq)) (ax _) (by rintro _ _ ⟨_,⟨_,rfl,_⟩,_⟩;rfl) afP
def FN:bU bb 213 (sB agl):=Wz.rJ mixed aq (by rintro _ _ _ ⟨_,_,_,_,rfl,_⟩;rfl) als
def Ai:bU bb 211 (ah Tj):=TG.sound mixed aq (ax _) (by rintro _ _ ⟨_,⟨_,_,rfl,_⟩,_⟩;rfl) acG
def wN:bU bb 212 (ah Uo):=MJ.sound mixed aq (ax _) (by rintro _ _ ⟨_,⟨_,_,rfl,_⟩,_⟩;rfl) adm
def Ak:bU bb 155 (ah Tp):=MZ.sound mixed (aaB vL (aaB Ai (aaB wN (aaB FN (aaB fj aq))))) (ax _) (by rintro _ _ ⟨_,⟨_,rfl,_⟩,_⟩;rfl) ac6
def lR:bU bb 107 (ah Ci):=UO.sound mixed aq (ax _) (by rintro _ _ ⟨_,⟨_,rfl,_⟩,_⟩;rfl) CI
def bY:bU bb 111 (ah gB):=agP.sound mixed aq (ax _) (by rintro _ _ ⟨_,⟨_,rfl,_⟩,_⟩;rfl) Pc
def bL:bU bb 113 (ah dG):=VM.sound mixed aq (ax _) (by rintro _ _ ⟨_,⟨_,_,rfl,_⟩,_⟩;rfl) MW
def ri:bU bb 193 (bF bG):=VT.sound mixed aq (b_ _) (by rintro _ _ ⟨_,⟨_,_,_,rfl,_⟩,_⟩;rfl) MU
def dw:bU bb 115 (bF GM):=VF.sound mixed aq (b_ _) (by rintro _ _ ⟨_,⟨_,rfl,_⟩,_⟩;rfl) ML
def d_:bU bb 124 (ah bA):=MV.sound mixed aq (ax _) (by rintro _ _ ⟨_,⟨_,rfl,_⟩,_⟩;rfl) Gg
def Dx:bU bb 218 (ah K4):=WM.sound mixed aq (ax _) (by rintro _ _ ⟨_,⟨_,_,rfl,_⟩,_⟩;rfl) Nf
def kz:bU bb 220 (bF K7):=Eh.sound mixed aq (b_ _) (by rintro _ _ ⟨_,⟨_,rfl,_⟩,_⟩;rfl) IV
def cS:bU bb 179 (bF oA):=yF.sound mixed aq (b_ _) (by rintro _ _ ⟨_,⟨_,rfl,_⟩,_⟩;rfl) CC
def fI:bU bb 143 (ah AN):=Fk.sound mixed aq (ax _) (by rintro _ _ ⟨_,⟨_,_,rfl,_⟩,_⟩;rfl) JG
def lS:bU bb 204 (ah QP):=HP.sound mixed (aaB fI aq) (ax _) (by rintro _ _ ⟨_,⟨_,_,rfl,_⟩,_⟩;rfl) MB
def lf:bU bb 194 (ah Uc):=acJ.sound mixed (aaB dw aq) (ax _) (by rintro _ _ ⟨_,⟨_,rfl,_⟩,_⟩;rfl) Rp
def jb:bU bb 114 (c8 false dL):=QY.sound mixed aq (dQ _ _) (by rintro _ _ ⟨_,⟨_,rfl,_⟩,_⟩;rfl) IQ
def lN:bU bb 219 (ah Sx):=GF.sound mixed aq (ax _) (by rintro _ _ ⟨_,⟨_,_,rfl,_⟩,_⟩;rfl) agq
def fV:bU bb 217 (bF uy):=yM.sound mixed aq (b_ _) (by rintro _ _ ⟨_,⟨_,_,rfl,_⟩,_⟩;rfl) Pp
def qX:bU bb 133 (ah Tm):=Cq.sound mixed (aaB fV aq) (ax _) (by rintro _ _ ⟨_,⟨_,_,rfl,_⟩,_⟩;rfl) adk
def nH:bU bb 88 (bF Hj):=ya.sound mixed (aaB qX aq) (b_ _) (by rintro _ _ ⟨_,⟨_,_,rfl,_⟩,_⟩;rfl) SU
def jn:bU bb 142 (c8 true xj):=Zs.sound mixed (aaB d_ (aaB tO aq)) (dQ _ _) (by rintro _ _ ⟨_,⟨_,rfl,_⟩,_⟩;rfl) ajH
def jt:bU bb 144 (ah Mn):=aa6.sound mixed (aaB vC aq) (ax _) (by rintro _ _ ⟨_,⟨_,rfl,_⟩,_⟩;rfl) ajC
def qC:bU bb 177 (ah Lb):=CD.sound mixed (aaB d_ (aaB nH (aaB fV (aaB dw (aaB tO aq))))) (ax _) (by rintro _ _ ⟨_,⟨_,rfl,_⟩,_⟩;rfl) V_
def mq:bU bb 67 (ah dm):=Pw.sound mixed (aaB bL (aaB d_ (aaB nU (aaB bY aq)))) (ax _) (by rintro _ _ ⟨_,⟨_,rfl,_⟩,_⟩;rfl) Wy
def gC:bU bb 135 (c8 true YI):=jS.sound mixed aq (dQ _ _) (by rintro _ _ ⟨_,⟨_,rfl,_⟩,_⟩;rfl) aga
def eP:bU bb 195 (bF Ji):=Ac.sound mixed (aaB s8 aq) (b_ _) (by rintro _ _ ⟨_,⟨_,_,rfl,_⟩,_⟩;rfl) T6
def sY:bU bb 140 (ah Mk):=EH.sound mixed (aaB d_ (aaB ri (aaB bL (aaB bY (aaB jn (aaB lf (aaB eP aq))))))) (ax _) (by rintro _ _ ⟨_,⟨_,_,_,rfl,_⟩,_⟩;rfl) acp
def GA:bU bb 256 (sB arH):=Wn.rJ mixed (aaB vV aq) (by rintro _ _ _ ⟨_,_,rfl,_⟩;rfl) aqm
def y6:bU bb 231 (sB abp):=Pu.rJ mixed (aaB GA aq) (by rintro _ _ _ ⟨_,_,_,rfl,_⟩;rfl) agx
def Nn:bU bb 200 (c8 true YT):=ail.sound mixed (aaB fT aq) (dQ _ _) (by rintro _ _ ⟨_,⟨_,_,_,rfl,_⟩,_⟩;rfl) alA
def yp:bU bb 116 (c8 true Hv):=VZ.sound mixed aq (dQ _ _) (by rintro _ _ ⟨_,⟨_,rfl,_⟩,_⟩;rfl) Tv
def bo:bU bb 55 (c8 false dK):=Jn.sound mixed (aaB yp aq) (dQ _ _) (by rintro _ _ ⟨_,⟨_,rfl,_⟩,_⟩;rfl) acO
def nN:bU bb 18 (bF jW):=V8.sound mixed aq (b_ _) (by rintro _ _ ⟨_,⟨_,_,rfl,_⟩,_⟩;rfl) T0
def Bl:bU bb 138 (bF OO):=JT.sound mixed (aaB nN aq) (b_ _) (by rintro _ _ ⟨_,⟨_,_,rfl,_⟩,_⟩;rfl) aiS
def jy:bU bb 66 (ah gB):=ahj.sound mixed aq (ax _) (by rintro _ _ ⟨_,⟨_,rfl,_⟩,_⟩;rfl) Y1
def dj:bU bb 68 (ah dG):=agB.sound mixed aq (ax _) (by rintro _ _ ⟨_,⟨_,_,rfl,_⟩,_⟩;rfl) YD
def dT:bU bb 92 (bF bG):=af0.sound mixed aq (b_ _) (by rintro _ _ ⟨_,⟨_,_,_,rfl,_⟩,_⟩;rfl) YM
def fU:bU bb 86 (ah bA):=acy.sound mixed aq (ax _) (by rintro _ _ ⟨_,⟨_,rfl,_⟩,_⟩;rfl) SM
def vE:bU bb 132 (bF Er):=Hm.sound mixed (aaB fU (aaB dT aq)) (b_ _) (by rintro _ _ ⟨_,⟨_,_,rfl,_⟩,_⟩;rfl) Ir
def AA:bU bb 69 (c8 true UL):=aj1.sound mixed (aaB fU (aaB tO aq)) (dQ _ _) (by rintro _ _ ⟨_,⟨_,rfl,_⟩,_⟩;rfl) ac3
def y5:bU bb 73 (sB afc):=ahn.rJ mixed aq (by rintro _ _ _ ⟨_,_,_,rfl,_⟩;rfl) amG
def oy:bU bb 75 (c8 true HB):=Q5.sound mixed (aaB AA (aaB y5 aq)) (dQ _ _) (by rintro _ _ ⟨_,⟨_,rfl,_⟩,_⟩;rfl) ajZ
def Vg:bU bb 78 (ah ajs):=anc.sound mixed aq (ax _) (by rintro _ _ ⟨_,⟨_,rfl,_⟩,_⟩;rfl) aoW
def pg:bU bb 64 (c8 true H7):=QO.sound mixed aq (dQ _ _) (by rintro _ _ ⟨_,⟨_,_,_,rfl,_⟩,_⟩;rfl) afX
def yY:bU bb 77 (bF amX):=acz.sound mixed aq (b_ _) (by rintro _ _ ⟨_,⟨_,rfl,_⟩,_⟩;rfl) agR
def D1:bU bb 103 (bF ajL):=SK.sound mixed (aaB dT aq) (b_ _) (by rintro _ _ ⟨_,⟨_,_,rfl,_⟩,_⟩;rfl) XI
def DU:bU bb 76 (c8 true aeM):=VX.sound mixed (aaB oy (aaB yY (aaB D1 aq))) (dQ _ _) (by rintro _ _ ⟨_,⟨_,_,_,rfl,_⟩,_⟩;rfl) akP
def bx:bU bb 134 (c8 false Np):=iH.sound mixed aq (dQ _ _) (by rintro _ _ ⟨_,⟨_,rfl,_⟩,_⟩;rfl) ajh
def mQ:bU bb 100 (c8 false GC):=VD.sound mixed (aaB bx aq) (dQ _ _) (by rintro _ _ ⟨_,⟨_,_,_,_,rfl,_⟩,_⟩;rfl) amd
def iQ:bU bb 90 (c8 false Ks):=Xz.sound mixed (aaB bx (aaB gC aq)) (dQ _ _) (by rintro _ _ ⟨_,⟨_,rfl,_⟩,_⟩;rfl) aoy
def sJ:bU bb 53 (c8 true BU):=aj2.sound mixed aq (dQ _ _) (by rintro _ _ ⟨_,⟨_,rfl,_⟩,_⟩;rfl) akp
def Pq:bU bb 81 (ah aeN):=ahe.sound mixed (aaB sJ (aaB vk aq)) (ax _) (by rintro _ _ ⟨_,⟨_,rfl,_⟩,_⟩;rfl) alF
def Q6:bU bb 46 (bF aeY):=akr.sound mixed aq (b_ _) (by rintro _ _ ⟨_,⟨_,_,rfl,_⟩,_⟩;rfl) amT
def zP:bU bb 96 (bF ZT):=Qn.sound mixed (aaB Bl aq) (b_ _) (by rintro _ _ ⟨_,⟨_,_,rfl,_⟩,_⟩;rfl) aji
def zV:bU bb 65 (c8 false aa7):=QD.sound mixed (aaB bo aq) (dQ _ _) (by rintro _ _ ⟨_,⟨_,rfl,_⟩,_⟩;rfl) aky
def er:bU bb 15 (c8 false qM):=aj6.sound mixed (aaB zV aq) (dQ _ _) (by rintro _ _ ⟨_,⟨_,rfl,_⟩,_⟩;rfl) alu
def Aa:bU bb 34 (bF Uq):=ajw.sound mixed (aaB zP aq) (b_ _) (by rintro _ _ ⟨_,⟨_,_,rfl,_⟩,_⟩;rfl) am9
def rO:bU bb 31 (ah bA):=acr.sound mixed aq (ax _) (by rintro _ _ ⟨_,⟨_,rfl,_⟩,_⟩;rfl) acj
def x7:bU bb 82 (bF NK):=agI.sound mixed (aaB gi aq) (b_ _) (by rintro _ _ ⟨_,⟨_,_,rfl,_⟩,_⟩;rfl) akm
def lT:bU bb 94 (c8 true A4):=Dn.sound mixed (aaB rO (aaB x7 aq)) (dQ _ _) (by rintro _ _ ⟨_,⟨_,rfl,_⟩,_⟩;rfl) C2
def ID:bU bb 25 (c8 true NY):=agX.sound mixed (aaB rO (aaB x7 (aaB sJ (aaB vk aq)))) (dQ _ _) (by rintro _ _ ⟨_,⟨_,rfl,_⟩,_⟩;rfl) agb
def An:bU bb 19 (c8 true A3):=ag8.sound mixed (aaB sJ aq) (dQ _ _) (by rintro _ _ ⟨_,⟨_,rfl,_⟩,_⟩;rfl) afz
def N1:bU bb 84 (c8 true abT):=akE.sound mixed (aaB rO (aaB x7 aq)) (dQ _ _) (by rintro _ _ ⟨_,⟨_,rfl,_⟩,_⟩;rfl) akJ
def vv:bU bb 183 (sB aps):=VC.rJ mixed aq (by rintro _ _ _ ⟨_,_,_,_,_,rfl,_⟩;rfl) arj
def G0:bU bb 130 adt:=ac7.sound mixed (aaB wg (aaB Gl (aaB rZ (aaB vv aq)))) (azL _ _) (by rintro _ _ ⟨_,_,_,rfl,_⟩;rfl) ag2
def yS:bU bb 80 (ah alV):=acw.sound mixed (aaB yA aq) (ax _) (by rintro _ _ ⟨_,⟨_,_,rfl,_⟩,_⟩;rfl) aq_
def iK:bU bb 79 aoV:=mC.sound mixed (aaB yS aq) (azL _ _) (by rintro _ _ ⟨_,_,rfl,_⟩;rfl) ao1
def KT:bU bb 26 (c8 true Ty):=ahg.sound mixed (aaB An (aaB N1 aq)) (dQ _ _) (by rintro _ _ ⟨_,⟨_,rfl,_⟩,_⟩;rfl) ahk
def Bj:bU bb 36 (ah gp):=F2.sound mixed (aaB rO (aaB bw aq)) (ax _) (by rintro _ _ ⟨_,⟨_,_,rfl,_⟩,_⟩;rfl) Hw
def sR:bU bb 13 (bF Wr):=amU.sound mixed aq (b_ _) (by rintro _ _ ⟨_,⟨_,rfl,_⟩,_⟩;rfl) aqF
def adH:bU bb 17 (ah adG):=acF.sound mixed (aaB bw aq) (ax _) (by rintro _ _ ⟨_,⟨_,_,rfl,_⟩,_⟩;rfl) aq2
def xK:bU bb 226 XZ:=Ni.sound mixed (aaB lq (aaB ua aq)) (azL _ _) (by rintro _ _ ⟨_,_,_,rfl,_⟩;rfl) agy
def GQ:bU bb 190 (sB aov):=Wf.rJ mixed (aaB xK (aaB rZ (aaB vv aq))) (by rintro _ _ _ ⟨_,_,_,_,_,rfl,_⟩;rfl) aoG
def Dp:bU bb 136 Ye:=acn.sound mixed (aaB wg (aaB GQ aq)) (azL _ _) (by rintro _ _ ⟨_,_,_,_,rfl,_⟩;rfl) agw
def Hf:bU bb 93 (c8 true Pf):=ad7.sound mixed (aaB Dp aq) (dQ _ _) (by rintro _ _ ⟨_,⟨_,_,_,rfl,_⟩,_⟩;rfl) ag1
def Bo:bU bb 30 (bF acq):=ai0.sound mixed (aaB Aa aq) (b_ _) (by rintro _ _ ⟨_,⟨_,rfl,_⟩,_⟩;rfl) aob
def Oa:bU bb 62 (c8 false akG):=afS.sound mixed (aaB we aq) (dQ _ _) (by rintro _ _ ⟨_,⟨rfl,_⟩,_⟩;rfl) an0
def fG:bU bb 95 (ah kx):=Gc.sound mixed (aaB lR (aaB gi (aaB j_ aq))) (ax _) (by rintro _ _ ⟨_,⟨_,rfl,_⟩,_⟩;rfl) O3
def y1:bU bb 33 (c8 false KO):=Gb.sound mixed (aaB lT (aaB er (aaB fG aq))) (dQ _ _) (by rintro _ _ ⟨_,⟨_,_,_,rfl,_⟩,_⟩;rfl) Iq
def v7:bU bb 48 (ah DT):=Gv.sound mixed (aaB ID (aaB lR aq)) (ax _) (by rintro _ _ ⟨_,⟨_,_,rfl,_⟩,_⟩;rfl) H5
def sy:bU bb 37 (c8 false zU):=Gy.sound mixed (aaB v7 (aaB lT (aaB er (aaB fG aq)))) (dQ _ _) (by rintro _ _ ⟨_,⟨_,_,rfl,_⟩,_⟩;rfl) Hx
def ij:bU bb 89 (bF F9):=CP.sound mixed aq (b_ _) (by rintro _ _ ⟨_,⟨_,rfl,_⟩,_⟩;rfl) DO
def gM:bU bb 91 (bF F6):=C9.sound mixed (aaB dT aq) (b_ _) (by rintro _ _ ⟨_,⟨_,_,rfl,_⟩,_⟩;rfl) DM
def fW:bU bb 133 (ah Io):=Cq.sound mixed (aaB ij aq) (ax _) (by rintro _ _ ⟨_,⟨_,rfl,_⟩,_⟩;rfl) T_
def fi:bU bb 88 (bF F5):=ya.sound mixed (aaB fW aq) (b_ _) (by rintro _ _ ⟨_,⟨_,rfl,_⟩,_⟩;rfl) It
def nG:bU bb 76 (c8 true DW):=VX.sound mixed (aaB oy (aaB gM aq)) (dQ _ _) (by rintro _ _ ⟨_,⟨_,_,rfl,_⟩,_⟩;rfl) H6
def y7:bU bb 49 (ah K_):=NL.sound mixed (aaB ID (aaB bw (aaB lR aq))) (ax _) (by rintro _ _ ⟨_,⟨_,_,rfl,_⟩,_⟩;rfl) Qp
def Av:bU bb 50 (ah Ln):=NP.sound mixed (aaB sy (aaB N1 aq)) (ax _) (by rintro _ _ ⟨_,⟨_,_,rfl,_⟩,_⟩;rfl) Qq
def dM:bU bb 105 (ah MO):=eX.sound mixed aq (ax _) (by rintro _ _ ⟨_,⟨_,_,rfl,_⟩,_⟩;rfl) Tr
def dE:bU bb 79 (ah K3):=mC.sound mixed (aaB yS aq) (ax _) (by rintro _ _ ⟨_,⟨_,_,rfl,_⟩,_⟩;rfl) SQ
def vU:bU bb 228 (ah gB):=afb.sound mixed aq (ax _) (by rintro _ _ ⟨_,⟨_,rfl,_⟩,_⟩;rfl) SN
def pQ:bU bb 131 (ah Lo):=aqk
def mH:bU bb 297 (ah qc):=af6
def jJ:bU bb 258 L7:=alX aq
def qk:bU bb 206 (c8 true Xi):=aus
def eD:bU bb 146 Jf:=T3 aq
def vB:bU bb 235 aeV:=Hi.sound mixed (aaB jJ aq) (azL _ _) (by rintro _ _ ⟨_,rfl,_⟩;rfl) ahK
def tX:bU bb 257 auV:=Bs.sound mixed (aaB jJ aq) (azL _ _) (by rintro _ _ ⟨_,rfl,_⟩;rfl) VJ
def vM:bU bb 234 Ti:=Km.sound mixed (aaB tX aq) (azL _ _) (by rintro _ _ ⟨_,rfl,_⟩;rfl) acY
def rj:bU bb 236 (ah Xj):=TY.sound mixed (aaB pQ aq) (ax _) (by rintro _ _ ⟨_,⟨_,rfl,_⟩,_⟩;rfl) aiO
def mB:bU bb 203 By:=J6.sound mixed (aaB rj (aaB Aq (aaB eZ (aaB kL (aaB yC (aaB vG (aaB mA aq))))))) (azL _ _) (by rintro _ _ ⟨_,rfl,_⟩;rfl) To
def uO:bU bb 280 (ah qc):=MC.sound mixed (aaB mH aq) (ax _) (by rintro _ _ ⟨_,⟨_,_,rfl,_⟩,_⟩;rfl) Wb
def zi:bU bb 265 (bF L8):=Nk.sound mixed (aaB uO aq) (b_ _) (by rintro _ _ ⟨_,⟨_,rfl,_⟩,_⟩;rfl) RU
def vN:bU bb 279 (bF O9):=M6.sound mixed (aaB zi aq) (b_ _) (by rintro _ _ ⟨_,⟨_,rfl,_⟩,_⟩;rfl) RS
def oh:bU bb 296 (ah HK):=zj.sound mixed (aaB vN aq) (ax _) (by rintro _ _ ⟨_,⟨_,rfl,_⟩,_⟩;rfl) Un
def lv:bU bb 278 (bF yH):=vI.sound mixed (aaB oh aq) (b_ _) (by rintro _ _ ⟨_,⟨_,rfl,_⟩,_⟩;rfl) Nq
def yv:bU bb 264 (bF OW):=S9.sound mixed (aaB lv aq) (b_ _) (by rintro _ _ ⟨_,⟨_,rfl,_⟩,_⟩;rfl) ZY
def B9:bU bb 245 (bF Uw):=V3.sound mixed (aaB yv (aaB wF aq)) (b_ _) (by rintro _ _ ⟨_,⟨_,rfl,_⟩,_⟩;rfl) adg
def B0:bU bb 207 (ah LY):=Sg.sound mixed (aaB D9 (aaB B9 (aaB Hz aq))) (ax _) (by rintro _ _ ⟨_,⟨_,rfl,_⟩,_⟩;rfl) VR
def yD:bU bb 150 (bF EV):=O8.sound mixed (aaB qk aq) (b_ _) (by rintro _ _ ⟨_,⟨_,rfl,_⟩,_⟩;rfl) ae5
def vJ:bU bb 151 (ah Ps):=MX.sound mixed (aaB B0 (aaB fA aq)) (ax _) (by rintro _ _ ⟨_,⟨_,rfl,_⟩,_⟩;rfl) Z7
def wm:bU bb 154 (ah Fa):=KZ.sound mixed (aaB qk (aaB fA (aaB kB (aaB oK (aaB tE (aaB fj aq)))))) (ax _) (by rintro _ _ ⟨_,⟨_,rfl,_⟩,_⟩;rfl) afi
def dO:bU bb 112 (ah nC):=Bp.sound mixed (aaB yD (aaB fA (aaB vJ (aaB oK (aaB kB (aaB tU (aaB wm (aaB Ak aq)))))))) (ax _) (by rintro _ _ ⟨_,⟨_,rfl,_⟩,_⟩;rfl) JJ
def iI:bU bb 165 (ah EI):=Zn.sound mixed (aaB pQ aq) (ax _) (by rintro _ _ ⟨_,⟨_,rfl,_⟩,_⟩;rfl) zQ
def EB:bU bb 157 (ah Py):=WH.sound mixed (aaB iI aq) (ax _) (by rintro _ _ ⟨_,⟨_,_,rfl,_⟩,_⟩;rfl) Na
def iB:bU bb 202 P8:=IL.sound mixed (aaB vB (aaB vM aq)) (azL _ _) (by rintro _ _ ⟨_,rfl,_⟩;rfl) aiX
def wS:bU bb 205 (ah agE):=IS.sound mixed (aaB EB aq) (ax _) (by rintro _ _ ⟨_,⟨_,_,rfl,_⟩,_⟩;rfl) ahL
def cw:bU bb 145 (ah Lc):=Fx.sound mixed (aaB cS (aaB iB (aaB lS (aaB mB (aaB wS (aaB iI (aaB fI aq))))))) (ax _) (by rintro _ _ ⟨_,⟨_,rfl,_⟩,_⟩;rfl) acW
def rN:bU bb 178 (ah OX):=Ei.sound mixed (aaB lf (aaB cS (aaB Dx (aaB iB (aaB lN (aaB kz (aaB bL aq))))))) (ax _) (by rintro _ _ ⟨_,⟨_,rfl,_⟩,_⟩;rfl) abw
def mw:bU bb 176 (ah Dy):=OK.sound mixed (aaB dO (aaB bL (aaB bY aq))) (ax _) (by rintro _ _ ⟨_,⟨_,rfl,_⟩,_⟩;rfl) VO
def rA:bU bb 180 (ah OG):=DR.sound mixed (aaB iB (aaB lS (aaB mB (aaB lf (aaB iI aq))))) (ax _) (by rintro _ _ ⟨_,⟨_,rfl,_⟩,_⟩;rfl) abH
def cY:bU bb 127 xt:=acu.sound mixed (aaB mq (aaB mw (aaB bY (aaB jb (aaB qC (aaB rN (aaB cS (aaB rA aq)))))))) (azL _ _) (by rintro _ _ ⟨_,_,rfl,_⟩;rfl) ajq
def sf:bU bb 72 (ah tQ):=Kp.sound mixed (aaB cY aq) (ax _) (by rintro _ _ ⟨_,⟨_,_,rfl,_⟩,_⟩;rfl) Q4
def gZ:bU bb 102 (c8 true Fc):=Pe.sound mixed (aaB cY (aaB cw aq)) (dQ _ _) (by rintro _ _ ⟨_,⟨_,_,rfl,_⟩,_⟩;rfl) VN
def El:bU bb 232 (sB ak4):=SW.rJ mixed (aaB sE (aaB jo (aaB jr (aaB vU aq)))) (by rintro _ _ _ ⟨_,rfl,_⟩;rfl) al3
def Kg:bU bb 199 (c8 true Xb):=aiQ.sound mixed (aaB y6 (aaB El aq)) (dQ _ _) (by rintro _ _ ⟨_,⟨_,rfl,_⟩,_⟩;rfl) ai7
def ym:bU bb 198 (ah Dz):=Ud.sound mixed (aaB lu (aaB nr (aaB jo (aaB jr (aaB vU aq))))) (ax _) (by rintro _ _ ⟨_,⟨_,_,_,rfl,_⟩,_⟩;rfl) VV
def Ad:bU bb 141 (c8 true Hs):=VE.sound mixed (aaB lu (aaB jr (aaB ym (aaB Nn (aaB Kg aq))))) (dQ _ _) (by rintro _ _ ⟨_,⟨_,_,_,rfl,_⟩,_⟩;rfl) aao
def EY:bU bb 101 (c8 false Lr):=ZH.sound mixed (aaB cY (aaB sY (aaB Ad (aaB dO (aaB jn (aaB fI (aaB jt aq))))))) (dQ _ _) (by rintro _ _ ⟨_,⟨_,_,_,_,rfl,_⟩,_⟩;rfl) aj8
def sa:bU bb 71 (sB ajO):=OH.rJ mixed (aaB sf (aaB y5 (aaB dj aq))) (by rintro _ _ _ ⟨_,_,_,_,_,rfl,_⟩;rfl) aoC
def qg:bU bb 70 (sB akk):=wI.rJ mixed (aaB sa aq) (by rintro _ _ _ ⟨_,_,_,_,rfl,_⟩;rfl) anm
def uc:bU bb 20 (c8 true aco):=Vm.sound mixed (aaB mq (aaB dj (aaB jy (aaB AA (aaB sa (aaB qg aq)))))) (dQ _ _) (by rintro _ _ ⟨_,⟨_,rfl,_⟩,_⟩;rfl) abN
def eF:bU bb 74 (c8 false gU):=ajc.sound mixed (aaB uc aq) (dQ _ _) (by rintro _ _ ⟨_,⟨_,rfl,_⟩,_⟩;rfl) acR
def DE:bU bb 63 (c8 false ZQ):=Mu.sound mixed (aaB eF (aaB dT (aaB dj (aaB jy aq)))) (dQ _ _) (by rintro _ _ ⟨_,⟨_,_,rfl,_⟩,_⟩;rfl) adu
def sw:bU bb 87 (c8 false D2):=FU.sound mixed (aaB eF (aaB vE (aaB dj (aaB jy aq)))) (dQ _ _) (by rintro _ _ ⟨_,⟨_,_,rfl,_⟩,_⟩;rfl) Ga
def rC:bU bb 99 (c8 false Lq):=Ri.sound mixed (aaB dT (aaB EY (aaB mQ aq))) (dQ _ _) (by rintro _ _ ⟨_,⟨_,_,rfl,_⟩,_⟩;rfl) akA
def uB:bU bb 192 (sB aqr):=Sm.rJ mixed (aaB rC aq) (by rintro _ _ _ ⟨_,_,_,rfl,_⟩;rfl) aq6
def qK:bU bb 191 (sB akD):=wV.rJ mixed (aaB uB aq) (by rintro _ _ _ ⟨_,_,rfl,_⟩;rfl) alp
def KX:bU bb 139 (c8 false apP):=aaZ.sound mixed (aaB uB (aaB qK aq)) (dQ _ _) (by rintro _ _ ⟨_,⟨_,_,rfl,_⟩,_⟩;rfl) aqX
def oa:bU bb 106 (c8 false M1):=LW.sound mixed (aaB KX (aaB dj (aaB jy aq))) (dQ _ _) (by rintro _ _ ⟨_,⟨_,_,rfl,_⟩,_⟩;rfl) Uf
def xT:bU bb 23 (c8 true H4):=ahl.sound mixed (aaB mq (aaB bo (aaB sf (aaB Pq aq)))) (dQ _ _) (by rintro _ _ ⟨_,⟨_,rfl,_⟩,_⟩;rfl) ahd
def tw:bU bb 14 (c8 false A8):=aci.sound mixed (aaB DE (aaB pg aq)) (dQ _ _) (by rintro _ _ ⟨_,⟨_,_,rfl,_⟩,_⟩;rfl) agD
def Jg:bU bb 85 (c8 false TM):=adZ.sound mixed (aaB eF (aaB dT (aaB dj (aaB jy (aaB iQ (aaB fU (aaB G0 (aaB pQ aq)))))))) (dQ _ _) (by rintro _ _ ⟨_,⟨_,_,_,_,rfl,_⟩,_⟩;rfl) ag_
def DD:bU bb 27 (c8 false IE):=acQ.sound mixed (aaB fU (aaB Jg aq)) (dQ _ _) (by rintro _ _ ⟨_,⟨_,_,rfl,_⟩,_⟩;rfl) afw
def wk:bU bb 22 (c8 true HW):=aef.sound mixed (aaB eF (aaB yY (aaB DU (aaB Vg (aaB yS (aaB iK (aaB pg aq))))))) (dQ _ _) (by rintro _ _ ⟨_,⟨_,rfl,_⟩,_⟩;rfl) ah1
def ox:bU bb 16 (ah OA):=abG.sound mixed (aaB xT aq) (ax _) (by rintro _ _ ⟨_,⟨_,rfl,_⟩,_⟩;rfl) aow
def DV:bU bb 42 (c8 false N7):=acv.sound mixed (aaB eF (aaB rC (aaB mQ (aaB fU (aaB Hf (aaB iQ aq)))))) (dQ _ _) (by rintro _ _ ⟨_,⟨_,_,rfl,_⟩,_⟩;rfl) af5
def L3:bU bb 43 (c8 false Y_):=ahF.sound mixed (aaB adH (aaB bo (aaB EY (aaB er aq)))) (dQ _ _) (by rintro _ _ ⟨_,⟨_,_,rfl,_⟩,_⟩;rfl) ajn
def Ax:bU bb 41 (c8 false UP):=adV.sound mixed (aaB er (aaB L3 aq)) (dQ _ _) (by rintro _ _ ⟨_,⟨_,_,rfl,_⟩,_⟩;rfl) ahr
def KV:bU bb 45 (c8 true akH):=acH.sound mixed (aaB bo (aaB gZ aq)) (dQ _ _) (by rintro _ _ ⟨_,⟨_,rfl,_⟩,_⟩;rfl) aou
def nW:bU bb 12 (ah KL):=ahh.sound mixed (aaB Oa (aaB wk (aaB tw (aaB DV (aaB DD (aaB nN aq)))))) (ax _) (by rintro _ _ ⟨_,⟨rfl,_⟩,_⟩;rfl) an8
def gK:bU bb 29 (c8 false Fs):=ES.sound mixed (aaB sw (aaB oy (aaB fi (aaB iQ (aaB fU (aaB nG (aaB Hf aq))))))) (dQ _ _) (by rintro _ _ ⟨_,⟨_,_,rfl,_⟩,_⟩;rfl) FZ
def Jl:bU bb 51 (ah Ow):=Qj.sound mixed (aaB Ax (aaB ox (aaB KV (aaB Q6 (aaB KT aq))))) (ax _) (by rintro _ _ ⟨_,⟨_,_,rfl,_⟩,_⟩;rfl) TS
def ju:bU bb 104 O_:=Ky.sound mixed (aaB eD aq) (azL _ _) (by rintro _ _ ⟨_,_,rfl,_⟩;rfl) QR
def Au:bU bb 47 (c8 false OD):=MS.sound mixed (aaB sw (aaB DU (aaB D1 (aaB ju (aaB eD (aaB Vg (aaB dM (aaB dE (aaB yS (aaB oa aq)))))))))) (dQ _ _) (by rintro _ _ ⟨_,⟨_,_,rfl,_⟩,_⟩;rfl) Oq
def mJ:bU bb 8 (ah Pj):=LH.sound mixed (aaB nW (aaB sR (aaB er (aaB Au (aaB ox (aaB Bj (aaB v7 (aaB y7 (aaB Av (aaB Jl (aaB L3 (aaB ID (aaB bw (aaB gK (aaB sy (aaB Aa (aaB rO (aaB DD (aaB y1 (aaB Bo aq)))))))))))))))))))) (ax _) (by rintro _ _ ⟨_,⟨_,_,rfl,_⟩,_⟩;rfl) Oe
end Go.Dv.Try
