/- Own work: parts of the proof, shortened and laid together by a tool of our own. -/
import Derived.Test.YtmdfbbcifbgdnaaGreatP2
import Derived.Deep.Slices
import Derived.OpenShut
import Derived.Test.YtmdfbbcifbgdnaaGreatProg
import Derived.KernelRfl
import Derived.Shelf.Abstract
import Derived.Shelf.Strings.Builder1
import Derived.Shelf.Strings.Repeat
import Derived.Shelf.Strings.Search1
set_option linter.defProp false
set_option linter.unusedSimpArgs false
set_option linter.unusedVariables false
open List renaming getElem?_eq_getElem→zah, length_map→zav, getElem?_map→za9, eq_nil_of_length_eq_zero→zae, length_append→zad, getElem?_eq_none→zaK, map_append→zbu, length_cons→zam, length_drop→zax, mem_map→zaX, not_mem_nil→zb9, mem_cons→zaw, take_append_drop→zaD, length_pos_iff→zcb, drop_eq_nil_of_le→zcc, map_congr_left→zbC, map_inj_right→zch, take_of_length_le→za1, append_assoc→zaj, cons_append→zbd, map_cons→zat, getD_eq_getElem?_getD→zbr, drop_eq_getElem_cons→zcj, map_replicate→zcm, length_range→zco, length_take→zal, mem_of_getElem?→zag, mem_append→zaA, ext_getElem?→zba, map_nil→zcw, getElem?_replicate→zcz, append_nil→zbf, length_eq_one_iff→zcC, drop_drop→zaQ, set_append_right→zcF, getElem?_set_ne→zcG, replicate_succ'→zcH, find?_eq_none→zcL, getLast_cons→zcN, map_toArray→zcR, mem_range→zbm
open Int renaming toNat_natCast→zaC, fdiv_eq_ediv_of_nonneg→zb7, tdiv_eq_ediv_of_nonneg→zce, tmod_eq_emod_of_nonneg→zci, natCast_nonneg→zcl, one_mul→zcP, ediv_le_self→zcQ, ediv_nonneg→zcT
open Nat renaming le_refl→zai, lt_of_lt_of_le→zaf, eq_of_beq_eq_true→zab, pow_le_pow_right→zb8, two_pow_pos→zcd, add_sub_cancel→zcg, sub_self→zck, div_div_eq_div_mul→zcp, le_of_ble_eq_true→za3, and_two_pow_sub_one_eq_mod→zcq, min_eq_left→zas, pow_add→zcs, lt_of_le_of_lt→zct, two_pow_add_eq_or_of_lt→zcu, add_assoc→zaJ, mod_eq_of_lt→zcv, min_eq_right→zbK, min_le_right→zcx, zero_add→zaV, and_le_left→zcA, zero_le→zbO, add_sub_cancel'→zcI, testBit_two_pow→zcJ, sub_zero→zbX, add_comm→zcK, pow_succ→zcM, or_lt_two_pow→zcO, one_mul→zbc, zero_testBit→zcS, log2_eq_iff→zcU, testBit_and→zcV, div_le_self→zcW
open Decidable renaming of_not_not→zb6
open Array renaming toList_inj→zca, getElem?_append_left→zbH, getElem?_eq_none→zcD, getElem?_modify→zcE
open Option renaming bind_eq_some_iff→zcf, getD_some→zbA
open Bool renaming false_eq_true→zcn, and_eq_true→zaU, not_eq_true→zcy
open UInt8 renaming toNat_lt→zcr
open And renaming intro→zcB
namespace Go.Dv
open Go Go.ChangeShapes Go.WideShapes Go.Deep
section
inductive CT where
 |bool
 |int (k:IntKind)
 |str
 |sl (ag:Bool) (cs:List CT)
mutual
def O1:CT->PV->Prop
 | .bool,x=>∃b,x=.bool b
 | .int k,x=>∃n,x=.int k n/\(Lit.int k n).wf=true
 | .str,x=>∃l,x=.str l/\l.length<=maxLen
 | .sl ag cs,x=>∃aC,x=.sl cs.length aC/\aC.length<=maxLen∧∀y∈aC,(ag=true→∃zs,y=.agg zs/\ou cs zs)/\(ag=false->ou cs [y])
def ou:List CT->List PV->Prop
 |[],xs=>xs=[]
 |c::cs,xs=>∃y ys,xs=y::ys/\O1 c y/\ou cs ys
end
def Je:∀(cs ds:List CT) (xs ys:List PV),ou cs xs->ou ds ys->ou (cs++ds) (xs++ys)
 |[],_,_,_,h,h2=>by simp only[ou]at h;subst h;exact h2
 |c::cs,ds,xs,ys,h,h2=>by
  simp only[ou]at h;obtain⟨y,zs,rfl,h3,h4⟩:=h;simp only[zbd,ou];exact⟨_,_,rfl,h3,Je cs ds zs ys h4 h2⟩
def P7:∀(cs:List CT) (xs:List PV),ou cs xs->xs.length=cs.length
 |[],_,h=>by simp only[ou]at h;subst h;rfl
 |c::cs,xs,h=>by
  simp only[ou]at h;obtain⟨y,zs,rfl,h3,h4⟩:=h;simp[P7 cs zs h4]
def ajB:∀(c:CT) (x:PV),O1 c x->x.one=true∧∀l,x≠.agg l
 | .bool,x,h=>by simp only[O1]at h;obtain⟨b,rfl⟩:=h;exact⟨rfl,aj⟩
 | .int k,x,h=>by simp only[O1]at h;obtain⟨b,rfl,_⟩:=h;exact⟨rfl,aj⟩
 | .str,x,h=>by simp only[O1]at h;obtain⟨b,rfl,_⟩:=h;exact⟨rfl,aj⟩
 | .sl _ _,x,h=>by simp only[O1]at h;obtain⟨b,rfl,_⟩:=h;exact⟨rfl,aj⟩
def Q9:∀(cs:List CT) (xs:List PV),ou cs xs→∀x∈xs,x.one=true
 |[],_,h=>by simp only[ou]at h;subst h;simp
 |c::cs,xs,h=>by
  simp only[ou]at h;obtain⟨y,zs,rfl,h3,h4⟩:=h;intro x hx;rcases zaw.1 hx with rfl|hx
  ·exact(ajB c _ h3).1
  ·exact Q9 cs zs h4 x hx
def M_(P:Program)(e:TypeId):Bool:=match P.underlying e with|some (.struct _)=>true|some (.array _ _)=>true|_=>false
noncomputable def TB(P:Program)(g:TypeId->Option (List CT)):List Field->Nat->Option (List CT):=
 λl=>List.rec (λ_=>some []) (λf _ ih off=>
  (g f.type).bind λcs=>bif Nat.beq f.offset off&&Nat.beq cs.length (P.cellsOf f.type)then(ih (off+cs.length)).map λds=>cs++ds else none) l
noncomputable def awD(cs:List CT)(m:Nat):List CT:=Nat.rec [] (λ_ ih=>cs++ih) m
noncomputable def EE(P:Program)(n:Nat):TypeId->Option (List CT):=
 Nat.rec (λ_=>none) (λ_ ih t=>
  match P.underlying t with
  |some .bool=>some [.bool]
  |some (.int k)=>some [.int k]
  |some .string=>some [.str]
  |some (.slice e)=>(ih e).bind λcs=>bif Nat.beq cs.length (P.cellsOf e)&&Nat.ble 1 cs.length&&(M_ P e||Nat.beq cs.length 1)then some [.sl (M_ P e) cs]else none
  |some (.struct fs)=>(TB P ih fs.toList 0).bind λcs=>bif Nat.beq cs.length (P.cellsOf t)then some cs else none
  |some (.array m e)=>bif Nat.ble m 64 then(ih e).bind λcs=>bif Nat.beq cs.length (P.cellsOf e)&&Nat.beq (m*cs.length) (P.cellsOf t)then some (awD cs m)else none else none
  |_=>none) n
section
variable {H:Type} {enc:TypeId×Value->H} {P:Program} {w:World} {base:Nat} {spare:Nat->Bool} {held:Bool}
def axk(ok:Nat->Prop)(b:Nat):∀(xs:List PV) (vs:List Value) (o:Nat),bS ok w xs vs->(∀j,j<vs.length->w.cell? ⟨b,o+j,none⟩=vs[j]?)->(∀x∈xs,x.one=true)->te ok w b o xs:=by
 intro xs
 induction xs with
 |nil=>intro vs o _ _ _;simp[te]
 |cons x xs ih=>
  intro vs o h hc h1;simp only[bS]at h;obtain⟨v,r,rfl,h2,h3⟩:=h;simp only[te];refine⟨⟨h1 x aj,v,by simpa using hc 0 aj,h2⟩,ih r (o+1) h3 (λj hj=>?_) (λy hy=>h1 y pT)⟩;have:=hc (j+1) aH;simp at this;rw[<-this];congr 2;omega
def asC(ok:Nat->Prop)(b sz:Nat)(f:Nat->PV):∀(k i o:Nat),(∀j,i<=j->j<i+k->fC ok w b sz (o+(j-i)*sz) [f j])->fC ok w b sz o ((List.range' i k).map f):=by
 intro k
 induction k with
 |zero=>intro i o _;simp[fC]
 |succ k ih=>
  intro i o h;rw[List.range'_succ,zat];have h0:=h i (zai _) ab;rw[zck,Nat.zero_mul,Nat.add_zero]at h0;have h1:=ih (i+1) (o+sz) (λj h1 h2=>by
   have:=h j ab ab;rw[show o+sz+(j-(i+1))*sz=o+(j-i)*sz by
    obtain⟨q,rfl⟩:∃q,j=i+1+q:=⟨j-(i+1),ab⟩
    rw[show i+1+q-(i+1)=q by omega,show i+1+q-i=q+1 by omega,Nat.add_mul,zbc];omega]
   exact this)
  generalize f i=x at h0;cases x<;>(simp only[fC]at h0 ⊢;exact⟨h0.1,h1⟩)
def ap0(ok:Nat->Prop){n k:Nat}(ih:∀(t:TypeId) (cs:List Value) (x:DataW H×List MemPlace) (iD:List CT),EE P n t=some iD->DataW.trod enc P w base spare held k t cs=some x→∃xs,ou iD xs/\bS ok w xs cs)(cs:List Value):
 ∀(l:List Field) (off:Nat) (iD:List CT),TB P (EE P n) l off=some iD->off+iD.length=cs.length->(∀(i:Nat) (f:Field),l[i]?=some f→∃x,DataW.trod enc P w base spare held k f.type ((cs.drop f.offset).take (P.cellsOf f.type))=some x)→∃xs,ou iD xs/\bS ok w xs (cs.drop off):=by
 intro l
 induction l with
 |nil=>
  intro off iD h hl _;simp only[TB]at h;injection h with h
  subst h;exact⟨[],by simp[ou],by simp only[bS];exact zcc (by simp at hl;omega)⟩
 |cons f l ihl=>
  intro off iD h hl hx;have h':((EE P n f.type).bind λcs=>bif Nat.beq f.offset off&&Nat.beq cs.length (P.cellsOf f.type)then(TB P (EE P n) l (off+cs.length)).map λds=>cs++ds else none)=some iD:=h;obtain⟨c1,h1,h2⟩:=zcf.1 h';cases hb:(Nat.beq f.offset off&&Nat.beq c1.length (P.cellsOf f.type))with
  |false=>rw[hb]at h2;cases h2
  |true=>
   rw[hb]at h2;simp only[cond_true]at h2;obtain⟨c2,h3,rfl⟩:=Option.map_eq_some_iff.1 h2;rw[zaU]at hb;have e1:=zab hb.1;have e2:=zab hb.2;obtain⟨x,SI⟩:=hx 0 f rfl;obtain⟨xs1,g1,g2⟩:=ih _ _ _ _ h1 SI;rw[zad]at hl;obtain⟨xs2,g3,g4⟩:=ihl (off+c1.length) c2 h3 ab (λi f' hf=>hx (i+1) f' (by simpa using hf));refine⟨xs1++xs2,Je _ _ _ _ g1 g3,?_⟩;rw[eG];rw[e1,<-e2]at g2;refine⟨_,_,?_,g2,g4⟩;rw[<-zaQ,zaD]
def axi(ok:Nat->Prop)(di:∀b,b<w.heap.size->ok b):∀(n k:Nat) (t:TypeId) (cs:List Value) (x:DataW H×List MemPlace) (iD:List CT),EE P n t=some iD->DataW.trod enc P w base spare held k t cs=some x→∃xs,ou iD xs/\bS ok w xs cs:=by
 intro n
 induction n with
 |zero=>intro k t cs x iD h;cases h
 |succ n ih=>
  intro k t cs x iD h hx;have h':(match P.underlying t with
   |some .bool=>some [CT.bool]
   |some (.int k)=>some [CT.int k]
   |some .string=>some [CT.str]
   |some (.slice e)=>(EE P n e).bind λcs=>bif Nat.beq cs.length (P.cellsOf e)&&Nat.ble 1 cs.length&&(M_ P e||Nat.beq cs.length 1)then some [CT.sl (M_ P e) cs]else none
   |some (.struct fs)=>(TB P (EE P n) fs.toList 0).bind λcs=>bif Nat.beq cs.length (P.cellsOf t)then some cs else none
   |some (.array m e)=>bif Nat.ble m 64 then(EE P n e).bind λcs=>bif Nat.beq cs.length (P.cellsOf e)&&Nat.beq (m*cs.length) (P.cellsOf t)then some (awD cs m)else none else none
   |_=>none)=some iD:=h
  split at h'
  ·rename_i ht;injection h' with h';subst h'
   obtain⟨b,rfl,_⟩:=DataW.trod_bool ht hx;exact⟨[.bool b],by simp[ou,O1],by simp[bS,Rd]⟩
  ·rename_i kk ht;injection h' with h';subst h'
   obtain⟨b,rfl,_,hw⟩:=DataW.trod_int ht hx;exact⟨[.int kk b],by simp[ou,O1,hw],by simp[bS,Rd]⟩
  ·rename_i ht;injection h' with h';subst h'
   obtain⟨s,rfl,_,hs⟩:=DataW.trod_string ht hx;exact⟨[.str s.data.toList],by simp[ou,O1];exact hs,by simp[bS,Rd]⟩
  ·rename_i e ht;obtain⟨c1,h1,h2⟩:=zcf.1 h';cases hb:(Nat.beq c1.length (P.cellsOf e)&&Nat.ble 1 c1.length&&(M_ P e||Nat.beq c1.length 1))with
   |false=>rw[hb]at h2;cases h2
   |true=>
    rw[hb]at h2;simp only[cond_true,Option.some.injEq]at h2;subst h2;rw[zaU,zaU]at hb;have e1:=zab hb.1.1;have e2:=za3 hb.1.2;rcases open_slice ht hx with⟨rfl,_⟩|⟨a,len,cap,m,q,D,Pl,rfl,hba,hl,hm,hmm,_,lj⟩
    ·refine⟨[.sl c1.length []],?_,?_⟩
     ·simp only[ou,O1];exact⟨_,_,rfl,⟨[],rfl,aj,aj⟩,rfl⟩
     ·simp only[bS,Rd];exact⟨_,_,rfl,⟨none,0,rfl,aj,by simp[maxLen],.inl trivial⟩,rfl⟩
    ·have gJ:len<=m:=by rw[hmm];split<;>omega
     have each:∀i,i<len→∃q:List PV×List Value,ou c1 q.1/\bS ok w q.1 q.2/\q.2.length=c1.length∧∀j,j<c1.length->w.cell? ((a.add (i*c1.length)).add j)=q.2[j]?:=by
      intro i hi;obtain⟨Ea,g1,g2⟩:=lj i ab;obtain⟨xs,g3,g4⟩:=ih _ _ _ _ _ h1 g2;obtain⟨_,g5,g6⟩:=World.cells?_some g1;exact⟨(xs,Ea),g3,g4,by rw[g5,e1],λj hj=>by rw[e1];exact g6 j ab⟩
     obtain⟨f,hf⟩:=choose_lt each;have hlr:((List.range' 0 len).map λi=>if M_ P e=true then PV.agg (f i).1 else(f i).1.headD (.nil 0)).length=len:=aj;refine⟨[.sl c1.length ((List.range' 0 len).map λi=>if M_ P e=true then PV.agg (f i).1 else(f i).1.headD (.nil 0))],?_,?_⟩
     ·simp only[ou,O1];refine⟨_,_,rfl,⟨_,rfl,by rw[hlr];omega,?_⟩,rfl⟩;intro y hy;obtain⟨i,hi,rfl⟩:=zaX.1 hy;have hi:i<len:=by simp at hi;exact hi
      refine⟨λhg=>?_,λhg=>?_⟩
      ·rw[if_pos hg];exact⟨_,rfl,(hf i hi).1⟩
      ·rw[if_neg (by rw[hg];decide)];rw[hg,Bool.false_or]at hb;have e3:=zab hb.2;have h6:=(hf i hi).1;have h7:=P7 _ _ h6;rw[e3]at h7;obtain⟨z,hz⟩:=zcC.1 h7;rw[hz]at h6 ⊢;exact h6
     ·simp only[bS,Rd];refine⟨_,_,rfl,⟨some a,cap,by rw[hlr],by rw[hlr];exact hl,hm,?_⟩,rfl⟩;by_cases h0:len=0
      ·left;subst h0;rfl
      right;obtain⟨g1,g2,g3,g4⟩:=hf 0 ab;have jF:=g4 0 ab;rw[Nat.zero_mul]at jF;have ea:(a.add 0).add 0=a:=rfl;rw[ea]at jF;obtain⟨v,hv⟩:∃v,(f 0).2[0]?=some v:=qp;rw[hv]at jF;have aoE:a.spot=none:=by
       unfold World.cell? at jF;split at jF
       ·split at jF
        ·cases jF
        ·rename_i hs;simpa using hs
       ·cases jF
      have aU:a.block<w.heap.size:=by
       unfold World.cell? at jF;split at jF
       ·rename_i hs;by_cases hh:a.block<w.heap.size
        ·exact hh
        ·rw[zcD ab]at hs;cases hs
       ·cases jF
      have aKF:∀j,a.add j=⟨a.block,a.off+j,none⟩:=by
       intro j;unfold Addr.add;split
       ·rename_i h;subst h;obtain⟨b,o,s⟩:=a;simp only at aoE;subst aoE;rfl
       ·rfl
      refine⟨a.block,a.off,?_,di _ aU,?_⟩
      ·obtain⟨b,o,s⟩:=a;simp only at aoE;subst aoE;rfl
      refine asC ok _ _ _ len 0 a.off (λi _ hi=>?_);obtain⟨g1,g2,g3,g4⟩:=hf i ab;rw[zbX];have g4':∀j,j<(f i).2.length->w.cell? ⟨a.block,a.off+i*c1.length+j,none⟩=(f i).2[j]?:=by
       intro j hj;rw[<-g4 j ab,add_add,aKF,zaJ]
      by_cases hg:M_ P e=true
      ·rw[if_pos hg];simp only[fC];exact⟨⟨P7 _ _ g1,axk ok _ _ _ _ g2 g4' (Q9 _ _ g1)⟩,trivial⟩
      ·rw[if_neg hg];have jA:M_ P e=false:=by simpa using hg
       rw[jA,Bool.false_or]at hb;have e3:=zab hb.2;have h7:=P7 _ _ g1;rw[e3]at h7;obtain⟨z,hz⟩:=zcC.1 h7;rw[hz]at g1 g2 ⊢;have h8:=Q9 _ _ g1 z aj;simp only[bS]at g2;obtain⟨v',r,Mz,h9,rfl⟩:=g2;have XK:=g4' 0 (by rw[Mz];simp);rw[Mz]at XK;have Cd:∀l,z≠.agg l:=by
        match c1,g1 with
        |c::cs,g1=>simp only[ou]at g1;obtain⟨y,ys,hy,gT,_⟩:=g1;injection hy with hy _;subst hy;exact(ajB c _ gT).2
       show fC ok w a.block c1.length _ [z];cases z with
       |agg l=>exact absurd rfl (Cd l)
       |_=>simp only[fC];exact⟨⟨e3,h8,v',by simpa using XK,h9⟩,trivial⟩
  ·rename_i fs ht;obtain⟨c1,h1,h2⟩:=zcf.1 h';cases hb:Nat.beq c1.length (P.cellsOf t)with
   |false=>rw[hb]at h2;cases h2
   |true=>
    rw[hb]at h2;simp only[cond_true,Option.some.injEq]at h2;subst h2;have e1:=zab hb;obtain⟨xs,q,rfl,_,hl,Pd,hf⟩:=DataW.trod_struct ht hx;have:=ap0 (k:=q) ok (λt cs x iD=>ih q t cs x iD) cs fs.toList 0 c1 h1 ab (λi f hi=>?_)
    ·simpa using this
    ·have Vp:fs[i]?=some f:=by simpa using hi
     rw[hf i f Vp];have:i<fs.size:=by
      by_cases hh:i<fs.size
      ·exact hh
      ·rw[zcD ab]at Vp;cases Vp
     rw[zah ab];exact⟨_,rfl⟩
  ·rename_i m e ht;cases hm:Nat.ble m 64 with
   |false=>rw[hm]at h';cases h'
   |true=>
    rw[hm]at h';simp only[cond_true]at h';obtain⟨c1,h1,h2⟩:=zcf.1 h';cases hb:(Nat.beq c1.length (P.cellsOf e)&&Nat.beq (m*c1.length) (P.cellsOf t))with
    |false=>rw[hb]at h2;cases h2
    |true=>
     rw[hb]at h2;simp only[cond_true,Option.some.injEq]at h2;subst h2;rw[zaU]at hb;have e1:=zab hb.1;have e2:=zab hb.2;obtain⟨xs,q,rfl,_,hl,Pd,hf⟩:=DataW.trod_array ht hx;have main:∀(k i:Nat),i+k=m→∃ys,ou (awD c1 k) ys/\bS ok w ys (cs.drop (i*c1.length)):=by
      intro k
      induction k with
      |zero=>
       intro i hi;refine⟨[],by show ou [] [];simp[ou],?_⟩;simp only[bS];exact zcc (by rw[hl,<-e2,show i=m by omega];exact zai _)
      |succ k ihk=>
       intro i hi;have Gr:=hf i ab;have:i<xs.length:=ab;rw[zah this]at Gr;obtain⟨ys1,g1,g2⟩:=ih _ _ _ _ _ h1 Gr;obtain⟨ys2,g3,g4⟩:=ihk (i+1) ab;refine⟨ys1++ys2,Je _ _ _ _ g1 g3,?_⟩;rw[eG];rw[<-e1]at g2;refine⟨_,_,?_,g2,g4⟩;rw[Nat.add_mul,zbc,<-zaQ,zaD]
     obtain⟨ys,g1,g2⟩:=main m 0 ab;exact⟨ys,g1,by simpa using g2⟩
  ·cases h'
end
end
end Go.Dv
namespace Go.Dv
open Go Go.ChangeShapes Go.WideShapes Go.Deep Go.RowKit
section
def xS:List (Bool×List CT)->List PV->Prop
 |[],xs=>xs=[]
 |p::r,xs=>∃y ys,xs=y::ys/\(p.1=true→∃zs,y=.agg zs/\ou p.2 zs)/\(p.1=false->ou p.2 [y])/\xS r ys
noncomputable def H0(P:Program)(ts:List TypeId):List (Bool×Option (List CT)):=ts.map λt=>(M_ P t,EE P 8 t)
section
variable {H:Type} {enc:TypeId×Value->H} {P:Program} {w:World} {base:Nat}
def amL{n:Nat}{t:TypeId}{c:List CT}{v:Value}{r:Reach}{b0:Nat}(hf:EE P n t=some c)(ha:M_ P t=false)(hv:Value.okWide P w r b0 t v):v.cells.toList=[v]:=by
 cases n with
 |zero=>cases hf
 |succ n=>
  have h':(match P.underlying t with
   |some .bool=>some [CT.bool]
   |some (.int k)=>some [CT.int k]
   |some .string=>some [CT.str]
   |some (.slice e)=>(EE P n e).bind λcs=>bif Nat.beq cs.length (P.cellsOf e)&&Nat.ble 1 cs.length&&(M_ P e||Nat.beq cs.length 1)then some [CT.sl (M_ P e) cs]else none
   |some (.struct fs)=>(TB P (EE P n) fs.toList 0).bind λcs=>bif Nat.beq cs.length (P.cellsOf t)then some cs else none
   |some (.array m e)=>bif Nat.ble m 64 then(EE P n e).bind λcs=>bif Nat.beq cs.length (P.cellsOf e)&&Nat.beq (m*cs.length) (P.cellsOf t)then some (awD cs m)else none else none
   |_=>none)=some c:=hf
  unfold M_ at ha;split at h'
  ·rename_i ht;obtain⟨b,rfl⟩:=okWide_bool ht hv;rfl
  ·rename_i ht;obtain⟨b,rfl⟩:=okWide_int ht hv;rfl
  ·rename_i ht;obtain⟨b,rfl⟩:=okWide_string ht hv;rfl
  ·rename_i ht;obtain⟨a,l,c,rfl⟩:=okWide_slice ht hv;rfl
  ·rename_i ht;rw[ht]at ha;cases ha
  ·rename_i ht;rw[ht]at ha;cases ha
  ·cases h'
def awT(ok:Nat->Prop)(di:∀b,b<w.heap.size->ok b){sp:Nat->Bool}{held:Bool}{r:Reach}{b0:Nat}:∀(ts:List TypeId) (sig:List (Bool×List CT)) (vs:List Value) (ds:List (DataW H)) (ps:List MemPlace),
 H0 P ts=sig.map (λp=>(p.1,some p.2))->(∀(j:Nat) t v,ts[j]?=some t->vs[j]?=some v->Value.okWide P w r b0 t v)->DataW.TrodAll enc P w base sp held ts vs ds ps→∃xs,xS sig xs/\bS ok w xs vs:=by
 intro ts
 induction ts with
 |nil=>
  intro sig vs ds ps hs _ h;obtain⟨rfl,rfl,rfl⟩:=trodAll_nil h;cases sig with
  |nil=>exact⟨[],by simp[xS],Fo⟩
  |cons=>simp[H0]at hs
 |cons t ts ih=>
  intro sig vs ds ps hs rS h;obtain⟨v,KC,d,ds',p,q,rfl,rfl,rfl,h1,h2⟩:=trodAll_cons h;cases sig with
  |nil=>simp[H0]at hs
  |cons s sig=>
   simp only[H0,zat,List.cons.injEq,Prod.mk.injEq]at hs;obtain⟨⟨lX,ZI⟩,hs3⟩:=hs;obtain⟨xs,g1,g2⟩:=ih sig KC ds' q hs3 (λj t v ht hv=>rS (j+1) t v (by simpa using ht) (by simpa using hv)) h2;obtain⟨k,hk⟩:=h1;obtain⟨ys,g3,g4⟩:=axi ok di 8 k t _ _ _ ZI hk;have hv:=rS 0 t v rfl rfl;cases Vs:M_ P t with
   |false=>
    rw[amL ZI Vs hv]at g4
    match ys,g4 with
    |[],g4=>simp only[bS]at g4;cases g4
    |y::ys,g4=>
     simp only[bS]at g4;obtain⟨v',r,e,g5,g6⟩:=g4;injection e with e1 e2
     subst e1;subst e2;have:ys=[]:=by
      cases ys with
      |nil=>rfl
      |cons z zs=>simp only[bS]at g6;obtain⟨_,_,e,_⟩:=g6;cases e
     subst this;refine⟨y::xs,?_,?_⟩
     ·simp only[xS];exact⟨y,xs,rfl,λh=>absurd (lX.trans h) (by rw[Vs];decide),λ_=>g3,g1⟩
     ·simp only[bS];exact⟨v,KC,rfl,g5,g2⟩
   |true=>
    have fM:∃cs,v=.agg cs:=by
     unfold M_ at Vs;split at Vs
     ·rename_i fs h;obtain⟨cs,h,_⟩:=okWide_struct h hv;exact⟨cs,h⟩
     ·rename_i m e h;simp only[Value.okWide,h]at hv;obtain⟨cs,h1,_⟩:=hv;exact⟨cs,h1⟩
     ·cases Vs
    obtain⟨cs,rfl⟩:=fM;refine⟨.agg ys::xs,?_,?_⟩
    ·simp only[xS];exact⟨_,xs,rfl,λ_=>⟨ys,rfl,g3⟩,λh=>absurd (lX.trans h) (by rw[Vs];decide),g1⟩
    ·simp only[bS,Rd];exact⟨_,KC,rfl,⟨λc hc=>by exact Q9 _ _ g3 c hc,cs,rfl,by simpa[Value.cells]using g4⟩,g2⟩
def wT{f:FuncId}{S:Spec}(h:bU P f S)(x7:S.mu=false){sig:List (Bool×List CT)}(cL:∀xs,xS sig xs->S.run xs λr=>r=.pv (.bool true)){ts:List TypeId}(aKG:H0 P ts=sig.map (λp=>(p.1,some p.2)))
 {args:Array Value} {ds:List (DataW H)} {ps:List MemPlace} {r:Reach} {b0:Nat} (rS:∀(j:Nat) t v,ts[j]?=some t->args.toList[j]?=some v->Value.okWide P w r b0 t v) (hA:DataW.TrodAll enc P w 0 (λ_=>true) true ts args.toList ds ps):
 Calls P f args w λe w'=>e=.returned (.bool true)/\Below w.heap.size w w':=by
 obtain⟨xs,h1,h2⟩:=awT (λb=>b<w.heap.size) (λ_ hb=>hb) ts sig _ _ _ aKG rS hA;exact alN h x7 h2 (cL xs h1)
end
def awZ{α:Type}{g:α->PV}{q:α->Prop}:∀{aC:List PV},(∀y∈aC,∃t,y=g t/\q t)→∃l:List α,aC=l.map g∧∀t∈l,q t:=by
 intro aC
 induction aC with
 |nil=>intro _;exact⟨[],rfl,aj⟩
 |cons y ys ih=>
  intro h;obtain⟨t,rfl,ht⟩:=h y aj;obtain⟨l,rfl,hl⟩:=ih λz hz=>h z (by simp[hz])
  exact⟨t::l,rfl,by simpa using⟨ht,hl⟩⟩
end
end Go.Dv
namespace Go.Dv
def aN{K:Bool->Prop}(k:K false):∀r:Bool,(r=true↔(true=false))->K r:=λr hr=>by
 cases r with
 |false=>exact k
 |true=>exact absurd (hr.1 rfl) ao
def bP{K:Bool->Prop}(k:K true):∀r:Bool,(r=true↔(false=false))->K r:=λr hr=>by
 cases r with
 |true=>exact k
 |false=>exact absurd (hr.2 rfl) ao
def au{p:Prop}{K:Bool->Prop}(h:p)(k:K true):∀b:Bool,(b=true↔p)->K b:=λb hb=>by
 rw[hb.2 h];exact k
def aw{p:Prop}{K:Bool->Prop}(h:¬p)(k:K false):∀b:Bool,(b=true↔p)->K b:=λb hb=>by
 cases b with
 |false=>exact k
 |true=>exact absurd (hb.1 rfl) h
def fQ{a b:Int}{K:Int->Prop}(k:K (max a b)):∀r:Int,r=max a b->K r:=λr hr=>by subst hr;exact k
def I8{a b:Int}{K:Int->Prop}(k:K (min a b)):∀r:Int,r=min a b->K r:=λr hr=>by subst hr;exact k
def l7{a b:Int}{K:Int->Prop}(h:0<=a/\0<b/\a<=9223372036854775807)(k:K (a/b)):b≠0∧∀r:Int,r=IntKind.i64.wrap (a.tdiv b)->K r:=by
 refine⟨ab,λr hr=>?_⟩;rw[zce h.1]at hr;have h1:=zcQ b h.1;have h2:=zcT h.1 (Int.le_of_lt h.2.1);rw[wrap64 ab]at hr;subst hr;exact k
def lW{a b:Int}{K:Int->Prop}(h:0<=a/\0<b)(k:K (a%b)):b≠0∧∀r:Int,r=a.tmod b->K r:=by
 refine⟨ab,λr hr=>?_⟩;rw[zci h.1]at hr;subst hr;exact k
def GET{α:Type}{f:α->PV}{l:List α}{i:Nat}{K:PV->Prop}(h:i<l.length)(k:∀x,l[i]?=some x->K (f x)):∃y,(l.map f)[i]?=some y/\K y:=
 ⟨f l[i],by rw[za9,zah h];rfl,k _ (zah h)⟩
def Q3{α:Type}{f:α->PV}{l:List α}{i:Int}{p:Prop}(h:0<=i/\i<l.length)(k:p):(0<=i/\i.toNat<(l.map f).length)/\p:=by
 rw[zav];exact⟨⟨h.1,ab⟩,k⟩
def U8{n:Int}{K:Int->Prop}(h:0<=n/\n<=255)(k:K n):∀r:Int,r=IntKind.u8.wrap n->K r:=λr hr=>by
 have e:IntKind.u8.wrap n=n:=by
  have hb:IntKind.u8.bits=8:=rfl;simp only[IntKind.wrap,IntKind.signed,hb];simp;omega
 rw[hr,e];exact k
def Oo{n:Int}{K:Int->Prop}(k:K (n%256)):∀r:Int,r=IntKind.u8.wrap n->K r:=λr hr=>by
 have e:IntKind.u8.wrap n=n%256:=by
  have hb:IntKind.u8.bits=8:=rfl;simp only[IntKind.wrap,IntKind.signed,hb];simp
 rw[hr,e];exact k
def SHR{j:IntKind}{a b:Int}{K:Int->Prop}(hj:8<=j.bits)(h:0<=b/\b<=8/\0<=a)(k:0<=a/(2^b.toNat:Nat)/\a/(2^b.toNat:Nat)<=a->K (a/(2^b.toNat:Nat))):0<=b∧∀r:Int,r=a.fdiv (2^min b.toNat j.bits)->K r:=by
 refine⟨h.1,λr hr=>?_⟩;have e8:min b.toNat j.bits=b.toNat:=ab;have hp:0<=((2^b.toNat:Nat):Int):=zcl _;rw[e8,show((2:Int)^b.toNat)=((2^b.toNat:Nat):Int) by simp,zb7 _ hp]at hr;subst hr;exact k ⟨zcT h.2.2 hp,zcQ _ h.2.2⟩
def aii{α:Type}{f:α->PV}{l:List α}{i:Nat}{K:PV->Prop}(h:i<l.length)(k:∀x,l[i]?=some x->K (f x)):∃y,(0<=(i:Int)/\(l.map f)[(i:Int).toNat]?=some y)/\K y:=
 ⟨f l[i],⟨ab,QQ⟩,k _ (zah h)⟩
def bF(R:List PV->Prop->Prop):Spec:=EM true true λps K=>∃p,R ps p∧∀r:Bool,(r=true↔p)->K (.pv (.bool r))
def b_(R:List PV->Prop->Prop):ajo (bF R):=by
 refine⟨λ_=>⟨rfl,λps K h=>?_⟩,λ_ _ h=>h,rfl⟩;obtain⟨p,h1,h2⟩:=h;refine⟨.bool (@decide p (Classical.propDecidable p)),h2 _ aj,λK' h=>⟨p,h1,λr hr=>?_⟩⟩;have:r= @decide p (Classical.propDecidable p):=by
  cases r<;>simp_all
 rw[this];exact h
def aJn{l:List UInt8}{i:Int}{K:PV->Prop}(h:0<=i/\i<l.length)(k:∀x,l[i.toNat]?=some x->x.toNat<256->K (aL x)):∃y,(0<=i/\(l.map aL)[i.toNat]?=some y)/\K y:=by
 have aU:i.toNat<l.length:=ab;exact⟨aL l[i.toNat],⟨h.1,by rw[za9,zah aU];rfl⟩,k _ (zah aU) (zcr _)⟩
def aGr{a:Int}{K:Int->Prop}(h:0<=a/\a<=4611686018427387903)(k:K (a%2)):∀r:Int,r=iz .and .i64 a 1->K r:=λr hr=>by
 have e:iz .and .i64 a 1=a%2:=by
  obtain⟨n,rfl⟩:∃n:Nat,a=n:=⟨a.toNat,ab⟩
  have hb:IntKind.i64.bits=64:=rfl;have e1:(BitVec.ofInt 64 (n:Int)&&&BitVec.ofInt 64 1).toNat=n%2:=by
   rw[BitVec.toNat_and,BitVec.toNat_ofInt,BitVec.toNat_ofInt];have:((n:Int)%((2:Nat)^64:Nat)).toNat=n:=ab;rw[this];exact Nat.and_one_is_mod n
  show IntKind.i64.wrap ((BitVec.ofInt 64 (n:Int)&&&BitVec.ofInt 64 1).toNat:Int)=_;rw[e1,wrap64 ab];rfl
 rw[hr,e];exact k
def aFZ{op:BinOp}{j:IntKind}{a b:Int}{K:Int->Prop}(k:K (iz op j a b)):∀r:Int,r=iz op j a b->K r:=λr hr=>by rw[hr];exact k
def aFO{α:Type}{f:α->PV}{l:List α}{P:α->Prop}{i:Nat}{K:PV->Prop}(hP:∀x∈l,P x)(h:i<l.length)(k:∀x,l[i]?=some x->P x->K (f x)):∃y,(l.map f)[i]?=some y/\K y:=
 GET h λx hx=>k x hx (hP x (zag hx))
def UA(P:Program)(f:Nat)(pc:PC)(ps:List Nat)(rs:List (Nat×Option (Bool×Nat)))(np:Nat):Prop:=
 ∃fn c l,P.funcs[f]?=some fn/\(fn.name== "runtime.NumGoroutine")=false/\fn.body=some c/\nR P fn.ntmps c=some (strip pc)/\fn.results=List.toArray l/\l.map (aib P)=rs.map some/\l.length<=4/\np<=fn.ntmps
def bk{P:Program}{f:Nat}{pc:PC}{ps:List Nat}{rs:List (Nat×Option (Bool×Nat))}{np:Nat}(fn:Func)
 (h:(P.funcs[f]?,(fn.name== "runtime.NumGoroutine"),fn.body.map (nR P fn.ntmps),fn.results.toList.map (aib P),Nat.ble fn.results.toList.length 4,Nat.ble np fn.ntmps)=(some fn,false,some (some (strip pc)),rs.map some,true,true)):UA P f pc ps rs np:=by
 simp only[Prod.mk.injEq]at h;obtain⟨h1,h2,h3,h4,h5,h6⟩:=h;cases hb:fn.body with
 |none=>rw[hb]at h3;cases h3
 |some c=>
  rw[hb]at h3;exact⟨fn,c,fn.results.toList,h1,h2,hb,Option.some.inj h3,aj,h4,za3 h5,za3 h6⟩
def UA.sound{P:Program}{f:Nat}{pc:PC}{ps:List Nat}{rs:List (Nat×Option (Bool×Nat))}{np:Nat}(w:UA P f pc ps rs np)(hm:P.follows .mixedOrders=true){Γ:Ctx}{S:Spec}(hΓ:Sound P Γ)(hS:ajo S)(cP:∀args K,S.run args K->args.length=np)(h:atQ Γ ps pc rs S):bU P f S:=by
 obtain⟨fn,c,l,h1,h2,h3,h4,h5,h6,h7,h8⟩:=w;exact ahG hΓ hm h1 h2 h3 h4 h5 h6 h7 hS np h8 cP h
def UA.rJ{P:Program}{f:Nat}{pc:PC}{ps:List Nat}{rs:List (Nat×Option (Bool×Nat))}{np:Nat}(w:UA P f pc ps rs np)(hm:P.follows .mixedOrders=true){Γ:Ctx}{qS:List AV->aF->(AV->aF->Prop)->Prop}(hΓ:Sound P Γ)(cP:∀xs σ K,qS xs σ K->xs.length=np)(h:alk Γ ps pc rs (sB qS)):bU P f (sB qS):=by
 obtain⟨fn,c,l,h1,h2,h3,h4,h5,h6,h7,h8⟩:=w;exact af1 hΓ hm h1 h2 h3 h4 h5 h6 h7 np h8 cP h
noncomputable def CS(P:Program)(l:List (Nat×Spec)):Prop:=List.rec True (λa _ ih=>bU P a.1 a.2/\ih) l
def CS.ok{P:Program}:∀l,CS P l->Sound P (ay l)
 |[],_=>aq
 |(_,_)::l,⟨a,b⟩=>aaB a (CS.ok l b)
def UA.snd{P:Program}{f:Nat}{pc:PC}{ps:List Nat}{rs:List (Nat×Option (Bool×Nat))}{np:Nat}(w:UA P f pc ps rs np){Γ:List (Nat×Spec)}{S:Spec}(hΓ:CS P Γ)(h:atQ (ay Γ) ps pc rs S)(hm:P.follows .mixedOrders=true:=by exact mixed)(hS:ajo S:=by first|exact ax _|exact b_ _|exact dQ _ _|exact azL _ _)(ha:∀args K,S.run args K->args.length=np:=by first|(rintro _ _ ⟨_,⟨_,rfl,_⟩,_⟩;rfl)|(rintro _ _ ⟨_,⟨_,_,rfl,_⟩,_⟩;rfl)|(rintro _ _ ⟨_,⟨_,_,_,rfl,_⟩,_⟩;rfl)|(rintro _ _ ⟨_,rfl,_⟩;rfl)|(rintro _ _ ⟨_,⟨_,_,_,_,rfl,_⟩,_⟩;rfl)|(rintro _ _ ⟨_,_,rfl,_⟩;rfl)|(rintro _ _ ⟨_,⟨_,_,_,_,_,_,rfl,_⟩,_⟩;rfl)|(rintro _ _ ⟨_,_,_,rfl,_⟩;rfl)|(rintro _ _ ⟨_,⟨_,_,_,_,_,rfl,_⟩,_⟩;rfl)|(rintro _ _ ⟨_,_,_,_,rfl,_⟩;rfl)|(rintro _ _ ⟨_,⟨_,_,_,_,_,_,_,_,_,_,_,_,_,_,_,_,_,_,_,rfl,_⟩,_⟩;rfl)|(rintro _ _ ⟨_,⟨rfl,_⟩,_⟩;rfl)|(rintro _ _ ⟨_,⟨_,_,_,_,_,_,_,rfl,_⟩,_⟩;rfl)):bU P f S:=w.sound hm (CS.ok _ hΓ) hS ha h
def UA.aD{P:Program}{f:Nat}{pc:PC}{ps:List Nat}{rs:List (Nat×Option (Bool×Nat))}{np:Nat}(w:UA P f pc ps rs np){Γ:List (Nat×Spec)}{qS:List AV->aF->(AV->aF->Prop)->Prop}(hΓ:CS P Γ)(h:alk (ay Γ) ps pc rs (sB qS))(hm:P.follows .mixedOrders=true:=by exact mixed)(ha:∀xs σ K,qS xs σ K->xs.length=np:=by first|(rintro _ _ _ ⟨_,rfl,_⟩;rfl)|(rintro _ _ _ ⟨_,_,rfl,_⟩;rfl)|(rintro _ _ _ ⟨_,_,_,rfl,_⟩;rfl)|(rintro _ _ _ ⟨_,_,_,_,rfl,_⟩;rfl)|(rintro _ _ _ ⟨_,_,_,_,_,rfl,_⟩;rfl)|(rintro _ _ _ ⟨_,_,_,_,_,_,rfl,_⟩;rfl)|(rintro _ _ _ ⟨_,_,_,_,_,_,_,rfl,_⟩;rfl)|(rintro _ _ _ ⟨_,_,_,_,_,_,_,_,rfl,_⟩;rfl)|(rintro _ _ _ ⟨_,_,_,_,_,_,_,_,_,rfl,_⟩;rfl)):bU P f (sB qS):=w.rJ hm (CS.ok _ hΓ) ha h
section
section
variable (P:Program)
def Nb(t:TypeId)(K:TypeDesc->Prop):Prop:=match P.underlying t with|some d=>K d|none=>False
def N1(t:TypeId)(K:Nat->Nat->Option Value->Prop):Prop:=match P.info? t with|some ⟨_,_,n,b,_,_,_,z,_,_⟩=>K n b z|none=>False
def OI(t:TypeId)(K:TypeId->Nat->Nat->Prop):Prop:=Nb P t λd=>match d with| .slice e=>N1 P e λn b _=>K e n b|_=>False
def abx(t:TypeId)(K:Bool->Nat->Prop):Prop:=N1 P t λn _ _=>Nb P t λd=>match d with| .struct _=>K true n| .array _ _=>K true n|_=>K false 1
noncomputable def gnA{α:Type}(l m:List α)(K:List α->Prop):Prop:=List.rec (λK=>K m) (λa _ ih K=>ih λt=>K (a::t)) l K
noncomputable def ZA{α β:Type}(f:α->(β->Prop)->Prop)(l:List α):(List β->Prop)->Prop:=List.rec (λK=>K []) (λa _ ih K=>f a λb=>ih λt=>K (b::t)) l
noncomputable def gnN(n:Nat)(K:Nat->Prop):Prop:=Nat.rec (K 0) (λm _=>K (Nat.succ m)) n
noncomputable def gnR{α:Type}(x:List α)(n:Nat):(List α->Prop)->Prop:=Nat.rec (λK=>K []) (λ_ ih K=>ih λt=>gnA x t K) n
noncomputable def gnZ(n:Nat):TypeId->(List PV->Prop)->Prop:=Nat.rec (λ_ _=>False) (λ_ ih t K=>Nb P t λd=>match d with
 | .struct ⟨fs⟩=>List.rec (λK=>K []) (λf _ r K=>ih f.type λl=>r λm=>gnA l m K) fs K
 | .array m e=>ih e λl=>gnR l m K
 | .bool=>K [.bool false]
 | .int k=>K [.int k 0]
 | .string=>K [.str []]
 | .slice e=>N1 P e λn _ _=>K [.nil n]
 | .pointer _=>K [.val (.pointer none)]
 | .interface _=>K [.val .nilIface]
 | .func _ _ _=>K [.val .nilFunc]
 |_=>False) n
noncomputable def abo(t:TypeId)(K:PV->Prop):Prop:=abx P t λa _=>gnZ P 8 t λl=>match a with
 |true=>K (.agg l)
 |false=>(match l with
  |[x]=>K x
  |_=>False)
noncomputable def ab1(t:TypeId)(K:PV->Nat->Prop)(E:Prop):Prop:=Nb P t λd=>match d with
 | .array n e=>(match Nat.blt 8 n with
  |true=>abo P e λz=>K z n
  |false=>E)
 |_=>E
noncomputable def gnK(l:List Field):(List Nat->Prop)->Prop:=List.rec (λK=>K []) (λf _ ih K=>Nb P f.type λd=>match d with
 | .int _=>ih λt=>K (0::t)
 | .string=>ih λt=>K (1::t)
 | .bool=>ih λt=>K (2::t)
 |_=>False) l
def gnX(x:Operand)(K:Int->Prop)(E:Prop):Prop:=match x with| .const (.int _ n)=>K n|_=>E
noncomputable def ab2(n:Int)(s:Nat)(K:Nat->Prop):Prop:=gnN (n.toNat*s) K
noncomputable def gnF(t:TypeId)(f:Nat)(K:Nat->Bool->Nat->Prop):Prop:=Nb P t λd=>match d with
 | .struct ⟨fs⟩=>g_ fs f λ⟨_,ty,o,_,_,_,_⟩=>abx P ty λa n=>K o a n
 |_=>False
def ab7(x:Operand):Bool:=match x with| .const (.slice none 0 0)=>true|_=>false
noncomputable def abX(dr:Bool)(x:Operand)(t:TypeId)(K:PK->Prop):Prop:=match ab7 x with
 |true=>OI P t λe n _=>(match dr with|true=>K (.nilS n)|false=>K (.nilR e n))
 |false=>K (.mv x)
noncomputable def gnE(b:Bool)(t:TypeId)(x y:Operand)(K:PK->Prop):Prop:=Nb P t λd=>match d with
 | .bool=>K (.eqb b x y)
 | .slice _=>K (.isnil b x)
 | .struct ⟨fs⟩=>gnK P fs λks=>K (.eqs b ks x y)
 |_=>(match b with|true=>K (.bin .neq x y)|false=>K (.bin .eql x y))
noncomputable def gnC(dr:Bool)(c:Call)(K:PK->Prop):Prop:=match c with
 |⟨cl,⟨aLq⟩,⟨ts⟩⟩=>match cl with
  | .value f=>(match f with
   | .func f=>(match P.funcs[f]? with
    |some fn=>(match fn.body with
     |some _=>K (.call f aLq)
     |none=>K .fail)
    |none=>False)
   |_=>K (.callv f aLq))
  | .builtin b=>(match b,aLq,ts with
   | .len,[x],[t]=>(Nb P t λd=>match d with
    | .string=>K (.lenS x)
    |_=>(match dr with|true=>K (.lenN x)|false=>K (.lenR x)))
   | .append,[x,y],[t,u]=>(OI P t λe n b=>Nb P u λd=>match d with
    | .string=>K (.appS e b x y)
    |_=>K (.app e n b x y))
   | .copy,[x,y],[t,u]=>(OI P t λ_ n _=>Nb P u λd=>match d with
    | .string=>K (.cpyS x y)
    |_=>K (.cpy n x y))
   | .clear,[x],[t]=>OI P t λe n _=>abo P e λz=>K (.clr n z x)
   | .min,[x,y],_=>K (.mm false x y)
   | .max,[x,y],_=>K (.mm true x y)
   |_,_,_=>K .fail)
  |_=>K .fail
noncomputable def gnP(dr:Bool)(o:Op)(ty:TypeId)(K:PK->Prop):Prop:=match o with
 | .move x=>abX P dr x ty K
 | .assign x=>abX P dr x ty K
 | .pick c a b=>K (.pick c a b)
 | .binOp op t x y _=>(match op with
  | .eql=>gnE P false t x y K
  | .neq=>gnE P true t x y K
  |op=>K (.bin op x y))
 | .unOp op _ x=>K (.un op x)
 | .lookup _ x k c=>K (.look c x k)
 | .convert s d x=>(Nb P s λs=>Nb P d λd=>match s,d with
  | .string,.slice e=>K (.conv (.stb e) x)
  | .slice _,_=>K (.conv .bts x)
  | .string,_=>K (.conv .same x)
  |_,.int k=>K (.conv (.toInt k) x)
  |_,_=>False)
 | .load t x=>abx P t λa n=>K (.load a n x)
 | .store t x v=>N1 P t λn _ _=>K (.store n x v)
 | .alloc e=>ab1 P e (λz n=>K (.mkarr e 1 z n)) (abo P e λz=>K (.alloc e z))
 | .box e x=>K (.box e x)
 | .build t ⟨ps⟩=>(abo P t λz=>ZA (λp K=>match p with
  |(i,x)=>Nb P t λd=>match d with
   | .struct ⟨fs⟩=>g_ fs i λ⟨_,f,o,_,_,_,_⟩=>N1 P f λn _ _=>K (o,n,x)
   | .array _ e=>N1 P e λn _ _=>gnN (Nat.mul i n) λo=>K (o,n,x)
   |_=>False) ps λps=>match z with
   | .agg cs=>K (.build cs ps)
   |_=>False)
 | .buildSlice t _ ⟨ps⟩=>OI P t λe n _=>ZA (λp K=>match p with|(_,x)=>K x) ps λps=>(match dr with|true=>K (.bslP e n ps)|false=>K (.bslice e n ps))
 | .call c=>gnC P dr c K
 | .extract x i=>K (.ext x i)
 | .slice t x lo hi _=>(Nb P t λd=>match d with
  | .string=>K (.slcS x lo hi)
  | .slice e=>N1 P e λn _ _=>K (.slcR n x lo hi)
  | .array n _=>K (.slcA n 1 x lo hi)
  |_=>False)
 | .index t x i=>(Nb P t λd=>match d with
  | .array m e=>abx P e λa n=>gnX i (λk=>ab2 k n λo=>K (.fld o a n x)) (K (.idxV m n a n x i))
  |_=>K (.idx x i))
 | .indexAddr t x i=>(Nb P t λd=>match d with
  | .array m e=>ab1 P t (λ_ n=>K (.idxAr n 1 x i)) (N1 P e λn _ _=>gnX i (λk=>ab2 k n λo=>K (.fldA o x)) (K (.fldV m n x i)))
  |_=>OI P t λ_ n _=>K (.idxA n x i))
 | .fieldAddr t x f=>gnF P t f λo _ _=>K (.fldA o x)
 | .field t x f=>gnF P t f λo a n=>K (.fld o a n x)
 | .nilCheck x=>K (.nilck x)
 | .makeFunc f _ ⟨cs⟩=>(match f with
  | .func f=>K (.mkf f cs)
  |_=>False)
 | .makeSlice t l c=>OI P t λe n b=>abo P e λz=>K (.mksl e n b z l c)
 | .panic _=>K .fail
 | .makeInterface _ _=>K .junk
 |_=>False
noncomputable def gnO(dr:Bool)(ops:List Oper)(o:Oper)(K:PO->Prop):Prop:=match o with
 |⟨d,op,ty,_,_,g⟩=>gnP P dr op ty λk=>match g with
  |none=>K ⟨d,none,k⟩
  |some (j,w)=>g_ ops j λq=>match q with
   |⟨e,_,_,_,_,_⟩=>match e with
    |some e=>K ⟨d,some (e,w),k⟩
    |none=>False
noncomputable def gnB(l:List Edge):(List Nat->Prop)->Prop:=List.rec (λK=>K []) (λe _ ih K=>match e with
 |⟨i,gd⟩=>match gd with
  | .textOnly _=>ih K
  | .gcOnly _=>ih K
  |_=>ih λt=>K (i::t)) l
noncomputable def acb(c:Code):(List PO->Prop)->Prop:=
 Code.rec (motive:=λ_=>(List PO->Prop)->Prop) (λK=>K [])
  (λ_ ops _=>match ops with|⟨os⟩=>ZA (gnO P false os) os)
  (λ_ _ x y K=>x λl=>y λm=>gnA l m K)
  (λ_ _ _ _ _ _=>False) (λ_ _ _ _=>False) (λ_ _ _=>False) (λ_ _ _ _ _ _ _=>False) (λ_ _=>False) (λ_ _ _=>False) (λ_ _=>False) (λ_ _=>False) (λ_=>False) (λ_ _=>False) c
noncomputable def gnG(c:Code):List Bool->List (List Nat)->(PC->List Bool->List (List Nat)->Prop)->Prop:=
 Code.rec (motive:=λ_=>List Bool->List (List Nat)->(PC->List Bool->List (List Nat)->Prop)->Prop)
  (λb l K=>K .skip b l)
  (λ_ ops dr b l K=>match ops with
    |⟨ops⟩=>ZA (gnO P dr ops) ops λos=>match dr with
     |false=>K (.region os) b l
     |true=>ZA (λo K=>match o with|⟨_,_,_,_,⟨es⟩,_⟩=>gnB es K) ops λaf=>match b with
      |true::b=>K (.drawD os af) b l
      |_::b=>K (.draw os af) b l
      |b=>K (.draw os af) b l)
  (λ_ _ x y b l K=>x b l λp b l=>y b l λq b l=>K (.seq p q) b l)
  (λc _ _ x y b l K=>x b l λp b l=>y b l λq b l=>K (.cond c p q) b l)
  (λi _ x b l K=>x b l λp b l=>K (.block i p) b l)
  (λ_ x b l K=>match l with
    |v::l=>x b l λp b l=>K (.loop v p) b l
    |_=>False)
  (λf ps aLq _ _ y b l K=>match ps with
    |⟨ps⟩=>acb P aLq λos=>y b l λp b l=>K (.rangeF f ps os p) b l)
  (λi b l K=>K (.exit i) b l)
  (λ_ _ _ _ _=>False) (λ_ _ _ _=>False) (λ_ _ _ _=>False)
  (λb l K=>K .ret b l)
  (λ_ _ _ _=>False) c
noncomputable def aca(f:Func)(b:List Bool)(l:List (List Nat))(K:PC->Prop):Prop:=match f.body with|some c=>gnG P c b l λp _ _=>K p|none=>False
end
end
section
abbrev pI(n:Int):PV:=.int .i64 n
abbrev eN(k:Nat)(n:Int):Nat×AV:=(k,.pv (pI n))
abbrev pB(b:Bool):PV:=.bool b
def ng{n:Nat}{w:Nat}(h:n<2^w):(BitVec.ofInt w (n:Int)).toNat=n:=by
 rw[BitVec.ofInt_natCast,BitVec.toNat_ofNat,zcv h]
def Rm{n:Nat}(h:n<2^62):IntKind.i64.wrap (n:Int)=n:=by
 have:(2:Nat)^62=4611686018427387904:=ao;exact wrap64 ab
def aiF{a b:Nat}(ha:a<2^62)(hb:b<2^62):iz .and .i64 (a:Int) (b:Int)=((a&&&b:Nat):Int):=by
 unfold iz;have h1:a&&&b<2^62:=zct zcA ha;have e:IntKind.i64.bits=64:=rfl;simp only[e,BitVec.toNat_and];rw[ng (zaf ha ao),ng (zaf hb ao)];exact Rm h1
def ZV{n:Nat}(h:n<256):IntKind.u8.wrap (n:Int)=n:=by
 have hb:IntKind.u8.bits=8:=rfl;simp only[IntKind.wrap,IntKind.signed,hb];simp;omega
def O7{a k b:Nat}(h:a<2^k):a|||(2^k*b)=a+2^k*b:=by
 rw[Nat.or_comm,<-zcu h,zcK]
def PZ(a k:Nat):a&&&(2^k-1)=a%2^k:=zcq a k
def lV(n:Nat):UInt8:=UInt8.ofNat n
def qd{n:Nat}(h:n<256):(lV n).toNat=n:=by simp[lV];omega
def ue{n:Int}(h:0<=n/\n<256):PV.int .u8 n=aL (lV n.toNat):=by
 unfold aL;rw[qd ab];congr 1;omega
def bu{a b:Int}(h:a=b):pI a=pI b:=by rw[h]
def oH{a b:Bool}(h:a=true↔b=true):pB a=pB b:=by
 cases a<;>cases b<;>simp_all
def dn(l:List Int):∀x∈l.map pI,x.flat:=by
 intro x hx;obtain⟨t,_,rfl⟩:=zaX.1 hx;trivial
def aGn{l:List UInt8}{i:Nat}{K:PV->Prop}(h:i<l.length)(k:∀x,l[i]?=some x->x.toNat<256->K (aL x)):∃y,(0<=(i:Int)/\(l.map aL)[(i:Int).toNat]?=some y)/\K y:=
 ⟨aL l[i],⟨ab,QQ⟩,k _ (zah h) (zcr _)⟩
def aEY{α:Type}{f:α->PV}{l:List α}{i:Nat}{K:PV->Prop}(h:i<l.length)(k:∀x,l[i]?=some x->K (f x)):∃y,(l.map f)[(i:Int).toNat]?=some y/\K y:=
 ⟨f l[i],QQ,k _ (zah h)⟩
def aFU{l:List UInt8}{i:Nat}{K:PV->Prop}(h:i<l.length)(k:∀x,l[i]?=some x->x.toNat<256->K (aL x)):∃y,(l.map aL)[(i:Int).toNat]?=some y/\K y:=
 ⟨aL l[i],QQ,k _ (zah h) (zcr _)⟩
def aJm{l:List UInt8}{i:Nat}{K:PV->Prop}(h:i<l.length)(k:∀x,l[i]?=some x->x.toNat<256->K (aL x)):∃y,(l.map aL)[i]?=some y/\K y:=
 ⟨aL l[i],by rw[za9,zah h];rfl,k _ (zah h) (zcr _)⟩
def DW{n:Int}{K:Int->Prop}(h:0<=n/\n<=9223372036854775807)(k:K n):∀r:Int,r=IntKind.u64.wrap n->K r:=λr hr=>by
 have e:IntKind.u64.wrap n=n:=by
  have hb:IntKind.u64.bits=64:=rfl;simp only[IntKind.wrap,IntKind.signed,hb];simp;omega
 rw[hr,e];exact k
def awP{j:IntKind}{a:Int}{K:Int->Prop}(h:0<=a)(k:K (a/2)):0<=(1:Int)∧∀r:Int,r=a.fdiv (2^min (1:Int).toNat j.bits)->K r:=by
 refine⟨ao,λr hr=>?_⟩;have e8:min (1:Int).toNat j.bits=1:=by cases j<;>decide
 rw[e8,zb7 _ ao]at hr;rw[hr];exact k
def iY{α:Type}{f:α->PV}{l:List α}{i:Nat}{x:α}{K:PV->Prop}(h:l[i]?=some x)(k:K (f x)):∃y,(0<=(i:Int)/\(l.map f)[(i:Int).toNat]?=some y)/\K y:=
 ⟨f x,⟨ab,by rw[zaC,za9,h];rfl⟩,k⟩
def anF{α:Type}{f:α->PV}{l:List α}{i:Int}{x:α}{K:PV->Prop}(h0:0<=i)(h:l[i.toNat]?=some x)(k:K (f x)):∃y,(0<=i/\(l.map f)[i.toNat]?=some y)/\K y:=
 ⟨f x,⟨h0,by rw[za9,h];rfl⟩,k⟩
def aFA{α:Type}{f:α->PV}{l:List α}{i:Nat}{x:α}{K:PV->Prop}(h:l[i]?=some x)(k:K (f x)):∃y,(l.map f)[i]?=some y/\K y:=
 ⟨f x,by rw[za9,h];rfl,k⟩
def uM{α:Type}{f:α->PV}{l:List α}{i:Nat}{x:α}{K:PV->Prop}(h:l[i]?=some x)(k:K (f x)):∃y,(l.map f)[(i:Int).toNat]?=some y/\K y:=
 ⟨f x,by rw[zaC,za9,h];rfl,k⟩
def aJH{j:IntKind}{n:Int}{K:Int->Prop}(k:∀r,K r):∀r:Int,r=j.wrap n->K r:=λr _=>k r
def gRA{p:RV->Prop}(x:RV)(h:p x):∃x,p x:=⟨x,h⟩
def gRB{p:List RV->Prop}(x:List RV)(h:p x):∃x,p x:=⟨x,h⟩
def gRC{k:Nat}{p:Nat->Prop}(x:Nat)(h:x<k)(g:p x):∃x,x<k/\p x:=⟨x,h,g⟩
def yR{l:List UInt8}{K:List UInt8->Prop}(k:K l):∃l',l.map aL=l'.map aL/\K l':=⟨l,rfl,k⟩
def aJi{K:List UInt8->Prop}(k:K []):∃l':List UInt8,[]=l'.map aL/\K l':=⟨[],rfl,k⟩
def LX{α β:Type}{f:α->β}{a b:Nat}{l:List α}:cut a b (l.map f)=(cut a b l).map f:=by simp[cut]
def aqo{α:Type}{a b i:Nat}{l:List α}(h:a+i<b):(cut a b l)[i]?=l[a+i]?:=by
 unfold cut;rw[List.getElem?_drop,List.getElem?_take_of_lt h]
def awU{α:Type}{a b:Nat}{l:List α}(h:b<=l.length):(cut a b l).length=b-a:=by simp[cut];omega
def jk{α:Type}{l:List α}{x:α}:x∈l↔∃i:Nat,l[i]?=some x:=List.mem_iff_getElem?
def eT{α:Type}{l:List α}{i:Nat}{x:α}(h:l[i]?=some x):i<l.length:=by
 by_cases hi:i<l.length
 ·exact hi
 ·rw[zaK ab]at h;cases h
def get_inj{α:Type}{l:List α}{i:Nat}{x y:α}(h:l[i]?=some x)(h':l[i]?=some y):x=y:=Option.some.inj (h.symm.trans h')
def as_{α:Type}{f:α->PV}{x:α}{n:Nat}:List.replicate n (f x)=(List.replicate n x).map f:=by rw[zcm]
def oU{α β:Type}{f:α->β}{l:List α}{i:Nat}{x:α}:(l.map f).set i (f x)=(l.set i x).map f:=by rw[List.map_set]
def cQ{α:Type}(f:Nat->α)(n:Nat):List α:=(List.range n).map f
section
variable {α:Type} {f g:Nat->α} {n:Nat}
@[simp] theorem ck:(cQ f n).length=n:=by simp[cQ]
def bO{i:Nat}(h:i<n):(cQ f n)[i]?=some (f i):=by simp[cQ,h]
def ajb{i:Nat}{x:α}(h:(cQ f n)[i]?=some x):i<n/\x=f i:=by
 have hi:i<n:=by
  by_cases hi:i<n
  ·exact hi
  ·rw[zaK aH]at h;cases h
 rw[bO hi]at h;exact⟨hi,(Option.some.inj h).symm⟩
def kT(h:∀i,i<n->f i=g i):cQ f n=cQ g n:=by
 unfold cQ;apply zbC;intro i hi;exact h i (by simpa using hi)
def tg{i:Nat}{x:α}:(cQ f n).set i x=cQ (λj=>if j=i then x else f j) n:=by
 apply zba;intro j;by_cases hj:j<n
 ·rw[bO hj];by_cases h:j=i
  ·subst h;simp[hj]
  ·rw[zcG ab,bO hj,if_neg h]
 ·rw[zaK aH,zaK aH]
def Lt:cQ f (n+1)=cQ f n++[f n]:=by simp[cQ,List.range_succ]
def az2{l:List α}(h:∀i x,l[i]?=some x->x=f i):l=cQ f l.length:=by
 apply zba;intro i;by_cases hi:i<l.length
 ·rw[bO hi,zah hi];exact congrArg some (h i _ (zah hi))
 ·rw[zaK ab,zaK aH]
def ard{x:α}:List.replicate n x=cQ (λ_=>x) n:=by
 apply zba;intro j;by_cases hj:j<n
 ·rw[bO hj];simp[hj]
 ·rw[zaK aH,zaK aH]
def Vx{F:α->PV}{i:Nat}{K:PV->Prop}(h:i<n)(k:K (F (f i))):∃y,((cQ f n).map F)[i]?=some y/\K y:=⟨_,by rw[za9,bO h];rfl,k⟩
def Ug{F:α->PV}{i:Int}{p:Prop}(h:0<=i/\i<n)(k:p):(0<=i/\i.toNat<((cQ f n).map F).length)/\p:=by
 rw[zav,ck];exact⟨⟨h.1,ab⟩,k⟩
end
end
section
section
variable {α:Type}
def qK(f:Nat->α)(a n:Nat):List α:=(List.range n).map λi=>f (a+i)
def Mx(f:Nat->α)(a n k:Nat):qK f a (n+k)=qK f a n++qK f (a+n) k:=by
 unfold qK;rw[List.range_add,zbu,List.map_map];congr 1;apply zbC;intro i _;simp[zaJ]
def adO{f g:Nat->α}{a n:Nat}(h:∀j,a<=j->j<a+n->f j=g j):qK f a n=qK g a n:=by
 unfold qK;apply zbC;intro i hi;exact h _ ab (by simp at hi;omega)
def anK(f:Nat->α)(n:Nat):qK f 0 n=cQ f n:=by
 unfold qK cQ;simp
def an6{f:Nat->α}{a n:Nat}{x:α}:x∈qK f a n↔∃j,a<=j/\j<a+n/\f j=x:=by
 unfold qK;rw[zaX];constructor
 ·rintro⟨i,hi,rfl⟩;exact⟨a+i,ab,by simp at hi;omega,rfl⟩
 ·rintro⟨j,h1,h2,rfl⟩;exact⟨j-a,aH,by rw[show a+(j-a)=j by omega]⟩
def fg(a b:Nat)(f g:Nat->α):Prop:=(qK g a (b-a)).Perm (qK f a (b-a))∧∀j,¬(a<=j/\j<b)->g j=f j
def fg.refl(a b:Nat)(f:Nat->α):fg a b f f:=⟨.refl _,λ_ _=>rfl⟩
def fg.trans{a b:Nat}{f g h:Nat->α}(p:fg a b f g)(q:fg a b g h):fg a b f h:=
 ⟨q.1.trans p.1,λj hj=>(q.2 j hj).trans (p.2 j hj)⟩
def fg.wide{a b c d:Nat}{f g:Nat->α}(p:fg a b f g)(h1:c<=a)(h2:b<=d)(h3:a<=b):fg c d f g:=by
 refine⟨?_,λj hj=>p.2 j ab⟩;have e:d-c=(a-c)+((b-a)+(d-b)):=ab;rw[e,Mx,Mx,Mx f,Mx f];rw[show c+(a-c)=a by omega,show a+(b-a)=b by omega];rw[adO (f:=g) (g:=f) (a:=c) (n:=a-c) λj h4 h5=>p.2 j ab,adO (f:=g) (g:=f) (a:=b) (n:=d-b) λj h4 h5=>p.2 j ab];exact(p.1.append_right _).append_left _
def fg.mem{a b:Nat}{f g:Nat->α}(p:fg a b f g){j:Nat}(h1:a<=j)(h2:j<b):∃i,a<=i/\i<b/\g j=f i:=by
 have:g j∈qK g a (b-a):=an6.2 ⟨j,h1,ab,rfl⟩;obtain⟨i,h3,h4,h5⟩:=an6.1 (p.1.mem_iff.1 this);exact⟨i,h3,ab,h5.symm⟩
def fg.all{a b:Nat}{f g:Nat->α}{P:α->Prop}(p:fg a b f g)(h:∀j,P (f j))(j:Nat):P (g j):=by
 by_cases hj:a<=j/\j<b
 ·obtain⟨i,_,_,e⟩:=p.mem hj.1 hj.2;rw[e];exact h i
 ·rw[p.2 j hj];exact h j
def fg.perm{n:Nat}{f g:Nat->α}(p:fg 0 n f g):(cQ g n).Perm (cQ f n):=by
 have:=p.1;rw[zbX,anK,anK]at this;exact this
def FL(f:Nat->α)(i j:Nat):Nat->α:=λk=>if k=j then f i else if k=i then f j else f k
def YE(f:Nat->α){i:Nat}:fg i (i+2) f (FL f i (i+1)):=by
 refine⟨?_,λk hk=>?_⟩
 ·have:∀g:Nat->α,qK g i (i+2-i)=[g i,g (i+1)]:=by
   intro g;rw[show i+2-i=2 by omega];rfl
  rw[this,this];have s1:FL f i (i+1) i=f (i+1):=by unfold FL;rw[if_neg ab,if_pos rfl]
  have s2:FL f i (i+1) (i+1)=f i:=by unfold FL;rw[if_pos rfl]
  rw[s1,s2];exact .swap _ _ _
 ·unfold FL;rw[if_neg ab,if_neg ab]
def mJ(f:Nat->α)(a m b:Nat):Nat->α:=λj=>if a<=j/\j<a+(b-m)then f (j+(m-a))else if a+(b-m)<=j/\j<b then f (j-(b-m))else f j
def ap4(f:Nat->α){a m b:Nat}(h1:a<=m)(h2:m<=b):fg a b f (mJ f a m b):=by
 refine⟨?_,λj hj=>?_⟩
 ·have e:b-a=(b-m)+(m-a):=by omega
  have e1:qK (mJ f a m b) a (b-m)=qK f m (b-m):=by
   unfold qK;apply zbC;intro i hi;simp at hi;unfold mJ;rw[if_pos ab];congr 1;omega
  have e2:qK (mJ f a m b) (a+(b-m)) (m-a)=qK f a (m-a):=by
   unfold qK;apply zbC;intro i hi;simp at hi;unfold mJ;rw[if_neg ab,if_pos ab];congr 1;omega
  rw[e,Mx,e1,e2,zcK (b-m),Mx,show a+(m-a)=m by omega];exact List.perm_append_comm
 ·unfold mJ;rw[if_neg ab,if_neg ab]
def M4(f:Nat->α)(a b n:Nat):Nat->α:=λj=>if a<=j/\j<a+n then f (j-a+b)else if b<=j/\j<b+n then f (j-b+a)else f j
structure Ord(lt:α->α->Bool):Prop where
 asymm:∀x y,lt x y=true->lt y x=false
 trans:∀x y z,lt y x=false->lt z y=false->lt z x=false
variable {lt:α->α->Bool}
def bl(lt:α->α->Bool)(a b:Nat)(f:Nat->α):Prop:=∀i j,a<=i->i<=j->j<b->lt (f j) (f i)=false
def Ord.irrefl(o:Ord lt)(x:α):lt x x=false:=by
 cases h:lt x x with
 |false=>rfl
 |true=>have:=o.asymm x x h;rw[h]at this;cases this
def Vn(o:Ord lt){a b:Nat}{f:Nat->α}(h:∀i,a<=i->i+1<b->lt (f (i+1)) (f i)=false):bl lt a b f:=by
 intro i j h1 h2 h3;obtain⟨d,rfl⟩:∃d,j=i+d:=⟨j-i,ab⟩
 clear h2
 induction d with
 |zero=>exact o.irrefl _
 |succ d ih=>exact o.trans _ _ _ (ih ab) (h (i+d) ab ab)
def nO{a m b:Nat}{f:Nat->α}(h1:bl lt a m f)(h2:bl lt m b f)(h:∀i j,a<=i->i<m->m<=j->j<b->lt (f j) (f i)=false):bl lt a b f:=by
 intro i j hi zk hj;by_cases h3:j<m
 ·exact h1 i j hi zk h3
 ·by_cases h4:i<m
  ·exact h i j hi h4 ab hj
  ·exact h2 i j ab zk hj
def amH{a b c d:Nat}{f:Nat->α}(h:bl lt a b f)(h1:a<=c)(h2:d<=b):bl lt c d f:=λi j hi zk hj=>h i j ab zk ab
def dM{a b:Nat}{f g:Nat->α}(h:bl lt a b f)(e:∀j,a<=j->j<b->g j=f j):bl lt a b g:=λi j hi zk hj=>by
 rw[e j ab hj,e i hi ab];exact h i j hi zk hj
def DM(o:Ord lt){a k i:Nat}{f:Nat->α}(hf:bl lt a i f)(hk:a<=k)(hki:k<=i)(h1:∀j,k<=j->j<i->lt (f i) (f j)=true)(h2:a<k->lt (f i) (f (k-1))=false):
 bl lt a (i+1) (λj=>if j=k then f i else if k<j/\j<=i then f (j-1)else f j):=by
 apply Vn o;intro j hj hji;show lt (if j+1=k then f i else if k<j+1/\j+1<=i then f (j+1-1)else f (j+1)) (if j=k then f i else if k<j/\j<=i then f (j-1)else f j)=false;by_cases e1:j+1=k
 ·rw[if_pos e1,if_neg ab,if_neg ab];have:=h2 ab;rw[<-e1]at this;simpa using this
 ·rw[if_neg e1];by_cases e2:j=k
  ·rw[if_pos e2,if_pos ab,zcg];exact o.asymm _ _ (h1 j ab ab)
  ·rw[if_neg e2];by_cases e3:k<j
   ·rw[if_pos ab,if_pos ab,zcg];exact hf (j-1) j ab ab ab
   ·rw[if_neg ab,if_neg ab];exact hf j (j+1) hj ab ab
def afC(o:Ord lt){a m b mid s e:Nat}{f:Nat->α}(h1:bl lt a m f)(h2:bl lt m b f)(has:a<=s)(JL:s<=m)(iE:m<=e)(heb:e<=b)(aO5:mid=s+(e-m))
 (hA:a<s->e<b->lt (f e) (f (s-1))=false) (hB:m<e->s<m->lt (f (e-1)) (f s)=true):
 bl lt a s (mJ f s m e)/\bl lt s mid (mJ f s m e)/\bl lt mid e (mJ f s m e)/\bl lt e b (mJ f s m e)/\
 (∀i j,a<=i->i<mid->mid<=j->j<b->lt (mJ f s m e j) (mJ f s m e i)=false):=by
 have r1:∀j,j<s->mJ f s m e j=f j:=λj hj=>by unfold mJ;rw[if_neg ab,if_neg ab]
 have r2:∀j,s<=j->j<mid->mJ f s m e j=f (j+(m-s)):=λj hj Gx=>by unfold mJ;rw[if_pos ab]
 have r3:∀j,mid<=j->j<e->mJ f s m e j=f (j-(e-m)):=λj hj Gx=>by unfold mJ;rw[if_neg ab,if_pos ab]
 have r4:∀j,e<=j->mJ f s m e j=f j:=λj hj=>by unfold mJ;rw[if_neg ab,if_neg ab]
 refine⟨λi j hi zk hj=>?_,λi j hi zk hj=>?_,λi j hi zk hj=>?_,λi j hi zk hj=>?_,λi j hi Ra hj sy=>?_⟩
 ·rw[r1 j hj,r1 i ab];exact h1 i j hi zk ab
 ·rw[r2 j ab hj,r2 i hi ab];exact ZP
 ·rw[r3 j ab hj,r3 i hi ab];exact h1 _ _ ab ab ab
 ·rw[r4 j ab,r4 i hi];exact ZP
 ·by_cases j9:i<s
  ·rw[r1 i j9];by_cases Gx:j<e
   ·rw[r3 j hj Gx];exact h1 _ _ ab ab ab
   ·rw[r4 j ab];refine o.trans _ _ _ (h1 i (s-1) hi ab ab) (o.trans _ _ _ (hA ab ab) (h2 e j iE ab sy))
  ·rw[r2 i ab Ra];by_cases Gx:j<e
   ·rw[r3 j hj Gx];refine o.trans _ _ _ (h2 _ (e-1) ab ab ab) (o.trans _ _ _ (o.asymm _ _ (hB ab ab)) (h1 s _ ab ab ab))
   ·rw[r4 j ab];exact ZP
end
end
end Go.Dv
namespace Go.Dv.Try
open Go Go.Dv Go.Proofs.Tryz Go.Proofs.Tryz
abbrev RL:=List (Nat×Option (Bool×Nat))
def mixed:Go.Proofs.Tryz.prog.follows .mixedOrders=true:=ak
noncomputable abbrev bb:Program:=Go.Proofs.Tryz.prog
structure FC where
 s:List Nat
 r:RL
 c:PC
abbrev MT(Γ:Ctx)(f:FC)(S:Spec):=atQ Γ f.s f.c f.r S
abbrev gO(Γ:Ctx)(f:FC)(S:Spec):=alk Γ f.s f.c f.r S
abbrev CO(n:Nat)(f:FC)(k:Nat):=UA bb n f.c f.s f.r k
set_option maxRecDepth 100000
def aaq(f:Func)(b:List Bool)(l:List (List Nat)){x:PC}(h:aca bb f b l (· =x):=by conv=>whnf):PC:=x
abbrev rf:Nat:=131
abbrev mn:Nat:=189
abbrev uJ:Nat:=224
abbrev gF:Nat:=297
abbrev cT:Nat:=219
def WC:FC:=⟨[0,1,2,3,4,5,6,8,10],[⟨0,none⟩],aaq f12 [] []⟩
def ahh:CO 12 WC 0:=bk f12 ak
def adK:FC:=⟨[0,1,2,3],[⟨2,none⟩],aaq f13 [] [[1,3]]⟩
def amU:CO 13 adK 1:=bk f13 ak
def MG:FC:=⟨[0,1,2,4,5,6,7],[⟨4,none⟩,⟨5,none⟩],aaq f14 [] []⟩
def aci:CO 14 MG 2:=bk f14 ak
def Zt:FC:=⟨[0,1,2],[⟨2,some (⟨true,3⟩)⟩],aaq f15 [true] []⟩
def aj6:CO 15 Zt 1:=bk f15 ak
def Jy:FC:=⟨[0,1,2,4],[⟨2,none⟩],aaq f16 [] []⟩
def abG:CO 16 Jy 1:=bk f16 ak
def HY:FC:=⟨[0,1,4,5],[⟨4,none⟩],aaq f18 [] [[0,1,5]]⟩
def V8:CO 18 HY 2:=bk f18 ak
def E8:FC:=⟨[0,1,2,3,4,5],[⟨2,none⟩,⟨3,none⟩],aaq f20 [] []⟩
def Vm:CO 20 E8 1:=bk f20 ak
def Qb:FC:=⟨[0,1,2,3,4,5,6,7,8,34,35],[⟨2,some (⟨true,4⟩)⟩,⟨3,none⟩],aaq f22 [true] [[2,4,7,34,35]]⟩
def aef:CO 22 Qb 1:=bk f22 ak
def Wv:FC:=⟨[0,1,2,3,4,5,6,7],[⟨2,none⟩,⟨3,none⟩],aaq f23 [true] [[1,6]]⟩
def ahl:CO 23 Wv 1:=bk f23 ak
def Nh:FC:=⟨[0,1,2,4,5],[⟨4,some (⟨true,3⟩)⟩,⟨5,none⟩],aaq f27 [] []⟩
def acQ:CO 27 Nh 2:=bk f27 ak
def xg:FC:=⟨[0,1,2,6],[⟨6,none⟩],aaq f32 [] []⟩
def DQ:CO 32 xg 3:=bk f32 ak
def NJ:FC:=⟨[0,1,2,3,4,5,6,7,8,9,10],[⟨4,none⟩,⟨5,none⟩],aaq f42 [true,true,true,true] []⟩
def acv:CO 42 NJ 2:=bk f42 ak
def ME:FC:=⟨[0,1,2,3,4,5,6,7],[⟨2,none⟩,⟨3,none⟩],aaq f45 [true] [[1,4,5]]⟩
def acH:CO 45 ME 1:=bk f45 ak
def abd:FC:=⟨[0,1,4,5],[⟨4,none⟩],aaq f46 [] [[0,1,5]]⟩
def akr:CO 46 abd 2:=bk f46 ak
def abI:FC:=⟨[0,1,2,3,4,5],[⟨2,none⟩],aaq f53 [] [[1,3,4],[1,3,4,5]]⟩
def aj2:CO 53 abI 1:=bk f53 ak
def yk:FC:=⟨[0,1,2],[⟨2,some (⟨true,11⟩)⟩],aaq f55 [] []⟩
def Jn:CO 55 yk 1:=bk f55 ak
def Io:FC:=⟨[0,2,3],[⟨2,none⟩],aaq f57 [] [[0,3]]⟩
def X4:CO 57 Io 1:=bk f57 ak
def Mc:FC:=⟨[0,1,2,4,5,6,7,8,9,11,12,36,37,38],[⟨4,none⟩,⟨5,some (⟨true,3⟩)⟩,⟨6,none⟩],aaq f58 [] [[5,7,9,36,37,38]]⟩
def ac_:CO 58 Mc 2:=bk f58 ak
def JX:FC:=⟨[0,2],[⟨2,none⟩],aaq f59 [] []⟩
def abS:CO 59 JX 1:=bk f59 ak
def Ln:FC:=⟨[0,2,3],[⟨2,none⟩],aaq f60 [] [[0,3]]⟩
def adz:CO 60 Ln 1:=bk f60 ak
def S2:FC:=⟨[0,1,2],[⟨0,some (⟨true,3⟩)⟩],aaq f62 [true] []⟩
def afS:CO 62 S2 0:=bk f62 ak
def Iu:FC:=⟨[0,1,2,4,5,6,7],[⟨4,some (⟨true,3⟩)⟩,⟨5,none⟩],aaq f63 [true] []⟩
def X0:CO 63 Iu 2:=bk f63 ak
def AT:FC:=⟨[0,1,2,4,5,7,8,15,16,17],[⟨4,none⟩],aaq f64 [] [[5,15,16,17]]⟩
def QO:CO 64 AT 2:=bk f64 ak
def Al:FC:=⟨[0,2,3,4],[⟨2,none⟩],aaq f65 [] [[0,3,4]]⟩
def QD:CO 65 Al 1:=bk f65 ak
def Xg:FC:=⟨[0,2,4,5,6,7],[⟨2,none⟩],aaq f66 [] [[5,6,7]]⟩
def ahj:CO 66 Xg 1:=bk f66 ak
def Bm:FC:=⟨[0,1,2],[⟨2,none⟩],aaq f67 [] []⟩
def Pw:CO 67 Bm 1:=bk f67 ak
def Tg:FC:=⟨[0,1,4],[⟨4,none⟩],aaq f68 [] []⟩
def agB:CO 68 Tg 2:=bk f68 ak
def aay:FC:=⟨[0,1,2,3,4,5,11,12],[⟨2,none⟩],aaq f69 [] [[1,3,11,12]]⟩
def aj1:CO 69 aay 1:=bk f69 ak
def l4:FC:=⟨[0,1,4,5,6,7,8,9,10,11],[⟨4,none⟩,⟨5,none⟩],aaq f70 [] [[1,9,10,11]]⟩
def wI:CO 70 l4 2:=bk f70 ak
def y0:FC:=⟨[0,1,2,3,5,6,7],[⟨6,none⟩],aaq f71 [] []⟩
def OH:CO 71 y0 4:=bk f71 ak
def xD:FC:=⟨[0,1,2,3,4,6],[⟨4,none⟩],aaq f72 [] []⟩
def Kp:CO 72 xD 2:=bk f72 ak
def WN:FC:=⟨[0,1,2,4,6,8,9,11,12,13],[⟨6,none⟩],aaq f73 [] [[0,2,11,12,13],[0,2,8,9,11,12,13]]⟩
def ahn:CO 73 WN 3:=bk f73 ak
def acd:FC:=⟨[0,1,2,3,5],[⟨2,some (⟨true,3⟩)⟩,⟨3,none⟩],aaq f74 [] []⟩
def ajc:CO 74 acd 1:=bk f74 ak
def AU:FC:=⟨[0,1,2,3,4,5,12,13,14],[⟨2,none⟩],aaq f75 [] [[3,12,13,14]]⟩
def Q5:CO 75 AU 1:=bk f75 ak
def Ey:FC:=⟨[0,1,2,4,5,6,7,8,10,11,12],[⟨4,none⟩],aaq f76 [] [[1,5,10,11,12]]⟩
def VX:CO 76 Ey 2:=bk f76 ak
def NU:FC:=⟨[2],[⟨2,none⟩],aaq f77 [] []⟩
def acz:CO 77 NU 1:=bk f77 ak
def adB:FC:=⟨[0,2,3,5,6,7,8],[⟨2,none⟩],aaq f78 [] [[3,6,7,8]]⟩
def anc:CO 78 adB 1:=bk f78 ak
def dy:FC:=⟨[0,1,4,5,6],[⟨4,some (⟨true,2⟩)⟩],aaq f79 [] [[0,1,4,5,6]]⟩
def mC:CO 79 dy 2:=bk f79 ak
def Mp:FC:=⟨[0,1,2,3,4],[⟨4,none⟩],aaq f80 [] []⟩
def acw:CO 80 Mp 2:=bk f80 ak
def WJ:FC:=⟨[0,2,3,4,5,6],[⟨2,none⟩],aaq f81 [] [[0,3,4],[0,3,4,5,6]]⟩
def ahe:CO 81 WJ 1:=bk f81 ak
def ZL:FC:=⟨[0,1,4,5],[⟨4,none⟩],aaq f83 [] [[0,1,5]]⟩
def alj:CO 83 ZL 2:=bk f83 ak
def PF:FC:=⟨[0,1,2,3,4,8,9,10,11,12,13],[⟨8,some (⟨true,3⟩)⟩,⟨9,none⟩],aaq f85 [] []⟩
def adZ:CO 85 PF 4:=bk f85 ak
def LB:FC:=⟨[0,1,2],[⟨2,none⟩],aaq f86 [] []⟩
def acy:CO 86 LB 1:=bk f86 ak
def nT:FC:=⟨[0,1,4],[⟨4,none⟩],aaq f88 [] []⟩
def ya:CO 88 nT 2:=bk f88 ak
def H_:FC:=⟨[0,1,2,3,4,5,14,15,16],[⟨2,some (⟨true,3⟩)⟩],aaq f90 [true] [[2,3,14,15,16]]⟩
def Xz:CO 90 H_ 1:=bk f90 ak
def Q8:FC:=⟨[0,1,2,6],[⟨6,none⟩],aaq f92 [] []⟩
def af0:CO 92 Q8 3:=bk f92 ak
def PL:FC:=⟨[0,1,2,6,7],[⟨6,none⟩,⟨7,none⟩],aaq f93 [] []⟩
def ad7:CO 93 PL 3:=bk f93 ak
def Ha:FC:=⟨[0,2],[⟨2,none⟩],aaq f97 [] []⟩
def Qc:CO 97 Ha 1:=bk f97 ak
def Cb:FC:=⟨[0,1,2,3,4,5,6,7,8],[⟨4,some (⟨true,3⟩)⟩,⟨5,none⟩],aaq f99 [true] []⟩
def Ri:CO 99 Cb 2:=bk f99 ak
def D3:FC:=⟨[0,1,2,3,4,5,7,8,9],[⟨8,some (⟨true,3⟩)⟩],aaq f100 [true] []⟩
def VD:CO 100 D3 4:=bk f100 ak
def JW:FC:=⟨[0,1,2,3,4,5,7,8,9,10,11,12,13,14,15,16,17,61,62],[⟨8,some (⟨true,2⟩)⟩,⟨9,some (⟨true,11⟩)⟩,⟨10,none⟩],aaq f101 [true,true] [[2,5,7,8,9,11,14,15,61,62]]⟩
def ZH:CO 101 JW 4:=bk f101 ak
def BN:FC:=⟨[0,1,2,3,4,5,6,7],[⟨4,none⟩,⟨5,none⟩],aaq f102 [] []⟩
def Pe:CO 102 BN 2:=bk f102 ak
def Dm:FC:=⟨[0,1,3],[⟨3,none⟩],aaq f103 [] []⟩
def SK:CO 103 Dm 2:=bk f103 ak
def dE:FC:=⟨[0,1,4,5,6,7],[⟨4,none⟩],aaq f108 [] [[0,1,5,6]]⟩
def iL:CO 108 dE 2:=bk f108 ak
def JS:FC:=⟨[0,2,4,5,6,7],[⟨2,none⟩],aaq f111 [] [[5,6,7]]⟩
def agP:CO 111 JS 1:=bk f111 ak
def qn:FC:=⟨[0,1,2,3],[⟨2,none⟩],aaq f112 [] []⟩
def Bp:CO 112 qn 1:=bk f112 ak
def Ij:FC:=⟨[0,1,4],[⟨4,none⟩],aaq f113 [] []⟩
def VM:CO 113 Ij 2:=bk f113 ak
def DC:FC:=⟨[0,2,3,5,6,7,8,9,14,15],[⟨2,none⟩],aaq f114 [] [[3,7,8,9],[3,5,7,8,9,14,15]]⟩
def QY:CO 114 DC 1:=bk f114 ak
def HV:FC:=⟨[0,2],[⟨2,none⟩],aaq f115 [] []⟩
def VF:CO 115 HV 1:=bk f115 ak
def Ih:FC:=⟨[0,2],[⟨2,none⟩],aaq f116 [] []⟩
def VZ:CO 116 Ih 1:=bk f116 ak
def my:FC:=⟨[0,1,4,5,6,7,8,9,10,11],[⟨4,none⟩,⟨5,none⟩],aaq f117 [] [[1,9,10,11]]⟩
def wC:CO 117 my 2:=bk f117 ak
def Eg:FC:=⟨[1,3,4],[⟨4,none⟩],aaq f118 [] []⟩
def V0:CO 118 Eg 2:=bk f118 ak
def E7:FC:=⟨[0,1,2,3,4,5,6,7,8,9,10,33],[⟨4,some (⟨true,2⟩)⟩,⟨5,some (⟨true,3⟩)⟩],aaq f119 [true,true,true,true] []⟩
def Wa:CO 119 E7 2:=bk f119 ak
def Iw:FC:=⟨[0,1,2,3,4,5,8,9,10,11,12,13],[⟨8,none⟩,⟨9,none⟩],aaq f120 [] []⟩
def VS:CO 120 Iw 4:=bk f120 ak
def Fi:FC:=⟨[0,1,2,3,4,5,8,9,10,11,12,13,14,15],[⟨8,some (⟨true,2⟩)⟩,⟨9,some (⟨true,11⟩)⟩,⟨10,none⟩],aaq f121 [true,false,true] []⟩
def Tr:CO 121 Fi 4:=bk f121 ak
def Gb:FC:=⟨[0,1,2,3,4,6,7,8,9,10,11],[⟨6,some (⟨true,2⟩)⟩,⟨7,some (⟨true,11⟩)⟩,⟨8,none⟩],aaq f122 [true] []⟩
def Us:CO 122 Gb 3:=bk f122 ak
def Ir:FC:=⟨[0,1,2,3,4,5,8,9,10,11,12,13,14,15,16],[⟨8,some (⟨true,2⟩)⟩,⟨9,some (⟨true,11⟩)⟩,⟨10,none⟩],aaq f123 [false,false,true] []⟩
def WL:CO 123 Ir 4:=bk f123 ak
def zy:FC:=⟨[0,1,2],[⟨2,none⟩],aaq f124 [] []⟩
def MV:CO 124 zy 1:=bk f124 ak
def xX:FC:=⟨[0,1,4,5],[⟨4,none⟩],aaq f125 [] []⟩
def JV:CO 125 xX 2:=bk f125 ak
def Lm:FC:=⟨[0,1,2,6,7,8,9],[⟨6,none⟩,⟨7,none⟩],aaq f126 [] []⟩
def X7:CO 126 Lm 3:=bk f126 ak
def Of:FC:=⟨[0,1,2,3,4,5,6,7,8,9],[⟨4,none⟩,⟨5,none⟩],aaq f127 [false,true] []⟩
def acu:CO 127 Of 2:=bk f127 ak
def DA:FC:=⟨[0,1,4,5,6],[⟨4,none⟩],aaq f128 [] []⟩
def Q_:CO 128 DA 2:=bk f128 ak
def Ml:FC:=⟨[0,1,2,6,7,8,9,10,11,29,30],[⟨6,none⟩,⟨7,none⟩],aaq f130 [] [[2,8,10,29,30]]⟩
def ac7:CO 130 Ml 3:=bk f130 ak
def qE:FC:=⟨[0,1,4,5,7,8],[⟨4,none⟩],aaq f133 [] [[0,1,7,8]]⟩
def Cq:CO 133 qE 2:=bk f133 ak
def dc:FC:=⟨[0,2],[⟨2,none⟩],aaq f134 [] []⟩
def iH:CO 134 dc 1:=bk f134 ak
def eu:FC:=⟨[0,2],[⟨2,none⟩],aaq f135 [] []⟩
def jS:CO 135 eu 1:=bk f135 ak
def Ld:FC:=⟨[0,1,2,3,8,9,10,11],[⟨8,none⟩,⟨9,none⟩],aaq f136 [] []⟩
def acn:CO 136 Ld 4:=bk f136 ak
def tx:FC:=⟨[0,1,2,5,6,7,8,9,10],[⟨6,none⟩],aaq f140 [false,true] []⟩
def EH:CO 140 tx 3:=bk f140 ak
def H9:FC:=⟨[0,1,2,6,7,8,9],[⟨6,none⟩,⟨7,none⟩],aaq f141 [] []⟩
def VE:CO 141 H9 3:=bk f141 ak
def Lf:FC:=⟨[0,1,2,3,4,5,6,10,11],[⟨2,none⟩],aaq f142 [] [[1,3,4,10,11]]⟩
def Zs:CO 142 Lf 1:=bk f142 ak
def tP:FC:=⟨[0,1,4],[⟨4,none⟩],aaq f143 [] []⟩
def Fk:CO 143 tP 2:=bk f143 ak
def J_:FC:=⟨[0,2,3,5,6,7,16,17,18],[⟨2,none⟩],aaq f144 [] [[5,16,17,18]]⟩
def aa6:CO 144 J_ 1:=bk f144 ak
def tB:FC:=⟨[0,2,3,5,6,9,23,24,25,46,47,48],[⟨2,none⟩],aaq f145 [] [[0,3,23,24,25],[0,3,46,47,48]]⟩
def Fx:CO 145 tB 1:=bk f145 ak
def dI:FC:=⟨[0,1,4,5,7,8],[⟨4,none⟩],aaq f147 [] [[0,1,7,8]]⟩
def iO:CO 147 dI 2:=bk f147 ak
def DG:FC:=⟨[0,2,4,5,6,7],[⟨2,none⟩],aaq f148 [] [[5,6,7]]⟩
def QM:CO 148 DG 1:=bk f148 ak
def AX:FC:=⟨[0,1,4],[⟨4,none⟩],aaq f149 [] []⟩
def OP:CO 149 AX 2:=bk f149 ak
def BQ:FC:=⟨[0,2,4],[⟨2,none⟩],aaq f150 [] []⟩
def O8:CO 150 BQ 1:=bk f150 ak
def zB:FC:=⟨[0,2],[⟨2,none⟩],aaq f151 [] []⟩
def MX:CO 151 zB 1:=bk f151 ak
def Cr:FC:=⟨[0,1,2,6],[⟨6,none⟩],aaq f152 [] []⟩
def OM:CO 152 Cr 3:=bk f152 ak
def tl:FC:=⟨[0,1,2,3],[⟨2,none⟩],aaq f153 [] []⟩
def EF:CO 153 tl 1:=bk f153 ak
def xW:FC:=⟨[0,1,2,3,5,6,7,8],[⟨2,none⟩],aaq f154 [true] []⟩
def KZ:CO 154 xW 1:=bk f154 ak
def zr:FC:=⟨[0,1,2,3,4,5,6],[⟨2,none⟩],aaq f155 [false,true] []⟩
def MZ:CO 155 zr 1:=bk f155 ak
def Dj:FC:=⟨[0,2],[⟨2,none⟩],aaq f156 [] []⟩
def Qq:CO 156 Dj 1:=bk f156 ak
def HS:FC:=⟨[0,1,4],[⟨4,none⟩],aaq f157 [] []⟩
def WH:CO 157 HS 2:=bk f157 ak
def tz:FC:=⟨[0,1,3,4,5,6],[⟨4,some (⟨true,2⟩)⟩,⟨5,some (⟨true,11⟩)⟩,⟨6,none⟩],aaq f158 [] []⟩
def FU:CO 158 tz 2:=bk f158 ak
def wc:FC:=⟨[0,2],[⟨2,none⟩],aaq f159 [] []⟩
def IJ:CO 159 wc 1:=bk f159 ak
def zF:FC:=⟨[0,1,2,4],[⟨4,none⟩],aaq f160 [] []⟩
def MD:CO 160 zF 3:=bk f160 ak
def zw:FC:=⟨[0,1,4],[⟨4,none⟩],aaq f161 [] []⟩
def MO:CO 161 zw 2:=bk f161 ak
def wh:FC:=⟨[0,1,2,4],[⟨4,none⟩],aaq f162 [] []⟩
def IP:CO 162 wh 2:=bk f162 ak
def zz:FC:=⟨[0,2],[⟨2,some (⟨true,2⟩)⟩],aaq f163 [] []⟩
def Nr:CO 163 zz 1:=bk f163 ak
def zW:FC:=⟨[0,1,3],[⟨3,none⟩],aaq f164 [] []⟩
def M1:CO 164 zW 2:=bk f164 ak
def KU:FC:=⟨[0,2],[⟨2,none⟩],aaq f165 [] []⟩
def Zn:CO 165 KU 1:=bk f165 ak
def vq:FC:=⟨[0,1,4],[⟨4,some (⟨true,11⟩)⟩],aaq f166 [] []⟩
def Hn:CO 166 vq 2:=bk f166 ak
def x4:FC:=⟨[0,1,3,4,5,6,7,8,9,10,11,12,13,14,83,84,85],[⟨4,some (⟨true,2⟩)⟩,⟨5,some (⟨true,11⟩)⟩,⟨6,none⟩],aaq f167 [true,true] [[4,5,8,9,11,12,83,84,85]]⟩
def K_:CO 167 x4 2:=bk f167 ak
def BI:FC:=⟨[0,1,2,3,5],[⟨5,none⟩],aaq f168 [] []⟩
def OY:CO 168 BI 4:=bk f168 ak
def xB:FC:=⟨[0,1,2,3,6],[⟨6,none⟩],aaq f169 [] []⟩
def Kz:CO 169 xB 3:=bk f169 ak
def ze:FC:=⟨[0,1,2,6],[⟨6,none⟩],aaq f170 [] []⟩
def Iz:CO 170 ze 3:=bk f170 ak
def Oc:FC:=⟨[0,2],[⟨2,none⟩],aaq f171 [] []⟩
def acL:CO 171 Oc 1:=bk f171 ak
def Ig:FC:=⟨[0,1,4],[⟨4,none⟩],aaq f172 [] []⟩
def Vz:CO 172 Ig 2:=bk f172 ak
def NM:FC:=⟨[0,1,4,5],[⟨4,some (⟨true,2⟩)⟩,⟨5,none⟩],aaq f173 [] []⟩
def acs:CO 173 NM 2:=bk f173 ak
def Bv:FC:=⟨[0,2,4,5,6,7],[⟨2,none⟩],aaq f174 [] [[5,6,7]]⟩
def Yw:CO 174 Bv 1:=bk f174 ak
def AR:FC:=⟨[0,1,2,4],[⟨4,none⟩],aaq f175 [] []⟩
def Pr:CO 175 AR 2:=bk f175 ak
def B3:FC:=⟨[0,1,2,3,4],[⟨2,none⟩],aaq f176 [] []⟩
def OK:CO 176 B3 1:=bk f176 ak
def rq:FC:=⟨[0,2,3,5,6,22,23,24],[⟨2,none⟩],aaq f177 [] [[0,3,22,23,24]]⟩
def CD:CO 177 rq 1:=bk f177 ak
def r7:FC:=⟨[0,2,3,5,6,71,72,73],[⟨2,none⟩],aaq f178 [] [[3,71,72,73]]⟩
def Ei:CO 178 r7 1:=bk f178 ak
def oS:FC:=⟨[0,2],[⟨2,none⟩],aaq f179 [] []⟩
def yF:CO 179 oS 1:=bk f179 ak
def sm:FC:=⟨[0,2,3,4,5,6,7,8,10,11,12],[⟨2,none⟩],aaq f180 [] [[0,10,11,12]]⟩
def DR:CO 180 sm 1:=bk f180 ak
def HZ:FC:=⟨[0,2],[⟨2,none⟩],aaq f181 [] []⟩
def VK:CO 181 HZ 1:=bk f181 ak
def Jz:FC:=⟨[0,2,3],[⟨2,some (⟨true,2⟩)⟩,⟨3,none⟩],aaq f182 [] []⟩
def ZZ:CO 182 Jz 1:=bk f182 ak
def Fp:FC:=⟨[0,1,2,3,6],[],aaq f183 [] []⟩
def VC:CO 183 Fp 3:=bk f183 ak
def nM:FC:=⟨[0,1,4,5],[⟨4,none⟩,⟨5,none⟩],aaq f187 [] []⟩
def yq:CO 187 nM 2:=bk f187 ak
def wi:FC:=⟨[0,2],[⟨2,none⟩],aaq f188 [] []⟩
def IM:CO 188 wi 1:=bk f188 ak
def Fv:FC:=⟨[0,1,2,3,6,7,9,10,17,18,19,24,25],[⟨6,none⟩],aaq f190 [] [[2,3,17,18,19],[2,3,9,17,18,19,24,25]]⟩
def Wf:CO 190 Fv 3:=bk f190 ak
def Ic:FC:=⟨[0,1,2,6],[⟨6,none⟩],aaq f193 [] []⟩
def VT:CO 193 Ic 3:=bk f193 ak
def NQ:FC:=⟨[0,2,3,5,6,7,8],[⟨2,none⟩],aaq f194 [] [[3,6,7,8]]⟩
def acJ:CO 194 NQ 1:=bk f194 ak
def jO:FC:=⟨[0,1,4],[⟨4,none⟩],aaq f195 [] []⟩
def Ac:CO 195 jO 2:=bk f195 ak
def J3:FC:=⟨[0,2,4,6,7,8,9],[⟨2,none⟩],aaq f196 [] [[7,8,9]]⟩
def aaM:CO 196 J3 1:=bk f196 ak
def NI:FC:=⟨[0,2,3,5,6,7,8],[⟨2,none⟩],aaq f197 [] [[3,6,7,8]]⟩
def ac8:CO 197 NI 1:=bk f197 ak
def EL:FC:=⟨[0,1,2,3,8],[⟨8,none⟩],aaq f198 [] []⟩
def Ud:CO 198 EL 4:=bk f198 ak
def U_:FC:=⟨[0,2,3,4,6,7,8,9],[⟨2,none⟩,⟨3,none⟩],aaq f199 [] [[4,7,8,9]]⟩
def aiQ:CO 199 U_ 1:=bk f199 ak
def Va:FC:=⟨[0,1,2,6,7,9,10,11,12,13,14,15],[⟨6,none⟩],aaq f200 [] [[1,2,7,13,14,15]]⟩
def ail:CO 200 Va 3:=bk f200 ak
def Ch:FC:=⟨[0,2,3,4,5],[⟨2,none⟩,⟨3,none⟩],aaq f201 [] []⟩
def Pg:CO 201 Ch 1:=bk f201 ak
def vW:FC:=⟨[0,2],[⟨2,none⟩],aaq f202 [] []⟩
def IL:CO 202 vW 1:=bk f202 ak
def wb:FC:=⟨[0,2,3,4,5,6,7,8,9,20],[⟨2,none⟩,⟨3,none⟩],aaq f203 [] []⟩
def I4:CO 203 wb 1:=bk f203 ak
def va:FC:=⟨[0,1,4,5,7,8,9,10],[⟨4,none⟩],aaq f204 [] [[0,5,8,9,10]]⟩
def HP:CO 204 va 2:=bk f204 ak
def v7:FC:=⟨[0,1,4],[⟨4,none⟩],aaq f205 [] []⟩
def IS:CO 205 v7 2:=bk f205 ak
def C7:FC:=⟨[0,2],[⟨2,none⟩],aaq f207 [] []⟩
def Sg:CO 207 C7 1:=bk f207 ak
def FW:FC:=⟨[0,2,3,4,5,6,7,11,12,13],[⟨2,none⟩,⟨3,none⟩],aaq f208 [] [[0,4,11,12,13]]⟩
def TO:CO 208 FW 1:=bk f208 ak
def xQ:FC:=⟨[0,1,2,3,5,7,8,9],[⟨2,none⟩],aaq f209 [] [[3,7,8,9]]⟩
def Js:CO 209 xQ 1:=bk f209 ak
def C5:FC:=⟨[0,2,3,4,5,6,8,9,10,17,18,19],[⟨2,none⟩,⟨3,none⟩],aaq f210 [] [[5,6,17,18,19]]⟩
def QA:CO 210 C5 1:=bk f210 ak
def Fl:FC:=⟨[0,2],[⟨2,none⟩],aaq f211 [] []⟩
def TG:CO 211 Fl 1:=bk f211 ak
def zo:FC:=⟨[0,2],[⟨2,none⟩],aaq f212 [] []⟩
def MJ:CO 212 zo 1:=bk f212 ak
def yG:FC:=⟨[0,1,2,3,8,9,10],[],aaq f213 [] [[0,1,3,9,10]]⟩
def Wz:CO 213 yG 4:=bk f213 ak
def uw:FC:=⟨[0,1,3,4,5,6,7,8,10,11,12,13,39,63,64],[⟨4,none⟩],aaq f214 [] [[3,5,6],[3,5,6,8,39],[0,3,5,63,64]]⟩
def He:CO 214 uw 2:=bk f214 ak
def uf:FC:=⟨[0,1,2,6,7,8,9,10,11,12,13,15,16,17,18,19,20,21,22,23,59,60,61,94,95,96],[⟨6,none⟩,⟨7,none⟩],aaq f215 [true] [[0,1,2,8,9,10,21,22,23],[1,2,8,9,10,59,60,61],[2,8,18,94,95,96]]⟩
def Hw:CO 215 uf 3:=bk f215 ak
def Is:FC:=⟨[0,2,3,5,6,7,8,9],[⟨2,none⟩],aaq f216 [] [[3,7,8,9]]⟩
def VH:CO 216 Is 1:=bk f216 ak
def oI:FC:=⟨[0,1,3],[⟨3,none⟩],aaq f217 [] []⟩
def yM:CO 217 oI 2:=bk f217 ak
def H8:FC:=⟨[0,1,4],[⟨4,none⟩],aaq f218 [] []⟩
def WM:CO 218 H8 2:=bk f218 ak
def u7:FC:=⟨[0,1,4,5,7,8],[⟨4,none⟩],aaq f219 [] [[0,1,7,8]]⟩
def GF:CO 219 u7 2:=bk f219 ak
def eS:FC:=⟨[0,2],[⟨2,none⟩],aaq f220 [] []⟩
def Eh:CO 220 eS 1:=bk f220 ak
def yT:FC:=⟨[0,1,2,4,5,7,8,9,16,17,18,52,53],[⟨4,none⟩],aaq f226 [] [[2,5,16,17,18],[2,5,8,16,17,18,52,53]]⟩
def Ni:CO 226 yT 2:=bk f226 ak
def sr:FC:=⟨[0,1,4,5,7,8],[⟨4,none⟩],aaq f227 [] [[0,1,7,8]]⟩
def DK:CO 227 sr 2:=bk f227 ak
def RZ:FC:=⟨[0,2,4,5,6,7],[⟨2,none⟩],aaq f228 [] [[5,6,7]]⟩
def afb:CO 228 RZ 1:=bk f228 ak
def N_:FC:=⟨[0,1,4],[⟨4,none⟩],aaq f229 [] []⟩
def ac9:CO 229 N_ 2:=bk f229 ak
def N2:FC:=⟨[0,1,2,6],[⟨6,none⟩],aaq f230 [] []⟩
def acA:CO 230 N2 3:=bk f230 ak
def BA:FC:=⟨[0,1,5,6,7,8],[],aaq f231 [] [[0,6,7,8]]⟩
def Pu:CO 231 BA 2:=bk f231 ak
def EG:FC:=⟨[0,2,3,4,5,7,8,12,13,14],[⟨2,none⟩,⟨3,none⟩],aaq f232 [] [[0,4,5,12,13,14]]⟩
def SW:CO 232 EG 1:=bk f232 ak
def N4:FC:=⟨[0,1,2],[⟨2,none⟩],aaq f233 [] []⟩
def acP:CO 233 N4 1:=bk f233 ak
def x8:FC:=⟨[0,2],[⟨2,none⟩],aaq f234 [] []⟩
def Km:CO 234 x8 1:=bk f234 ak
def uE:FC:=⟨[0,1,2,3,4],[⟨4,none⟩],aaq f235 [] []⟩
def Hi:CO 235 uE 2:=bk f235 ak
def Ev:FC:=⟨[0,2],[⟨2,none⟩],aaq f236 [] []⟩
def TY:CO 236 Ev 1:=bk f236 ak
def C6:FC:=⟨[0,1,4,5,6,7,8,9,10,11],[⟨4,none⟩,⟨5,none⟩,⟨6,none⟩],aaq f237 [] []⟩
def RH:CO 237 C6 2:=bk f237 ak
def Fm:FC:=⟨[0,2,4,5,6,7],[⟨2,none⟩],aaq f238 [] [[5,6,7]]⟩
def Tz:CO 238 Fm 1:=bk f238 ak
def Dw:FC:=⟨[0,1,4],[⟨4,none⟩],aaq f239 [] []⟩
def Rh:CO 239 Dw 2:=bk f239 ak
def Ds:FC:=⟨[0,2,3,4,5,6,7,8,9,10,11,13,22],[⟨2,none⟩,⟨3,none⟩],aaq f240 [] [[0,4,5],[0,4,5,6,22]]⟩
def QZ:CO 240 Ds 1:=bk f240 ak
def zI:FC:=⟨[0,2,3,5,6,7,8,22,23],[⟨2,none⟩],aaq f241 [] [[3,6,7,8],[3,5,6,7,8,22,23]]⟩
def M3:CO 241 zI 1:=bk f241 ak
def zx:FC:=⟨[0,2],[⟨2,none⟩],aaq f242 [] []⟩
def MR:CO 242 zx 1:=bk f242 ak
def N6:FC:=⟨[0,2,4,5,6,7],[⟨2,none⟩],aaq f243 [] [[5,6,7]]⟩
def adw:CO 243 N6 1:=bk f243 ak
def LJ:FC:=⟨[0,1,4],[⟨4,none⟩],aaq f244 [] []⟩
def ZC:CO 244 LJ 2:=bk f244 ak
def H3:FC:=⟨[0,2],[⟨2,none⟩],aaq f245 [] []⟩
def V3:CO 245 H3 1:=bk f245 ak
def HT:FC:=⟨[0,1,2],[⟨2,none⟩],aaq f246 [] []⟩
def Wh:CO 246 HT 1:=bk f246 ak
def Sf:FC:=⟨[0,1,2,3,4],[⟨4,none⟩],aaq f247 [] []⟩
def agd:CO 247 Sf 2:=bk f247 ak
def Gi:FC:=⟨[0,1,3,4,5,6],[⟨4,none⟩],aaq f248 [] [[0,3,5,6]]⟩
def Th:CO 248 Gi 2:=bk f248 ak
def NN:FC:=⟨[0,2,3],[⟨2,none⟩],aaq f249 [] [[0,3]]⟩
def acK:CO 249 NN 1:=bk f249 ak
def Od:FC:=⟨[0,1,4,5,6,7],[⟨4,none⟩],aaq f250 [] [[0,5,6,7]]⟩
def adl:CO 250 Od 2:=bk f250 ak
def zu:FC:=⟨[0,2,3,4,5,6],[⟨2,none⟩,⟨3,none⟩],aaq f251 [] []⟩
def MS:CO 251 zu 1:=bk f251 ak
def rp:FC:=⟨[0,1,4],[⟨4,none⟩],aaq f252 [] []⟩
def CG:CO 252 rp 2:=bk f252 ak
def uW:FC:=⟨[0,1,2,5,6,7,8,9,10,11,12,13,14,16,17,47,48,49],[⟨6,none⟩,⟨7,none⟩],aaq f253 [] [[13,14,47,48,49]]⟩
def R1:CO 253 uW 3:=bk f253 ak
def Ie:FC:=⟨[0,1,3,4],[],aaq f256 [false,false,true] []⟩
def Wn:CO 256 Ie 2:=bk f256 ak
def qj:FC:=⟨[0,1,2,4,5,6],[⟨4,none⟩],aaq f257 [] []⟩
def Bs:CO 257 qj 2:=bk f257 ak
def Db:FC:=⟨[0,2],[⟨2,none⟩],aaq f259 [] []⟩
def Si:CO 259 Db 1:=bk f259 ak
def FA:FC:=⟨[0,2],[⟨2,none⟩],aaq f260 [] []⟩
def Ul:CO 260 FA 1:=bk f260 ak
def Ia:FC:=⟨[0,1,2],[⟨2,none⟩],aaq f261 [] []⟩
def WK:CO 261 Ia 1:=bk f261 ak
def vo:FC:=⟨[0,2,3,4,5,6,7,11,12,13],[⟨2,none⟩,⟨3,none⟩],aaq f262 [] [[4,11,12,13]]⟩
def GU:CO 262 vo 1:=bk f262 ak
def DH:FC:=⟨[0,1,2],[⟨2,none⟩],aaq f263 [] []⟩
def Sh:CO 263 DH 1:=bk f263 ak
def FX:FC:=⟨[0,1,3,4],[⟨4,none⟩],aaq f264 [] []⟩
def S9:CO 264 FX 2:=bk f264 ak
def zt:FC:=⟨[0,2],[⟨2,none⟩],aaq f265 [] []⟩
def Nk:CO 265 zt 1:=bk f265 ak
def zT:FC:=⟨[0,1,4],[⟨4,none⟩],aaq f266 [] []⟩
def MN:CO 266 zT 2:=bk f266 ak
def E6:FC:=⟨[0,2,3,4,5,6,7,8,9,10,19,20,21],[⟨2,none⟩,⟨3,none⟩],aaq f267 [] [[0,4,5],[0,4,5,6,7,8,19,20,21]]⟩
def S5:CO 267 E6 1:=bk f267 ak
def tL:FC:=⟨[0,2,3,4,5,6,7],[⟨2,none⟩],aaq f268 [] [[0,3,4,5],[0,3,4,5,6,7]]⟩
def Ez:CO 268 tL 1:=bk f268 ak
def ES:FC:=⟨[0,1,2,5,6,7,8,9],[⟨6,some (⟨true,2⟩)⟩,⟨7,none⟩],aaq f269 [true] []⟩
def Uy:CO 269 ES 3:=bk f269 ak
def xG:FC:=⟨[0,1,2,3,4,5,6,7,9,10,14,15,16],[⟨4,none⟩,⟨5,none⟩],aaq f270 [] [[3,6,7,14,15,16]]⟩
def LH:CO 270 xG 2:=bk f270 ak
def tC:FC:=⟨[0,1,2,3,4],[⟨4,none⟩],aaq f271 [] []⟩
def Ga:CO 271 tC 2:=bk f271 ak
def db:FC:=⟨[0,1],[],aaq f272 [] []⟩
def gU:CO 272 db 2:=bk f272 ak
def xZ:FC:=⟨[0,1,2,3,4,5],[⟨5,none⟩],aaq f273 [] []⟩
def KN:CO 273 xZ 3:=bk f273 ak
def Sa:FC:=⟨[0,2,3,5,6,7,8],[⟨2,none⟩],aaq f274 [] [[3,6,7,8]]⟩
def afq:CO 274 Sa 1:=bk f274 ak
def NF:FC:=⟨[0,1,4],[⟨4,none⟩],aaq f275 [] []⟩
def adp:CO 275 NF 2:=bk f275 ak
def Ip:FC:=⟨[0,2],[⟨2,none⟩],aaq f276 [] []⟩
def Wl:CO 276 Ip 1:=bk f276 ak
def zO:FC:=⟨[0,1,2,4,5,6],[⟨4,none⟩],aaq f277 [] []⟩
def MA:CO 277 zO 2:=bk f277 ak
def mr:FC:=⟨[0,1,4],[⟨4,none⟩],aaq f278 [] []⟩
def vI:CO 278 mr 2:=bk f278 ak
def zJ:FC:=⟨[0,1,3],[⟨3,none⟩],aaq f279 [] []⟩
def M6:CO 279 zJ 2:=bk f279 ak
def zR:FC:=⟨[0,1,4],[⟨4,none⟩],aaq f280 [] []⟩
def MC:CO 280 zR 2:=bk f280 ak
def lG:FC:=⟨[0,1,4],[⟨4,none⟩],aaq f281 [] []⟩
def uY:CO 281 lG 2:=bk f281 ak
def vY:FC:=⟨[0,1,2,4],[⟨4,none⟩],aaq f282 [] []⟩
def I6:CO 282 vY 2:=bk f282 ak
def pK:FC:=⟨[0,1,4],[⟨4,none⟩],aaq f283 [] []⟩
def Ap:CO 283 pK 2:=bk f283 ak
def IC:FC:=⟨[0,1,4,5],[⟨4,none⟩],aaq f284 [] []⟩
def VY:CO 284 IC 2:=bk f284 ak
def vX:FC:=⟨[0,2,3,4],[⟨2,none⟩],aaq f285 [] [[0,3,4]]⟩
def IN:CO 285 vX 1:=bk f285 ak
def tp:FC:=⟨[0,1,4],[⟨4,some (⟨true,3⟩)⟩],aaq f286 [] []⟩
def Gc:CO 286 tp 2:=bk f286 ak
def tu:FC:=⟨[0,1,2,5,6,7,8,11],[⟨6,some (⟨false,1⟩)⟩],aaq f287 [] []⟩
def EU:CO 287 tu 3:=bk f287 ak
def yt:FC:=⟨[0,1,2,3,4],[⟨4,none⟩],aaq f288 [] []⟩
def K8:CO 288 yt 2:=bk f288 ak
def yo:FC:=⟨[0,1,2,4,5,6,7,9,10],[⟨4,none⟩],aaq f289 [] [[1,5,9,10]]⟩
def LK:CO 289 yo 2:=bk f289 ak
def pW:FC:=⟨[0,1,2,4],[⟨4,none⟩],aaq f290 [] []⟩
def BK:CO 290 pW 3:=bk f290 ak
def gW:FC:=⟨[0,1,2,6,7,8,9],[],aaq f291 [] [[0,1,2,6,7,8],[0,1,2,6],[0,1,2,6,7,8]]⟩
def oJ:CO 291 gW 3:=bk f291 ak
def De:FC:=⟨[0,2],[⟨2,none⟩],aaq f293 [] []⟩
def Qi:CO 293 De 1:=bk f293 ak
def CZ:FC:=⟨[0,1,2,6],[⟨6,none⟩],aaq f294 [] []⟩
def Q7:CO 294 CZ 3:=bk f294 ak
def Co:FC:=⟨[0,2],[⟨2,none⟩],aaq f295 [] []⟩
def Ov:CO 295 Co 1:=bk f295 ak
def oO:FC:=⟨[0,1,4,5,7,8],[⟨4,none⟩],aaq f296 [] [[0,1,7,8]]⟩
def zj:CO 296 oO 2:=bk f296 ak
def Iq:FC:=⟨[0,2],[⟨2,none⟩],aaq f298 [] []⟩
def VU:CO 298 Iq 1:=bk f298 ak
def xE:FC:=⟨[0,1,2,6,7,8,9],[⟨6,none⟩],aaq f299 [] [[1,2,7,8,9]]⟩
def J6:CO 299 xE 3:=bk f299 ak
def tI:FC:=⟨[0,1,2,3,4],[⟨4,none⟩],aaq f300 [] []⟩
def EO:CO 300 tI 2:=bk f300 ak
def tM:FC:=⟨[0,1,2,3],[⟨3,none⟩],aaq f301 [] []⟩
def Gh:CO 301 tM 2:=bk f301 ak
def eX:FC:=⟨[0,1,2,3,8,9],[],aaq f302 [false,true] [[0,1,2,3,8],[0,1,2,3,8,9]]⟩
def lx:CO 302 eX 4:=bk f302 ak
def gn:FC:=⟨[0,1,2,3,4,10,11,12,13,14,15,16,17,18,19,20,21,22,23,24],[],aaq f303 [false,true,false,true] [[0,1,4,10,11],[0,10,13],[0,2,4,14,15],[0,14,17],[0,1,2,3,4,18,19,20,21,22]]⟩
def nE:CO 303 gn 5:=bk f303 ak
def si:FC:=⟨[0,1,4,5,7,10],[⟨4,none⟩],aaq f305 [] []⟩
def DS:CO 305 si 2:=bk f305 ak
def xF:FC:=⟨[0,1,4],[⟨4,none⟩],aaq f307 [] []⟩
def Kr:CO 307 xF 2:=bk f307 ak
def v8:FC:=⟨[0,1,2,6,7,8],[⟨6,none⟩],aaq f308 [] [[0,1,2,7,8]]⟩
def IK:CO 308 v8 3:=bk f308 ak
def gY:FC:=⟨[0,1,2,3,4,10,11],[],aaq f309 [] [[0,2,4,10,11]]⟩
def oL:CO 309 gY 5:=bk f309 ak
def fW:FC:=⟨[0,1,2,3,10],[],aaq f310 [true] [[0,1,2,3,10]]⟩
def nw:CO 310 fW 5:=bk f310 ak
end Go.Dv.Try
namespace Go.Dv.Try
open Go Go.Dv
def Qh(n:Nat):Nat:=if n=0 then 0 else Nat.log2 n+1
def Qk{n k:Nat}:Qh n<=k↔n<2^k:=by
 unfold Qh;split
 ·rename_i h;subst h;simp[zcd]
 ·rename_i h;rw[Nat.succ_le_iff];exact Nat.log2_lt h
def dh(a:Nat):Nat:=max 4 (Qh (a-1))
def pY(a:Int):Int:=(dh a.toNat:Int)
def KK(a:Nat):Nat:=2^(16-dh a)+2
def zE(a:Int):Int:=(KK a.toNat:Int)
def lC{a:Nat}(h:a<=4096):dh a<=12:=by
 unfold dh;rw[Nat.max_le];exact⟨ab,Qk.2 ab⟩
def wJ(a:Nat):4<=dh a:=Nat.le_max_left ..
def Hk{a:Int}(h:a<=4096):4<=pY a/\pY a<=12:=by
 have:=lC (a:=a.toNat) ab;have:=wJ a.toNat;unfold pY;omega
def UQ{a:Int}(h:a<=4096):18<=zE a/\zE a<=4098:=by
 have h1:=lC (a:=a.toNat) ab;have h2:=wJ a.toNat;unfold zE KK;have h3:2^4<=2^(16-dh a.toNat):=zb8 ab ab;have h4:2^(16-dh a.toNat)<=2^12:=zb8 ab ab;omega
def aiG{a s:Nat}(h:4<=s):dh a<=s↔a<=2^s:=by
 unfold dh;rw[Nat.max_le,Qk];have:=zcd s;omega
structure cI where
 d:Int
 l:Int
 b:Int
deriving DecidableEq
def cI.pv(t:cI):PV:=.agg [pI t.d,pI t.l,pI t.b]
def cI.copy(t:cI):Bool:=decide (t.d≠0)
def cI.made(t:cI):Int:=if t.d≠0 then t.l else 1
def qS(d:List UInt8)(a k n:Nat):Nat->Nat
 |0=>n
 |m+1=>if d[a+n]?=d[a+n-k]? then qS d a k (n+1) m else n
def e_(d:List UInt8)(a:Nat):Nat:=min (KK a) (d.length-a)
def dY(d:List UInt8)(a k:Nat):Nat:=qS d a k 0 (e_ d a)
def awE(d:List UInt8)(a k:Nat):∀(m n:Nat),n<=qS d a k n m/\qS d a k n m<=n+m:=by
 intro m
 induction m with
 |zero=>intro n;simp[qS]
 |succ m ih=>
  intro n;unfold qS;split
  ·have:=ih (n+1);omega
  ·omega
def S1(d:List UInt8)(a k:Nat):dY d a k<=e_ d a:=by
 have:=awE d a k (e_ d a) 0;unfold dY;omega
def bu{a b:Int}(h:a=b):pI a=pI b:=by rw[h]
def oH{a b:Bool}(h:a=true↔b=true):pB a=pB b:=by
 cases a<;>cases b<;>simp_all
def Pn(n:Int):IntKind.u8.wrap n=n%256:=by
 have hb:IntKind.u8.bits=8:=rfl;simp only[IntKind.wrap,IntKind.signed,hb];simp
def awV{n:Int}(h:0<=n/\n<18446744073709551616):IntKind.u64.wrap n=n:=by
 have hb:IntKind.u64.bits=64:=rfl;simp only[IntKind.wrap,IntKind.signed,hb];have:(2:Int)^64=18446744073709551616:=ao
 simp_all
 omega
def jj(ps:List PV)(x:PV):Prop:=∃n:Int,ps=[.int .u64 n]/\(0<=n/\n<=65535)/\x=pI (Qh n.toNat)
def at4:List UInt8:=[0,1,2,2,3,3,3,3,4,4,4,4,4,4,4,4,5,5,5,5,5,5,5,5,5,5,5,5,5,5,5,5,6,6,6,6,6,6,6,6,6,6,6,6,6,6,6,6,6,6,6,6,6,6,6,6,6,6,6,6,6,6,6,6,7,7,7,7,7,7,7,7,7,7,7,7,7,7,7,7,7,7,7,7,7,7,7,7,7,7,7,7,7,7,7,7,7,7,7,7,7,7,7,7,7,7,7,7,7,7,7,7,7,7,7,7,7,7,7,7,7,7,7,7,7,7,7,7,8,8,8,8,8,8,8,8,8,8,8,8,8,8,8,8,8,8,8,8,8,8,8,8,8,8,8,8,8,8,8,8,8,8,8,8,8,8,8,8,8,8,8,8,8,8,8,8,8,8,8,8,8,8,8,8,8,8,8,8,8,8,8,8,8,8,8,8,8,8,8,8,8,8,8,8,8,8,8,8,8,8,8,8,8,8,8,8,8,8,8,8,8,8,8,8,8,8,8,8,8,8,8,8,8,8,8,8,8,8,8,8,8,8,8,8,8,8,8,8,8,8,8,8,8,8,8,8]
def asR(i:Nat)(h:i<256):at4[i]?=some (UInt8.ofNat (Qh i)):=by
 have:(List.range 256).all (λi=>at4[i]?==some (UInt8.ofNat (Qh i)))=true:=ak;rw[List.all_eq_true]at this;exact eq_of_beq (this i (zbm.2 h))
def ajX{n:Nat}(h:256<=n):Qh n=Qh (n/256)+8:=by
 unfold Qh;have h1:n≠0:=ab;have h2:n/256≠0:=ab;rw[if_neg h1,if_neg h2];have:Nat.log2 n=Nat.log2 (n/256)+8:=by
  apply(zcU h1).2;have h3:=(zcU h2).1 rfl;generalize Nat.log2 (n/256)=k at h3;rw[zcs,show k+8+1=(k+1)+8 from by omega,zcs];have:2^8=256:=ao;rw[this];omega
 omega
def ay0{n:Nat}(h:n<256):(UInt8.ofNat (Qh n)).toNat=Qh n:=by
 have:Qh n<=8:=Qk.2 ab;simp;omega
def I0:MT (ay []) De (ah jj):=by
 rintro _ K ⟨_,⟨n,rfl,⟨h1,h2⟩,rfl⟩,hK⟩;refine λb hb=>?_
 rcases cmp hb with⟨rfl,h⟩|⟨rfl,h⟩
 ·omega
 refine λb hb=>?_
 rcases cmp hb with⟨rfl,h'⟩|⟨rfl,h'⟩
 ·omega
 refine λb hb=>?_
 rcases cmp hb with⟨rfl,h3⟩|⟨rfl,h3⟩
 ·refine⟨ao,?_⟩;refine λx hx=>?_
  have hx:x=((n.toNat/256:Nat):Int):=by
   rw[hx];show n.fdiv (2^8)=_;rw[zb7 _ ao];omega
  refine λy hy=>?_
  replace hy:=dB hy ao;subst hy;refine λz hz=>?_
  rw[Pn]at hz;have hz:z=((n.toNat/256:Nat):Int):=ab;subst hz;refine⟨_,⟨ab,asR (n.toNat/256) ab⟩,?_⟩;refine λu hu=>?_
  rw[ay0 ab]at hu;have hle:Qh (n.toNat/256)<=8:=Qk.2 ab;replace hu:=dB hu ab;refine λv hv=>?_
  replace hv:=dB hv ab;refine⟨.pv (pI _),?_,trivial,hK⟩;refine bu ?_;rw[ajX ab];omega
 ·refine λz hz=>?_
  rw[Pn]at hz;have hz:z=((n.toNat:Nat):Int):=ab;subst hz;refine⟨_,⟨ab,asR n.toNat ab⟩,?_⟩;refine λu hu=>?_
  rw[ay0 ab]at hu;have hle:Qh n.toNat<=8:=Qk.2 ab;replace hu:=dB hu ab;refine λv hv=>?_
  replace hv:=dB hv ab;refine⟨.pv (pI _),?_,trivial,hK⟩;refine bu ?_;omega
def No:MT (ay [(293,ah jj)]) Ip (ah jj):=by
 rintro _ K ⟨_,⟨n,rfl,h,rfl⟩,hK⟩;refine⟨_,⟨n,rfl,h,rfl⟩,?_⟩;exact aG
def rU(ps:List PV)(x:PV):Prop:=∃a:Int,ps=[pI a]/\(0<=a/\a<=4096)/\x=pI (pY a)
def Ki:MT (ay [(276,ah jj)]) FA (ah rU):=by
 rintro _ K ⟨_,⟨a,rfl,⟨h1,h2⟩,rfl⟩,hK⟩;refine λx hx=>?_
 replace hx:=dB hx ab;subst hx;refine λx hx=>?_
 refine λy hy=>?_
 rw[awV ab]at hy;refine⟨_,⟨y,rfl,ab,rfl⟩,?_⟩;refine λz hz=>?_
 refine⟨.pv (pI _),bu ?_,trivial,hK⟩;rw[hz];have:y.toNat=a.toNat-1:=ab;rw[this];unfold pY dh;omega
def fF(ps:List PV)(x:PV):Prop:=∃a:Int,ps=[pI a]/\(0<=a/\a<=4096)/\x=pI (zE a)
def aGh{s:Int}(h:0<=s/\s<=62):IntKind.i64.wrap (1*2^min s.toNat IntKind.i64.bits)=((2^s.toNat:Nat):Int):=by
 have hb:IntKind.i64.bits=64:=rfl;have:min s.toNat IntKind.i64.bits=s.toNat:=ab;rw[this,zcP];have hp:2^s.toNat<=2^62:=zb8 ab ab;have e:((2:Int)^s.toNat)=((2^s.toNat:Nat):Int):=aj;rw[e];generalize 2^s.toNat=p at hp;exact wrap64 ab
def Hr:MT (ay [(260,ah rU)]) Co (ah fF):=by
 rintro _ K ⟨_,⟨a,rfl,⟨h1,h2⟩,rfl⟩,hK⟩;have hb:=Hk h2;have hl:=UQ h2;refine⟨_,⟨a,rfl,⟨h1,h2⟩,rfl⟩,?_⟩;refine λx hx=>?_
 replace hx:=dB hx ab;refine⟨ab,?_⟩;refine λy hy=>?_
 rw[aGh ab]at hy;have cj:y=zE a-2:=by
  rw[hy,hx];unfold zE KK pY;have:(16-(dh a.toNat:Int)).toNat=16-dh a.toNat:=ab;rw[this];omega
 refine λz hz=>?_
 replace hz:=dB hz ab;refine λu hu=>?_
 replace hu:=dB hu ab;refine⟨.pv (pI _),bu ?_,trivial,hK⟩;omega
def jl(ps:List PV)(x:PV):Prop:=∃n lo hi:Int,ps=[pI n,pI lo,pI hi]/\x=pB (decide (lo<=n/\n<=hi))
def IT:MT (ay []) CZ (ah jl):=by
 rintro _ K ⟨_,⟨n,lo,hi,rfl,rfl⟩,hK⟩;refine λb hb=>?_
 rcases cmp hb with⟨rfl,h⟩|⟨rfl,h⟩
 ·refine λb hb=>?_
  refine⟨.pv (pB _),oH ?_,trivial,hK⟩;rw[decide_eq_true_iff,hb];omega
 ·refine⟨.pv (pB _),oH ?_,trivial,hK⟩;rw[decide_eq_true_iff];simp only[zcn,iff_false];omega
def dZ(ok:Bool)(e:Int):Int:=match ok with|true=>0|false=>e
def l5(ps:List PV)(x:PV):Prop:=∃(ok:Bool) (e:Int),ps=[pB ok,pI e]/\x=pI (dZ ok e)
def IX:MT (ay []) Dw (ah l5):=by
 rintro _ K ⟨_,⟨ok,e,rfl,rfl⟩,hK⟩;cases ok with
 |true=>exact aG
 |false=>exact aG
def bQ:List Int->Int
 |[]=>0
 |e::l=>if e=0 then bQ l else e
def qZ(ps:List PV)(x:PV):Prop:=∃l:List Int,ps=[.sl 1 (l.map pI)]/\x=pI (bQ l)
def ke(l:List Int)(n:Nat)(h:∀j,j<n->l[j]?=some 0):bQ l=bQ (l.drop n):=by
 induction n generalizing l with
 |zero=>rfl
 |succ n ih=>
  cases l with
  |nil=>rfl
  |cons e l=>
   have:=h 0 ab;simp at this;subst this;exact ih l λj hj=>by simpa using h (j+1) ab
def JC:MT (ay []) Fm (ah qZ):=by
 rintro _ K ⟨_,⟨l,rfl,rfl⟩,hK⟩;refine λhl=>?_
 rw[zav]at hl;refine⟨λm env σ=>∃n:Nat,(n+m=l.length∧∀j,j<n->l[j]?=some 0)/\σ=[]/\env=[(5,.pv (.sl 1 (l.map pI))),eN 6 ((l.map pI).length:Nat),eN 7 n],l.length,⟨0,⟨ab,λj hj=>ab⟩,rfl,rfl⟩,?_⟩;rintro m env σ ⟨n,⟨hn,h0⟩,rfl,rfl⟩;refine λb hb=>?_
 rw[zav]at hb;rcases cmp hb with⟨rfl,h⟩|⟨rfl,h⟩
 ·have aU:n<l.length:=by omega
  refine⟨pI l[n],⟨ab,?_⟩,?_⟩
  ·show(l.map pI)[n]?=some (pI l[n]);simp[aU]
  refine λb hb=>?_
  rcases cmp hb with⟨rfl,h⟩|⟨rfl,h⟩
  ·refine⟨.pv (pI _),bu ?_,trivial,hK⟩;rw[ke l n h0,zcj aU];simp[bQ,h]
  ·refine λx hx=>?_
   replace hx:=dB hx ab;subst hx;refine⟨m-1,ab,n+1,⟨ab,λj hj=>?_⟩,rfl,rfl⟩;by_cases nd:j<n
   ·exact h0 j nd
   ·have:j=n:=by omega
    subst this;rw[zah aU];simpa using h
 ·refine⟨.pv (pI _),bu ?_,trivial,hK⟩;rw[ke l n h0,zcc ab];rfl
def cm(ps:List PV)(x:PV):Prop:=∃t:cI,ps=[t.pv]/\x=pB t.copy
def I5:MT (ay []) DH (ah cm):=by
 rintro _ K ⟨_,⟨t,rfl,rfl⟩,hK⟩;refine λb hb=>?_
 refine⟨.pv (pB _),oH ?_,trivial,hK⟩;rw[hb];simp[cI.copy]
def dW(ps:List PV)(x:PV):Prop:=∃t:cI,ps=[t.pv]/\x=pI t.made
def MP:MT (ay [(263,ah cm)]) Ia (ah dW):=by
 rintro _ K ⟨_,⟨t,rfl,rfl⟩,hK⟩;refine⟨_,⟨t,rfl,rfl⟩,?_⟩;generalize hc:t.copy=c;unfold cI.copy at hc;cases c with
 |true=>
  refine⟨.pv (pI _),bu ?_,trivial,hK⟩;simp at hc;simp[cI.made,hc]
 |false=>
  refine⟨.pv (pI _),bu ?_,trivial,hK⟩;simp at hc;simp[cI.made,hc]
def iS(ps:List PV)(x:PV):Prop:=∃(d:List UInt8) (a:Int),ps=[.str d,pI a]/\(d.length<=4096/\0<=a/\a<=(d.length:Int))/\x=pI (e_ d a.toNat:Nat)
def Xh(d:List UInt8){a:Int}(h:0<=a/\a<=(d.length:Int)):((e_ d a.toNat:Nat):Int)=min (zE a) ((d.length:Int)-a):=by
 unfold e_ zE;omega
def Er:MT (ay [(295,ah fF)]) xF (ah iS):=by
 rintro _ K ⟨_,⟨d,a,rfl,⟨h1,h2,h3⟩,rfl⟩,hK⟩;refine⟨_,⟨a,rfl,⟨h2,ab⟩,rfl⟩,?_⟩;refine λx hx=>?_
 replace hx:=dB hx ab;refine λr hr=>?_
 refine⟨.pv (pI _),bu ?_,trivial,hK⟩;rw[Xh d ⟨h2,h3⟩,hr,hx]
def kY(ps:List PV)(x:PV):Prop:=∃(d:List UInt8) (a k:Int),ps=[.str d,pI a,pI k]/\(d.length<=4096/\0<=a/\a<=(d.length:Int)/\1<=k/\k<=a)/\x=pI (dY d a.toNat k.toNat:Nat)
def get_eq{d:List UInt8}{i j:Nat}(hi:i<d.length)(hj:j<d.length):((d[i].toNat:Int)=(d[j].toNat:Int))↔d[i]?=d[j]?:=by
 rw[zah hi,zah hj];constructor
 ·intro h;congr 1;exact UInt8.toNat_inj.1 ab
 ·intro h;rw[Option.some.inj h]
def CI:MT (ay [(307,ah iS)]) v8 (ah kY):=by
 rintro _ K ⟨_,⟨d,a,k,rfl,⟨h1,h2,h3,h4,h5⟩,rfl⟩,hK⟩;refine⟨_,⟨d,a,rfl,⟨h1,h2,h3⟩,rfl⟩,?_⟩;have hr:=Xh d ⟨h2,h3⟩;refine⟨λm env σ=>∃n:Nat,(n+m=e_ d a.toNat/\qS d a.toNat k.toNat n m=dY d a.toNat k.toNat)/\σ=[]/\env=[(0,.pv (.str d)),eN 1 a,eN 2 k,eN 7 n,eN 8 (e_ d a.toNat:Nat)],e_ d a.toNat,⟨0,⟨ab,rfl⟩,rfl,rfl⟩,?_⟩;rintro m env σ ⟨n,⟨hn,hm⟩,rfl,rfl⟩;refine⟨ak,?_⟩;refine λb hb=>?_
 rcases cmp hb with⟨rfl,h⟩|⟨rfl,h⟩
 ·have aU:a.toNat+n<d.length:=by omega
  refine λx hx=>?_
  replace hx:=dB hx ab;subst hx;refine⟨_,⟨ab,zah ab⟩,?_⟩;refine λx hx=>?_
  replace hx:=dB hx ab;subst hx;refine λx hx=>?_
  replace hx:=dB hx ab;subst hx;refine⟨_,⟨ab,zah ab⟩,?_⟩;refine λb hb=>?_
  have e1:(a+n).toNat=a.toNat+n:=ab;have e2:(a+n-k).toNat=a.toNat+n-k.toNat:=ab;rw[get_eq,e1,e2]at hb;cases m with
  |zero=>omega
  |succ m=>
   unfold qS at hm;rcases cmp hb with⟨rfl,h'⟩|⟨rfl,h'⟩
   ·rw[if_pos h']at hm;refine λx hx=>?_
    replace hx:=dB hx ab;subst hx;exact⟨m,ab,n+1,⟨ab,hm⟩,rfl,rfl⟩
   ·rw[if_neg h']at hm;exact⟨.pv (pI _),bu ab,trivial,hK⟩
 ·have:m=0:=by omega
  subst this;unfold qS at hm;exact⟨.pv (pI _),bu ab,trivial,hK⟩
def Ws(d:List UInt8)(a:Nat):cI:=⟨0,0,((d[a]?.getD 0).toNat:Int)⟩
def Am(d:List UInt8)(a:Nat):Nat->Nat->Nat->Nat->Nat×Nat
 |0,_,LS,pC=>(LS,pC)
 |m+1,k,LS,pC=>
  if pC<e_ d a then(if pC<dY d a k then Am d a m (k+1) k (dY d a k)else Am d a m (k+1) LS pC)
  else(LS,pC)
def uV(d:List UInt8)(a:Nat):Nat×Nat:=Am d a a 1 0 0
def abj(p:Nat×Nat):cI:=⟨(p.1:Int),(p.2:Int),0⟩
def amq(d:List UInt8)(a:Nat):∀(m k LS pC:Nat),pC<=e_ d a->(pC=0\/1<=LS)->1<=k->(Am d a m k LS pC).2<=e_ d a/\((Am d a m k LS pC).2=0\/1<=(Am d a m k LS pC).1):=by
 intro m
 induction m with
 |zero=>intro k LS pC h1 h2 _;exact⟨h1,h2⟩
 |succ m ih=>
  intro k LS pC h1 h2 h3;unfold Am;split
  ·split
   ·exact ih _ _ _ (S1 d a k) (.inr h3) ab
   ·exact ih _ _ _ h1 h2 ab
  ·exact⟨h1,h2⟩
def Av(d:List UInt8)(a:Nat):(uV d a).2<=e_ d a/\((uV d a).2=0\/1<=(uV d a).1):=amq d a a 1 0 0 (zbO _) (.inl rfl) (zai _)
def fv(d:List UInt8)(a:Nat):Nat->Nat->Nat->List (Nat×Nat)
 |0,_,_=>[]
 |m+1,k,pC=>if pC<e_ d a then(if pC<dY d a k then(k,dY d a k)::fv d a m (k+1) (dY d a k)else fv d a m (k+1) pC)else[]
def nB(d:List UInt8)(a:Nat):List (Nat×Nat):=fv d a a 1 0
def aaD(d:List UInt8)(a:Nat):∀(m k LS pC:Nat),Am d a m k LS pC=((LS,pC)::fv d a m k pC).getLast aj:=by
 intro m
 induction m with
 |zero=>intro k LS pC;rfl
 |succ m ih=>
  intro k LS pC;unfold Am fv;split
  ·split
   ·rw[ih];exact(zcN (a:=(LS,pC)) aj).symm
   ·exact ih _ _ _
  ·rfl
end Go.Dv.Try
namespace Go.Dv.Try
open Go Go.Dv Go.RowKit
def axr:PC:=.region [
 ⟨some 8,none,.load false 1 (.tmp 1)⟩,
 ⟨some 9,none,.load false 1 (.tmp 2)⟩,
 ⟨some 10,none,.call 307 [.tmp 8,.tmp 9]⟩,
 ⟨some 4,none,.mv (.const (.int .i64 0))⟩,
 ⟨some 5,none,.mv (.tmp 10)⟩]
def aFu:PC:=axr
def axD:PC:=.region [
 ⟨some 6,none,.mv (.const (.int .i64 1))⟩]
def aGm:PC:=axD
def az4:PC:=.region [
 ⟨some 11,none,.mv (.tmp 6)⟩,
 ⟨some 12,none,.load false 1 (.tmp 2)⟩,
 ⟨some 13,none,.bin .leq (.tmp 11) (.tmp 12)⟩,
 ⟨some 14,none,.mv (.tmp 13)⟩,
 ⟨some 15,some (⟨14,true⟩),.mv (.tmp 4)⟩,
 ⟨some 16,some (⟨14,true⟩),.mv (.tmp 5)⟩,
 ⟨some 17,some (⟨14,true⟩),.bin .lss (.tmp 15) (.tmp 16)⟩,
 ⟨some 18,none,.pick (.tmp 14) (.tmp 17) (.const (.bool false))⟩]
def aAE:PC:=.cond (.tmp 18) .skip (.exit 0)
def aAA:PC:=.seq az4 aAE
def aJy:PC:=aAA
def axu:PC:=.draw [
 ⟨some 21,none,.load false 1 (.tmp 1)⟩,
 ⟨some 22,none,.load false 1 (.tmp 2)⟩,
 ⟨some 23,none,.mv (.tmp 4)⟩,
 ⟨some 24,none,.bin .add (.tmp 22) (.tmp 23)⟩,
 ⟨some 25,none,.idx (.tmp 21) (.tmp 24)⟩,
 ⟨some 26,none,.load false 1 (.tmp 1)⟩,
 ⟨some 27,none,.load false 1 (.tmp 2)⟩,
 ⟨some 28,none,.mv (.tmp 4)⟩,
 ⟨some 29,none,.bin .add (.tmp 27) (.tmp 28)⟩,
 ⟨some 30,none,.mv (.tmp 6)⟩,
 ⟨some 31,none,.bin .sub (.tmp 29) (.tmp 30)⟩,
 ⟨some 32,none,.idx (.tmp 26) (.tmp 31)⟩,
 ⟨some 33,none,.bin .neq (.tmp 25) (.tmp 32)⟩]
 [[],[],[],[1,2],[0,3],[],[],[],[6,7],[],[8,9],[5,10],[4,11]]
def awK:PC:=.cond (.tmp 33) (.exit 1) .skip
def awS:PC:=.seq axu awK
def aF5:PC:=awS
def awQ:PC:=.region [
 ⟨some 34,none,.load false 1 (.tmp 1)⟩,
 ⟨some 35,none,.load false 1 (.tmp 2)⟩,
 ⟨some 36,none,.mv (.tmp 6)⟩,
 ⟨some 37,none,.call 308 [.tmp 34,.tmp 35,.tmp 36]⟩,
 ⟨some 7,none,.mv (.tmp 37)⟩]
def aFQ:PC:=awQ
def axb:PC:=.region [
 ⟨some 38,none,.mv (.tmp 7)⟩,
 ⟨some 39,none,.mv (.tmp 4)⟩,
 ⟨some 40,none,.bin .gtr (.tmp 38) (.tmp 39)⟩]
def aGl:PC:=axb
def awC:PC:=.region [
 ⟨some 41,none,.mv (.tmp 7)⟩,
 ⟨some 4,none,.mv (.tmp 41)⟩]
def aE2:PC:=awC
def axm:PC:=.region [
 ⟨some 19,none,.mv (.tmp 6)⟩,
 ⟨some 20,none,.bin .add (.tmp 19) (.const (.int .i64 1))⟩,
 ⟨some 6,none,.mv (.tmp 20)⟩]
def aGq:PC:=axm
def aFw:List Nat:=[1,2,4,5,6,7]
def asq:∃(A1 A2 B C1 R5 R6 R7 R3:Code) (id:Nat) (o0 o1 o2 o3 o4:Oper),
 Go.Proofs.Tryz.f306.body=some (.seq A1 (.seq A2 (.block 0 (.loop (.seq B (.seq (.block 1 (.seq C1 (.seq R5 (.seq R6 (.cond (.tmp 40) (.seq R7 (.seq (.region id #[o0,o1,o2,o3,o4] false) (.cond (.tmp 46) .ret .skip))) .skip))))) R3))))))/\
 nR Go.Proofs.Tryz.prog 47 A1=some (strip aFu)/\nR Go.Proofs.Tryz.prog 47 A2=some (strip aGm)/\nR Go.Proofs.Tryz.prog 47 B=some (strip aJy)/\nR Go.Proofs.Tryz.prog 47 C1=some (strip aF5)/\
 nR Go.Proofs.Tryz.prog 47 R5=some (strip aFQ)/\nR Go.Proofs.Tryz.prog 47 R6=some (strip aGl)/\nR Go.Proofs.Tryz.prog 47 R7=some (strip aE2)/\nR Go.Proofs.Tryz.prog 47 R3=some (strip aGq)/\
 Lr 47 o0=some ⟨some 42,none,.mv (.tmp 0)⟩/\Lr 47 o1=some ⟨some 43,none,.mv (.tmp 6)⟩/\Lr 47 o2=some ⟨some 44,none,.mv (.tmp 7)⟩/\
 (o3.guard=none/\o3.dst=some 45∧∃c,o3.op=.call c/\c.callee=.value (.tmp 42)/\c.args= #[.tmp 43,.tmp 44])/\(o4.guard=none/\o4.dst=some 46∧∃t,o4.op=.unOp .not t (.tmp 45)):=
 ⟨_,_,_,_,_,_,_,_,_,_,_,_,_,_,rfl,ak,ak,ak,ak,ak,ak,ak,ak,ak,ak,ak,⟨rfl,rfl,_,rfl,rfl,rfl⟩,⟨rfl,rfl,_,rfl⟩⟩
end Go.Dv.Try
namespace Go.Dv.Try
open Go Go.Dv Go.RowKit Go.Shelf
section
structure Jt(N:Nat)(jN:Nat->Prop)(l:Nat)(v1 v2:Value)(X1 X2:PV)(act:Act)(W:World):Prop where
 size:act.tmps.size=N
 defs:act.defers=[]
 t0:act.tmps.getD 0 undef=.func (.yield l) #[] #[]
 t1:act.tmps.getD 1 undef=v1
 t2:act.tmps.getD 2 undef=v2
 r1:Rd jN W X1 v1
 r2:Rd jN W X2 v2
 ok:∀b,jN b->b<W.heap.size
noncomputable def abA(jN:Nat->Prop)(act:Act)(W:World)(di:∀b,jN b->b<W.heap.size):Cx:=
 { P:=Go.Proofs.Tryz.prog,w0:=W,eC:=jN,hA:=di,fj:=λb=>b<W.heap.size,hk:=λ_ h=>h,lo:=3,base:=λp=>act.tmps.getD p undef }
variable {N:Nat} {jN:Nat->Prop} {l:Nat} {v1 v2:Value} {X1 X2:PV} {act:Act} {W:World}
def Jt.rel(h:Jt N jN l v1 v2 X1 X2 act W)(env:Env)(he:∀p x,aE p env=.pv x->p=1/\x=X1\/p=2/\x=X2∨∃n,x=pI n/\act.tmps.getD p undef=.int .i64 n)
 (hp:∀p,aE p env=.bad∨∃x,aE p env=.pv x):Rel (abA jN act W h.ok) env [] [] act W:=by
 have di:∀b,jN b->Ok (abA jN act W h.ok) [] [] W b:=λb hb=>⟨.inl hb,h.ok b hb,λ⟨i,s,v,hi,_⟩=>r_⟩
 refine⟨⟨Cg.refl _ _,aj,rfl,λi s v hi=>r_,λi j s t u v b _ hi=>r_,⟨zai _,λ_ _=>rfl,λb hm=>?_⟩,⟨λi v h=>by simp[abA]at h,by simp[abA],λi hi=>by simp[abA]at hi,λi hi=>by simp[abA]at hi⟩⟩,λp=>?_,h.defs,λx v hg=>hg.elim,λp _=>rfl⟩
 ·obtain⟨i,s,v,hi,_⟩:=hm;simp at hi
 ·rcases hp p with hb|⟨x,hx⟩
  ·rw[hb];simp only[RA]
  ·rw[hx];simp only[RA];rcases he p x hx with⟨rfl,rfl⟩|⟨rfl,rfl⟩|⟨n,rfl,hn⟩
   ·rw[h.t1];exact Rd.mono di (λ_ _ _=>rfl) _ _ h.r1
   ·rw[h.t2];exact Rd.mono di (λ_ _ _=>rfl) _ _ h.r2
   ·rw[hn];simp only[Rd]
def Jt.after{tk:Act}{W':World}(h:Jt N jN l v1 v2 X1 X2 act W){env:Env}{σ:aF}{vals:List Value}(hs:tk.tmps.size=N)(hr:Rel (abA jN act W h.ok) env σ vals tk W'):
 Jt N jN l v1 v2 X1 X2 tk W'/\W.grownBy W' none:=by
 have hg:W.grownBy W' none:=⟨hr.s.below.os,hr.s.below.tape,hr.s.below.output,hr.s.below.size,λk hk _=>hr.s.fr.same k hk⟩
 have hc:∀b o,jN b->W'.cell? ⟨b,o,none⟩=W.cell? ⟨b,o,none⟩:=λb o hb=>World.cell?_of_block (hr.s.fr.same b (h.ok b hb))
 exact⟨⟨hs,hr.defers,(hr.lo 0 (show 0<3 by decide)).trans h.t0,(hr.lo 1 (show 1<3 by decide)).trans h.t1,(hr.lo 2 (show 2<3 by decide)).trans h.t2,Rd.mono (λ_ h=>h) hc _ _ h.r1,Rd.mono (λ_ h=>h) hc _ _ h.r2,
  λb hb=>zaf (h.ok b hb) hr.s.below.size⟩,hg⟩
def Jt.num{cx:Cx}{env:Env}{σ:aF}{vals:List Value}{act:Act}{W:World}(hr:Rel cx env σ vals act W){p:Nat}{n:Int}(h:aE p env=.pv (pI n)):act.tmps.getD p undef=.int .i64 n:=by
 have:=hr.env p;rw[h]at this;simpa only[RA,Rd]using this
noncomputable def atj(q:Ex->(Nat->AV)->Prop):Ex->Env->aF->Prop:=λe env _=>q e λp=>aE p env
def alJ(q:Ex->(Nat->AV)->Prop):∀e,BP (atj q e):=by
 intro e env aal σ h;show q e (λp=>aE p aal)=q e λp=>aE p env
 rw[show(λp=>aE p aal)=λp=>aE p env from funext h]
def Jt.piece{Γ:Ctx}(hΓ:Sound Go.Proofs.Tryz.prog Γ)(h:Jt N jN l v1 v2 X1 X2 act W){ps:List Nat}{c:Code}{pc:PC}(hc:nR Go.Proofs.Tryz.prog N c=some (strip pc))(hs:fw pc=true)(hg:P6 3 pc=true)
 {env:Env} (hr:Rel (abA jN act W h.ok) env [] [] act W) {q:Ex->(Nat->AV)->Prop} (hv:vc Γ [] ps pc (atj q) env []) (m:Nat) (R:Exit->Act->World->Prop)
 (hR:∀e tk W' env σ vals,Jt N jN l v1 v2 X1 X2 tk W'->W.grownBy W' none->Rel (abA jN act W h.ok) env σ vals tk W'->(match e with| .normal=>q .normal (λp=>aE p env)| .exit i=>q (.exit i) (λp=>aE p env)| .ret=>q .ret (λp=>aE p env)|_=>False)->R e tk W'):
 c.wpIn Fence.wide m Go.Proofs.Tryz.prog R act W:=by
 have:=GH (P:=Go.Proofs.Tryz.prog) (ps:=ps) hΓ mixed c pc hc (· =abA jN act W h.ok) Fence.wide m _ (atj q) env [] [] act W (.inl hs) (.inr ⟨3,λcx uu=>by rw[uu];exact zai _,hg⟩) (.inl rfl) rfl (λcx uu=>by rw[uu];rfl) (alJ q) h.size hr hv;refine wpIn_mono this ?_;intro e tk W' hp;cases e with
 |normal=>
  obtain⟨cx,env,σ,vals,rfl,Et,ic,hq⟩:=hp;obtain⟨h1,h2⟩:=h.after Et ic;exact hR .normal tk W' env σ vals h1 h2 ic hq
 |exit i=>
  obtain⟨cx,env,σ,vals,rfl,Et,ic,hq⟩:=hp;obtain⟨h1,h2⟩:=h.after Et ic;exact hR (.exit i) tk W' env σ vals h1 h2 ic hq
 |ret=>
  obtain⟨cx,env,σ,vals,rfl,Et,ic,hq⟩:=hp;obtain⟨h1,h2⟩:=h.after Et ic;exact hR .ret tk W' env σ vals h1 h2 ic hq
 |_=>exact hp.elim
def KH(l:List (Nat×Int)):Env:=l.map λq=>(q.1,.pv (pI q.2))
def aFV(X1 X2:PV)(l:List (Nat×Int)):Env:=(1,.pv X1)::(2,.pv X2)::KH l
def aAP{a b:Nat}(h:a≠b):Nat.beq a b=false:=by
 cases hb:Nat.beq a b with
 |true=>exact absurd (zab hb) h
 |false=>rfl
def US(l:List (Nat×Int))(p:Nat):aE p (KH l)=.bad∨∃q∈l,q.1=p/\aE p (KH l)=.pv (pI q.2):=by
 induction l with
 |nil=>exact .inl rfl
 |cons q l ih=>
  show(bif Nat.beq q.1 p then AV.pv (pI q.2)else aE p (KH l))=.bad∨∃q'∈q::l,q'.1=p/\(bif Nat.beq q.1 p then AV.pv (pI q.2)else aE p (KH l))=.pv (pI q'.2);by_cases e:q.1=p
  ·exact .inr ⟨q,aj,e,by simp[e]⟩
  ·rw[aAP e];rcases ih with h|⟨q',h1,h2,h3⟩
   ·exact .inl h
   ·exact .inr ⟨q',by simp[h1],h2,h3⟩
def Jt.TR(h:Jt N jN l v1 v2 X1 X2 act W)(ns:List (Nat×Int))(xc:∀q∈ns,act.tmps.getD q.1 undef=.int .i64 q.2):Rel (abA jN act W h.ok) (aFV X1 X2 ns) [] [] act W:=by
 refine h.rel _ (λp x hx=>?_) (λp=>?_)
 ·have hx:(bif Nat.beq 1 p then AV.pv X1 else bif Nat.beq 2 p then AV.pv X2 else aE p (KH ns))=.pv x:=hx;by_cases e1:1=p
  ·subst e1;simp at hx;exact .inl ⟨rfl,hx.symm⟩
  ·rw[aAP e1,cond_false]at hx;by_cases e2:2=p
   ·subst e2;simp at hx;exact .inr (.inl ⟨rfl,hx.symm⟩)
   ·rw[aAP e2,cond_false]at hx;rcases US ns p with h'|⟨q,h1,h2,h3⟩
    ·rw[h']at hx;cases hx
    ·rw[h3]at hx;cases hx;exact .inr (.inr ⟨q.2,rfl,h2▸xc q h1⟩)
 ·show(bif Nat.beq 1 p then AV.pv X1 else bif Nat.beq 2 p then AV.pv X2 else aE p (KH ns))=.bad∨∃x,(bif Nat.beq 1 p then AV.pv X1 else bif Nat.beq 2 p then AV.pv X2 else aE p (KH ns))=.pv x;cases Nat.beq 1 p<;>cases Nat.beq 2 p<;>simp;rcases US ns p with h'|⟨q,h1,h2,h3⟩
  ·exact .inl h'
  ·exact .inr ⟨_,h3⟩
def cW{a:Act}{d p:Nat}{v:Value}(hd:d<a.tmps.size):(a.put (some d) v).tmps.getD p undef=if d=p then v else a.tmps.getD p undef:=by
 show(a.tmps.setIfInBounds d v).getD p undef=_;rw[getD_eq,getD_eq,Array.getElem?_setIfInBounds];by_cases h:d=p
 ·subst h;simp[hd]
 ·simp[h]
def Jt.put(h:Jt N jN l v1 v2 X1 X2 act W){q:Nat}{v:Value}(hq:3<=q)(hs:q<N):Jt N jN l v1 v2 X1 X2 (act.put (some q) v) W:=by
 have aU:q<act.tmps.size:=by rw[h.size];exact hs
 refine⟨(xL ..).trans h.size,h.defs,?_,?_,?_,h.r1,h.r2,h.ok⟩
 ·rw[cW aU,if_neg ab];exact h.t0
 ·rw[cW aU,if_neg ab];exact h.t1
 ·rw[cW aU,if_neg ab];exact h.t2
def Jt.kept{W':World}(h:Jt N jN l v1 v2 X1 X2 act W)(hk:ayb jN W W'):Jt N jN l v1 v2 X1 X2 act W':=by
 have hc:∀b o,jN b->W'.cell? ⟨b,o,none⟩=W.cell? ⟨b,o,none⟩:=λb o hb=>World.cell?_of_block (hk.2 b hb)
 exact⟨h.size,h.defs,h.t0,h.t1,h.t2,Rd.mono (λ_ h=>h) hc _ _ h.r1,Rd.mono (λ_ h=>h) hc _ _ h.r2,λb hb=>zaf (h.ok b hb) hk.1⟩
def ao8(y v1 v2:Value)(n:Nat):((#[y]++ #[v1,v2])++Array.replicate n undef).getD 0 undef=y/\((#[y]++ #[v1,v2])++Array.replicate n undef).getD 1 undef=v1/\((#[y]++ #[v1,v2])++Array.replicate n undef).getD 2 undef=v2/\((#[y]++ #[v1,v2])++Array.replicate n undef).size=n+3:=by
 refine⟨?_,?_,?_,?_⟩
 ·rw[getD_eq,zbH aj];rfl
 ·rw[getD_eq,zbH aj];rfl
 ·rw[getD_eq,zbH aj];rfl
 ·simp;omega
section
variable {P:Program} {ops:Array Oper} {Q:Exit->Act->World->Prop} {a:Act} {w:World} {n m:Nat}
def oR{i d:Nat}{rest:List Nat}{o:Oper}{v:Value}(ho:ops[i]?=some o)(hg:o.guard=none)(hd:o.dst=some d)(cL:(execOp a.eval o).run P w=.ok (.value v) w)(tT:∀c,o.op≠.defer c)
 (h:wpOpsIn Fence.wide m P ops Q rest (a.put (some d) v) w):wpOpsIn Fence.wide m P ops Q (i::rest) a w:=by
 rw[wpOpsIn_cons];unfold wpOpIn;simp only[ho];have hw:Region.wanted o (yielded ops a.tmps)=true:=BT;rw[if_pos hw];refine Qy (.inl rfl) tT ?_;unfold Oper.wp;rw[cL,Oper.upon_value,hd];exact h
def aa1(a:Act)(F:List (Nat×Value)):Prop:=∀t v,F.lookup t=some v->a.tmps.getD t undef=v
def aa1.ag7:aa1 a []:=λ_ _ h=>bV
def aa1.aba{F:List (Nat×Value)}{d:Nat}{v:Value}(h:a.tmps.getD d undef=v)(hF:aa1 a F):aa1 a ((d,v)::F):=by
 intro t u hu;by_cases e:t=d
 ·subst e;simp[List.lookup]at hu;exact h.trans hu
 ·rw[List.lookup,beq_false_of_ne e]at hu;exact hF t u hu
def aa1.abl{F:List (Nat×Value)}{d:Nat}{v:Value}(hF:aa1 a F)(hd:d<a.tmps.size):aa1 (a.put (some d) v) ((d,v)::F):=by
 intro t u hu;rw[cW hd];by_cases e:t=d
 ·subst e;rw[if_pos rfl];simpa[List.lookup]using hu
 ·rw[if_neg (Ne.symm e)];rw[List.lookup,beq_false_of_ne e]at hu;exact hF t u hu
def Jt.FG{N:Nat}{jN:Nat->Prop}{l:Nat}{v1 v2:Value}{X1 X2:PV}{F:List (Nat×Value)}(h:Jt N jN l v1 v2 X1 X2 a w)(hF:aa1 a F){i d:Nat}{rest:List Nat}{o:Oper}{v:Value}{X:_}(ho:ops[i]?=some o)(hg:o.guard=none)(hd:o.dst=some d)(p:o.op=X)
 (cL:(execOp a.eval o).run P w=.ok (.value v) w) (k:∀a',Jt N jN l v1 v2 X1 X2 a' w->aa1 a' ((d,v)::F)->wpOpsIn Fence.wide m P ops Q rest a' w) (h3:3<=d/\d<N:=by decide) (hX:∀c,X≠.defer c:=by intro _ h;cases h):wpOpsIn Fence.wide m P ops Q (i::rest) a w:=
 oR ho hg hd cL (λc hc=>hX c (p.symm.trans hc)) (k _ (h.put h3.1 h3.2) (hF.abl (by rw[h.size];exact h3.2)))
def Fg{o:Oper}{t:Nat}(ho:o.op=.move (.tmp t)):(execOp a.eval o).run P w=.ok (.value (a.tmps.getD t undef)) w:=by
 have e:a.tmps.getD t undef=a.eval (.tmp t):=rfl;rw[e];simp[execOp,ho]
def Jt.Qt{N:Nat}{jN:Nat->Prop}{l:Nat}{v1 v2:Value}{X1 X2:PV}{F:List (Nat×Value)}(h:Jt N jN l v1 v2 X1 X2 a w)(hF:aa1 a F){i d t:Nat}{rest:List Nat}{o:Oper}{v:Value}(ho:ops[i]?=some o)(hg:o.guard=none)(hd:o.dst=some d)(p:o.op=.move (.tmp t))
 (hv:F.lookup t=some v) (k:∀a',Jt N jN l v1 v2 X1 X2 a' w->aa1 a' ((d,v)::F)->wpOpsIn Fence.wide m P ops Q rest a' w) (h3:3<=d/\d<N:=by decide):wpOpsIn Fence.wide m P ops Q (i::rest) a w:=
 h.FG hF ho hg hd p ((Fg p).trans (by rw[hF _ _ hv])) k h3
def Jt.NP{N n:Nat}{jN:Nat->Prop}{l:Nat}{v1 v2:Value}{X1 X2:PV}{F:List (Nat×Value)}(h:Jt N jN l v1 v2 X1 X2 a w)(hF:aa1 a F){i d t:Nat}{rest:List Nat}{o:Oper}{v:Value}(ho:ops[i]?=some o)(hm:Lr n o=some ⟨some d,none,.mv (.tmp t)⟩)
 (hv:F.lookup t=some v) (k:∀a',Jt N jN l v1 v2 X1 X2 a' w->aa1 a' ((d,v)::F)->wpOpsIn Fence.wide m P ops Q rest a' w) (h3:3<=d/\d<N:=by decide):wpOpsIn Fence.wide m P ops Q (i::rest) a w:=by
 obtain⟨d',t',hg,hd,_,sM,e⟩:=Pm hm;cases e;refine oR ho hg hd (v:=v) ?_ (λc hc=>aiR) (k _ (h.put h3.1 h3.2) (hF.abl (by rw[h.size];exact h3.2)));have e:a.eval (.tmp t)=v:=hF _ _ hv;rcases sM with sM|sM<;>simp[execOp,sM,e]
def ahv{i d f x l:Nat}{rest:List Nat}{o:Oper}{cc:Call}(ho:ops[i]?=some o)(hg:o.guard=none)(hd:o.dst=some d)(sM:o.op=.call cc)(Nu:cc.callee=.value (.tmp f))(aDq:cc.args= #[.tmp x])
 (hf:a.tmps.getD f undef=.func (.yield l) #[] #[]) (hY:YieldAt Fence.wide (m-1) P l #[a.tmps.getD x undef] w λe w'=>∃v,e=.returned v/\wpOpsIn Fence.wide m P ops Q rest (a.put (some d) v) w'):wpOpsIn Fence.wide m P ops Q (i::rest) a w:=by
 obtain⟨fn,tmps,assign,body,hr,hR⟩:=hY;have cL:(execOp a.eval o).run P w=.ok (.round l fn tmps assign body) w:=by
  have D0:a.eval (.tmp f)=.func (.yield l) #[] #[]:=hf;rw[<-hr];unfold execOp;rw[sM];simp only[resolve,Nu,aDq,D0,zcR,zat,zcw];rfl
 rw[wpOpsIn_cons];unfold wpOpIn;simp only[ho];have hw:Region.wanted o (yielded ops a.tmps)=true:=BT;rw[if_pos hw];refine⟨λf _=>trivial,?_⟩;rw[Oper.semAt_eq _ _ _ (λc hc=>by rw[sM]at hc;cases hc),cL,Oper.uponIn_round,hd];refine⟨λh=>bV,hR.mono ?_⟩;rintro e w' ⟨v,rfl,h⟩;exact h
def ans{o:Oper}{t:Nat}{b:Bool}{ty:TypeId}(ho:o.op=.unOp .not ty (.tmp t))(hb:a.tmps.getD t undef=.bool b):(execOp a.eval o).run P w=.ok (.value (.bool (!b))) w:=by
 have Cs:a.eval (.tmp t)=.bool b:=hb;simp[execOp,ho,Cs,Op.unary]
def aoe{o:Oper}{s t:Nat}{x y:Int}{ty ty':TypeId}(ho:o.op=.binOp .add ty (.tmp s) (.tmp t) ty')(hx:a.tmps.getD s undef=.int .i64 x)(hy:a.tmps.getD t undef=.int .i64 y)(hr: -9223372036854775808<=x+y/\x+y<=9223372036854775807):
 (execOp a.eval o).run P w=.ok (.value (.int .i64 (x+y))) w:=by
 have dR:a.eval (.tmp s)=.int .i64 x:=hx;have cn:a.eval (.tmp t)=.int .i64 y:=hy;obtain⟨r,v,h1,h2,h3,h4⟩:=aju (cx:={ P:=P,w0:=w,eC:=λ_=>False,hA:=λ_ h=>h.elim }) (σ:=[]) (vals:=[]) (w:=w) P .add ty (pI x) (pI y) (a.eval (.tmp s)) (a.eval (.tmp t)) (λr=>r=pI (x+y)) (by rw[dR];simp[Rd]) (by rw[cn];simp[Rd]) (by
  show ∀r:Int,r=IntKind.i64.wrap (x+y)->PV.int .i64 r=pI (x+y);intro r ic;rw[ic,wrap64 hr])
 subst h3;simp only[Rd]at h2;subst h2;simp[execOp,ho,h1,h4]
def ati{o:Oper}{s t:Nat}{b off:Nat}{v:Value}(ho:o.op=.load t (.tmp s))(hx:a.tmps.getD s undef=.pointer (some ⟨b,off,none⟩))(Cd:∀w,(isAgg t).run P w=.ok false w)(hc:w.cell? ⟨b,off,none⟩=some v):
 (execOp a.eval o).run P w=.ok (.value v) w:=by
 have dR:a.eval (.tmp s)=.pointer (some ⟨b,off,none⟩):=hx;simp[execOp,ho,dR,Instr.loadAt,Instr.sureAddr,loadVar,Cd,hc,Go.run_load]
def amD{o:Oper}{s lo hi mx:Nat}{t e:TypeId}{ad:Option Addr}{n c l h:Nat}(ho:o.op=.slice t (.tmp s) (some (.tmp lo)) (some (.tmp hi)) (some (.tmp mx)))(he:P.underlying t=some (.slice e))(hz:∀w,(sizeOf e).run P w=.ok 1 w)
 (hx:a.tmps.getD s undef=.slice ad n c) (hl:a.tmps.getD lo undef=.int .i64 (l:Nat)) (hh:a.tmps.getD hi undef=.int .i64 (h:Nat)) (hm:a.tmps.getD mx undef=.int .i64 (h:Nat)) (h1:l<=h) (h2:h<=c):
 (execOp a.eval o).run P w=.ok (.value (.slice (if h=l then ad else ad.map (·.add (l*1))) (h-l) (h-l))) w:=by
 have dR:a.eval (.tmp s)=.slice ad n c:=hx;have cK:a.eval (.tmp lo)=.int .i64 (l:Nat):=hl;have hh':a.eval (.tmp hi)=.int .i64 (h:Nat):=hh;have R4:a.eval (.tmp mx)=.int .i64 (h:Nat):=hm;have b1:(Instr.sliceBound (.int .i64 (h:Nat)) c .slice3Acap).run P w=.ok h w:=by
  simp[Instr.sliceBound,asIntOf,h2]
 have b2:(Instr.sliceBound (.int .i64 (h:Nat)) h .slice3B).run P w=.ok h w:=by
  simp[Instr.sliceBound,asIntOf]
 have b3:(Instr.sliceBound (.int .i64 (l:Nat)) h .slice3C).run P w=.ok l w:=by
  simp[Instr.sliceBound,asIntOf,h1]
 have b:(Instr.sliceBounds true n c (some (.int .i64 (l:Nat))) (some (.int .i64 (h:Nat))) (some (.int .i64 (h:Nat)))).run P w=.ok (l,h,h) w:=by
  simp[Instr.sliceBounds,b1,b2,b3]
 simp[execOp,ho,dR,cK,hh',R4,Instr.sliceAt,Instr.slice,run_underlying he,b,hz]
end
end
def bq{α:Type}(l:List α)(k:Nat):List α:=(l.drop (16*k)).take 16
def ew(n:Nat):Nat:=(n+15)/16
def chunks{α:Type}(l:List α):List (List α):=(List.range (ew l.length)).map (bq l)
def ait{α:Type}(l:List α)(k:Nat):bq l k=cut (16*k) (min (16*k+16) l.length) l:=by
 unfold bq cut;rw[List.drop_take];rcases Nat.lt_or_ge l.length (16*k+16)with h|h
 ·rw[zbK ab,za1 aH,za1 aj]
 ·rw[zas h];congr 1;omega
def yb{α:Type}(l:List α)(k:Nat):(bq l k).length=min 16 (l.length-16*k):=by
 simp[bq]
def pZ{α β:Type}(f:α->β)(l:List α)(k:Nat):bq (l.map f) k=(bq l k).map f:=by
 simp[bq]
def me(l:List Int):List (List PV):=(chunks l).map λc=>[.sl 1 (c.map pI)]
def ay4(jh:List PV)(L:List (List PV)):Prop:=
 ∃l:List Int,jh=[.cptr (.sl 1 (l.map pI)),.cptr (pI 16)]/\l.length<=1000000/\L=me l
def aJh:PC:=.region [⟨some 4,none,.mv (.const (.int .i64 0))⟩]
def aJg:PC:=.seq (.region [⟨some 6,none,.mv (.tmp 4)⟩,⟨some 7,none,.load false 1 (.tmp 1)⟩,⟨some 8,none,.lenR (.tmp 7)⟩,⟨some 9,none,.bin .lss (.tmp 6) (.tmp 8)⟩]) (.cond (.tmp 9) .skip (.exit 0))
def aJj:PC:=.drawD [⟨some 13,none,.load false 1 (.tmp 2)⟩,⟨some 14,none,.load false 1 (.tmp 1)⟩,⟨some 15,none,.mv (.tmp 4)⟩,⟨some 16,none,.slcR 1 (.tmp 14) (some (.tmp 15)) none⟩,⟨some 17,none,.lenN (.tmp 16)⟩,⟨some 18,none,.mm false (.tmp 13) (.tmp 17)⟩,⟨some 5,none,.mv (.tmp 18)⟩]
 [[],[],[],[1,2],[3],[0,4],[5,0,1,2,3,4,5]]
def aJA:PC:=.region [⟨some 10,none,.mv (.tmp 4)⟩,⟨some 11,none,.load false 1 (.tmp 2)⟩,⟨some 12,none,.bin .add (.tmp 10) (.tmp 11)⟩,⟨some 4,none,.mv (.tmp 12)⟩]
def axJ:∃(A B C R:Code) (id:Nat) (o0 o1 o2 o3 o4 o5 o6 o7 o8 o9 zp zq:Oper),
 Go.Proofs.Tryz.f258.body=some (.seq A (.block 0 (.loop (.seq B (.seq (.block 1 (.seq C (.seq (.region id #[o0,o1,o2,o3,o4,o5,o6,o7,o8,o9,zp,zq] false) (.cond (.tmp 30) .ret .skip)))) R)))))/\
 nR Go.Proofs.Tryz.prog 31 A=some (strip aJh)/\nR Go.Proofs.Tryz.prog 31 B=some (strip aJg)/\nR Go.Proofs.Tryz.prog 31 C=some (strip aJj)/\nR Go.Proofs.Tryz.prog 31 R=some (strip aJA)/\
 (o0.guard=none/\o0.dst=some 19/\o0.op=.move (.tmp 0))/\(o1.guard=none/\o1.dst=some 20/\o1.op=.load 45 (.tmp 1))/\(o2.guard=none/\o2.dst=some 21/\o2.op=.move (.tmp 4))/\
 (o3.guard=none/\o3.dst=some 22/\o3.op=.move (.tmp 4))/\(o4.guard=none/\o4.dst=some 23/\o4.op=.move (.tmp 5))/\(o5.guard=none/\o5.dst=some 24/\o5.op=.binOp .add 3 (.tmp 22) (.tmp 23) 3)/\
 (o6.guard=none/\o6.dst=some 25/\o6.op=.move (.tmp 4))/\(o7.guard=none/\o7.dst=some 26/\o7.op=.move (.tmp 5))/\(o8.guard=none/\o8.dst=some 27/\o8.op=.binOp .add 3 (.tmp 25) (.tmp 26) 3)/\
 (o9.guard=none/\o9.dst=some 28/\o9.op=.slice 45 (.tmp 20) (some (.tmp 21)) (some (.tmp 24)) (some (.tmp 27)))/\
 (zp.guard=none/\zp.dst=some 29∧∃c,zp.op=.call c/\c.callee=.value (.tmp 19)/\c.args= #[.tmp 28])/\(zq.guard=none/\zq.dst=some 30∧∃t,zq.op=.unOp .not t (.tmp 29)):=
 ⟨_,_,_,_,_,_,_,_,_,_,_,_,_,_,_,_,_,rfl,ak,ak,ak,ak,⟨rfl,rfl,rfl⟩,⟨rfl,rfl,rfl⟩,⟨rfl,rfl,rfl⟩,⟨rfl,rfl,rfl⟩,⟨rfl,rfl,rfl⟩,⟨rfl,rfl,rfl⟩,⟨rfl,rfl,rfl⟩,⟨rfl,rfl,rfl⟩,⟨rfl,rfl,rfl⟩,⟨rfl,rfl,rfl⟩,⟨rfl,rfl,_,rfl,rfl,rfl⟩,⟨rfl,rfl,_,rfl⟩⟩
def axO{ok:Nat->Prop}{w:World}{aC:List PV}{ad:Option Addr}{c l h:Nat}(hs:Rd ok w (.sl 1 aC) (.slice ad aC.length c))(EA:l<h)(hx:h<=aC.length):
 Rd ok w (.sl 1 (cut l h aC)) (.slice (ad.map (·.add (l*1))) (h-l) (h-l)):=by
 simp only[Rd]at hs ⊢;obtain⟨ad0,c0,hv,h1,h2,h3⟩:=hs;cases hv;refine⟨_,_,by rw[wL _ _ _ hx],ZG,ab,.inr ?_⟩;rcases h3 with h3|⟨b,o,rfl,di,h4⟩
 ·subst h3;simp at hx;omega
 ·exact⟨b,o+l*1,by simp[ik],di,SP l h aC ab hx o h4⟩
def jpI{a b:Int}(h:a=b):AV.pv (pI a)=AV.pv (pI b):=by rw[h]
def al4(hΓ:Sound Go.Proofs.Tryz.prog (ay [])):akR Go.Proofs.Tryz.prog 258 ay4:=by
 intro m w jN jh vs L di rT kW;obtain⟨l,rfl,hl,rfl⟩:=kW;have hf:Go.Proofs.Tryz.prog.funcs[258]?=some Go.Proofs.Tryz.f258:=ak;obtain⟨A,B,C,R,id,o0,o1,o2,o3,o4,o5,o6,o7,o8,o9,zp,zq,ab0,cA,cB,cC,cR,⟨g0,d0,p0⟩,⟨g1,d1,p1⟩,⟨g2,d2,p2⟩,⟨g3,d3,p3⟩,⟨g4,d4,p4⟩,⟨g5,d5,p5⟩,⟨g6,d6,p6⟩,⟨g7,d7,p7⟩,⟨g8,d8,p8⟩,⟨g9,d9,p9⟩,⟨g10,d10,cc,p10,aHl,aHm⟩,⟨g11,d11,tt,Lj⟩⟩:=axJ;refine⟨?_,Go.Proofs.enters_of hf ak ab0⟩;obtain⟨v1,v2,rfl,r1,r2⟩:∃v1 v2,vs= #[v1,v2]/\Rd jN w (.cptr (.sl 1 (l.map pI))) v1/\Rd jN w (.cptr (pI 16)) v2:=by
  simp only[bS]at rT;obtain⟨v1,t,e1,r1,v2,t2,rfl,r2,rfl⟩:=rT;exact⟨v1,v2,by rw[<-zca];exact e1,r1,r2⟩
 have r1':=r1;simp only[Rd]at r1';obtain⟨b1,q1,rfl,eE,_,u1,Oi,ad,cp,ov,hle,Aw,ly⟩:=r1';have Yh:Rd jN w (.sl 1 (l.map pI)) u1:=by simp only[Rd];exact⟨ad,cp,ov,hle,Aw,ly⟩
 subst ov;have hlen:(l.map pI).length=l.length:=zav ..
 let en:{ k:Nat//k<ew l.length }->Array Value:=λk=> #[.slice (ad.map (·.add (16*k.1*1))) (min (16*k.1+16) l.length-16*k.1) (min (16*k.1+16) l.length-16*k.1)]
 let yl:{ k:Nat//k<ew l.length }->List PV:=λk=>[.sl 1 ((bq l k.1).map pI)]
 have aU:∀k,k<ew l.length->16*k<l.length:=by intro k hk;unfold ew at hk;omega
 refine⟨{ k:Nat//k<ew l.length },yl,en,λk=>⟨?_,?_⟩,?_⟩
 ·show _∈me l;unfold me chunks;rw[List.map_map];exact zaX.2 ⟨k.1,zbm.2 k.2,rfl⟩
 ·show bS jN w [_] [_];simp only[bS];refine⟨_,_,rfl,?_,rfl⟩;rw[<-pZ,ait,hlen];exact axO Yh (by have:=aU k.1 k.2;omega) (by rw[hlen];omega)
 intro yy J Jx W hb hJ hJx hY h0;have u4:∀b o,jN b->W.cell? ⟨b,o,none⟩=w.cell? ⟨b,o,none⟩:=λb o Cs=>World.cell?_of_block (hb.block b (di b Cs))
 refine callsIn_of_wp hf ab0 trivial ?_;have GY:Jt 31 jN yy (.pointer (some ⟨b1,q1,none⟩)) v2 (.cptr (.sl 1 (l.map pI))) (.cptr (pI 16)) { tmps:=(#[Value.func (.yield yy) #[] #[]]++ #[.pointer (some ⟨b1,q1,none⟩),v2])++Array.replicate (Go.Proofs.Tryz.f258.ntmps-(#[Value.func (.yield yy) #[] #[]]++ #[.pointer (some ⟨b1,q1,none⟩),v2]).size) undef,defers:=[] } W:=by
  have hn:Go.Proofs.Tryz.f258.ntmps-(#[Value.func (.yield yy) #[] #[]]++ #[.pointer (some ⟨b1,q1,none⟩),v2]).size=28:=by
   rw[show Go.Proofs.Tryz.f258.ntmps=31 by kernel_rfl];rfl
  rw[hn];obtain⟨a0,a1,a2,a3⟩:=ao8 (Value.func (.yield yy) #[] #[]) (.pointer (some ⟨b1,q1,none⟩)) v2 28;exact⟨a3,rfl,a0,a1,a2,Rd.mono (λ_ h=>h) u4 _ _ r1,Rd.mono (λ_ h=>h) u4 _ _ r2,λb Cs=>zaf (di b Cs) hb.size⟩
 generalize ({ tmps:=(#[Value.func (.yield yy) #[] #[]]++ #[.pointer (some ⟨b1,q1,none⟩),v2])++Array.replicate (Go.Proofs.Tryz.f258.ntmps-(#[Value.func (.yield yy) #[] #[]]++ #[.pointer (some ⟨b1,q1,none⟩),v2]).size) undef,defers:=[] }:Act)=aKL at GY;refine wpIn_seq (GY.piece hΓ (ps:=[1,2,4,5]) cA rfl rfl (GY.TR [] aj) (q:=λe f=>e=.normal/\f 4=.pv (pI 0)) ⟨rfl,rfl⟩ m _ ?_);intro e aKM W1 amV σ1 kh Vd vA Gw j0;cases e with
 |exit i=>exact QF
 |ret=>exact QF
 |normal=>
  obtain⟨_,dV⟩:=j0;have t14:=Jt.num Gw dV;have j1:J [] W1:=hJ [] W W1 none h0 vA (λr e=>cz);have Gp:∀W':World,W'.heap[b1]?=w.heap[b1]?->W'.cell? ⟨b1,q1,none⟩=some (.slice ad l.length cp):=by
   intro W' h;rw[World.cell?_of_block h,Oi,hlen]
  have n9:∀{A B:World},A.grownBy B none->b1<A.heap.size->A.heap[b1]?=w.heap[b1]?->B.heap[b1]?=w.heap[b1]?:=λhg h1 h2=>(hg.block b1 h1 (λe=>cz)).trans h2
  have hW1:W1.heap[b1]?=w.heap[b1]?:=n9 vA (zaf (di b1 eE) hb.size) (hb.block b1 (di b1 eE));refine wpIn_block ?_;refine wpIn_loop (λact W=>∃(k:Nat) (pre:List { k:Nat//k<ew l.length }),Jt 31 jN yy (.pointer (some ⟨b1,q1,none⟩)) v2 (.cptr (.sl 1 (l.map pI))) (.cptr (pI 16)) act W/\W.heap[b1]?=w.heap[b1]?/\act.tmps.getD 4 undef=.int .i64 ((16*k:Nat):Int)/\J pre W/\pre.map yl=(me l).take k/\k<=ew l.length) (λact _=>(l.length+16-intOf (act.tmps.getD 4 undef)).toNat)
   ⟨0,[],Vd,hW1,t14,j1,aj,ab⟩ ?_
  clear t14 j1 Vd Gw dV;rintro act W ⟨k,pre,it,hW,t4,hj,hL,hk⟩;refine wpIn_seq (it.piece hΓ (ps:=[1,2,4,5]) cB rfl rfl (it.TR [(4,((16*k:Nat):Int))] (by intro q hq;simp only[zaw,zb9,or_false]at hq;rcases hq with rfl;exact t4)) (q:=λe f=>f 4=.pv (pI ((16*k:Nat):Int))/\((e=.normal/\16*k<l.length)\/(e=.exit 0∧¬16*k<l.length))) ?vcB m _ ?_)
  case vcB=>
   refine λ_=>?_
   refine λb hb=>?_
   rw[hlen]at hb;rcases cmp hb with⟨rfl,h⟩|⟨rfl,h⟩
   ·exact⟨rfl,.inl ⟨rfl,ab⟩⟩
   ·exact⟨rfl,.inr ⟨rfl,ab⟩⟩
  intro e aKN W2 ahb σ2 lh zX mU CW jx;have j2:J pre W2:=hJ pre W W2 none hj mU (λr e=>cz);have hW2:=n9 mU (it.ok b1 eE) hW;cases e with
  |ret=>exact(by obtain⟨_,h|h⟩:=jx<;>cases h.1)
  |exit i=>
   obtain⟨Vw,hc⟩:=jx;obtain⟨rfl,hc⟩:i=0∧¬16*k<l.length:=by
    rcases hc with⟨h,_⟩|⟨h,h'⟩
    ·cases h
    ·injection h with h;exact⟨h,h'⟩
   refine⟨zX.defs,.tuple #[],results_none rfl _ _ _,⟨_,rfl⟩,.inl ⟨pre,?_,j2⟩⟩;show pre.map yl=me l;rw[hL,za1];simp only[me,chunks,zav,zco];unfold ew at hk ⊢;omega
  |normal=>
   obtain⟨Vw,hc⟩:=jx;have Eo:16*k<l.length:=aht;have LL:k<ew l.length:=FO;have t24:=Jt.num CW Vw;clear CW Vw hc mU it hj hW;have hM:∀(UG:Act) (W5:World) (ab4:List { k:Nat//k<ew l.length }),Jt 31 jN yy (.pointer (some ⟨b1,q1,none⟩)) v2 (.cptr (.sl 1 (l.map pI))) (.cptr (pI 16)) UG W5->W5.heap[b1]?=w.heap[b1]?->UG.tmps.getD 4 undef=.int .i64 ((16*k:Nat):Int)->J ab4 W5->ab4.map yl=(me l).take (k+1)->
    R.wpIn Fence.wide m Go.Proofs.Tryz.prog (Exit.then (λtk W'=>(∃(k:Nat) (pre:List { k:Nat//k<ew l.length }),Jt 31 jN yy (.pointer (some ⟨b1,q1,none⟩)) v2 (.cptr (.sl 1 (l.map pI))) (.cptr (pI 16)) tk W'/\W'.heap[b1]?=w.heap[b1]?/\tk.tmps.getD 4 undef=.int .i64 ((16*k:Nat):Int)/\J pre W'/\pre.map yl=(me l).take k/\k<=ew l.length)/\(l.length+16-intOf (tk.tmps.getD 4 undef)).toNat<(l.length+16-intOf (act.tmps.getD 4 undef)).toNat)
     (Exit.inBlock 0 (bodyPost Go.Proofs.Tryz.prog Go.Proofs.Tryz.f258 λe W'=>(∃v,e=.returned v)/\((∃xs,(λxs=>xs.map yl=me l) xs/\J xs W')\/(∃pre,(λpre=>pre.map yl<+:me l) pre/\Jx pre W'))))) UG W5:=by
    intro UG W5 ab4 uA hW5 t54 j5 VB;refine uA.piece hΓ (ps:=[1,2,4,5]) cR rfl rfl (uA.TR [(4,((16*k:Nat):Int))] (by intro q hq;simp only[zaw,zb9,or_false]at hq;rcases hq with rfl;exact t54)) (q:=λe f=>e=.normal/\f 4=.pv (pI ((16*(k+1):Nat):Int))) ?_ m _ ?_
    ·refine λx hx=>?_
     replace hx:=dB hx ab;subst hx;exact⟨rfl,jpI (by push_cast;omega)⟩
    ·intro e ayy W6 aG4 σ6 azG zY JU pz wH;cases e with
     |normal=>
      obtain⟨_,iG⟩:=wH;have t64:=Jt.num pz iG;refine⟨⟨k+1,ab4,zY,n9 JU (uA.ok b1 eE) hW5,t64,hJ ab4 W5 W6 none j5 JU (λr e=>cz),VB,LL⟩,?_⟩;rw[t64,t4];show((l.length:Int)+16-((16*(k+1):Nat):Int)).toNat<((l.length:Int)+16-((16*k:Nat):Int)).toNat;omega
     |exit i=>exact FF
     |ret=>exact FF
     |_=>exact wH.elim
   have qG:pre.length=k:=by
    have:=congrArg List.length hL;simp only[zav,zal,me,chunks,zco]at this;omega
   have hx:k<ew l.length:=LL;have Gs:(pre++[(⟨k,hx⟩:{ k:Nat//k<ew l.length })]).map yl=(me l).take (k+1):=by
    have e:(me l)[k]?=some (yl ⟨k,hx⟩):=by
     simp only[me,chunks,za9,List.getElem?_range hx,Option.map_some];rfl
    rw[zbu,hL,List.take_add_one,e];rfl
   have hE':((min (16*k+16) l.length:Nat):Int)=((16*k:Nat):Int)+min 16 ((l.length:Int)-16*k):=ab;refine wpIn_seq (wpIn_block ?_);refine wpIn_seq (zX.piece hΓ (ps:=[1,2,4,5]) cC rfl rfl (zX.TR [(4,((16*k:Nat):Int))] (by intro q hq;simp only[zaw,zb9,or_false]at hq;rcases hq with rfl;exact t24)) (q:=λe f=>e=.normal/\f 4=.pv (pI ((16*k:Nat):Int))/\f 5=.pv (pI (min 16 ((l.length:Int)-16*k)))) ?vcC m _ ?_)
   case vcC=>
    refine oQ ?_
    (conv=>whnf)
    refine zcB ⟨ab,by rw[hlen];omega⟩ ?_
    (conv=>whnf)
    refine λx hx=>?_
    rw[wL _ _ _ (zai _),hlen]at hx;refine zcB ak ⟨rfl,rfl,jpI ?_⟩;rw[hx];omega
   intro e amY W3 ahc σ3 II uv jI pq ry;have j3:J pre W3:=hJ pre W2 W3 none j2 jI (λr e=>cz);have hW3:=n9 jI (zX.ok b1 eE) hW2;cases e with
   |exit i=>exact(by obtain⟨h,_⟩:=ry;cases h)
   |ret=>exact(by obtain⟨h,_⟩:=ry;cases h)
   |normal=>
    obtain⟨_,jT,V7⟩:=ry;have t34:=Jt.num pq jT;have t35:=Jt.num pq V7;clear pq jT V7 jI zX j2 hW2 t24;refine wpIn_seq (wpIn_region ?_);show wpOpsIn Fence.wide m _ _ _ [0,1,2,3,4,5,6,7,8,9,10,11] amY W3;have hF:=aa1.aba uv.t0 (.aba uv.t1 (.aba t34 (.aba t35 .ag7)));refine uv.Qt hF rfl g0 d0 p0 rfl λa0 i0 hF=>?_
    refine i0.FG hF rfl g1 d1 p1 (ati p1 (hF 1 _ rfl) Go.Proofs.Tryz.isAgg45 (Gp W3 hW3)) λa1 i1 hF=>?_
    refine i1.Qt hF rfl g2 d2 p2 rfl λa2 i2 hF=>?_
    refine i2.Qt hF rfl g3 d3 p3 rfl λa3 i3 hF=>?_
    refine i3.Qt hF rfl g4 d4 p4 rfl λa4 i4 hF=>?_
    refine i4.FG hF rfl g5 d5 p5 (aoe p5 (hF 22 _ rfl) (hF 23 _ rfl) ab) λa5 i5 hF=>?_
    refine i5.Qt hF rfl g6 d6 p6 rfl λa6 i6 hF=>?_
    refine i6.Qt hF rfl g7 d7 p7 rfl λa7 i7 hF=>?_
    refine i7.FG hF rfl g8 d8 p8 (aoe p8 (hF 25 _ rfl) (hF 26 _ rfl) ab) λa8 i8 hF=>?_
    refine i8.FG (v:=.slice (ad.map (·.add (16*k*1))) (min (16*k+16) l.length-16*k) (min (16*k+16) l.length-16*k)) hF rfl g9 d9 p9 ((amD p9 Go.Proofs.Tryz.underlying45 Go.Proofs.Tryz.sizeOf3 (hF 20 _ rfl) (hF 21 _ rfl) (by rw[hF 24 _ rfl,<-hE']) (by rw[hF 27 _ rfl,<-hE']) ab (by rw[hlen]at hle;omega)).trans (by rw[if_neg ab])) λa9 k9 hF=>?_
    obtain⟨fn,tm,qJ,bd,hy,hR⟩:=hY pre ⟨k,hx⟩ W3 j3 (by simp only[me,chunks,zav,zco];omega);refine ahv rfl g10 d10 p10 aHl aHm (l:=yy) (hF 19 _ rfl) ?_;rw[hF 28 _ rfl];refine⟨fn,tm,qJ,bd,hy,hR.mono ?_⟩;rintro e W8 (⟨rfl,j8,k8⟩|⟨rfl,jx8⟩)
    ·refine⟨_,rfl,?_⟩;have i8:=k9.kept k8;have zm:W8.heap[b1]?=w.heap[b1]?:=(k8.2 b1 eE).trans hW3;have hF:=hF.abl (d:=29) (v:=.bool true) (by rw[k9.size];omega);refine(i8.put (q:=29) (v:=.bool true) ab ab).FG hF rfl g11 d11 Lj (ans Lj (hF 29 _ rfl)) λa11 k11 hF=>?_
     exact wpIn_cond_false (hF 30 _ rfl) (wpIn_skip (hM a11 W8 (pre++[⟨k,hx⟩]) k11 zm (hF 4 _ rfl) j8 Gs))
    ·refine⟨_,rfl,?_⟩;have n10:(a9.put (some 29) (.bool false)).tmps.getD 29 undef=.bool false:=by rw[cW (by rw[k9.size];omega),if_pos rfl]
     have s10:(a9.put (some 29) (.bool false)).tmps.size=31:=(xL ..).trans k9.size;have r5:(a9.put (some 29) (.bool false)).defers=[]:=k9.defs;generalize a9.put (some 29) (.bool false)=Yj at n10 s10 r5;refine oR rfl g11 d11 (ans Lj n10) (λc hc=>by have:=Lj.symm.trans hc;cases this) ?_;have n11:(Yj.put (some 30) (.bool (!false))).tmps.getD 30 undef=.bool true:=by rw[cW (by rw[s10];omega),if_pos rfl];rfl
     have e11:(Yj.put (some 30) (.bool (!false))).defers=[]:=r5;generalize Yj.put (some 30) (.bool (!false))=a11 at n11 e11;refine wpIn_cond_true n11 (wpIn_ret ?_);refine⟨e11,.tuple #[],results_none rfl _ _ _,⟨_,rfl⟩,.inr ⟨pre++[⟨k,hx⟩],?_,jx8⟩⟩;show(pre++[(⟨k,hx⟩:{ k:Nat//k<ew l.length })]).map yl<+:me l;rw[Gs];exact List.take_prefix _ _
   |_=>exact ry.elim
  |_=>exact jx.elim
 |_=>exact j0.elim
end Go.Dv.Try
namespace Go.Dv.Try
open Go Go.Dv
def L7:Spec:={ lone:=false,fn:=false,run:=λ_ _=>False,iter:=ay4,mu:=false,qS:=λ_ _ _=>False }
def alX(hΓ:Sound Go.Proofs.Tryz.prog (ay [])):bU Go.Proofs.Tryz.prog 258 L7:=
 ⟨(λe=>cz),(λe=>cz),(λ_ _ _ _ _ _ _ _ h=>(show False from h).elim),al4 hΓ,(λ_ _ _ _ _ _ _ _ e=>cz)⟩
abbrev rI(l:List Int):PV:=.sl 1 (l.map pI)
def aeV:Spec:=EM false false λps K=>∃(l:List Int),ps=[rI l,pI 16]/\K (.pv (.clo 258 [.cptr (rI l),.cptr (pI 16)]))
def ahK:MT (ay [(258,L7)]) uE aeV:=by
 rintro _ K ⟨l,rfl,hK⟩;refine aw (p:=(16:Int)<1) ab ?_;exact FI
def nP(cs:List (List Int)):PV:=match cs with|[]=>.nil 0|cs=>.sl 1 (cs.map rI)
def alP{cs:List (List Int)}(h:cs≠[]):nP cs=.sl 1 (cs.map rI):=by
 cases cs with
 |nil=>exact kN
 |cons _ _=>rfl
def CS{cs:List (List Int)}{σ:aF}{K:Nat->List PV->Prop}(k:∀s,K s (cs.map rI)):Ef σ (.pv (nP cs)) K:=by
 cases cs with
 |nil=>exact k 0
 |cons c cs=>exact k 1
def auV:Spec:=EM false false λps K=>∃(l:List Int),ps=[.nil 0,.clo 258 [.cptr (rI l),.cptr (pI 16)]]/\l.length<=1000000/\K (.pv (nP (chunks l)))
def VJ:MT (ay [(258,L7)]) qj auV:=by
 rintro _ K ⟨l,rfl,hl,hK⟩;refine⟨me l,λpre σ=>∃cs:List (List Int),pre=cs.map (λc=>[rI c])/\σ=(match cs with|[]=>[.box 235 [.pv (.nil 0)],.row 45 1 true []]|cs=>[.box 235 [.own 2],.row 45 1 true [],.row 45 1 true (cs.map rI)]),⟨l,rfl,hl,rfl⟩,?_,⟨rfl,[],rfl,rfl⟩,?_,?_⟩
 ·intro x hx;simp only[me,zaX]at hx;obtain⟨p,_,rfl⟩:=hx;rfl
 ·rintro pre x σ hx hlen ⟨cs,rfl,rfl⟩;simp only[me,zaX]at hx;obtain⟨c,_,rfl⟩:=hx;have mE:cs.length<70000:=by
   simp only[zav,me,chunks,zco,ew]at hlen;omega
  cases cs with
  |nil=>
   refine⟨rfl,?_⟩;refine⟨⟨aj,aj⟩,?_⟩;refine⟨rfl,?_⟩;exact⟨rfl,rfl,[c],rfl,rfl⟩
  |cons d cs=>
   refine⟨rfl,?_⟩;refine⟨⟨by simp at mE ⊢;omega,by simp at mE ⊢;omega⟩,?_⟩;refine⟨rfl,?_⟩;exact⟨rfl,rfl,d::cs++[c],aj,aj⟩
 ·rintro σ ⟨cs,sH,rfl⟩;have:cs=chunks l:=by
   unfold me at sH;have h2:=congrArg (List.map λx:List PV=>x) sH;exact(zch (f:=λc:List Int=>[rI c]) (λx y e=>by
    simp only[List.cons.injEq,PV.sl.injEq,true_and,and_true]at e;exact(zch (λa b e=>by cases e;rfl)).1 e)).1 sH.symm
  subst this;unfold nP at hK;cases h:chunks l with
  |nil=>
   rw[h]at hK;exact Zg
  |cons d cs=>
   rw[h]at hK;exact FI
def Ti:Spec:=EM false false λps K=>∃(l:List Int),ps=[.clo 258 [.cptr (rI l),.cptr (pI 16)]]/\l.length<=1000000/\K (.pv (nP (chunks l)))
def acY:MT (ay [(257,auV)]) x8 Ti:=by
 rintro _ K ⟨l,rfl,hl,hK⟩;refine⟨l,rfl,hl,?_⟩;cases h:chunks l with
 |nil=>rw[h]at hK;exact Zg
 |cons d cs=>rw[h]at hK;exact FI
end Go.Dv.Try
namespace Go.Proofs
def Tryz.fZ:Go.Shelf.Ren:=⟨λ|105=>131|212=>184|99=>185|165=>186|166=>187|170=>188|169=>189|263=>221|264=>222|206=>223|240=>224|241=>225|276=>254|277=>255|n=>n,λ|9=>9|3=>3|4=>4|20=>20|0=>0|46=>213|109=>214|5=>5|72=>219|76=>223|51=>251|146=>252|53=>254|148=>255|70=>217|37=>186|75=>222|127=>257|164=>284|80=>192|n=>n,λ|n=>n⟩
def Tryz.GL:Go.Proofs.Lays.n105 Tryz.prog Tryz.fZ:={
 mixed:=by kernel_rfl
 f99:=Tryz.func185.trans (congrArg some (by kernel_rfl))
 f105:=Tryz.func131.trans (congrArg some (by kernel_rfl))
 f165:=Tryz.func186.trans (congrArg some (by kernel_rfl))
 f166:=Tryz.func187.trans (congrArg some (by kernel_rfl))
 f169:=Tryz.func189.trans (congrArg some (by kernel_rfl))
 f170:=Tryz.func188.trans (congrArg some (by kernel_rfl))
 f206:=Tryz.func223.trans (congrArg some (by kernel_rfl))
 f212:=Tryz.func184.trans (congrArg some (by kernel_rfl))
 f240:=Tryz.func224.trans (congrArg some (by kernel_rfl))
 f241:=Tryz.func225.trans (congrArg some (by kernel_rfl))
 f263:=Tryz.func221.trans (congrArg some (by kernel_rfl))
 f264:=Tryz.func222.trans (congrArg some (by kernel_rfl))
 f276:=Tryz.func254.trans (congrArg some (by kernel_rfl))
 f277:=Tryz.func255.trans (congrArg some (by kernel_rfl))
 t0:=Tryz.underlying0
 a0:=Tryz.isAgg0
 z0:=Tryz.sizeOf0
 v0:=Tryz.zeroValue0
 t3:=Tryz.underlying3
 a3:=Tryz.isAgg3
 z3:=Tryz.sizeOf3
 v3:=Tryz.zeroValue3
 t4:=Tryz.underlying4
 a4:=Tryz.isAgg4
 z4:=Tryz.sizeOf4
 v4:=Tryz.zeroValue4
 t5:=Tryz.underlying5
 a5:=Tryz.isAgg5
 z5:=Tryz.sizeOf5
 v5:=Tryz.zeroValue5
 t9:=Tryz.underlying9
 a9:=Tryz.isAgg9
 z9:=Tryz.sizeOf9
 v9:=Tryz.zeroValue9
 t20:=Tryz.underlying20
 a20:=Tryz.isAgg20
 z20:=Tryz.sizeOf20
 v20:=Tryz.zeroValue20
 t37:=Tryz.underlying186
 a37:=Tryz.isAgg186
 z37:=Tryz.sizeOf186
 v37:=Tryz.zeroValue186
 t46:=Tryz.underlying213
 a46:=Tryz.isAgg213
 z46:=Tryz.sizeOf213
 v46:=Tryz.zeroValue213
 t51:=Tryz.underlying251
 a51:=Tryz.isAgg251
 z51:=Tryz.sizeOf251
 v51:=Tryz.zeroValue251
 t53:=Tryz.underlying254
 a53:=Tryz.isAgg254
 z53:=Tryz.sizeOf254
 v53:=Tryz.zeroValue254
 t70:=Tryz.underlying217
 a70:=Tryz.isAgg217
 z70:=Tryz.sizeOf217
 v70:=Tryz.zeroValue217
 t72:=Tryz.underlying219
 a72:=Tryz.isAgg219
 z72:=Tryz.sizeOf219
 v72:=Tryz.zeroValue219
 t75:=Tryz.underlying222
 a75:=Tryz.isAgg222
 z75:=Tryz.sizeOf222
 v75:=Tryz.zeroValue222
 t76:=Tryz.underlying223
 a76:=Tryz.isAgg223
 z76:=Tryz.sizeOf223
 v76:=Tryz.zeroValue223
 t109:=Tryz.underlying214
 a109:=Tryz.isAgg214
 z109:=Tryz.sizeOf214
 v109:=Tryz.zeroValue214
 t127:=Tryz.underlying257
 a127:=Tryz.isAgg257
 z127:=Tryz.sizeOf257
 v127:=Tryz.zeroValue257
 t146:=Tryz.underlying252
 a146:=Tryz.isAgg252
 z146:=Tryz.sizeOf252
 v146:=Tryz.zeroValue252
 t148:=Tryz.underlying255
 a148:=Tryz.isAgg255
 z148:=Tryz.sizeOf255
 v148:=Tryz.zeroValue255
 t164:=Tryz.underlying284
 a164:=Tryz.isAgg284
 z164:=Tryz.sizeOf284
 v164:=Tryz.zeroValue284 }
def Tryz.pH:Builder.Extra Tryz.prog Tryz.fZ:={
 sizeBuilder:=by kernel_rfl
 liesBuilder:=by kernel_rfl
 t5:=Tryz.underlying5
 a5:=Tryz.isAgg5
 z5:=Tryz.sizeOf5
 v5:=Tryz.zeroValue5
 infoByte:=by kernel_rfl
 cellsByte:=by kernel_rfl
 sizeByte:=by kernel_rfl
 neB5:=by decide }
end Go.Proofs
namespace Go.Dv.Try
open Go Go.Dv Go.RowKit
section
def alf(l:List UInt8):Nat->List UInt8
 |0=>[]
 |c+1=>l++alf l c
def am6(l:List UInt8):∀c,Lib.repeatL l c=alf l c
 |0=>rfl
 |c+1=>by simp only[Lib.repeatL,alf,am6 l c]
def ank{P:Program}{f:FuncId}(R:List PV->PV->Prop)(avv:Enters P f)(akn:∀ps x,R ps x->x.flat)(h:∀(w:World) (ok:Nat->Prop) (ps:List PV) (x:PV) (vs:Array Value),bS ok w ps vs.toList->R ps x->Calls P f vs w λe w'=>∃v,e=.returned v/\Rd (λ_=>False) w' x v/\Below w.heap.size w w'):bU P f (ah R):=by
 refine⟨λe=>((ax R).1 e).2,λ_=>⟨rfl,rfl⟩,?_,λ_ _ _ _ _ _ _ _ h=>(show False from h).elim,λ_ _ _ _ _ _ _ _ e=>(by cases e)⟩;rintro w ok ps vs K _ di rT ⟨x,hx,hK⟩;refine⟨avv,(h w ok ps x vs rT hx).mono ?_⟩;rintro e w' ⟨v,rfl,h1,h2⟩;exact⟨v,.pv x,[],rfl,hK,h2,by simp only[RR];exact⟨anW (akn ps x hx) h1,trivial⟩,by simp,λi j u t b _ hu=>by simp at hu⟩
def Lo(ps:List PV)(x:PV):Prop:=∃(l:List UInt8) (c:Int),ps=[.str l,.int .i64 c]/\(0<=c/\c<=1000000/\l.length<=1000000)/\x=.str (alf l c.toNat)
def aqk:bU Go.Proofs.Tryz.prog rf (ah Lo):=by
 refine ank Lo (Go.Proofs.enters_of Go.Proofs.Tryz.GL.f105 (by kernel_rfl) rfl) ?_ ?_
 ·rintro ps x ⟨l,c,rfl,_,rfl⟩;trivial
 ·rintro w ok ps x vs rT ⟨l,c,rfl,⟨h1,h2,h3⟩,rfl⟩;simp only[bS,Rd]at rT;obtain⟨_,_,e,rfl,_,_,rfl,rfl,rfl⟩:=rT;have:vs= #[.string ⟨l.toArray⟩,.int .i64 c]:=by rw[<-zca];exact e
  subst this;have hb:l.length*c.toNat<=1000000*1000000:=Nat.mul_le_mul h3 (by omega);have:=Go.Proofs.Any.strings_Repeat Go.Proofs.Tryz.GL Go.Proofs.Tryz.pH ⟨l.toArray⟩ c.toNat w (by omega) (by show l.length*c.toNat<=_;omega);rw[show((c.toNat:Nat):Int)=c by omega]at this;refine this.mono ?_;rintro e w' ⟨rfl,h⟩;exact⟨_,rfl,by simp only[Rd,am6],h⟩
def aA1:PV:=.val (.pointer none)
def ak2:aF:=[.box cT [.pv aA1,.pv (.nil 1)]]
def ach(l:List UInt8):aF:=[.box cT [.ref 0 0 0,.own 1],.row 5 1 true (l.map aL)]
def C4(xs:List AV)(σ:aF)(K:AV->aF->Prop):Prop:=
 xs=[.ref 0 0 0]/\((σ=ak2/\K (.tup []) [.box cT [.ref 0 0 0,.pv (.nil 1)]])∨∃l,σ=ach l/\K (.tup []) (ach l))
def TC:Enters Go.Proofs.Tryz.prog uJ:=Go.Proofs.enters_of Go.Proofs.Tryz.GL.f240 (by kernel_rfl) rfl
def af2:bU Go.Proofs.Tryz.prog uJ (sB C4):=by
 refine⟨λe=>(by cases e),λe=>(by cases e),λ_ _ _ _ _ e=>(by cases e),λ_ _ _ _ _ _ _ _ h=>(show False from h).elim,?_⟩;rintro w ok di σ0 eR xs vs K _ PD l9 ⟨rfl,hK⟩;refine⟨TC,?_⟩;simp only[fY]at l9;obtain⟨v,_,hv,Ql,rfl⟩:=l9;have y9:vs= #[v]:=by rw[<-zca];exact hv
 subst y9;rcases hK with⟨rfl,hK⟩|⟨l,rfl,hK⟩
 ·have hl:=PD.len;obtain⟨u,rfl⟩:∃u,eR=[u]:=by
   cases eR with
   |nil=>simp[ak2]at hl
   |cons u t=>cases t with
    |nil=>exact⟨u,rfl⟩
    |cons _ _=>simp[ak2]at hl
  have tZ:=PD.sV 0 _ u rfl rfl;obtain⟨b,arr,rfl,eh,hb,h1,h2⟩:=tZ;simp only[RA]at Ql;obtain⟨_,_,_,xe⟩:=Ql;obtain⟨u,b',hu,Cs,rfl⟩:=xe _ rfl rfl;simp at hu;subst hu;simp[cE]at Cs;subst Cs;simp only[fY,RA,Rd,aA1]at h2;obtain⟨x,r,e,⟨rfl,_⟩,y,r2,rfl,rfl,rfl⟩:=h2;have UE:arr= #[.pointer none,.slice none 0 0]:=by rw[<-zca];exact e
  subst UE;refine(Go.Proofs.Any.Builder_copyCheck_fresh { Go.Proofs.Tryz.GL with } Go.Proofs.Tryz.pH.toX72 b w (by simp[World.cell?,hb]) (by simp[World.shape?,hb];rfl) (by simp[World.frozen?,hb])).mono ?_;rintro e w' ⟨rfl,rfl⟩;have cb:∀k,k≠b->(w.setCell ⟨b,0,none⟩ (.pointer (some ⟨b,0,none⟩))).heap[k]?=w.heap[k]?:=λk hk=>Below.heap_setCell _ _ _ _ hk
  have PB:(w.setCell ⟨b,0,none⟩ (.pointer (some ⟨b,0,none⟩))).heap[b]?=some (.cells #[.pointer (some ⟨b,0,none⟩),.slice none 0 0] cT (0,0)):=by
   simp[World.setCell,zcE,hb]
  obtain⟨h3,_⟩:=PD.write (id:=0) (s:=.box cT [.pv aA1,.pv (.nil 1)]) (s':=.box cT [.ref 0 0 0,.pv (.nil 1)]) (u:=.pointer (some ⟨b,0,none⟩)) (g:=b) rfl rfl rfl trivial rfl rfl cb (by simp[World.setCell]) rfl rfl rfl
   (λ_=>⟨b,_,rfl,eh,PB,by simp[AV.one,PV.one],by
     simp only[fY,RA,Rd];refine⟨_,_,rfl,⟨by simp[ak2],⟨_,rfl⟩,λe sz ap aC h=>by simp[ak2]at h,λe cs h=>⟨_,b,rfl,rfl,rfl⟩⟩,_,_,rfl,rfl,rfl⟩⟩)
  exact⟨_,_,_,_,rfl,hK,h3,by simp only[RA];exact⟨#[],rfl,by simp[fY]⟩⟩
 ·obtain⟨u,t,rfl⟩:∃u t,eR=[u,t]:=by
   have hl:=PD.len
   match eR,hl with
   |[u,t],_=>exact⟨u,t,rfl⟩
  have tZ:=PD.sV 0 _ u rfl rfl;obtain⟨b,arr,rfl,eh,hb,h1,h2⟩:=tZ;simp only[RA]at Ql;obtain⟨_,_,_,xe⟩:=Ql;obtain⟨u,b',hu,Cs,rfl⟩:=xe _ rfl rfl;simp at hu;subst hu;simp[cE]at Cs;subst Cs;simp only[fY,RA]at h2;obtain⟨x,r,e,⟨_,_,_,hx⟩,y,r2,rfl,hy,rfl⟩:=h2;obtain⟨u,b',hu,Cs,rfl⟩:=hx _ rfl rfl;simp at hu;subst hu;simp[cE]at Cs;subst Cs;have UE:arr= #[.pointer (some ⟨b,0,none⟩),y]:=by rw[<-zca];exact e
  subst UE;refine(Go.Proofs.Any.Builder_copyCheck_used { Go.Proofs.Tryz.GL with } Go.Proofs.Tryz.pH.toX72 b w (by simp[World.cell?,hb])).mono ?_;rintro e w' ⟨rfl,rfl⟩;exact⟨_,_,_,_,rfl,hK,PD,by simp only[RA];exact⟨#[],rfl,by simp[fY]⟩⟩
open Go.Shelf Go.Proofs in
set_option maxHeartbeats 2000000 in
set_option maxRecDepth 100000 in
def amz(b g cap:Nat)(q:Value)(cur:Array Value)(l:List UInt8)(w:World)(Ue:w.heap[b]?=some (.cells #[q,.slice (some ⟨g,0,none⟩) l.length cap] cT (0,0)))(hg:w.heap[g]?=some (.cells cur 5 (0,0)))(h0:l≠[])(mO:l.length<=cap)(AQ:cap<=maxLen)(sH:cur.size=cap*1)
 (aeP:cur.toList.take (l.length*1)=Lib.byteCells l):
 Calls Go.Proofs.Tryz.prog 189 #[.pointer (some ⟨b,0,none⟩)] w λe w'=>e=.returned (.string ⟨l.toArray⟩)/\(w'.os=w.os/\w'.tape=w.tape/\w'.output=w.output/\w'.heap.size=w.heap.size∧∀k,k≠g->w'.heap[k]?=w.heap[k]?):=by
 have da:l.length≠0:=by simpa using h0
 have L:Go.Proofs.Lays.n169 Go.Proofs.Tryz.prog Go.Proofs.Tryz.fZ:={ Go.Proofs.Tryz.GL with }
 have X:=Go.Proofs.Tryz.pH;have eh:w.ownsRow 0 5 1 (.slice (some ⟨g,0,none⟩) l.length cap) l.length (Lib.byteCells l):=⟨by rw[Lib.byteCells_length,Nat.mul_one],.inr ⟨g,cap,cur,rfl,zbO _,hg,mO,AQ,sH,aeP⟩⟩
 have c1:w.drew.cell? ⟨b,1,none⟩=some (.slice (some ⟨g,0,none⟩) l.length cap):=by
  have:w.drew.heap[b]?=some (.cells #[q,.slice (some ⟨g,0,none⟩) l.length cap] cT (0,0)):=Ue;rw[Lib.cell_of_heap this];rfl
 have hSD:(Builtin.unsafeSliceData_ #[(Go.Proofs.Tryz.fZ.t 37)] (Go.Proofs.Tryz.fZ.t 127) #[.slice (some ⟨g,0,none⟩) l.length cap]).run Go.Proofs.Tryz.prog w.drew=.ok (.pointer (some ⟨g,0,none⟩)) w.drew:=
  Lib.run_unsafeSliceData_row _ _ _ _ _ _ (by omega)
 have hUS:(Builtin.unsafeString_ #[(Go.Proofs.Tryz.fZ.t 127),(Go.Proofs.Tryz.fZ.t 3)] (Go.Proofs.Tryz.fZ.t 9) #[.pointer (some ⟨g,0,none⟩),.int .i64 l.length]).run Go.Proofs.Tryz.prog w.drew=.ok (.string ⟨l.toArray⟩) (w.drew.freeze ⟨g,0,none⟩ l.length):=by
  refine Lib.run_unsafeString_row w.drew (Go.Proofs.Tryz.fZ.t 127) (Go.Proofs.Tryz.fZ.t 3) (Go.Proofs.Tryz.fZ.t 9) (Go.Proofs.Tryz.fZ.t 5) L.t127 X.cellsByte g cur.size (by have jA:w.drew.heap[g]?=some (.cells cur 5 (0,0)):=hg;simp[World.shape?,jA];rfl) l h0 (by omega) (by unfold maxLen at AQ;omega) ?_;intro j x hx;have:=eh.cells (g:=g) rfl j (.int .u8 x.toNat) (by simp[Lib.byteCells,hx]);exact this
 have mixed:=L.mixed;have t72:=L.t72;have a72:=L.a72;have z72:=L.z72;have v72:=L.v72;have u72:=run_underlying L.t72;have t70:=L.t70;have a70:=L.a70;have z70:=L.z70;have v70:=L.v70;have u70:=run_underlying L.t70;have t37:=L.t37;have a37:=L.a37;have z37:=L.z37;have v37:=L.v37;have u37:=run_underlying L.t37;have t127:=L.t127;have a127:=L.a127;have z127:=L.z127;have v127:=L.v127;have aO6:=run_underlying L.t127;have t3:=L.t3;have a3:=L.a3;have z3:=L.z3;have v3:=L.v3;have u3:=run_underlying L.t3;have t9:=L.t9;have a9:=L.a9;have z9:=L.z9;have v9:=L.v9;have u9:=run_underlying L.t9;have t5:=X.t5;have a5:=X.a5;have z5:=X.z5;have v5:=X.v5;have u5:=run_underlying X.t5;have fin:∀n,(w.drew.freeze ⟨g,0,none⟩ n).os=w.os/\(w.drew.freeze ⟨g,0,none⟩ n).tape=w.tape/\(w.drew.freeze ⟨g,0,none⟩ n).output=w.output/\(w.drew.freeze ⟨g,0,none⟩ n).heap.size=w.heap.size∧∀k,k≠g->(w.drew.freeze ⟨g,0,none⟩ n).heap[k]?=w.heap[k]?:=by
  intro n;unfold World.freeze;split
  ·exact⟨rfl,rfl,rfl,rfl,λ_ _=>rfl⟩
  ·refine⟨rfl,rfl,rfl,by simp,λk hk=>?_⟩;simp only[zcE];rw[if_neg (λe=>hk e.symm)];rfl
 go_enter L.f169,Body.n169_ntmps Go.Proofs.Tryz.fZ
 go_wp2
 go_region_o
 all_goals(go_wp2;go_ret;exact⟨rfl,fin _⟩)
def ZR(xs:List AV)(σ:aF)(K:AV->aF->Prop):Prop:=
 xs=[.ref 0 0 0]∧∃l:List UInt8,l≠[]/\σ=ach l/\K (.pv (.str l)) [.dead,.dead]
def aqS:bU Go.Proofs.Tryz.prog mn (sB ZR):=by
 refine⟨λe=>(by cases e),λe=>(by cases e),λ_ _ _ _ _ e=>(by cases e),λ_ _ _ _ _ _ _ _ h=>(show False from h).elim,?_⟩;rintro w ok di σ0 eR xs vs K _ PD l9 ⟨rfl,l,h0,rfl,hK⟩;refine⟨Go.Proofs.enters_of Go.Proofs.Tryz.GL.f169 (by kernel_rfl) rfl,?_⟩;simp only[fY]at l9;obtain⟨v,_,hv,Ql,rfl⟩:=l9;have y9:vs= #[v]:=by rw[<-zca];exact hv
 subst y9;obtain⟨u,t,rfl⟩:∃u t,eR=[u,t]:=by
  have hl:=PD.len
  match eR,hl with
  |[u,t],_=>exact⟨u,t,rfl⟩
 have tZ:=PD.sV 0 _ u rfl rfl;obtain⟨b,arr,rfl,eh,hb,h1,h2⟩:=tZ;simp only[RA]at Ql;obtain⟨_,_,_,xe⟩:=Ql;obtain⟨u,b',hu,Cs,rfl⟩:=xe _ rfl rfl;simp at hu;subst hu;simp[cE]at Cs;subst Cs;simp only[fY,RA]at h2;obtain⟨x,r,e,⟨_,_,_,hx⟩,y,r2,rfl,hy,rfl⟩:=h2;obtain⟨u,b',hu,Cs,rfl⟩:=hx _ rfl rfl;simp at hu;subst hu;simp[cE]at Cs;subst Cs;simp at hy;subst hy;have UE:arr= #[.pointer (some ⟨b,0,none⟩),t]:=by rw[<-zca];exact e
 subst UE;have ly:=PD.sV 1 _ t rfl rfl;obtain⟨_,cells,h3,h4,h5,h6⟩:=ly;have UD:cells=Lib.byteCells l:=by
  rw[l_,EJ]at h6;exact h6
 subst UD;rw[zav]at h3;rcases h3.2 with⟨_,hz⟩|⟨g,cap,cur,fr,rfl,hog,hg,mO,AQ,sH,aeP,pe⟩
 ·exact absurd (zae hz) h0
 have aKI:fr=(0,0):=by
  rcases pe with h|⟨h,_⟩
  ·exact h
  ·cases h
 subst aKI;refine(amz b g cap _ cur l w hb hg h0 mO AQ sH aeP).mono ?_;rintro e w' ⟨rfl,ho,ht,hou,mD,zZ⟩;refine⟨_,.pv (.str l),[.dead,.dead],[.pointer (some ⟨b,0,none⟩),.slice (some ⟨g,0,none⟩) l.length cap],rfl,hK,?_,by simp only[RA,Rd]⟩;have kp:∀b2,¬WB [dC.dead,dC.dead] [Value.pointer (some ⟨b,0,none⟩),Value.slice (some ⟨g,0,none⟩) l.length cap] b2:=by
  rintro b2 ⟨i,s,v,hi,hl,_⟩;rcases i with _|_|i
  ·cases hi;cases hl
  ·cases hi;cases hl
  ·simp at hi
 refine⟨⟨ho,ht,hou,by rw[mD];exact zai _,λk hk tT=>zZ k (λe=>tT (e▸hog))⟩,PD.one,rfl,λi s v hi hv=>?_,λi j s t u v b2 _ hi _ hl=>?_,⟨by rw[mD];exact zai _,λ_ h=>h.elim,λb2 hm=>absurd hm (kp b2)⟩,⟨λi v h=>h,by simp[nY,ach],λi hi e sz ap aC h=>?_,λi hi s h s9=>?_⟩⟩
 ·rcases i with _|_|i
  ·cases hi;trivial
  ·cases hi;trivial
  ·simp at hi
 ·rcases i with _|_|i
  ·cases hi;cases hl
  ·cases hi;cases hl
  ·simp at hi
 ·rcases i with _|_|i
  ·cases h
  ·cases h
  ·simp at h
 ·rcases i with _|_|i
  ·cases h;cases s9
  ·cases h;cases s9
  ·simp at h
end
end Go.Dv.Try
namespace Go.Proofs
def Tryz.ajR:Go.Shelf.Ren:=⟨λ|217=>297|266=>304|n=>n,λ|9=>9|5=>5|3=>3|n=>n,λ|n=>n⟩
def Tryz.ane:Go.Proofs.Lays.n217 Tryz.prog Tryz.ajR:={
 mixed:=by kernel_rfl
 f217:=Tryz.func297.trans (congrArg some (by kernel_rfl))
 f266:=Tryz.func304.trans (congrArg some (by kernel_rfl))
 t3:=Tryz.underlying3
 a3:=Tryz.isAgg3
 z3:=Tryz.sizeOf3
 v3:=Tryz.zeroValue3
 t5:=Tryz.underlying5
 a5:=Tryz.isAgg5
 z5:=Tryz.sizeOf5
 v5:=Tryz.zeroValue5
 t9:=Tryz.underlying9
 a9:=Tryz.isAgg9
 z9:=Tryz.sizeOf9
 v9:=Tryz.zeroValue9 }
end Go.Proofs
namespace Go.Dv.Try
open Go Go.Dv Go.RowKit
def qc(ps:List PV)(x:PV):Prop:=∃(l:List UInt8) (c:UInt8),ps=[.str l,aL c]/\x=pI (Lib.indexByte l c)
def af6:bU Go.Proofs.Tryz.prog gF (ah qc):=by
 refine ank qc (Go.Proofs.enters_of Go.Proofs.Tryz.ane.f217 (by kernel_rfl) rfl) ?_ ?_
 ·rintro ps x ⟨l,c,rfl,rfl⟩;trivial
 ·rintro w ok ps x vs rT ⟨l,c,rfl,rfl⟩;simp only[bS,Rd,aL]at rT;obtain⟨_,_,e,rfl,_,_,rfl,rfl,rfl⟩:=rT;have:vs= #[.string ⟨l.toArray⟩,.int .u8 (c.toNat:Nat)]:=by rw[<-zca];exact e
  subst this;refine(Go.Proofs.Any.stringslite_IndexByte Go.Proofs.Tryz.ane ⟨l.toArray⟩ (c.toNat:Nat) w).mono ?_;rintro e w' ⟨rfl,rfl⟩;refine⟨_,rfl,?_,Below.refl _ _⟩;simp only[Rd,pI];simp
abbrev It(jN:Nat->Prop)(l:Nat)(v1 v2:Value)(d:List UInt8)(a:Int)(act:Act)(W:World):Prop:=Jt 47 jN l v1 v2 (.cptr (.str d)) (.cptr (pI a)) act W
def It.bool{cx:Cx}{env:Env}{σ:aF}{vals:List Value}{act:Act}{W:World}(hr:Rel cx env σ vals act W){p:Nat}{b:Bool}(h:aE p env=.pv (pB b)):act.tmps.getD p undef=.bool b:=by
 have:=hr.env p;rw[h]at this;simpa only[RA,Rd]using this
end Go.Dv.Try
namespace Go.Dv.Try
open Go Go.Dv Go.RowKit Go.Shelf
section
section
variable {P:Program} {ops:Array Oper} {Q:Exit->Act->World->Prop} {a:Act} {w:World} {n m:Nat}
def ala{i d f x y l:Nat}{rest:List Nat}{o:Oper}{cc:Call}(ho:ops[i]?=some o)(hg:o.guard=none)(hd:o.dst=some d)(sM:o.op=.call cc)(Nu:cc.callee=.value (.tmp f))(aDq:cc.args= #[.tmp x,.tmp y])
 (hf:a.tmps.getD f undef=.func (.yield l) #[] #[]) (hY:YieldAt Fence.wide (m-1) P l #[a.tmps.getD x undef,a.tmps.getD y undef] w λe w'=>∃v,e=.returned v/\wpOpsIn Fence.wide m P ops Q rest (a.put (some d) v) w'):wpOpsIn Fence.wide m P ops Q (i::rest) a w:=by
 obtain⟨fn,tmps,assign,body,hr,hR⟩:=hY;have cL:(execOp a.eval o).run P w=.ok (.round l fn tmps assign body) w:=by
  have D0:a.eval (.tmp f)=.func (.yield l) #[] #[]:=hf;rw[<-hr];unfold execOp;rw[sM];simp only[resolve,Nu,aDq,D0,zcR,zat,zcw];rfl
 rw[wpOpsIn_cons];unfold wpOpIn;simp only[ho];have hw:Region.wanted o (yielded ops a.tmps)=true:=BT;rw[if_pos hw];refine⟨λf _=>trivial,?_⟩;rw[Oper.semAt_eq _ _ _ (λc hc=>by rw[sM]at hc;cases hc),cL,Oper.uponIn_round,hd];refine⟨λh=>bV,hR.mono ?_⟩;rintro e w' ⟨v,rfl,h⟩;exact h
end
def mI(l:List (Nat×Nat)):List (List PV):=l.map λp=>[pI (p.1:Nat),pI (p.2:Nat)]
def asf(jh:List PV)(L:List (List PV)):Prop:=
 ∃(d:List UInt8) (a:Int),jh=[.cptr (.str d),.cptr (pI a)]/\(d.length<=4096/\0<=a/\a<=(d.length:Int))/\L=mI (nB d a.toNat)
structure Rnd(jN:Nat->Prop)(l:Nat)(v1 v2:Value)(d:List UInt8)(a:Int){α:Type}(val:α->List PV)(L:List (List PV))(J:List α->World->Prop)(k m:Nat)(act:Act)(W:World):Prop where
 it:It jN l v1 v2 d a act W
 rest:∃(oD:Nat) (pre:List α),act.tmps.getD 4 undef=.int .i64 oD/\oD<=e_ d a.toNat/\J pre W/\pre.map val++mI (fv d a.toNat m k oD)=L
 t5:act.tmps.getD 5 undef=.int .i64 (e_ d a.toNat:Nat)
def apB(d:List UInt8)(a k:Nat):∀(m n b:Nat),n<=b->b<n+m->d[a+b]?≠d[a+b-k]?->qS d a k n m<=b:=by
 intro m
 induction m with
 |zero=>intro n b h1 h2;omega
 |succ m ih=>
  intro n b h1 h2 h3;unfold qS;split
  ·rename_i he;by_cases hb:n=b
   ·subst hb;exact absurd he h3
   ·exact ih _ _ ab ab h3
  ·omega
def ahR(d:List UInt8)(a k b:Nat)(h:b<e_ d a)(h3:d[a+b]?≠d[a+b-k]?):dY d a k<=b:=apB d a k _ 0 b (zbO _) ab h3
def ali(hΓ:Sound Go.Proofs.Tryz.prog (ay [(307,ah iS),(308,ah kY)])):akR Go.Proofs.Tryz.prog 306 asf:=by
 intro m w jN jh vs L di rT kW;obtain⟨d,a,rfl,⟨h1,h2,h3⟩,rfl⟩:=kW;have hf:Go.Proofs.Tryz.prog.funcs[306]?=some Go.Proofs.Tryz.f306:=ak;obtain⟨A1,A2,B,C1,R5,R6,R7,R3,id,o0,o1,o2,o3,o4,ab0,cA1,cA2,cB,cC1,cR5,cR6,cR7,cR3,m0,m1,m2,⟨g3,d3,cc,op3,aKJ,aKK⟩,⟨g4,d4,tt,Ik⟩⟩:=asq;refine⟨⟨{ x:List PV//x∈mI (nB d a.toNat) },(λx=>x.1),λx=>(x.1.map aAq).toArray,λx=>⟨x.2,?_⟩,?_⟩,Go.Proofs.enters_of hf ak ab0⟩
 ·obtain⟨x,hx⟩:=x;unfold mI at hx;obtain⟨p,_,rfl⟩:=zaX.1 hx;simp only[zat,zcw,bS];exact⟨_,_,rfl,by simp only[Rd,aAq,aw1],_,_,rfl,by simp only[Rd,aAq,aw1],rfl⟩
 intro l J Jx W hb hJ hJx hY h0;obtain⟨v1,v2,rfl,r1,r2⟩:∃v1 v2,vs= #[v1,v2]/\Rd jN w (.cptr (.str d)) v1/\Rd jN w (.cptr (pI a)) v2:=by
  simp only[bS]at rT;obtain⟨v1,t,e1,r1,v2,t2,rfl,r2,rfl⟩:=rT;exact⟨v1,v2,by rw[<-zca];exact e1,r1,r2⟩
 have u4:∀b o,jN b->W.cell? ⟨b,o,none⟩=w.cell? ⟨b,o,none⟩:=λb o Cs=>World.cell?_of_block (hb.block b (di b Cs))
 refine callsIn_of_wp hf ab0 trivial ?_;have GY:It jN l v1 v2 d a { tmps:=(#[Value.func (.yield l) #[] #[]]++ #[v1,v2])++Array.replicate (Go.Proofs.Tryz.f306.ntmps-(#[Value.func (.yield l) #[] #[]]++ #[v1,v2]).size) undef,defers:=[] } W:=by
  have hn:Go.Proofs.Tryz.f306.ntmps-(#[Value.func (.yield l) #[] #[]]++ #[v1,v2]).size=44:=by
   rw[show Go.Proofs.Tryz.f306.ntmps=47 by kernel_rfl];rfl
  rw[hn];obtain⟨a0,a1,a2,a3⟩:=ao8 (Value.func (.yield l) #[] #[]) v1 v2 44;exact⟨a3,rfl,a0,a1,a2,Rd.mono (λ_ h=>h) u4 _ _ r1,Rd.mono (λ_ h=>h) u4 _ _ r2,λb Cs=>zaf (di b Cs) hb.size⟩
 generalize aMw:({ tmps:=(#[Value.func (.yield l) #[] #[]]++ #[v1,v2])++Array.replicate (Go.Proofs.Tryz.f306.ntmps-(#[Value.func (.yield l) #[] #[]]++ #[v1,v2]).size) undef,defers:=[] }:Act)=aKL at GY;refine wpIn_seq (GY.piece (ps:=aFw) hΓ cA1 rfl rfl (GY.TR [] aj) (q:=λe f=>e=.normal/\f 4=.pv (pI 0)/\f 5=.pv (pI (e_ d a.toNat:Nat))) ⟨_,⟨d,a,rfl,⟨h1,h2,h3⟩,rfl⟩,rfl,rfl,rfl⟩ m _ ?_);intro e aKM W1 amV σ1 kh Vd vA Gw j0;cases e with
 |normal=>
  obtain⟨_,dV,zg⟩:=j0;have t14:=Jt.num Gw dV;have t15:=Jt.num Gw zg;have j1:J [] W1:=hJ [] W W1 none h0 vA (λr e=>cz);refine wpIn_seq (Vd.piece (ps:=aFw) hΓ cA2 rfl rfl (Vd.TR [(4,0),(5,(e_ d a.toNat:Nat))] (by intro q hq;simp only[zaw,zb9,or_false]at hq;rcases hq with rfl|rfl;exact t14;exact t15)) (q:=λe f=>e=.normal/\f 4=.pv (pI 0)/\f 5=.pv (pI (e_ d a.toNat:Nat))/\f 6=.pv (pI 1)) ⟨rfl,rfl,rfl,rfl⟩ m _ ?_);intro e aKN W2 ahb σ2 lh zX mU CW jx;cases e with
  |normal=>
   obtain⟨_,Vw,h25,h26⟩:=jx;have t24:=Jt.num CW Vw;have t25:=Jt.num CW h25;have t26:=Jt.num CW h26;have j2:J [] W2:=hJ [] W1 W2 none j1 mU (λr e=>cz);clear Gw CW dV zg Vw h25 h26 vA mU j1 t14 t15 Vd;refine wpIn_block ?_;have LP:=Xh d ⟨h2,h3⟩;refine wpIn_loop (λact W=>∃k m,Rnd jN l v1 v2 d a (λx:{ x:List PV//x∈mI (nB d a.toNat) }=>x.1) (mI (nB d a.toNat)) J k m act W/\act.tmps.getD 6 undef=.int .i64 (k:Nat)/\1<=k/\(k:Int)+m=a+1) (λact _=>(a+1-intOf (act.tmps.getD 6 undef)).toNat)
    ⟨1,a.toNat,⟨zX,⟨0,[],t24,zbO _,j2,rfl⟩,t25⟩,t26,zai _,ab⟩ ?_
   clear t24 t25 t26 j2 zX;rintro act W ⟨k,mm,⟨it,⟨oD,pre,t4,aoF,hj,hL⟩,t5⟩,t6,SH,hk⟩;have aG3:∀q∈[((4:Nat),(oD:Int)),(5,(e_ d a.toNat:Nat)),(6,(k:Int))],act.tmps.getD q.1 undef=.int .i64 q.2:=by
    intro q hq;simp only[zaw,zb9,or_false]at hq;rcases hq with rfl|rfl|rfl;exact t4;exact t5;exact t6
   refine wpIn_seq (it.piece (ps:=aFw) hΓ cB rfl rfl (it.TR _ aG3) (q:=λe f=>f 4=.pv (pI oD)/\f 5=.pv (pI (e_ d a.toNat:Nat))/\f 6=.pv (pI k)/\((e=.normal/\(k:Int)<=a/\oD<e_ d a.toNat)\/(e=.exit 0∧¬((k:Int)<=a/\oD<e_ d a.toNat)))) ?vcB m _ ?_)
   case vcB=>
    refine λb hb=>?_
    rcases cmp hb with⟨rfl,h⟩|⟨rfl,h⟩
    ·refine λb hb=>?_
     rcases cmp hb with⟨rfl,h'⟩|⟨rfl,h'⟩
     ·exact⟨rfl,rfl,rfl,.inl ⟨rfl,h,ab⟩⟩
     ·exact⟨rfl,rfl,rfl,.inr ⟨rfl,ab⟩⟩
    ·exact⟨rfl,rfl,rfl,.inr ⟨rfl,ab⟩⟩
   intro e amY W3 ahc σ3 II uv jI pq ry;have j3:J pre W3:=hJ pre W W3 none hj jI (λr e=>cz);cases e with
   |normal=>
    obtain⟨jT,V7,U5,hc⟩:=ry;have t34:=Jt.num pq jT;have t35:=Jt.num pq V7;have t36:=Jt.num pq U5;obtain⟨hka,E3⟩:(k:Int)<=a/\oD<e_ d a.toNat:=aht;clear pq jT V7 U5 hc;clear jI it;cases mm with
    |zero=>omega
    |succ mm=>
    have hM:∀(UG:Act) (W5:World) (ab3:Nat) (ab4:List { x:List PV//x∈mI (nB d a.toNat) }),It jN l v1 v2 d a UG W5->UG.tmps.getD 4 undef=.int .i64 ab3->UG.tmps.getD 5 undef=.int .i64 (e_ d a.toNat:Nat)->UG.tmps.getD 6 undef=.int .i64 (k:Nat)->
     ab3<=e_ d a.toNat->J ab4 W5->ab4.map (·.1)++mI (fv d a.toNat mm (k+1) ab3)=mI (nB d a.toNat)->
     R3.wpIn Fence.wide m Go.Proofs.Tryz.prog (Exit.then (λtk W'=>(∃k m,Rnd jN l v1 v2 d a (λx:{ x:List PV//x∈mI (nB d a.toNat) }=>x.1) (mI (nB d a.toNat)) J k m tk W'/\tk.tmps.getD 6 undef=.int .i64 (k:Nat)/\1<=k/\(k:Int)+m=a+1)/\(a+1-intOf (tk.tmps.getD 6 undef)).toNat<(a+1-intOf (act.tmps.getD 6 undef)).toNat)
      (Exit.inBlock 0 (bodyPost Go.Proofs.Tryz.prog Go.Proofs.Tryz.f306 λe W'=>(∃v,e=.returned v)/\((∃xs,(λxs=>xs.map (λx:{ x:List PV//x∈mI (nB d a.toNat) }=>x.1)=mI (nB d a.toNat)) xs/\J xs W')\/(∃pre,(λpre=>pre.map (λx:{ x:List PV//x∈mI (nB d a.toNat) }=>x.1)<+:mI (nB d a.toNat)) pre/\Jx pre W'))))) UG W5:=by
     intro UG W5 ab3 ab4 uA t54 t55 t56 U9 j5 VB;refine uA.piece (ps:=aFw) hΓ cR3 rfl rfl (uA.TR [((4:Nat),(ab3:Int)),(5,(e_ d a.toNat:Nat)),(6,(k:Int))] ?_) (q:=λe f=>e=.normal/\f 4=.pv (pI ab3)/\f 5=.pv (pI (e_ d a.toNat:Nat))/\f 6=.pv (pI (k+1))) ?_ m _ ?_
     ·intro q hq;simp only[zaw,zb9,or_false]at hq;rcases hq with rfl|rfl|rfl;exact t54;exact t55;exact t56
     ·refine λx hx=>?_
      replace hx:=dB hx ab;subst hx;exact⟨rfl,rfl,rfl,rfl⟩
     ·intro e ayy W6 aG4 σ6 azG zY JU pz wH;cases e with
      |normal=>
       obtain⟨_,iG,h65,h66⟩:=wH;have t64:=Jt.num pz iG;have t65:=Jt.num pz h65;have t66:=Jt.num pz h66;refine⟨⟨k+1,mm,⟨zY,⟨ab3,ab4,t64,U9,hJ ab4 W5 W6 none j5 JU (λr e=>cz),VB⟩,t65⟩,t66,ab,ab⟩,?_⟩;rw[t66,t6];show(a+1-((k:Int)+1)).toNat<(a+1-(k:Int)).toNat;omega
      |exit i=>exact FF
      |ret=>exact FF
      |_=>exact wH.elim
    refine wpIn_seq (wpIn_block ?_);have LP:=Xh d ⟨h2,h3⟩;have aDt:∀q∈[((4:Nat),(oD:Int)),(5,(e_ d a.toNat:Nat)),(6,(k:Int))],amY.tmps.getD q.1 undef=.int .i64 q.2:=by
     intro q hq;simp only[zaw,zb9,or_false]at hq;rcases hq with rfl|rfl|rfl;exact t34;exact t35;exact t36
    refine wpIn_seq (uv.piece (ps:=aFw) hΓ cC1 rfl rfl (uv.TR _ aDt) (q:=λe f=>f 4=.pv (pI oD)/\f 5=.pv (pI (e_ d a.toNat:Nat))/\f 6=.pv (pI k)/\((e=.normal/\d[a.toNat+oD]?=d[a.toNat+oD-k]?)\/(e=.exit 1/\d[a.toNat+oD]?≠d[a.toNat+oD-k]?))) ?vcC m _ ?_)
    case vcC=>
     refine⟨ak,?_⟩;refine λx hx=>?_
     replace hx:=dB hx ab;subst hx;refine⟨_,⟨ab,zah ab⟩,?_⟩;refine λx hx=>?_
     replace hx:=dB hx ab;subst hx;refine λx hx=>?_
     replace hx:=dB hx ab;subst hx;refine⟨_,⟨ab,zah ab⟩,?_⟩;refine λb hb=>?_
     have e1:(a+oD).toNat=a.toNat+oD:=ab;have e2:(a+oD-k).toNat=a.toNat+oD-k:=ab;rw[ne_eq,get_eq,e1,e2]at hb;rcases cmp hb with⟨rfl,h'⟩|⟨rfl,h'⟩
     ·exact⟨rfl,rfl,rfl,.inr ⟨rfl,h'⟩⟩
     ·exact⟨rfl,rfl,rfl,.inl ⟨rfl,zb6 h'⟩⟩
    intro e aG5 W4 aKu σ4 azB Jk hg4 uC Jl;have j4:J pre W4:=hJ pre W3 W4 none j3 hg4 (λr e=>cz);cases e with
    |normal=>
     obtain⟨Jw,JD,JI,hc⟩:=Jl;have t44:=Jt.num uC Jw;have t45:=Jt.num uC JD;have t46:=Jt.num uC JI;clear uC Jw JD JI hc hg4 uv;have hkt:(a+oD-k).toNat=a.toNat+oD-k:=ab;have aDu:∀q∈[((4:Nat),(oD:Int)),(5,(e_ d a.toNat:Nat)),(6,(k:Int))],aG5.tmps.getD q.1 undef=.int .i64 q.2:=by
      intro q hq;simp only[zaw,zb9,or_false]at hq;rcases hq with rfl|rfl|rfl;exact t44;exact t45;exact t46
     refine wpIn_seq (Jk.piece (ps:=aFw) hΓ cR5 rfl rfl (Jk.TR _ aDu) (q:=λe f=>e=.normal/\f 4=.pv (pI oD)/\f 5=.pv (pI (e_ d a.toNat:Nat))/\f 6=.pv (pI k)/\f 7=.pv (pI (dY d a.toNat k:Nat))) ⟨_,⟨d,a,k,rfl,⟨h1,h2,h3,ab,hka⟩,rfl⟩,rfl,rfl,rfl,rfl,rfl⟩ m _ ?_);intro e UG W5 aPh σ5 aMB uA hg5 vO hq5;have j5:J pre W5:=hJ pre W4 W5 none j4 hg5 (λr e=>cz);cases e with
     |normal=>
      obtain⟨_,h54,h55,h56,h57⟩:=hq5;have t54:=Jt.num vO h54;have t55:=Jt.num vO h55;have t56:=Jt.num vO h56;have t57:=Jt.num vO h57;clear vO h54 h55 h56 h57 hg5 Jk;have aDv:∀q∈[((4:Nat),(oD:Int)),(5,(e_ d a.toNat:Nat)),(6,(k:Int)),(7,(dY d a.toNat k:Nat))],UG.tmps.getD q.1 undef=.int .i64 q.2:=by
       intro q hq;simp only[zaw,zb9,or_false]at hq;rcases hq with rfl|rfl|rfl|rfl;exact t54;exact t55;exact t56;exact t57
      refine wpIn_seq (uA.piece (ps:=aFw) hΓ cR6 rfl rfl (uA.TR _ aDv) (q:=λe f=>e=.normal/\f 4=.pv (pI oD)/\f 5=.pv (pI (e_ d a.toNat:Nat))/\f 6=.pv (pI k)/\f 7=.pv (pI (dY d a.toNat k:Nat))∧∃b:Bool,f 40=.pv (pB b)/\(b=true↔oD<dY d a.toNat k)) ?vcR6 m _ ?_)
      case vcR6=>
       refine λb hb=>?_
       exact⟨rfl,rfl,rfl,rfl,rfl,b,rfl,hb.trans ab⟩
      intro e ayy W6 aG4 σ6 azG zY JU pz wH;have j6:J pre W6:=hJ pre W5 W6 none j5 JU (λr e=>cz);cases e with
      |normal=>
       obtain⟨_,iG,h65,h66,h67,b,h6b,hb⟩:=wH;have t64:=Jt.num pz iG;have t65:=Jt.num pz h65;have t66:=Jt.num pz h66;have t67:=Jt.num pz h67;have t6b:=It.bool pz h6b;clear pz iG h65 h66 h67 h6b JU uA;have pd:fv d a.toNat (mm+1) k oD=if oD<dY d a.toNat k then(k,dY d a.toNat k)::fv d a.toNat mm (k+1) (dY d a.toNat k)else fv d a.toNat mm (k+1) oD:=by
        rw[fv,if_pos E3]
       rw[pd]at hL;refine wpIn_cond (t:=b) t6b ?_;cases b with
       |false=>
        have kr:¬oD<dY d a.toNat k:=λh=>by have:=hb.2 h;cases this
        rw[if_neg kr]at hL;exact wpIn_skip (hM ayy W6 oD pre zY t64 t65 t66 aoF j6 hL)
       |true=>
        have kr:oD<dY d a.toNat k:=hb.1 rfl;rw[if_pos kr]at hL;have aDw:∀q∈[((4:Nat),(oD:Int)),(5,(e_ d a.toNat:Nat)),(6,(k:Int)),(7,(dY d a.toNat k:Nat))],ayy.tmps.getD q.1 undef=.int .i64 q.2:=by
         intro q hq;simp only[zaw,zb9,or_false]at hq;rcases hq with rfl|rfl|rfl|rfl;exact t64;exact t65;exact t66;exact t67
        rw[if_pos rfl];refine wpIn_seq (zY.piece (ps:=aFw) hΓ cR7 rfl rfl (zY.TR _ aDw) (q:=λe f=>e=.normal/\f 4=.pv (pI (dY d a.toNat k:Nat))/\f 5=.pv (pI (e_ d a.toNat:Nat))/\f 6=.pv (pI k)/\f 7=.pv (pI (dY d a.toNat k:Nat))) ⟨rfl,rfl,rfl,rfl,rfl⟩ m _ ?_);intro e WV W7 aPj σ7 aMJ it7 hg7 vP JM;have j7:J pre W7:=hJ pre W6 W7 none j6 hg7 (λr e=>cz);cases e with
        |normal=>
         obtain⟨_,h74,h75,h76,h77⟩:=JM;have t74:=Jt.num vP h74;have t75:=Jt.num vP h75;have t76:=Jt.num vP h76;have t77:=Jt.num vP h77;clear vP h74 h75 h76 h77 hg7 zY;have SF:[pI (k:Nat),pI (dY d a.toNat k:Nat)]∈mI (nB d a.toNat):=by
          rw[<-hL];simp[mI]
         have hlen:pre.length<(mI (nB d a.toNat)).length:=by
          have e:=congrArg List.length hL;rw[zad,zav]at e;have:0<(mI ((k,dY d a.toNat k)::fv d a.toNat mm (k+1) (dY d a.toNat k))).length:=by simp[mI]
          omega
         refine wpIn_seq (wpIn_region ?_);show wpOpsIn Fence.wide m _ _ _ [0,1,2,3,4] WV W7;have hF:=aa1.aba it7.t0 (.aba t74 (.aba t75 (.aba t76 (.aba t77 .ag7))));refine it7.NP hF rfl m0 rfl λb1 i1 hF=>?_
         refine i1.NP hF rfl m1 rfl λb2 i2 hF=>?_
         refine i2.NP hF rfl m2 rfl λb3 i3 hF=>?_
         refine ala rfl g3 d3 op3 aKJ aKK (l:=l) (hF 42 _ rfl) ?_;rw[hF 43 _ rfl,hF 44 _ rfl];obtain⟨fn,tm,qJ,bd,hy,hR⟩:=hY pre ⟨_,SF⟩ W7 j7 hlen;refine⟨fn,tm,qJ,bd,hy,hR.mono ?_⟩;rintro e W8 (⟨rfl,j8,k8⟩|⟨rfl,jx8⟩)
         ·refine⟨_,rfl,?_⟩;have i8:=i3.kept k8;have hF:=hF.abl (d:=45) (v:=.bool true) (by rw[i3.size];omega);refine(i8.put (q:=45) (v:=.bool true) ab ab).FG hF rfl g4 d4 Ik (ans Ik (hF 45 _ rfl)) λb5 i5 hF=>?_
          refine wpIn_cond_false (hF 46 _ rfl) (wpIn_skip ?_);refine hM b5 W8 (dY d a.toNat k) (pre++[⟨_,SF⟩]) i5 (hF 4 _ rfl) (hF 5 _ rfl) (hF 6 _ rfl) (S1 d a.toNat k) j8 ?_;refine Eq.trans ?_ hL;rw[zbu,zaj];rfl
         ·refine⟨_,rfl,?_⟩;have mD:b3.tmps.size=47:=i3.size;have e45:(b3.put (some 45) (.bool false)).tmps.getD 45 undef=.bool false:=by
           rw[cW (by rw[mD];omega),if_pos rfl]
          have s45:(b3.put (some 45) (.bool false)).tmps.size=47:=(xL ..).trans mD;have d45:(b3.put (some 45) (.bool false)).defers=[]:=i3.defs;generalize b3.put (some 45) (.bool false)=b4 at e45 s45 d45;refine oR rfl g4 d4 (ans Ik e45) (λc hc=>by have:=Ik.symm.trans hc;cases this) ?_;have e46:(b4.put (some 46) (.bool (!false))).tmps.getD 46 undef=.bool true:=by
           rw[cW (by rw[s45];omega),if_pos rfl];rfl
          have d46:(b4.put (some 46) (.bool (!false))).defers=[]:=d45;generalize b4.put (some 46) (.bool (!false))=b5 at e46 d46;refine wpIn_cond_true e46 (wpIn_ret ?_);refine⟨d46,.tuple #[],results_none rfl _ _ _,⟨_,rfl⟩,.inr ⟨pre++[⟨_,SF⟩],?_,jx8⟩⟩;refine⟨mI (fv d a.toNat mm (k+1) (dY d a.toNat k)),?_⟩;show List.map (·.1) (pre++[_])++_=_;refine Eq.trans ?_ hL;rw[zbu,zaj];rfl
        |exit i=>exact(by obtain⟨h,_⟩:=JM;cases h)
        |ret=>exact(by obtain⟨h,_⟩:=JM;cases h)
        |_=>exact JM.elim
      |exit i=>exact FF
      |ret=>exact FF
      |_=>exact wH.elim
     |exit i=>exact(by obtain⟨h,_⟩:=hq5;cases h)
     |ret=>exact(by obtain⟨h,_⟩:=hq5;cases h)
     |_=>exact hq5.elim
    |exit i=>
     obtain⟨Jw,JD,JI,hc⟩:=Jl;obtain⟨rfl,WS⟩:i=1/\d[a.toNat+oD]?≠d[a.toNat+oD-k]?:=by
      rcases hc with⟨h,_⟩|⟨h,h'⟩
      ·cases h
      ·injection h with h;exact⟨h,h'⟩
     refine hM aG5 W4 oD pre Jk (Jt.num uC Jw) (Jt.num uC JD) (Jt.num uC JI) aoF j4 ?_;unfold fv at hL;rw[if_pos E3,if_neg (by have:=ahR d a.toNat k oD E3 WS;omega)]at hL;exact hL
    |ret=>exact(by obtain⟨_,_,_,hc⟩:=Jl;rcases hc with⟨h,_⟩|⟨h,_⟩<;>cases h)
    |_=>exact Jl.elim
   |exit i=>
    obtain⟨jT,V7,U5,hc⟩:=ry;obtain⟨rfl,hc⟩:i=0∧¬((k:Int)<=a/\oD<e_ d a.toNat):=by
     rcases hc with⟨h,_⟩|⟨h,h'⟩
     ·cases h
     ·injection h with h;exact⟨h,h'⟩
    refine⟨uv.defs,.tuple #[],results_none rfl _ _ _,⟨_,rfl⟩,.inl ⟨pre,?_,j3⟩⟩;have:fv d a.toNat mm k oD=[]:=by
     cases mm with
     |zero=>rfl
     |succ mm=>unfold fv;rw[if_neg ab]
    rw[this]at hL;simpa[mI]using hL
   |ret=>exact(by obtain⟨_,_,_,hc⟩:=ry;rcases hc with⟨h,_⟩|⟨h,_⟩<;>cases h)
   |_=>exact ry.elim
  |exit i=>exact(by obtain⟨h,_⟩:=jx;cases h)
  |ret=>exact(by obtain⟨h,_⟩:=jx;cases h)
  |_=>exact jx.elim
 |exit i=>exact QF
 |ret=>exact QF
 |_=>exact j0.elim
end
end Go.Dv.Try
namespace Go.Dv.Try
open Go Go.Dv
def yK(t:List Int):Nat->Nat->Int->Int
 |0,_,o=>o
 |m+1,n,o=>yK t m (n+1) (min o (17+t.getD (n-1) 0))
def NL(d:List UInt8)(a:Nat)(t:List Int):Int:=yK t ((uV d a).2-2) 3 (9+t.getD 0 0)
def kE(d:List UInt8):Nat->List Int
 |0=>[0]
 |m+1=>NL d (d.length-(m+1)) (kE d m)::kE d m
def aY(d:List UInt8):List Int:=kE d d.length
def Ow(d:List UInt8):∀m,(kE d m).length=m+1
 |0=>rfl
 |m+1=>by simp[kE,Ow d m]
def apa(t:List Int):∀(m n:Nat) (o:Int),yK t m n o<=o:=by
 intro m
 induction m with
 |zero=>intro n o;exact Int.le_refl _
 |succ m ih=>intro n o;have:=ih (n+1) (min o (17+t.getD (n-1) 0));unfold yK;omega
def aqK(t:List Int)(b:Int):∀(m n:Nat) (o:Int),b<=o->(∀k,n<=k->k<n+m->b<=17+t.getD (k-1) 0)->b<=yK t m n o:=by
 intro m
 induction m with
 |zero=>intro n o h _;exact h
 |succ m ih=>
  unfold yK
  grind
def ao3(t:List Int):∀(m n:Nat) (o:Int),yK t m n o=o∨∃k,n<=k/\k<n+m/\yK t m n o=17+t.getD (k-1) 0:=by
 intro m
 induction m with
 |zero=>intro n o;exact .inl rfl
 |succ m ih=>
  unfold yK
  grind
def U6{t:List Int}(h:∀x∈t,0<=x)(i:Nat):0<=t.getD i 0:=by
 rw[zbr];cases hx:t[i]? with
 |none=>simp
 |some x=>exact h x (zag hx)
def agc(d:List UInt8)(a:Nat)(t:List Int)(h:∀x∈t,0<=x):0<=NL d a t/\NL d a t<=9+t.getD 0 0:=by
 refine⟨aqK _ _ _ _ _ (by have:=U6 h 0;omega) (λk _ _=>by have:=U6 h (k-1);omega),apa _ _ _ _⟩
def ND(d:List UInt8):∀m,∀x∈kE d m,0<=x/\x<=9*m:=by
 intro m
 induction m with
 |zero=>intro x hx;simp[kE]at hx;omega
 |succ m ih=>
  intro x hx;simp only[kE,zaw]at hx;rcases hx with rfl|hx
  ·have h1:=agc d (d.length-(m+1)) (kE d m) (λx hx=>(ih x hx).1);have h2:(kE d m).getD 0 0<=9*m:=by
    cases hc:kE d m with
    |nil=>grind
    |cons y ys=>simp_all
   omega
  grind
def UI(d:List UInt8):∀m k,k<=m->(kE d m).drop k=kE d (m-k):=by
 intro m
 induction m with
 |zero=>simp
 |succ m ih=>
  intro k h;cases k with
  |zero=>rfl
  |succ k=>simp only[kE,List.drop_succ_cons];grind
def apG(d:List UInt8)(a:Nat)(h:a<d.length):(aY d)[a]?=some (NL d a ((aY d).drop (a+1))):=by
 unfold aY;have h1:=UI d d.length a ab;have h2:=UI d d.length (a+1) ab;have h3:(kE d d.length)[a]?=((kE d d.length).drop a)[0]?:=aj;rw[h3,h1];obtain⟨m,hm⟩:∃m,d.length-a=m+1:=⟨d.length-a-1,ab⟩
 rw[hm];simp only[kE,List.getElem?_cons_zero]
 grind
def fc(c:List Int)(a:Nat):Nat->Nat->Nat
 |0,n=>n
 |m+1,n=>if 17+c.getD (a+n) 0≠c.getD a 0 then fc c a m (n+1)else n
def C2(d:List UInt8)(a n:Nat):Nat->Nat->Nat
 |0,k=>k
 |m+1,k=>if dY d a k<n then C2 d a n m (k+1)else k
def PX(c:List Int)(a:Nat):∀(m n k:Nat),n<=k->k<n+m->17+c.getD (a+k) 0=c.getD a 0->n<=fc c a m n/\fc c a m n<=k/\17+c.getD (a+fc c a m n) 0=c.getD a 0:=by
 intro m
 induction m with
 |zero=>intro n k h1 h2;omega
 |succ m ih=>
  intro n k h1 h2 h3;unfold fc;split
  ·rename_i h;by_cases he:n=k
   ·subst he;exact absurd h3 h
   ·have:=ih (n+1) k ab ab h3;omega
  ·rename_i h;have:17+c.getD (a+n) 0=c.getD a 0:=zb6 h;exact⟨zai _,h1,this⟩
def Om(c:List Int)(a n:Nat)(h:1<=n):(c.drop (a+1)).getD (n-1) 0=c.getD (a+n) 0:=by
 grind
def ad1(d:List UInt8)(a:Nat)(h:a<d.length)(cb:9+(aY d).getD (a+1) 0≠(aY d).getD a 0):∃k,3<=k/\k<=(uV d a).2/\17+(aY d).getD (a+k) 0=(aY d).getD a 0:=by
 have h1:=apG d a h;have h2:(aY d).getD a 0=NL d a ((aY d).drop (a+1)):=bf;unfold NL at h2;rcases ao3 ((aY d).drop (a+1)) ((uV d a).2-2) 3 (9+((aY d).drop (a+1)).getD 0 0)with h4|⟨k,h4,h5,h6⟩
 ·grind
 ·refine⟨k,h4,ab,?_⟩
  grind
def aph(d:List UInt8)(a n:Nat):∀(m k pC:Nat),(∃p∈fv d a m k pC,n<=p.2)->((fv d a m k pC).find? λp=>decide (n<=p.2)).elim 0 (·.1)=C2 d a n m k\/n<=pC:=by
 intro m
 induction m with
 |zero=>intro k pC ⟨p,hp,_⟩;trivial
 |succ m ih=>
  intro k pC hp;by_cases hn:n<=pC
  ·omega
  unfold fv at hp ⊢;unfold C2
  grind
def KO(d:List UInt8)(a n:Nat):Nat:=((nB d a).find? λp=>decide (n<=p.2)).elim 0 (·.1)
def aim(d:List UInt8)(a:Nat)(h:0<(uV d a).2):uV d a∈nB d a:=by
 unfold uV at h ⊢;rw[aaD]at h ⊢;show _∈fv d a a 1 0
 grind
def awW(d:List UInt8)(a n:Nat)(h1:1<=n)(h2:n<=(uV d a).2):KO d a n=C2 d a n a 1:=by
 rcases aph d a n a 1 0 ⟨_,aim d a ab,h2⟩with h|h
 ·exact h
 ·omega
def amo(d:List UInt8)(a:Nat):∀(m k pC:Nat),∀p∈fv d a m k pC,k<=p.1/\p.1<k+m/\p.2=dY d a p.1:=by
 intro m
 induction m with
 |zero=>intro k pC p hp;trivial
 |succ m ih=>
  intro k pC p hp;unfold fv at hp
  grind
def agz(d:List UInt8)(a n:Nat):∀(m k q:Nat),k<=q->q<k+m->n<=dY d a q->k<=C2 d a n m k/\C2 d a n m k<=q/\n<=dY d a (C2 d a n m k):=by
 intro m
 induction m with
 |zero=>intro k q h1 h2;omega
 |succ m ih=>
  intro k q h1 h2 h3;unfold C2;split
  ·rename_i h;by_cases he:k=q
   ·subst he;omega
   ·have:=ih (k+1) q ab ab h3;omega
  ·exact⟨zai _,h1,ab⟩
def mz(d:List UInt8)(c:List Int)(a:Nat):cI:=
 if 9+c.getD (a+1) 0≠c.getD a 0 then abj (KO d a (fc c a (d.length-a) 3),fc c a (d.length-a) 3)else Ws d a
def qB(d:List UInt8)(c:List Int):Nat->Nat->List cI
 |0,_=>[]
 |m+1,a=>if a<d.length then mz d c a::qB d c m (a+(mz d c a).made.toNat)else[]
def Eb(d:List UInt8):List cI:=qB d (aY d) d.length 0
def Q0(d:List UInt8)(a:Nat)(h:a<d.length)(cb:9+(aY d).getD (a+1) 0≠(aY d).getD a 0):
 3<=fc (aY d) a (d.length-a) 3/\fc (aY d) a (d.length-a) 3<=(uV d a).2/\a+fc (aY d) a (d.length-a) 3<=d.length/\17+(aY d).getD (a+fc (aY d) a (d.length-a) 3) 0=(aY d).getD a 0:=by
 obtain⟨k,h1,h2,h3⟩:=ad1 d a h cb;have hb:=Av d a;have hr:e_ d a<=d.length-a:=zcx _ _;have:=PX (aY d) a (d.length-a) 3 k h1 ab h3;omega
def Y5(d:List UInt8)(a n:Nat)(h1:1<=n)(h2:n<=(uV d a).2):1<=KO d a n/\KO d a n<=a/\n<=dY d a (KO d a n):=by
 rw[awW d a n h1 h2];have hm:=aim d a ab;have:=amo d a a 1 0 _ hm;have h3:=agz d a n a 1 (uV d a).1 ab ab ab;omega
def Ck(d:List UInt8)(a:Nat)(h:a<d.length):1<=(mz d (aY d) a).made/\a+(mz d (aY d) a).made<=d.length:=by
 unfold mz;split
 ·rename_i cb;have h1:=Q0 d a h cb;unfold cI.made abj
  grind
 ·simp[Ws,cI.made];omega
def ajl(d:List UInt8):∀(m a:Nat),d.length<=a+m->qB d (aY d) m a=qB d (aY d) (m+1) a:=by
 intro m
 induction m with
 |zero=>unfold qB;grind
 |succ m ih=>
  intro a h;show(if a<d.length then mz d (aY d) a::qB d (aY d) m (a+(mz d (aY d) a).made.toNat)else[])=(if a<d.length then mz d (aY d) a::qB d (aY d) (m+1) (a+(mz d (aY d) a).made.toNat)else[])
  split
  ·rename_i aU;have h1:=Ck d a aU
   grind
  ·rfl
def ai4(d:List UInt8)(a:Nat):∀(j k:Nat),d.length<=a+k->qB d (aY d) (k+j) a=qB d (aY d) k a:=by
 intro j
 induction j with
 |zero=>simp
 |succ j ih=>intro k hb;rw[<-zaJ,<-ajl d (k+j) a ab,ih k hb]
def C9(d:List UInt8)(m a:Nat)(hm:a+(m+1)=d.length):qB d (aY d) (m+1) a=mz d (aY d) a::qB d (aY d) (m+1-(mz d (aY d) a).made.toNat) (a+(mz d (aY d) a).made.toNat):=by
 have h1:=Ck d a ab;show(if a<d.length then mz d (aY d) a::qB d (aY d) m (a+(mz d (aY d) a).made.toNat)else[])=_;have:=ai4 d (a+(mz d (aY d) a).made.toNat) ((mz d (aY d) a).made.toNat-1) (m+1-(mz d (aY d) a).made.toNat) ab
 grind
def yg:Spec:={ lone:=false,fn:=false,run:=λ_ _=>False,iter:=asf,mu:=false,qS:=λ_ _ _=>False }
def agN(hΓ:Sound Go.Proofs.Tryz.prog (ay [(307,ah iS),(308,ah kY)])):bU Go.Proofs.Tryz.prog 306 yg:=
 ⟨(λe=>cz),(λe=>cz),(λ_ _ _ _ _ _ _ _ h=>(show False from h).elim),ali hΓ,(λ_ _ _ _ _ _ _ _ e=>cz)⟩
def Mu:Spec:=EM false false λps K=>∃(d:List UInt8) (a:Int),ps=[.str d,pI a]/\K (.pv (.clo 306 [.cptr (.str d),.cptr (pI a)]))
def acI:MT (ay [(306,yg)]) tI Mu:=by
 rintro _ K ⟨d,a,rfl,hK⟩;exact FI
def auZ(l:List (Nat×Nat)):(l.map (·.2)).getLastD 0=(((0,0)::l).getLast aj).2:=by
 cases l with
 |nil=>rfl
 |cons x l=>
  rw[zcN aj,List.getLastD_eq_getLast?,List.getLast?_map,List.getLast?_eq_some_getLast aj];rfl
def aqC(d:List UInt8)(a:Nat):((nB d a).map (·.2)).getLastD 0=(uV d a).2:=by
 unfold uV;rw[aaD d a a 1 0 0,auZ];rfl
def O4(ps:List PV)(x:PV):Prop:=∃(d:List UInt8) (a:Int),ps=[.str d,pI a]/\(d.length<=4096/\0<=a/\a<=(d.length:Int))/\x=pI ((uV d a.toNat).2:Nat)
def Zb:MT (ay [(300,Mu),(306,yg)]) si (ah O4):=by
 rintro _ K ⟨_,⟨d,a,rfl,h,rfl⟩,hK⟩;refine⟨rfl,?_⟩;refine⟨d,a,rfl,?_⟩;refine⟨mI (nB d a.toNat),λpre σ=>∃l:List (Nat×Nat),pre=mI l/\σ=[.box 3 [.pv (pI ((l.map (·.2)).getLastD 0:Nat))]],⟨d,a,rfl,h,rfl⟩,?_,⟨rfl,([]:List (Nat×Nat)),rfl,rfl⟩,?_,?_⟩
 ·intro x hx;simp only[mI,zaX]at hx;obtain⟨p,_,rfl⟩:=hx;rfl
 ·rintro pre x σ hx _ ⟨l,rfl,rfl⟩;simp only[mI,zaX]at hx;obtain⟨p,_,rfl⟩:=hx;refine⟨rfl,rfl,rfl,l++[p],by simp[mI],?_⟩;simp
 ·rintro σ ⟨l,hl,rfl⟩;have:l=nB d a.toNat:=by
   unfold mI at hl;exact(zch (λx y e=>abf)).1 hl.symm
  subst this;rw[aqC];exact FI
def T2(ps:List PV)(x:PV):Prop:=∃(d:List UInt8) (a n:Int),ps=[.str d,pI a,pI n]/\(d.length<=4096/\0<=a/\a<=(d.length:Int)/\0<=n)/\x=pI (KO d a.toNat n.toNat:Nat)
def acM:MT (ay [(300,Mu),(306,yg)]) tu (ah T2):=by
 rintro _ K ⟨_,⟨d,a,n,rfl,⟨h1,h2,h3,h4⟩,rfl⟩,hK⟩;refine⟨d,a,rfl,?_⟩;refine⟨mI (nB d a.toNat),λpre σ=>∃l:List (Nat×Nat),(pre=mI l∧∀p∈l,¬n.toNat<=p.2)/\σ=[.box 3 [.pv (pI n)],.box 3 [.pv (pI 0)]],⟨d,a,rfl,⟨h1,h2,h3⟩,rfl⟩,?_,⟨rfl,[],⟨rfl,aj⟩,rfl⟩,?_,?_⟩
 ·intro x hx;simp only[mI,zaX]at hx;obtain⟨p,_,rfl⟩:=hx;rfl
 ·rintro pre x σ hx _ ⟨l,⟨rfl,hl⟩,rfl⟩;simp only[mI,zaX]at hx;obtain⟨p,_,rfl⟩:=hx;refine λb hb=>?_
  rcases cmp hb with⟨rfl,h⟩|⟨rfl,h⟩
  ·refine⟨rfl,rfl,λhp=>?_⟩;refine⟨.pv (pI _),bu ?_,trivial,hK⟩;obtain⟨t,ht⟩:=hp;have e:mI (l++[p])++t=mI (nB d a.toNat):=by rw[<-ht];simp[mI]
   obtain⟨u,hu⟩:∃u,nB d a.toNat=(l++[p])++u:=by
    refine⟨(nB d a.toNat).drop (l++[p]).length,?_⟩;have e2:(nB d a.toNat).take (l++[p]).length=l++[p]:=by
     have h5:mI ((nB d a.toNat).take (l++[p]).length)=mI (l++[p]):=by
      unfold mI at e ⊢;rw[List.map_take,<-e,<-zav (f:=λp:Nat×Nat=>[pI (p.1:Nat),pI (p.2:Nat)]),List.take_left]
     unfold mI at h5;exact(zch (λx y e=>abf)).1 h5
    rw[<-e2,zal];have hlen:(l++[p]).length<=(nB d a.toNat).length:=by
     have:=congrArg List.length e;simp only[mI,zad,zav]at this ⊢;omega
    rw[zas hlen];exact(zaD _ _).symm
   unfold KO;rw[hu,zaj,List.find?_append,zcL.2 Lu];have:n.toNat<=p.2:=ab;show((((p::u).find? λp=>decide (n.toNat<=p.2)).elim 0 (·.1):Nat):Int)=_;rw[List.find?_cons_of_pos (by simpa using this)];rfl
  ·exact⟨rfl,rfl,l++[p],⟨by simp[mI],by
    intro q hq;rcases zaA.1 hq with hq|hq
    ·exact hl q hq
    ·simp at hq;subst hq;omega⟩,rfl⟩
 ·rintro σ ⟨l,⟨hl,hn⟩,rfl⟩;have:l=nB d a.toNat:=by
   unfold mI at hl;exact(zch (λx y e=>abf)).1 hl.symm
  subst this;refine⟨rfl,?_⟩;refine⟨.pv (pI _),bu ?_,trivial,hK⟩;unfold KO;rw[zcL.2 (by simpa using hn)];rfl
def mP(ps:List PV)(x:PV):Prop:=∃(d:List UInt8) (a:Int),ps=[.str d,pI a]/\(0<=a/\a<(d.length:Int))/\x=(Ws d a.toNat).pv
def aA2(d:List UInt8){a:Int}(h:0<=a/\a<(d.length:Int)){x:Int}(hx:x=((d[a.toNat]'ab).toNat:Int)):PV.agg [pI 0,pI 0,pI x]=(Ws d a.toNat).pv:=by
 unfold Ws cI.pv;rw[zah ab,hx];rfl
def Ah:MT (ay []) tp (ah mP):=by
 rintro _ K ⟨_,⟨d,a,rfl,⟨h1,h2⟩,rfl⟩,hK⟩;refine⟨_,⟨h1,zah ab⟩,?_⟩;refine λx hx=>?_
 replace hx:=dB hx (by have:=(d[a.toNat]'ab).toNat_lt;omega);refine⟨rfl,?_⟩;refine⟨rfl,?_⟩;rw[<-aA2 d ⟨h1,h2⟩ hx]at hK;refine⟨.pv (.agg [pI 0,pI 0,pI x]),rfl,?_,hK⟩;intro c hc;simp at hc;rcases hc with rfl|rfl<;>trivial
def Ui(l:List cI):∀x∈l.map cI.pv,x.flat:=by
 intro x hx;obtain⟨t,_,rfl⟩:=zaX.1 hx;intro c hc;simp at hc;rcases hc with rfl|rfl|rfl<;>trivial
def Small(c:List Int)(a:Nat):Prop:=∀i,a<i→∀x,c[i]?=some x-> -1000000<=x/\x<=1000000
def ame(t:List Int):∀(m n:Nat) (o:Int),yK t (m+1) n o=yK t m (n+1) (min o (17+t.getD (n-1) 0)):=λ_ _ _=>rfl
def ak1(ps:List PV)(x:PV):Prop:=∃(d:List UInt8) (c:List Int) (a:Int),ps=[.str d,.sl 1 (c.map pI),pI a]/\(d.length<=4096/\0<=a/\a<(d.length:Int)/\c.length=d.length+1/\Small c a.toNat)/\x=pI (NL d a.toNat (c.drop (a.toNat+1)))
def alW:MT (ay [(305,ah O4)]) xE (ah ak1):=by
 rintro _ K ⟨_,⟨d,c,a,rfl,⟨h1,h2,h3,h4,h5⟩,rfl⟩,hK⟩;have hb:=Av d a.toNat;have hr:e_ d a.toNat<=d.length-a.toNat:=zcx _ _;have Gr:∀n:Nat,1<=n->n<=d.length-a.toNat->(c.map pI)[a.toNat+n]?=some (pI ((c.drop (a.toNat+1)).getD (n-1) 0))/\ -1000000<=(c.drop (a.toNat+1)).getD (n-1) 0/\(c.drop (a.toNat+1)).getD (n-1) 0<=1000000:=by
  intro n Kt LD;have aU:a.toNat+n<c.length:=ab;rw[Om _ _ _ Kt,zbr,za9,zah aU];exact⟨rfl,h5 (a.toNat+n) ab _ (zah aU)⟩
 generalize hT:c.drop (a.toNat+1)=T at Gr hK;refine λx hx=>?_
 obtain rfl:=dB hx ab;obtain⟨g1,g2,g3⟩:=Gr 1 (zai _) ab;refine⟨_,⟨ab,by rw[show(a+1).toNat=a.toNat+1 by omega];exact g1⟩,?_⟩;refine λx hx=>?_
 obtain rfl:=dB hx ab;refine⟨_,⟨d,a,rfl,⟨h1,h2,ab⟩,rfl⟩,?_⟩;refine⟨λm env σ=>∃(n:Nat) (o:Int),(3<=n/\(n:Int)+m=max 3 ((uV d a.toNat).2+1)/\ -1000000<=o/\o<=2000000/\yK T m n o=NL d a.toNat T)/\σ=[]/\env=[(1,.pv (.sl 1 (c.map pI))),eN 2 a,eN 7 o,eN 8 n,eN 9 ((uV d a.toNat).2:Nat)],(uV d a.toNat).2-2,⟨3,_,⟨ab,ab,?_,?_,rfl⟩,rfl,rfl⟩,?_⟩
 ·simp only[zck]at g2 ⊢;omega
 ·simp only[zck]at g3 ⊢;omega
 rintro m env σ ⟨n,o,⟨hn,hm,ho1,ho2,cL⟩,rfl,rfl⟩;refine λb Cs=>?_
 rcases cmp Cs with⟨rfl,h⟩|⟨rfl,h⟩
 ·cases m with
  |zero=>omega
  |succ m=>
  obtain⟨g1,g2,g3⟩:=Gr n ab ab;refine λx hx=>?_
  obtain rfl:=dB hx ab;refine⟨_,⟨ab,by rw[show(a+n).toNat=a.toNat+n by omega];exact g1⟩,?_⟩;refine λx hx=>?_
  obtain rfl:=dB hx ab;refine λx hx=>?_
  refine λy hy=>?_
  obtain rfl:=dB hy ab;rw[ame]at cL;subst hx;exact⟨m,ab,n+1,_,⟨ab,ab,ab,ab,cL⟩,rfl,rfl⟩
 ·have:m=0:=by omega
  subst this;have:o=NL d a.toNat T:=cL;subst this;exact aG
def Uf(m:Nat)(t:List Int):List Int:=List.replicate m 0++t
def as3(m:Nat)(t:List Int):(Uf m t).length=m+t.length:=by simp[Uf]
def apw(m:Nat)(t:List Int):(Uf m t).drop m=t:=by
 unfold Uf;rw[List.drop_append_of_le_length aj];simp
def aum(m:Nat)(t:List Int)(x:Int):((Uf (m+1) t).map pI).set m (pI x)=(Uf m (x::t)).map pI:=by
 unfold Uf;rw[zcH,zaj,zbu,zcF _ _ aj,zav,List.length_replicate,zck,zbu,zbu];rfl
def amv(m:Nat)(t:List Int)(a:Nat)(h:∀x∈t,-1000000<=x/\x<=1000000):Small (Uf m t) a:=by
 intro i _ x hx;rcases zaA.1 (zag hx)with h'|h'
 ·simp at h';omega
 ·exact h x h'
def ao9(l:List Int):∀x∈l.map pI,x.flat:=by
 intro x hx;obtain⟨t,_,rfl⟩:=zaX.1 hx;trivial
def aff:Spec:=EM true false λps K=>∃d:List UInt8,ps=[.str d]/\d.length<=4096/\K (.fresh 3 1 ((aY d).map pI))
def akd:MT (ay [(299,ah ak1)]) vX aff:=by
 rintro _ K ⟨d,rfl,h1,hK⟩;refine λx hx=>?_
 obtain rfl:=dB hx ab;refine⟨ab,?_⟩;refine λx hx=>?_
 obtain rfl:=dB hx ab;refine⟨λm env σ=>(m<=d.length)/\σ=[.row 3 1 true ((Uf m (kE d (d.length-m))).map pI)]/\env=[(0,.pv (.str d)),(3,.own 0),eN 4 ((m:Int)-1)],d.length,⟨zai _,?_,rfl⟩,?_⟩
 ·have:((d.length:Int)+1).toNat=d.length+1:=by omega
  rw[this,zck];simp only[Uf,kE,zbu,zcm,zat,zcw,zcH]
 rintro m env σ ⟨hm,rfl,rfl⟩;refine λb hb=>?_
 rcases cmp hb with⟨rfl,h⟩|⟨rfl,h⟩
 ·cases m with
  |zero=>omega
  |succ m=>
  have e:((m+1:Nat):Int)-1=(m:Int):=ab;rw[e]at*;have hlen:=as3 (m+1) (kE d (d.length-(m+1)));rw[Ow]at hlen;refine⟨_,⟨d,Uf (m+1) (kE d (d.length-(m+1))),m,rfl,⟨h1,ab,ab,ab,amv _ _ _ (λx hx=>by have:=ND d _ x hx;omega)⟩,rfl⟩,?_⟩;rw[zaC,apw];refine⟨⟨ab,PR⟩,?_⟩;refine⟨pI 0,?_,?_⟩
  ·rw[zaC,za9];unfold Uf;rw[List.getElem?_append_left aj,zcz,if_pos ab];rfl
  refine⟨rfl,?_⟩;refine λx hx=>?_
  obtain rfl:=dB hx ab;refine⟨m,ab,ab,?_,rfl⟩;have e2:d.length-m=(d.length-(m+1))+1:=ab;have e3:d.length-(d.length-(m+1)+1)=m:=ab;rw[e2];show[dC.row 3 1 true (((Uf (m+1) (kE d (d.length-(m+1)))).map pI).set ((m:Int).toNat) _)]=_;rw[zaC,aum,kE,e3]
 ·have:m=0:=by omega
  subst this;exact⟨.fresh _ _ _,⟨rfl,rfl,rfl,rfl⟩,ao9 _,hK⟩
def XS(d:List UInt8):(aY d).length=d.length+1:=Ow d d.length
def O_(d:List UInt8){i:Nat}(h:i<=d.length):((aY d).map pI)[i]?=some (pI ((aY d).getD i 0))/\0<=(aY d).getD i 0/\(aY d).getD i 0<=9*d.length:=by
 have hl:=XS d;have aU:i<(aY d).length:=ab;rw[za9,zbr,zah aU];exact⟨rfl,ND d d.length _ (List.getElem_mem aU)⟩
def Um:Spec:=EM true false λps K=>∃d:List UInt8,ps=[.str d]/\d.length<=4096/\K (.fresh 293 3 ((Eb d).map cI.pv))
def ac1:MT (ay [(285,aff),(286,ah mP),(287,ah T2),(261,ah dW)]) tL Um:=by
 rintro _ K ⟨d,rfl,h1,hK⟩;refine⟨d,rfl,h1,?_⟩;refine⟨λm env σ=>∃(done:List cI) (a:Nat),(a+m=d.length/\done.length<=a/\Eb d=done++qB d (aY d) m a)/\σ=[.row 3 1 true ((aY d).map pI),.row 293 3 true (done.map cI.pv)]/\env=[(0,.pv (.str d)),(3,.own 0),(4,.own 1),eN 5 a],d.length,⟨[],0,⟨ab,aj,rfl⟩,rfl,rfl⟩,?_⟩;rintro m env σ ⟨done,a,⟨hm,hlen,cL⟩,rfl,rfl⟩;refine λb hb=>?_
 rcases cmp hb with⟨rfl,h⟩|⟨rfl,h⟩
 ·cases m with
  |zero=>omega
  |succ m=>
  rw[C9 d m a hm]at cL;have azI:=Ck d a ab;have hl:=XS d;have ha:=O_ d (i:=a) ab;have ha1:=O_ d (i:=a+1) ab;have fin:∀t:cI,t=mz d (aY d) a→∃m',m'<m+1∧∃(ab5:List cI) (a':Nat),(a'+m'=d.length/\ab5.length<=a'/\Eb d=ab5++qB d (aY d) m' a')/\done.map cI.pv++[t.pv]=ab5.map cI.pv/\(a:Int)+t.made=a':=by
   rintro t rfl;exact⟨m+1-(mz d (aY d) a).made.toNat,ab,done++[mz d (aY d) a],a+(mz d (aY d) a).made.toNat,⟨ab,aH,by rw[cL];simp⟩,aj,ab⟩
  refine⟨_,⟨d,a,rfl,⟨ab,ab⟩,rfl⟩,?_⟩;refine⟨rfl,?_⟩;refine⟨ak,?_⟩;refine λx hx=>?_
  obtain rfl:=dB hx ab;have e1:((a:Int)+1).toNat=a+1:=ab;refine⟨⟨ab,by rw[zav,e1];omega⟩,?_⟩;rw[e1];refine⟨_,ha1.1,?_⟩;refine λx hx=>?_
  obtain rfl:=dB hx ab;refine⟨⟨ab,PR⟩,?_⟩;refine⟨_,by rw[zaC];exact ha.1,?_⟩;refine λb hb=>?_
  rcases cmp hb with⟨rfl,h'⟩|⟨rfl,h'⟩
  ·have hf:=Q0 d a ab h';have aoF:=Av d a;have aq1:mz d (aY d) a=abj (KO d a (fc (aY d) a (d.length-a) 3),fc (aY d) a (d.length-a) 3):=by unfold mz;rw[if_pos h']
   refine⟨λm env σ=>∃n:Nat,(3<=n/\n+m=d.length-a+3/\fc (aY d) a m n=fc (aY d) a (d.length-a) 3)/\σ=[.row 3 1 true ((aY d).map pI),.row 293 3 true (done.map cI.pv),.box 293 [.pv (pI 0),.pv (pI 0),.pv (pI (Ws d a).b)]]/\env=[(0,.pv (.str d)),(3,.own 0),(4,.own 1),eN 5 a,(6,.ref 2 0 0),eN 7 n],d.length-a,⟨3,⟨zai _,ab,rfl⟩,rfl,rfl⟩,?_⟩;rintro k env σ ⟨n,⟨hn,hk,pe⟩,rfl,rfl⟩;have hnf:k=0\/n<=fc (aY d) a (d.length-a) 3:=by
    cases k with
    |zero=>exact .inl rfl
    |succ k=>
     right;obtain⟨q,j0,jx,ry⟩:=ad1 d a ab h';by_cases rD:n<=q
     ·have:=PX (aY d) a (k+1) n q rD (by have:=aoF.1;have:e_ d a<=d.length-a:=zcx _ _;omega) ry;omega
     ·rw[<-pe];have:∀m n,n<=fc (aY d) a m n:=by
       intro m
       induction m with
       |zero=>intro n;exact zai _
       |succ m ih=>intro n;unfold fc;split;have:=ih (n+1);omega;exact zai _
      exact this _ _
   refine⟨ak,?_⟩;have JZ:a+n<=d.length:=by
    rcases hnf with rfl|hnf
    ·have:n=fc (aY d) a (d.length-a) 3:=pe;omega
    ·omega
   have cM:=O_ d (i:=a+n) JZ;refine λx hx=>?_
   obtain rfl:=dB hx ab;have e2:((a:Int)+n).toNat=a+n:=ab;refine⟨⟨ab,by rw[zav,e2];omega⟩,?_⟩;refine⟨_,by rw[e2];exact cM.1,?_⟩;refine λx hx=>?_
   obtain rfl:=dB hx ab;refine⟨⟨ab,PR⟩,?_⟩;refine⟨_,by rw[zaC];exact ha.1,?_⟩;refine λb hb=>?_
   rcases cmp hb with⟨rfl,h2⟩|⟨rfl,h2⟩
   ·refine λx hx=>?_
    obtain rfl:=dB hx ab;cases k with
    |zero=>
     have:n=fc (aY d) a (d.length-a) 3:=pe;rw[<-this]at hf;exact absurd hf.2.2.2 h2
    |succ k=>
     have e3:fc (aY d) a (k+1) n=fc (aY d) a k (n+1):=by rw[fc,if_pos h2]
     rw[e3]at pe;exact⟨k,ab,n+1,⟨ab,ab,pe⟩,rfl,rfl⟩
   ·have z_:n=fc (aY d) a (d.length-a) 3:=by
     cases k with
     |zero=>exact pe
     |succ k=>
      have e3:fc (aY d) a (k+1) n=n:=by rw[fc,if_neg h2]
      rw[e3]at pe;exact pe
    refine⟨_,⟨d,a,n,rfl,⟨h1,ab,ab,ab⟩,rfl⟩,?_⟩;rw[zaC,zaC];refine⟨rfl,?_⟩;refine⟨rfl,?_⟩;refine⟨rfl,?_⟩;refine⟨rfl,?_⟩;refine⟨⟨?_,?_⟩,?_⟩
    ·rw[zav];show(done.length+1)*24<=_;omega
    ·rw[zav];show done.length+1<=_;omega
    refine⟨_,⟨abj (KO d a n,n),rfl,rfl⟩,?_⟩;have et:abj (KO d a n,n)=mz d (aY d) a:=by rw[aq1,<-z_]
    obtain⟨m',f1,ab5,a',f2,f3,f4⟩:=fin _ et;refine λx hx=>?_
    obtain rfl:=dB hx ab;refine⟨m',f1,ab5,a',f2,?_,?_⟩
    ·exact congrArg (λl=>[dC.row 3 1 true ((aY d).map pI),dC.row 293 3 true l]) f3
    ·rw[f4]
  ·have aq1:Ws d a=mz d (aY d) a:=by unfold mz;rw[if_neg h']
   refine⟨rfl,?_⟩;refine⟨⟨?_,?_⟩,?_⟩
   ·rw[zav];show(done.length+1)*24<=_;omega
   ·rw[zav];show done.length+1<=_;omega
   refine⟨_,⟨Ws d a,rfl,rfl⟩,?_⟩;obtain⟨m',f1,ab5,a',f2,f3,f4⟩:=fin _ aq1;refine λx hx=>?_
   obtain rfl:=dB hx ab;refine⟨m',f1,ab5,a',f2,?_,?_⟩
   ·exact congrArg (λl=>[dC.row 3 1 true ((aY d).map pI),dC.row 293 3 true l]) f3
   ·rw[f4]
 ·have:m=0:=by omega
  subst this;have e:Eb d=done:=by rw[cL];simp[qB]
  rw[e]at hK;exact⟨.fresh _ _ _,⟨rfl,rfl,rfl,rfl⟩,Ui _,hK⟩
def ng{n:Nat}{w:Nat}(h:n<2^w):(BitVec.ofInt w (n:Int)).toNat=n:=by
 rw[BitVec.ofInt_natCast,BitVec.toNat_ofNat,zcv h]
def Rm{n:Nat}(h:n<2^62):IntKind.i64.wrap (n:Int)=n:=by
 have:(2:Nat)^62=4611686018427387904:=ao;exact wrap64 ab
def axa{a b:Nat}(ha:a<2^62)(hb:b<2^62):iz .or .i64 (a:Int) (b:Int)=((a|||b:Nat):Int):=by
 unfold iz;have h1:=zcO ha hb;have e:IntKind.i64.bits=64:=rfl;simp only[e,BitVec.toNat_or];rw[ng (zaf ha ao),ng (zaf hb ao)];exact Rm h1
def aiF{a b:Nat}(ha:a<2^62)(hb:b<2^62):iz .and .i64 (a:Int) (b:Int)=((a&&&b:Nat):Int):=by
 unfold iz;have h1:a&&&b<2^62:=zct zcA ha;have e:IntKind.i64.bits=64:=rfl;simp only[e,BitVec.toNat_and];rw[ng (zaf ha ao),ng (zaf hb ao)];exact Rm h1
def ZV{n:Nat}(h:n<256):IntKind.u8.wrap (n:Int)=n:=by
 have hb:IntKind.u8.bits=8:=rfl;simp only[IntKind.wrap,IntKind.signed,hb];simp;omega
def or8{a b:Nat}(ha:a<256)(hb:b<256):iz .or .u8 (a:Int) (b:Int)=((a|||b:Nat):Int):=by
 unfold iz;have h1:a|||b<2^8:=zcO ha hb;have e:IntKind.u8.bits=8:=rfl;simp only[e,BitVec.toNat_or];rw[ng ha,ng hb];exact ZV h1
def aJu{a b:Nat}(ha:a<256)(hb:b<256):iz .and .u8 (a:Int) (b:Int)=((a&&&b:Nat):Int):=by
 unfold iz;have h1:a&&&b<256:=zct zcA ha;have e:IntKind.u8.bits=8:=rfl;simp only[e,BitVec.toNat_and];rw[ng ha,ng hb];exact ZV h1
def O7{a k b:Nat}(h:a<2^k):a|||(2^k*b)=a+2^k*b:=by
 rw[Nat.or_comm,<-zcu h,zcK]
def PZ(a k:Nat):a&&&(2^k-1)=a%2^k:=zcq a k
def lV(n:Nat):UInt8:=UInt8.ofNat n
def qd{n:Nat}(h:n<256):(lV n).toNat=n:=by simp[lV];omega
def ue{n:Int}(h:0<=n/\n<256):PV.int .u8 n=aL (lV n.toNat):=by
 unfold aL;rw[qd ab];congr 1;omega
def JR(n:Nat):List UInt8:=[lV (n%256),lV (n/256%256)]
def B7(t:cI)(a:Nat):List UInt8:=if t.d≠0 then JR ((t.d.toNat-1)*2^(16-dh a)+t.l.toNat-3)else[lV t.b.toNat]
def vm(t:cI)(a:Nat):Prop:=a<4096/\if t.d≠0 then t.b=0/\1<=t.d/\t.d<=a/\3<=t.l/\t.l<=KK a/\a+t.l<=4096 else t.l=0/\0<=t.b/\t.b<=255
def jL:List cI->Nat->Prop
 |[],_=>True
 |t::l,a=>vm t a/\jL l (a+t.made.toNat)
def ur{t:cI}{a:Nat}(h:vm t a):1<=t.made/\a+t.made<=4096:=by
 unfold vm at h;unfold cI.made;obtain⟨h1,h2⟩:=h;split at h2
 ·rw[if_pos ‹_›];omega
 ·rw[if_neg ‹_›];omega
def aoq{t:cI}{a:Nat}(h:vm t a)(hd:t.d≠0):(t.d.toNat-1)*2^(16-dh a)+t.l.toNat-3<65536/\(t.d.toNat-1)<2^dh a/\t.l.toNat-3<2^(16-dh a):=by
 unfold vm at h;rw[if_pos hd]at h;obtain⟨h0,_,h1,h2,h3,h4,h5⟩:=h;have hs:=lC (a:=a) ab;have h6:t.d.toNat<=2^dh a:=by
  have:=(aiG (a:=a) (wJ a)).1 (zai _);omega
 have h7:t.l.toNat<=2^(16-dh a)+2:=by unfold KK at h4;omega
 have h8:2^dh a*2^(16-dh a)=65536:=by
  rw[<-zcs,show dh a+(16-dh a)=16 by omega]
 have h9:(t.d.toNat-1)*2^(16-dh a)<=(2^dh a-1)*2^(16-dh a):=Nat.mul_le_mul_right _ ab;rw[Nat.sub_mul (2^dh a),h8,zbc]at h9;have:=zcd (16-dh a);have XK:2^(16-dh a)<=2^16:=zb8 ab ab;refine⟨?_,?_,?_⟩
 ·generalize 2^(16-dh a)=p at*;generalize (t.d.toNat-1)*p=q at*;have:(2:Nat)^16=65536:=ao;omega
 ·omega
 ·omega
def fa:Nat->List cI->Nat
 |_,[]=>0
 |k,t::l=>(if t.d≠0 then 2^k else 0)+fa (k+1) l
def Ky:∀(l:List cI) (k:Nat),fa k l+2^k<=2^(k+l.length):=by
 intro l
 induction l with
 |nil=>intro k;simp[fa]
 |cons t l ih=>
  intro k;have:=ih (k+1);simp only[fa,zam];rw[show k+(l.length+1)=k+1+l.length by omega];have e:2^(k+1)=2*2^k:=by rw[zcM];omega
  split<;>omega
def Ar:∀(l m:List cI) (k:Nat),fa k (l++m)=fa k l+fa (k+l.length) m:=by
 intro l
 induction l with
 |nil=>intro m k;simp[fa]
 |cons t l ih=>
  intro m k;simp only[zbd,fa,zam,ih];rw[show k+1+l.length=k+(l.length+1) by omega];omega
def fK:List cI->Nat->List UInt8
 |[],_=>[]
 |t::l,a=>B7 t a++fK l (a+t.made.toNat)
def jH:List cI->Nat->Nat
 |[],a=>a
 |t::l,a=>jH l (a+t.made.toNat)
def adD:∀(l m:List cI) (a:Nat),fK (l++m) a=fK l a++fK m (jH l a):=by
 intro l
 induction l with
 |nil=>intro m a;rfl
 |cons t l ih=>intro m a;simp only[zbd,fK,jH,ih,zaj]
def U3:∀(l m:List cI) (a:Nat),jH (l++m) a=jH m (jH l a):=by
 intro l
 induction l with
 |nil=>intro m a;rfl
 |cons t l ih=>intro m a;simp only[zbd,jH,ih]
def oY:∀(l m:List cI) (a:Nat),jL (l++m) a↔jL l a/\jL m (jH l a):=by
 intro l
 induction l with
 |nil=>intro m a;simp[jL,jH]
 |cons t l ih=>intro m a;simp only[zbd,jL,jH,ih,and_assoc]
def gK:Nat->List cI->Nat->List UInt8
 |0,_,_=>[]
 |n+1,l,a=>if l=[]then[]else lV (fa 0 (l.take 8))::(fK (l.take 8) a++gK n (l.drop 8) (jH (l.take 8) a))
def uK(l:List cI):List UInt8:=gK l.length l 0
def ae3:∀(n:Nat) (l:List cI) (a:Nat),l.length<=n->gK n l a=gK (n+1) l a:=by
 intro n
 induction n with
 |zero=>intro l a h;have:l=[]:=zae ab
        subst this;rfl
 |succ n ih=>
  intro l a h;unfold gK;split
  ·rfl
  ·rename_i hl;have:0<l.length:=zcb.2 hl;rw[ih _ _ aH]
def B8(count:Nat)(pk:Bool):List UInt8:=JR (count-1+12288+(if pk then 32768 else 0))
def aAT(a b:UInt8):[aL a,aL b]=[a,b].map aL:=rfl
def afR(ps:List PV)(x:PV):Prop:=∃n:Int,ps=[pI n]/\(0<=n/\n<65536)/\x=.str (JR n.toNat)
def alL:MT (ay []) Iq (ah afR):=by
 rintro _ K ⟨_,⟨n,rfl,h,rfl⟩,hK⟩;refine λx hx=>?_
 rw[Pn]at hx;refine⟨ab,?_⟩;refine λy hy=>?_
 have hy:y=n/256:=by
  rw[hy];show n.fdiv (2^8)=_;rw[zb7 _ ao];rfl
 refine λz hz=>?_
 rw[Pn]at hz;refine⟨rfl,?_⟩;refine⟨JR n.toNat,?_,?_⟩
 ·unfold JR;rw[<-aAT,ue (n:=x) ab,ue (n:=z) ab,hx,hz,hy];congr 2
  ·congr 1;omega
  ·congr 2;omega
 ·exact bM
def amI(ps:List PV)(x:PV):Prop:=∃(n:Int) (b:Bool),ps=[pI n,pB b]/\(1<=n/\n<=4096)/\x=.str (B8 n.toNat b)
def amt:MT (ay [(298,ah afR)]) IC (ah amI):=by
 rintro _ K ⟨_,⟨n,b,rfl,h,rfl⟩,hK⟩;refine λx hx=>?_
 obtain rfl:=dB hx ab;refine λx hx=>?_
 have e:x=((n.toNat-1+12288:Nat):Int):=by
  rw[hx,show n-1=((n.toNat-1:Nat):Int) by omega,show(12288:Int)=((12288:Nat):Int)from rfl,axa ab ao];rw[show(12288:Nat)=2^12*3 from rfl,O7 ab]
 subst e;cases b with
 |true=>
  refine λx hx=>?_
  have e:x=((n.toNat-1+12288+32768:Nat):Int):=by
   rw[hx,show(32768:Int)=((32768:Nat):Int)from rfl,axa ab ao];rw[show(32768:Nat)=2^15*1 from rfl,O7 ab]
  subst e;refine⟨_,⟨_,rfl,ab,rfl⟩,?_⟩;exact bM
 |false=>
  refine⟨_,⟨_,rfl,ab,rfl⟩,?_⟩;exact bM
def aqM(l:List UInt8):aF:=[.box 219 [.ref 0 0 0,.own 2],.dead,.row 5 1 true (l.map aL)]
def aCs:PV:=.val .nilIface
def J0(xs:List AV)(σ:aF)(K:AV->aF->Prop):Prop:=
 ∃b:UInt8,xs=[.ref 0 0 0,.pv (aL b)]/\((σ=ak2/\K (.pv aCs) (ach [b]))∨∃l:List UInt8,l.length<=1000000/\σ=ach l/\K (.pv aCs) (aqM (l++[b])))
def Wg:gO (ay [(224,sB C4)]) pK (sB J0):=by
 rintro _ _ K ⟨b,rfl,⟨rfl,hK⟩|⟨l,hl,rfl,hK⟩⟩
 ·refine⟨rfl,.inl ⟨rfl,?_⟩⟩;refine⟨rfl,?_⟩;refine⟨⟨aj,aj⟩,?_⟩;refine⟨rfl,?_⟩;exact hK
 ·refine⟨rfl,.inr ⟨l,rfl,?_⟩⟩;refine⟨rfl,?_⟩;refine⟨⟨by rw[zav];show(l.length+1)*1<=_;omega,by rw[zav];show l.length+1<=_;omega⟩,?_⟩;refine⟨rfl,?_⟩;rw[show aqM (l++[b])=[.box 219 [.ref 0 0 0,.own 2],.dead,.row 5 1 true (l.map aL++[aL b])] by simp[aqM]]at hK;exact hK
def DT(xs:List AV)(σ:aF)(K:AV->aF->Prop):Prop:=
 ∃s:List UInt8,xs=[.ref 0 0 0,.pv (.str s)]∧∃l:List UInt8,l.length<=1000000/\s.length<=1000000/\σ=ach l/\K (.tup [.pv (pI s.length),.pv aCs]) (aqM (l++s))
def PW:gO (ay [(224,sB C4)]) nM (sB DT):=by
 rintro _ _ K ⟨s,rfl,l,hl,hs,rfl,hK⟩;refine⟨rfl,.inr ⟨l,rfl,?_⟩⟩;refine⟨⟨by rw[zav,zav];omega,by rw[zav,zav];omega⟩,?_⟩;refine⟨rfl,?_⟩;rw[show aqM (l++s)=[.box 219 [.ref 0 0 0,.own 2],.dead,.row 5 1 true (l.map aL++s.map aL)] by simp[aqM]]at hK;exact hK
def ase(xs:List AV)(σ:aF)(K:AV->aF->Prop):Prop:=
 ∃l:List UInt8,xs=[.ref 0 0 0]/\σ=ach l/\K (.pv (pI l.length)) (ach l)
def aqs:gO (ay []) wi (sB ase):=by
 rintro _ _ K ⟨l,rfl,rfl,hK⟩;refine λ_=>?_
 rw[zav];exact hK
def at9{x s:Int}(hx:0<=x)(hs:0<=s/\s<=63)(h:x.toNat*2^s.toNat<=9223372036854775807):IntKind.i64.wrap (x*2^min s.toNat IntKind.i64.bits)=((x.toNat*2^s.toNat:Nat):Int):=by
 have hb:IntKind.i64.bits=64:=rfl;have:min s.toNat IntKind.i64.bits=s.toNat:=ab;rw[this];have e:x*2^s.toNat=((x.toNat*2^s.toNat:Nat):Int):=by
  rw[Int.natCast_mul,Int.natCast_pow,show((x.toNat:Nat):Int)=x by omega];rfl
 rw[e];exact wrap64 ab
def HG(ps:List PV)(x:PV):Prop:=∃(t:cI) (a:Nat),ps=[t.pv,pI a]/\vm t a/\x=.str (B7 t a)
def T8:MT (ay [(263,ah cm),(260,ah rU),(298,ah afR)]) vY (ah HG):=by
 rintro _ K ⟨_,⟨t,a,rfl,ht,rfl⟩,hK⟩;refine⟨_,⟨t,rfl,rfl⟩,?_⟩;refine λb hb=>?_
 have oE:=ht;unfold vm at oE;rcases cmp hb with⟨rfl,h⟩|⟨rfl,h⟩
 ·have hd:t.d=0:=by
   unfold cI.copy at h;simpa using h
  rw[if_neg ab]at oE;refine λx hx=>?_
  rw[Pn]at hx;refine⟨rfl,?_⟩;refine⟨B7 t a,?_,?_⟩
  ·unfold B7;rw[if_neg ab,ue (n:=x) ab];show[aL (lV x.toNat)]=[aL (lV t.b.toNat)]
   congr 3;omega
  exact bM
 ·have hd:t.d≠0:=by
   intro e;apply h;unfold cI.copy;simp[e]
  rw[if_pos hd]at oE;have hc:=aoq ht hd;have hs:=lC (a:=a) ab;have ZI:=wJ a;refine⟨ak,?_⟩;refine λx hx=>?_
  obtain rfl:=dB hx ab;refine⟨_,⟨a,rfl,⟨ab,ab⟩,rfl⟩,?_⟩;unfold pY;rw[zaC];refine λx hx=>?_
  obtain rfl:=dB hx ab;have es:(16-(dh a:Int)).toNat=16-dh a:=ab;have ed:(t.d-1).toNat=t.d.toNat-1:=ab;refine⟨ab,?_⟩;refine λx hx=>?_
  rw[at9 ab ab (by rw[es,ed];omega),es,ed]at hx;subst hx;generalize hp:(t.d.toNat-1)*2^(16-dh a)=p at hc;refine λx hx=>?_
  obtain rfl:=dB hx ab;refine λx hx=>?_
  obtain rfl:=dB hx ab;refine⟨_,⟨_,rfl,ab,rfl⟩,?_⟩;refine⟨.pv (.str _),?_,trivial,hK⟩;show PV.str (B7 t a)=PV.str (JR _);unfold B7;rw[if_pos hd,hp];congr 2;omega
def HD:∀(l:List cI) (a:Nat),jL l a->l≠[]->a+l.length<=4096:=by
 intro l
 induction l with
 |nil=>intro a _ h;exact kN
 |cons t l ih=>
  intro a h _;obtain⟨h1,h2⟩:=h;have h3:=ur h1;by_cases hl:l=[]
  ·subst hl;simp;omega
  ·have:=ih _ h2 hl;simp only[zam];omega
def Yo(t:cI)(a:Nat):1<=(B7 t a).length/\(B7 t a).length<=2:=by
 unfold B7 JR;split<;>simp
def B6:∀(l:List cI) (a:Nat),(fK l a).length<=2*l.length:=by
 intro l
 induction l with
 |nil=>intro a;simp[fK]
 |cons t l ih=>
  intro a;have:=ih (a+t.made.toNat);have h:=Yo t a;simp only[fK,zad,zam];omega
def Vh:∀(n:Nat) (l:List cI) (a:Nat),(gK n l a).length<=3*l.length:=by
 intro n
 induction n with
 |zero=>intro l a;simp[gK]
 |succ n ih=>
  intro l a;unfold gK;split
  ·simp
  ·rename_i hl;have:0<l.length:=zcb.2 hl;have h1:=B6 (l.take 8) a;have h2:=ih (l.drop 8) (jH (l.take 8) a);simp only[zam,zad];rw[zal]at h1;rw[zax]at h2;omega
def RI(l:List cI)(a:Nat):∀(j n:Nat),l.length<=n->gK (n+j) l a=gK n l a:=by
 intro j
 induction j with
 |zero=>intro n _;rfl
 |succ j ih=>intro n hn;rw[<-zaJ,<-ae3 (n+j) l a ab,ih n hn]
def aAN(out:List UInt8):aF:=match out with|[]=>ak2|_=>ach out
def afy:Spec:=EM true false λps K=>∃l:List cI,ps=[.sl 3 (l.map cI.pv)]/\(l≠[]/\jL l 0)/\
 (4096<(uK l).length->K (.tup [.pv (.str []),.pv (pI 8)]))/\((uK l).length<=4096->K (.tup [.pv (.str (B8 (uK l).length true++uK l)),.pv (pI 0)]))
def XV{α:Type}(n:Nat)(l:List α):cut 0 n l=l.take n:=by simp[cut]
def xY{α:Type}(n:Nat)(l:List α):cut n l.length l=l.drop n:=by simp[cut]
def ahS:MT (ay [(263,ah cm),(282,ah HG),(261,ah dW),(283,sB J0),(187,sB DT),(188,sB ase),(189,sB ZR),(284,ah amI)]) E6 afy:=by
 rintro _ K ⟨l,rfl,⟨cb,di⟩,Gt,xy⟩;have hlen:=HD l 0 di cb;have Gn:=Vh l.length l 0;refine⟨λm env σ=>∃(out:List UInt8) (l':List cI) (a:Nat),(l'.length=m/\jL l' a/\l'.length<=l.length/\uK l=out++gK m l' a/\(l'=[]->out≠[]))/\σ=aAN out/\env=[(0,.pv (.sl 3 (l'.map cI.pv))),(4,.ref 0 0 0),eN 5 a],l.length,⟨[],l,0,⟨rfl,di,zai _,rfl,λh=>absurd h cb⟩,rfl,rfl⟩,?_⟩;rintro m env σ ⟨out,l',a,⟨hm,WU,hle,cL,avo⟩,rfl,rfl⟩;have sS:out.length<=3*l.length:=by
  have:(uK l).length=_:=congrArg List.length cL;unfold uK at this;rw[zad]at this;omega
 refine λ_=>?_
 rw[zav];refine λb hb=>?_
 rcases cmp hb with⟨rfl,h⟩|⟨rfl,h⟩
 ·cases m with
  |zero=>omega
  |succ m=>
  have cK:l'≠[]:=Rk;refine λ_=>?_
  rw[zav];refine λx hx=>?_
  have hx:x=((min l'.length 8:Nat):Int):=ab;subst hx;have V1:cut 0 ((min l'.length 8:Nat):Int).toNat (l'.map cI.pv)=(l'.take 8).map cI.pv:=by
   rw[zaC,XV,<-List.map_take];congr 1;rcases Nat.le_total l'.length 8 with h8|h8
   ·rw[zas h8,List.take_length,za1 h8]
   ·rw[zbK h8]
  have e0:cut ((min l'.length 8:Nat):Int).toNat (l'.map cI.pv).length (l'.map cI.pv)=(l'.drop 8).map cI.pv:=by
   rw[zaC,xY,<-List.map_drop];congr 1;rcases Nat.le_total l'.length 8 with h8|h8
   ·rw[zas h8,List.drop_length,List.drop_of_length_le h8]
   ·rw[zbK h8]
  obtain⟨g,Xr⟩:∃g,l'.take 8=g:=⟨_,rfl⟩
  have aPl:g.length<=8:=by rw[<-Xr,zal];omega
  have ayz:jL g a:=by
   rw[<-zaD 8 l',oY,Xr]at WU;exact WU.1
  rw[Xr]at V1;refine⟨⟨ab,oP⟩,?_⟩;refine λ_=>?_
  cases out with
  |nil=>
   refine⟨λm2 env σ=>∃g1 g2:List cI,(g1++g2=g/\g2.length=m2)/\σ=aAN []/\env=[(0,.pv (.sl 3 (l'.map cI.pv))),(4,.ref 0 0 0),eN 5 (jH g1 a),(6,.pv (.int .u8 (fa 0 g1))),(7,.pv (.str (fK g1 a))),eN 8 (min l'.length 8:Nat),(19,.pv (.sl 3 (g.map cI.pv))),eN 20 g.length,eN 21 g1.length],g.length,⟨[],g,⟨rfl,rfl⟩,rfl,?_⟩,?_⟩
   ·show[(0,AV.pv (.sl 3 (l'.map cI.pv))),(4,.ref 0 0 0),eN 5 a,(6,.pv (.int .u8 0)),(7,.pv (.str [])),eN 8 (min l'.length 8:Nat),(19,.pv (.sl 3 (cut 0 ((min l'.length 8:Nat):Int).toNat (l'.map cI.pv)))),eN 20 ((cut 0 ((min l'.length 8:Nat):Int).toNat (l'.map cI.pv)).length:Nat),eN 21 0]=_;rw[V1,zav];rfl
   rintro m2 env σ ⟨g1,g2,⟨hg,sL⟩,rfl,rfl⟩;have bB:g1.length+g2.length=g.length:=EZ;refine λb hb=>?_
   rcases cmp hb with⟨rfl,h2⟩|⟨rfl,h2⟩
   ·cases g2 with
    |nil=>simp at bB;omega
    |cons t g2=>
    simp only[zam]at bB;have Eu:vm t (jH g1 a)/\jL g2 (jH g1 a+t.made.toNat):=by
     rw[<-hg,oY]at ayz;exact ayz.2
    have vQ:=ur Eu.1;have Wd:=B6 g1 a;have htB:=Yo t (jH g1 a);have PH:=Ky g1 0;have Ke:2^g1.length<=2^7:=zb8 ab ab;have F0:=zcd g1.length;rw[zaV]at PH;refine⟨t.pv,⟨ab,ajA⟩,?_⟩;refine⟨rfl,?_⟩;have next:∀x:Int,x=(jH g1 a:Int)+t.made->x=(jH (g1++[t]) a:Nat):=by
     intro x hx;rw[U3,hx];simp only[jH];omega
    cases hc:t.copy with
    |true=>
     have hd:t.d≠0:=oW;refine⟨pB true,⟨t,rfl,ep⟩,?_⟩;refine⟨ab,?_⟩;refine λx hx=>?_
     have hx:x=((2^g1.length:Nat):Int):=by
      rw[hx];have e8:min ((g1.length:Int)).toNat IntKind.u8.bits=g1.length:=by
       have:IntKind.u8.bits=8:=rfl;omega
      rw[e8,zcP,show((2:Int)^g1.length)=((2^g1.length:Nat):Int) by simp];exact ZV ab
     subst hx;refine λx hx=>?_
     rw[or8 ab ab,show 2^g1.length=2^g1.length*1 by omega,O7 ab]at hx;refine⟨_,⟨t,jH g1 a,rfl,Eu.1,rfl⟩,?_⟩;refine⟨ab,?_⟩;refine⟨_,⟨t,rfl,rfl⟩,?_⟩;refine λy hy=>?_
     have hy:=next y (dB hy ab)
     subst hy;refine λz hz=>?_
     obtain rfl:=dB hz ab;refine⟨g2.length,QU,g1++[t],g2,⟨sv,rfl⟩,rfl,?_⟩;have e6:x=(fa 0 (g1++[t]):Nat):=by rw[hx,Ar];simp[fa,hd]
     have e7:fK g1 a++B7 t (jH g1 a)=fK (g1++[t]) a:=Qm;have ZD:((g1.length:Int)+1)=((g1++[t]).length:Nat):=aj;rw[e6,e7,ZD]
    |false=>
     have hd:¬t.d≠0:=oW;refine⟨pB false,⟨t,rfl,ep⟩,?_⟩;refine⟨_,⟨t,jH g1 a,rfl,Eu.1,rfl⟩,?_⟩;refine⟨ab,?_⟩;refine⟨_,⟨t,rfl,rfl⟩,?_⟩;refine λy hy=>?_
     have hy:=next y (dB hy ab)
     subst hy;refine λz hz=>?_
     obtain rfl:=dB hz ab;refine⟨g2.length,QU,g1++[t],g2,⟨sv,rfl⟩,rfl,?_⟩;have e6:fa 0 (g1++[t])=fa 0 g1:=by rw[Ar];simp[fa,hd]
     have e7:fK g1 a++B7 t (jH g1 a)=fK (g1++[t]) a:=Qm;have ZD:((g1.length:Int)+1)=((g1++[t]).length:Nat):=aj;rw[e6,e7,ZD]
   ·have mU:g2=[]:=zae ab;subst mU;rw[zbf]at hg;subst hg;have PH:=Ky g1 0;rw[zaV]at PH;have Ke:2^g1.length<=2^8:=zb8 ab ab;have Wd:=B6 g1 a;refine⟨lV (fa 0 g1),?_,.inl ⟨rfl,?_⟩⟩
    ·rw[ue ab,zaC]
    refine⟨fK g1 a,rfl,[]++[lV (fa 0 g1)],ahY,ab,rfl,?_⟩;refine⟨⟨ab,oP⟩,?_⟩;refine⟨(l'.drop 8).length,ef,([]++[lV (fa 0 g1)])++fK g1 a,l'.drop 8,jH g1 a,⟨rfl,?_,ef,?_,λ_=>aj⟩,?_,?_⟩
    ·rw[<-zaD 8 l',oY,Xr]at WU;exact WU.2
    ·rw[cL];rw[gK,if_neg cK,Xr];have e:=RI (l'.drop 8) (jH g1 a) (m-(l'.drop 8).length) (l'.drop 8).length (zai _);rw[zcI ef]at e;rw[e];simp
    ·rfl
    ·show[(0,AV.pv (.sl 3 (cut ((min l'.length 8:Nat):Int).toNat (l'.map cI.pv).length (l'.map cI.pv)))),(4,.ref 0 0 0),eN 5 (jH g1 a)]=_;rw[e0]
  |cons o os=>
   refine⟨λm2 env σ=>∃g1 g2:List cI,(g1++g2=g/\g2.length=m2)/\σ=aAN (o::os)/\env=[(0,.pv (.sl 3 (l'.map cI.pv))),(4,.ref 0 0 0),eN 5 (jH g1 a),(6,.pv (.int .u8 (fa 0 g1))),(7,.pv (.str (fK g1 a))),eN 8 (min l'.length 8:Nat),(19,.pv (.sl 3 (g.map cI.pv))),eN 20 g.length,eN 21 g1.length],g.length,⟨[],g,⟨rfl,rfl⟩,rfl,?_⟩,?_⟩
   ·show[(0,AV.pv (.sl 3 (l'.map cI.pv))),(4,.ref 0 0 0),eN 5 a,(6,.pv (.int .u8 0)),(7,.pv (.str [])),eN 8 (min l'.length 8:Nat),(19,.pv (.sl 3 (cut 0 ((min l'.length 8:Nat):Int).toNat (l'.map cI.pv)))),eN 20 ((cut 0 ((min l'.length 8:Nat):Int).toNat (l'.map cI.pv)).length:Nat),eN 21 0]=_;rw[V1,zav];rfl
   rintro m2 env σ ⟨g1,g2,⟨hg,sL⟩,rfl,rfl⟩;have bB:g1.length+g2.length=g.length:=EZ;refine λb hb=>?_
   rcases cmp hb with⟨rfl,h2⟩|⟨rfl,h2⟩
   ·cases g2 with
    |nil=>simp at bB;omega
    |cons t g2=>
    simp only[zam]at bB;have Eu:vm t (jH g1 a)/\jL g2 (jH g1 a+t.made.toNat):=by
     rw[<-hg,oY]at ayz;exact ayz.2
    have vQ:=ur Eu.1;have Wd:=B6 g1 a;have htB:=Yo t (jH g1 a);have PH:=Ky g1 0;have Ke:2^g1.length<=2^7:=zb8 ab ab;have F0:=zcd g1.length;rw[zaV]at PH;refine⟨t.pv,⟨ab,ajA⟩,?_⟩;refine⟨rfl,?_⟩;have next:∀x:Int,x=(jH g1 a:Int)+t.made->x=(jH (g1++[t]) a:Nat):=by
     intro x hx;rw[U3,hx];simp only[jH];omega
    cases hc:t.copy with
    |true=>
     have hd:t.d≠0:=oW;refine⟨pB true,⟨t,rfl,ep⟩,?_⟩;refine⟨ab,?_⟩;refine λx hx=>?_
     have hx:x=((2^g1.length:Nat):Int):=by
      rw[hx];have e8:min ((g1.length:Int)).toNat IntKind.u8.bits=g1.length:=by
       have:IntKind.u8.bits=8:=rfl;omega
      rw[e8,zcP,show((2:Int)^g1.length)=((2^g1.length:Nat):Int) by simp];exact ZV ab
     subst hx;refine λx hx=>?_
     rw[or8 ab ab,show 2^g1.length=2^g1.length*1 by omega,O7 ab]at hx;refine⟨_,⟨t,jH g1 a,rfl,Eu.1,rfl⟩,?_⟩;refine⟨ab,?_⟩;refine⟨_,⟨t,rfl,rfl⟩,?_⟩;refine λy hy=>?_
     have hy:=next y (dB hy ab)
     subst hy;refine λz hz=>?_
     obtain rfl:=dB hz ab;refine⟨g2.length,QU,g1++[t],g2,⟨sv,rfl⟩,rfl,?_⟩;have e6:x=(fa 0 (g1++[t]):Nat):=by rw[hx,Ar];simp[fa,hd]
     have e7:fK g1 a++B7 t (jH g1 a)=fK (g1++[t]) a:=Qm;have ZD:((g1.length:Int)+1)=((g1++[t]).length:Nat):=aj;rw[e6,e7,ZD]
    |false=>
     have hd:¬t.d≠0:=oW;refine⟨pB false,⟨t,rfl,ep⟩,?_⟩;refine⟨_,⟨t,jH g1 a,rfl,Eu.1,rfl⟩,?_⟩;refine⟨ab,?_⟩;refine⟨_,⟨t,rfl,rfl⟩,?_⟩;refine λy hy=>?_
     have hy:=next y (dB hy ab)
     subst hy;refine λz hz=>?_
     obtain rfl:=dB hz ab;refine⟨g2.length,QU,g1++[t],g2,⟨sv,rfl⟩,rfl,?_⟩;have e6:fa 0 (g1++[t])=fa 0 g1:=by rw[Ar];simp[fa,hd]
     have e7:fK g1 a++B7 t (jH g1 a)=fK (g1++[t]) a:=Qm;have ZD:((g1.length:Int)+1)=((g1++[t]).length:Nat):=aj;rw[e6,e7,ZD]
   ·have mU:g2=[]:=zae ab;subst mU;rw[zbf]at hg;subst hg;have PH:=Ky g1 0;rw[zaV]at PH;have Ke:2^g1.length<=2^8:=zb8 ab ab;have Wd:=B6 g1 a;refine⟨lV (fa 0 g1),?_,.inr ⟨o::os,ab,rfl,?_⟩⟩
    ·rw[ue ab,zaC]
    refine⟨fK g1 a,rfl,(o::os)++[lV (fa 0 g1)],ahY,ab,rfl,?_⟩;refine⟨⟨ab,oP⟩,?_⟩;refine⟨(l'.drop 8).length,ef,((o::os)++[lV (fa 0 g1)])++fK g1 a,l'.drop 8,jH g1 a,⟨rfl,?_,ef,?_,λ_=>aj⟩,?_,?_⟩
    ·rw[<-zaD 8 l',oY,Xr]at WU;exact WU.2
    ·rw[cL];rw[gK,if_neg cK,Xr];have e:=RI (l'.drop 8) (jH g1 a) (m-(l'.drop 8).length) (l'.drop 8).length (zai _);rw[zcI ef]at e;rw[e];simp
    ·rfl
    ·show[(0,AV.pv (.sl 3 (cut ((min l'.length 8:Nat):Int).toNat (l'.map cI.pv).length (l'.map cI.pv)))),(4,.ref 0 0 0),eN 5 (jH g1 a)]=_;rw[e0]
 ·have cK:l'=[]:=zae ab;subst cK;have hb:uK l=out:=by
   rw[cL];cases m with
   |zero=>simp[gK]
   |succ m=>simp[gK]
  rw[hb]at Gt xy;cases out with
  |nil=>exact absurd rfl (avo rfl)
  |cons o os=>
   refine⟨o::os,rfl,rfl,?_⟩;refine λb hb=>?_
   rcases cmp hb with⟨rfl,h2⟩|⟨rfl,h2⟩
   ·exact⟨[.pv _,.pv _],⟨rfl,rfl,trivial⟩,⟨trivial,trivial,trivial⟩,Gt ab⟩
   ·have h3:(o::os).length<=4096:=by omega
    refine⟨o::os,rfl,rfl,?_⟩;refine⟨_,⟨_,true,rfl,by simp only[zam]at h3 ⊢;omega,rfl⟩,?_⟩;refine⟨rfl,o::os,aj,rfl,?_⟩;rw[zaC];refine⟨by simp[B8,JR]at h3 ⊢;omega,?_⟩;exact⟨[.pv (.str _),.pv _],⟨rfl,rfl,trivial⟩,⟨trivial,trivial,trivial⟩,xy h3⟩
def aBT(d:List UInt8)(h:d.length<=4096):∀(m a:Nat),a+m=d.length->jL (qB d (aY d) m a) a:=by
 intro m
 induction m using Nat.strongRecOn with
 |_ m ih=>
  intro a hm;cases m with
  |zero=>trivial
  |succ m=>
   have azI:=Ck d a ab;rw[C9 d m a hm];refine⟨⟨ab,?_⟩,ih _ ab _ ab⟩;unfold mz;split
   ·rename_i cb;have h1:=Q0 d a ab cb;have h2:=Y5 d a _ ab h1.2.1;have h3:=Av d a;have h4:e_ d a<=KK a:=Nat.min_le_left _ _;unfold abj;simp only;rw[if_pos ab];refine⟨trivial,?_,?_,?_,?_,?_⟩<;>omega
   ·unfold Ws;have aU:a<d.length:=ab;have:=(d[a]?.getD 0).toNat_lt;simp only[ne_eq,not_true_eq_false,if_false,true_and];omega
def aas(d:List UInt8)(h:d.length<=4096):jL (Eb d) 0:=aBT d h d.length 0 ab
def af4(d:List UInt8)(h:0<d.length):Eb d≠[]:=by
 unfold Eb;obtain⟨m,hm⟩:∃m,d.length=m+1:=⟨d.length-1,ab⟩
 rw[hm,C9 d m 0 ab];simp
def SX(n:Nat)(b:Bool):(B8 n b).length=2:=rfl
def KJ{g1 g2 l:List cI}{t:cI}(h:g1++t::g2=l){i:Int}(hi:i=g1.length):(l.map cI.pv)[i.toNat]?=some t.pv:=by
 subst h;subst hi;rw[zaC,za9,List.getElem?_append_right (zai _),zck];rfl
def anS(l:List cI)(h:l≠[]):0<(uK l).length:=by
 unfold uK;cases l with
 |nil=>exact kN
 |cons t l=>simp[gK]
def ia(t:cI)(a:Nat):Int:=
 if 4096<=a then 8
 else if t.d≠0 then
  (if t.b≠0 then 3 else if ¬(1<=t.d/\t.d<=a/\3<=t.l/\t.l<=KK a)then 2 else if 4096<a+t.l then 8 else 0)
 else(if t.l≠0 then 3 else if ¬(0<=t.b/\t.b<=255)then 2 else 0)
def L4{t:cI}{a:Nat}:ia t a=0↔vm t a:=by
 unfold ia vm;by_cases h:4096<=a
 ·rw[if_pos h];constructor
  ·intro h;cases h
  ·intro h';omega
 ·rw[if_neg h];by_cases hd:t.d≠0
  ·rw[if_pos hd,if_pos hd];split
   ·constructor
    ·intro h;cases h
    ·intro h';omega
   ·split
    ·constructor
     ·intro h;cases h
     ·intro h';omega
    ·split
     ·constructor
      ·intro h;cases h
      ·intro h';omega
     ·constructor
      ·intro _;omega
      ·intro _;rfl
  ·rw[if_neg hd,if_neg hd];split
   ·constructor
    ·intro h;cases h
    ·intro h';omega
   ·split
    ·constructor
     ·intro h;cases h
     ·intro h';omega
    ·constructor
     ·intro _;omega
     ·intro _;rfl
def dp:List cI->Nat->Nat->Int×Int
 |[],_,_=>(0,0)
 |t::l,i,a=>if ia t a≠0 then((i:Int),ia t a)else dp l (i+1) (a+t.made.toNat)
def nf(l:List cI):Int×Int:=if l=[]then(0,17)else dp l 0 0
def UT:∀(l:List cI) (i a:Nat),(dp l i a).2=0↔jL l a:=by
 intro l
 induction l with
 |nil=>intro i a;simp[dp,jL]
 |cons t l ih=>
  intro i a;unfold dp jL;split
  ·rename_i h;constructor
   ·intro h';exact absurd h' h
   ·intro h';exact absurd (L4.2 h'.1) h
  ·rename_i h;rw[ih];have:=L4.1 (zb6 h);simp[this]
def ada:∀(l:List cI) (i a:Nat),(dp l i a).2=0->(dp l i a).1=0:=by
 intro l
 induction l with
 |nil=>intro i a _;rfl
 |cons t l ih=>
  intro i a h;unfold dp at h ⊢;split
  ·rename_i h';rw[if_pos h']at h;exact absurd h h'
  ·rename_i h';rw[if_neg h']at h;exact ih _ _ h
def Vi{l:List cI}(h:(nf l).2=0):(nf l).1=0/\l≠[]/\jL l 0:=by
 unfold nf at h ⊢;split at h
 ·cases h
 ·rename_i hl;rw[if_neg hl];exact⟨ada _ _ _ h,hl,(UT _ _ _).1 h⟩
def ig:Nat->Nat->List UInt8->List UInt8
 |0,_,out=>out
 |n+1,d,out=>ig n d (out++[out[out.length-d]?.getD 0])
def Jo:∀(n d:Nat) (out:List UInt8),(ig n d out).length=out.length+n:=by
 intro n
 induction n with
 |zero=>intro d out;rfl
 |succ n ih=>intro d out;simp only[ig,ih,zad,zam,List.length_nil];omega
def GP(t:cI)(out:List UInt8):List UInt8:=if t.d≠0 then ig t.l.toNat t.d.toNat out else out++[lV t.b.toNat]
def Em:List cI->List UInt8->List UInt8
 |[],out=>out
 |t::l,out=>Em l (GP t out)
def Ze(l:List cI):List UInt8:=Em l []
def uh{t:cI}{a:Nat}(h:vm t a)(out:List UInt8):(GP t out).length=out.length+t.made.toNat:=by
 unfold vm at h;unfold GP cI.made;split
 ·rw[Jo]
 ·simp
def amM:∀(l:List cI) (out:List UInt8) (a:Nat),jL l a->(Em l out).length+a=out.length+jH l a:=by
 intro l
 induction l with
 |nil=>intro out a _;simp[Em,jH]
 |cons t l ih=>
  intro out a h;obtain⟨h1,h2⟩:=h;have h3:=ih (GP t out) _ h2;have h4:=uh h1 out;simp only[Em,jH];omega
def awL:∀(l:List cI) (a:Nat),jL l a->a<=4096->jH l a<=4096:=by
 intro l
 induction l with
 |nil=>intro a _ h;exact h
 |cons t l ih=>
  intro a h _;have:=ur h.1;exact ih _ h.2 ab
def aN{K:Bool->Prop}(k:K false):∀r:Bool,(r=true↔true=false)->K r:=λr hr=>by
 cases r with
 |false=>exact k
 |true=>exact absurd (hr.1 rfl) ao
def bP{K:Bool->Prop}(k:K true):∀r:Bool,(r=true↔false=false)->K r:=λr hr=>by
 cases r with
 |false=>exact absurd (hr.2 rfl) ao
 |true=>exact k
def wY(ps:List PV)(x:PV):Prop:=∃(t:cI) (a:Nat),ps=[t.pv,pI a]/\a<=4096/\x=pI (ia t a)
def aln(a b:Int):bQ [a,b]=if a=0 then b else a:=by
 show(if a=0 then(if b=0 then 0 else b)else a)=_;by_cases h:b=0
 ·rw[if_pos h,h]
 ·rw[if_neg h]
def ajf(e:Int):dZ true e=0:=rfl
def abz(e:Int):dZ false e=e:=rfl
def ak3{t:cI}{a:Nat}(h:¬(a:Int)<4096):ia t a=8:=by unfold ia;rw[if_pos ab]
def ap3{t:cI}{a:Nat}(h:(a:Int)<4096)(hd:t.d≠0)(hb:t.b≠0):ia t a=3:=by unfold ia;rw[if_neg ab,if_pos hd,if_pos hb]
def aiM{t:cI}{a:Nat}(h:(a:Int)<4096)(hd:t.d≠0)(hb:t.b=0):ia t a=if ¬(1<=t.d/\t.d<=a/\3<=t.l/\t.l<=KK a)then 2 else if 4096<a+t.l then 8 else 0:=by unfold ia;rw[if_neg ab,if_pos hd,if_neg ab]
def aqi{t:cI}{a:Nat}(h:(a:Int)<4096)(hd:¬t.d≠0)(hb:t.l≠0):ia t a=3:=by unfold ia;rw[if_neg ab,if_neg hd,if_pos hb]
def ar5{t:cI}{a:Nat}(h:(a:Int)<4096)(hd:¬t.d≠0)(hb:t.l=0):ia t a=if ¬(0<=t.b/\t.b<=255)then 2 else 0:=by unfold ia;rw[if_neg ab,if_neg hd,if_neg ab]
def Zl:MT (ay [(263,ah cm),(239,ah l5),(238,ah qZ),(294,ah jl),(295,ah fF),(261,ah dW)]) zO (ah wY):=by
 rintro _ K ⟨_,⟨t,a,rfl,ha,rfl⟩,hK⟩;refine⟨ak,?_⟩;refine λb hb=>?_
 refine⟨_,⟨b,8,rfl,rfl⟩,?_⟩;have Wj:= @ak3 t a;cases hc:t.copy with
 |true=>
  have hd:t.d≠0:=oW;refine⟨pB true,⟨t,rfl,ep⟩,?_⟩;refine λe he=>?_
  rcases cmp he with⟨rfl,h1⟩|⟨rfl,h1⟩
  ·refine⟨_,⟨true,3,rfl,rfl⟩,?_⟩;refine⟨rfl,?_⟩;refine⟨_,⟨[dZ b 8,dZ true 3],rfl,rfl⟩,?_⟩;rcases cmp hb with⟨rfl,h⟩|⟨rfl,h⟩
   ·refine λq hq=>?_
    rcases cmp hq with⟨rfl,h2⟩|⟨rfl,h2⟩
    ·exact absurd rfl h2
    refine⟨_,⟨_,_,_,rfl,rfl⟩,?_⟩;refine⟨pB true,⟨t,rfl,ep⟩,?_⟩;refine⟨ak,?_⟩;by_cases h2:1<=t.d/\t.d<=a
    ·refine⟨pB true,⟨_,_,_,rfl,oH iT⟩,?_⟩;refine⟨_,⟨a,rfl,ab,rfl⟩,?_⟩;refine⟨_,⟨_,_,_,rfl,rfl⟩,?_⟩;refine⟨ak,?_⟩;refine⟨_,⟨decide (3<=t.l/\t.l<=zE a),2,rfl,rfl⟩,?_⟩;refine⟨_,⟨t,rfl,rfl⟩,?_⟩;refine λx hx=>?_
     obtain rfl:=dB hx ab;refine λc Cw=>?_
     refine⟨_,⟨c,8,rfl,rfl⟩,?_⟩;refine⟨rfl,?_⟩;refine⟨_,⟨[dZ (decide (3<=t.l/\t.l<=zE a)) 2,dZ c 8],rfl,rfl⟩,?_⟩;refine⟨.pv (pI _),bu ?_,trivial,hK⟩;rw[aln,aiM h hd h1];have hm:t.made=t.l:=Sy;rw[hm]at Cw;unfold zE;rw[zaC];by_cases h3:3<=t.l/\t.l<=(KK a:Int)
     ·rw[decide_eq_true h3,ajf,if_pos rfl,if_neg (λhn=>hn ⟨h2.1,h2.2,h3⟩)];rcases cmp Cw with⟨rfl,h4⟩|⟨rfl,h4⟩
      ·rw[if_neg ab];rfl
      ·rw[if_pos ab];rfl
     ·rw[decide_eq_false h3,abz,if_neg (show ¬(2:Int)=0 by decide),if_pos (λhn=>h3 hn.2.2)]
    ·refine⟨pB false,⟨_,_,_,rfl,oH iT⟩,?_⟩;refine⟨ak,?_⟩;refine⟨_,⟨false,2,rfl,rfl⟩,?_⟩;refine⟨_,⟨t,rfl,rfl⟩,?_⟩;refine λx hx=>?_
     obtain rfl:=dB hx ab;refine λc Cw=>?_
     refine⟨_,⟨c,8,rfl,rfl⟩,?_⟩;refine⟨rfl,?_⟩;refine⟨_,⟨[dZ false 2,dZ c 8],rfl,rfl⟩,?_⟩;refine⟨.pv (pI _),bu ?_,trivial,hK⟩;rw[aln,abz,if_neg ao];rw[aiM h hd h1,if_pos (λhn=>h2 ⟨hn.1,hn.2.1⟩)]
   ·refine λq hq=>?_
    rcases cmp hq with⟨rfl,h2⟩|⟨rfl,h2⟩
    ·refine⟨.pv (pI _),bu ?_,trivial,hK⟩;rw[Wj h];rfl
    ·exact absurd ao h2
  ·refine⟨pB true,⟨t,rfl,ep⟩,?_⟩;refine aN ?_;refine⟨_,⟨false,3,rfl,rfl⟩,?_⟩;refine⟨rfl,?_⟩;refine⟨_,⟨[dZ b 8,dZ false 3],rfl,rfl⟩,?_⟩;refine λq hq=>?_
   rcases cmp hb with⟨rfl,h⟩|⟨rfl,h⟩
   ·rcases cmp hq with⟨rfl,h2⟩|⟨rfl,h2⟩
    ·refine⟨.pv (pI _),bu ?_,trivial,hK⟩;rw[ap3 h hd h1];rfl
    ·exact absurd ao h2
   ·rcases cmp hq with⟨rfl,h2⟩|⟨rfl,h2⟩
    ·refine⟨.pv (pI _),bu ?_,trivial,hK⟩;rw[Wj h];rfl
    ·exact absurd ao h2
 |false=>
  have hd:¬t.d≠0:=oW;have hm:t.made=1:=KM;refine⟨pB false,⟨t,rfl,ep⟩,?_⟩;refine⟨pB false,⟨t,rfl,ep⟩,?_⟩;refine bP ?_;refine λe he=>?_
  refine⟨_,⟨e,3,rfl,rfl⟩,?_⟩;refine⟨rfl,?_⟩;refine⟨_,⟨[dZ b 8,dZ e 3],rfl,rfl⟩,?_⟩;refine λq hq=>?_
  rcases cmp hb with⟨rfl,h⟩|⟨rfl,h⟩
  ·rcases cmp he with⟨rfl,h1⟩|⟨rfl,h1⟩
   ·rcases cmp hq with⟨rfl,h2⟩|⟨rfl,h2⟩
    ·exact absurd rfl h2
    refine⟨_,⟨_,_,_,rfl,rfl⟩,?_⟩;refine⟨pB false,⟨t,rfl,ep⟩,?_⟩;refine⟨ak,?_⟩;refine⟨_,⟨decide (0<=t.b/\t.b<=255),2,rfl,rfl⟩,?_⟩;refine⟨_,⟨t,rfl,rfl⟩,?_⟩;refine λx hx=>?_
    obtain rfl:=dB hx ab;refine λc Cw=>?_
    refine⟨_,⟨c,8,rfl,rfl⟩,?_⟩;refine⟨rfl,?_⟩;refine⟨_,⟨[dZ (decide (0<=t.b/\t.b<=255)) 2,dZ c 8],rfl,rfl⟩,?_⟩;refine⟨.pv (pI _),bu ?_,trivial,hK⟩;rw[hm]at Cw;rw[aln,ar5 h hd h1];by_cases h3:0<=t.b/\t.b<=255
    ·rw[decide_eq_true h3,ajf,if_pos rfl,if_neg (λhn=>hn h3)];rcases cmp Cw with⟨rfl,h4⟩|⟨rfl,h4⟩
     ·rfl
     ·omega
    ·rw[decide_eq_false h3,abz,if_neg (show ¬(2:Int)=0 by decide),if_pos h3]
   ·rcases cmp hq with⟨rfl,h2⟩|⟨rfl,h2⟩
    ·refine⟨.pv (pI _),bu ?_,trivial,hK⟩;rw[aqi h hd h1];rfl
    ·exact absurd ao h2
  ·have h8:bQ [dZ false 8,dZ e 3]=8:=rfl;rcases cmp hq with⟨rfl,h2⟩|⟨rfl,h2⟩
   ·refine⟨.pv (pI _),bu ?_,trivial,hK⟩;rw[Wj h,h8]
   ·exact absurd (by rw[h8];decide) h2
def oZ:Spec:=EM true false λps K=>∃l:List cI,ps=[.sl 3 (l.map cI.pv)]/\l.length<=5000/\K (.tup [.pv (pI (nf l).1),.pv (pI (nf l).2)])
def Qo:MT (ay [(277,ah wY),(261,ah dW)]) vo oZ:=by
 rintro _ K ⟨l,rfl,hl,hK⟩;refine λ_=>?_
 refine λb hb=>?_
 rw[zav]at hb;rcases cmp hb with⟨rfl,h⟩|⟨rfl,h⟩
 ·have:l=[]:=zae ab;subst this;exact K0
 have cb:l≠[]:=by intro e;subst e;exact h rfl
 have hc:nf l=dp l 0 0:=by unfold nf;rw[if_neg cb]
 rw[hc]at hK;refine λ_=>?_
 rw[zav];refine⟨λm env σ=>∃(g1 g2:List cI) (a:Nat),(g1++g2=l/\g2.length=m/\a<=4096/\dp l 0 0=dp g2 g1.length a)/\σ=[]/\env=[eN 4 a,(11,.pv (.sl 3 (l.map cI.pv))),eN 12 l.length,eN 13 g1.length],l.length,⟨[],l,0,⟨rfl,rfl,ab,rfl⟩,rfl,rfl⟩,?_⟩;rintro m env σ ⟨g1,g2,a,⟨hg,hm,ha,cL⟩,rfl,rfl⟩;have bB:g1.length+g2.length=l.length:=EZ;refine λb hb=>?_
 rcases cmp hb with⟨rfl,h2⟩|⟨rfl,h2⟩
 ·cases g2 with
  |nil=>simp at bB;omega
  |cons t g2=>
  simp only[zam]at bB hm;refine⟨_,⟨ab,KJ hg rfl⟩,?_⟩;refine⟨rfl,?_⟩;refine⟨_,⟨t,a,rfl,ha,rfl⟩,?_⟩;refine λb hb=>?_
  rcases cmp hb with⟨rfl,h3⟩|⟨rfl,h3⟩
  ·refine⟨[.pv (pI _),.pv (pI _)],⟨rfl,rfl,trivial⟩,⟨trivial,trivial,trivial⟩,?_⟩;rw[cL,dp,if_pos h3]at hK;exact hK
  ·have di:=L4.1 (zb6 h3);have vQ:=ur di;refine⟨_,⟨t,rfl,rfl⟩,?_⟩;refine λx hx=>?_
   obtain rfl:=dB hx ab;refine λx hx=>?_
   obtain rfl:=dB hx ab;refine⟨g2.length,ab,g1++[t],g2,a+t.made.toNat,⟨sv,rfl,ab,?_⟩,rfl,?_⟩
   ·rw[cL,dp,if_neg h3];simp
   ·rw[show((a+t.made.toNat:Nat):Int)=(a:Int)+t.made by omega,zad];rfl
 ·have:g2=[]:=zae ab;subst this;rw[cL]at hK;exact K0
def HI:∀(k d:Nat) (out:List UInt8),ig (k+1) d out=ig k d out++[(ig k d out)[(ig k d out).length-d]?.getD 0]:=by
 intro k
 induction k with
 |zero=>intro d out;rfl
 |succ k ih=>
  intro d out;show ig (k+1) d (out++[out[out.length-d]?.getD 0])=_;rw[ih];rfl
def tf:Spec:=EM true false λps K=>∃l:List cI,ps=[.sl 3 (l.map cI.pv)]/\jL l 0/\K (.pv (.str (Ze l)))
def Y2:MT (ay [(263,ah cm)]) zI tf:=by
 rintro _ K ⟨l,rfl,di,hK⟩;have hlen:l.length<=4096:=by
  by_cases h:l=[]
  ·subst h;simp
  ·have:=HD l 0 di h;omega
 refine λ_=>?_
 rw[zav];refine⟨λm env σ=>∃(g1 g2:List cI) (out:List UInt8),(g1++g2=l/\g2.length=m/\jL g2 out.length/\out.length<=4096/\Ze l=Em g2 out)/\σ=[.row 5 1 true (out.map aL)]/\env=[(3,.own 0),(6,.pv (.sl 3 (l.map cI.pv))),eN 7 l.length,eN 8 g1.length],l.length,⟨[],l,[],⟨rfl,rfl,di,aj,rfl⟩,rfl,rfl⟩,?_⟩;rintro m env σ ⟨g1,g2,out,⟨hg,hm,UF,avo,cL⟩,rfl,rfl⟩;have bB:g1.length+g2.length=l.length:=EZ;refine λb hb=>?_
 rcases cmp hb with⟨rfl,h2⟩|⟨rfl,h2⟩
 ·cases g2 with
  |nil=>simp at bB;omega
  |cons t g2=>
  simp only[zam]at bB hm;obtain⟨Eu,azM⟩:=UF;have vQ:=ur Eu;have nj:=Eu;unfold vm at nj;refine⟨_,⟨ab,KJ hg rfl⟩,?_⟩;refine⟨rfl,?_⟩;cases hc:t.copy with
  |false=>
   have hd:¬t.d≠0:=oW;have mY:t.made=1:=KM;rw[if_neg hd]at nj;refine⟨pB false,⟨t,rfl,ep⟩,?_⟩;refine bP ?_;refine λx hx=>?_
   rw[Pn]at hx;refine⟨rfl,?_⟩;refine⟨⟨aH,aH⟩,?_⟩;refine λy hy=>?_
   obtain rfl:=dB hy ab;have e:GP t out=out++[lV t.b.toNat]:=by unfold GP;rw[if_neg hd]
   refine⟨g2.length,ab,g1++[t],g2,GP t out,⟨sv,rfl,?_,?_,?_⟩,?_,?_⟩
   ·rw[uh Eu];exact azM
   ·rw[uh Eu];omega
   ·rw[cL];rfl
   ·rw[e,ue (n:=x) ab,zbu,show x.toNat=t.b.toNat by omega];rfl
   ·rw[zad];rfl
  |true=>
   have hd:t.d≠0:=oW;have mY:t.made=t.l:=Sy;rw[if_pos hd]at nj;refine⟨pB true,⟨t,rfl,ep⟩,?_⟩;refine aN ?_;refine⟨λm2 env σ=>∃k:Nat,(k+m2=t.l)/\σ=[.row 5 1 true ((ig k t.d.toNat out).map aL),.box 293 [.pv (pI t.d),.pv (pI t.l),.pv (pI t.b)]]/\env=[(3,.own 0),(5,.ref 1 0 0),(6,.pv (.sl 3 (l.map cI.pv))),eN 7 l.length,eN 8 g1.length,eN 22 t.l,eN 23 k],t.l.toNat,⟨0,ab,rfl,rfl⟩,?_⟩;rintro m2 env σ ⟨k,hk,rfl,rfl⟩;have mE:=Jo k t.d.toNat out;refine λb hb=>?_
   rcases cmp hb with⟨rfl,h3⟩|⟨rfl,h3⟩
   ·refine λ_=>?_
    rw[zav];refine λx hx=>?_
    obtain rfl:=dB hx ab;obtain⟨v,hv⟩:∃v,(ig k t.d.toNat out)[(ig k t.d.toNat out).length-t.d.toNat]?=some v:=qp;refine⟨⟨ab,oP⟩,aL v,?_,?_⟩
    ·rw[za9,show(((ig k t.d.toNat out).length:Int)-t.d).toNat=(ig k t.d.toNat out).length-t.d.toNat by omega,hv];rfl
    refine⟨rfl,?_⟩;refine⟨⟨aH,aH⟩,?_⟩;refine λy hy=>?_
    obtain rfl:=dB hy ab;refine⟨m2-1,ab,k+1,ab,?_,rfl⟩;rw[HI,hv,zbu];rfl
   ·have ek:k=t.l.toNat:=by omega
    subst ek;have e:GP t out=ig t.l.toNat t.d.toNat out:=by unfold GP;rw[if_pos hd]
    refine λy hy=>?_
    obtain rfl:=dB hy ab;refine⟨g2.length,ab,g1++[t],g2,GP t out,⟨sv,rfl,?_,?_,?_⟩,?_,?_⟩
    ·rw[uh Eu];exact azM
    ·rw[uh Eu];omega
    ·rw[cL];rfl
    ·rw[e]
    ·rw[zad];rfl
 ·have:g2=[]:=zae ab;subst this;rw[cL]at hK;refine⟨out,rfl,?_⟩;exact bM
def dD(s:List UInt8):Nat:=(s[0]?.getD 0).toNat+256*(s[1]?.getD 0).toNat
def yd(s:List UInt8):dD s<65536:=by
 have h1:=(s[0]?.getD 0).toNat_lt;have h2:=(s[1]?.getD 0).toNat_lt;unfold dD;omega
def P5(ps:List PV)(x:PV):Prop:=∃s:List UInt8,ps=[.str s]/\2<=s.length/\x=pI (dD s)
def ae4:MT (ay []) Db (ah P5):=by
 rintro _ K ⟨_,⟨s,rfl,hs,rfl⟩,hK⟩;obtain⟨b0,h0⟩:∃b,s[0]?=some b:=qp;obtain⟨b1,h1⟩:∃b,s[1]?=some b:=qp;have l0:=b0.toNat_lt;have l1:=b1.toNat_lt;refine⟨ak,?_⟩;refine⟨_,⟨ab,h0⟩,?_⟩;refine λx hx=>?_
 have hx:=dB hx ab;rw[hx];refine⟨_,⟨ab,h1⟩,?_⟩;refine λy hy=>?_
 have hy:=dB hy ab;rw[hy];refine⟨ab,?_⟩;refine λz hz=>?_
 have e:((b1.toNat:Int).toNat*2^(Int.toNat 8):Nat)=2^8*b1.toNat:=by rw[zaC,Nat.mul_comm];rfl
 rw[at9 ab ab (by rw[e];omega)]at hz;subst hz;refine λq hq=>?_
 rw[e,axa ab ab,O7 ab]at hq;subst hq;refine⟨.pv (pI _),bu ?_,trivial,hK⟩;unfold dD;rw[h0,h1];rfl
def ava{w:Nat}(h:w<65536):w&&&32768≠0↔32768<=w:=by
 have h1:w.testBit 15=decide (w/2^15%2=1):=Nat.testBit_eq_decide_div_mod_eq ..;have e:(32768:Nat)=2^15:=rfl;constructor
 ·intro hn;refine zb6 λaU=>hn ?_
  have h2:w.testBit 15=false:=by rw[h1,decide_eq_false_iff_not];omega
  apply Nat.eq_of_testBit_eq;intro j;rw[e,zcV,zcJ,zcS];by_cases hj:15=j
  ·subst hj;rw[h2];rfl
  ·simp[hj]
 ·intro hle hz;have h2:w.testBit 15=true:=by rw[h1,decide_eq_true_iff];omega
  have h3:(w&&&32768).testBit 15=true:=by rw[e,zcV,zcJ,h2];rfl
  rw[hz,zcS]at h3;cases h3
def abr:Spec:=EM true false λps K=>∃(s:List UInt8) (ex:Bool),ps=[.str s,pB ex]/\s.length<=5000/\
 (s.length<2->K (.tup [.pv (.str []),.pv (pB false),.pv (pI 14)]))/\
 (2<=s.length->(dD s/4096%8≠3->K (.tup [.pv (.str []),.pv (pB (decide (32768<=dD s))),.pv (pI 3)]))/\
   (dD s/4096%8=3->(s.length-2<dD s%4096+1\/(ex=true/\dD s%4096+1<s.length-2)->K (.tup [.pv (.str []),.pv (pB (decide (32768<=dD s))),.pv (pI 10)]))/\
     (¬(s.length-2<dD s%4096+1\/(ex=true/\dD s%4096+1<s.length-2))->K (.tup [.pv (.str ((s.drop 2).take (dD s%4096+1))),.pv (pB (decide (32768<=dD s))),.pv (pI 0)]))))
def afO:MT (ay [(259,ah P5),(239,ah l5)]) C6 abr:=by
 rintro _ K ⟨s,ex,rfl,hs,Gt,xy⟩;refine λb hb=>?_
 rcases cmp hb with⟨rfl,h⟩|⟨rfl,h⟩
 ·exact⟨[.pv (.str _),.pv (pB _),.pv _],⟨rfl,rfl,rfl,trivial⟩,⟨trivial,trivial,trivial,trivial⟩,Gt ab⟩
 have h2:2<=s.length:=ab;have hK:=xy h2;have hw:=yd s;refine⟨_,⟨s,rfl,h2,rfl⟩,?_⟩;refine λx hx=>?_
 rw[show(4095:Int)=((4095:Nat):Int)from rfl,aiF ab ao,show(4095:Nat)=2^12-1 from rfl,PZ]at hx;subst hx;refine λx hx=>?_
 obtain rfl:=dB hx ab;refine⟨ab,?_⟩;have e9:cut (Int.toNat 2) s.length s=s.drop 2:=xY 2 s;refine⟨ab,?_⟩;refine λx hx=>?_
 have hx:x=((dD s/4096:Nat):Int):=by
  rw[hx];show((dD s:Nat):Int).fdiv (2^12)=_;rw[zb7 _ ao];rfl
 subst hx;refine λx hx=>?_
 rw[show(7:Int)=((7:Nat):Int)from rfl,aiF ab ao,show(7:Nat)=2^3-1 from rfl,PZ]at hx;subst hx;refine λb3 rv=>?_
 refine⟨_,⟨b3,3,rfl,rfl⟩,?_⟩;refine λx hx=>?_
 rw[show(32768:Int)=((32768:Nat):Int)from rfl,aiF ab ao]at hx;have zg:=ava (yd s);subst hx;refine λc hc=>?_
 have WQ:c=decide (32768<=dD s):=by
  rw[Bool.eq_iff_iff,hc,decide_eq_true_iff,<-zg];omega
 subst WQ;refine λb hb=>?_
 rcases cmp rv with⟨rfl,h3⟩|⟨rfl,h3⟩
 ·rcases cmp hb with⟨rfl,h⟩|⟨rfl,h⟩
  ·exact kN
  have hK:=hK.2 ab;refine λb hb=>?_
  rw[e9,zax]at hb;rcases cmp hb with⟨rfl,h4⟩|⟨rfl,h4⟩
  ·exact⟨[.pv (.str _),.pv (pB _),.pv _],⟨rfl,rfl,rfl,trivial⟩,⟨trivial,trivial,trivial,trivial⟩,hK.1 (.inl ab)⟩
  have avQ:cut 0 (((dD s%2^12:Nat):Int)+1).toNat (cut (Int.toNat 2) s.length s)=(s.drop 2).take (dD s%4096+1):=by
   rw[e9,XV,show(((dD s%2^12:Nat):Int)+1).toNat=dD s%4096+1 by omega]
  cases ex with
  |false=>
   have hK:=hK.2 (by rintro(h5|⟨h5,_⟩);omega;cases h5);rw[<-avQ]at hK;refine⟨⟨ab,by rw[e9,zax];omega⟩,?_⟩;exact⟨[.pv (.str _),.pv (pB _),.pv _],⟨rfl,rfl,rfl,trivial⟩,⟨trivial,trivial,trivial,trivial⟩,hK⟩
  |true=>
   refine λb hb=>?_
   rw[e9,zax]at hb;rcases cmp hb with⟨rfl,h5⟩|⟨rfl,h5⟩
   ·exact⟨[.pv (.str _),.pv (pB _),.pv _],⟨rfl,rfl,rfl,trivial⟩,⟨trivial,trivial,trivial,trivial⟩,hK.1 (.inr ⟨rfl,ab⟩)⟩
   have hK:=hK.2 (by rintro(h6|⟨_,h6⟩);omega;omega);rw[<-avQ]at hK;refine⟨⟨ab,by rw[e9,zax];omega⟩,?_⟩;exact⟨[.pv (.str _),.pv (pB _),.pv _],⟨rfl,rfl,rfl,trivial⟩,⟨trivial,trivial,trivial,trivial⟩,hK⟩
 ·rcases cmp hb with⟨rfl,h⟩|⟨rfl,h⟩
  ·exact⟨[.pv (.str _),.pv (pB _),.pv _],⟨rfl,rfl,rfl,trivial⟩,⟨trivial,trivial,trivial,trivial⟩,hK.1 ab⟩
  ·exact BZ
def B_(g w:Nat):cI:=⟨((w/2^g+1:Nat):Int),((w%2^g+3:Nat):Int),0⟩
def Wm(s:List UInt8):cI:=⟨0,0,((s[0]?.getD 0).toNat:Int)⟩
def sb(s:List UInt8):Nat:=(s[0]?.getD 0).toNat+256*(s[1]?.getD 0).toNat
def cF(g:Nat->Nat):Nat->Nat->Nat->List UInt8->Nat->Int×List cI
 |0,_,_,_,_=>(0,[])
 |n+1,0,_,s,a=>if s=[]then(0,[])else if s.length=1 then(14,[])else cF g n 8 (s[0]?.getD 0).toNat (s.drop 1) a
 |n+1,left+1,f,s,a=>
  if s=[]then(if f≠0 then(3,[])else(0,[]))
  else if f%2=1 then
   (if s.length<2 then(14,[])else((cF g n left (f/2) (s.drop 2) (a+(B_ (g a) (sb s)).made.toNat)).1,B_ (g a) (sb s)::(cF g n left (f/2) (s.drop 2) (a+(B_ (g a) (sb s)).made.toNat)).2))
  else((cF g n left (f/2) (s.drop 1) (a+1)).1,Wm s::(cF g n left (f/2) (s.drop 1) (a+1)).2)
def amK(g h:Nat->Nat):∀(n left f:Nat) (s:List UInt8) (a b:Nat),(cF g n left f s a).1=(cF h n left f s b).1:=by
 intro n
 induction n with
 |zero=>intro left f s a b;rfl
 |succ n ih=>
  intro left f s a b;cases left with
  |zero=>
   simp only[cF]
   grind
  |succ left=>
   simp only[cF]
   grind
def ZN{t:cI}{a:Nat}(h:4096<=a):ia t a=8:=by unfold ia;omega
def aj_(g h:Nat->Nat)(mX:∀a,a<4096->g a=h a):∀(n left f:Nat) (s:List UInt8) (a i:Nat),dp (cF g n left f s a).2 i a=dp (cF h n left f s a).2 i a/\((dp (cF g n left f s a).2 i a).2=0->(cF g n left f s a).2=(cF h n left f s a).2)/\((cF g n left f s a).2=[]↔(cF h n left f s a).2=[]):=by
 intro n
 induction n with
 |zero=>intro left f s a i;exact RY
 |succ n ih=>
  intro left f s a i;have step:∀(t u:cI) (s':List UInt8),(a<4096->t=u)->
   dp (t::(cF g n left.pred (f/2) s' (a+t.made.toNat)).2) i a=dp (u::(cF h n left.pred (f/2) s' (a+u.made.toNat)).2) i a/\((dp (t::(cF g n left.pred (f/2) s' (a+t.made.toNat)).2) i a).2=0->t::(cF g n left.pred (f/2) s' (a+t.made.toNat)).2=u::(cF h n left.pred (f/2) s' (a+u.made.toNat)).2):=by
   intro t u s' QH;by_cases ha:a<4096
   ·have:=QH ha;subst this;simp only[dp];split
    ·rename_i he;exact⟨rfl,λh0=>absurd h0 he⟩
    ·have h1:=ih left.pred (f/2) s' (a+t.made.toNat) (i+1);exact⟨h1.1,λh0=>by rw[h1.2.1 h0]⟩
   ·simp only[dp,ZN (t:=t) (a:=a) ab,ZN (t:=u) (a:=a) ab];exact⟨rfl,λh0=>by cases h0⟩
  cases left with
  |zero=>
   simp only[cF];split
   ·exact RY
   ·split
    ·exact RY
    ·exact ih _ _ _ _ _
  |succ left=>
   simp only[cF];split
   ·exact⟨rfl,λ_=>by split<;>rfl,by split<;>exact Iff.rfl⟩
   ·split
    ·split
     ·exact RY
     ·have:=step (B_ (g a) (sb s)) (B_ (h a) (sb s)) (s.drop 2) (λha=>by rw[mX a ha]);exact⟨this.1,this.2,aj⟩
    ·have:=step (Wm s) (Wm s) (s.drop 1) (λ_=>rfl);have e:(Wm s).made.toNat=1:=rfl;rw[e]at this;exact⟨this.1,this.2,aj⟩
def IY(g:Nat->Nat)(s:List UInt8):List cI×Int:=
 if (cF g (s.length+1) 0 0 s 0).1≠0 then([],(cF g (s.length+1) 0 0 s 0).1)
 else if (nf (cF g (s.length+1) 0 0 s 0).2).2≠0 then([],(nf (cF g (s.length+1) 0 0 s 0).2).2)else((cF g (s.length+1) 0 0 s 0).2,0)
def aoT(g h:Nat->Nat)(mX:∀a,a<4096->g a=h a)(s:List UInt8):IY g s=IY h s:=by
 have h1:=amK g h (s.length+1) 0 0 s 0 0;have h2:=aj_ g h mX (s.length+1) 0 0 s 0 0;unfold IY;rw[h1];split
 ·rfl
 ·have hc:nf (cF g (s.length+1) 0 0 s 0).2=nf (cF h (s.length+1) 0 0 s 0).2:=by
   unfold nf
   grind
  rw[hc];split
  ·rfl
  ·rename_i h3;have:(dp (cF g (s.length+1) 0 0 s 0).2 0 0).2=0:=by
    unfold nf at h3
    grind
   grind
def aja(g:Nat->Nat):∀(n left f:Nat) (s:List UInt8) (a:Nat),s.length<n->cF g (n+1) left f s a=cF g n left f s a:=by
 intro n
 induction n with
 |zero=>omega
 |succ n ih=>
  intro left f s a h;cases left with
  |zero=>
   rw[cF,cF]
   grind
  |succ left=>
   rw[cF,cF];split
   ·rfl
   ·rename_i hs;have hl:=zcb.2 hs
    grind
def qI(g:Nat->Nat)(left f:Nat)(s:List UInt8)(a:Nat):Int×List cI:=cF g (s.length+1) left f s a
def Ft(g:Nat->Nat)(f a:Nat):qI g 0 f [] a=(0,[]):=by rfl
def Bh(g:Nat->Nat)(left f a:Nat):qI g (left+1) f [] a=if f≠0 then(3,[])else(0,[]):=by rfl
def an9(g:Nat->Nat)(f a:Nat){s:List UInt8}(h:s.length=1):qI g 0 f s a=(14,[]):=by
 unfold qI;rw[cF,if_neg bf,if_pos h]
def OJ(g:Nat->Nat)(f a:Nat){s:List UInt8}(h:2<=s.length):qI g 0 f s a=qI g 8 (s[0]?.getD 0).toNat (s.drop 1) a:=by
 unfold qI;rw[cF,if_neg bf,if_neg ab,zax,show s.length-1+1=s.length by omega]
def Kc(g:Nat->Nat)(left f a:Nat){s:List UInt8}(h:s.length=1)(hf:f%2=1):qI g (left+1) f s a=(14,[]):=by
 unfold qI;rw[cF,if_neg bf,if_pos hf,if_pos ab]
def Mg(g:Nat->Nat)(left f a:Nat){s:List UInt8}(h:2<=s.length)(hf:f%2=1):
 qI g (left+1) f s a=((qI g left (f/2) (s.drop 2) (a+(B_ (g a) (sb s)).made.toNat)).1,B_ (g a) (sb s)::(qI g left (f/2) (s.drop 2) (a+(B_ (g a) (sb s)).made.toNat)).2):=by
 unfold qI;rw[cF,if_neg bf,if_pos hf,if_neg ab,zax];rw[<-aja g (s.length-2+1) left (f/2) (s.drop 2) _ aj,show s.length-2+1+1=s.length by omega]
def PT(g:Nat->Nat)(left f a:Nat){s:List UInt8}(h:1<=s.length)(hf:¬f%2=1):
 qI g (left+1) f s a=((qI g left (f/2) (s.drop 1) (a+1)).1,Wm s::(qI g left (f/2) (s.drop 1) (a+1)).2):=by
 unfold qI;rw[cF,if_neg bf,if_neg hf,zax,show s.length-1+1=s.length by omega]
def rW(g:Nat->Nat)(s:List UInt8):IY g s=if (qI g 0 0 s 0).1≠0 then([],(qI g 0 0 s 0).1)else if (nf (qI g 0 0 s 0).2).2≠0 then([],(nf (qI g 0 0 s 0).2).2)else((qI g 0 0 s 0).2,0):=rfl
def kg(g:Nat->Nat)(s0:List UInt8)(acc:List cI)(left f:Nat)(s:List UInt8)(a:Nat):Prop:=
 qI g 0 0 s0 0=((qI g left f s a).1,acc++(qI g left f s a).2)
def cV(a:Nat):Nat:=if a<4096 then 16-dh a else 16
def qW(a:Nat):Nat:=16-dh (min a 4095)
def aB6(a:Nat)(h:a<4096):cV a=qW a:=by unfold cV qW;grind
def awv(a:Nat):4<=qW a/\qW a<=12:=by
 have h1:=lC (a:=min a 4095) ab;have h2:=wJ (min a 4095);unfold qW;omega
def apE(g:Nat->Nat)(l f a:Nat)(hf:f%2=0)(hl:f<2^(l+1)):qI g (l+1) f [] a=qI g l (f/2) [] a:=by
 cases l with
 |zero=>rw[Bh,Ft,if_neg (by simp at hl;omega)]
 |succ l=>
  rw[Bh,Bh];by_cases h:f=0
  ·subst h;rfl
  ·rw[if_pos h,if_pos ab]
def S4:Spec:=EM true false λps K=>∃s:List UInt8,ps=[.str s]/\s.length<=5000/\K (.tup [.fresh 293 3 ((IY qW s).1.map cI.pv),.pv (pI (IY qW s).2)])
set_option maxHeartbeats 1000000 in
def afI:MT (ay [(260,ah rU),(259,ah P5),(261,ah dW),(262,oZ)]) Ds S4:=by
 rintro _ K ⟨s0,rfl,lK,hK⟩;refine⟨λm env σ=>∃(acc:List cI) (f a:Nat) (s:List UInt8),(s.length=m/\acc.length+s.length<=s0.length/\a<=70000*acc.length/\kg qW s0 acc 0 f s a)/\σ=[.row 293 3 true (acc.map cI.pv)]/\env=[(0,.pv (.str s)),(4,.own 0),eN 5 a],s0.length,⟨[],0,0,s0,⟨rfl,aj,aj,by unfold kg;simp⟩,rfl,rfl⟩,?_⟩;rintro m env σ ⟨acc,f,a,s,⟨hm,kf,rE,pO⟩,rfl,rfl⟩;refine λb hb=>?_
 rcases cmp hb with⟨rfl,cb⟩|⟨rfl,cb⟩
 ·have Gq:0<s.length:=zcb.2 cb;obtain⟨fb,eH⟩:∃v,s[0]?=some v:=by rw[zah Gq];exact⟨_,rfl⟩
  have SL:=fb.toNat_lt;have uF:cut (Int.toNat 1) s.length s=s.drop 1:=xY 1 s;refine⟨_,⟨ab,eH⟩,?_⟩;refine⟨ab,?_⟩;refine λb hb=>?_
  rw[uF]at hb;rcases cmp hb with⟨rfl,he⟩|⟨rfl,he⟩
  ·have pj:s.length=1:=by
    have:(s.drop 1).length=0:=by rw[he];rfl
    rw[zax]at this;omega
   have h1:=an9 qW f a pj;unfold kg at pO;rw[h1]at pO;rw[rW,pO]at hK;dsimp only at hK;rw[if_pos ao]at hK;exact uG
  have cH:2<=s.length:=by
   have:0<(s.drop 1).length:=zcb.2 he;rw[zax]at this;omega
  have pO:kg qW s0 acc 8 (fb.toNat/2^0) (s.drop 1) a:=by
   unfold kg at pO ⊢;rw[OJ qW f a cH,eH]at pO;simpa using pO
  refine⟨λm2 env σ=>∃(acc:List cI) (a k:Nat) (q:List UInt8),(k+m2=8/\q.length<m/\acc.length+q.length<=s0.length/\a<=70000*acc.length/\kg qW s0 acc (8-k) (fb.toNat/2^k) q a)/\σ=[.row 293 3 true (acc.map cI.pv)]/\env=[(0,.pv (.str q)),(4,.own 0),eN 5 a,(6,.pv (aL fb)),eN 22 k],8,⟨acc,a,0,s.drop 1,⟨rfl,ef,ef,rE,pO⟩,rfl,?_⟩,?_⟩
  ·show[(0,AV.pv (.str (cut (Int.toNat 1) s.length s))),(4,.own 0),eN 5 a,(6,.pv (aL fb)),eN 22 0]=_;rw[uF];rfl
  clear pO rE kf eH cH uF;rintro m2 env σ ⟨acc,a,k,q,⟨hk,hqm,kf,rE,pO⟩,rfl,rfl⟩;refine λb hb=>?_
  rcases cmp hb with⟨rfl,hk8⟩|⟨rfl,hk8⟩
  ·obtain⟨l,hl⟩:∃l,8-k=l+1:=⟨7-k,ab⟩
   have cK:8-(k+1)=l:=ab;have Wp:fb.toNat/2^(k+1)=fb.toNat/2^k/2:=by rw[zcp,zcM]
   have aKV:fb.toNat/2^k<2^(l+1):=by
    rw[Nat.div_lt_iff_lt_mul (zcd k),<-zcs,show l+1+k=8 by omega];omega
   have aPo:fb.toNat/2^k<=fb.toNat:=zcW _ _;rw[hl]at pO;refine⟨ab,?_⟩;refine λx hx=>?_
   have hx:x=((fb.toNat/2^k:Nat):Int):=by
    rw[hx];have e8:min ((k:Int)).toNat IntKind.u8.bits=k:=by
     have:IntKind.u8.bits=8:=rfl;omega
    rw[e8,show((2:Int)^k)=((2^k:Nat):Int) by simp,zb7 _ (zcl _)];rfl
   subst hx;generalize fb.toNat/2^k=fk at*;refine λx hx=>?_
   rw[show(1:Int)=((1:Nat):Int)from rfl,aJu ab ao,show(1:Nat)=2^1-1 from rfl,PZ]at hx;subst hx;refine λb hb=>?_
   rcases cmp hb with⟨rfl,hq⟩|⟨rfl,hq⟩
   ·subst hq;refine λb hb=>?_
    rcases cmp hb with⟨rfl,pD⟩|⟨rfl,pD⟩
    ·unfold kg at pO;rw[Bh,if_pos ab]at pO;rw[rW,pO]at hK;dsimp only at hK;rw[if_pos ao]at hK;exact uG
    ·refine λy hy=>?_
     have hy:=dB hy ab;rw[hy];refine⟨m2-1,ab,acc,a,k+1,[],⟨ab,hqm,kf,rE,?_⟩,rfl,rfl⟩;unfold kg at pO ⊢;rw[cK,Wp,pO,apE qW l fk a ab aKV]
   ·have hqp:0<q.length:=zcb.2 hq;obtain⟨v,hv⟩:∃v,q[0]?=some v:=by rw[zah hqp];exact⟨_,rfl⟩
    have Ja:=v.toNat_lt;have avS:Wm q=⟨0,0,(v.toNat:Int)⟩:=by unfold Wm;rw[hv];rfl
    have uF:cut (Int.toNat 1) q.length q=q.drop 1:=xY 1 q;refine⟨_,⟨ab,hv⟩,?_⟩;refine λy hy=>?_
    have hy:=dB hy ab;rw[hy];refine⟨rfl,?_⟩;refine⟨rfl,?_⟩;refine λb hb=>?_
    rcases cmp hb with⟨rfl,pD⟩|⟨rfl,pD⟩
    ·have akB:fk%2=1:=by omega
     refine λb t_=>?_
     rcases cmp t_ with⟨rfl,dV⟩|⟨rfl,dV⟩
     ·have h1:=Kc qW l fk a (s:=q) ab akB;unfold kg at pO;rw[h1]at pO;rw[rW,pO]at hK;dsimp only at hK;rw[if_pos ao]at hK;exact uG
     have fM:=Mg qW l fk a (s:=q) ab akB;unfold kg at pO;rw[fM]at pO;have hwl:sb q<65536:=yd _;have wq:dD q=sb q:=rfl;have hg:=awv a;refine λx hx=>?_
     have hx:x=((min a 4095:Nat):Int):=ab;subst hx;refine⟨_,⟨_,rfl,⟨ab,ab⟩,rfl⟩,?_⟩;unfold pY;rw[zaC];refine λy hy=>?_
     have hgs:qW a=16-dh (min a 4095):=rfl;have hs:=lC (a:=min a 4095) ab;have hy:=dB hy ab;have hy:y=(qW a:Nat):=ab;subst hy;refine⟨_,⟨q,rfl,ab,rfl⟩,?_⟩;rw[wq];generalize sb q=w at*;have Kk:=zcd (qW a);have aPq:2^qW a<=2^12:=zb8 ab ab;have qG:w/2^qW a<=w:=zcW _ _;have hpm:w%2^qW a<=w:=Nat.mod_le _ _;have PE:B_ (qW a) w=⟨((w/2^qW a:Nat):Int)+1,((w%2^qW a:Nat):Int)+3,0⟩:=rfl;obtain⟨qq,Wu⟩:∃x,w/2^qW a=x:=⟨_,rfl⟩
     obtain⟨r,hr⟩:∃x,w%2^qW a=x:=⟨_,rfl⟩
     rw[Wu,hr]at PE;rw[Wu]at qG;rw[hr]at hpm;refine⟨ak,?_⟩;refine⟨ab,?_⟩;refine λy hy=>?_
     have hy:y=(qq:Int):=by
      rw[hy];have e8:min ((qW a:Nat):Int).toNat IntKind.i64.bits=qW a:=by
       have:IntKind.i64.bits=64:=rfl;omega
      rw[e8,show((2:Int)^qW a)=((2^qW a:Nat):Int) by simp,zb7 _ (zcl _),<-Wu];rfl
     subst hy;refine λy hy=>?_
     have hy:=dB hy ab;rw[hy];refine⟨ab,?_⟩;refine λy hy=>?_
     have hy:y=((2^qW a:Nat):Int):=by
      rw[at9 ab ab (by rw[zaC];simp;omega)]at hy;rw[hy,zaC];simp
     subst hy;refine λy hy=>?_
     have hy:=dB hy ab;have hy:y=((2^qW a-1:Nat):Int):=ab;subst hy;refine λy hy=>?_
     rw[aiF ab ab,PZ,hr]at hy;subst hy;refine λy hy=>?_
     have hy:=dB hy ab;rw[hy];refine⟨rfl,?_⟩;refine⟨rfl,?_⟩;refine⟨rfl,?_⟩;have lL:(⟨(qq:Int)+1,(r:Int)+3,0⟩:cI).made=(r:Int)+3:=by
      unfold cI.made;rw[if_pos (show(qq:Int)+1≠0 by omega)]
     rw[PE,lL,show((r:Int)+3).toNat=r+3 by omega]at pO;refine⟨ab,?_⟩;have aPr:(q.drop 1).length=q.length-1:=zax;have WE:cut (Int.toNat 1) (q.drop 1).length (q.drop 1)=q.drop 2:=by rw[show cut (Int.toNat 1) (q.drop 1).length (q.drop 1)=(q.drop 1).drop 1 from xY 1 _,zaQ]
     refine⟨by rw[uF];omega,?_⟩;refine⟨rfl,?_⟩;refine⟨⟨aH,aH⟩,?_⟩;refine⟨_,⟨(⟨(qq:Int)+1,(r:Int)+3,0⟩:cI),rfl,rfl⟩,?_⟩;rw[lL];refine λy hy=>?_
     have hy:=dB hy ab;rw[hy];refine λy hy=>?_
     have hy:=dB hy ab;rw[hy];refine⟨m2-1,ab,acc++[(⟨(qq:Int)+1,(r:Int)+3,0⟩:cI)],a+(r+3),k+1,q.drop 2,⟨ab,ef,ahy,fP,?_⟩,?_,?_⟩
     ·unfold kg;rw[cK,Wp,pO];simp
     ·rw[zbu];rfl
     ·show[(0,AV.pv (.str (cut (Int.toNat 1) (cut (Int.toNat 1) q.length q).length (cut (Int.toNat 1) q.length q)))),(4,.own 0),eN 5 ((a:Int)+((r:Int)+3)),(6,.pv (aL fb)),eN 22 ((k:Int)+1)]=_;rw[uF,WE,show((a+(r+3):Nat):Int)=(a:Int)+((r:Int)+3) by omega];rfl
    ·have sO:¬fk%2=1:=by omega
     have fM:=PT qW l fk a (s:=q) ab sO;unfold kg at pO;rw[fM,avS]at pO;refine⟨ab,?_⟩;refine⟨rfl,?_⟩;refine⟨⟨aH,aH⟩,?_⟩;refine⟨_,⟨(⟨0,0,(v.toNat:Int)⟩:cI),rfl,rfl⟩,?_⟩;have mY:(⟨0,0,(v.toNat:Int)⟩:cI).made=1:=rfl;rw[mY];refine λy hy=>?_
     have hy:=dB hy ab;rw[hy];refine λy hy=>?_
     have hy:=dB hy ab;rw[hy];refine⟨m2-1,ab,acc++[(⟨0,0,(v.toNat:Int)⟩:cI)],a+1,k+1,q.drop 1,⟨ab,ef,ahy,fP,?_⟩,?_,?_⟩
     ·unfold kg;rw[cK,Wp,pO];simp
     ·rw[zbu];rfl
     ·show[(0,AV.pv (.str (cut (Int.toNat 1) q.length q))),(4,.own 0),eN 5 ((a:Int)+1),(6,.pv (aL fb)),eN 22 ((k:Int)+1)]=_;rw[uF];rfl
  ·have hk:k=8:=by omega
   subst hk;refine⟨q.length,ab,acc,fb.toNat/2^8,a,q,⟨rfl,kf,rE,pO⟩,rfl,rfl⟩
 ·have:s=[]:=zb6 cb;subst this;unfold kg at pO;rw[Ft]at pO;rw[rW,pO]at hK;dsimp only at hK;rw[if_neg ao,zbf]at hK;refine⟨acc,rfl,by simp at kf;omega,?_⟩;refine λb hb=>?_
  rcases cmp hb with⟨rfl,h⟩|⟨rfl,h⟩
  ·rw[if_pos h]at hK;exact uG
  ·rw[if_neg h]at hK;exact⟨[.fresh _ _ _,.pv _],⟨⟨rfl,rfl,rfl,rfl⟩,rfl,trivial⟩,⟨Ui _,trivial,trivial⟩,hK⟩
def aoj{g:Nat->Nat}{s:List UInt8}(h:(IY g s).2=0):jL (IY g s).1 0:=by
 unfold IY at h ⊢;split at h
 ·rename_i h1;exact absurd h h1
 ·rename_i h1;rw[if_neg h1];split at h
  ·rename_i h2;exact absurd h h2
  ·rename_i h2;rw[if_neg h2];exact(Vi (zb6 h2)).2.2
def ai(n:Nat):List UInt8:=List.replicate n 0
def Zh:∀n,alf [0] n=ai n:=by
 intro n
 induction n with
 |zero=>rfl
 |succ n ih=>show[0]++alf [0] n=_;rw[ih];rfl
def Xs(ps:List PV)(x:PV):Prop:=∃n:Int,ps=[pI n]/\(0<=n/\n<=200000)/\x=.str (ai n.toNat)
def akb:MT (ay []) Ha (ah Xs):=by
 rintro _ K ⟨_,⟨n,rfl,h,rfl⟩,hK⟩;refine λx hx=>?_
 refine λy hy=>?_
 have hy:y=n:=ab;rw[hy];refine⟨ab,?_⟩;refine⟨ai n.toNat,?_,?_⟩
 ·unfold ai;rw[zcm];rfl
 exact bM
def Xj(ps:List PV)(x:PV):Prop:=∃n:Int,ps=[pI n]/\(0<=n/\n<=200000)/\x=.str (ai n.toNat)
def aiO:MT (ay [(131,ah Lo)]) Ev (ah Xj):=by
 rintro _ K ⟨_,⟨n,rfl,h,rfl⟩,hK⟩;refine⟨_,⟨[0],n,rfl,aH,rfl⟩,?_⟩;refine⟨.pv (.str _),?_,trivial,hK⟩;show PV.str (ai n.toNat)=PV.str (alf [0] n.toNat);rw[Zh]
def GS(ps:List PV)(x:PV):Prop:=∃n:Int,ps=[pI n]/\(0<=n/\n<=1000000)/\x=pI ((n+255)/256)
def YU:MT (ay []) zx (ah GS):=by
 rintro _ K ⟨_,⟨n,rfl,h,rfl⟩,hK⟩;refine λx hx=>?_
 have hx:=dB hx ab;rw[hx];refine λx hx=>?_
 have hx:=dB hx ab;rw[hx];refine⟨ao,?_⟩;refine λx hx=>?_
 rw[zce ab]at hx;have hx:=dB hx ab;rw[hx];refine⟨.pv (pI _),bu ?_,trivial,hK⟩;omega
def aW(n:Nat):(ai n).length=n:=by simp[ai]
def al2(s:List UInt8):List UInt8:=s++ai ((-(s.length:Int))%256).toNat
def j_(u:List UInt8):List UInt8:=
 if u=ai u.length then[]
 else if (uK (Eb u)).length<=4096/\((uK (Eb u)).length+2+255)/256*256<4096 then al2 (B8 (uK (Eb u)).length true++uK (Eb u))else u
def Hp:Spec:=EM true false λps K=>∃u:List UInt8,ps=[.str u]/\u.length<=100000/\(u.length≠4096->K (.tup [.pv (.str []),.pv (pI 10)]))/\(u.length=4096->K (.tup [.pv (.str (j_ u)),.pv (pI 0)]))
def aag:MT (ay [(236,ah Xj),(268,Um),(267,afy),(242,ah GS)]) zu Hp:=by
 rintro _ K ⟨u,rfl,Vr,Gt,xy⟩;refine λb hb=>?_
 rcases cmp hb with⟨rfl,h⟩|⟨rfl,h⟩
 ·exact⟨[.pv (.str _),.pv _],⟨rfl,rfl,trivial⟩,⟨trivial,trivial,trivial⟩,Gt ab⟩
 have hu:u.length=4096:=ab;have hK:=xy hu;clear Gt xy;unfold j_ at hK;have hb:=Vh (Eb u).length (Eb u) 0;have hl:=HD _ 0 (aas u ab) (af4 u ab);have cq:=anS _ (af4 u ab);have e:gK (Eb u).length (Eb u) 0=uK (Eb u):=rfl;rw[e]at hb;refine⟨_,⟨_,rfl,ab,rfl⟩,?_⟩;rw[zaC];refine λb hb=>?_
 rcases cmp hb with⟨rfl,hz⟩|⟨rfl,hz⟩
 ·rw[if_pos hz]at hK;exact dA
 rw[if_neg hz]at hK;refine⟨u,rfl,ab,?_⟩;refine⟨Eb u,rfl,⟨af4 u ab,aas u ab⟩,λh5=>?_,λh5=>?_⟩
 ·rw[if_neg ab]at hK;refine⟨_,⟨_,rfl,aj,rfl⟩,?_⟩;refine λx hx=>?_
  have hx:=dB hx aj;rw[hx];refine λb hb=>?_
  rcases cmp hb with⟨rfl,h⟩|⟨rfl,h⟩
  case inr=>exact BZ
  exact dA
 ·generalize uK (Eb u)=bd at*;have Gn:(B8 bd.length true++bd).length=bd.length+2:=by rw[zad,SX];omega
  refine⟨_,⟨_,rfl,by rw[Gn];omega,rfl⟩,?_⟩;rw[Gn];refine λx hx=>?_
  have hx:=dB hx ab;rw[hx];refine λb hb=>?_
  rcases cmp hb with⟨rfl,h⟩|⟨rfl,h⟩
  case inl=>exact kN
  refine λb hb=>?_
  rcases cmp hb with⟨rfl,h⟩|⟨rfl,h⟩
  ·rw[if_neg ab]at hK;exact dA
  ·rw[if_pos ab]at hK;refine λx hx=>?_
   rw[Gn]at hx;have hx:=dB hx ab;rw[hx];refine⟨_,⟨_,rfl,ab,rfl⟩,?_⟩;refine⟨by rw[Gn,aW];omega,?_⟩;refine⟨[.pv (.str _),.pv _],⟨rfl,rfl,trivial⟩,⟨trivial,trivial,trivial⟩,?_⟩;unfold al2 at hK;rw[Gn]at hK;rw[show((-((bd.length+2:Nat):Int))%256).toNat=(((bd.length+2:Nat)+255:Int)/256*256-(bd.length+2:Nat)).toNat by omega]at hK;exact hK
def b9(s:List UInt8):List UInt8×Int:=
 if 4096<s.length\/s.length%256≠0 then([],10)
 else if s.length=0 then(ai 4096,0)
 else if s.length=4096 then(s,0)
 else if dD s/4096%8≠3 then([],3)
 else if dD s<32768 then([],15)
 else if s.length-2<dD s%4096+1 then([],10)
 else if (IY cV ((s.drop 2).take (dD s%4096+1))).2≠0 then([],(IY cV ((s.drop 2).take (dD s%4096+1))).2)
 else if (Ze (IY cV ((s.drop 2).take (dD s%4096+1))).1).length≠4096 then([],10)
 else if s.drop (2+(dD s%4096+1))≠ai (s.length-(2+(dD s%4096+1)))\/256<=s.length-(2+(dD s%4096+1))then([],3)
 else(Ze (IY cV ((s.drop 2).take (dD s%4096+1))).1,0)
def By:Spec:=EM true false λps K=>∃s:List UInt8,ps=[.str s]/\s.length<=5000/\K (.tup [.pv (.str (b9 s).1),.pv (pI (b9 s).2)])
def anM{l:List cI}(h:jL l 0):(Ze l).length<=4096:=by
 have h1:=amM l [] 0 h;have h2:=awL l 0 h ab;unfold Ze;simp at h1;omega
set_option maxHeartbeats 1000000 in
def To:MT (ay [(236,ah Xj),(237,abr),(239,ah l5),(238,ah qZ),(240,S4),(241,tf),(242,ah GS)]) wb By:=by
 rintro _ K ⟨s,rfl,hs,hK⟩;have hw:=yd s;unfold b9 at hK;refine λb hb=>?_
 rcases cmp hb with⟨rfl,h1⟩|⟨rfl,h1⟩
 ·rw[if_pos (.inl ab)]at hK;exact dA
 refine⟨ao,?_⟩;refine λx hx=>?_
 rw[zci ab]at hx;rw[hx];refine λb hb=>?_
 rcases cmp hb with⟨rfl,h2⟩|⟨rfl,h2⟩
 ·rw[if_pos (.inr ab)]at hK;exact dA
 rw[if_neg (by rintro(h|h);omega;omega)]at hK;refine λb hb=>?_
 rcases cmp hb with⟨rfl,h3⟩|⟨rfl,h3⟩
 ·rw[if_pos ab]at hK;refine⟨_,⟨4096,rfl,ab,rfl⟩,?_⟩;exact dA
 rw[if_neg ab]at hK;refine λb hb=>?_
 rcases cmp hb with⟨rfl,h4⟩|⟨rfl,h4⟩
 ·rw[if_pos ab]at hK;exact dA
 rw[if_neg ab]at hK;refine⟨s,false,rfl,hs,λh=>ab,λcH=>⟨λh5=>?_,λh5=>⟨λh6=>?_,λh6=>?_⟩⟩⟩
 ·rw[if_pos h5]at hK;refine λb hb=>?_
  rcases cmp hb with⟨rfl,h⟩|⟨rfl,h⟩
  ·exact absurd h ao
  refine λb hb=>?_
  rcases cmp hb with⟨rfl,h⟩|⟨rfl,h⟩
  ·exact absurd h ao
  refine λb hb=>?_
  rcases cmp hb with⟨rfl,h⟩|⟨rfl,h⟩
  ·exact dA
  ·exact BZ
 ·have h6:s.length-2<dD s%4096+1:=by
   rcases h6 with h6|⟨h6,_⟩
   ·exact h6
   ·cases h6
  rw[if_neg ab]at hK;refine λb hb=>?_
  rcases cmp hb with⟨rfl,h⟩|⟨rfl,h⟩
  ·exact absurd h ao
  refine λb hb=>?_
  rcases cmp hb with⟨rfl,h⟩|⟨rfl,h⟩
  case inr=>exact kN
  refine⟨_,⟨decide (32768<=dD s),15,rfl,rfl⟩,?_⟩;refine⟨rfl,?_⟩;refine⟨_,⟨[dZ (decide (32768<=dD s)) 15,10],rfl,rfl⟩,?_⟩;refine λb hb=>?_
  by_cases hp:32768<=dD s
  ·rw[decide_eq_true hp]at hb ⊢;rw[if_neg ab,if_pos h6]at hK;rcases cmp hb with⟨rfl,h⟩|⟨rfl,h⟩
   ·exact dA
   ·exact BZ
  ·rw[decide_eq_false hp]at hb ⊢;rw[if_pos ab]at hK;rcases cmp hb with⟨rfl,h⟩|⟨rfl,h⟩
   ·exact dA
   ·exact BZ
 ·have h6:¬s.length-2<dD s%4096+1:=λh=>h6 (.inl h)
  rw[if_neg ab]at hK;refine λb hb=>?_
  rcases cmp hb with⟨rfl,h⟩|⟨rfl,h⟩
  case inr=>exact kN
  refine⟨_,⟨decide (32768<=dD s),15,rfl,rfl⟩,?_⟩;refine⟨rfl,?_⟩;refine⟨_,⟨[dZ (decide (32768<=dD s)) 15,0],rfl,rfl⟩,?_⟩;refine λb hb=>?_
  by_cases hp:32768<=dD s
  case neg=>
   rw[decide_eq_false hp]at hb ⊢;rw[if_pos ab]at hK;rcases cmp hb with⟨rfl,h⟩|⟨rfl,h⟩
   ·exact dA
   ·exact BZ
  rw[decide_eq_true hp]at hb;rw[if_neg ab,if_neg h6]at hK;rcases cmp hb with⟨rfl,h⟩|⟨rfl,h⟩
  ·exact kN
  generalize cM:dD s%4096+1=c at*;have Wq:((s.drop 2).take c).length=c:=Rb;refine⟨_,rfl,by rw[Wq];omega,?_⟩;rw[<-aoT cV qW aB6];refine λb hb=>?_
  rcases cmp hb with⟨rfl,h7⟩|⟨rfl,h7⟩
  ·rw[if_pos h7]at hK;exact dA
  rw[if_neg h7]at hK;have di:=aoj (zb6 h7);have lj:=anM di;refine⟨_,rfl,di,?_⟩;generalize Ze (IY cV ((s.drop 2).take c)).1=ex at*;refine λy hy=>?_
  rw[Wq]at hy;have hy:=dB hy ab;have hy:y=((2+c:Nat):Int):=ab;subst hy;have aeS:cut ((2+c:Nat):Int).toNat s.length s=s.drop (2+c):=by rw[zaC,xY]
  refine⟨ak,?_⟩;refine λb1 eE=>?_
  refine⟨_,⟨b1,10,rfl,rfl⟩,?_⟩;refine⟨ab,?_⟩;refine λy hy=>?_
  have hy:=dB hy ab;have hy:y=((s.length-(2+c):Nat):Int):=ab;subst hy;refine⟨_,⟨_,rfl,ab,rfl⟩,?_⟩;refine λb2 t_=>?_
  rw[aeS,zaC]at t_;have fin:∀b3:Bool,(b3=true↔¬(s.drop (2+c)≠ai (s.length-(2+c))\/256<=s.length-(2+c)))->(if bQ [dZ b1 10,dZ b3 3]≠0 then K (.tup [.pv (.str []),.pv (pI (bQ [dZ b1 10,dZ b3 3]))])else K (.tup [.pv (.str ex),.pv (pI 0)])):=by
   intro b3 rv;rcases cmp eE with⟨rfl,h8⟩|⟨rfl,h8⟩
   ·rw[if_neg ab]at hK;rcases cmp rv with⟨rfl,h9⟩|⟨rfl,h9⟩
    ·rw[if_neg h9]at hK;rw[if_neg ao];exact hK
    ·rw[if_pos (zb6 h9)]at hK;rw[if_pos ao];exact hK
   ·rw[if_pos ab]at hK;have r5:bQ [dZ false 10,dZ b3 3]=10:=rfl;rw[r5,if_pos ao];exact hK
  rcases cmp t_ with⟨rfl,hz⟩|⟨rfl,hz⟩
  ·refine⟨_,⟨_,rfl,ab,rfl⟩,?_⟩;refine⟨ao,?_⟩;refine λy hy=>?_
   rw[zce ab]at hy;have hy:=dB hy ab;rw[hy];refine λb3 rv=>?_
   have hf:=fin b3 (by
    rw[rv];constructor
    ·rintro h (h'|h')
     ·exact h' hz
     ·omega
    ·intro h;have:¬256<=s.length-(2+c):=λh'=>h (.inr h')
     omega)
   refine⟨_,⟨b3,3,rfl,rfl⟩,?_⟩;refine⟨rfl,?_⟩;refine⟨_,⟨[dZ b1 10,dZ b3 3],rfl,rfl⟩,?_⟩;refine λb hb=>?_
   rcases cmp hb with⟨rfl,h⟩|⟨rfl,h⟩
   ·rw[if_pos h]at hf;exact Qs
   ·rw[if_neg h]at hf;exact Qs
  ·have hf:=fin false (by
    constructor
    ·intro h;cases h
    ·intro h;exact absurd (.inl hz) h)
   refine⟨_,⟨false,3,rfl,rfl⟩,?_⟩;refine⟨rfl,?_⟩;refine⟨_,⟨[dZ b1 10,dZ false 3],rfl,rfl⟩,?_⟩;refine λb hb=>?_
   rcases cmp hb with⟨rfl,h⟩|⟨rfl,h⟩
   ·rw[if_pos h]at hf;exact Qs
   ·rw[if_neg h]at hf;exact Qs
end Go.Dv.Try
namespace Go.Dv.Try
structure Rn where
 s:Int
 n:Int
deriving DecidableEq
def zh(l:List Rn)(i:Int):List Rn:=
 match l[l.length-1]? with
 |some r=>if r.s+r.n=i then l.set (l.length-1) ⟨r.s,r.n+1⟩else l++[⟨i,1⟩]
 |none=>l++[⟨i,1⟩]
def bh(p:Nat->Bool):Nat->List Rn
 |0=>[]
 |n+1=>if p n then zh (bh p n) n else bh p n
def G9(i:Int):zh [] i=[⟨i,1⟩]:=rfl
def xz(l:List Rn)(r:Rn)(i:Int):zh (l++[r]) i=if r.s+r.n=i then l++[⟨r.s,r.n+1⟩]else l++[r]++[⟨i,1⟩]:=by
 unfold zh;simp only[zad,List.length_singleton,zcg,List.getElem?_concat_length];split
 ·rw[zcF _ _ ab];simp
 ·rfl
def So(l:List Rn):l=[]∨∃a r,l=a++[r]:=by
 rcases List.eq_nil_or_concat l with h|⟨a,r,h⟩
 ·exact .inl h
 ·exact .inr ⟨a,r,ky⟩
def kI(p:Nat->Bool):∀n:Nat,(∀r∈bh p n,0<=r.s/\1<=r.n/\r.s+r.n<=n)/\(bh p n).length<=n/\
 ((∃a r,bh p n=a++[r]/\r.s+r.n=(n:Int))↔0<n/\p (n-1)=true):=by
 intro n
 induction n with
 |zero=>refine⟨by simp[bh],zai _,?_⟩;simp[bh]
 |succ n ih=>
  obtain⟨h1,h2,h3⟩:=ih;unfold bh;cases hp:p n with
  |false=>
   simp only[zcn,if_false];refine⟨λr hr=>by have:=h1 r hr;omega,ab,?_⟩;simp only[zcg,hp,zcn,and_false,iff_false];rintro⟨a,r,e,h⟩;have:=h1 r (by rw[e];simp);omega
  |true=>
   simp only[if_true];simp only[zcg,hp,and_true,Nat.zero_lt_succ,iff_true];rcases So (bh p n)with e|⟨a,r,e⟩
   ·rw[e,G9];refine⟨λr hr=>?_,aj,[],_,rfl,aj⟩;simp at hr;subst hr;simp
   ·rw[e,xz];have hr:=h1 r (by rw[e];simp);have hl:(a++[r]).length<=n:=by rw[<-e];exact h2
    simp at hl;split
    ·refine⟨λx hx=>?_,aH,a,_,rfl,aH⟩;rcases zaA.1 hx with hx|hx
     ·have:=h1 x (by rw[e];simp[hx]);omega
     ·simp at hx;subst hx;simp;omega
    ·refine⟨λx hx=>?_,aH,a++[r],_,rfl,aj⟩;rcases zaA.1 hx with hx|hx
     ·have:=h1 x (by rw[e];exact hx);omega
     ·simp at hx;subst hx;simp
def amu{l:List Rn}{r:Rn}{i:Int}(h:l[l.length-1]?=some r)(he:r.s+r.n=i):zh l i=l.set (l.length-1) ⟨r.s,r.n+1⟩:=by
 unfold zh;rw[h];simp[he]
def XO{l:List Rn}{i:Int}(h:∀r,l[l.length-1]?=some r->r.s+r.n≠i):zh l i=l++[⟨i,1⟩]:=by
 unfold zh;split
 ·rename_i r e;rw[if_neg (h r e)]
 ·rfl
def bH(s:List UInt8)(i:Nat):Nat:=(s[i/8]?.getD 0).toNat/2^(i%8)%2
def mK(s:List UInt8)(i:Nat):bH s i<=1:=by unfold bH;omega
def Po(x:UInt8)(k v:Nat):UInt8:=UInt8.ofNat (x.toNat-x.toNat/2^k%2*2^k+v*2^k)
def ug(x:UInt8){k v:Nat}(hk:k<8)(hv:v<=1):(Po x k v).toNat=x.toNat-x.toNat/2^k%2*2^k+v*2^k:=by
 have hx:=x.toNat_lt;unfold Po;rw[UInt8.toNat_ofNat'];apply zcv;generalize x.toNat=n at*;have h1:k=0\/k=1\/k=2\/k=3\/k=4\/k=5\/k=6\/k=7:=ab;have h2:v=0\/v=1:=ab;rcases h1 with rfl|rfl|rfl|rfl|rfl|rfl|rfl|rfl<;>rcases h2 with rfl|rfl<;>simp only[Nat.reducePow]<;>omega
def alw(x:UInt8){k v j:Nat}(hk:k<8)(hv:v<=1)(hj:j<8):(Po x k v).toNat/2^j%2=if j=k then v else x.toNat/2^j%2:=by
 have hx:=x.toNat_lt;rw[ug x hk hv];generalize x.toNat=n at*;have h1:k=0\/k=1\/k=2\/k=3\/k=4\/k=5\/k=6\/k=7:=ab;have h2:v=0\/v=1:=ab;have h3:j=0\/j=1\/j=2\/j=3\/j=4\/j=5\/j=6\/j=7:=ab;rcases h1 with rfl|rfl|rfl|rfl|rfl|rfl|rfl|rfl<;>rcases h2 with rfl|rfl<;>rcases h3 with rfl|rfl|rfl|rfl|rfl|rfl|rfl|rfl<;>simp only[Nat.reducePow]<;>simp<;>omega
def aau(b:List UInt8)(i v:Nat):List UInt8:=b.set (i/8) (Po (b[i/8]?.getD 0) (i%8) v)
@[simp] theorem aFK (b:List UInt8) (i v:Nat):(aau b i v).length=b.length:=by simp[aau]
def ate{b:List UInt8}{i v:Nat}(hi:i<8*b.length)(hv:v<=1)(j:Nat):bH (aau b i v) j=if j=i then v else bH b j:=by
 unfold bH aau;by_cases h:j/8=i/8
 ·rw[h,List.getElem?_set_self ab,zbA,alw _ ab hv ab];by_cases h2:j=i
  ·subst h2;simp
  ·rw[if_neg ab,if_neg h2]
 ·rw[zcG ab,if_neg ab]
def oF(s:List UInt8):Nat->Nat
 |0=>0
 |n+1=>oF s n+bH s n
def sj(s:List UInt8)(n:Nat):List Int:=(List.range n).map λi=>((bH s i:Nat):Int)
@[simp] theorem L9 (s:List UInt8) (n:Nat):(sj s n).length=n:=by simp[sj]
def ael{s:List UInt8}{n i:Nat}(h:i<n):(sj s n)[i]?=some ((bH s i:Nat):Int):=by simp[sj,h]
def Ou(n i:Nat):bH (ai n) i=0:=by
 unfold bH ai;rw[zcz];split<;>simp
end Go.Dv.Try
namespace Go.Dv.Try
open Go.Dv
def Nj(f:Nat->Nat)(z:List UInt8):Nat->List UInt8
 |0=>z
 |k+1=>aau (Nj f z k) k (f k)
def qO(n:Nat):Nat:=(n+7)/8
def VA(f:Nat->Nat)(n:Nat):List UInt8:=Nj f (ai (qO n)) n
def Rw(f:Nat->Nat)(z:List UInt8):∀k,(Nj f z k).length=z.length:=by
 intro k
 induction k with
 |zero=>rfl
 |succ k ih=>simp[Nj,ih]
def Z_{f:Nat->Nat}{z:List UInt8}(hf:∀i,f i<=1):∀k,k<=8*z.length→∀j,bH (Nj f z k) j=if j<k then f j else bH z j:=by
 intro k
 induction k with
 |zero=>intro _ j;simp[Nj]
 |succ k ih=>
  intro hk j;simp only[Nj];rw[ate (by rw[Rw];omega) (hf k),ih ab];by_cases h:j=k
  ·subst h;simp
  ·rw[if_neg h];by_cases h2:j<k
   ·rw[if_pos h2,if_pos ab]
   ·rw[if_neg h2,if_neg ab]
def azh(n:Int)(r:Rn):Prop:=(0<=r.s/\r.s<=n-1)/\1<=r.n/\r.n<=n-r.s
instance (n:Int) (r:Rn):Decidable (azh n r):=by unfold azh;infer_instance
def bI(l:List Rn):Int:=(l.map λr=>r.n).sum
@[simp] theorem aGk:bI []=0:=rfl
end Go.Dv.Try
namespace Go.Dv.Try
open Go Go.Dv
def lz(ps:List PV)(x:PV):Prop:=∃n lo hi:Int,ps=[pI n,pI lo,pI hi]/\x=pB (decide (lo<=n/\n<=hi))
def bG(ps:List PV)(p:Prop):Prop:=∃n lo hi:Int,ps=[pI n,pI lo,pI hi]/\p=(lo<=n/\n<=hi)
def M7:MT (ay []) ze (ah lz):=by
 rintro _ K ⟨_,⟨n,lo,hi,rfl,rfl⟩,hK⟩;refine λb hb=>?_
 rcases cmp hb with⟨rfl,h⟩|⟨rfl,h⟩
 ·refine λb hb=>?_
  refine⟨.pv (pB _),oH ?_,trivial,hK⟩;rw[decide_eq_true_iff,hb];omega
 ·refine⟨.pv (pB _),oH ?_,trivial,hK⟩;rw[decide_eq_true_iff];simp only[zcn,iff_false];omega
def jw(ps:List PV)(x:PV):Prop:=∃(ok:Bool) (e:Int),ps=[pB ok,pI e]/\x=pI (dZ ok e)
def Nc:MT (ay []) Ig (ah jw):=by
 rintro _ K ⟨_,⟨ok,e,rfl,rfl⟩,hK⟩;cases ok with
 |true=>exact aG
 |false=>exact aG
def YF(ps:List PV)(x:PV):Prop:=∃l:List Int,ps=[.sl 1 (l.map pI)]/\x=pI (bQ l)
def OR:MT (ay []) Bv (ah YF):=by
 rintro _ K ⟨_,⟨l,rfl,rfl⟩,hK⟩;refine λhl=>?_
 rw[zav]at hl;refine⟨λm env σ=>∃n:Nat,(n+m=l.length∧∀j,j<n->l[j]?=some 0)/\σ=[]/\env=[(5,.pv (.sl 1 (l.map pI))),eN 6 ((l.map pI).length:Nat),eN 7 n],l.length,⟨0,⟨ab,λj hj=>ab⟩,rfl,rfl⟩,?_⟩;rintro m env σ ⟨n,⟨hn,h0⟩,rfl,rfl⟩;refine λb hb=>?_
 rw[zav]at hb;rcases cmp hb with⟨rfl,h⟩|⟨rfl,h⟩
 ·have aU:n<l.length:=by omega
  refine⟨pI l[n],⟨ab,?_⟩,?_⟩
  ·show(l.map pI)[n]?=some (pI l[n]);simp[aU]
  refine λb hb=>?_
  rcases cmp hb with⟨rfl,h⟩|⟨rfl,h⟩
  ·refine⟨.pv (pI _),bu ?_,trivial,hK⟩;rw[ke l n h0,zcj aU];simp[bQ,h]
  ·refine λx hx=>?_
   replace hx:=dB hx ab;subst hx;refine⟨m-1,ab,n+1,⟨ab,λj hj=>?_⟩,rfl,rfl⟩;by_cases nd:j<n
   ·exact h0 j nd
   ·have:j=n:=by omega
    subst this;rw[zah aU];simpa using h
 ·refine⟨.pv (pI _),bu ?_,trivial,hK⟩;rw[ke l n h0,zcc ab];rfl
def sx(n:Int):Int:=(n+7)/8
def ae6(ps:List PV)(x:PV):Prop:=∃n:Int,ps=[pI n]/\(0<=n/\n<=1000000000)/\x=pI (sx n)
def amE:MT (ay []) Oc (ah ae6):=by
 rintro _ K ⟨_,⟨n,rfl,h,rfl⟩,hK⟩;refine λx hx=>?_
 have hx:=dB hx ab;rw[hx];refine λx hx=>?_
 have hx:=dB hx ab;rw[hx];refine⟨ao,?_⟩;refine λx hx=>?_
 rw[zce ab]at hx;have hx:=dB hx ab;rw[hx];refine⟨.pv (pI _),bu ?_,trivial,hK⟩;unfold sx;omega
def fx(n:Int):Int:=if 0<=n/\n<=4096 then 0 else 2
def nu(s:List UInt8)(n:Int):Int:=
 if fx n≠0 then fx n else if (s.length:Int)≠sx n then 10 else if ∀i,i<8*s.length->n.toNat<=i->bH s i=0 then 0 else 3
def HN(ps:List PV)(x:PV):Prop:=∃(s:List UInt8) (n:Int),ps=[.str s,pI n]/\s.length<=1000000/\x=pI (nu s n)
def atA{v:Nat}(hv:v<256):∀m k:Nat,k+m=8->(∀r,k<=r->r<8->v/2^r%2=0)->v/2^k=0:=by
 intro m
 induction m with
 |zero=>
  intro k hk _;have:k=8:=ab;subst this;exact Nat.div_eq_of_lt ab
 |succ m ih=>
  intro k hk h;have h1:=ih (k+1) ab (λr h1 h2=>h r ab h2);have h2:=h k (zai _) ab;rw[zcM,<-zcp]at h1;omega
def axe{s:List UInt8}{n:Nat}(hl:s.length=(n+7)/8):(∀i,i<8*s.length->n<=i->bH s i=0)↔(n%8=0\/(s[s.length-1]?.getD 0).toNat/2^(n%8)=0):=by
 have hv:=(s[s.length-1]?.getD 0).toNat_lt;constructor
 ·intro h;by_cases h8:n%8=0
  ·exact .inl h8
  refine .inr (atA hv (8-n%8) (n%8) ab λr h1 h2=>?_);have:=h (n/8*8+r) ab ab;unfold bH at this;rw[show(n/8*8+r)/8=s.length-1 by omega,show(n/8*8+r)%8=r by omega]at this;exact this
 ·intro h i hi WI;rcases h with h|h
  ·omega
  by_cases h8:n%8=0
  ·omega
  unfold bH;rw[show i/8=s.length-1 by omega];have e:2^(i%8)=2^(n%8)*2^(i%8-n%8):=by rw[<-zcs];congr 1;omega
  rw[e,<-zcp,h];simp
def PQ:MT (ay [(170,ah lz),(171,ah ae6),(172,ah jw)]) xX (ah HN):=by
 rintro _ K ⟨_,⟨s,n,rfl,hs,rfl⟩,hK⟩;unfold nu at hK;by_cases hn:0<=n/\n<=4096
 case neg=>
  refine⟨pB false,⟨_,_,_,rfl,oH (by simpa using hn)⟩,?_⟩;refine λb hb=>?_
  rcases cmp hb with⟨rfl,h⟩|⟨rfl,h⟩
  case inr=>exact kN
  have e:fx n=2:=by unfold fx;rw[if_neg hn]
  rw[e,if_pos ao]at hK;exact aG
 refine⟨pB true,⟨_,_,_,rfl,oH (by simpa using hn)⟩,?_⟩;refine λb hb=>?_
 rcases cmp hb with⟨rfl,h⟩|⟨rfl,h⟩
 ·cases h
 have e:fx n=0:=by unfold fx;rw[if_pos hn]
 rw[e,if_neg ao]at hK;refine⟨_,⟨n,rfl,ab,rfl⟩,?_⟩;refine λb hb=>?_
 rcases cmp hb with⟨rfl,h2⟩|⟨rfl,h2⟩
 ·rw[if_pos h2]at hK;exact aG
 rw[if_neg h2]at hK;have hl:(s.length:Int)=sx n:=zb6 h2;unfold sx at hl;have Gn:=axe (s:=s) (n:=n.toNat) ab;refine⟨ao,?_⟩;refine λx hx=>?_
 rw[zci ab]at hx;have hx:x=((n.toNat%8:Nat):Int):=ab;subst hx;refine λb hb=>?_
 rcases cmp hb with⟨rfl,h3⟩|⟨rfl,h3⟩
 ·rw[if_pos (Gn.2 (.inl ab))]at hK;refine⟨_,⟨true,3,rfl,rfl⟩,?_⟩;exact aG
 ·obtain⟨v,hv⟩:∃v,s[s.length-1]?=some v:=by rw[zah ab];exact⟨_,rfl⟩
  rw[hv]at Gn;simp only[zbA]at Gn;refine λx hx=>?_
  have hx:=dB hx ab;rw[hx];refine⟨_,⟨ab,by rw[show((s.length:Int)-1).toNat=s.length-1 by omega];exact hv⟩,?_⟩;refine⟨ab,?_⟩;refine λy hy=>?_
  have hy:y=((v.toNat/2^(n.toNat%8):Nat):Int):=by
   rw[hy];have e8:min ((n.toNat%8:Nat):Int).toNat IntKind.u8.bits=n.toNat%8:=by
    have:IntKind.u8.bits=8:=rfl;omega
   rw[e8,show((2:Int)^(n.toNat%8))=((2^(n.toNat%8):Nat):Int) by simp,zb7 _ (zcl _)];rfl
  subst hy;refine λb hb=>?_
  rcases cmp hb with⟨rfl,h4⟩|⟨rfl,h4⟩
  ·rw[if_pos (Gn.2 (.inr ab))]at hK;refine⟨_,⟨true,3,rfl,rfl⟩,?_⟩;exact aG
  ·rw[if_neg (λh5=>by rcases Gn.1 h5 with h6|h6;omega;exact h4 (by rw[h6];rfl))]at hK;refine⟨_,⟨false,3,rfl,rfl⟩,?_⟩;exact aG
def Rn.pv(r:Rn):PV:=.agg [pI r.s,pI r.n]
def bD(l:List Rn):∀x∈l.map Rn.pv,x.flat:=by
 intro x hx;obtain⟨t,_,rfl⟩:=zaX.1 hx;simp[Rn.pv,PV.flat,PV.one,PV.au_]
def acU:MT (ay []) ze (bF bG):=by
 rintro _ K ⟨_,⟨n,lo,hi,rfl,rfl⟩,hK⟩
 (repeat'(refine iM ?_;first|refine de (λ_=>?_) (λ_=>?_)|fail))<;>try(conv=>whnf)
 all_goals exact kQ
def acX:MT (ay []) xg (bF bG):=by
 rintro _ K ⟨_,⟨n,lo,hi,rfl,rfl⟩,hK⟩
 (repeat'(refine iM ?_;first|refine de (λ_=>?_) (λ_=>?_)|fail))<;>try(conv=>whnf)
 all_goals exact kQ
def awJ(ps:List PV)(x:PV):Prop:=∃(B:List UInt8) (n i:Int),ps=[.agg [.sl 1 (B.map aL),pI n],pI i]/\(0<=i/\i<8*B.length/\B.length<=1000000)/\x=pI (bH B i.toNat)
def as7:MT (ay []) AR (ah awJ):=by
 rintro _ K ⟨_,⟨B,n,i,rfl,⟨h1,h2,h3⟩,rfl⟩,hK⟩
 (repeat'(refine iM ?_;first|refine bj ab ?_|refine l7 ab ?_|refine lW ab ?_|refine SHR ao ab (λ_=>?_)|refine aJn ab (λ_ _ _=>?_)|refine aGr ab ?_|fail))<;>try(conv=>whnf)
 rename_i x hx vR hq;have e:bH B i.toNat=x.toNat/2^(i%8).toNat%2:=by
  unfold bH;rw[show i.toNat/8=(i/8).toNat by omega,show i.toNat%8=(i%8).toNat by omega,hx];rfl
 rw[e]at hK;exact aG
def afd:Spec:=EM false false λps K=>∃(s:List UInt8) (n:Int),ps=[.str s,pI n]/\s.length<=1000000/\K (.tup [.agg [.row 5 1 (s.map aL),.pv (pI n)],.pv (pI (nu s n))])
def alR:MT (ay [(125,ah HN)]) NM afd:=by
 rintro _ K ⟨s,n,rfl,h,hK⟩
 (repeat'(refine iM ?_;first|refine bT ?_|refine⟨_,⟨_,_,rfl,cU,rfl⟩,?_⟩|refine wz ?_|fail))<;>try(conv=>whnf)
 exact⟨[.agg [.row _ _ _,.pv _],.pv (pI _)],⟨⟨⟨rfl,rfl,rfl⟩,rfl,trivial⟩,rfl,trivial⟩,trivial,hK⟩
def Bb(B:List UInt8)(n:Int):PV:=.agg [.sl 1 (B.map aL),pI n]
def Af(ps:List PV)(p:Prop):Prop:=∃(B:List UInt8) (n i v:Int),ps=[pI i,.cptr (Bb B n),.cptr (pI v)]/\(0<=i/\i<8*B.length/\B.length<=1000000)/\p=((bH B i.toNat:Int)=v)
def TS:MT (ay [(175,ah awJ)]) pW (bF Af):=by
 rintro _ K ⟨_,⟨B,n,i,v,rfl,⟨h1,h2,h3⟩,rfl⟩,hK⟩
 (repeat'(refine iM ?_;first|refine de (λ_=>?_) (λ_=>?_)|refine bT ?_|refine⟨_,⟨_,_,_,rfl,cU,rfl⟩,?_⟩|fail))<;>try(conv=>whnf)
 all_goals exact kQ
def jf(B:List UInt8)(v:Int)(i:Nat):Bool:=decide ((bH B i:Int)=v)
def mg(p:Nat->Bool)(n:Nat):List PV:=(bh p n).map Rn.pv
def TU{p:Nat->Bool}{n:Nat}{x y:Rn}(hp:p n=true)(h:(bh p n)[(((bh p n).length:Nat):Int).toNat-1]?=some x)(he:x.s+x.n=n)(hy:x=y):((bh p n).map Rn.pv).set ((((bh p n).length:Nat):Int)-1).toNat (.agg [pI y.s,pI (y.n+1)])=mg p (n+1):=by
 subst hy;rw[zaC]at h;have e:bh p (n+1)=(bh p n).set ((bh p n).length-1) ⟨x.s,x.n+1⟩:=by
  show(if p n then zh (bh p n) n else bh p n)=_;rw[if_pos hp,amu h he]
 unfold mg;rw[e,show((((bh p n).length:Nat):Int)-1).toNat=(bh p n).length-1 by omega,List.map_set];rfl
def Kv{p:Nat->Bool}{n:Nat}(hp:p n=true)(h:∀x,(bh p n)[(bh p n).length-1]?=some x->x.s+x.n≠n):(bh p n).map Rn.pv++[.agg [pI n,pI 1]]=mg p (n+1):=by
 have e:bh p (n+1)=bh p n++[⟨n,1⟩]:=by
  show(if p n then zh (bh p n) n else bh p n)=_;rw[if_pos hp,XO h]
 unfold mg;rw[e,zbu];rfl
def ags{p:Nat->Bool}{n:Nat}(hp:p n=false):bh p (n+1)=bh p n:=by
 show(if p n then zh (bh p n) n else bh p n)=_;rw[hp];rfl
def amN:Spec:=EM true false λps K=>
 (∃(B:List UInt8) (n:Nat) (v:Int),ps=[Bb B n,.clo 290 [.cptr (Bb B n),.cptr (pI v)]]/\(n<=8*B.length/\B.length<=1000000)/\K (.fresh 37 2 (mg (jf B v) n)))
def akQ:MT (ay [(290,bF Af)]) yo amN:=by
 rintro _ K ⟨B,n,v,rfl,⟨h1,h2⟩,hK⟩
 ·refine⟨λm env σ=>∃i:Nat,i+m=n/\σ=[.row 37 2 true (mg (jf B v) i)]/\env=[(1,.pv (.clo 290 [.cptr (Bb B n),.cptr (pI v)])),(5,.own 0),eN 9 n,eN 10 i],n,⟨0,ab,rfl,rfl⟩,?_⟩;rintro m env σ ⟨i,hi,rfl,rfl⟩;obtain⟨hr,hl,_⟩:=kI (jf B v) i;unfold mg
  (repeat'(refine iM ?_;first|refine bj ab ?_|refine aN ?_|refine bP ?_|refine de (λ_=>?_) (λ_=>?_)|refine dq λ_=>?_|refine Q3 ab ?_|refine aFO aA ab (λ_ _ _=>?_)|refine bT ?_|refine⟨_,⟨_,_,_,_,rfl,cU,rfl⟩,?_⟩|refine zcB cu ?_|fail))<;>try(conv=>whnf)
  ·rename_i hb hn x hx _ y hy _ he z hz _ u hu _;have e1:x=y:=Option.some.inj (hx.symm.trans hy);have e2:x=z:=Option.some.inj (hx.symm.trans hz);have e3:x=u:=Option.some.inj (hx.symm.trans hu);subst e1 e2 e3;have hp:jf B v i=true:=RD;exact⟨m-1,ab,i+1,ab,congrArg (λl=>[dC.row _ _ _ l]) (TU hp abb he rfl),rfl⟩
  ·rename_i hb hn x hx _ y hy _ he;have e1:x=y:=Option.some.inj (hx.symm.trans hy);subst e1;have hp:jf B v i=true:=RD;refine⟨m-1,ab,i+1,ab,congrArg (λl=>[dC.row _ _ _ l]) (Kv hp λu hu=>?_),rfl⟩;rw[show(bh (jf B v) i).length-1=(((bh (jf B v) i).length:Int)-1).toNat by omega,hx]at hu;rw[<-Option.some.inj hu];exact he
  ·rename_i hb hn;have hp:jf B v i=true:=RD;refine⟨m-1,ab,i+1,ab,congrArg (λl=>[dC.row _ _ _ l]) (Kv hp λu hu=>?_),rfl⟩;rw[zaK ab]at hu;cases hu
  ·rename_i hb;have hp:jf B v i=false:=RD;refine⟨m-1,ab,i+1,ab,?_,rfl⟩;rw[ags hp]
  ·have:i=n:=by omega
   subst this;exact vj
def FQ:Spec:=EM true false λps K=>∃(B:List UInt8) (n v:Int),ps=[Bb B n,pI v]/\(0<=n/\n<=8*B.length/\B.length<=1000000)/\K (.fresh 37 2 (mg (jf B v) n.toNat))
def ade:MT (ay [(289,amN),(290,bF Af)]) tC FQ:=by
 rintro _ K ⟨B,n,v,rfl,⟨h0,h1,h2⟩,hK⟩;obtain⟨n,rfl⟩:∃k:Nat,n=k:=⟨n.toNat,ab⟩
 (conv=>whnf)
 refine⟨B,n,v,rfl,ab,?_⟩
 (conv=>whnf)
 exact vj
def BX:Spec:=EM true true λps K=>∃a b:Int,ps=[.sl 1 [pI a,pI b]]/\(a≠0->K (.pv (pI a)))/\(a=0->K (.pv (pI b)))
def agS:MT (ay []) Bv BX:=by
 rintro _ K ⟨a,b,rfl,h1,h2⟩;refine OR _ K ⟨_,⟨[a,b],rfl,rfl⟩,?_⟩;by_cases ha:a=0
 ·subst ha;by_cases hb:b=0<;>simpa[bQ,hb]using h2 rfl
 ·simpa[bQ,ha]using h1 ha
def ac0(e:Int)(p:Prop)[Decidable p]:Int:=if e≠0 then e else if p then 0 else 2
def iR{s:List UInt8}{n:Int}(h:nu s n=0):0<=n/\n<=4096/\n<=8*s.length/\(s.length:Int)=sx n∧∀i,i<8*s.length->n.toNat<=i->bH s i=0:=by
 unfold nu fx at h;by_cases h1:0<=n/\n<=4096
 case neg=>simp[h1]at h
 rw[if_pos h1]at h;simp only[ne_eq,not_true_eq_false,if_false]at h;by_cases h2:(s.length:Int)≠sx n
 ·rw[if_pos h2]at h;cases h
 rw[if_neg h2]at h;have h3:(s.length:Int)=sx n:=zb6 h2;refine⟨h1.1,h1.2,by unfold sx at h3;omega,h3,?_⟩;split at h
 ·assumption
 ·cases h
def aqn(s:List UInt8)(n a:Int):Int:=if ac0 (nu s n) (0<=a/\a<=n-1)=0 then bH s a.toNat else 0
def XF:Spec:=EM true false λps K=>∃(s:List UInt8) (n a:Int),ps=[.str s,pI n,pI a]/\s.length<=1000000/\K (.tup [.pv (pI (aqn s n a)),.pv (pI (ac0 (nu s n) (0<=a/\a<=n-1)))])
def ahs:MT (ay [(173,afd),(174,BX),(172,ah jw),(170,bF bG),(175,ah awJ)]) Lm XF:=by
 rintro _ K ⟨s,n,a,rfl,h,hK⟩;unfold aqn at hK;have di:= @iR s n;by_cases he:nu s n=0
 ·obtain⟨h1,h2,h3,h4,h5⟩:=di he
  (repeat'(refine iM ?_;first|refine bj ab ?_|refine au ao ?_|refine aw ao ?_|refine de (λ_=>?_) (λ_=>?_)|refine bT ?_|refine⟨_,⟨_,_,rfl,rfl⟩,?_⟩|refine⟨_,⟨_,_,_,rfl,rfl⟩,?_⟩|refine⟨_,⟨_,_,_,rfl,cU,rfl⟩,?_⟩|refine⟨_,_,rfl,λh=>absurd h ab,λ_=>?_⟩|refine⟨_,_,rfl,cU,?_⟩|fail))<;>try(conv=>whnf)
  all_goals simp[ac0, *]at hK
  all_goals(refine⟨_,?_,?_,hK⟩<;>repeat'(first|exact rfl|exact trivial|exact bD _|exact dn _|exact cr|refine⟨?_,?_⟩))
 ·(repeat'(refine iM ?_;first|refine au ab ?_|refine de (λ_=>?_) (λ_=>?_)|refine bT ?_|refine⟨_,⟨_,_,rfl,rfl⟩,?_⟩|refine⟨_,⟨_,_,_,rfl,rfl⟩,?_⟩|refine⟨_,_,rfl,λ_=>?_,λh=>absurd h ab⟩|refine⟨_,_,rfl,cU,?_⟩|refine aJH (λ_=>?_)|fail))<;>try(conv=>whnf)
  all_goals simp[ac0, *]at hK
  all_goals(refine⟨_,?_,?_,hK⟩<;>repeat'(first|exact rfl|exact trivial|exact bD _|exact dn _|exact cr|refine⟨?_,?_⟩))
def agu:Spec:=EM false false λps K=>∃n:Int,ps=[pI n]/\(fx n=0->K (.tup [.agg [.row 5 1 ((ai (qO n.toNat)).map aL),.pv (pI n)],.pv (pI 0)]))/\(fx n≠0->K (.tup [.pv (.agg [.nil 1,pI 0]),.pv (pI 2)]))
def aeA(n:Nat):List.replicate n (PV.int .u8 0)=(ai n).map aL:=by
 unfold ai;rw[zcm];rfl
def as9{n:Int}(h:fx n=0):0<=n/\n<=4096:=by
 unfold fx at h;split at h
 ·assumption
 ·cases h
def abD{n:Int}(h:0<=n):sx n=(qO n.toNat:Nat):=by unfold sx qO;omega
def aip:MT (ay [(170,bF bG),(171,ah ae6)]) Jz agu:=by
 rintro _ K ⟨n,rfl,h1,h2⟩;by_cases h:fx n=0
 ·have hn:=as9 h;have hK:=h1 h;have hc:=abD hn.1;have hl:qO n.toNat<=512:=by unfold qO;omega
  rw[<-aeA]at hK
  (repeat'(refine iM ?_;first|refine aN ?_|refine au ab ?_|refine bT ?_|refine⟨_,⟨_,_,_,rfl,rfl⟩,?_⟩|refine⟨_,⟨_,rfl,cU,rfl⟩,?_⟩|refine wz ?_|fail))<;>try(conv=>whnf)
  rw[hc,zaC];refine⟨[.agg [.row _ _ _,.pv _],.pv (pI _)],⟨⟨⟨rfl,rfl,rfl⟩,rfl,trivial⟩,rfl,trivial⟩,trivial,hK⟩
 ·have hn:¬(0<=n/\n<=4096):=by
   intro h';apply h;unfold fx;rw[if_pos h']
  have hK:=h2 h
  (repeat'(refine iM ?_;first|refine bP ?_|refine aw ab ?_|refine bT ?_|refine⟨_,⟨_,_,_,rfl,rfl⟩,?_⟩|fail))<;>try(conv=>whnf)
  exact⟨[.pv _,.pv (pI _)],⟨rfl,rfl,trivial⟩,trivial,hK⟩
def axV(n:Int):List UInt8:=if fx n=0 then ai (qO n.toNat)else[]
def JN:Spec:=EM true false λps K=>∃n:Int,ps=[pI n]/\K (.tup [.pv (.str (axV n)),.pv (pI (fx n))])
def V4:MT (ay [(182,agu)]) Ch JN:=by
 rintro _ K ⟨n,rfl,hK⟩;unfold axV at hK;refine⟨n,rfl,λh=>?_,λh=>?_⟩
 ·rw[if_pos h,h]at hK
  (repeat'(refine iM ?_;first|refine yR ?_|refine bT ?_|fail))<;>try(conv=>whnf)
  (refine⟨_,?_,?_,hK⟩<;>repeat'(first|exact rfl|exact trivial|exact bD _|exact dn _|exact cr|refine⟨?_,?_⟩))
 ·have e:fx n=2:=by
   unfold fx at h ⊢;split
   ·rename_i h';rw[if_pos h']at h;exact kN
   ·rfl
  rw[if_neg h,e]at hK
  (repeat'(refine iM ?_;first|refine aJi ?_|refine bT ?_|fail))<;>try(conv=>whnf)
  (refine⟨_,?_,?_,hK⟩<;>repeat'(first|exact rfl|exact trivial|exact bD _|exact dn _|exact cr|refine⟨?_,?_⟩))
def Sn:Spec:=EM true false λps K=>∃(l:List Bool) (v:Bool),ps=[.sl 1 (l.map pB),pB v]/\l.length<=1000000∧∀r:Int,(0<=r↔v∈l)-> -1<=r->K (.pv (pI r))
def agM:MT (ay []) sr Sn:=by
 rintro _ K ⟨l,v,rfl,hl,hK⟩
 (repeat'(refine iM ?_;first|refine dq λ_=>?_|fail))<;>try(conv=>whnf)
 refine⟨λm env σ=>∃i:Nat,(i+m=l.length∧∀j,j<i->l[j]?≠some v)/\σ=[]/\env=[(0,.pv (.sl 1 (l.map pB))),(1,.pv (pB v)),eN 7 l.length,eN 8 i],l.length,⟨0,⟨ab,λj hj=>ab⟩,rfl,rfl⟩,?_⟩;rintro m env σ ⟨i,⟨hi,h0⟩,rfl,rfl⟩
 (repeat'(refine iM ?_;first|refine bj ab ?_|refine de (λ_=>?_) (λ_=>?_)|refine aii ab (λ_ _=>?_)|fail))<;>try(conv=>whnf)
 ·rename_i x hx h;subst h;have hK:=hK i ⟨λ_=>jk.2 ⟨i,hx⟩,λ_=>ab⟩ ab
  (refine⟨_,?_,?_,hK⟩<;>repeat'(first|exact rfl|exact trivial|exact bD _|exact dn _|exact cr|refine⟨?_,?_⟩))
 ·rename_i x hx h;refine⟨m-1,ab,i+1,⟨ab,λj hj e=>?_⟩,rfl,rfl⟩;by_cases hji:j<i
  ·exact h0 j hji e
  ·have:j=i:=by omega
   subst this;rw[hx]at e;exact h (Option.some.inj e).symm
 ·have hK:=hK (-1) ⟨λh=>ab,λh=>?_⟩ ab
  ·(refine⟨_,?_,?_,hK⟩<;>repeat'(first|exact rfl|exact trivial|exact bD _|exact dn _|exact cr|refine⟨?_,?_⟩))
  ·obtain⟨j,e⟩:=jk.1 h;have hj:j<l.length:=by
    by_cases hj:j<l.length
    ·exact hj
    ·rw[zaK ab]at e;cases e
   exact absurd e (h0 j ab)
def ah2:Spec:=EM true false λps K=>∃(l:List Bool) (v:Bool),ps=[.sl 1 (l.map pB),pB v]/\l.length<=1000000∧∀r:Bool,(r=true↔v∈l)->K (.pv (pB r))
def VP:MT (ay [(227,Sn)]) jO ah2:=by
 rintro _ K ⟨l,v,rfl,hl,hK⟩;refine⟨l,v,rfl,hl,λr hr Gw=>?_⟩
 (repeat'(refine iM ?_;first|refine de (λ_=>?_) (λ_=>?_)|fail))<;>try(conv=>whnf)
 ·have hK:=hK true (by simp;exact hr.1 aA)
  (refine⟨_,?_,?_,hK⟩<;>repeat'(first|exact rfl|exact trivial|exact bD _|exact dn _|exact cr|refine⟨?_,?_⟩))
 ·have hK:=hK false (by simp;exact λh=>by have:=hr.2 h;omega)
  (refine⟨_,?_,?_,hK⟩<;>repeat'(first|exact rfl|exact trivial|exact bD _|exact dn _|exact cr|refine⟨?_,?_⟩))
def apL(a b:Int):Int:=if a<b then-1 else if b<a then 1 else 0
def afu(ps:List PV)(x:PV):Prop:=∃a:Int,ps=[pI a]/\x=pB false
def ahJ:MT (ay []) HZ (ah afu):=by
 rintro _ K ⟨_,⟨a,rfl,rfl⟩,hK⟩;refine aw (λh=>h rfl) ?_
 (conv=>whnf)
 (refine⟨_,?_,?_,hK⟩<;>repeat'(first|exact rfl|exact trivial|exact bD _|exact dn _|exact cr|refine⟨?_,?_⟩))
def Ts(ps:List PV)(x:PV):Prop:=∃a b:Int,ps=[pI a,pI b]/\x=pI (apL a b)
def adf:MT (ay [(181,ah afu)]) DA (ah Ts):=by
 rintro _ K ⟨_,⟨a,b,rfl,rfl⟩,hK⟩;unfold apL at hK
 (repeat'(refine iM ?_;first|refine de (λ_=>?_) (λ_=>?_)|refine⟨_,⟨_,rfl,rfl⟩,?_⟩|fail))<;>try(conv=>whnf)
 ·rename_i h;rw[if_pos h]at hK;(refine⟨_,?_,?_,hK⟩<;>repeat'(first|exact rfl|exact trivial|exact bD _|exact dn _|exact cr|refine⟨?_,?_⟩))
 ·rename_i h h2;rw[if_neg h,if_pos h2]at hK;(refine⟨_,?_,?_,hK⟩<;>repeat'(first|exact rfl|exact trivial|exact bD _|exact dn _|exact cr|refine⟨?_,?_⟩))
 ·rename_i h h2;rw[if_neg h,if_neg h2]at hK;(refine⟨_,?_,?_,hK⟩<;>repeat'(first|exact rfl|exact trivial|exact bD _|exact dn _|exact cr|refine⟨?_,?_⟩))
def aB_(ps:List PV)(x:PV):Prop:=∃l:List Int,ps=[.sl 1 (l.map pI)]/\x=pI (bQ l)
def ar9:MT (ay []) Sa (ah aB_):=by
 rintro _ K ⟨_,⟨l,rfl,rfl⟩,hK⟩
 (repeat'(refine iM ?_;first|refine dq λ_=>?_|fail))<;>try(conv=>whnf)
 refine⟨λm env σ=>∃n:Nat,(n+m=l.length∧∀j,j<n->l[j]?=some 0)/\σ=[]/\env=[eN 3 0,(6,.pv (.sl 1 (l.map pI))),eN 7 (l.length:Nat),eN 8 n],l.length,⟨0,⟨ab,λj hj=>ab⟩,rfl,rfl⟩,?_⟩;rintro m env σ ⟨n,⟨hn,h0⟩,rfl,rfl⟩
 (repeat'(refine iM ?_;first|refine bj ab ?_|refine de (λ_=>?_) (λ_=>?_)|refine aii ab (λ_ _=>?_)|fail))<;>try(conv=>whnf)
 ·rename_i x hx cb;rw[ke l n h0,zcj (eT hx)]at hK;rw[zah (eT hx)]at hx;simp only[Option.some.inj hx,bQ,if_neg cb]at hK
  (refine⟨_,?_,?_,hK⟩<;>repeat'(first|exact rfl|exact trivial|exact bD _|exact dn _|exact cr|refine⟨?_,?_⟩))
 ·rename_i x hx cb;refine⟨m-1,ab,n+1,⟨ab,λj hj=>?_⟩,rfl,rfl⟩;by_cases nd:j<n
  ·exact h0 j nd
  ·rw[show j=n by omega,hx];simpa using cb
 ·rw[ke l n h0,zcc ab]at hK
  (refine⟨_,?_,?_,hK⟩<;>repeat'(first|exact rfl|exact trivial|exact bD _|exact dn _|exact cr|refine⟨?_,?_⟩))
def H5(a b:Int):Int:=max (a-b) (b-a)
def afn(ps:List PV)(x:PV):Prop:=∃a b:Int,ps=[pI a,pI b]/\(-1000000000000<=a/\a<=1000000000000/\ -1000000000000<=b/\b<=1000000000000)/\x=pI (H5 a b)
def amx:MT (ay []) NF (ah afn):=by
 rintro _ K ⟨_,⟨a,b,rfl,⟨h1,h2,h3,h4⟩,rfl⟩,hK⟩;unfold H5 at hK
 (repeat'(refine iM ?_;first|refine bj ab ?_|refine fQ ?_|fail))<;>try(conv=>whnf)
 (refine⟨_,?_,?_,hK⟩<;>repeat'(first|exact rfl|exact trivial|exact bD _|exact dn _|exact cr|refine⟨?_,?_⟩))
def I3(r:Rn):Prop:= -1000000000000<=r.s/\r.s<=1000000000000/\ -1000000000000<=r.n/\r.n<=1000000000000
def alq(near:Int)(p q:Rn):Int:=bQ [apL q.n p.n,apL (H5 p.s near) (H5 q.s near),apL p.s q.s]
def vw(near:Int)(p q:Rn):Bool:=decide (alq near p q<0)
def afV{near:Int}{p q:Rn}:vw near p q=true↔(q.n<p.n\/q.n=p.n/\(H5 p.s near<H5 q.s near\/H5 p.s near=H5 q.s near/\p.s<q.s)):=by
 unfold vw alq;rw[decide_eq_true_iff];generalize H5 p.s near=x;generalize H5 q.s near=y;simp only[bQ,apL];by_cases h1:q.n<p.n
 ·simp[h1]
 ·by_cases h2:p.n<q.n
  ·simp[h1,h2];omega
  ·by_cases h3:x<y
   ·simp[h1,h2,h3];omega
   ·by_cases h4:y<x
    ·simp[h1,h2,h3,h4];omega
    ·by_cases h5:p.s<q.s
     ·simp[h1,h2,h3,h4,h5];omega
     ·by_cases h6:q.s<p.s<;>simp[h1,h2,h3,h4,h5,h6]<;>omega
def Ma(near:Int):Ord (vw near):=by
 constructor
 ·intro x y h;rw[<-zcy];rw[afV]at h ⊢;omega
 ·intro x y z h1 h2;rw[<-zcy]at h1 h2 ⊢;rw[afV]at h1 h2 ⊢;omega
def awt{near:Int}{x y:Rn}(h1:vw near x y=false)(h2:vw near y x=false):x=y:=by
 rw[<-zcy]at h1 h2;rw[afV]at h1 h2;obtain⟨a,b⟩:=x;obtain⟨c,d⟩:=y;simp only at h1 h2;have:a=c/\b=d:=ab;rw[this.1,this.2]
def OD(c near:Int):PV:=.clo 273 [.cptr (.agg [pI c,pI near])]
def aee(near:Int):Prop:= -1000000000000<=near/\near<=1000000000000
def Pt(ps:List PV)(x:PV):Prop:=∃(p q:Rn) (c near:Int),ps=[p.pv,q.pv,.cptr (.agg [pI c,pI near])]/\(I3 p/\I3 q/\aee near)/\x=pI (alq near p q)
def ak8:MT (ay [(274,ah aB_),(128,ah Ts),(275,ah afn)]) xZ (ah Pt):=by
 rintro _ K ⟨_,⟨p,q,c,near,rfl,⟨⟨h1,h2,h3,h4⟩,⟨h5,h6,h7,h8⟩,h9,XK⟩,rfl⟩,hK⟩;unfold alq at hK
 (repeat'(refine iM ?_;first|refine bT ?_|refine⟨_,⟨_,_,rfl,rfl⟩,?_⟩|refine⟨_,⟨_,_,rfl,cU,rfl⟩,?_⟩|refine⟨_,⟨[_,_,_],rfl,rfl⟩,?_⟩|fail))<;>try(conv=>whnf)
 (refine⟨_,?_,?_,hK⟩<;>repeat'(first|exact rfl|exact trivial|exact bD _|exact dn _|exact cr|refine⟨?_,?_⟩))
def axL{α:Type}{f:Nat->α}{n:Nat}{F:α->PV}{i k:Nat}{x:α}{K:PV->Prop}(h:k<n)(c:K (F (if k=i then x else f k))):∃y,(((cQ f n).map F).set i (F x))[k]?=some y/\K y:=
 ⟨_,by rw[oU,tg,za9,bO h];rfl,c⟩
abbrev Cf(ap:Bool)(f:Nat->Rn)(N:Nat):dC:=.row 37 2 ap ((cQ f N).map Rn.pv)
def akV(xs:List AV)(σ:aF)(K:AV->aF->Prop):Prop:=
 ∃(ap:Bool) (f:Nat->Rn) (N:Nat) (a b n c near:Int),xs=[.own 0,.pv (pI a),.pv (pI b),.pv (pI n),.pv (OD c near)]/\σ=[Cf ap f N]/\(0<=a/\a+n<=b/\b+n<=N/\0<=n/\N<=100000)/\K (.tup []) [Cf ap (M4 f a.toNat b.toNat n.toNat) N]
def al5:gO (ay []) fW (sB akV):=by
 rintro _ _ K ⟨ap,f,N,a,b,n,c,near,rfl,rfl,⟨h0,h1,h2,h3,h4⟩,hK⟩;refine⟨λm env σ=>∃i:Nat,(i+m=n)/\σ=[Cf ap (M4 f a.toNat b.toNat i) N]/\env=[(0,.own 0),eN 1 a,eN 2 b,eN 3 n,eN 10 i],n.toNat,⟨0,ab,?_,rfl⟩,?_⟩
 ·refine congrArg (λx=>[Cf ap x N]) (funext λj=>?_);unfold M4;rw[if_neg ab,if_neg ab]
 rintro m env σ ⟨i,hi,rfl,rfl⟩
 (repeat'(refine iM ?_;first|refine axL ab ?_|refine bj ab ?_|refine de (λ_=>?_) (λ_=>?_)|refine Vx ab ?_|refine Ug ab ?_|refine bT ?_|refine zcB cu ?_|fail))<;>try(conv=>whnf)
 ·refine⟨m-1,ab,i+1,ab,?_,rfl⟩;refine congrArg (λx=>[dC.row _ _ _ x]) ?_;rw[show PV.agg [pI (M4 f a.toNat b.toNat i (b+i).toNat).s,pI (M4 f a.toNat b.toNat i (b+i).toNat).n]=(M4 f a.toNat b.toNat i (b+i).toNat).pv from rfl,
   show PV.agg [pI (M4 f a.toNat b.toNat i (a+i).toNat).s,pI (M4 f a.toNat b.toNat i (a+i).toNat).n]=(M4 f a.toNat b.toNat i (a+i).toNat).pv from rfl,oU,oU,tg,tg]
  refine congrArg (List.map Rn.pv) (kT λj _=>?_);unfold M4
  repeat' split
  all_goals first|(exfalso;omega)|rfl|(congr 1<;>omega)
 ·have:n.toNat=i:=by omega
  rw[this]at hK;exact hK
def anV(xs:List AV)(σ:aF)(K:AV->aF->Prop):Prop:=
 ∃(ap:Bool) (f:Nat->Rn) (N:Nat) (a m b c near:Int),xs=[.own 0,.pv (pI a),.pv (pI m),.pv (pI b),.pv (OD c near)]/\σ=[Cf ap f N]/\(0<=a/\a<m/\m<b/\b<=N/\N<=100000)/\K (.tup []) [Cf ap (mJ f a.toNat m.toNat b.toNat) N]
def ap8:gO (ay [(310,sB akV)]) gY (sB anV):=by
 rintro _ _ K ⟨ap,f,N,a,m,b,c,near,rfl,rfl,⟨h0,h1,h2,h3,h4⟩,hK⟩
 (repeat'(refine iM ?_;first|refine bj ab ?_|fail))<;>try(conv=>whnf)
 refine⟨λq env σ=>∃(i j:Int) (g:Nat->Rn),(q=i+j/\0<i/\0<j/\i<=m-a/\j<=b-m/\mJ f a.toNat m.toNat b.toNat=mJ g (m-i).toNat m.toNat (m+j).toNat)/\σ=[Cf ap g N]/\env=[(0,.own 0),eN 2 m,(4,.pv (OD c near)),eN 10 i,eN 11 j],(b-a).toNat,⟨m-a,b-m,f,⟨ab,ab,ab,ab,ab,by rw[show m-(m-a)=a by omega,show m+(b-m)=b by omega]⟩,rfl,rfl⟩,?_⟩;rintro q env σ ⟨i,j,g,⟨hq,hi,hj,j9,Gx,he⟩,rfl,rfl⟩
 (repeat'(refine iM ?_;first|refine bj ab ?_|refine de (λ_=>?_) (λ_=>?_)|refine⟨_,_,_,_,_,_,_,_,rfl,rfl,cU,?_⟩|fail))<;>try(conv=>whnf)
 ·rename_i cb xH;refine⟨j.toNat+(i-j).toNat,ab,i-j,j,M4 g (m-i).toNat m.toNat j.toNat,⟨ab,ab,ab,ab,ab,?_⟩,rfl,rfl⟩;rw[he];funext x;unfold mJ M4
  repeat' split
  all_goals first|(exfalso;omega)|(congr 1<;>omega)
 ·rename_i cb xH;refine⟨i.toNat+(j-i).toNat,ab,i,j-i,M4 g (m-i).toNat (m+j-i).toNat i.toNat,⟨ab,ab,ab,ab,ab,?_⟩,rfl,rfl⟩;rw[he];funext x;unfold mJ M4
  repeat' split
  all_goals first|(exfalso;omega)|(congr 1<;>omega)
 ·rename_i cb;have zk:i=j:=zb6 cb;subst zk;have e:mJ f a.toNat m.toNat b.toNat=M4 g (m-i).toNat m.toNat i.toNat:=by
   rw[he];funext x;unfold mJ M4
   repeat' split
   all_goals first|(exfalso;omega)|(congr 1<;>omega)
  rw[e]at hK;exact hK
def s_(g:Nat->Rn)(j i:Nat):Nat->Rn:=λk=>if k=j then g i else if j<k/\k<=i then g (k-1)else g k
def S8(g:Nat->Rn)(i:Nat):s_ g i i=g:=by
 funext k;unfold s_;by_cases h:k=i
 ·rw[if_pos h,h]
 ·rw[if_neg h,if_neg ab]
def Ta(g:Nat->Rn){j i:Nat}(h0:0<j)(h:j<=i):FL (s_ g j i) (j-1) j=s_ g (j-1) i:=by
 funext k;unfold FL s_
 repeat' split
 all_goals first|(exfalso;omega)|rfl|(congr 1<;>omega)
def T3(g:Nat->Rn){a i:Nat}:∀d,d<=i-a->a<=i->fg a (i+1) g (s_ g (i-d) i):=by
 intro d
 induction d with
 |zero=>intro _ _;rw[zbX,S8];exact .refl _ _ _
 |succ d ih=>
  intro h1 h2;refine(ih ab h2).trans ?_;rw[<-show i-d-1=i-(d+1) by omega,<-Ta g ab ab];have:=YE (s_ g (i-d) i) (i:=i-d-1);rw[show i-d-1+1=i-d by omega]at this;exact YQ
abbrev aJw:List (Nat×Spec):=[(273,ah Pt)]
def ats(xs:List AV)(σ:aF)(K:AV->aF->Prop):Prop:=
 ∃(ap:Bool) (f:Nat->Rn) (N:Nat) (a b c near:Int),xs=[.own 0,.pv (pI a),.pv (pI b),.pv (OD c near)]/\σ=[Cf ap f N]/\(0<=a/\a<=b/\b<=N/\N<=100000/\(∀j,I3 (f j))/\aee near)/\
  ∀g,fg a.toNat b.toNat f g->bl (vw near) a.toNat b.toNat g->K (.tup []) [Cf ap g N]
def apR:gO (ay aJw) eX (sB ats):=by
 rintro _ _ K ⟨ap,f,N,a,b,c,near,rfl,rfl,⟨h0,h1,h2,h3,hB,hN⟩,hK⟩
 (repeat'(refine iM ?_;first|refine bj ab ?_|fail))<;>try(conv=>whnf)
 refine⟨λq env σ=>∃(i:Int) (g:Nat->Rn),(q=(b-i).toNat/\a+1<=i/\(i<=b\/i=a+1)/\fg a.toNat b.toNat f g/\bl (vw near) a.toNat i.toNat g)/\σ=[Cf ap g N]/\env=[(0,.own 0),eN 1 a,eN 2 b,(3,.pv (OD c near)),eN 8 i],(b-(a+1)).toNat,⟨a+1,f,⟨ab,ab,ab,.refl _ _ _,λi j h1 h2 h3=>?_⟩,rfl,rfl⟩,?_⟩
 ·rw[show i=j by omega];exact(Ma near).irrefl _
 rintro q env σ ⟨i,g,⟨hq,hi,j9,hp,hs⟩,rfl,rfl⟩
 (repeat'(refine iM ?_;first|refine de (λ_=>?_) (λ_=>?_)|fail))<;>try(conv=>whnf)
 ·refine⟨λq env σ=>∃(j:Int),(q=(j-a).toNat/\a<=j/\j<=i∧∀k:Nat,j<=k->k<i->vw near (g i.toNat) (g k)=true)/\σ=[Cf ap (s_ g j.toNat i.toNat) N]/\env=[(0,.own 0),eN 1 a,eN 2 b,(3,.pv (OD c near)),eN 8 i,eN 9 j],(i-a).toNat,⟨i,⟨ab,ab,ab,λk h1 h2=>ab⟩,by rw[S8],rfl⟩,?_⟩;rintro q env σ ⟨j,⟨hq,hj,hji,aU⟩,rfl,rfl⟩;have XC:∀k,I3 (s_ g j.toNat i.toNat k):=by
   have:=hp.all (P:=I3) hB;intro k;unfold s_
   repeat' split
   all_goals exact this _
  (repeat'(refine iM ?_;first|refine bj ab ?_|refine de (λ_=>?_) (λ_=>?_)|refine Vx ab ?_|refine Ug ab ?_|refine bT ?_|fail))<;>try(conv=>whnf)
  ·have aHe:∀r:Int,r=alq near (s_ g j.toNat i.toNat j.toNat) (s_ g j.toNat i.toNat (j-1).toNat)->(r<0↔vw near (g i.toNat) (g (j-1).toNat)=true):=by
    intro r hr;have e1:s_ g j.toNat i.toNat j.toNat=g i.toNat:=by unfold s_;rw[if_pos rfl]
    have e2:s_ g j.toNat i.toNat (j-1).toNat=g (j-1).toNat:=by unfold s_;rw[if_neg ab,if_neg ab]
    rw[hr,e1,e2];unfold vw;rw[decide_eq_true_iff]
   refine⟨_,⟨_,_,c,near,rfl,⟨XC _,XC _,hN⟩,rfl⟩,?_⟩
   (repeat'(refine iM ?_;first|refine axL ab ?_|refine bj ab ?_|refine de (λ_=>?_) (λ_=>?_)|refine Vx ab ?_|refine Ug ab ?_|refine bT ?_|refine zcB cu ?_|fail))<;>try(conv=>whnf)
   ·rename_i aDC;have hl:=(aHe _ rfl).1 aDC;refine⟨(j-1-a).toNat,ab,j-1,⟨ab,ab,ab,λk h4 h5=>?_⟩,?_,rfl⟩
    ·by_cases hk:k=(j-1).toNat
     ·rw[hk];exact hl
     ·exact aU k ab h5
    ·refine congrArg (λx=>[dC.row _ _ _ x]) ?_;have hsw:=Ta g (j:=j.toNat) (i:=i.toNat) ab ab;rw[show PV.agg [pI (s_ g j.toNat i.toNat (j-1).toNat).s,pI (s_ g j.toNat i.toNat (j-1).toNat).n]=(s_ g j.toNat i.toNat (j-1).toNat).pv from rfl,
      show PV.agg [pI (s_ g j.toNat i.toNat j.toNat).s,pI (s_ g j.toNat i.toNat j.toNat).n]=(s_ g j.toNat i.toNat j.toNat).pv from rfl,oU,oU,tg,tg]
     refine congrArg (List.map Rn.pv) ?_;rw[show(j-1).toNat=j.toNat-1 by omega,<-hsw];refine kT λx _=>?_
     unfold FL
     repeat' split
     all_goals first|(exfalso;omega)|rfl
   ·rename_i aDC;have hl:vw near (g i.toNat) (g (j-1).toNat)=false:=by
     cases h:vw near (g i.toNat) (g (j-1).toNat)with
     |false=>rfl
     |true=>exact absurd ((aHe _ rfl).2 h) aDC
    refine⟨(b-(i+1)).toNat,ab,i+1,s_ g j.toNat i.toNat,⟨rfl,ab,ab,hp.trans ?_,?_⟩,rfl,rfl⟩
    ·have:=T3 g (a:=a.toNat) (i:=i.toNat) (i-j).toNat ab ab;rw[show i.toNat-(i-j).toNat=j.toNat by omega]at this;exact YQ
    ·rw[show(i+1).toNat=i.toNat+1 by omega];exact DM (Ma near) hs ab ab (λk h4 h5=>aU k ab ab) λ_=>by rw[show j.toNat-1=(j-1).toNat by omega];exact hl
  ·refine⟨(b-(i+1)).toNat,ab,i+1,s_ g j.toNat i.toNat,⟨rfl,ab,ab,hp.trans ?_,?_⟩,rfl,rfl⟩
   ·have:=T3 g (a:=a.toNat) (i:=i.toNat) (i-j).toNat ab ab;rw[show i.toNat-(i-j).toNat=j.toNat by omega]at this;exact YQ
   ·rw[show(i+1).toNat=i.toNat+1 by omega];exact DM (Ma near) hs ab ab (λk h4 h5=>aU k ab ab) λ_=>ab
 ·rename_i aU
  exact hK g hp (by rcases j9 with h|h;·rw[show b=i by omega];exact hs
                    ·exact λx y h1 h2 h3=>by rw[show x=y by omega];exact(Ma near).irrefl _)
end Go.Dv.Try
