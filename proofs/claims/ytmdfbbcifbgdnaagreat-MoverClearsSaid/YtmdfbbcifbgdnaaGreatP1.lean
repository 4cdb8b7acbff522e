/- Own work: parts of the proof, shortened and laid together by a tool of our own. -/
import GoSem.Core.Code
import GoSem.Core.Lib
import GoSem.Op.String
import Derived.KernelRfl
import Derived.Below
import GoSem.Core.Layout
import GoSem.Op.Equal
import GoSem.Core.Region
import Derived.WalkKit
import Derived.Lib.Strings
import Derived.Lib.AppendStr
import Derived.Laws.AppendOwnNone
import Derived.Great.BuildSlice
import Derived.Laws.IdiomStrings
import Derived.RangeFuncNested
set_option linter.defProp false
set_option linter.unusedSimpArgs false
set_option linter.unusedVariables false
open List renaming getElem?_eq_some_iff→zaa, length_append→zad, eq_nil_of_length_eq_zero→zaf, mem_of_getElem?→zag, getElem?_eq_getElem→zah, append_assoc→zaj, getElem?_append_right→zak, length_take→zal, length_cons→zam, flatMap_cons→zao, length_replicate→zaq, getElem?_append_left→zar, map_cons→zau, length_map→zaw, mem_cons→zax, length_drop→zay, flatMap_append→zaz, mem_append→zaA, getElem?_drop→zaB, take_append_drop→zaD, mem_iff_getElem?→zaE, take_left'→zaH, getElem?_take→zaI, getElem?_eq_none→zaK, mem_of_mem_take→zaL, drop_left'→zaO, replicate_succ→zaP, drop_drop→zaQ, getElem?_set→zaS, extract_eq_take_drop→zaT, zipIdx_cons→zaW, mem_map→zaX, length_nil→zaY, nil_append→zaZ, length_set→za0, take_of_length_le→za1, mem_replicate→za7, getElem?_map→za9, ext_getElem?→zba, cons_append→zbd, append_nil→zbf, foldl_cons→zbg, tail_drop→zbi, take_left→zbj, drop_left→zbk
open Nat renaming eq_of_beq_eq_true→zab, lt_of_lt_of_le→zae, le_refl→zai, le_trans→zan, add_mul→zas, min_eq_left→zat, add_sub_cancel_left→zav, mul_le_mul_right→zaF, add_assoc→zaJ, add_zero→zaM, zero_add→zaV, le_of_ble_eq_true→za3, add_right_comm→za6, add_left_comm→zbb, one_mul→zbc
open Array renaming length_toList→zac, getElem?_eq_some_iff→zap, getElem?_eq_getElem→zaG, toList_setIfInBounds→zaR, getElem?_toList→za2, toList_extract→za4, foldl_toList→za8, toList_map→zbe
open Int renaming toNat_natCast→zaC, toNat_of_nonneg→za5
open Bool renaming eq_iff_iff→zaN, and_eq_true→zaU, decide_or→zbh
namespace Go.Dv
section
structure Hd(P:Prop):Prop where
 h:P
section
variable {P:Prop}
def aaa(h:P:=by simp only[Rd];exact h5):P:=h
def xO(h:P:=by simpa using h1):P:=h
def BH(h:P:=by simpa using hc):P:=h
def Gk(h:P:=by simpa using hj):P:=h
def aj(h:P:=by simp):P:=h
def ql(h:P:=by simp[hc]):P:=h
def pT(h:P:=by simp[hy]):P:=h
def Kq(h:P:=by simpa using h4):P:=h
def ab(h:P:=by omega):P:=h
def aH(h:P:=by simp;omega):P:=h
def Fe(h:P:=by simpa using h3):P:=h
def Fo(h:P:=by simp[bS]):P:=h
def eo(h:P:=by simp only[Rd]):P:=h
def Y6(h:P:=by simp[binOp,Op.intArith]):P:=h
def Rl(h:P:=by simp[binOp,Op.intBits,iz]):P:=h
def EW(h:P:=by simp[binOp,Op.intCmp]):P:=h
def ao(h:P:=by decide):P:=h
def Zm(h:P:=by simp only[RA];exact h2):P:=h
def jc(h:P:=by simp only[RA,Rd]):P:=h
def abu(h:P:=by rw[hu]at hd;cases hd;rfl):P:=h
def iP(h:P:=by simp[hx]):P:=h
def ZG(h:P:=by rw[wL _ _ _ hx];omega):P:=h
def ky(h:P:=by simpa using h):P:=h
def bV(h:P:=by cases h):P:=h
def iT(h:P:=by simpa using h2):P:=h
def atv(h:P:=by rw[hv];simp[execOp,ho,hv]):P:=h
def aij(h:P:=by rcases List.mem_append.1 hu with hu|hu;exact hr.one u hu;simp at hu;exact hu▸kR):P:=h
def Yy(h:P:=by cases h;exact Nat.le_refl _):P:=h
def aiP(h:P:=by rcases eh.2 with⟨rfl,_⟩|⟨_,_,_,_,rfl,_⟩<;>rfl):P:=h
def asV(h:P:=by rw[Mw rfl];simp only[fY];exact⟨_,[],rfl,h',rfl⟩):P:=h
def ajx(h:P:=by simp at hc;obtain⟨x,hx,rfl⟩:=hc;exact h3 x hx):P:=h
def aaQ(h:P:=by simpa only[RA]using hv):P:=h
def yf(h:P:=by simp[hd]):P:=h
def bf(h:P:=by grind):P:=h
def QW(h:P:=by rw[<-Array.length_toList,(h2 (λ_=>True) w).length,Jd]):P:=h
def aA(h:P:=by assumption):P:=h
def Lh(h:P:=by rw[List.length_map];rfl):P:=h
def ZK(h:P:=by simp only[Ren];exact⟨j,h1,rfl⟩):P:=h
def XR(h:P:=by simp only[Ren];exact⟨bs,rfl,h2⟩):P:=h
def aab(h:P:=by rw[hz.length,fv _ _ hl]):P:=h
def ahP(h:P:=by rw[AH _ _ hl]at hc;exact kR c (List.mem_of_mem_take hc)):P:=h
def nq(h:P:=by simp_all):P:=h
def n6(h:P:=by simp only[Ren];grind):P:=h
def Lu(h:P:=by simpa using hl):P:=h
def aiT(h:P:=by rw[<-hA.axW];exact(List.getElem?_eq_some_iff.1 hj).1):P:=h
def JO(h:P:=by rw[<-PA];rfl):P:=h
def abc(h:P:=by rw[<-hρlen];exact(List.getElem?_eq_some_iff.1 hj).1):P:=h
def aav(h:P:=by simp[execOp,ho,Act.eval]):P:=h
def aT(h:P:=by simp[PK.reads,ht]):P:=h
def BG(h:P:=by simp[PO.reads,ht]):P:=h
def kF(h:P:=by simp[hq]):P:=h
def Ll(h:P:=by rcases hf with hf|hf<;>rw[hf]<;>rfl):P:=h
def BT(h:P:=by simp[Region.wanted,hg]):P:=h
def akh(h:P:=by rcases hf with hf|hf<;>rw[hf];exact .inl rfl;exact .inr rfl):P:=h
def Z4(h:P:=by simp only[hg,Bool.not_false]):P:=h
def aiR(h:P:=by rcases sM with sM|sM<;>rw[sM]at hc<;>cases hc):P:=h
def qu(h:P:=by cases hu):P:=h
def aj5(h:P:=by have:=h3 σ' K' hs hk;rw[<-DZ]at this;exact this):P:=h
def sc(h:P:=by cases hb):P:=h
def EP(h:P:=by rw[List.append_nil]at hk;exact hk):P:=h
def KQ(h:P:=by simpa only[AV.Nm]using hx):P:=h
def r_(h:P:=by simp at hi):P:=h
def ahV(h:P:=by unfold FR.M;rintro(hM|hM);exact(hc j hj).1 hM;exact(hc j hj).2 hM):P:=h
def Q2(h:P:=by simp[bX]):P:=h
def cz(h:P:=by cases e):P:=h
def qp(h:P:=by rw[List.getElem?_eq_getElem (by omega)];exact⟨_,rfl⟩):P:=h
def QQ(h:P:=by rw[Int.toNat_natCast,List.getElem?_map,List.getElem?_eq_getElem h];rfl):P:=h
def ak(h:P:=by kernel_rfl):P:=h
def aht(h:P:=by rcases hc with⟨_,h⟩|⟨h,_⟩;exact h;cases h):P:=h
def FF(h:P:=by obtain⟨h,_⟩:=wH;cases h):P:=h
def QF(h:P:=by obtain⟨h,_⟩:=j0;cases h):P:=h
def abf(h:P:=by simp at e;exact Prod.ext (by omega) (by omega)):P:=h
def PR(h:P:=by rw[List.length_map,Int.toNat_natCast];omega):P:=h
def Rk(h:P:=by intro e;subst e;simp at h):P:=h
def oP(h:P:=by rw[List.length_map];omega):P:=h
def EZ(h:P:=by rw[<-hg,List.length_append]):P:=h
def ajA(h:P:=by rw[Int.toNat_natCast,List.getElem?_map,<-hg,List.getElem?_append_right (Nat.le_refl _),Nat.sub_self];rfl):P:=h
def oW(h:P:=by unfold cI.copy at hc;simpa using hc):P:=h
def ep(h:P:=by rw[hc]):P:=h
def QU(h:P:=by simp at sL;omega):P:=h
def sv(h:P:=by simp[hg]):P:=h
def Qm(h:P:=by rw[adD];simp[fK]):P:=h
def ahY(h:P:=by simp only[List.length_append,List.length_cons,List.length_nil]at sS ⊢;omega):P:=h
def ef(h:P:=by rw[List.length_drop];omega):P:=h
def Sy(h:P:=by unfold cI.made;rw[if_pos hd]):P:=h
def KM(h:P:=by unfold cI.made;rw[if_neg hd]):P:=h
def arV(h:P:=by simp[RV.aaE]):P:=h
def ahy(h:P:=by rw[List.length_append,List.length_cons,List.length_nil,List.length_drop];omega):P:=h
def fP(h:P:=by rw[List.length_append,List.length_cons,List.length_nil];omega):P:=h
def Rb(h:P:=by rw[List.length_take,List.length_drop];omega):P:=h
def Bt(h:P:=by split<;>omega):P:=h
def ZM(h:P:=by rw[Int.tdiv_eq_ediv_of_nonneg (by omega)];rfl):P:=h
def ar8(h:P:=by first|(simp;omega)|simp):P:=h
def cU(h:P:=by repeat'(first|omega|assumption|exact trivial|refine And.intro ?_ ?_)):P:=h
def cu(h:P:=by(simp;omega)):P:=h
def RD(h:P:=by simpa[jf]using hb):P:=h
def abb(h:P:=by rw[<-hx];congr 1;omega):P:=h
def ZS(h:P:=by rw[<-hy];congr 1;omega):P:=h
def eI(h:P:=by rw[List.length_take];omega):P:=h
def atr(h:P:=by simp[*]):P:=h
def as1(h:P:=by simp<;>omega):P:=h
def aiB(h:P:=by rw[show((n:Int)-1).toNat=n-1 by omega];exact hp):P:=h
def Qe(h:P:=by rw[hp]at hq;cases hq;exact hj):P:=h
def dY(h:P:=by(repeat'(first|omega|assumption|exact trivial|refine And.intro ?_ ?_));first|done|fail):P:=h
def vg(h:P:=by have:=eT hk;omega):P:=h
def ajM(h:P:=by unfold jZ at OB;split at OB<;>constructor<;>omega):P:=h
def uQ(h:P:=by simp[h]):P:=h
def br(h:P:=by simp only[LF,bE];omega):P:=h
def abn(h:P:=by rw[hA];exact congrArg B5 (by omega)):P:=h
def RM(h:P:=by(simp only[zad,gL,bE];omega)):P:=h
def aio(h:P:=by(simp only[zad,gL,bE];unfold B5;omega)):P:=h
def FO(h:P:=by unfold ew;omega):P:=h
def ake(h:P:=by unfold Wm;rw[List.getElem?_drop,Nat.add_zero,hv];rfl):P:=h
def afC(h:P:=by rw[Int.tmod_eq_emod_of_nonneg (by omega)];rfl):P:=h
def FD(h:P:=by simp only[aeU];omega):P:=h
def so(h:P:=by unfold Dk.n;omega):P:=h
def Ka(h:P:=by simpa using UB):P:=h
def rY(h:P:=by rw[hT];rfl):P:=h
def aaF(h:P:=by intro e;subst e;cases UB):P:=h
def ahU(h:P:=by rw[hT,BW,if_pos (by omega)];exact congrArg (λx=>[dC.row 28 2 true x]) LO):P:=h
def qD(h:P:=by rw[c_];decide):P:=h
def aaV(h:P:=by intro e;subst e;simp at aU):P:=h
def aiY(h:P:=by(rw[vu,show(256:Int).toNat=256 from rfl,aW];omega)):P:=h
def abM(h:P:=by have:=rG (gr.2.2.2 r hr);exact⟨by omega,by omega⟩):P:=h
def K1(h:P:=by rw[q9 h];exact h):P:=h
def Cl(h:P:=by unfold Iy;omega):P:=h
def agK(h:P:=by unfold jz;rw[hp];rfl):P:=h
def aa4(h:P:=by(rw[aCL];simp;omega)):P:=h
def P3(h:P:=by rw[List.length_map,ck];omega):P:=h
def kD(h:P:=by rw[ck];omega):P:=h
def Su(h:P:=by rw[qG];split<;>omega):P:=h
def Gm(h:P:=by unfold cut;rw[List.drop_zero]):P:=h
def ahM(h:P:=by unfold bq at hx;exact List.mem_of_mem_drop (List.mem_of_mem_take hx)):P:=h
def xI(h:P:=by rw[XJ];omega):P:=h
def Se(h:P:=by unfold Dk.n at hc;omega):P:=h
def aul(h:P:=by have h:=aki.mp h;omega):P:=h
def KG(h:P:=by rw[vu,Int.toNat_natCast];omega):P:=h
def K9(h:P:=by rw[qH,Int.toNat_natCast];omega):P:=h
def Ge(h:P:=by simp only[true_iff,iff_true,false_iff,iff_false,reduceCtorEq]at G1 ⊢;omega):P:=h
def QS(h:P:=by rw[sK,if_pos hc]):P:=h
def ai8(h:P:=by rw[show(ar d a).a.rs=a.rs from rfl,c_]at h;cases h):P:=h
def ZF(h:P:=by unfold yE iU;rw[if_neg (λe=>e h0),if_neg (λe=>e (by omega)),if_neg (by omega)]):P:=h
def Z9(h:P:=by unfold D8 iU;rw[if_neg (λe=>e h0),if_neg (λe=>e (by omega))]):P:=h
def FB(h:P:=by cases a with|_ t n i f r v ft rn al sz vd=>cases rn<;>rfl):P:=h
def aaX(h:P:=by have:=(List.getElem?_eq_some_iff.1 hi).1;omega):P:=h
def LM(h:P:=by decide+kernel):P:=h
def xJ(h:P:=by rw[kU];exact h0):P:=h
def EX(h:P:=by rw[hA];rfl):P:=h
def ah6(h:P:=by(simp only[zad,zal,zay,aW];omega)):P:=h
def P_(h:P:=by rw[di];exact λg=>g hm):P:=h
def Zq(h:P:=by exact⟨b,o,h1,hk b h2,h3,u,hc b o u h2 h4,this⟩):P:=h
def aa_(h:P:=by exact Out.run (v:=a.eval x) atv hr dR hK):P:=h
def ZE(h:P:=by exact⟨_,hK,asV,by simp[AV.one]⟩):P:=h
def B4(h:P:=by exact(show False from h).elim):P:=h
def kK(h:P:=by exact(show False from hk).elim):P:=h
def A7(h:P:=by exact⟨l,h,hl,List.prefix_refl l⟩):P:=h
def Ba(h:P:=by exact(show False from hK).elim):P:=h
def QK(h:P:=by exact Out.run (v:=.slice none 0 0) aav hr (av:=.pv (.nil i.2.1)) jc hK):P:=h
def eM(h:P:=by exact bN.ret _):P:=h
def uZ(h:P:=by exact nI.ret _):P:=h
def ux(h:P:=by exact anO hs aA h):P:=h
def gn(h:P:=by exact(show False from h2).elim):P:=h
def Yz(h:P:=by exact⟨[],h,λu hu=>qu,λσ' K' _ hk=>hk⟩):P:=h
def Fw(h:P:=by exact⟨i,h,rfl⟩):P:=h
def RX(h:P:=by exact⟨cs,rfl,aeL cs h⟩):P:=h
def aat(h:P:=by exact⟨_,h,λP hp=>⟨hp,trivial⟩,λ_ h=>h⟩):P:=h
def Lw(h:P:=by exact dP _ _ b _ ((h id Q2).trans h1) h2):P:=h
def ZP(h:P:=by exact h2 _ _ ab ab ab):P:=h
def aG(h:P:=by exact⟨.pv (pI _),rfl,trivial,hK⟩):P:=h
def FI(h:P:=by exact⟨.pv _,rfl,trivial,hK⟩):P:=h
def bM(h:P:=by exact⟨.pv (.str _),rfl,trivial,hK⟩):P:=h
def kN(h:P:=by exact absurd rfl h):P:=h
def K0(h:P:=by exact⟨[.pv (pI _),.pv (pI _)],⟨rfl,rfl,trivial⟩,⟨trivial,trivial,trivial⟩,hK⟩):P:=h
def BZ(h:P:=by exact absurd ao h):P:=h
def RY(h:P:=by exact⟨rfl,λ_=>rfl,Iff.rfl⟩):P:=h
def uG(h:P:=by exact⟨[.fresh _ _ _,.pv _],⟨⟨rfl,rfl,rfl,rfl⟩,rfl,trivial⟩,⟨arV,trivial,trivial⟩,hK⟩):P:=h
def dA(h:P:=by exact⟨[.pv (.str _),.pv _],⟨rfl,rfl,trivial⟩,⟨trivial,trivial,trivial⟩,hK⟩):P:=h
def Qs(h:P:=by exact⟨[.pv (.str _),.pv _],⟨rfl,rfl,trivial⟩,⟨trivial,trivial,trivial⟩,hf⟩):P:=h
def kQ(h:P:=by exact⟨.pv (.bool _),rfl,trivial,hK _ ar8⟩):P:=h
def vj(h:P:=by exact⟨.fresh _ _ _,⟨rfl,rfl,rfl,rfl⟩,bD _,hK⟩):P:=h
def cr(h:P:=by exact(λ_ h=>bV)):P:=h
def YQ(h:P:=by exact this.wide ab ab ab):P:=h
def yj(h:P:=by exact⟨.pv (.bool _),rfl,trivial,hK _ atr⟩):P:=h
def abg(h:P:=by exact⟨m-1,ab,n+1,ab,rfl,by rw[aeq hx];rfl⟩):P:=h
def JH(h:P:=by exact⟨.pv (.bool _),rfl,trivial,hK _ as1⟩):P:=h
def kM(h:P:=by exact⟨[.pv _,.pv _],⟨rfl,rfl,trivial⟩,⟨trivial,trivial,trivial⟩,hK⟩):P:=h
def abq(h:P:=by exact⟨.pv (.bool _),rfl,trivial,hK _ uQ⟩):P:=h
def YS(h:P:=by exact⟨.pv (.bool _),rfl,trivial,hK _ aH⟩):P:=h
def PN(h:P:=by exact⟨.pv (.bool _),rfl,trivial,hK _ nq⟩):P:=h
def Zg(h:P:=by exact⟨.pv _,.inl rfl,trivial,hK⟩):P:=h
def abL(h:P:=by exact⟨.pv (rI _),rfl,trivial,hK⟩):P:=h
def Bq(h:P:=by exact⟨m-1,ab,n+1,ab,rfl,rY⟩):P:=h
def Yl(h:P:=by exact⟨.pv (pI _),rfl,trivial,gR false aH⟩):P:=h
def sF(h:P:=by exact absurd h g):P:=h
def XU(h:P:=by exact⟨[.pv _,.pv (pI _)],⟨rfl,rfl,trivial⟩,trivial,nK⟩):P:=h
def aaj(h:P:=by exact⟨.pv (.bool _),rfl,trivial,hK _ (by simp only[*];simp)⟩):P:=h
def aaS(h:P:=by exact⟨m-1,ab,k+1,ab,by rw[hT];simp[strs],rfl⟩):P:=h
def K6(h:P:=by exact Decidable.not_not.1 g):P:=h
def iN(h:P:=by exact⟨[.pv zD.pv,.pv zA.pv,.pv (pI _)],⟨rfl,rfl,rfl,trivial⟩,trivial,hK⟩):P:=h
def KW(h:P:=by exact⟨[.pv (Dk.pv _),.pv (At.pv _),.pv (pI _)],⟨rfl,rfl,rfl,trivial⟩,trivial,hK⟩):P:=h
def Qu(h:P:=by exact⟨.pv (.bool _),rfl,trivial,no λh=>aul⟩):P:=h
def QG(h:P:=by exact⟨.pv (.bool _),rfl,trivial,no λh=>absurd (aki.mp h).2 aA⟩):P:=h
def RT(h:P:=by exact⟨m-1,ab,n+1,⟨ab,fM (aki.mpr ab)⟩,rfl,rfl⟩):P:=h
def ZO(h:P:=by exact⟨m-1,ab,n+1,⟨ab,fM (aki.mpr ⟨ab,aA⟩)⟩,rfl,rfl⟩):P:=h
def aai(h:P:=by exact⟨m-1,ab,n+1,ab,congrArg (λr=>[_,dC.row 4 1 true r]) (fin false true Ge),rfl⟩):P:=h
def aax(h:P:=by exact⟨m-1,ab,n+1,ab,congrArg (λr=>[_,dC.row 4 1 true r]) (fin false false Ge),rfl⟩):P:=h
def aI(h:P:=by exact⟨.pv (.bool _),rfl,trivial,hK⟩):P:=h
def Sv(h:P:=by exact⟨_,⟨d,a,p,n,dat,t,rfl,rfl⟩,rfl⟩):P:=h
def abm(h:P:=by exact⟨[.fresh _ _ _,.pv (pI _)],⟨⟨rfl,rfl,rfl,rfl⟩,rfl,trivial⟩,⟨(λ_ h=>bV),trivial,trivial⟩,hK⟩):P:=h
def abO(h:P:=by exact⟨[.fresh _ _ _,.pv (pI _)],⟨⟨rfl,rfl,rfl,rfl⟩,rfl,trivial⟩,⟨bD _,trivial,trivial⟩,hK⟩):P:=h
def Z1(h:P:=by exact⟨m-1,ab,n+1,ab,hT3.symm,rfl⟩):P:=h
def ZU(h:P:=by exact⟨m-1,ab,n+1,ab,.inr JF.symm,rfl⟩):P:=h
def Y0(h:P:=by exact⟨m-1,ab,k+1,ab,by rw[hT,jd hB],rfl⟩):P:=h
def aaP(h:P:=by exact⟨.pv (pI 2),rfl,trivial,e2 hm⟩):P:=h
variable {Q:Prop} (a:Q)
def iM(h:Hd Q->P:=by intro q;(conv=>whnf);(fail_if_success first|apply mj|apply mI|apply mP);exact q.h):P:=h ⟨a⟩
def fe(h:Hd Q->P:=by intro q;(fail_if_success first|apply mj|apply mI|apply mP);exact q.h):P:=h ⟨a⟩
def dq(h:Hd Q->P:=by intro q;show _<=(9223372036854775807:Nat)->_;(repeat (first|rw[List.length_map,ck]|rw[List.length_map]|rw[List.length_replicate]));exact q.h):P:=h ⟨a⟩
def bT{α:Type _}{x:α}:x=x/\Q:=⟨rfl,a⟩
def oQ(h:P:=by kernel_rfl):P/\Q:=⟨h,a⟩
def wz(h:P:=by omega):P/\Q:=⟨h,a⟩
end
inductive PV where
 |bool (b:Bool)
 |int (k:IntKind) (n:Int)
 |str (l:List UInt8)
 |val (v:Value)
 |nil (sz:Nat)
 |sl (sz:Nat) (aC:List PV)
 |agg (cs:List PV)
 |tup (vs:List PV)
 |cptr (x:PV)
 |clo (f:FuncId) (jh:List PV)
inductive AV where
 |bad
 |pv (x:PV)
 |own (id:Nat)
 |ref (id idx off:Nat)
 |sub (id sz lo n:Nat)
 |agg (cs:List AV)
 |tup (vs:List AV)
 |clo (f:FuncId) (jh:List AV)
inductive dC where
 |dead
 |row (e:TypeId) (sz:Nat) (app:Bool) (aC:List PV)
 |box (e:TypeId) (cs:List AV)
 |fz (x:PV)
 |mp (l:List (Int×Bool))
inductive RV where
 |pv (x:PV)
 |fresh (e:TypeId) (sz:Nat) (aC:List PV)
 |row (e:TypeId) (sz:Nat) (aC:List PV)
 |agg (cs:List RV)
 |tup (vs:List RV)
 |mp (l:List (Int×Bool))
inductive Cv where
 |toInt (k:IntKind)|same|bts|stb (e:TypeId)
inductive PK where
 |mv (x:Operand)
 |nilS (sz:Nat)
 |nilR (e:TypeId) (sz:Nat)
 |pick (c a b:Operand)
 |bin (op:BinOp) (x y:Operand)
 |eqb (neg:Bool) (x y:Operand)
 |eqs (neg:Bool) (ks:List Nat) (x y:Operand)
 |un (op:UnOp) (x:Operand)
 |conv (c:Cv) (x:Operand)
 |lenS (x:Operand)
 |lenR (x:Operand)
 |lenN (x:Operand)
 |mm (mx:Bool) (x y:Operand)
 |idx (x i:Operand)
 |slcS (x:Operand) (lo hi:Option Operand)
 |slcR (sz:Nat) (x:Operand) (lo hi:Option Operand)
 |idxA (sz:Nat) (x i:Operand)
 |fldA (off:Nat) (x:Operand)
 |fld (off:Nat) (ag:Bool) (n:Nat) (x:Operand)
 |load (ag:Bool) (n:Nat) (x:Operand)
 |store (n:Nat) (x v:Operand)
 |alloc (e:TypeId) (z:PV)
 |box (e:TypeId) (x:Operand)
 |build (z:List PV) (parts:List (Nat×Nat×Operand))
 |bslice (e:TypeId) (sz:Nat) (parts:List Operand)
 |bslP (e:TypeId) (sz:Nat) (parts:List Operand)
 |app (e:TypeId) (sz bytes:Nat) (x y:Operand)
 |appS (e:TypeId) (bytes:Nat) (x y:Operand)
 |mksl (e:TypeId) (sz bytes:Nat) (z:PV) (l c:Operand)
 |call (f:FuncId) (args:List Operand)
 |ext (x:Operand) (i:Nat)
 |nilck (x:Operand)
 |mkf (f:FuncId) (jh:List Operand)
 |callv (f:Operand) (args:List Operand)
 |fail
 |junk
 |cpy (sz:Nat) (x y:Operand)
 |cpyS (x y:Operand)
 |clr (sz:Nat) (z:PV) (x:Operand)
 |mkarr (e:TypeId) (sz:Nat) (z:PV) (n:Nat)
 |idxAr (n sz:Nat) (x i:Operand)
 |slcA (n sz:Nat) (x:Operand) (lo hi:Option Operand)
 |isnil (neg:Bool) (x:Operand)
 |look (c:Bool) (x k:Operand)
 |idxV (m sz:Nat) (ag:Bool) (n:Nat) (x i:Operand)
 |fldV (m sz:Nat) (x i:Operand)
structure PO where
 dst:Option Nat
 g:Option (Nat×Bool)
 k:PK
inductive PC where
 |skip
 |region (ops:List PO)
 |draw (ops:List PO) (nL:List (List Nat))
 |drawD (ops:List PO) (nL:List (List Nat))
 |seq (a b:PC)
 |cond (c:Operand) (t e:PC)
 |block (id:Nat) (b:PC)
 |loop (live:List Nat) (b:PC)
 |rangeF (f:Operand) (ps:List Nat) (avc:List PO) (b:PC)
 |exit (id:Nat)
 |ret
abbrev Env:=List (Nat×AV)
abbrev aF:=List dC
section
variable {α:Type}
noncomputable def g_(l:List α):Nat->(α->Prop)->Prop:=
 List.rec (λ_ _=>False)
  (λa _ ih i K=>Nat.rec (K a) (λj _=>ih j K) i) l
noncomputable def J7(n:Nat):List α->(List α->Prop)->Prop:=
 Nat.rec (λ_ K=>K [])
  (λ_ ih l K=>match l with|[]=>False|a::r=>ih r λt=>K (a::t)) n
noncomputable def Ii(n:Nat):List α->(List α->Prop)->Prop:=
 Nat.rec (λl K=>K l)
  (λ_ ih l K=>match l with|[]=>False|_::r=>ih r K) n
noncomputable def GR(new:List α)(l:List α):Nat->(List α->Prop)->Prop:=
 List.rec
  (λi K=>match i,new with|0,[]=>K []|_,_=>False)
  (λa r ih i K=>Nat.rec
    (List.rec (λl K=>K l)
      (λx _ ih l K=>match l with|[]=>False|_::r=>ih r λt=>K (x::t)) new (a::r) K)
    (λj _=>ih j λt=>K (a::t)) i) l
noncomputable def wu(l:List α):Nat->α->(List α->Prop)->Prop:=
 List.rec (λ_ _ _=>False)
  (λa r ih i x K=>Nat.rec (K (x::r)) (λj _=>ih j x λt=>K (a::t)) i) l
noncomputable def gD(l:List α)(x:α):(List α->Prop)->Prop:=
 List.rec (λK=>K [x]) (λa _ ih K=>ih λt=>K (a::t)) l
noncomputable def pf(l:List α):(Nat->Prop)->Prop:=
 List.rec (λK=>K 0) (λ_ _ ih K=>ih λn=>K (Nat.succ n)) l
end
noncomputable def look(p:Nat)(K:AV->Prop)(e:Env):Prop:=
 List.rec (K .bad) (λhd _ ih=>Bool.rec ih (K hd.2) (Nat.beq hd.1 p)) e
def GO:Value->AV
 | .bool b=>.pv (.bool b)
 | .int k n=>.pv (.int k n)
 | .string s=>.pv (.str s.data.toList)
 | .slice none 0 0=>.pv (.nil 0)
 | .agg _=>.bad
 | .tuple _=>.bad
 |v=>.pv (.val v)
noncomputable def ev(env:Env)(o:Operand)(K:AV->Prop):Prop:=
 match o with
 | .tmp t=>look t K env
 | .const v=>K (GO v)
 | .global _=>K .bad
 | .func f=>K (.pv (.clo f []))
noncomputable def uT(env:Env)(l:List Operand):(List AV->Prop)->Prop:=
 List.rec (λK=>K []) (λo _ ih K=>ev env o λa=>ih λl=>K (a::l)) l
def PV.cells:PV->List PV
 | .agg cs=>cs
 |x=>[x]
def afE(ag:Bool)(cs:List PV)(K:PV->Prop):Prop:=
 match ag with
 |true=>K (.agg cs)
 |false=>match cs with
  |[x]=>K x
  |_=>False
def cut{α:Type}(l h:Nat)(xs:List α):List α:=(xs.take h).drop l
def YG(sz lo n:Nat)(b:dC)(K:List PV->Prop):Prop:=
 match b with
 | .row _ s _ aC=>match Nat.beq s sz with
  |true=>lo+n<=aC.length/\K (cut lo (lo+n) aC)
  |false=>False
 | .fz x=>match x with
  | .sl s aC=>match Nat.beq s sz with
   |true=>lo+n<=aC.length/\K (cut lo (lo+n) aC)
   |false=>False
  |_=>False
 |_=>False
noncomputable def G_(l:List AV):(List PV->Prop)->Prop->Prop:=
 List.rec (λK _=>K [])
  (λa _ ih K E=>match a with| .pv x=>ih (λt=>K (x::t)) E|_=>E) l
noncomputable def qm(cs:List PV)(K:PV->Prop):Prop:=
 match cs with
 |[]=>K (.agg [])
 |c::r=>match r with
  |[]=>match c with
   | .agg _=>False
   |c=>K c
  |d::r=>K (.agg (c::d::r))
noncomputable def adh(b:dC)(K:PV->Prop):Prop:=
 match b with
 | .box _ cs=>G_ cs (λxs=>qm xs λx=>K (.cptr x)) False
 |_=>False
noncomputable def jD(σ:aF)(a:AV)(K:PV->Prop):Prop:=
 AV.rec (motive_1:=λ_=>(PV->Prop)->Prop) (motive_2:=λ_=>(List PV->Prop)->Prop)
  (λ_=>False)
  (λx K=>K x)
  (λid K=>g_ σ id λb=>match b with
    | .row _ sz _ aC=>K (.sl sz aC)
    | .fz x=>K x
    |_=>False)
  (λid idx off K=>match idx,off with
    |0,0=>g_ σ id λb=>adh b K
    |_,_=>False)
  (λid sz lo n K=>g_ σ id λb=>YG sz lo n b λaC=>K (.sl sz aC))
  (λ_ ih K=>ih λl=>K (.agg l))
  (λ_ ih K=>ih λl=>K (.tup l))
  (λ_ _ _ _=>False)
  (λK=>K [])
  (λ_ _ h t K=>h λx=>t λl=>K (x::l)) a K
noncomputable def aQ(σ:aF)(l:List AV):(List PV->Prop)->Prop:=
 List.rec (λK=>K []) (λa _ ih K=>jD σ a λx=>ih λl=>K (x::l)) l
noncomputable def lP(a:AV):aF->(aF->Prop)->Prop:=
 AV.rec (motive_1:=λ_=>aF->(aF->Prop)->Prop) (motive_2:=λ_=>aF->(aF->Prop)->Prop)
  (λ_ _=>False)
  (λ_ σ K=>K σ)
  (λid σ K=>g_ σ id λb=>match b with
    | .row _ sz _ aC=>wu σ id (.fz (.sl sz aC)) K
    | .fz _=>K σ
    |_=>False)
  (λ_ _ _ _ _=>False)
  (λid _ _ _ σ K=>g_ σ id λb=>match b with
    | .row _ sz _ aC=>wu σ id (.fz (.sl sz aC)) K
    | .fz _=>K σ
    |_=>False)
  (λ_ ih σ K=>ih σ K)
  (λ_ ih σ K=>ih σ K)
  (λ_ _ _ _ _=>False)
  (λσ K=>K σ)
  (λ_ _ h t σ K=>h σ λσ=>t σ K) a
noncomputable def fX(l:List AV):aF->(aF->Prop)->Prop:=
 List.rec (λσ K=>K σ) (λa _ ih σ K=>lP a σ λσ=>ih σ K) l
noncomputable def sW(r:RV):aF->(AV->aF->Prop)->Prop:=
 RV.rec (motive_1:=λ_=>aF->(AV->aF->Prop)->Prop) (motive_2:=λ_=>aF->(List AV->aF->Prop)->Prop)
  (λx σ K=>K (.pv x) σ)
  (λe sz aC σ K=>pf σ λn=>gD σ (.row e sz true aC) λσ=>K (.own n) σ)
  (λe sz aC σ K=>pf σ λn=>gD σ (.row e sz false aC) λσ=>K (.own n) σ)
  (λ_ ih σ K=>ih σ λl σ=>K (.agg l) σ)
  (λ_ ih σ K=>ih σ λl σ=>K (.tup l) σ)
  (λl σ K=>pf σ λn=>gD σ (.mp l) λσ=>K (.own n) σ)
  (λσ K=>K [] σ)
  (λ_ _ h t σ K=>h σ λa σ=>t σ λl σ=>K (a::l) σ) r
structure Spec where
 lone:Bool
 fn:Bool
 run:List PV->(RV->Prop)->Prop
 iter:List PV->List (List PV)->Prop
 mu:Bool
 qS:List AV->aF->(AV->aF->Prop)->Prop
 dt:Bool:=false
 XH:dt=true->mu=false∧∀ps K,run ps K→∃r,K r∧∀K':RV->Prop,K' r->run ps K':=by intro h;cases h
def EM(lone fn:Bool)(run:List PV->(RV->Prop)->Prop):Spec where
 lone:=lone
 fn:=fn
 run:=run
 iter:=λ_ _=>False
 mu:=false
 qS:=λ_ _ _=>False
def sB(qS:List AV->aF->(AV->aF->Prop)->Prop):Spec where
 lone:=false
 fn:=false
 run:=λ_ _=>False
 iter:=λ_ _=>False
 mu:=true
 qS:=qS
def c8(lone:Bool)(R:List PV->RV->Prop):Spec where
 lone:=lone
 fn:=false
 run:=λps K=>∃r,R ps r/\K r
 iter:=λ_ _=>False
 mu:=false
 qS:=λ_ _ _=>False
 dt:=true
 XH:=λ_=>⟨rfl,λ_ _ ⟨r,h1,h2⟩=>⟨r,h2,λ_ h=>⟨r,h1,h⟩⟩⟩
abbrev Ctx:=FuncId->Spec
def Bg(p:Prop)(K:PV->Prop):Prop:=∀r:Bool,(r=true↔p)->K (.bool r)
def agQ(k:IntKind)(n:Int)(K:PV->Prop):Prop:=∀r:Int,r=k.wrap n->K (.int k r)
def iz(op:BinOp)(k:IntKind)(x y:Int):Int:=
 let a:=BitVec.ofInt k.bits x
 let b:=BitVec.ofInt k.bits y
 match op with
 | .and=>k.wrap (a&&&b).toNat
 | .or=>k.wrap (a|||b).toNat
 | .xor=>k.wrap (a^^^b).toNat
 |_=>k.wrap (a&&& ~~~b).toNat
def atB(op:BinOp)(k:IntKind)(a b:Int)(K:PV->Prop):Prop:=
 match op with
 | .add=>agQ k (a+b) K
 | .sub=>agQ k (a-b) K
 | .mul=>agQ k (a*b) K
 | .quo=>b≠0/\agQ k (a.tdiv b) K
 | .rem=>b≠0∧∀r:Int,r=a.tmod b->K (.int k r)
 | .and=>∀r:Int,r=iz .and k a b->K (.int k r)
 | .or=>∀r:Int,r=iz .or k a b->K (.int k r)
 | .xor=>∀r:Int,r=iz .xor k a b->K (.int k r)
 | .andNot=>∀r:Int,r=iz .andNot k a b->K (.int k r)
 | .eql=>Bg (a=b) K
 | .neq=>Bg (a≠b) K
 | .lss=>Bg (a<b) K
 | .leq=>Bg (a<=b) K
 | .gtr=>Bg (b<a) K
 | .geq=>Bg (b<=a) K
 | .shl=>0<=b∧∀r:Int,r=k.wrap (a*2^min b.toNat k.bits)->K (.int k r)
 | .shr=>0<=b∧∀r:Int,r=a.fdiv (2^min b.toNat k.bits)->K (.int k r)
def sameKind(op:BinOp)(k j:IntKind):Bool:=
 match op with
 | .shl| .shr=>true
 |_=>Nat.beq k.ctorIdx j.ctorIdx
def ax6(op:BinOp)(x y:PV)(K:PV->Prop):Prop:=
 match x,y with
 | .int k a,.int j b=>match sameKind op k j with
  |true=>atB op k a b K
  |false=>False
 | .str a,.str b=>match op with
  | .add=>((a.length+b.length:Nat):Int)<=9223372036854775807/\K (.str (a++b))
  | .eql=>Bg (a=b) K
  | .neq=>Bg (a≠b) K
  | .lss=>Bg (Op.bytesLess a b=true) K
  | .leq=>Bg (Op.bytesLess a b=true\/a=b) K
  | .gtr=>Bg (¬(Op.bytesLess a b=true\/a=b)) K
  | .geq=>Bg (¬Op.bytesLess a b=true) K
  |_=>False
 |_,_=>False
def my(op:UnOp)(x:PV)(K:PV->Prop):Prop:=
 match op,x with
 | .not,.bool b=>Bg (b=false) K
 | .neg,.int k n=>agQ k (0-n) K
 |_,_=>False
def Mb(k:Nat)(a b:PV):Bool:=
 match a,b with
 | .int i _,.int j _=>match k with|0=>decide (i=j)|_=>false
 | .str _,.str _=>match k with|1=>true|_=>false
 | .bool _,.bool _=>match k with|2=>true|_=>false
 |_,_=>false
noncomputable def v_(ks:List Nat):List PV->List PV->Bool:=
 List.rec (λa b=>match a,b with|[],[]=>true|_,_=>false)
  (λk _ ih a b=>match a,b with
    |x::a,y::b=>match Mb k x y with|true=>ih a b|false=>false
    |_,_=>false) ks
def aL(b:UInt8):PV:=.int .u8 b.toNat
noncomputable def Ef(σ:aF)(a:AV)(K:Nat->List PV->Prop):Prop:=
 match a with
 | .pv x=>match x with
  | .sl sz aC=>K sz aC
  | .nil sz=>K sz []
  |_=>False
 | .own id=>g_ σ id λb=>match b with
  | .row _ sz _ aC=>K sz aC
  | .fz x=>match x with
   | .sl sz aC=>K sz aC
   |_=>False
  |_=>False
 | .sub id sz lo n=>g_ σ id λb=>YG sz lo n b λaC=>K sz aC
 |_=>False
def CK(n:Nat)(hi:Option AV)(K:Nat->Prop):Prop:=
 match hi with
 |none=>K n
 |some a=>match a with
  | .pv x=>match x with
   | .int _ h=>(0<=h/\h<=n)/\K h.toNat
   |_=>False
  |_=>False
def iJ(n:Nat)(lo hi:Option AV)(K:Nat->Nat->Prop):Prop:=
 match lo with
 |none=>CK n hi λh=>K 0 h
 |some a=>match a with
  | .pv x=>match x with
   | .int _ l=>CK n hi λh=>(0<=l/\l<=h)/\K l.toNat h
   |_=>False
  |_=>False
noncomputable def yI(env:Env)(o:Option Operand)(K:Option AV->Prop):Prop:=
 match o with
 |none=>K none
 |some x=>ev env x λa=>K (some a)
def asInt(a:AV)(K:IntKind->Int->Prop):Prop:=
 match a with
 | .pv x=>match x with
  | .int k n=>K k n
  |_=>False
 |_=>False
noncomputable def HX(off:Nat)(ag:Bool)(n:Nat)(cs:List PV)(K:PV->Prop):Prop:=
 Ii off cs λr=>J7 n r λt=>afE ag t K
noncomputable def abh(l:List PV):(List AV->Prop)->Prop:=
 List.rec (λK=>K []) (λx _ ih K=>ih λt=>K (.pv x::t)) l
noncomputable def GN(a:AV)(K:List AV->Prop):Prop:=
 match a with
 | .pv x=>match x with
  | .agg cs=>abh cs K
  | .tup _=>False
  |x=>K [.pv x]
 | .agg cs=>K cs
 | .own id=>K [.own id]
 | .ref id idx off=>K [.ref id idx off]
 | .sub id sz lo n=>K [.sub id sz lo n]
 | .clo f jh=>K [.clo f jh]
 |_=>False
noncomputable def aqx(l:List AV)(K:AV->Prop):Prop:=G_ l (λt=>K (.pv (.agg t))) (K (.agg l))
noncomputable def Nz(ag:Bool)(cs:List AV)(K:AV->Prop):Prop:=
 match ag with
 |true=>aqx cs K
 |false=>match cs with
  |[x]=>K x
  |_=>False
noncomputable def Nw(σ:aF)(ag:Bool)(n:Nat)(a:AV)(K:AV->Prop):Prop:=
 match a with
 | .pv x=>match x with
  | .cptr y=>HX 0 ag n y.cells λr=>K (.pv r)
  |_=>False
 | .ref id idx off=>g_ σ id λb=>match b with
  | .row _ _ _ aC=>∃y,aC[idx]?=some y/\HX off ag n y.cells λr=>K (.pv r)
  | .box _ cs=>Ii off cs λr=>J7 n r λt=>Nz ag t K
  | .fz x=>match x with
   | .cptr y=>HX off ag n y.cells λr=>K (.pv r)
   |_=>False
  |_=>False
 |_=>False
noncomputable def ahB(sz:Nat)(xs:List PV):Bool:=
 List.rec true (λx _ ih=>match x with
  | .tup _=>false
  |x=>match Nat.beq x.cells.length sz with
   |true=>ih
   |false=>false) xs
def akT(y:PV)(cs:List PV)(K:PV->Prop):Prop:=
 match y with
 | .agg _=>K (.agg cs)
 |_=>match cs with
  |[x]=>K x
  |_=>False
noncomputable def aaL(σ:aF)(n:Nat)(a v:AV)(K:aF->Prop):Prop:=
 match a with
 | .ref id idx off=>g_ σ id λb=>match b with
  | .row _ _ _ _=>jD σ v λx=>lP v σ λσ=>g_ σ id λb=>match b with
   | .row e sz ap aC=>∃y,aC[idx]?=some y/\ahB n [x]=true/\GR x.cells y.cells off λcs=>akT y cs λy'=>wu σ id (.row e sz ap (aC.set idx y')) K
   |_=>False
  | .box e cs=>GN v λvs=>vs.length=n/\GR vs cs off λcs=>wu σ id (.box e cs) K
  |_=>False
 |_=>False
noncomputable def Vc(σ:aF)(sz:Nat)(a:AV)(i:Int)(K:AV->Prop):Prop:=
 match a with
 | .pv x=>match x with
  | .sl s aC=>match Nat.beq s sz with
   |true=>∃y,(0<=i/\aC[i.toNat]?=some y)/\K (.pv (.cptr y))
   |false=>False
  |_=>False
 | .own id=>g_ σ id λb=>match b with
  | .row _ s _ aC=>match Nat.beq s sz with
   |true=>(0<=i/\i.toNat<aC.length)/\K (.ref id i.toNat 0)
   |false=>False
  | .fz x=>match x with
   | .sl s aC=>match Nat.beq s sz with
    |true=>∃y,(0<=i/\aC[i.toNat]?=some y)/\K (.pv (.cptr y))
    |false=>False
   |_=>False
  |_=>False
 | .sub id z lo n=>match Nat.beq z sz with
  |true=>g_ σ id λb=>match b with
   | .row _ s _ aC=>match Nat.beq s sz with
    |true=>((0<=i/\i.toNat<n)/\lo+n<=aC.length)/\K (.ref id (lo+i.toNat) 0)
    |false=>False
   | .fz x=>match x with
    | .sl s aC=>match Nat.beq s sz with
     |true=>∃y,((0<=i/\i.toNat<n/\lo+n<=aC.length)/\aC[lo+i.toNat]?=some y)/\K (.pv (.cptr y))
     |false=>False
    |_=>False
   |_=>False
  |false=>False
 |_=>False
noncomputable def aes(σ:aF)(sz:Nat)(x:AV)(lo hi:Option AV)(K:AV->aF->Prop):Prop:=
 match x with
 | .pv x=>match x with
  | .sl s aC=>match Nat.beq s sz with
   |true=>iJ aC.length lo hi λl h=>K (.pv (.sl sz (cut l h aC))) σ
   |false=>False
  | .nil s=>iJ 0 lo hi λ_ _=>K (.pv (.nil s)) σ
  |_=>False
 | .own id=>g_ σ id λb=>match b with
  | .row _ s _ aC=>match Nat.beq s sz with
   |true=>(iJ aC.length lo hi λl h=>wu σ id (.fz (.sl sz aC)) λσ=>K (.pv (.sl sz (cut l h aC))) σ)\/iJ aC.length lo hi λl h=>K (.sub id sz l (h-l)) σ
   |false=>False
  | .fz x=>match x with
   | .sl s aC=>match Nat.beq s sz with
    |true=>iJ aC.length lo hi λl h=>K (.pv (.sl sz (cut l h aC))) σ
    |false=>False
   |_=>False
  |_=>False
 | .sub id s lo0 n=>match Nat.beq s sz with
  |true=>iJ n lo hi λl h=>K (.sub id sz (lo0+l) (h-l)) σ
  |false=>False
 |_=>False
noncomputable def ay8(σ:aF)(n sz:Nat)(x:AV)(lo hi:Option AV)(K:AV->aF->Prop):Prop:=
 match x with
 | .ref id idx off=>match idx,off with
  |0,0=>g_ σ id λb=>match b with
   | .row _ s _ aC=>match Nat.beq s sz with
    |true=>aC.length=n/\iJ n lo hi λl h=>K (.sub id sz l (h-l)) σ
    |false=>False
   |_=>False
  |_,_=>False
 |_=>False
noncomputable def SO(σ:aF)(n sz:Nat)(x:AV)(i:Int)(K:AV->Prop):Prop:=
 match x with
 | .ref id idx off=>match idx,off with
  |0,0=>g_ σ id λb=>match b with
   | .row _ s _ aC=>match Nat.beq s sz with
    |true=>(aC.length=n/\0<=i/\i.toNat<n)/\K (.ref id i.toNat 0)
    |false=>False
   |_=>False
  |_,_=>False
 |_=>False
noncomputable def NR(σ:aF)(sz:Nat)(x:AV)(ys:List PV)(K:Nat->aF->Prop):Prop:=
 match x with
 | .pv x=>match x with
  | .nil _=>K 0 σ
  |_=>False
 | .own id=>g_ σ id λb=>match b with
  | .row e s ap aC=>match Nat.beq s sz with
   |true=>wu σ id (.row e s ap (ys.take aC.length++aC.drop ys.length)) λσ=>K (min ys.length aC.length) σ
   |false=>False
  |_=>False
 | .sub id s lo n=>match Nat.beq s sz with
  |true=>g_ σ id λb=>match b with
   | .row e s ap aC=>match Nat.beq s sz with
    |true=>lo+n<=aC.length/\wu σ id (.row e s ap (aC.take lo++ys.take n++aC.drop (lo+min ys.length n))) λσ=>K (min ys.length n) σ
    |false=>False
   |_=>False
  |false=>False
 |_=>False
noncomputable def aed(σ:aF)(id:Nat)(p:Prop):Prop:=
 g_ σ id λb=>match b with
  | .row _ _ _ _=>p
  | .box _ _=>p
  | .fz x=>match x with
   | .cptr _=>p
   |_=>False
  |_=>False
noncomputable def UU(σ:aF)(off:Nat)(a:AV)(K:AV->Prop):Prop:=
 match a with
 | .pv x=>match x with
  | .cptr y=>Ii off y.cells λr=>K (.pv (.cptr (.agg r)))
  |_=>False
 | .ref id idx o=>aed σ id (K (.ref id idx (Nat.add o off)))
 |_=>False
noncomputable def aP(l:List (Int×Bool))(n:Int):Option Bool:=
 List.rec none (λp _ ih=>match decide (n=p.1)with|true=>some p.2|false=>ih) l
noncomputable def aor(σ:aF)(c:Bool)(x k:AV)(K:AV->Prop):Prop:=
 match x with
 | .own id=>g_ σ id λb=>match b with
  | .mp l=>match k with
   | .pv y=>match y with
    | .int kd n=>match kd with
     | .i64=>match c with
      |true=>K (.tup [.pv (.bool ((aP l n).getD false)),.pv (.bool (aP l n).isSome)])
      |false=>K (.pv (.bool ((aP l n).getD false)))
     |_=>False
    |_=>False
   |_=>False
  |_=>False
 |_=>False
noncomputable def aGg(σ:aF)(a:AV)(K:Bool->Prop):Prop:=
 match a with
 | .pv x=>match x with
  | .nil _=>K true
  | .sl _ aC=>∀r:Bool,(aC≠[]->r=false)->K r
  |_=>False
 | .own id=>g_ σ id λb=>match b with
  | .row _ _ _ aC=>∀r:Bool,(aC≠[]->r=false)->K r
  | .fz x=>match x with
   | .sl _ aC=>∀r:Bool,(aC≠[]->r=false)->K r
   |_=>False
  |_=>False
 |_=>False
noncomputable def SS(z:List AV)(ps:List (Nat×Nat×AV)):(List AV->Prop)->Prop:=
 List.rec (λz K=>K z)
  (λp _ ih z K=>GN p.2.2 λvs=>vs.length=p.2.1/\GR vs z p.1 λz=>ih z K) ps z
noncomputable def Me(env:Env)(l:List (Nat×Nat×Operand)):(List (Nat×Nat×AV)->Prop)->Prop:=
 List.rec (λK=>K []) (λo _ ih K=>ev env o.2.2 λa=>ih λl=>K ((o.1,o.2.1,a)::l)) l
noncomputable def alB(σ:aF)(e:TypeId)(sz bytes:Nat)(x:AV)(ys:List PV)(K:AV->aF->Prop):Prop:=
 match x with
 | .pv x=>match x with
  | .nil _=>(ys.length*bytes<=140737488355328/\ys.length<=9223372036854775807)/\pf σ λn=>gD σ (.row e sz true ys) λσ=>K (.own n) σ
  |_=>False
 | .own id=>g_ σ id λb=>match b with
  | .row e' s ap aC=>match ap,Nat.beq s sz,Nat.beq e' e with
   |true,true,true=>((aC.length+ys.length)*bytes<=140737488355328/\aC.length+ys.length<=9223372036854775807)/\
    wu σ id .dead λσ=>pf σ λn=>gD σ (.row e sz true (aC++ys)) λσ=>K (.own n) σ
   |_,_,_=>False
  |_=>False
 |_=>False
noncomputable def Ho(l:List AV):aF->(List PV->aF->Prop)->Prop:=
 List.rec (λσ K=>K [] σ) (λa _ ih σ K=>match a with
  | .ref id _ off=>g_ σ id λb=>match b,off with
   | .box _ cs,0=>aQ σ cs λt=>qm t λx=>fX cs σ λσ=>wu σ id (.fz (.cptr x)) λσ=>ih σ λxs σ=>K (.cptr x::xs) σ
   | .fz x,0=>match x with
    | .cptr y=>ih σ λxs σ=>K (.cptr y::xs) σ
    |_=>False
   |_,_=>False
  | .pv x=>match x with
   | .cptr y=>ih σ λxs σ=>K (.cptr y::xs) σ
   |_=>False
  |_=>False) l
noncomputable def afB(n:Nat)(l:List Nat):Bool:=List.rec false (λa _ ih=>Bool.rec ih true (Nat.beq a n)) l
noncomputable def ahX(n:Nat)(l:List Nat)(K:List Nat->Prop):Prop:=Bool.rec (gD l n K) (K l) (afB n l)
noncomputable def anT(a:AV):List Nat->(List Nat->Prop)->Prop:=
 AV.rec (motive_1:=λ_=>List Nat->(List Nat->Prop)->Prop) (motive_2:=λ_=>List Nat->(List Nat->Prop)->Prop)
  (λl K=>K l) (λ_ l K=>K l) (λid l K=>ahX id l K) (λid _ _ l K=>ahX id l K) (λid _ _ _ l K=>ahX id l K)
  (λ_ ih l K=>ih l K) (λ_ ih l K=>ih l K) (λ_ _ ih l K=>ih l K) (λl K=>K l) (λ_ _ h t l K=>h l λl=>t l K) a
noncomputable def abE(aLq:List AV):List Nat->(List Nat->Prop)->Prop:=
 List.rec (λl K=>K l) (λa _ ih l K=>anT a l λl=>ih l K) aLq
noncomputable def arX(e:Env):List Nat->(List Nat->Prop)->Prop:=
 List.rec (λl K=>K l) (λa _ ih l K=>anT a.2 l λl=>ih l K) e
noncomputable def X_(σ:aF)(r:List Nat):List Nat->(List Nat->Prop)->Prop:=
 List.rec (λl K=>K l)
  (λi _ ih l K=>g_ σ i λb=>match b with
    | .box _ cs=>abE cs l λl=>ih l K
    |_=>ih l K) r
noncomputable def Kl(n:Nat)(l:List Nat):(Nat->Prop)->Prop->Prop:=
 List.rec (λ_ E=>E)
  (λa _ ih K E=>Bool.rec (ih (λj=>K (Nat.succ j)) E) (K 0) (Nat.beq a n)) l
noncomputable def anH(r:List Nat)(a:AV):(AV->Prop)->Prop:=
 AV.rec (motive_1:=λ_=>(AV->Prop)->Prop) (motive_2:=λ_=>(List AV->Prop)->Prop)
  (λK=>K .bad) (λx K=>K (.pv x)) (λid K=>Kl id r (λj=>K (.own j)) False) (λid i o K=>Kl id r (λj=>K (.ref j i o)) False) (λid s l n K=>Kl id r (λj=>K (.sub j s l n)) False)
  (λ_ ih K=>ih λl=>K (.agg l)) (λ_ ih K=>ih λl=>K (.tup l)) (λf _ ih K=>ih λl=>K (.clo f l)) (λK=>K []) (λ_ _ h t K=>h λa=>t λl=>K (a::l)) a
noncomputable def Zk(r:List Nat)(l:List AV):(List AV->Prop)->Prop:=
 List.rec (λK=>K []) (λa _ ih K=>anH r a λa=>ih λl=>K (a::l)) l
noncomputable def auJ(r:List Nat)(e:Env):(Env->Prop)->Prop:=
 List.rec (λK=>K []) (λa _ ih K=>anH r a.2 λv=>ih λl=>K ((a.1,v)::l)) e
noncomputable def au3(r:List Nat)(b:dC)(K:dC->Prop):Prop:=
 match b with
 | .box e cs=>Zk r cs λcs=>K (.box e cs)
 |b=>K b
noncomputable def aap(σ:aF)(r l:List Nat):(aF->Prop)->Prop:=
 List.rec (λK=>K []) (λi _ ih K=>g_ σ i λb=>au3 r b λb=>ih λt=>K (b::t)) l
noncomputable def aEQ(σ:aF):List Nat->Nat->(List Nat->Prop)->Prop:=
 List.rec (λ_ _ K=>K [])
  (λ_ _ ih r L K=>match r with
    |a::r=>ih r L λt=>K (a::t)
    |[]=>ih [] (Nat.succ L) λt=>K (L::t)) σ
noncomputable def ax_(ρ:List Nat)(a:AV):(AV->Prop)->Prop:=
 AV.rec (motive_1:=λ_=>(AV->Prop)->Prop) (motive_2:=λ_=>(List AV->Prop)->Prop)
  (λK=>K .bad) (λx K=>K (.pv x)) (λid K=>g_ ρ id λj=>K (.own j)) (λid i o K=>g_ ρ id λj=>K (.ref j i o)) (λid s l n K=>g_ ρ id λj=>K (.sub j s l n))
  (λ_ ih K=>ih λl=>K (.agg l)) (λ_ ih K=>ih λl=>K (.tup l)) (λf _ ih K=>ih λl=>K (.clo f l)) (λK=>K []) (λ_ _ h t K=>h λa=>t λl=>K (a::l)) a
noncomputable def ayT(ρ:List Nat)(l:List AV):(List AV->Prop)->Prop:=
 List.rec (λK=>K []) (λa _ ih K=>ax_ ρ a λa=>ih λl=>K (a::l)) l
noncomputable def azi(ρ:List Nat)(b:dC)(K:dC->Prop):Prop:=
 match b with
 | .box e cs=>ayT ρ cs λcs=>K (.box e cs)
 |b=>K b
noncomputable def anJ(ρ:List Nat)(σ1:aF):List Nat->aF->(aF->Prop)->Prop:=
 List.rec (λ_ σ K=>K σ)
  (λb _ ih r σ K=>azi ρ b λb=>match r with
    |a::r=>wu σ a b λσ=>ih r σ K
    |[]=>gD σ b λσ=>ih [] σ K) σ1
noncomputable def aFp(r:List Nat)(σ:aF)(res:AV)(σ1:aF)(K:AV->aF->Prop):Prop:=
 pf σ λL=>aEQ σ1 r L λρ=>ax_ ρ res λres=>anJ ρ σ1 r σ λσ=>K res σ
noncomputable def auN(run:List AV->aF->(AV->aF->Prop)->Prop)(aLq:List AV)(σ:aF)(K:AV->aF->Prop):Prop:=
 abE aLq [] λl=>X_ σ l l λr=>Zk r aLq λD7=>aap σ r r λσ0=>run D7 σ0 λres σ1=>aFp r σ res σ1 K
noncomputable def J1(S:Spec)(aLq:List AV)(σ:aF)(K:AV->aF->Prop):Prop:=
 match S.mu with
 |true=>auN S.qS aLq σ K
 |false=>aQ σ aLq λps=>match S.lone with
  |true=>S.run ps λr=>sW r σ K
  |false=>fX aLq σ λσ=>S.run ps λr=>sW r σ K
noncomputable def asj(l m:List AV):(List AV->Prop)->Prop:=
 List.rec (λK=>K m) (λa _ ih K=>ih λt=>K (a::t)) l
noncomputable def abB(Γ:Ctx)(f:AV)(aLq:List AV)(σ:aF)(K:AV->aF->Prop):Prop:=
 match f with
 | .pv x=>match x with
  | .clo g jh=>abh jh λcs=>asj aLq cs λaLq=>J1 (Γ g) aLq σ K
  |_=>False
 | .clo g cs=>asj aLq cs λaLq=>J1 (Γ g) aLq σ K
 |_=>False
noncomputable def sn(Γ:Ctx)(env:Env)(σ:aF)(k:PK)(K:AV->aF->Prop):Prop:=
 match k with
 | .mv x=>ev env x λa=>K a σ
 | .nilS sz=>K (.pv (.nil sz)) σ
 | .nilR e sz=>pf σ λn=>gD σ (.row e sz true []) λσ=>K (.own n) σ
 | .pick c a b=>ev env c λc=>match c with
  | .pv c=>match c with
   | .bool c=>match c with
    |true=>ev env a λa=>K a σ
    |false=>ev env b λa=>K a σ
   |_=>False
  |_=>False
 | .bin op x y=>ev env x λx=>ev env y λy=>match x,y with
  | .pv x,.pv y=>ax6 op x y λr=>K (.pv r) σ
  |_,_=>False
 | .eqb neg x y=>ev env x λx=>ev env y λy=>match x,y with
  | .pv x,.pv y=>match x,y with
   | .bool a,.bool b=>match neg with
    |false=>Bg (a=b) λr=>K (.pv r) σ
    |true=>Bg (a≠b) λr=>K (.pv r) σ
   |_,_=>False
  |_,_=>False
 | .eqs neg ks x y=>ev env x λx=>ev env y λy=>match x,y with
  | .pv x,.pv y=>match x,y with
   | .agg a,.agg b=>match v_ ks a b with
    |true=>match neg with
     |false=>Bg (a=b) λr=>K (.pv r) σ
     |true=>Bg (a≠b) λr=>K (.pv r) σ
    |false=>False
   |_,_=>False
  |_,_=>False
 | .un op x=>ev env x λx=>match x with
  | .pv x=>my op x λr=>K (.pv r) σ
  |_=>False
 | .conv c x=>ev env x λx=>match c with
  | .toInt k=>asInt x λ_ n=>agQ k n λr=>K (.pv r) σ
  | .same=>match x with
   | .pv x=>match x with
    | .str l=>K (.pv (.str l)) σ
    |_=>False
   |_=>False
  | .bts=>Ef σ x λ_ aC=>∃l:List UInt8,aC=l.map aL/\K (.pv (.str l)) σ
  | .stb e=>match x with
   | .pv x=>match x with
    | .str l=>l.length<=9223372036854775807/\pf σ λn=>gD σ (.row e 1 false (l.map aL)) λσ=>K (.own n) σ
    |_=>False
   |_=>False
 | .lenS x=>ev env x λx=>match x with
  | .pv x=>match x with
   | .str l=>K (.pv (.int .i64 l.length)) σ
   |_=>False
  |_=>False
 | .lenR x=>ev env x λx=>Ef σ x λ_ aC=>aC.length<=9223372036854775807->K (.pv (.int .i64 aC.length)) σ
 | .lenN x=>ev env x λx=>Ef σ x λ_ aC=>K (.pv (.int .i64 aC.length)) σ
 | .mm mx x y=>ev env x λx=>ev env y λy=>asInt x λk a=>asInt y λ_ b=>
  match mx with
  |true=>∀r:Int,r=max a b->K (.pv (.int k r)) σ
  |false=>∀r:Int,r=min a b->K (.pv (.int k r)) σ
 | .idx x i=>ev env x λx=>ev env i λi=>asInt i λ_ i=>match x with
  | .pv x=>match x with
   | .str l=>∃b,(0<=i/\l[i.toNat]?=some b)/\K (.pv (aL b)) σ
   |_=>False
  |_=>False
 | .slcS x lo hi=>ev env x λx=>yI env lo λlo=>yI env hi λhi=>match x with
  | .pv x=>match x with
   | .str s=>iJ s.length lo hi λl h=>K (.pv (.str (cut l h s))) σ
   |_=>False
  |_=>False
 | .slcR sz x lo hi=>ev env x λx=>yI env lo λlo=>yI env hi λhi=>aes σ sz x lo hi K
 | .idxA sz x i=>ev env x λx=>ev env i λi=>asInt i λ_ i=>Vc σ sz x i λa=>K a σ
 | .fldA off x=>ev env x λx=>UU σ off x λa=>K a σ
 | .fld off ag n x=>ev env x λx=>match x with
  | .pv x=>match x with
   | .agg cs=>HX off ag n cs λr=>K (.pv r) σ
   |_=>False
  | .agg cs=>Ii off cs λr=>J7 n r λt=>Nz ag t λa=>K a σ
  |_=>False
 | .load ag n x=>ev env x λx=>Nw σ ag n x λa=>K a σ
 | .store n x v=>ev env x λx=>ev env v λv=>aaL σ n x v λσ=>K .bad σ
 | .alloc e z=>abh z.cells λcs=>pf σ λn=>gD σ (.box e cs) λσ=>K (.ref n 0 0) σ
 | .box e x=>ev env x λx=>GN x λcs=>pf σ λn=>gD σ (.box e cs) λσ=>K (.ref n 0 0) σ
 | .build z parts=>Me env parts λps=>abh z λz=>SS z ps λcs=>aqx cs λa=>K a σ
 | .bslice e sz parts=>uT env parts λaLq=>aQ σ aLq λxs=>ahB sz xs=true/\fX aLq σ λσ=>pf σ λn=>gD σ (.row e sz true xs) λσ=>K (.own n) σ
 | .bslP e sz parts=>uT env parts λaLq=>aQ σ aLq λxs=>ahB sz xs=true/\fX aLq σ λσ=>pf σ λn=>gD σ (.row e sz true xs) λσ=>K (.own n) σ
 | .app e sz bytes x y=>ev env x λx=>ev env y λy=>Ef σ y λs ys=>match Nat.beq s sz with
  |true=>alB σ e sz bytes x ys K
  |false=>False
 | .appS e bytes x y=>ev env x λx=>ev env y λy=>match y with
  | .pv y=>match y with
   | .str l=>alB σ e 1 bytes x (l.map aL) K
   |_=>False
  |_=>False
 | .mksl e sz bytes z l c=>ev env l λl=>ev env c λc=>asInt l λ_ l=>asInt c λ_ c=>
  (0<=l/\l<=c/\(bytes:Int)*c<=281474976710656/\c<=9223372036854775807)/\pf σ λn=>gD σ (.row e sz true (List.replicate l.toNat z)) λσ=>K (.own n) σ
 | .call f args=>uT env args λaLq=>J1 (Γ f) aLq σ K
 | .callv f args=>ev env f λf=>uT env args λaLq=>abB Γ f aLq σ K
 | .ext x i=>ev env x λx=>match x with
  | .tup l=>g_ l i λa=>K a σ
  | .pv x=>match x with
   | .tup l=>g_ l i λa=>K (.pv a) σ
   |_=>False
  |_=>False
 | .nilck x=>ev env x λx=>match x with
  | .ref id idx off=>aed σ id (K (.ref id idx off) σ)
  | .pv x=>match x with
   | .cptr y=>K (.pv (.cptr y)) σ
   | .clo f cs=>K (.pv (.clo f cs)) σ
   |_=>False
  | .clo f cs=>K (.clo f cs) σ
  |_=>False
 | .mkf f jh=>uT env jh λaLq=>match (Γ f).mu with
  |true=>K (.clo f aLq) σ
  |false=>Ho aLq σ λxs σ=>K (.pv (.clo f xs)) σ
 | .fail=>False
 | .junk=>K .bad σ
 | .cpy sz x y=>ev env x λx=>ev env y λy=>Ef σ y λs ys=>match Nat.beq s sz with
  |true=>NR σ sz x ys λn σ=>K (.pv (.int .i64 n)) σ
  |false=>False
 | .cpyS x y=>ev env x λx=>ev env y λy=>match y with
  | .pv y=>match y with
   | .str l=>NR σ 1 x (l.map aL) λn σ=>K (.pv (.int .i64 n)) σ
   |_=>False
  |_=>False
 | .clr sz z x=>ev env x λx=>Ef σ x λ_ aC=>NR σ sz x (List.replicate aC.length z) λ_ σ=>K .bad σ
 | .mkarr e sz z n=>pf σ λm=>gD σ (.row e sz false (List.replicate n z)) λσ=>K (.ref m 0 0) σ
 | .idxAr n sz x i=>ev env x λx=>ev env i λi=>asInt i λ_ i=>SO σ n sz x i λa=>K a σ
 | .slcA n sz x lo hi=>ev env x λx=>yI env lo λlo=>yI env hi λhi=>ay8 σ n sz x lo hi K
 | .look c x k=>ev env x λx=>ev env k λk=>aor σ c x k λr=>K r σ
 | .isnil neg x=>ev env x λx=>aGg σ x λr=>K (.pv (.bool (xor r neg))) σ
 | .idxV m sz ag n x i=>ev env x λx=>ev env i λi=>asInt i λ_ i=>(0<=i/\i.toNat<m)/\match x with
  | .pv x=>match x with
   | .agg cs=>HX (Nat.mul i.toNat sz) ag n cs λr=>K (.pv r) σ
   |_=>False
  | .agg cs=>Ii (Nat.mul i.toNat sz) cs λr=>J7 n r λt=>Nz ag t λa=>K a σ
  |_=>False
 | .fldV m sz x i=>ev env x λx=>ev env i λi=>asInt i λ_ i=>(0<=i/\i.toNat<m)/\UU σ (Nat.mul i.toNat sz) x λa=>K a σ
def put(d:Option Nat)(v:AV)(env:Env):Env:=match d with|some d=>(d,v)::env|none=>env
noncomputable def X5(Γ:Ctx)(K:Env->aF->Prop)(ops:List PO):Env->aF->Prop:=
 List.rec K (λo _ ih env σ=>
  match o.g with
  |none=>sn Γ env σ o.k λv σ=>ih (put o.dst v env) σ
  |some (g,want)=>look g (λgv=>match gv with
   | .pv x=>match x with
    | .bool b=>match b with
     |true=>(match want with
      |true=>sn Γ env σ o.k λv σ=>ih (put o.dst v env) σ
      |false=>ih (put o.dst (.pv (.tup [])) env) σ)
     |false=>(match want with
      |false=>sn Γ env σ o.k λv σ=>ih (put o.dst v env) σ
      |true=>ih (put o.dst (.pv (.tup [])) env) σ)
    | .tup _=>ih (put o.dst (.pv (.tup [])) env) σ
    |_=>False
   |_=>False) env) ops
noncomputable def ay5(Γ:Ctx)(o:PO)(env:Env)(σ:aF)(K:Env->aF->Prop):Prop:=
 match o.g with
 |none=>sn Γ env σ o.k λv σ=>K (put o.dst v env) σ
 |some (g,want)=>look g (λgv=>match gv with
  | .pv x=>match x with
   | .bool b=>match b with
    |true=>(match want with
     |true=>sn Γ env σ o.k λv σ=>K (put o.dst v env) σ
     |false=>K (put o.dst (.pv (.tup [])) env) σ)
    |false=>(match want with
     |false=>sn Γ env σ o.k λv σ=>K (put o.dst v env) σ
     |true=>K (put o.dst (.pv (.tup [])) env) σ)
   | .tup _=>K (put o.dst (.pv (.tup [])) env) σ
   |_=>False
  |_=>False) env
noncomputable def aiv(p:Nat)(e:Env):AV:=
 List.rec .bad (λhd _ ih=>Bool.rec ih hd.2 (Nat.beq hd.1 p)) e
def q_:Operand->List Nat
 | .tmp t=>[t]
 |_=>[]
def oe:Option Operand->List Nat
 |some x=>q_ x
 |none=>[]
def PK.reads:PK->List Nat
 | .mv x| .un _ x| .conv _ x| .lenS x| .lenR x| .lenN x| .fldA _ x| .fld _ _ _ x| .load _ _ x| .box _ x| .ext x _| .nilck x=>q_ x
 | .nilS _| .nilR _ _| .alloc _ _| .fail| .junk| .mkarr _ _ _ _=>[]
 | .cpy _ x y| .cpyS x y| .idxAr _ _ x y=>q_ x++q_ y
 | .clr _ _ x=>q_ x
 | .isnil _ x=>q_ x
 | .look _ x y=>q_ x++q_ y
 | .idxV _ _ _ _ x y| .fldV _ _ x y=>q_ x++q_ y
 | .slcA _ _ x lo hi=>q_ x++(oe lo++oe hi)
 | .pick c a b=>q_ c++(q_ a++q_ b)
 | .bin _ x y| .eqb _ x y| .eqs _ _ x y| .mm _ x y| .idx x y| .idxA _ x y| .store _ x y| .app _ _ _ x y| .appS _ _ x y=>q_ x++q_ y
 | .mksl _ _ _ _ x y=>q_ x++q_ y
 | .slcS x lo hi| .slcR _ x lo hi=>q_ x++(oe lo++oe hi)
 | .build _ ps=>ps.flatMap λp=>q_ p.2.2
 | .bslice _ _ l| .bslP _ _ l| .call _ l| .mkf _ l=>l.flatMap q_
 | .callv f l=>q_ f++l.flatMap q_
def PK.pure(Γ:Ctx):PK->Bool
 | .mv _| .nilS _| .pick _ _ _| .bin _ _ _| .eqb _ _ _| .eqs _ _ _ _| .un _ _| .lenS _| .lenN _| .mm _ _ _| .idx _ _| .slcS _ _ _| .idxA _ _ _| .idxAr _ _ _ _| .fldA _ _| .fld _ _ _ _| .load _ _ _| .ext _ _| .nilck _| .build _ _| .idxV _ _ _ _ _ _| .fldV _ _ _ _=>true
 | .conv c _=>match c with| .stb _=>false|_=>true
 | .call f _=>(Γ f).fn
 |_=>false
def PK.plain:PK->PK
 | .lenR x=>.lenN x
 | .bslice e sz l=>.bslP e sz l
 |k=>k
def PO.plain(o:PO):PO:=⟨o.dst,o.g,o.k.plain⟩
def PO.reads(o:PO):List Nat:=(match o.g with|some (g,_)=>[g]|none=>[])++o.k.reads
def NC(p o:PO):Bool:=
 (match p.dst with|some d=>o.reads.contains d||(match o.dst with|some e=>d==e|none=>false)|none=>false)||
 (match o.dst with|some d=>p.reads.contains d|none=>false)
def atu(nL:List (List Nat)):List (List Nat):=
 nL.foldl (λacc l=>acc++[(l++l.flatMap λe=>acc.getD e []).eraseDups]) []
def an2(nL bs:List (List Nat)):Bool:=
 nL.zipIdx.all λ(l,i)=>l.all (λe=>Nat.blt e i)&&(bs.getD i []).all λj=>l.contains j||l.any λe=>(bs.getD e []).contains j
def PK.still:PK->Bool
 | .mv _| .nilS _| .pick _ _ _| .bin _ _ _| .eqb _ _ _| .eqs _ _ _ _| .un _ _| .lenS _| .mm _ _ _| .ext _ _=>true
 | .conv c _=>match c with| .toInt _=>true|_=>false
 |_=>false
def PK.al:PK->Bool
 | .alloc _ _| .box _ _=>true
 |_=>false
def Pk(Γ:Ctx)(o p:PO):Bool:=o.k.pure Γ&&p.k.pure Γ
def Tt(Γ:Ctx)(ops:List PO)(nL:List (List Nat)):Bool:=
 let bs:=atu nL
 nL.length==ops.length&&an2 nL bs&&ops.zipIdx.all λ(o,i)=>ops.zipIdx.all λ(p,j)=>
  !Nat.blt j i||(bs.getD i []).contains j||(Pk Γ o p&&!NC p o)
noncomputable def AV.ids(a:AV):List Nat:=
 AV.rec (motive_1:=λ_=>List Nat) (motive_2:=λ_=>List Nat) [] (λ_=>[]) (λid=>[id]) (λid _ _=>[id]) (λid _ _ _=>[id])
  (λ_ ih=>ih) (λ_ ih=>ih) (λ_ _ ih=>ih) [] (λ_ _ h t=>h++t) a
noncomputable def agO(l:List AV):List Nat:=List.rec [] (λa _ ih=>a.ids++ih) l
noncomputable def ak6(env:Env)(l:List Nat):List Nat:=List.rec [] (λt _ ih=>(aiv t env).ids++ih) l
noncomputable def V9(σ:aF)(l:List Nat):List Nat:=List.rec [] (λi _ ih=>(match σ[i]? with|some (.box _ cs)=>agO cs|_=>[])++ih) l
def PK.dk(Γ:Ctx)(k:PK):Bool:=
 k.pure Γ||k.still||k.al||match k with
  | .store _ _ _| .app _ _ _ _ _| .slcR _ _ _ _| .cpy _ _ _| .cpyS _ _| .look _ _ _| .bslP _ _ _=>true
  | .mkf f _=>!(Γ f).mu
  | .call f _=>(Γ f).dt
  |_=>false
def PK.turns(Γ:Ctx)(k:PK):Bool:=
 match k with
  | .store _ _ _| .app _ _ _ _ _| .slcR _ _ _ _| .mkf _ _| .cpy _ _ _| .cpyS _ _| .bslP _ _ _=>true
  | .call f _=>!(Γ f).fn&&!(Γ f).lone
  |_=>false
noncomputable def PK.reach(k:PK)(env:Env)(σ:aF):List Nat:=
 match k.still||k.al with
 |true=>[]
 |false=>match k with
  | .mkf _ _=>ak6 env k.reads++V9 σ (ak6 env k.reads)
  |k=>ak6 env k.reads
abbrev Lg:=Nat×List Nat×List Nat
noncomputable def A5(Γ:Ctx)(K:List Lg->Env->aF->Prop)(ops:List PO):List Lg->Env->aF->Prop:=
 List.rec (λlog env σ=>K log env σ) (λo _ ih log env σ=>
  ay5 Γ o env σ λaal σ'=>ih ((σ'.length,o.k.reach env σ,(match o.dst with|some d=>(aiv d aal).ids|none=>[]))::log) aal σ') ops
def apart(l m:List Nat):Bool:=l.all λi=>!m.contains i
def aE3(n:Nat)(l:List Nat):Bool:=l.all λi=>Nat.blt i n
def ax5(a b:Nat)(l:List Nat):Bool:=l.all λi=>Nat.blt i a||Nat.ble b i
def aei(Γ:Ctx)(ops:List PO)(nL:List (List Nat)):Bool:=nL.length==ops.length&&an2 nL (atu nL)&&ops.all λo=>o.k.dk Γ
def aF_(n0:Nat)(lg:List Lg)(i:Nat):Nat:=match i with|0=>n0|i+1=>(lg.getD i (0,[],[])).1
def aBd(Γ:Ctx)(ops:List PO)(nL:List (List Nat))(n0:Nat)(log:List Lg):Bool:=
 let bs:=atu nL
 let lg:=log.reverse
 let len:=aF_ n0 lg
 let A:=λi=>(lg.getD i (0,[],[])).2.1
 let V:=λi=>(lg.getD i (0,[],[])).2.2
 let M:=λ(i:Nat) (o:PO)=>match o.k.turns Γ with|true=>A i|false=>[]
 ops.zipIdx.all λ(o,i)=>aE3 (len (i+1)) (V i)&&ops.zipIdx.all λ(p,j)=>
  !Nat.blt j i||(bs.getD i []).contains j||(!NC p o&&apart (M j p) (A i)&&ax5 (len j) (len (j+1)) (A i)&&apart (M i o) (A j)&&ax5 (len i) (len (i+1)) (A j)&&ax5 (len j) (len (j+1)) (V i))
noncomputable def canon(env:Env)(ps:List Nat):(Env->Prop)->Prop:=
 List.rec (λK=>K []) (λp _ ih K=>look p (λv=>ih λr=>K ((p,v)::r)) env) ps
noncomputable def gc(pin:List Nat)(env:Env)(σ:aF)(ps:List Nat)(K:Env->aF->Prop):Prop:=
 canon env ps λenv=>arX env pin λl=>X_ σ l l λr=>auJ r env λenv=>aap σ r r λσ=>K env σ
inductive Ex where
 |normal|exit (id:Nat)|ret
def axs(B:Env->aF->Prop)(Q:Ex->Env->aF->Prop):Ex->Env->aF->Prop
 | .normal,e,σ=>B e σ
 | .exit i,e,σ=>Q (.exit i) e σ
 | .ret,e,σ=>Q .ret e σ
def alD(id:Nat)(Q:Ex->Env->aF->Prop):Ex->Env->aF->Prop
 | .exit i,e,σ=>match Nat.beq i id with|true=>Q .normal e σ|false=>Q (.exit i) e σ
 | .normal,e,σ=>Q .normal e σ
 | .ret,e,σ=>Q .ret e σ
noncomputable def auQ(pin ps:List Nat)(B:(Ex->Env->aF->Prop)->Env->aF->Prop)(Q:Ex->Env->aF->Prop)(env:Env)(σ:aF):Prop:=
 ∃(I:Nat->Env->aF->Prop) (n:Nat),I n env σ∧∀n env σ,I n env σ->B (axs (λe σ=>gc pin e σ ps λe' σ'=>∃m,m<n/\I m e' σ') Q) env σ
noncomputable def atS(ps:List Nat):List PV->Env->(Env->Prop)->Prop:=
 List.rec (λxs env K=>match xs with|[]=>K env|_=>False)
  (λp _ ih xs env K=>match xs with|[]=>False|x::xs=>ih xs ((p,.pv x)::env) K) ps
noncomputable def adC(σ:aF):Bool:=List.rec true (λb _ ih=>match b with| .mp _=>false|_=>ih) σ
def at1(pin ps:List Nat)(Q:Ex->Env->aF->Prop)(env:Env)(I:List (List PV)->aF->Prop)(L pre:List (List PV)):Ex->Env->aF->Prop
 | .normal,_,σ=>gc pin env σ ps λaal σ'=>aal=env/\adC σ'=true/\I pre σ'
 | .exit i,_,σ=>adC σ=true/\(pre<+:L->Q (.exit i) env σ)
 | .ret,_,σ=>adC σ=true/\(pre<+:L->Q .ret env σ)
noncomputable def an4(Γ:Ctx)(pin qs ps:List Nat)(avc:List PO)(B:(Ex->Env->aF->Prop)->Env->aF->Prop)(Q:Ex->Env->aF->Prop)(f:AV)(env:Env)(σ0:aF):Prop:=
 match f with
 | .pv x=>match x with
  | .clo g jh=>∃(L:List (List PV)) (I:List (List PV)->aF->Prop),(Γ g).iter jh L/\(∀x∈L,x.length=ps.length)/\(adC σ0=true/\I [] σ0)/\
   (∀pre x σ,x∈L->L[pre.length]?=some x->I pre σ->atS ps x env λaal=>X5 Γ (λaGu σ=>B (at1 (List.range σ0.length) qs Q env I L (pre++[x])) aGu σ) avc aal σ)/\
   ∀σ,I L σ->Q .normal env σ
  |_=>False
 |_=>False
noncomputable def sC(l:List AV):Bool:=List.rec true (λa _ ih=>match a with
 | .pv x=>match x with
  | .agg _=>false
  |_=>ih
 |_=>false) l
noncomputable def aJJ(σ:aF)(a:AV):Bool:=
 match a with
 | .ref id idx off=>match idx,off with
  |0,0=>match σ[id]? with
   |some b=>match b with
    | .box _ cs=>sC cs
    |_=>false
   |_=>false
  |_,_=>false
 |_=>false
noncomputable def aBG(t:Nat)(K:Env->aF->Prop)(env:Env)(σ:aF):Prop:=
 look t (λa=>match aJJ σ a with
  |true=>Ho [a] σ λxs σ'=>match xs with
   |[]=>False
   |x::_=>K ((t,.pv x)::env) σ'
  |false=>K env σ) env
noncomputable def aye(l:List Operand)(K:Env->aF->Prop):Env->aF->Prop:=
 List.rec K (λo _ ih=>match o with
  | .tmp t=>aBG t ih
  |_=>ih) l
noncomputable def aAk(ops:List PO)(K:Env->aF->Prop):Env->aF->Prop:=
 List.rec K (λo _ ih=>match o.k with
  | .mkf _ l=>aye l ih
  |_=>ih) ops
def isK(live:List Nat):Bool:=match live with
 |[]=>false
 |m::_=>Nat.beq m 4096
noncomputable def fw(c:PC):Bool:=
 PC.rec true (λ_=>true) (λ_ _=>true) (λ_ _=>true) (λ_ _ a b=>match a with|true=>b|false=>false) (λ_ _ _ a b=>match a with|true=>b|false=>false) (λ_ _ b=>b) (λlive _ b=>match isK live with|true=>b|false=>false) (λ_ _ _ _ _=>false) (λ_=>true) true c
noncomputable def Ws(ps:List Nat)(B:(Ex->Env->aF->Prop)->Env->aF->Prop)(Q:Ex->Env->aF->Prop)(pin:List Nat)(env:Env)(σ:aF):Prop:=
 gc pin env σ ps λenv σ=>auQ pin ps B Q env σ
noncomputable def vc(Γ:Ctx)(pin ps:List Nat)(c:PC):(Ex->Env->aF->Prop)->Env->aF->Prop:=
 PC.rec
  (λQ env σ=>Q .normal env σ)
  (λops Q env σ=>canon env ps λenv=>X5 Γ (Q .normal) ops env σ)
  (λops nL Q env σ=>Tt Γ ops nL=true/\canon env ps λenv=>X5 Γ (Q .normal) ops env σ)
  (λops nL Q env σ=>aei Γ ops nL=true/\canon env ps λenv=>aAk ops (λenv σ=>A5 Γ (λlog aal σ'=>aBd Γ ops nL σ.length log=true/\Q .normal aal σ') ops [] env σ) env σ)
  (λ_ _ A B Q env σ=>A (axs (B Q) Q) env σ)
  (λc _ _ T E Q env σ=>ev env c λc=>match c with
    | .pv x=>match x with
     | .bool b=>match b with
      |true=>T Q env σ
      |false=>E Q env σ
     |_=>False
    |_=>False)
  (λid _ B Q env σ=>B (alD id Q) env σ)
  (λlive b B Q env σ=>match isK live with
    |true=>match fw b with
     |true=>Ws live.tail B Q (List.range σ.length) env σ
     |false=>False
    |false=>gc pin env σ live λenv σ=>auQ pin live B Q env σ)
  (λf qs avc b B Q env σ=>match fw b with
    |true=>canon env ps λenv=>ev env f λf=>an4 Γ pin ps qs avc B Q f env σ
    |false=>False)
  (λid Q env σ=>Q (.exit id) env σ)
  (λQ env σ=>Q .ret env σ) c
noncomputable def ah0(σ:aF)(a:AV)(r:RV):Prop:=
 match a with
 | .pv x=>match r with
  | .pv y=>match x with
   | .nil s=>y=.nil s\/y=.sl s []
   |x=>y=x
  | .fresh _ s aC=>match x with
   | .nil s'=>(s=s'/\aC=[])/\0<s
   |_=>False
  | .row _ s aC=>match x with
   | .nil s'=>(s=s'/\aC=[])/\0<s
   |_=>False
  |_=>False
 | .own id=>g_ σ id λb=>match b with
  | .row e sz ap aC=>match r with
   | .fresh e' mM els'=>ap=true/\e'=e/\mM=sz/\els'=aC
   | .row e' mM els'=>e'=e/\mM=sz/\els'=aC
   | .pv y=>y=.sl sz aC
   |_=>False
  | .fz x=>match r with
   | .pv y=>y=x
   |_=>False
  |_=>False
 | .sub id sz lo n=>g_ σ id λb=>YG sz lo n b λaC=>match r with
  | .pv y=>y=.sl sz aC
  |_=>False
 | .ref id idx off=>match r with
  | .pv y=>match idx,off with
   |0,0=>g_ σ id λb=>match b with
    | .box _ cs=>G_ cs (λxs=>qm xs λx=>y=.cptr x) False
    |_=>False
   |_,_=>False
  |_=>False
 |_=>False
noncomputable def Yc(σ:aF)(l:List AV):List RV->Prop:=
 List.rec (λrs=>match rs with|[]=>True|_=>False)
  (λa _ ih rs=>match rs with|r::rs=>ah0 σ a r/\ih rs|[]=>False) l
noncomputable def Yp(σ:aF)(a:AV)(r:RV):Prop:=
 match a with
 | .agg cs=>match r with
  | .pv y=>aQ σ cs λxs=>y=.agg xs
  | .agg rs=>Yc σ cs rs
  |_=>False
 |a=>ah0 σ a r
noncomputable def UK(σ:aF)(l:List AV):List RV->Prop:=
 List.rec (λrs=>match rs with|[]=>True|_=>False)
  (λa _ ih rs=>match rs with|r::rs=>Yp σ a r/\ih rs|[]=>False) l
noncomputable def adS(l:List AV):List Nat->(List Nat->Bool)->Bool:=
 List.rec (λseen K=>K seen) (λa _ ih seen K=>match a with
  | .own id=>Bool.rec (ih (id::seen) K) false (afB id seen)
  | .ref id _ _=>Bool.rec (ih (id::seen) K) false (afB id seen)
  | .sub id _ _ _=>Bool.rec (ih (id::seen) K) false (afB id seen)
  |_=>ih seen K) l
noncomputable def Xm(l:List AV):List Nat->Bool:=
 List.rec (λ_=>true) (λa _ ih seen=>match a with
  | .agg cs=>adS cs seen ih
  |a=>adS [a] seen ih) l
def PV.au_:PV->Prop
 | .bool _| .int _ _| .str _| .nil _=>True
 |_=>False
def PV.flat:PV->Prop
 | .agg cs=>∀c∈cs,c.au_
 | .bool _| .int _ _| .str _| .nil _=>True
 |_=>False
def RV.aaE:RV->Prop
 | .pv x=>x.flat
 | .fresh _ _ aC=>∀x∈aC,x.flat
 | .row _ _ aC=>∀x∈aC,x.flat
 |_=>False
noncomputable def am7(l:List RV):Prop:=List.rec True (λr _ ih=>r.aaE/\ih) l
noncomputable def auM(lone:Bool)(σ:aF)(aLq:List AV)(K:RV->Prop):Prop:=
 match Xm aLq []with
 |false=>False
 |true=>match aLq with
  |[]=>K (.tup [])
  |a::aLq=>match aLq with
   |[]=>∃r,Yp σ a r/\(match lone with|true=>r.aaE|false=>True)/\K r
   |b::bs=>∃rs,UK σ (a::b::bs) rs/\(match lone with|true=>am7 rs|false=>True)/\K (.tup rs)
noncomputable def sT(σ:aF)(env:Env)(rs:List (Nat×Option (Bool×Nat))):(List AV->Prop)->Prop:=
 List.rec (λK=>K []) (λp _ ih K=>look p.1 (λv=>match p.2 with
  |none=>ih λl=>K (v::l)
  |some q=>Nw σ q.1 q.2 v λv=>ih λl=>K (v::l)) env) rs
noncomputable def aCA(lone:Bool)(rs:List (Nat×Option (Bool×Nat)))(K:RV->Prop):Ex->Env->aF->Prop
 | .normal,env,σ=>sT σ env rs λaLq=>auM lone σ aLq K
 | .ret,env,σ=>sT σ env rs λaLq=>auM lone σ aLq K
 | .exit _,_,_=>False
noncomputable def auq(l:List PV):Nat->(Env->Prop)->Prop:=
 List.rec (λ_ K=>K []) (λx _ ih n K=>ih (Nat.succ n) λe=>K ((n,.pv x)::e)) l
def atQ(Γ:Ctx)(ps:List Nat)(pc:PC)(rs:List (Nat×Option (Bool×Nat)))(S:Spec):Prop:=
 ∀(args:List PV) (K:RV->Prop),S.run args K->auq args 0 λenv=>vc Γ [] ps pc (aCA S.lone rs K) env []
noncomputable def aFo(σ:aF):Nat->(List Nat->Prop)->Prop:=
 List.rec (λ_ K=>K []) (λ_ _ ih n K=>ih (Nat.succ n) λt=>K (n::t)) σ
def ar3:List AV->AV
 |[a]=>a
 |l=>.tup l
noncomputable def aBs(pin:List Nat)(rs:List (Nat×Option (Bool×Nat)))(K:AV->aF->Prop):Ex->Env->aF->Prop
 | .exit _,_,_=>False
 |_,env,σ=>sT σ env rs λaLq=>abE aLq pin λl=>X_ σ l l λr=>Zk r aLq λaLq=>aap σ r r λσ=>K (ar3 aLq) σ
noncomputable def anZ(l:List AV):Nat->(Env->Prop)->Prop:=
 List.rec (λ_ K=>K []) (λx _ ih n K=>ih (Nat.succ n) λe=>K ((n,x)::e)) l
def alk(Γ:Ctx)(ps:List Nat)(pc:PC)(rs:List (Nat×Option (Bool×Nat)))(S:Spec):Prop:=
 ∀(args:List AV) (σ:aF) (K:AV->aF->Prop),S.qS args σ K->anZ args 0 λenv=>aFo σ 0 λpin=>vc Γ pin ps pc (aBs pin rs K) env σ
end
end Go.Dv
namespace Go.Dv
open Go.RowKit
section
def PV.one:PV->Bool
 | .agg _| .tup _=>false
 |_=>true
mutual
def Rd(ok:Nat->Prop)(w:World):PV->Value->Prop
 | .bool b,v=>v=.bool b
 | .int k n,v=>v=.int k n
 | .str l,v=>v=.string ⟨l.toArray⟩
 | .val u,v=>v=u/\u.oneCell'=true
 | .nil _,v=>v=.slice none 0 0
 | .sl sz aC,v=>∃a c,v=.slice a aC.length c/\aC.length<=c/\c<=maxLen/\(aC=[]∨∃b o,a=some ⟨b,o,none⟩/\ok b/\fC ok w b sz o aC)
 | .agg cs,v=>(∀c∈cs,c.one=true)∧∃vs,v=.agg vs/\bS ok w cs vs.toList
 | .tup cs,v=>∃vs,v=.tuple vs/\bS ok w cs vs.toList
 | .cptr (.agg cs),v=>∃b o,v=.pointer (some ⟨b,o,none⟩)/\ok b/\te ok w b o cs
 | .cptr x,v=>∃b o,v=.pointer (some ⟨b,o,none⟩)/\ok b/\x.one=true∧∃u,w.cell? ⟨b,o,none⟩=some u/\Rd ok w x u
 | .clo f jh,v=>∃cv,v=.func (.func f) #[] cv/\bS ok w jh cv.toList
def bS(ok:Nat->Prop)(w:World):List PV->List Value->Prop
 |[],vs=>vs=[]
 |x::xs,vs=>∃v r,vs=v::r/\Rd ok w x v/\bS ok w xs r
def fC(ok:Nat->Prop)(w:World)(b sz:Nat)(o:Nat):List PV->Prop
 |[]=>True
 | .agg cs::xs=>(cs.length=sz/\te ok w b o cs)/\fC ok w b sz (o+sz) xs
 |x::xs=>(sz=1/\x.one=true∧∃u,w.cell? ⟨b,o,none⟩=some u/\Rd ok w x u)/\fC ok w b sz (o+sz) xs
def te(ok:Nat->Prop)(w:World)(b:Nat)(o:Nat):List PV->Prop
 |[]=>True
 |c::cs=>(c.one=true∧∃u,w.cell? ⟨b,o,none⟩=some u/\Rd ok w c u)/\te ok w b (o+1) cs
end
section mono
variable {ok wj:Nat->Prop} {w w':World}
mutual
def Rd.iF(hk:∀b,ok b->wj b)(hc:∀b o u,ok b->w.cell? ⟨b,o,none⟩=some u->w'.cell? ⟨b,o,none⟩=some u):∀(x:PV) (v:Value),Rd ok w x v->Rd wj w' x v
 | .bool _,_,h=>by simpa only[Rd]using h
 | .int _ _,_,h=>by simpa only[Rd]using h
 | .str _,_,h=>by simpa only[Rd]using h
 | .val _,_,h=>by simpa only[Rd]using h
 | .nil _,_,h=>by simpa only[Rd]using h
 | .sl sz aC,v,h=>by
  simp only[Rd]at h ⊢;obtain⟨a,c,h1,h2,h3,h4⟩:=h;refine⟨a,c,h1,h2,h3,?_⟩;rcases h4 with h4|⟨b,o,ha,hb,hr⟩
  ·exact .inl h4
  ·exact .inr ⟨b,o,ha,hk b hb,fC.iF hk hc b sz o (λo u=>hc b o u hb) aC hr⟩
 | .agg cs,v,h=>by
  simp only[Rd]at h ⊢;obtain⟨h0,vs,h1,h2⟩:=h;exact⟨h0,vs,h1,bS.iF hk hc cs _ h2⟩
 | .tup cs,v,h=>by
  simp only[Rd]at h ⊢;obtain⟨vs,h1,h2⟩:=h;exact⟨vs,h1,bS.iF hk hc cs _ h2⟩
 | .cptr x,v,h=>by
  cases x with
  |agg cs=>
   simp only[Rd]at h ⊢;obtain⟨b,o,h1,h2,h3⟩:=h;exact⟨b,o,h1,hk b h2,te.iF hk hc b o (λo u=>hc b o u h2) cs h3⟩
  |sl sz aC=>
   simp only[Rd]at h ⊢;obtain⟨b,o,h1,h2,h3,u,h4,h5⟩:=h;have:=Rd.iF hk hc (.sl sz aC) u aaa;simp only[Rd]at this;exact Zq
  |tup vs=>
   simp only[Rd]at h ⊢;obtain⟨b,o,h1,h2,h3,u,h4,h5⟩:=h;have:=Rd.iF hk hc (.tup vs) u aaa;simp only[Rd]at this;exact Zq
  |clo f jh=>
   simp only[Rd]at h ⊢;obtain⟨b,o,h1,h2,h3,u,h4,h5⟩:=h;have:=Rd.iF hk hc (.clo f jh) u aaa;simp only[Rd]at this;exact Zq
  |_=>
   simp only[Rd]at h ⊢;obtain⟨b,o,h1,h2,h3,u,h4,h5⟩:=h;refine⟨b,o,h1,hk b h2,h3,u,hc b o u h2 h4,?_⟩;first
    |exact h5
    |(have:=Rd.iF hk hc _ u (by simpa only[Rd]using h5);simpa only[Rd]using this)
 | .clo f cs,v,h=>by
  simp only[Rd]at h ⊢;obtain⟨vs,h1,h2⟩:=h;exact⟨vs,h1,bS.iF hk hc cs _ h2⟩
def bS.iF(hk:∀b,ok b->wj b)(hc:∀b o u,ok b->w.cell? ⟨b,o,none⟩=some u->w'.cell? ⟨b,o,none⟩=some u):∀(l:List PV) (vs:List Value),bS ok w l vs->bS wj w' l vs
 |[],_,h=>by simpa only[bS]using h
 |x::xs,vs,h=>by
  simp only[bS]at h ⊢;obtain⟨v,r,h1,h2,h3⟩:=h;exact⟨v,r,h1,Rd.iF hk hc x v h2,bS.iF hk hc xs r h3⟩
def fC.iF(hk:∀b,ok b->wj b)(hc:∀b o u,ok b->w.cell? ⟨b,o,none⟩=some u->w'.cell? ⟨b,o,none⟩=some u)(b sz o:Nat)(hb:∀o u,w.cell? ⟨b,o,none⟩=some u->w'.cell? ⟨b,o,none⟩=some u):∀(l:List PV),fC ok w b sz o l->fC wj w' b sz o l
 |[],h=>by simp only[fC]
 |x::xs,h=>by
  cases x with
  |agg cs=>
   simp only[fC]at h ⊢;exact⟨⟨h.1.1,te.iF hk hc b o hb cs h.1.2⟩,fC.iF hk hc b sz (o+sz) hb xs h.2⟩
  |_=>
   simp only[fC]at h ⊢;obtain⟨⟨h1,h2,u,h3,h4⟩,h5⟩:=h;exact⟨⟨h1,h2,u,hb o u h3,Rd.iF hk hc _ u h4⟩,fC.iF hk hc b sz (o+sz) hb xs h5⟩
def te.iF(hk:∀b,ok b->wj b)(hc:∀b o u,ok b->w.cell? ⟨b,o,none⟩=some u->w'.cell? ⟨b,o,none⟩=some u)(b o:Nat)(hb:∀o u,w.cell? ⟨b,o,none⟩=some u->w'.cell? ⟨b,o,none⟩=some u):∀(l:List PV),te ok w b o l->te wj w' b o l
 |[],h=>by simp only[te]
 |x::xs,h=>by
  simp only[te]at h ⊢;obtain⟨⟨h2,u,h3,h4⟩,h5⟩:=h;exact⟨⟨h2,u,hb o u h3,Rd.iF hk hc _ u h4⟩,te.iF hk hc b (o+1) hb xs h5⟩
end
def Rd.mono(hk:∀b,ok b->wj b)(hc:∀b o,ok b->w'.cell? ⟨b,o,none⟩=w.cell? ⟨b,o,none⟩)(x:PV)(v:Value)(h:Rd ok w x v):Rd wj w' x v:=
 Rd.iF hk (λb o _ hb h=>(hc b o hb).trans h) x v h
def bS.mono(hk:∀b,ok b->wj b)(hc:∀b o,ok b->w'.cell? ⟨b,o,none⟩=w.cell? ⟨b,o,none⟩)(l:List PV)(vs:List Value)(h:bS ok w l vs):bS wj w' l vs:=
 bS.iF hk (λb o _ hb h=>(hc b o hb).trans h) l vs h
def fC.mono(hk:∀b,ok b->wj b)(hc:∀b o,ok b->w'.cell? ⟨b,o,none⟩=w.cell? ⟨b,o,none⟩)(b sz o:Nat)(hb:∀o,w'.cell? ⟨b,o,none⟩=w.cell? ⟨b,o,none⟩)(l:List PV)(h:fC ok w b sz o l):fC wj w' b sz o l:=
 fC.iF hk (λb o _ hb h=>(hc b o hb).trans h) b sz o (λo _ h=>(hb o).trans h) l h
end mono
section get
variable {ok:Nat->Prop} {w:World}
def Rd.L5{x:PV}{v:Value}(h:Rd ok w x v)(hx:x.one=true):v.oneCell'=true:=by
 cases x with
 |val u=>simp only[Rd]at h;exact h.1▸h.2
 |agg cs=>cases hx
 |tup cs=>cases hx
 |cptr x=>cases x<;>simp only[Rd]at h<;>obtain⟨b,o,rfl,_⟩:=h<;>rfl
 |sl sz aC=>simp only[Rd]at h;obtain⟨a,c,rfl,_⟩:=h;rfl
 |clo f cs=>simp only[Rd]at h;obtain⟨a,rfl,_⟩:=h;rfl
 |_=>simp only[Rd]at h;subst h;rfl
def uo(cs:List PV):∀vs:List Value,bS ok w cs vs↔(vs.length=cs.length∧∀(j:Nat) (c:PV) (v:Value),cs[j]?=some c->vs[j]?=some v->Rd ok w c v):=by
 induction cs with
 |nil=>intro vs;simp only[bS];constructor
       ·rintro rfl;simp
       ·intro h;exact zaf (by simpa using h.1)
 |cons c cs ih=>
  intro vs;simp only[bS];constructor
  ·rintro⟨v,r,rfl,h1,h2⟩;obtain⟨h3,h4⟩:=(ih r).1 h2;refine⟨by simp[h3],λj c' v' hc hv=>?_⟩;cases j with
   |zero=>simp at hc hv;subst hc hv;exact h1
   |succ j=>simp at hc hv;exact h4 j c' v' hc hv
  ·rintro⟨h1,h2⟩;cases vs with
   |nil=>simp at h1
   |cons v r=>exact⟨v,r,rfl,h2 0 c v rfl rfl,(ih r).2 ⟨xO,λj c' v' hc hv=>h2 (j+1) c' v' BH (by simpa using hv)⟩⟩
def ER(b:Nat)(cs:List PV):∀o,te ok w b o cs↔((∀c∈cs,c.one=true)∧∃us:List Value,bS ok w cs us∧∀(j:Nat) (u:Value),us[j]?=some u->w.cell? ⟨b,o+j,none⟩=some u):=by
 induction cs with
 |nil=>intro o;simp only[te,bS];simp
 |cons c cs ih=>
  intro o;simp only[te,bS];constructor
  ·rintro⟨⟨h1,u,h2,h3⟩,h4⟩;obtain⟨h5,us,h6,h7⟩:=(ih (o+1)).1 h4;refine⟨by simpa[h1]using h5,u::us,⟨u,us,rfl,h3,h6⟩,λj u' hj=>?_⟩;cases j with
   |zero=>simp at hj;subst hj;exact h2
   |succ j=>have:=h7 j u' Gk;rwa[za6]at this
  ·rintro⟨h1,_,⟨u,us,rfl,h3,h6⟩,h7⟩;refine⟨⟨h1 c aj,u,h7 0 u rfl,h3⟩,(ih (o+1)).2 ⟨λc' hc=>h1 c' ql,us,h6,λj u' hj=>?_⟩⟩;have:=h7 (j+1) u' Gk;rwa[za6]
def pU(b:Nat)(xs ys:List PV):∀o,te ok w b o (xs++ys)↔te ok w b o xs/\te ok w b (o+xs.length) ys:=by
 induction xs with
 |nil=>intro o;simp[te]
 |cons x xs ih=>
  intro o;simp only[zbd,te,ih,zam,and_assoc];rw[show o+1+xs.length=o+(xs.length+1)from by omega]
def tq(b sz:Nat)(aC:List PV):∀o,fC ok w b sz o aC↔((∀x∈aC,x.cells.length=sz)/\te ok w b o (aC.flatMap PV.cells)):=by
 induction aC with
 |nil=>intro o;simp[fC,te]
 |cons x xs ih=>
  intro o;rw[zao,pU];cases x with
  |agg cs=>
   simp only[fC,ih,PV.cells];constructor
   ·rintro⟨⟨rfl,h1⟩,h2,h3⟩;exact⟨by simpa[PV.cells]using h2,h1,h3⟩
   ·rintro⟨h1,h2,h3⟩;have h0:cs.length=sz:=by simpa[PV.cells]using h1 (.agg cs) aj
    exact⟨⟨h0,h2⟩,λy hy=>h1 y pT,h0▸h3⟩
  |_=>
   simp only[fC,ih,PV.cells,te];constructor
   ·rintro⟨⟨rfl,h1,h2⟩,h3,h4⟩;exact⟨by simpa[PV.cells]using h3,⟨⟨h1,h2⟩,trivial⟩,Kq⟩
   ·rintro⟨h1,⟨⟨h2,h3⟩,_⟩,h4⟩;have h0:1=sz:=by simpa[PV.cells]using h1 _ (List.mem_cons_self ..)
    exact⟨⟨h0.symm,h2,h3⟩,λy hy=>h1 y pT,by subst h0;simpa using h4⟩
def fv(sz:Nat)(aC:List PV)(h:∀x∈aC,x.cells.length=sz):(aC.flatMap PV.cells).length=aC.length*sz:=by
 induction aC with
 |nil=>simp
 |cons x xs ih=>rw[zao,zad,ih (λy hy=>h y pT),h x aj,zam,zas];omega
def SY{b sz o:Nat}{aC:List PV}(h:fC ok w b sz o aC):∀{i:Nat} {x:PV},aC[i]?=some x->x.cells.length=sz/\te ok w b (o+i*sz) x.cells:=by
 induction aC generalizing o with
 |nil=>intro i x hx;simp at hx
 |cons y ys ih=>
  intro i x hx;have hd:=(tq b sz (y::ys) o).1 h;rw[zao,pU]at hd;have h0:=hd.1 y aj;cases i with
  |zero=>simp at hx;subst hx;exact⟨h0,by simpa using hd.2.1⟩
  |succ i=>
   have:=ih ((tq b sz ys (o+sz)).2 ⟨λz hz=>hd.1 z (by simp[hz]),h0▸hd.2.2⟩) (i:=i) (x:=x) (by simpa using hx);refine⟨this.1,?_⟩;rw[show o+(i+1)*sz=o+sz+i*sz from by rw[zas];omega];exact this.2
end get
structure Cx where
 P:Program
 w0:World
 eC:Nat->Prop
 hA:∀b,eC b->b<w0.heap.size
 w1:World:=w0
 keep:Nat->Prop:=λ_=>False
 hk:∀b,keep b->b<w1.heap.size:=by intro _ h;exact h.elim
 defers:List Deferred:=[]
 gh:AV->Value->Prop:=λ_ _=>False
 lo:Nat:=0
 base:Nat->Value:=λ_=>undef
 own:Nat->Prop:=λb=>w0.heap.size<=b
 eh:∀b,w0.heap.size<=b->own b:=by exact λ_ h=>h
 Le:List dC:=[]
 acm:List Value:=[]
structure Cg(own:Nat->Prop)(w w':World):Prop where
 os:w'.os=w.os
 tape:w'.tape=w.tape
 output:w'.output=w.output
 size:w.heap.size<=w'.heap.size
 block:∀k,k<w.heap.size→¬own k->w'.heap[k]?=w.heap[k]?
def Cg.refl(own:Nat->Prop)(w:World):Cg own w w:=⟨rfl,rfl,rfl,zai _,λ_ _ _=>rfl⟩
def Cg.below{own:Nat->Prop}{a b c:World}(h:Cg own a b)(k:Below b.heap.size b c):Cg own a c:=
 ⟨k.os.trans h.os,k.tape.trans h.tape,k.output.trans h.output,zan h.size k.size,λi hi ho=>(k.block i (zae hi h.size)).trans (h.block i hi ho)⟩
def Cg.grown{own:Nat->Prop}{a w w':World}{row:Option Nat}(h:Cg own a w)(hg:w.grownBy w' row)(hr:∀k,row=some k->own k):Cg own a w':=
 ⟨hg.os.trans h.os,hg.tape.trans h.tape,hg.output.trans h.output,zan h.size hg.size,λk hk ho=>(hg.block k (zae hk h.size) (λe=>ho (hr k e.symm))).trans (h.block k hk ho)⟩
def Cg.arP{own:Nat->Prop}{a b:World}(h:Cg own a b)(ho:∀k,own k->a.heap.size<=k):Below a.heap.size a b:=
 ⟨h.os,h.tape,h.output,h.size,λk hk=>h.block k hk (λe=>by have:=ho k e;omega)⟩
def bl:Value->Option Nat
 | .pointer (some a)=>some a.block
 | .slice (some a) _ _=>some a.block
 |_=>Option.none
def dC.live:dC->Bool
 | .row .. | .box .. =>true
 |_=>false
def dC.OV:dC->Bool
 | .box .. =>true
 | .fz x=>match x with| .cptr _=>true|_=>false
 |_=>false
def WB(σ:aF)(vals:List Value)(b:Nat):Prop:=∃(i:Nat) (s:dC) (v:Value),σ[i]?=some s/\s.live=true/\vals[i]?=some v/\bl v=some b
def Ok(cx:Cx)(σ:aF)(vals:List Value)(w:World)(b:Nat):Prop:=(cx.eC b\/cx.own b)/\b<w.heap.size∧¬WB σ vals b
def AV.one:AV->Bool
 | .pv x=>x.one
 | .own _=>true
 | .ref _ _ _=>true
 | .sub _ _ _ _=>true
 | .clo _ _=>true
 |_=>false
mutual
def RA(ok:Nat->Prop)(σ:aF)(vals:List Value)(w:World):AV->Value->Prop
 | .bad,_=>True
 | .pv x,v=>Rd ok w x v
 | .own i,v=>vals[i]?=some v
 | .ref i idx off,v=>i<σ.length/\(∃ad,v=.pointer ad)/\(∀e sz ap aC,σ[i]?=some (.row e sz ap aC)→∃u b,vals[i]?=some u/\bl u=some b/\v=.pointer (some ⟨b,idx*sz+off,none⟩))/\
  (∀s,σ[i]?=some s->s.OV=true→∃u b,vals[i]?=some u/\u=.pointer (some ⟨b,0,none⟩)/\v=.pointer (some ⟨b,off,none⟩))
 | .sub i sz lo n,v=>i<σ.length∧∃a c,v=.slice a n c/\n<=c/\c<=maxLen/\(n=0∨∃b n0 c0,vals[i]?=some (.slice (some ⟨b,0,none⟩) n0 c0)/\a=some ⟨b,lo*sz,none⟩)
 | .agg cs,v=>(∀c∈cs,c.one=true)∧∃vs,v=.agg vs/\fY ok σ vals w cs vs.toList
 | .tup cs,v=>∃vs,v=.tuple vs/\fY ok σ vals w cs vs.toList
 | .clo f cs,v=>∃cv,v=.func (.func f) #[] cv/\fY ok σ vals w cs cv.toList
def fY(ok:Nat->Prop)(σ:aF)(vals:List Value)(w:World):List AV->List Value->Prop
 |[],vs=>vs=[]
 |x::xs,vs=>∃v r,vs=v::r/\RA ok σ vals w x v/\fY ok σ vals w xs r
end
def Jp(w:World)(M:Nat->Prop)(e:TypeId)(sz:Nat)(app:Bool)(v:Value)(n:Nat)(xs:List Value):Prop:=
 xs.length=n*sz/\((v=.slice Option.none 0 0/\n=0)\/
  ∃g cap cur fr,v=.slice (some ⟨g,0,Option.none⟩) n cap/\M g/\w.heap[g]?=some (.cells cur e fr)/\n<=cap/\cap<=maxLen/\cur.size=cap*sz/\cur.toList.take (n*sz)=xs/\
   (fr=(0,0)\/(app=false/\cur.size<=fr.1)))
def Zj(es:Array MapEntry)(l:List (Int×Bool)):Prop:=es.toList.map (λe=>(e.key,e.val))=l.map λp=>(.int .i64 p.1,.bool p.2)
def RB(cx:Cx)(σ:aF)(vals:List Value)(w:World):dC->Value->Prop
 | .dead,_=>True
 | .fz x,v=>Rd (Ok cx σ vals w) w x v
 | .mp l,v=>∃b es n,v=.map (some b)/\Ok cx σ vals w b/\w.heap[b]?=some (.map es n)/\Zj es l
 | .row e sz app aC,v=>0<sz∧∃cells,Jp w cx.own e sz app v aC.length cells/\(∀x∈aC,x.cells.length=sz)/\(∀c∈aC.flatMap PV.cells,c.one=true)/\bS (Ok cx σ vals w) w (aC.flatMap PV.cells) cells
 | .box e cs,v=>∃b arr,v=.pointer (some ⟨b,0,Option.none⟩)/\cx.own b/\w.heap[b]?=some (.cells arr e (0,0))/\(∀c∈cs,c.one=true)/\fY (Ok cx σ vals w) σ vals w cs arr.toList
def aE(p:Nat):Env->AV
 |[]=>.bad
 |(q,v)::r=>bif Nat.beq q p then v else aE p r
structure Fr(cx:Cx)(σ:aF)(vals:List Value)(w:World):Prop where
 size:cx.w1.heap.size<=w.heap.size
 same:∀b,cx.keep b->w.heap[b]?=cx.w1.heap[b]?
 I1:∀b,WB σ vals b→¬cx.keep b
structure qz(cx:Cx)(σ:aF)(vals:List Value):Prop where
 vs:∀(i:Nat) (v:Value),cx.acm[i]?=some v->vals[i]?=some v
 len:cx.Le.length<=σ.length
 Rj:∀i:Nat,i<cx.Le.length→∀e sz ap aC,σ[i]?=some (.row e sz ap aC)→∃mN els',cx.Le[i]?=some (.row e sz mN els')
 Qz:∀i:Nat,i<cx.Le.length→∀s,σ[i]?=some s->s.OV=true→∃s',cx.Le[i]?=some s'/\s'.OV=true
structure dH(cx:Cx)(σ:aF)(vals:List Value)(w:World):Prop where
 below:Cg cx.own cx.w0 w
 one:∀v∈vals,v.oneCell'=true
 len:vals.length=σ.length
 sV:∀(i:Nat) (s:dC) (v:Value),σ[i]?=some s->vals[i]?=some v->RB cx σ vals w s v
 Xl:∀(i j:Nat) (s t:dC) (u v:Value) (b:Nat),i≠j->σ[i]?=some s->σ[j]?=some t->s.live=true->t.live=true->vals[i]?=some u->vals[j]?=some v->bl u=some b->bl v≠some b
 fr:Fr cx σ vals w
 pin:qz cx σ vals
structure Rel(cx:Cx)(env:Env)(σ:aF)(vals:List Value)(a:Act)(w:World):Prop where
 s:dH cx σ vals w
 env:∀p,RA (Ok cx σ vals w) σ vals w (aE p env) (a.tmps.getD p undef)
 defers:a.defers=cx.defers
 gh:∀x v,cx.gh x v->RA (Ok cx σ vals w) σ vals w x v
 lo:∀p,p<cx.lo->a.tmps.getD p undef=cx.base p
structure ct(cx:Cx)(σ:aF)(vals:List Value)(w:World)(σ':aF)(aO:List Value)(w':World):Prop where
 vs:∀(i:Nat) (v:Value),vals[i]?=some v->aO[i]?=some v
 len:σ.length<=σ'.length
 ok:∀b,Ok cx σ vals w b->Ok cx σ' aO w' b
 same:∀b,Ok cx σ vals w b->w'.heap[b]?=w.heap[b]?
 Rj:∀i:Nat,i<σ.length→∀e sz ap aC,σ'[i]?=some (.row e sz ap aC)→∃mN els',σ[i]?=some (.row e sz mN els')
 Qz:∀i:Nat,i<σ.length→∀s,σ'[i]?=some s->s.OV=true→∃s',σ[i]?=some s'/\s'.OV=true
section keep
variable {cx:Cx} {σ σ':aF} {vals aO:List Value} {w w':World}
def ct.rd(h:ct cx σ vals w σ' aO w'){x:PV}{v:Value}(hx:Rd (Ok cx σ vals w) w x v):Rd (Ok cx σ' aO w') w' x v:=
 Rd.mono h.ok (λb _ hb=>World.cell?_of_block (h.same b hb)) x v hx
def ct.sI(h:ct cx σ vals w σ' aO w'){x:List PV}{v:List Value}(hx:bS (Ok cx σ vals w) w x v):bS (Ok cx σ' aO w') w' x v:=
 bS.mono h.ok (λb _ hb=>World.cell?_of_block (h.same b hb)) x v hx
mutual
def ct.ra(h:ct cx σ vals w σ' aO w'):∀(x:AV) (v:Value),RA (Ok cx σ vals w) σ vals w x v->RA (Ok cx σ' aO w') σ' aO w' x v
 | .bad,_,_=>by simp only[RA]
 | .pv x,v,hx=>by simp only[RA]at hx ⊢;exact h.rd hx
 | .own i,v,hx=>by simp only[RA]at hx ⊢;exact h.vs i v hx
 | .ref i idx off,v,hx=>by
  simp only[RA]at hx ⊢;obtain⟨h0,hp,h1,h2⟩:=hx;refine⟨zae h0 h.len,hp,λe sz ap aC he=>?_,λs he s9=>?_⟩
  ·obtain⟨mN,els',h3⟩:=h.Rj i h0 e sz ap aC he;obtain⟨u,b,h4,h5⟩:=h1 e sz mN els' h3;exact⟨u,b,h.vs i u h4,h5⟩
  ·obtain⟨s',h3,aJM⟩:=h.Qz i h0 s he s9;obtain⟨u,b,h4,h5⟩:=h2 s' h3 aJM;exact⟨u,b,h.vs i u h4,h5⟩
 | .sub i sz lo n,v,hx=>by
  simp only[RA]at hx ⊢;obtain⟨h0,ad,c,h1,h2,h3,h4⟩:=hx;exact⟨zae h0 h.len,ad,c,h1,h2,h3,h4.imp_right λ⟨b,n0,c0,h5,h6⟩=>⟨b,n0,c0,h.vs i _ h5,h6⟩⟩
 | .agg cs,v,hx=>by
  simp only[RA]at hx ⊢;obtain⟨h0,vs,h1,h2⟩:=hx;exact⟨h0,vs,h1,ct.kZ h cs _ h2⟩
 | .tup cs,v,hx=>by
  simp only[RA]at hx ⊢;obtain⟨vs,h1,h2⟩:=hx;exact⟨vs,h1,ct.kZ h cs _ h2⟩
 | .clo f cs,v,hx=>by
  simp only[RA]at hx ⊢;obtain⟨vs,h1,h2⟩:=hx;exact⟨vs,h1,ct.kZ h cs _ h2⟩
def ct.kZ(h:ct cx σ vals w σ' aO w'):∀(x:List AV) (v:List Value),fY (Ok cx σ vals w) σ vals w x v->fY (Ok cx σ' aO w') σ' aO w' x v
 |[],_,hx=>by simpa only[fY]using hx
 |x::xs,vs,hx=>by
  simp only[fY]at hx ⊢;obtain⟨v,r,h1,h2,h3⟩:=hx;exact⟨v,r,h1,ct.ra h x v h2,ct.kZ h xs r h3⟩
end
def Jp.keep{B:Nat->Prop}{e:TypeId}{sz:Nat}{app:Bool}{v:Value}{n:Nat}{xs:List Value}(h:Jp w B e sz app v n xs)(hb:∀b,bl v=some b->w'.heap[b]?=w.heap[b]?):Jp w' B e sz app v n xs:=by
 refine⟨h.1,?_⟩;rcases h.2 with h2|⟨g,cap,cur,fr,rfl,h2,h3,h4⟩
 ·exact .inl h2
 ·exact .inr ⟨g,cap,cur,fr,rfl,h2,(hb g rfl).trans h3,h4⟩
def ct.rb(h:ct cx σ vals w σ' aO w'){s:dC}{v:Value}(hs:RB cx σ vals w s v)(hb:s.live=true→∀b,bl v=some b->w'.heap[b]?=w.heap[b]?):RB cx σ' aO w' s v:=by
 cases s with
 |dead=>trivial
 |fz x=>exact h.rd hs
 |mp l=>
  obtain⟨b,es,n,rfl,h1,h2,h3⟩:=hs;exact⟨b,es,n,rfl,h.ok b h1,(h.same b h1).trans h2,h3⟩
 |row e sz app aC=>
  obtain⟨h0,cells,h1,h2,h3,h4⟩:=hs;exact⟨h0,cells,h1.keep (hb rfl),h2,h3,h.sI h4⟩
 |box e cs=>
  obtain⟨b,arr,rfl,h1,h2,h3,h4⟩:=hs;exact⟨b,arr,rfl,h1,(hb rfl b rfl).trans h2,h3,h.kZ _ _ h4⟩
def nZ{α:Type}{l:List α}{i:Nat}{x:α}(hi:i<l.length)(j:Nat):(l.set i x)[j]?=if i=j then some x else l[j]?:=by
 rw[zaS];split
 ·rename_i h;subst h;simp[hi]
 ·rfl
def gG{α:Type}(l:List α)(x:α)(j:Nat):(l++[x])[j]?=if j=l.length then some x else l[j]?:=by
 by_cases h:j<l.length
 ·rw[zar h,if_neg ab]
 ·rw[zak ab];by_cases h2:j=l.length
  ·subst h2;simp
  ·rw[if_neg h2,zaK aH,zaK ab]
def ct.refl:ct cx σ vals w σ vals w:=
 ⟨λ_ _ h=>h,zai _,λ_ h=>h,λ_ _=>rfl,λ_ _ _ _ ap aC h=>⟨ap,aC,h⟩,λ_ _ s h hb=>⟨s,h,hb⟩⟩
def ct.grow(hs:w.heap.size<=w'.heap.size)(hb:∀b,b<w.heap.size->w'.heap[b]?=w.heap[b]?):ct cx σ vals w σ vals w':=
 ⟨λ_ _ h=>h,zai _,λ_ h=>⟨h.1,zae h.2.1 hs,h.2.2⟩,λb h=>hb b h.2.1,λ_ _ _ _ ap aC h=>⟨ap,aC,h⟩,λ_ _ s h hb=>⟨s,h,hb⟩⟩
def ct.trans{σ2:aF}{lh:List Value}{w2:World}(h:ct cx σ vals w σ' aO w')(k:ct cx σ' aO w' σ2 lh w2):ct cx σ vals w σ2 lh w2:=
 ⟨λi v hv=>k.vs i v (h.vs i v hv),zan h.len k.len,λb hb=>k.ok b (h.ok b hb),λb hb=>(k.same b (h.ok b hb)).trans (h.same b hb),
  λi hi e sz ap aC he=>by
   obtain⟨mN,els',h'⟩:=k.Rj i (zae hi h.len) e sz ap aC he;exact h.Rj i hi e sz mN els' h',
  λi hi s he hb=>by
   obtain⟨s',h',Cs⟩:=k.Qz i (zae hi h.len) s he hb;exact h.Qz i hi s' h' Cs⟩
def qz.keep(p:qz cx σ vals)(h:ct cx σ vals w σ' aO w'):qz cx σ' aO:=
 ⟨λi v hv=>h.vs i v (p.vs i v hv),zan p.len h.len,
  λi hi e sz ap aC he=>by
   obtain⟨mN,els',h'⟩:=h.Rj i (zae hi p.len) e sz ap aC he;exact p.Rj i hi e sz mN els' h',
  λi hi s he hb=>by
   obtain⟨s',h',Cs⟩:=h.Qz i (zae hi p.len) s he hb;exact p.Qz i hi s' h' Cs⟩
def dH.grow(h:dH cx σ vals w)(dS:Below w.heap.size w w'):dH cx σ vals w'/\ct cx σ vals w σ vals w':=by
 have hk:ct cx σ vals w σ vals w':=ct.grow dS.size dS.block;have pe:Fr cx σ vals w':=⟨zan h.fr.size dS.size,λb hb=>(dS.block b (zae (cx.hk b hb) h.fr.size)).trans (h.fr.same b hb),h.fr.I1⟩
 refine⟨⟨h.below.below dS,h.one,h.len,λi s v hi hv=>?_,h.Xl,pe,h.pin.keep hk⟩,hk⟩;refine hk.rb (h.sV i s v hi hv) (λhl b hb=>dS.block b ?_);have hs:=h.sV i s v hi hv;cases s with
 |dead=>cases hl
 |fz x=>cases hl
 |mp l=>cases hl
 |row e sz app aC=>
  obtain⟨_,cells,h1,_⟩:=hs;rcases h1.2 with⟨rfl,_⟩|⟨g,cap,cur,fr,rfl,_,h3,_⟩
  ·cases hb
  ·cases hb;exact(zap.1 h3).1
 |box e cs=>
  obtain⟨b',arr,rfl,_,h2,_⟩:=hs;cases hb;exact(zap.1 h2).1
end keep
end
end Go.Dv
namespace Go.Dv
def opt{α β:Type}(o:Option α)(f:α->Option β):Option β:=
 match o with
 |none=>none
 |some a=>f a
def oV{α:Type}(b:Bool)(x:Option α):Option α:=match b with|true=>x|false=>none
def DN(P:Program)(t:TypeId):Option (TypeId×Nat×Nat):=
 match P.underlying t with
 |some (.slice e)=>opt (P.info? e) λi=>some (e,i.size,i.bytes)
 |_=>none
def V5(P:Program)(t:TypeId):Option (Bool×Nat):=
 opt (P.info? t) λi=>match P.underlying t with
  |some (.struct _)=>some (true,i.size)
  |some (.array _ _)=>some (true,i.size)
  |some _=>some (false,i.size)
  |none=>none
noncomputable def Ol{α β:Type}(f:α->Option β)(l:List α):Option (List β):=
 List.rec (some []) (λa _ ih=>opt (f a) λb=>opt ih λt=>some (b::t)) l
def ay_(P:Program)(t:TypeId):Option PV:=
 match P.underlying t with
 |some .bool=>some (.bool false)
 |some (.int k)=>some (.int k 0)
 |some .string=>some (.str [])
 |some (.slice e)=>opt (P.info? e) λi=>some (.nil i.size)
 |some (.pointer _)=>some (.val (.pointer none))
 |some (.interface _)=>some (.val .nilIface)
 |some (.func _ _ _)=>some (.val .nilFunc)
 |_=>none
noncomputable def arT(P:Program)(n:Nat):TypeId->Option (List PV):=
 Nat.rec (λ_=>none) (λ_ ih t=>
  match P.underlying t with
  |some (.struct fs)=>opt (Ol (λf:Field=>ih f.type) fs.toList) λl=>some l.flatten
  |some (.array m e)=>opt (ih e) λl=>some (List.replicate m l).flatten
  |_=>opt (ay_ P t) λc=>some [c]) n
def qt:PV->Value->Bool
 | .bool b,.bool c=>b==c
 | .int k n,.int j m=>decide (k=j)&&decide (n=m)
 | .str l,.string s=>l.isEmpty&&s.data.toList.isEmpty
 | .nil _,.slice none 0 0=>true
 | .val (.pointer none),.pointer none=>true
 | .val .nilIface,.nilIface=>true
 | .val .nilFunc,.nilFunc=>true
 |_,_=>false
noncomputable def atc(cs:List PV):List Value->Bool:=
 List.rec (λvs=>match vs with|[]=>true|_=>false)
  (λc _ ih vs=>match vs with|[]=>false|v::r=>match qt c v with|true=>ih r|false=>false) cs
noncomputable def gQ(P:Program)(t:TypeId):Option PV:=
 opt (V5 P t) λs=>opt (arT P 8 t) λcs=>opt (P.info? t) λi=>opt i.zero λz=>
  match s.1,z with
  |true,.agg vs=>oV (atc cs vs.toList) (some (.agg cs))
  |false,z=>match cs with
   |[c]=>oV (qt c z) (some c)
   |_=>none
  |_,_=>none
def JK:Operand->Bool
 | .const (.slice none 0 0)=>true
 |_=>false
noncomputable def FG(P:Program)(sub:List Field->Option (List Nat))(l:List Field):Nat->Option (List Nat):=
 List.rec (λ_=>some []) (λf _ ih n=>oV (Nat.beq f.offset n&&f.name != "_") (match P.underlying f.type with
  |some (.int _)=>opt (ih (n+1)) λr=>some (0::r)
  |some .string=>opt (ih (n+1)) λr=>some (1::r)
  |some .bool=>opt (ih (n+1)) λr=>some (2::r)
  |some (.struct gs)=>opt (sub gs.toList) λks=>opt (P.info? f.type) λi=>oV (Nat.beq i.size ks.length&&!P.stoodInHeld f.type) (opt (ih (n+ks.length)) λr=>some (ks++r))
  |_=>none)) l
noncomputable def Hl(P:Program)(l:List Field)(n:Nat):Option (List Nat):=
 FG P (λgs=>FG P (λhs=>FG P (λ_=>none) hs 0) gs 0) l n
noncomputable def R8(l:List (Nat×Operand)):Nat->Option (List Operand):=
 List.rec (λ_=>some []) (λp _ ih n=>match Nat.beq p.1 n with
  |true=>opt (ih (n+1)) λr=>some (p.2::r)
  |false=>none) l
def fieldPlace(P:Program)(t:TypeId)(f:Nat):Option (Nat×Bool×Nat):=
 match P.underlying t with
 |some (.struct fs)=>opt (fs[f]?) λfd=>opt (V5 P fd.type) λs=>oV (decide (0<s.2)) (some (fd.offset,s.1,s.2))
 |_=>none
noncomputable def axq(z:PV):List Value->Nat->Bool:=
 List.rec (λn=>match n with|0=>true|_=>false)
  (λv _ ih n=>match n with
    |0=>false
    |n+1=>match qt z v with|true=>ih n|false=>false)
noncomputable def C_(P:Program)(t:TypeId):Option (PV×Nat):=
 match P.underlying t with
 |some (.array n e)=>opt (P.info? e) λi=>opt (ay_ P e) λz=>opt (P.info? t) λit=>opt it.zero λzv=>
  oV (Nat.blt 8 n&&Nat.ble n 1000000&&Nat.beq i.size 1) (match zv with
   | .agg vs=>oV (axq z vs.toList n) (some (z,n))
   |_=>none)
 |_=>none
def Kj(P:Program)(t:TypeId)(x:Operand):Option (Nat×Bool×Nat):=
 match P.underlying t with
 |some (.array n e)=>match x with
  | .const v=>match v with
   | .int _ k=>opt (V5 P e) λs=>oV (decide (0<=k/\k.toNat<n)&&decide (0<s.2)) (some (k.toNat*s.2,s.1,s.2))
   |_=>none
  |_=>none
 |_=>none
noncomputable def ant(P:Program)(dr:Bool)(o:Oper):Option PK:=
 match o.op with
 | .move x=>match JK x with
  |true=>opt (DN P o.type) λi=>match dr,Nat.blt 0 i.2.1 with
   |false,true=>some (.nilR i.1 i.2.1)
   |_,_=>some (.nilS i.2.1)
  |false=>some (.mv x)
 | .assign x=>match JK x with
  |true=>opt (DN P o.type) λi=>match dr,Nat.blt 0 i.2.1 with
   |false,true=>some (.nilR i.1 i.2.1)
   |_,_=>some (.nilS i.2.1)
  |false=>some (.mv x)
 | .pick c a b=>some (.pick c a b)
 | .binOp op t x y _=>match op with
  | .eql=>match P.underlying t with
   |some (.int _)=>some (.bin .eql x y)
   |some .string=>some (.bin .eql x y)
   |some .bool=>some (.eqb false x y)
   |some (.slice _)=>oV (JK y) (some (.isnil false x))
   |some (.struct fs)=>opt (Hl P fs.toList 0) λks=>oV (!P.stoodInHeld t&&!P.eqGuardType P.depth t) (some (.eqs false ks x y))
   |_=>none
  | .neq=>match P.underlying t with
   |some (.int _)=>some (.bin .neq x y)
   |some .string=>some (.bin .neq x y)
   |some .bool=>some (.eqb true x y)
   |some (.slice _)=>oV (JK y) (some (.isnil true x))
   |some (.struct fs)=>opt (Hl P fs.toList 0) λks=>oV (!P.stoodInHeld t&&!P.eqGuardType P.depth t) (some (.eqs true ks x y))
   |_=>none
  |op=>some (.bin op x y)
 | .unOp op _ x=>some (.un op x)
 | .lookup t x k c=>match P.underlying t with
  |some (.map kt et)=>match P.underlying kt with
   |some (.int .i64)=>opt (P.info? et) λi=>match i.zero with
    |some (.bool false)=>some (.look c x k)
    |_=>none
   |_=>none
  |_=>none
 | .convert s d x=>match P.underlying s,P.underlying d with
  |some (.int _),some (.int k)=>some (.conv (.toInt k) x)
  |some .string,some .string=>some (.conv .same x)
  |some (.slice e),some .string=>match P.underlying e with
   |some (.int .u8)=>some (.conv .bts x)
   |_=>none
  |some .string,some (.slice e)=>match P.underlying e with
   |some (.int .u8)=>some (.conv (.stb e) x)
   |_=>none
  |_,_=>none
 | .load t x=>opt (V5 P t) λs=>match s.1 with
  |true=>some (.load true s.2 x)
  |false=>some (.load false 1 x)
 | .store t x v=>opt (P.info? t) λi=>some (.store i.size x v)
 | .alloc e=>match C_ P e with
  |some q=>some (.mkarr e 1 q.1 q.2)
  |none=>opt (gQ P e) λz=>some (.alloc e z)
 | .box e x=>some (.box e x)
 | .build t parts=>match P.underlying t with
  |some (.struct fs)=>opt (gQ P t) λz=>opt (Ol (λf:Field=>opt (P.info? f.type) λi=>some (f.offset,i.size)) fs.toList) λpl=>opt (Ol (λp:Nat×Operand=>opt (pl[p.1]?) λq=>some (q.1,q.2,p.2)) parts.toList) λps=>match z with
   | .agg cs=>some (.build cs ps)
   |_=>none
  |some (.array _ e)=>opt (gQ P t) λz=>opt (V5 P e) λs=>match z with
   | .agg cs=>some (.build cs (parts.toList.map λp=>(p.1*s.2,s.2,p.2)))
   |_=>none
  |_=>none
 | .buildSlice t n parts=>opt (DN P t) λi=>opt (R8 parts.toList 0) λps=>
  oV (Nat.beq ps.length n&&decide (0<i.2.1)&&Nat.ble (n*i.2.1) 16777216) (opt (gQ P i.1) λ_=>some (.bslice i.1 i.2.1 ps))
 | .call c=>match c.callee with
  | .builtin b=>match b,c.args.toList with
   | .len,[x]=>opt (c.argTypes[0]?) λt=>match P.underlying t with
    |some .string=>some (.lenS x)
    |some (.slice _)=>some (.lenR x)
    |_=>none
   | .append,[x,y]=>match c.argTypes.toList with
    |[t,u]=>opt (DN P t) λi=>opt (gQ P i.1) λz=>oV (decide (0<i.2.1)&&Nat.beq z.cells.length i.2.1) (match Nat.beq t u with
     |true=>some (.app i.1 i.2.1 i.2.2 x y)
     |false=>match P.underlying u with
      |some .string=>match P.underlying i.1 with
       |some (.int .u8)=>oV (Nat.beq i.2.1 1) (some (.appS i.1 i.2.2 x y))
       |_=>none
      |_=>none)
    |_=>none
   | .copy,[x,y]=>match c.argTypes.toList with
    |[t,u]=>opt (DN P t) λi=>match P.underlying u with
     |some .string=>match P.underlying i.1 with
      |some (.int .u8)=>oV (Nat.beq i.2.1 1) (some (.cpyS x y))
      |_=>none
     |some (.slice _)=>oV (decide (0<i.2.1)) (some (.cpy i.2.1 x y))
     |_=>none
    |_=>none
   | .clear,[x]=>opt (c.argTypes[0]?) λt=>opt (DN P t) λi=>opt (gQ P i.1) λz=>oV (decide (0<i.2.1)&&Nat.beq z.cells.length i.2.1) (some (.clr i.2.1 z x))
   | .min,[x,y]=>some (.mm false x y)
   | .max,[x,y]=>some (.mm true x y)
   |_,_=>none
  | .value f=>match f with
   | .func f=>opt (P.funcs[f]?) λfn=>match fn.body with
    |some _=>oV (decide (fn.name≠ "runtime.NumGoroutine")) (some (.call f c.args.toList))
    |none=>none
   | .tmp t=>some (.callv (.tmp t) c.args.toList)
   |_=>none
  |_=>none
 | .extract x i=>some (.ext x i)
 | .slice t x lo hi mx=>match mx with
  |none=>match P.underlying t with
   |some .string=>some (.slcS x lo hi)
   |some (.slice e)=>opt (P.info? e) λi=>some (.slcR i.size x lo hi)
   |some (.array _ _)=>opt (C_ P t) λq=>some (.slcA q.2 1 x lo hi)
   |_=>none
  |some _=>none
 | .index t x i=>match P.underlying t with
  |some .string=>some (.idx x i)
  |some (.array m e)=>match Kj P t i with
   |some q=>match q.2.1 with
    |true=>some (.fld q.1 true q.2.2 x)
    |false=>some (.fld q.1 false 1 x)
   |none=>opt (V5 P e) λs=>oV (decide (0<s.2)) (match s.1 with
    |true=>some (.idxV m s.2 true s.2 x i)
    |false=>some (.idxV m s.2 false 1 x i))
  |_=>none
 | .indexAddr t x i=>match P.underlying t with
  |some (.array m e)=>match C_ P t with
   |some q=>some (.idxAr q.2 1 x i)
   |none=>match Kj P t i with
    |some q=>some (.fldA q.1 x)
    |none=>opt (V5 P e) λs=>oV (decide (0<s.2)) (some (.fldV m s.2 x i))
  |_=>opt (DN P t) λs=>some (.idxA s.2.1 x i)
 | .fieldAddr s x f=>opt (fieldPlace P s f) λq=>some (.fldA q.1 x)
 | .field s x f=>opt (fieldPlace P s f) λq=>match q.2.1 with
  |true=>some (.fld q.1 true q.2.2 x)
  |false=>some (.fld q.1 false 1 x)
 | .nilCheck x=>some (.nilck x)
 | .makeFunc f first jh=>match f,first.toList with
  | .func f,[]=>some (.mkf f jh.toList)
  |_,_=>none
 | .makeSlice t l c=>opt (DN P t) λi=>opt (gQ P i.1) λz=>oV (decide (0<i.2.1)&&Nat.beq z.cells.length i.2.1) (some (.mksl i.1 i.2.1 i.2.2 z l c))
 | .panic _=>some .fail
 | .makeInterface t _=>match P.underlying t with
  |some (.interface _)=>none
  |some _=>some .junk
  |none=>none
 |_=>none
def aEZ(n:Nat):Option Tmp->Bool
 |none=>true
 |some d=>Nat.blt d n
noncomputable def anw(P:Program)(dr:Bool)(o:Oper):Option PK:=
 match ant P dr o with
 |some k=>some k
 |none=>match o.op with
  | .call _=>some .fail
  |_=>none
noncomputable def UR(P:Program)(dr:Bool)(ops:Array Oper)(n:Nat)(o:Oper):Option PO:=
 opt (anw P dr o) λk=>oV (aEZ n o.dst) (match o.guard with
  |none=>some ⟨o.dst,none,k⟩
  |some (j,want)=>opt (ops[j]?) λoj=>opt oj.dst λd=>some ⟨o.dst,some (d,want),k⟩)
noncomputable def adX(P:Program)(n:Nat)(c:Code):Option (List PO):=
 Code.rec (motive:=λ_=>Option (List PO)) none
  (λ_ ops draw=>match draw with
    |false=>Ol (UR P false ops n) ops.toList
    |true=>none)
  (λ_ _ a b=>opt a λa=>opt b λb=>some (a++b))
  (λ_ _ _ _ _=>none) (λ_ _ _=>none) (λ_ _=>none) (λ_ _ _ _ _ _=>none) (λ_=>none) (λ_ _=>none) (λ_=>none) (λ_=>none) none (λ_=>none) c
noncomputable def nR(P:Program)(n:Nat)(c:Code):Option PC:=
 Code.rec (motive:=λ_=>Option PC)
  (some .skip)
  (λ_ ops draw=>match draw with
    |false=>opt (Ol (UR P false ops n) ops.toList) λl=>some (.region l)
    |true=>opt (Ol (UR P true ops n) ops.toList) λl=>some (.draw (l.map PO.plain) (ops.toList.map λo=>(o.after.toList.filter λe=>Region.binds .any e).map (·.on))))
  (λ_ _ a b=>opt a λa=>opt b λb=>some (.seq a b))
  (λx _ _ a b=>opt a λa=>opt b λb=>some (.cond x a b))
  (λid _ b=>opt b λb=>some (.block id b))
  (λ_ b=>opt b λb=>some (.loop [] b))
  (λf ps qJ _ _ b=>opt (adX P n qJ) λl=>opt b λb=>oV (ps.toList.all λp=>Nat.blt p n) (some (.rangeF f ps.toList l b)))
  (λid=>some (.exit id))
  (λ_ _=>none)
  (λ_=>none)
  (λ_=>none)
  (some .ret)
  (λ_=>none) c
noncomputable def strip(c:PC):PC:=
 PC.rec .skip (λl=>.region l) (λl a=>.draw l a) (λl a=>.draw l a) (λ_ _ a b=>.seq a b) (λx _ _ a b=>.cond x a b) (λid _ b=>.block id b) (λ_ _ b=>.loop [] b) (λf ps l _ b=>.rangeF f ps l b) (λid=>.exit id) .ret c
def aib(P:Program)(r:ResultVar):Option (Nat×Option (Bool×Nat)):=
 match r with
 | .tmp t=>some (t,none)
 | .cell a t=>opt (V5 P t) λs=>match s.1 with
  |true=>some (a,some (true,s.2))
  |false=>some (a,some (false,1))
section
section
variable {α:Type}
def aS(l:List α):∀(i:Nat) (K:α->Prop),g_ l i K→∃a,l[i]?=some a/\K a:=by
 induction l with
 |nil=>intro i K h;exact h.elim
 |cons a l ih=>
  intro i K h;cases i with
  |zero=>exact⟨a,rfl,h⟩
  |succ i=>simpa using ih i K h
def HM(n:Nat):∀(l:List α) (K:List α->Prop),J7 n l K→∃t r,l=t++r/\t.length=n/\K t:=by
 induction n with
 |zero=>intro l K h;exact⟨[],l,rfl,rfl,h⟩
 |succ n ih=>
  intro l K h;cases l with
  |nil=>exact h.elim
  |cons a l=>
   obtain⟨t,r,rfl,h2,h3⟩:=ih l _ h;exact⟨a::t,r,rfl,by simp[h2],h3⟩
def Ce(n:Nat):∀(l:List α) (K:List α->Prop),Ii n l K→∃t r,l=t++r/\t.length=n/\K r:=by
 induction n with
 |zero=>intro l K h;exact⟨[],l,rfl,rfl,h⟩
 |succ n ih=>
  intro l K h;cases l with
  |nil=>exact h.elim
  |cons a l=>
   obtain⟨t,r,rfl,h2,h3⟩:=ih l _ h;exact⟨a::t,r,rfl,by simp[h2],h3⟩
def ao_(new:List α):∀(l:List α) (K:List α->Prop),
 (List.rec (λl K=>K l) (λx _ ih l K=>match l with|[]=>False|_::r=>ih r λt=>K (x::t)) new l K)->
 ∃mid post,l=mid++post/\mid.length=new.length/\K (new++post):=by
 induction new with
 |nil=>intro l K h;exact⟨[],l,rfl,rfl,h⟩
 |cons x new ih=>
  intro l K h;cases l with
  |nil=>exact h.elim
  |cons a l=>
   obtain⟨m,p,rfl,h2,h3⟩:=ih l _ h;exact⟨a::m,p,rfl,by simp[h2],h3⟩
def uD(new:List α)(l:List α):∀(i:Nat) (K:List α->Prop),GR new l i K->
 ∃pre mid post,l=pre++mid++post/\pre.length=i/\mid.length=new.length/\K (pre++new++post):=by
 induction l with
 |nil=>
  intro i K h;cases i with
  |zero=>
   cases new with
   |nil=>exact⟨[],[],[],rfl,rfl,rfl,h⟩
   |cons x new=>exact h.elim
  |succ i=>exact h.elim
 |cons a l ih=>
  intro i K h;cases i with
  |zero=>
   obtain⟨m,p,h1,h2,h3⟩:=ao_ new (a::l) K h;exact⟨[],m,p,xO,rfl,h2,Fe⟩
  |succ i=>
   obtain⟨pre,m,p,rfl,h2,h3,h4⟩:=ih i _ h;exact⟨a::pre,m,p,aj,by simp[h2],h3,Kq⟩
def fS(l:List α):∀(i:Nat) (x:α) (K:List α->Prop),wu l i x K->i<l.length/\K (l.set i x):=by
 induction l with
 |nil=>intro i x K h;exact h.elim
 |cons a l ih=>
  intro i x K h;cases i with
  |zero=>exact⟨aj,h⟩
  |succ i=>have:=ih i x _ h;exact⟨by simpa using this.1,by simpa using this.2⟩
def cN(l:List α)(x:α):∀(K:List α->Prop),gD l x K->K (l++[x]):=by
 induction l with
 |nil=>intro K h;exact h
 |cons a l ih=>intro K h;exact ih _ h
def gV(l:List α):∀(K:Nat->Prop),pf l K->K l.length:=by
 induction l with
 |nil=>intro K h;exact h
 |cons a l ih=>intro K h;exact ih _ h
end
def Mh(p:Nat)(K:AV->Prop)(e:Env):look p K e->K (aE p e):=by
 induction e with
 |nil=>intro h;exact h
 |cons hd e ih=>
  intro h;obtain⟨q,v⟩:=hd;have h':Bool.rec (look p K e) (K v) (Nat.beq q p):=h;simp only[aE];cases hq:Nat.beq q p with
  |true=>rw[hq]at h';exact h'
  |false=>rw[hq]at h';exact ih h'
def bK(env:Env):Operand->AV
 | .tmp t=>aE t env
 | .const v=>GO v
 | .global _=>.bad
 | .func f=>.pv (.clo f [])
def aR(env:Env)(o:Operand)(K:AV->Prop)(h:ev env o K):K (bK env o):=by
 cases o with
 |tmp t=>exact Mh t K env h
 |const v=>exact h
 |global g=>exact h
 |func f=>exact h
def Rv(env:Env)(l:List Operand):∀(K:List AV->Prop),uT env l K->K (l.map (bK env)):=by
 induction l with
 |nil=>intro K h;exact h
 |cons o l ih=>intro K h;exact ih _ (aR env o _ h)
def Gd(env:Env)(o:Option Operand)(K:Option AV->Prop)(h:yI env o K):K (o.map (bK env)):=by
 cases o with
 |none=>exact h
 |some x=>exact aR env x _ h
def Qr(env:Env)(l:List (Nat×Nat×Operand)):∀(K:List (Nat×Nat×AV)->Prop),Me env l K->K (l.map λp=>(p.1,p.2.1,bK env p.2.2)):=by
 induction l with
 |nil=>intro K h;exact h
 |cons o l ih=>intro K h;exact ih _ (aR env o.2.2 _ h)
def alZ(env:Env)(ps:List Nat):∀(K:Env->Prop),canon env ps K->K (ps.map λp=>(p,aE p env)):=by
 induction ps with
 |nil=>intro K h;exact h
 |cons p ps ih=>intro K h;exact ih _ (Mh p (λv=>canon env ps λr=>K ((p,v)::r)) env h)
def tR(l:List PV):∀(K:List AV->Prop),abh l K->K (l.map .pv):=by
 induction l with
 |nil=>intro K h;exact h
 |cons x l ih=>intro K h;exact ih _ h
def nQ(l:List AV):∀(K:List PV->Prop) (E:Prop),G_ l K E->(∃t,l=t.map .pv/\K t)\/E:=by
 induction l with
 |nil=>intro K E h;exact .inl ⟨[],rfl,h⟩
 |cons a l ih=>
  intro K E h;cases a with
  |pv x=>
   rcases ih _ E h with⟨t,rfl,h2⟩|h2
   ·exact .inl ⟨x::t,rfl,h2⟩
   ·exact .inr h2
  |_=>exact .inr h
def TP(l:List AV)(K:AV->Prop)(h:aqx l K):(∃t,l=t.map .pv/\K (.pv (.agg t)))\/K (.agg l):=nQ l _ _ h
def Vb(env:Env)(ps:List Nat)(p:Nat):aE p (ps.map λp=>(p,aE p env))=aE p env\/aE p (ps.map λp=>(p,aE p env))=.bad:=by
 induction ps with
 |nil=>exact .inr rfl
 |cons q ps ih=>
  simp only[zau,aE];cases hq:Nat.beq q p with
  |true=>have:q=p:=zab hq;subst this;exact .inl rfl
  |false=>exact ih
def kq(d:Nat)(v:AV)(env:Env)(p:Nat):aE p (put (some d) v env)=bif Nat.beq d p then v else aE p env:=rfl
section read
variable {ok:Nat->Prop} {σ:aF} {vals:List Value} {w:World}
def iw(l:List PV):∀vs:List Value,fY ok σ vals w (l.map .pv) vs↔bS ok w l vs:=by
 induction l with
 |nil=>intro vs;simp[fY,bS]
 |cons x l ih=>intro vs;simp only[zau,fY,bS,RA,ih]
def gE(xs ys:List AV):∀vs:List Value,fY ok σ vals w (xs++ys) vs↔∃us ws,vs=us++ws/\fY ok σ vals w xs us/\fY ok σ vals w ys ws:=by
 induction xs with
 |nil=>intro vs;simp only[zaZ,fY];constructor
       ·intro h;exact⟨[],vs,rfl,rfl,h⟩
       ·rintro⟨us,ws,rfl,rfl,h⟩;exact h
 |cons x xs ih=>
  intro vs;simp only[zbd,fY,ih];constructor
  ·rintro⟨v,r,rfl,h1,us,ws,rfl,h2,h3⟩;exact⟨v::us,ws,rfl,⟨v,us,rfl,h1,h2⟩,h3⟩
  ·rintro⟨_,ws,rfl,⟨v,us,rfl,h1,h2⟩,h3⟩;exact⟨v,us++ws,rfl,h1,us,ws,rfl,h2,h3⟩
def fY.length{l:List AV}:∀{vs:List Value},fY ok σ vals w l vs->vs.length=l.length:=by
 induction l with
 |nil=>intro vs h;simp only[fY]at h;subst h;rfl
 |cons x l ih=>intro vs h;simp only[fY]at h;obtain⟨v,r,rfl,_,h2⟩:=h;simp[ih h2]
def eG(xs ys:List PV)(vs:List Value):bS ok w (xs++ys) vs↔∃us ws,vs=us++ws/\bS ok w xs us/\bS ok w ys ws:=by
 have:=gE (ok:=ok) (σ:=[]) (vals:=[]) (w:=w) (xs.map .pv) (ys.map .pv) vs;rw[<-List.map_append,iw]at this;simpa only[iw]using this
def bS.length{l:List PV}{vs:List Value}(h:bS ok w l vs):vs.length=l.length:=((uo l vs).1 h).1
end read
end
end Go.Dv
namespace Go.Dv
open Go.RowKit
section
def Out(cx:Cx)(env:Env)(a:Act)(w:World)(o:Oper)(K:AV->aF->Prop):Prop:=
 ∀(next:Act->World->Prop) (Q:Exit->Act->World->Prop),
  (∀av σ' aO v w',K av σ'->Rel cx env σ' aO a w'->RA (Ok cx σ' aO w') σ' aO w' av v->next (a.put o.dst v) w')->o.wp cx.P a w next Q
section
variable {cx:Cx} {env:Env} {σ:aF} {vals:List Value} {a:Act} {w:World} {o:Oper}
def Rel.ev(h:Rel cx env σ vals a w)(x:Operand):RA (Ok cx σ vals w) σ vals w (bK env x) (a.eval x):=by
 cases x with
 |tmp t=>exact h.env t
 |const v=>
  simp only[bK,Act.eval];unfold GO;split<;>simp only[RA,Rd];rename_i h1 h2 h3 h4 h5 h6;refine⟨trivial,?_⟩;cases v<;>first|rfl|exact(h5 _ rfl).elim|exact(h6 _ rfl).elim
 |global g=>simp only[bK,RA]
 |func f=>simp only[bK,Act.eval,RA,Rd];exact⟨#[],rfl,Fo⟩
def Rel.cd(h:Rel cx env σ vals a w)(l:List Operand):fY (Ok cx σ vals w) σ vals w (l.map (bK env)) (l.map a.eval):=by
 induction l with
 |nil=>simp[fY]
 |cons x l ih=>simp only[zau,fY];exact⟨_,_,rfl,h.ev x,ih⟩
def Out.run{K:AV->aF->Prop}{σ':aF}{aO:List Value}{w':World}{v:Value}{av:AV}(cL:(execOp a.eval o).run cx.P w=.ok (.value v) w')(hr:Rel cx env σ' aO a w')(hv:RA (Ok cx σ' aO w') σ' aO w' av v)
 (hK:K av σ'):Out cx env a w o K:=by
 intro next Q hn
 unfold Oper.wp;rw[cL,Oper.upon_value];exact hn av σ' aO v w' hK hr hv
def Out.skip{K:AV->aF->Prop}{σ':aF}{aO:List Value}{w':World}(cL:(execOp a.eval o).run cx.P w=.ok .skip w')(hr:Rel cx env σ' aO a w')
 (hK:K .bad σ'):Out cx env a w o K:=by
 intro next Q hn
 unfold Oper.wp;rw[cL,Oper.upon_skip];exact hn .bad σ' aO undef w' hK hr (by simp only[RA])
def ahE{K:AV->aF->Prop}(hr:Rel cx env σ vals a w)(x:Operand)(ho:o.op=.move x\/o.op=.assign x)(hK:K (bK env x) σ):Out cx env a w o K:=by
 refine Out.run (v:=a.eval x) ?_ hr (hr.ev x) hK;rcases ho with ho|ho<;>simp[execOp,ho]
def AB{p:Prop}[Decidable p]{K:PV->Prop}(h:Bg p K):K (.bool (decide p)):=h _ aj
def fD{k j:IntKind}(h:Nat.beq k.ctorIdx j.ctorIdx=true):k=j:=by
 cases k<;>cases j<;>first|rfl|cases h
def atq(P:Program)(op:BinOp)(t:TypeId)(k j:IntKind)(x y:Int)(K:PV->Prop)(hj:sameKind op k j=true)(h:atB op k x y K):
 ∃r v,(binOp op t (.int k x) (.int j y)).run P w=.ok v w/\Rd (Ok cx σ vals w) w r v/\K r∧∀b1 b2,(eqGuard op t b1 b2 (.int k x) (.int j y)).run P w=.ok () w:=by
 have hg:∀b1 b2,(eqGuard op t b1 b2 (.int k x) (.int j y)).run P w=.ok () w:=by
  intro b1 b2;cases op<;>simp[eqGuard]
 cases op with
 |shl=>
  obtain⟨h0,h⟩:=h;refine⟨_,.int k (k.wrap (x*2^min y.toNat k.bits)),?_,eo,h _ rfl,hg⟩;simp[binOp,Op.shift,show ¬y<0 from by omega]
 |shr=>
  obtain⟨h0,h⟩:=h;refine⟨_,.int k (x.fdiv (2^min y.toNat k.bits)),?_,eo,h _ rfl,hg⟩;simp[binOp,Op.shift,show ¬y<0 from by omega]
 |quo=>
  obtain⟨h0,h⟩:=h;cases fD hj;refine⟨_,.int k (k.wrap (x.tdiv y)),?_,eo,h _ rfl,hg⟩;simp[binOp,Op.intDiv,h0]
 |rem=>
  obtain⟨h0,h⟩:=h;cases fD hj;refine⟨_,.int k (x.tmod y),?_,eo,h _ rfl,hg⟩;simp[binOp,Op.intDiv,h0]
 |add=>cases fD hj;exact⟨_,.int k (k.wrap (x+y)),Y6,eo,h _ rfl,hg⟩
 |sub=>cases fD hj;exact⟨_,.int k (k.wrap (x-y)),Y6,eo,h _ rfl,hg⟩
 |mul=>cases fD hj;exact⟨_,.int k (k.wrap (x*y)),Y6,eo,h _ rfl,hg⟩
 |and=>cases fD hj;exact⟨_,.int k (iz .and k x y),Rl,eo,h _ rfl,hg⟩
 |or=>cases fD hj;exact⟨_,.int k (iz .or k x y),Rl,eo,h _ rfl,hg⟩
 |xor=>cases fD hj;exact⟨_,.int k (iz .xor k x y),Rl,eo,h _ rfl,hg⟩
 |andNot=>cases fD hj;exact⟨_,.int k (iz .andNot k x y),Rl,eo,h _ rfl,hg⟩
 |eql=>cases fD hj;exact⟨.bool (x==y),.bool (x==y),EW,eo,h _ aj,hg⟩
 |neq=>cases fD hj;exact⟨.bool (x !=y),.bool (x !=y),EW,eo,h _ aj,hg⟩
 |lss=>cases fD hj;exact⟨.bool (decide (x<y)),.bool (decide (x<y)),EW,eo,h _ aj,hg⟩
 |leq=>cases fD hj;exact⟨.bool (decide (x<=y)),.bool (decide (x<=y)),EW,eo,h _ aj,hg⟩
 |gtr=>cases fD hj;exact⟨.bool (decide (y<x)),.bool (decide (y<x)),EW,eo,h _ aj,hg⟩
 |geq=>cases fD hj;exact⟨.bool (decide (y<=x)),.bool (decide (y<=x)),EW,eo,h _ aj,hg⟩
def Dr(l m:List UInt8):((⟨l.toArray⟩:ByteArray).toList==(⟨m.toArray⟩:ByteArray).toList)=decide (l=m):=by
 rw[ByteArray.toList_mk,ByteArray.toList_mk,zaN];simp
def GD(l m:List UInt8):Op.bytesLess (⟨l.toArray⟩:ByteArray).toList (⟨m.toArray⟩:ByteArray).toList=decide (Op.bytesLess l m=true):=by
 rw[ByteArray.toList_mk,ByteArray.toList_mk];simp
def aju(P:Program)(op:BinOp)(t:TypeId)(x y:PV)(vx vy:Value)(K:PV->Prop)(hx:Rd (Ok cx σ vals w) w x vx)(hy:Rd (Ok cx σ vals w) w y vy)(h:ax6 op x y K):
 ∃r v,(binOp op t vx vy).run P w=.ok v w/\Rd (Ok cx σ vals w) w r v/\K r∧∀b1 b2,(eqGuard op t b1 b2 vx vy).run P w=.ok () w:=by
 cases x with
 |int k x=>
  cases y with
  |int j y=>
   simp only[Rd]at hx hy;subst hx hy;have h':(match sameKind op k j with|true=>atB op k x y K|false=>False):=h;cases hs:sameKind op k j with
   |true=>rw[hs]at h';exact atq P op t k j x y K hs h'
   |false=>rw[hs]at h';exact h'.elim
  |_=>exact h.elim
 |str x=>
  cases y with
  |str y=>
   simp only[Rd]at hx hy;subst hx hy;have hg:∀b1 b2,(eqGuard op t b1 b2 (.string ⟨x.toArray⟩) (.string ⟨y.toArray⟩)).run P w=.ok () w:=by
    intro b1 b2;cases op<;>simp[eqGuard]
   cases op with
   |add=>
    obtain⟨h0,h⟩:=h;refine⟨_,.string ⟨(x++y).toArray⟩,?_,eo,h,hg⟩;have h1:¬(((⟨x.toArray⟩:ByteArray).size+(⟨y.toArray⟩:ByteArray).size:Nat):Int)>IntKind.i64.max:=by
     have:IntKind.i64.max=9223372036854775807:=ao;rw[this];show ¬((x.length+y.length:Nat):Int)>_;omega
    simp only[binOp,Op.stringOp,if_neg h1];show Result.ok (Value.string (⟨x.toArray⟩++⟨y.toArray⟩)) w=_;congr 2
   |eql=>
    refine⟨_,.bool (decide (x=y)),?_,eo,AB h,hg⟩;simp only[binOp,Op.stringOp,Dr];rfl
   |neq=>
    refine⟨_,.bool (decide (x≠y)),?_,eo,AB h,hg⟩;simp only[binOp,Op.stringOp,Dr,decide_not];rfl
   |lss=>
    refine⟨_,.bool (decide (Op.bytesLess x y=true)),?_,eo,AB h,hg⟩;simp only[binOp,Op.stringOp,GD];rfl
   |leq=>
    refine⟨_,.bool (decide (Op.bytesLess x y=true\/x=y)),?_,eo,AB h,hg⟩;simp only[binOp,Op.stringOp,GD,Dr,zbh];rfl
   |gtr=>
    refine⟨_,.bool (decide (¬(Op.bytesLess x y=true\/x=y))),?_,eo,AB h,hg⟩;simp only[binOp,Op.stringOp,GD,Dr,decide_not,zbh];rfl
   |geq=>
    refine⟨_,.bool (decide (¬Op.bytesLess x y=true)),?_,eo,AB h,hg⟩;simp only[binOp,Op.stringOp,GD,decide_not];rfl
   |_=>exact h.elim
  |_=>exact h.elim
 |_=>exact h.elim
def awN{K:AV->aF->Prop}(hr:Rel cx env σ vals a w)(op:BinOp)(t u:TypeId)(x y:Operand)(ho:o.op=.binOp op t x y u)
 (hK:match bK env x,bK env y with
   | .pv x,.pv y=>ax6 op x y λr=>K (.pv r) σ
   |_,_=>False):Out cx env a w o K:=by
 have hx:=hr.ev x;have hy:=hr.ev y
 revert hK hx hy
 cases bK env x with
 |pv px=>
  cases bK env y with
  |pv py=>
   intro hK hx hy;simp only[RA]at hx hy;obtain⟨r,v,h1,h2,h3,h4⟩:=aju cx.P op t px py _ _ _ hx hy hK;refine Out.run (v:=v) ?_ hr Zm h3;simp[execOp,ho,h1,h4]
  |_=>intro hK;exact hK.elim
 |_=>intro hK;exact hK.elim
def aCJ{K:AV->aF->Prop}(hr:Rel cx env σ vals a w)(op:UnOp)(t:TypeId)(x:Operand)(ho:o.op=.unOp op t x)
 (hK:match bK env x with
   | .pv x=>my op x λr=>K (.pv r) σ
   |_=>False):Out cx env a w o K:=by
 have hx:=hr.ev x
 revert hK hx
 cases bK env x with
 |pv px=>
  intro hK hx;simp only[RA]at hx;cases op with
  |not=>
   cases px with
   |bool b=>
    simp only[Rd]at hx;refine Out.run (v:=.bool (!b)) (by simp[execOp,ho,hx,Op.unary]) hr (av:=.pv (.bool (!b))) jc (hK _ aj)
   |_=>exact hK.elim
  |neg=>
   cases px with
   |int k n=>
    simp only[Rd]at hx;refine Out.run (v:=.int k (k.wrap (0-n))) (by simp[execOp,ho,hx,Op.unary,Op.intArith]) hr (av:=.pv (.int k (k.wrap (0-n)))) jc (hK _ rfl)
   |_=>exact hK.elim
  |_=>exact hK.elim
 |_=>intro hK;exact hK.elim
def am5{K:AV->aF->Prop}(hr:Rel cx env σ vals a w)(neg:Bool)(t u:TypeId)(x y:Operand)
 (hK:match bK env x,bK env y with
   | .pv x,.pv y=>match x,y with
    | .bool a,.bool b=>match neg with
     |false=>Bg (a=b) λr=>K (.pv r) σ
     |true=>Bg (a≠b) λr=>K (.pv r) σ
    |_,_=>False
   |_,_=>False)
 (ho:o.op=.binOp (if neg then .neq else .eql) t x y u) (ht:cx.P.underlying t=some .bool):Out cx env a w o K:=by
 have hx:=hr.ev x;have hy:=hr.ev y
 revert hK hx hy
 cases bK env x with
 |pv px=>
  cases bK env y with
  |pv py=>
   cases px with
   |bool p=>
    cases py with
    |bool q=>
     intro hK hx hy;simp only[RA,Rd]at hx hy;cases neg with
     |false=>
      refine Out.run (v:=.bool (p==q)) ?_ hr (av:=.pv (.bool (p==q))) jc (hK _ aj);simp[execOp,ho,hx,hy,eqGuard,binOp,Op.equal,run_equalIn_bool w 9999 t p q ht,Op.maxDepth,Sem.run_bind,Sem.run_pure]
     |true=>
      refine Out.run (v:=.bool (p !=q)) ?_ hr (av:=.pv (.bool (p !=q))) jc (hK _ aj);simp[execOp,ho,hx,hy,eqGuard,binOp,Op.equal,run_equalIn_bool w 9999 t p q ht,Op.maxDepth,Sem.run_bind,Sem.run_pure];cases p<;>cases q<;>rfl
    |_=>intro hK;exact hK.elim
   |_=>intro hK;cases py<;>exact hK.elim
  |_=>intro hK;exact hK.elim
 |_=>intro hK;exact hK.elim
noncomputable instance aLY:DecidableEq PV:=λx y=>Classical.propDecidable (x=y)
def NV{P:Program}{t:TypeId}(h:∀d,P.underlying t=some d->(d matches .struct _| .array _ _)=false)(hd:∃d,P.underlying t=some d){cs:Array Value}{off:Nat}{v:Value}(hv:cs[off]?=some v):
 (part t cs off).run P w=.ok v w:=by
 obtain⟨d,hd⟩:=hd;have:=h d hd;cases d<;>simp_all[part,isAgg,run_underlying hd]
def Qf:∀(k1 k2:List Nat) (cs ds:List PV),v_ (k1++k2) cs ds=true→∃c1 c2 d1 d2,cs=c1++c2/\ds=d1++d2/\v_ k1 c1 d1=true/\v_ k2 c2 d2=true/\c1.length=k1.length/\d1.length=k1.length
 |[],k2,cs,ds,h=>⟨[],cs,[],ds,rfl,rfl,rfl,h,rfl,rfl⟩
 |k::k1,k2,cs,ds,h=>by
  cases cs with
  |nil=>cases h
  |cons c cs=>
   cases ds with
   |nil=>cases h
   |cons d ds=>
    have h':(match Mb k c d with|true=>v_ (k1++k2) cs ds|false=>false)=true:=h;cases h1:Mb k c d with
    |false=>rw[h1]at h';cases h'
    |true=>
     rw[h1]at h';obtain⟨c1,c2,d1,d2,rfl,rfl,e1,e2,e3,e4⟩:=Qf k1 k2 cs ds h';refine⟨c::c1,c2,d::d1,d2,rfl,rfl,?_,e2,by simp[e3],by simp[e4]⟩;show(match Mb k c d with|true=>v_ k1 c1 d1|false=>false)=true;rw[h1];exact e1
def VW{P:Program}{w:World}{t:TypeId}{gs:Array Field}{i:TypeInfo}(h:P.underlying t=some (.struct gs))(hi:P.info? t=some i)(cs:Array Value)(off:Nat):
 (part t cs off).run P w=.ok (.agg (cs.extract off (off+i.size))) w:=by
 simp[part,isAgg,run_underlying h,sizeOf,run_typeInfo w hi]
def T9{P:Program}(N:Nat)(sub:List Field->Option (List Nat))
 (aJN:∀(gs:List Field) (ks:List Nat) (cs ds:List PV) (xs ys:Array Value),sub gs=some ks->v_ ks cs ds=true->bS (Ok cx σ vals w) w cs xs.toList->bS (Ok cx σ vals w) w ds ys.toList->(Op.eqFields N xs ys gs).run P w=.ok (decide (cs=ds)) w)
 (fs:List Field):∀(n:Nat) (ks:List Nat) (cs ds:List PV) (xs ys:Array Value),FG P sub fs n=some ks->v_ ks cs ds=true->
 bS (Ok cx σ vals w) w cs (xs.toList.drop n)->bS (Ok cx σ vals w) w ds (ys.toList.drop n)->(Op.eqFields (N+1) xs ys fs).run P w=.ok (decide (cs=ds)) w:=by
 induction fs with
 |nil=>
  intro n ks cs ds xs ys hk hl hx hy;cases hk;have:cs=[]/\ds=[]:=by
   cases cs with
   |nil=>cases ds with
    |nil=>exact⟨rfl,rfl⟩
    |cons d ds=>simp[v_]at hl
   |cons c cs=>simp[v_]at hl
  obtain⟨rfl,rfl⟩:=this;simp[Op.eqFields]
 |cons f fs ih=>
  intro n ks cs ds xs ys hk hl hx hy;have sN:oV (Nat.beq f.offset n&&f.name != "_") (match P.underlying f.type with
   |some (.int _)=>opt (FG P sub fs (n+1)) λr=>some (0::r)
   |some .string=>opt (FG P sub fs (n+1)) λr=>some (1::r)
   |some .bool=>opt (FG P sub fs (n+1)) λr=>some (2::r)
   |some (.struct gs)=>opt (sub gs.toList) λks=>opt (P.info? f.type) λi=>oV (Nat.beq i.size ks.length&&!P.stoodInHeld f.type) (opt (FG P sub fs (n+ks.length)) λr=>some (ks++r))
   |_=>none)=some ks:=hk
  cases hb:(Nat.beq f.offset n&&f.name != "_")with
  |false=>rw[hb]at sN;simp[oV]at sN
  |true=>
   rw[hb]at sN;simp only[oV]at sN;rw[zaU]at hb;have ho:f.offset=n:=zab hb.1;have hn:f.name≠ "_" :=by simpa using hb.2
   have main:∀k r,ks=k::r->FG P sub fs (n+1)=some r->
    (∀c d u v,Mb k c d=true->Rd (Ok cx σ vals w) w c u->Rd (Ok cx σ vals w) w d v->(Op.equalIn (N+1) f.type u v).run P w=.ok (decide (c=d)) w)->
    (∀d,P.underlying f.type=some d->(d matches .struct _| .array _ _)=false)->(∃d,P.underlying f.type=some d)->
    (Op.eqFields (N+1) xs ys (f::fs)).run P w=.ok (decide (cs=ds)) w:=by
    intro k r tI hr heq Cd hex;subst tI;cases cs with
    |nil=>simp[v_]at hl
    |cons c cs=>
     cases ds with
     |nil=>simp[v_]at hl
     |cons d ds=>
      have cK:(match Mb k c d with|true=>v_ r cs ds|false=>false)=true:=hl;cases h1:Mb k c d with
      |false=>rw[h1]at cK;cases cK
      |true=>
       rw[h1]at cK;simp only[bS]at hx hy;obtain⟨u,us,hu,Nt,sH⟩:=hx;obtain⟨v,vs,hv,tK,D_⟩:=hy;have e1:xs[n]?=some u:=by
        have:=congrArg (·[0]?) hu;simpa[zaB]using this
       have e2:ys[n]?=some v:=by
        have:=congrArg (·[0]?) hv;simpa[zaB]using this
       have d1:xs.toList.drop (n+1)=us:=by
        have:=congrArg List.tail hu;rwa[zbi]at this
       have d2:ys.toList.drop (n+1)=vs:=by
        have:=congrArg List.tail hv;rwa[zbi]at this
       have:=ih (n+1) r cs ds xs ys hr cK (d1▸sH) (d2▸D_);simp only[Op.eqFields,if_pos hn,Sem.run_bind,ho,NV Cd hex e1,NV Cd hex e2,Result.andThen_ok,heq c d u v h1 Nt tK,Sem.run_ite,this,Sem.run_pure];by_cases WQ:c=d
       ·simp[WQ]
       ·simp[WQ]
   cases hu:P.underlying f.type with
   |none=>rw[hu]at sN;cases sN
   |some d=>
    rw[hu]at sN;cases d with
    |int k=>
     simp only[opt]at sN;cases hr:FG P sub fs (n+1)with
     |none=>rw[hr]at sN;cases sN
     |some r=>
      rw[hr]at sN;cases sN;refine main 0 r rfl hr ?_ (λd hd=>abu) ⟨_,hu⟩;intro c d u v h1 hc hd;cases c<;>cases d<;>simp[Mb]at h1;simp only[Rd]at hc hd;subst h1 hc hd;rw[run_equalIn_int w N f.type _ k _ _ hu];congr 1;rw[zaN];simp
    |string=>
     simp only[opt]at sN;cases hr:FG P sub fs (n+1)with
     |none=>rw[hr]at sN;cases sN
     |some r=>
      rw[hr]at sN;cases sN;refine main 1 r rfl hr ?_ (λd hd=>abu) ⟨_,hu⟩;intro c d u v h1 hc hd;cases c<;>cases d<;>simp[Mb]at h1;simp only[Rd]at hc hd;subst hc hd;rw[run_equalIn_string w N f.type _ _ hu,Dr];congr 1;rw[zaN];simp
    |bool=>
     simp only[opt]at sN;cases hr:FG P sub fs (n+1)with
     |none=>rw[hr]at sN;cases sN
     |some r=>
      rw[hr]at sN;cases sN;refine main 2 r rfl hr ?_ (λd hd=>abu) ⟨_,hu⟩;intro c d u v h1 hc hd;cases c<;>cases d<;>simp[Mb]at h1;simp only[Rd]at hc hd;subst hc hd;rw[run_equalIn_bool w N f.type _ _ hu];congr 1;rw[zaN];simp
    |struct gs=>
     simp only[opt]at sN;cases hs:sub gs.toList with
     |none=>rw[hs]at sN;cases sN
     |some k1=>
      rw[hs]at sN;cases hi:P.info? f.type with
      |none=>rw[hi]at sN;cases sN
      |some i=>
       rw[hi]at sN;cases hz:(Nat.beq i.size k1.length&&!P.stoodInHeld f.type)with
       |false=>simp only[hz]at sN;cases sN
       |true=>
        simp only[hz,oV]at sN;rw[zaU]at hz;have mD:i.size=k1.length:=zab hz.1;have fM:P.stoodInHeld f.type=false:=by simpa using hz.2
        cases hr:FG P sub fs (n+k1.length)with
        |none=>rw[hr]at sN;cases sN
        |some r=>
         rw[hr]at sN;cases sN;obtain⟨c1,c2,d1,d2,rfl,rfl,l1,l2,n1,n2⟩:=Qf _ _ _ _ hl;obtain⟨us,ws,ov,I_,vR⟩:=(eG _ _ _).1 hx;obtain⟨nD,tL,Cm,Ep,cj⟩:=(eG _ _ _).1 hy;have m1:us.length=k1.length:=by rw[I_.length,n1]
         have m2:nD.length=k1.length:=by rw[Ep.length,n2]
         have e1:(xs.extract n (n+i.size)).toList=us:=by
          rw[za4,zaT,zav,ov,mD,<-m1,zbj]
         have e2:(ys.extract n (n+i.size)).toList=nD:=by
          rw[za4,zaT,zav,Cm,mD,<-m2,zbj]
         have f1:xs.toList.drop (n+k1.length)=ws:=by rw[<-zaQ,ov,<-m1,zbk]
         have f2:ys.toList.drop (n+k1.length)=tL:=by rw[<-zaQ,Cm,<-m2,zbk]
         have nE:P.fieldsOf f.type=gs:=by simp[Program.fieldsOf,hu]
         have heq:(Op.equalIn (N+1) f.type (.agg (xs.extract n (n+i.size))) (.agg (ys.extract n (n+i.size)))).run P w=.ok (decide (c1=d1)) w:=by
          rw[run_equalIn_struct w N f.type _ _ (by rw[nE];exact hu) fM,nE];exact aJN gs.toList k1 c1 d1 _ _ hs l1 (e1▸I_) (e2▸Ep)
         have aGv:=ih (n+k1.length) r c2 d2 xs ys hr l2 (f1▸vR) (f2▸cj);simp only[Op.eqFields,if_pos hn,Sem.run_bind,ho,VW hu hi,Result.andThen_ok,heq,Sem.run_ite,aGv,Sem.run_pure];have aJO:(c1++c2=d1++d2)↔(c1=d1/\c2=d2):=⟨λh=>List.append_inj h (by rw[n1,n2]),λ⟨h1,h2⟩=>by rw[h1,h2]⟩
         by_cases WQ:c1=d1
         ·simp[WQ]
         ·simp[WQ,aJO]
    |_=>cases sN
def ag4{P:Program}(fs:List Field)(ks:List Nat)(cs ds:List PV)(xs ys:Array Value)(hk:Hl P fs 0=some ks)(hl:v_ ks cs ds=true)
 (hx:bS (Ok cx σ vals w) w cs xs.toList) (hy:bS (Ok cx σ vals w) w ds ys.toList):(Op.eqFields 9999 xs ys fs).run P w=.ok (decide (cs=ds)) w:=by
 refine T9 9998 _ (λgs ks cs ds xs ys h1 h2 h3 h4=>?_) fs 0 ks cs ds xs ys hk hl (by simpa using hx) (by simpa using hy);refine T9 9997 _ (λgs ks cs ds xs ys h1 h2 h3 h4=>?_) gs 0 ks cs ds xs ys h1 h2 Fe Kq;exact T9 9996 _ (λgs ks cs ds xs ys h1 _ _ _=>by cases h1) gs 0 ks cs ds xs ys h1 h2 Fe Kq
def anP{K:AV->aF->Prop}(hr:Rel cx env σ vals a w)(neg:Bool)(ks:List Nat)(t u:TypeId)(x y:Operand)
 (hK:match bK env x,bK env y with
   | .pv x,.pv y=>match x,y with
    | .agg a,.agg b=>match v_ ks a b with
     |true=>match neg with
      |false=>Bg (a=b) λr=>K (.pv r) σ
      |true=>Bg (a≠b) λr=>K (.pv r) σ
     |false=>False
    |_,_=>False
   |_,_=>False)
 (ho:o.op=.binOp (if neg then .neq else .eql) t x y u) (fs:Array Field) (ht:cx.P.underlying t=some (.struct fs))
 (hk:Hl cx.P fs.toList 0=some ks) (hs:cx.P.stoodInHeld t=false) (hg:cx.P.eqGuardType cx.P.depth t=false):Out cx env a w o K:=by
 have hx:=hr.ev x;have hy:=hr.ev y
 revert hK hx hy
 cases bK env x with
 |pv px=>
  cases bK env y with
  |pv py=>
   cases px with
   |agg p=>
    cases py with
    |agg q=>
     intro hK hx hy;simp only[RA,Rd]at hx hy;obtain⟨_,xs,hx,dR⟩:=hx;obtain⟨_,ys,hy,cn⟩:=hy;have hf:cx.P.fieldsOf t=fs:=by simp[Program.fieldsOf,ht]
     cases hl:v_ ks p q with
     |false=>simp only[hl]at hK
     |true=>
      simp only[hl]at hK;have cL:=ag4 (P:=cx.P) fs.toList ks p q xs ys hk hl (by simpa using dR) (by simpa using cn);have azm:(Op.equalIn 10000 t (.agg xs) (.agg ys)).run cx.P w=.ok (decide (p=q)) w:=by
       rw[run_equalIn_struct w 9999 t xs ys (by rw[hf];exact ht) hs,hf];exact cL
      cases neg with
      |false=>
       refine Out.run (v:=.bool (decide (p=q))) ?_ hr (av:=.pv (.bool (decide (p=q)))) jc (hK _ aj);simp[execOp,ho,hx,hy,run_eqGuard_agg w _ t _ _ xs ys hg,run_eql_struct,azm]
      |true=>
       refine Out.run (v:=.bool (!decide (p=q))) ?_ hr (av:=.pv (.bool (!decide (p=q)))) jc (hK _ aj);simp[execOp,ho,hx,hy,run_eqGuard_agg w _ t _ _ xs ys hg,run_neq_struct,azm]
    |_=>intro hK;exact hK.elim
   |_=>intro hK;cases py<;>exact hK.elim
  |_=>intro hK;exact hK.elim
 |_=>intro hK;exact hK.elim
end
end
end Go.Dv
namespace Go.Dv
open Go.RowKit
section
def NW(ok:Nat->Prop)(w:World)(sz:Nat)(aC:List PV)(v:Value):Prop:=
 ∃a c,v=.slice a aC.length c/\aC.length<=c/\c<=maxLen/\(aC=[]∨∃b o,a=some ⟨b,o,none⟩/\fC ok w b sz o aC)
def ik(b o n:Nat):(⟨b,o,none⟩:Addr).add n=⟨b,o+n,none⟩:=by
 unfold Addr.add;split
 ·rename_i h;subst h;rfl
 ·rfl
section
variable {cx:Cx} {env:Env} {σ:aF} {vals:List Value} {a:Act} {w:World} {o:Oper}
def aey{ok:Nat->Prop}{sz:Nat}{aC:List PV}{v:Value}(h:Rd ok w (.sl sz aC) v):NW ok w sz aC v:=by
 simp only[Rd]at h;obtain⟨a,c,h1,h2,h3,h4⟩:=h;exact⟨a,c,h1,h2,h3,h4.imp id λ⟨b,o,h5,_,h6⟩=>⟨b,o,h5,h6⟩⟩
def pt{e:TypeId}{sz:Nat}{ap:Bool}{aC:List PV}{v:Value}(h:RB cx σ vals w (.row e sz ap aC) v):NW (Ok cx σ vals w) w sz aC v:=by
 obtain⟨mD,cells,h1,h2,h3,h4⟩:=h;rcases h1.2 with⟨rfl,h5⟩|⟨g,cap,cur,fr,rfl,h5,h6,h7,h8,h9,XK,gT⟩
 ·have:aC=[]:=zaf h5;subst this;exact⟨none,0,rfl,zai _,by simp[maxLen],.inl rfl⟩
 ·refine⟨_,cap,rfl,h7,h8,.inr ⟨g,0,rfl,(tq g sz aC 0).2 ⟨h2,(ER g _ 0).2 ⟨h3,cells,h4,λj u hu=>?_⟩⟩⟩⟩;have hj:cur[j]?=some u:=by
   rw[<-XK,zaI]at hu;split at hu
   ·simpa using hu
   ·cases hu
  simp[World.cell?,h6,hj]
def getElem?_of{α:Type}{l:List α}{i:Nat}{x y:α}(h:l[i]?=some x)(h':l[i]?=some y):x=y:=by rw[h]at h';exact Option.some.inj h'
def dH.val(h:dH cx σ vals w){i:Nat}{s:dC}(hi:σ[i]?=some s):∃v,vals[i]?=some v/\RB cx σ vals w s v:=by
 have hl:i<vals.length:=by rw[h.len];exact(zaa.1 hi).1
 exact⟨vals[i],zah hl,h.sV i s _ hi (zah hl)⟩
def alv{ok:Nat->Prop}{b sz:Nat}(xs ys:List PV):∀o,fC ok w b sz o (xs++ys)->fC ok w b sz (o+xs.length*sz) ys:=by
 intro o h;rw[tq]at h ⊢;obtain⟨h1,h2⟩:=h;rw[zaz,pU,fv sz xs (λx hx=>h1 x iP)]at h2;exact⟨λx hx=>h1 x iP,h2.2⟩
def al7{ok:Nat->Prop}{b sz:Nat}(xs ys:List PV):∀o,fC ok w b sz o (xs++ys)->fC ok w b sz o xs:=by
 intro o h;rw[tq]at h ⊢;obtain⟨h1,h2⟩:=h;rw[zaz,pU]at h2;exact⟨λx hx=>h1 x iP,h2.1⟩
def SP{ok:Nat->Prop}{b sz:Nat}(l h:Nat)(xs:List PV)(EA:l<=h)(hx:h<=xs.length)(o:Nat)(hr:fC ok w b sz o xs):fC ok w b sz (o+l*sz) (cut l h xs):=by
 have e1:xs=xs.take l++(cut l h xs++xs.drop h):=by
  unfold cut;rw[<-zaj];have:xs.take l++(xs.take h).drop l=xs.take h:=by
   have:=zaD l (xs.take h);rwa[List.take_take,zat EA]at this
  rw[this,zaD]
 rw[e1]at hr;have:=alv _ _ o hr;rw[zal,zat ab]at this;exact al7 _ _ _ this
def wL{α:Type}(l h:Nat)(xs:List α)(hx:h<=xs.length):(cut l h xs).length=h-l:=by
 unfold cut;rw[zay,zal,zat hx]
def Qa(hr:dH cx σ vals w){id sz lo n:Nat}{v:Value}(hv:RA (Ok cx σ vals w) σ vals w (.sub id sz lo n) v){b:dC}(hb:σ[id]?=some b){K:List PV->Prop}(h:YG sz lo n b K):
 ∃aC,K aC/\aC.length=n/\(∀K2:List PV->Prop,K2 aC->YG sz lo n b K2)/\
  ∃ad c,v=.slice ad n c/\n<=c/\c<=maxLen/\(aC=[]∨∃g,ad=some ⟨g,lo*sz,none⟩/\fC (Ok cx σ vals w) w g sz (lo*sz) aC/\
   ((∃e ap iv u,b=.row e sz ap iv/\vals[id]?=some u/\bl u=some g)\/(Ok cx σ vals w g∧∃iv,b=.fz (.sl sz iv))))/\(∃e ap iv,b=.row e sz ap iv/\aC=cut lo (lo+n) iv/\lo+n<=iv.length\/b=.fz (.sl sz iv)/\aC=cut lo (lo+n) iv/\lo+n<=iv.length):=by
 obtain⟨u,hu,tZ⟩:=hr.val hb;simp only[RA]at hv;obtain⟨_,ad,c,rfl,h2,h3,h4⟩:=hv;have main:∀iv:List PV,lo+n<=iv.length->(∀g n0 c0,u=.slice (some ⟨g,0,none⟩) n0 c0->0<n->fC (Ok cx σ vals w) w g sz 0 iv/\((∃e ap iv u,b=.row e sz ap iv/\vals[id]?=some u/\bl u=some g)\/(Ok cx σ vals w g∧∃iv,b=.fz (.sl sz iv))))->K (cut lo (lo+n) iv)->(∀K2:List PV->Prop,K2 (cut lo (lo+n) iv)->YG sz lo n b K2)->
  (∃e ap aeO,b=.row e sz ap aeO/\cut lo (lo+n) iv=cut lo (lo+n) aeO/\lo+n<=aeO.length\/b=.fz (.sl sz aeO)/\cut lo (lo+n) iv=cut lo (lo+n) aeO/\lo+n<=aeO.length)->
  ∃aC,K aC/\aC.length=n/\(∀K2:List PV->Prop,K2 aC->YG sz lo n b K2)/\
  ∃JI c',Value.slice ad n c=.slice JI n c'/\n<=c'/\c'<=maxLen/\(aC=[]∨∃g,JI=some ⟨g,lo*sz,none⟩/\fC (Ok cx σ vals w) w g sz (lo*sz) aC/\
   ((∃e ap iv u,b=.row e sz ap iv/\vals[id]?=some u/\bl u=some g)\/(Ok cx σ vals w g∧∃iv,b=.fz (.sl sz iv))))/\(∃e ap iv,b=.row e sz ap iv/\aC=cut lo (lo+n) iv/\lo+n<=iv.length\/b=.fz (.sl sz iv)/\aC=cut lo (lo+n) iv/\lo+n<=iv.length):=by
  intro iv hle hg hk AP t_;refine⟨_,hk,by rw[wL _ _ _ hle];omega,AP,ad,c,rfl,h2,h3,?_,t_⟩;rcases h4 with rfl|⟨g,n0,c0,h5,h6⟩
  ·left;simp[cut]
  ·by_cases hn:n=0
   ·subst hn;left;simp[cut]
   rw[hu]at h5;cases h5;obtain⟨f1,f2⟩:=hg g n0 c0 rfl ab;right;refine⟨g,h6,?_,f2⟩;have:=SP lo (lo+n) iv ab hle 0 f1;rwa[zaV]at this
 cases b with
 |row e s ap iv=>
  replace h:(match Nat.beq s sz with|true=>lo+n<=iv.length/\K (cut lo (lo+n) iv)|false=>False):=h;cases hs:Nat.beq s sz with
  |false=>rw[hs]at h;exact h.elim
  |true=>
   rw[hs]at h;have:=zab hs;subst this;refine main iv h.1 (λg n0 c0 hg hn=>⟨?_,.inl ⟨_,_,_,u,rfl,hu,by rw[hg];rfl⟩⟩) h.2 (λK2 h2=>?_) ⟨e,ap,iv,.inl ⟨rfl,rfl,h.1⟩⟩
   ·obtain⟨nJ,c2,g1,_,_,g4⟩:=pt tZ;rw[hg]at g1;cases g1;rcases g4 with g4|⟨b',o',g5,g6⟩
    ·subst g4;have:=h.1;simp at this;omega
    ·cases g5;exact g6
   ·show(match Nat.beq s s with|true=>lo+n<=iv.length/\K2 (cut lo (lo+n) iv)|false=>False);rw[hs];exact⟨h.1,h2⟩
 |fz x=>
  cases x with
  |sl s iv=>
   replace h:(match Nat.beq s sz with|true=>lo+n<=iv.length/\K (cut lo (lo+n) iv)|false=>False):=h;cases hs:Nat.beq s sz with
   |false=>rw[hs]at h;exact h.elim
   |true=>
    rw[hs]at h;have:=zab hs;subst this;have rT:Rd (Ok cx σ vals w) w (.sl s iv) u:=tZ;simp only[Rd]at rT;obtain⟨nJ,c2,g1,_,_,g4⟩:=rT;have hk:=λ(g n0 c0:Nat) (hg:u=.slice (some ⟨g,0,none⟩) n0 c0) (hn:0<n)=>(show fC (Ok cx σ vals w) w g s 0 iv/\Ok cx σ vals w g by
     rw[hg]at g1;cases g1;rcases g4 with g4|⟨b',o',g5,g6,g7⟩
     ·subst g4;have:=h.1;simp at this;omega
     ·cases g5;exact⟨g7,g6⟩)
    refine main iv h.1 (λg n0 c0 hg hn=>⟨(hk g n0 c0 hg hn).1,.inr ⟨(hk g n0 c0 hg hn).2,_,rfl⟩⟩) h.2 (λK2 h2=>?_) ⟨0,false,iv,.inr ⟨rfl,rfl,h.1⟩⟩;show(match Nat.beq s s with|true=>lo+n<=iv.length/\K2 (cut lo (lo+n) iv)|false=>False);rw[hs];exact⟨h.1,h2⟩
  |_=>exact h.elim
 |_=>exact h.elim
def FT(hr:dH cx σ vals w){av:AV}{v:Value}(hv:RA (Ok cx σ vals w) σ vals w av v){K:Nat->List PV->Prop}(h:Ef σ av K):
 ∃sz aC,NW (Ok cx σ vals w) w sz aC v/\K sz aC:=by
 cases av with
 |pv x=>
  simp only[RA]at hv;cases x with
  |sl sz aC=>exact⟨sz,aC,aey hv,h⟩
  |nil sz=>simp only[Rd]at hv;subst hv;exact⟨sz,[],⟨none,0,rfl,zai _,by simp[maxLen],.inl rfl⟩,h⟩
  |_=>exact h.elim
 |own id=>
  simp only[RA]at hv;obtain⟨b,hb,h⟩:=aS σ id _ h;obtain⟨v',Mz,tZ⟩:=hr.val hb;obtain rfl:=getElem?_of hv Mz;cases b with
  |row e sz ap aC=>exact⟨sz,aC,pt tZ,h⟩
  |fz x=>
   cases x with
   |sl sz aC=>exact⟨sz,aC,aey tZ,h⟩
   |_=>exact h.elim
  |_=>exact h.elim
 |sub id sz lo n=>
  obtain⟨b,hb,h⟩:=aS σ id _ h;obtain⟨aC,h1,h2,_,ad,c,h4,h5,h6,h7,_⟩:=Qa hr hv hb h;refine⟨sz,aC,⟨ad,c,by rw[h2];exact h4,ab,h6,?_⟩,h1⟩;exact h7.imp_right λ⟨g,g1,g2,_⟩=>⟨g,_,g1,g2⟩
 |_=>exact h.elim
def auL{K:AV->aF->Prop}(hr:Rel cx env σ vals a w)(x:Operand)(t e:TypeId)(c:Call)(ho:o.op=.call c)(hc:c.callee=.builtin .len)(cP:c.args.toList=[x])(IF:c.argTypes[0]?=some t)
 (he:cx.P.underlying t=some (.slice e)) (hK:Ef σ (bK env x) λ_ aC=>aC.length<=9223372036854775807->K (.pv (.int .i64 aC.length)) σ):Out cx env a w o K:=by
 obtain⟨sz,aC,⟨ad,cc,hv,hle,XJ,_⟩,hk⟩:=FT hr.s (hr.ev x) hK;have je:c.args= #[x]:=by rw[<-cP]
 refine Out.run (v:=.int .i64 aC.length) ?_ hr (av:=.pv (.int .i64 aC.length)) jc (hk (by simp only[maxLen]at XJ;omega));simp[execOp,ho,resolve,hc,invoke,builtin,je,hv,Builtin.len_,IF,run_underlying he,goInt]
def asu{K:AV->aF->Prop}(hr:Rel cx env σ vals a w)(x:Operand)(t:TypeId)(c:Call)(ho:o.op=.call c)(hc:c.callee=.builtin .len)(cP:c.args.toList=[x])(IF:c.argTypes[0]?=some t)
 (hs:cx.P.underlying t=some .string) (hK:match bK env x with
  | .pv x=>match x with
   | .str l=>K (.pv (.int .i64 l.length)) σ
   |_=>False
  |_=>False):Out cx env a w o K:=by
 have hx:=hr.ev x;have je:c.args= #[x]:=by rw[<-cP]
 revert hK hx
 cases bK env x with
 |pv p=>
  cases p with
  |str l=>
   intro hK hx;simp only[RA,Rd]at hx;refine Out.run (v:=.int .i64 l.length) ?_ hr (av:=.pv (.int .i64 l.length)) jc hK;have mD:(⟨l.toArray⟩:ByteArray).size=l.length:=rfl;simp[execOp,ho,resolve,hc,invoke,builtin,je,hx,Builtin.len_,IF,run_underlying hs,goInt,mD]
  |_=>intro hK;exact hK.elim
 |_=>intro hK;exact hK.elim
def aw2{K:AV->aF->Prop}(hr:Rel cx env σ vals a w)(t:TypeId)(x i:Operand)(ho:o.op=.index t x i)(ht:cx.P.underlying t=some .string)
 (hK:Dv.asInt (bK env i) λ_ i=>match bK env x with
   | .pv x=>match x with
    | .str l=>∃b,(0<=i/\l[i.toNat]?=some b)/\K (.pv (aL b)) σ
    |_=>False
   |_=>False):Out cx env a w o K:=by
 have hx:=hr.ev x;have hi:=hr.ev i
 revert hK hx hi
 cases bK env i with
 |pv pi=>
  cases pi with
  |int k n=>
   cases bK env x with
   |pv px=>
    cases px with
    |str l=>
     rintro⟨b,⟨h0,hb⟩,hK⟩ hx hi;simp only[RA,Rd]at hx hi;refine Out.run (v:=.int .u8 b.toNat) ?_ hr (av:=.pv (aL b)) (by simp only[RA,Rd,aL]) hK;have hg:(⟨l.toArray⟩:ByteArray)[n.toNat]?=some b:=by
      obtain⟨aU,e⟩:=zaa.1 hb;have hs:n.toNat<(⟨l.toArray⟩:ByteArray).size:=by simpa[ByteArray.size]using aU
      rw[getElem?_pos (⟨l.toArray⟩:ByteArray) n.toNat hs];congr 1
     simp[execOp,ho,hx,hi,Instr.index,asIntOf,run_underlying ht,h0,hg]
    |_=>intro hK;exact hK.elim
   |_=>intro hK;exact hK.elim
  |_=>intro hK;exact hK.elim
 |_=>intro hK;exact hK.elim
def asE{K:AV->aF->Prop}(hr:Rel cx env σ vals a w)(mx:Bool)(x y:Operand)
 (hK:Dv.asInt (bK env x) λk a=>Dv.asInt (bK env y) λ_ b=>match mx with
   |true=>∀r:Int,r=max a b->K (.pv (.int k r)) σ
   |false=>∀r:Int,r=min a b->K (.pv (.int k r)) σ)
 (c:Call) (ho:o.op=.call c) (hc:c.callee=.builtin (if mx then .max else .min)) (je:c.args.toList=[x,y]):Out cx env a w o K:=by
 have hx:=hr.ev x;have hy:=hr.ev y;have cP:c.args= #[x,y]:=by rw[<-je]
 revert hK hx hy
 cases bK env x with
 |pv px=>
  cases px with
  |int k n=>
   cases bK env y with
   |pv py=>
    cases py with
    |int j m=>
     intro hK hx hy;simp only[RA,Rd]at hx hy;cases mx with
     |true=>
      refine Out.run (v:=.int k (max n m)) ?_ hr (av:=.pv (.int k (max n m))) jc (hK _ rfl);simp[execOp,ho,resolve,hc,invoke,builtin,cP,hx,hy,Builtin.max_,Builtin.max2];omega
     |false=>
      refine Out.run (v:=.int k (min n m)) ?_ hr (av:=.pv (.int k (min n m))) jc (hK _ rfl);simp[execOp,ho,resolve,hc,invoke,builtin,cP,hx,hy,Builtin.min_,Builtin.min2];omega
    |_=>intro hK;exact hK.elim
   |_=>intro hK;exact hK.elim
  |_=>intro hK;exact hK.elim
 |_=>intro hK;exact hK.elim
def aoQ{K:AV->aF->Prop}(hr:Rel cx env σ vals a w)(s d:TypeId)(k k0:IntKind)(x:Operand)(ho:o.op=.convert s d x)(hs:cx.P.underlying s=some (.int k0))(hd:cx.P.underlying d=some (.int k))
 (hK:Dv.asInt (bK env x) λ_ n=>agQ k n λr=>K (.pv r) σ):Out cx env a w o K:=by
 have hx:=hr.ev x
 revert hK hx
 cases bK env x with
 |pv px=>
  cases px with
  |int j n=>
   intro hK hx;simp only[RA,Rd]at hx;refine Out.run (v:=.int k (k.wrap n)) ?_ hr (av:=.pv (.int k (k.wrap n))) jc (hK _ rfl);simp[execOp,ho,hx,convert,run_underlying hs,run_underlying hd,Conv.intToInt]
  |_=>intro hK;exact hK.elim
 |_=>intro hK;exact hK.elim
def auj{K:AV->aF->Prop}(hr:Rel cx env σ vals a w)(s d:TypeId)(x:Operand)(ho:o.op=.convert s d x)(hs:cx.P.underlying s=some .string)(hd:cx.P.underlying d=some .string)
 (hK:match bK env x with
   | .pv x=>match x with
    | .str l=>K (.pv (.str l)) σ
    |_=>False
   |_=>False):Out cx env a w o K:=by
 have hx:=hr.ev x
 revert hK hx
 cases bK env x with
 |pv px=>
  cases px with
  |str l=>
   intro hK hx;simp only[RA,Rd]at hx;refine Out.run (v:=.string ⟨l.toArray⟩) ?_ hr (av:=.pv (.str l)) jc hK;simp[execOp,ho,hx,convert,run_underlying hs,run_underlying hd]
  |_=>intro hK;exact hK.elim
 |_=>intro hK;exact hK.elim
def l_(l:List UInt8):(l.map aL).flatMap PV.cells=l.map aL:=by
 induction l with
 |nil=>rfl
 |cons b l ih=>simp only[zau,zao,ih,aL,PV.cells,List.singleton_append]
def foldl_push(l:List Int):∀s:ByteArray,(l.foldl (λr n=>r.push (UInt8.ofNat n.toNat)) s).data=s.data++(l.map λn=>UInt8.ofNat n.toNat).toArray:=by
 induction l with
 |nil=>intro s;simp
 |cons n l ih=>intro s;rw[zbg,ih];simp[ByteArray.push]
def EJ{ok:Nat->Prop}(l:List UInt8):∀us:List Value,bS ok w (l.map aL) us↔us=l.map λb=>Value.int .u8 b.toNat:=by
 induction l with
 |nil=>intro us;simp[bS]
 |cons b l ih=>
  intro us;simp only[zau,bS,aL,Rd];constructor
  ·rintro⟨v,r,rfl,rfl,h⟩;rw[(ih r).1 h]
  ·rintro rfl;exact⟨_,_,rfl,rfl,(ih _).2 rfl⟩
def axj{K:AV->aF->Prop}(hr:Rel cx env σ vals a w)(s d e:TypeId)(x:Operand)(ho:o.op=.convert s d x)(hs:cx.P.underlying s=some (.slice e))(he:cx.P.underlying e=some (.int .u8))(hd:cx.P.underlying d=some .string)
 (hK:Ef σ (bK env x) λ_ aC=>∃l:List UInt8,aC=l.map aL/\K (.pv (.str l)) σ):Out cx env a w o K:=by
 obtain⟨sz,aC,⟨ad,c,hv,hle,_,ly⟩,l,rfl,hK⟩:=FT hr.s (hr.ev x) hK;refine Out.run (v:=.string ⟨l.toArray⟩) ?_ hr (av:=.pv (.str l)) jc hK;have cL:(Conv.bytesToString (.slice ad l.length c)).run cx.P w=.ok (.string ⟨l.toArray⟩) w:=by
  cases ad with
  |none=>
   rcases ly with h|⟨b,o',h,_⟩
   ·have:l=[]:=by simpa using h
    subst this;simp[Conv.bytesToString];rfl
   ·cases h
  |some ad=>
   have hl:∀j v,(l.map λb=>Value.int .u8 b.toNat)[j]?=some v->w.cell? (ad.add j)=some v:=by
    intro j v hj;rcases ly with h|⟨b,o',h,h2⟩
    ·have:l=[]:=by simpa using h
     subst this;simp at hj
    ·cases h;have h3:=((tq b sz _ o').1 h2).2;rw[l_]at h3;obtain⟨_,us,h4,h5⟩:=(ER b _ o').1 h3;rw[EJ]at h4;subst h4;rw[ik];exact h5 j v hj
   have:=run_loadCells_list (P:=cx.P) w ad _ hl;rw[zaw]at this;rw[show(l.map λb=>Value.int .u8 b.toNat)=(l.map λb:UInt8=>(b.toNat:Int)).map (Value.int .u8)from by simp]at this;rw[run_bytesToString w ad l.length c _ this];congr 2;have:∀s:ByteArray,s=⟨s.data⟩:=λ_=>rfl
   rw[this (List.foldl _ _ _),foldl_push];congr 1;simp only[zbf,List.map_map,Array.append_empty];have hid:((λn:Int=>UInt8.ofNat n.toNat)∘λb:UInt8=>(b.toNat:Int))=id:=by funext b;simp
   rw[hid,List.map_id];simp
 have Mz:a.eval x=.slice ad l.length c:=by simpa using hv
 simp[execOp,ho,Mz,convert,run_underlying hs,run_underlying hd,run_underlying he,cL]
def agh(P:Program)(EC:Bool)(n cap:Nat)(mO:n<=cap)(lo hi:Option AV)(OE E1:Option Value)(UC:∀a,lo=some a→∃v,OE=some v/\RA (Ok cx σ vals w) σ vals w a v)(Cp:∀a,hi=some a→∃v,E1=some v/\RA (Ok cx σ vals w) σ vals w a v)
 (tM:lo=none->OE=none) (nM:hi=none->E1=none) (K:Nat->Nat->Prop) (h:iJ n lo hi K):
 ∃l u,l<=u/\u<=n/\K l u/\(Instr.sliceBounds EC n cap OE E1 none).run P w=.ok (l,u,cap) w:=by
 have up:∀K':Nat->Prop,CK n hi K'→∃u:Nat,u<=n/\K' u/\((hi=none/\u=n)∨∃k m,E1=some (.int k m)/\0<=m/\m.toNat=u):=by
  intro K' hk;cases hi with
  |none=>exact⟨n,zai _,hk,.inl ⟨rfl,rfl⟩⟩
  |some a=>
   cases a with
   |pv x=>
    cases x with
    |int k m=>
     obtain⟨v,hv,Ql⟩:=Cp _ rfl;simp only[RA,Rd]at Ql;subst Ql;have h1:0<=m:=hk.1.1;have h2:m<=(n:Int):=hk.1.2;exact⟨m.toNat,ab,hk.2,.inr ⟨k,m,hv,hk.1.1,rfl⟩⟩
    |_=>exact hk.elim
   |_=>exact hk.elim
 cases lo with
 |none=>
  obtain⟨u,hu,hk,Cm⟩:=up (λh=>K 0 h) h;have:=tM rfl;subst this;refine⟨0,u,Nat.zero_le _,hu,hk,?_⟩;rcases Cm with⟨h1,rfl⟩|⟨k,m,rfl,h2,h3⟩
  ·have:=nM h1;subst this;simp[Instr.sliceBounds]
  ·have hm:m<=(cap:Int):=by have:=za5 h2;omega
   simp[Instr.sliceBounds,Instr.sliceBound,asIntOf,h2,hm,h3]
 |some a=>
  cases a with
  |pv x=>
   cases x with
   |int k m=>
    obtain⟨u,hu,hk,Cm⟩:=up (λh=>(0<=m/\m<=h)/\K m.toNat h) h;obtain⟨v,hv,Ql⟩:=UC _ rfl;simp only[RA,Rd]at Ql;subst Ql hv;refine⟨m.toNat,u,ab,hu,hk.2,?_⟩;rcases Cm with⟨h1,rfl⟩|⟨k,m',rfl,h2,h3⟩
    ·have:=nM h1;subst this;simp[Instr.sliceBounds,Instr.sliceBound,asIntOf,hk.1.1,hk.1.2]
    ·have hm:m'<=(cap:Int):=by have:=za5 h2;omega
     simp[Instr.sliceBounds,Instr.sliceBound,asIntOf,h2,hm,h3,hk.1.1,hk.1.2]
   |_=>exact h.elim
  |_=>exact h.elim
end
end
end Go.Dv
namespace Go.Dv
open Go.RowKit
section
section
variable {cx:Cx} {env:Env} {σ:aF} {vals:List Value} {a:Act} {w:World} {o:Oper}
def extract_mk(l:List UInt8)(i j:Nat):(⟨l.toArray⟩:ByteArray).extract i j=⟨(cut i j l).toArray⟩:=by
 have h:(ByteArray.extract ⟨l.toArray⟩ i j).data.toList=(l.drop i).take (j-i):=by
  rw[ByteArray.extract_mk]
 have ext:∀s t:ByteArray,s.data.toList=t.data.toList->s=t:=by rintro⟨⟨x⟩⟩ ⟨⟨y⟩⟩ h;simp at h;subst h;rfl
 refine ext _ _ ?_;rw[h];simp[cut,List.drop_take]
def RB.block{s:dC}{v:Value}(h:RB cx σ vals w s v)(hl:s.live=true){b:Nat}(hb:bl v=some b):cx.own b/\b<w.heap.size:=by
 cases s with
 |dead=>cases hl
 |fz x=>cases hl
 |mp l=>cases hl
 |row e sz app aC=>
  obtain⟨_,cells,h1,_⟩:=h;rcases h1.2 with⟨rfl,_⟩|⟨g,cap,cur,fr,rfl,h2,h3,_⟩
  ·cases hb
  ·cases hb;exact⟨h2,(zap.1 h3).1⟩
 |box e cs=>
  obtain⟨b',arr,rfl,h1,h2,_⟩:=h;cases hb;exact⟨h1,(zap.1 h2).1⟩
def dH.Qw(hr:dH cx σ vals w){id:Nat}{s0:dC}{x:PV}(hi:σ[id]?=some s0)(da:s0.live=true)
 (hx:∀(wj:Nat->Prop) (v:Value),vals[id]?=some v->RB cx σ vals w s0 v->(∀b,Ok cx σ vals w b->wj b)->(∀b,bl v=some b->wj b)->Rd wj w x v) (s9:(dC.fz x).OV=true->s0.OV=true:=by intro h;first|exact h|(cases h)):
 dH cx (σ.set id (.fz x)) vals w/\ct cx σ vals w (σ.set id (.fz x)) vals w:=by
 obtain⟨v,hv,hb⟩:=hr.val hi;have aU:=(zaa.1 hi).1;have hg:=λj=>nZ (x:=dC.fz x) aU j
 have hk:ct cx σ vals w (σ.set id (.fz x)) vals w:=by
  refine⟨λ_ _ h=>h,aj,λb hb=>⟨hb.1,hb.2.1,λhm=>hb.2.2 ?_⟩,λ_ _=>rfl,λi _ e' mM mN els' h=>?_,λi _ s' h Cs=>?_⟩
  ·obtain⟨i,s,u,h1,h2,h3,h4⟩:=hm;rw[hg]at h1;split at h1
   ·cases h1;cases h2
   ·exact⟨i,s,u,h1,h2,h3,h4⟩
  ·rw[hg]at h;split at h
   ·cases h
   ·exact⟨mN,els',h⟩
  ·rw[hg]at h;split at h
   ·rename_i he;subst he;cases h;exact⟨s0,hi,s9 Cs⟩
   ·exact⟨s',h,Cs⟩
 have rT:Rd (Ok cx (σ.set id (.fz x)) vals w) w x v:=by
  refine hx _ v hv hb hk.ok (λb Gn=>⟨.inr (hb.block da Gn).1,(hb.block da Gn).2,?_⟩);rintro⟨i,s,u,g1,g2,g3,g4⟩;rw[hg]at g1;split at g1
  ·cases g1;cases g2
  ·rename_i dI;exact hr.Xl i id s _ u v b (λe=>dI e.symm) g1 hi g2 da g3 hv g4 Gn
 have pe:Fr cx (σ.set id (.fz x)) vals w:=⟨hr.fr.size,hr.fr.same,λb hm=>hr.fr.I1 b (by
  obtain⟨i,s,u,g1,g2,g3,g4⟩:=hm;rw[hg]at g1;split at g1
  ·cases g1;cases g2
  ·exact⟨i,s,u,g1,g2,g3,g4⟩)⟩
 refine⟨⟨hr.below,hr.one,by simp[hr.len],λi s u h1 h2=>?_,λi j s t u v' b zk h1 h2 h3 h4 h5 h6=>?_,pe,hr.pin.keep hk⟩,hk⟩
 ·rw[hg]at h1;split at h1
  ·rename_i he;subst he;cases h1;rw[hv]at h2;cases h2;exact rT
  ·exact hk.rb (hr.sV i s u h1 h2) (λ_ _ _=>rfl)
 ·rw[hg]at h1 h2;split at h1
  ·cases h1;cases h3
  ·split at h2
   ·cases h2;cases h4
   ·exact hr.Xl i j s t u v' b zk h1 h2 h3 h4 h5 h6
def dH.freeze(hr:dH cx σ vals w){id:Nat}{e:TypeId}{sz:Nat}{ap:Bool}{aC:List PV}(hi:σ[id]?=some (.row e sz ap aC)):
 dH cx (σ.set id (.fz (.sl sz aC))) vals w/\ct cx σ vals w (σ.set id (.fz (.sl sz aC))) vals w:=by
 refine hr.Qw hi rfl λwj v _ hb di Gn=>?_
 obtain⟨ad,c,h1,h2,h3,h4⟩:=pt hb;simp only[Rd];refine⟨ad,c,h1,h2,h3,h4.imp_right ?_⟩;rintro⟨b,o',rfl,ly⟩;exact⟨b,o',rfl,Gn b (by rw[h1];rfl),fC.mono di (λ_ _ _=>rfl) b sz o' (λ_=>rfl) aC ly⟩
def Rel.keep{σ':aF}{aO:List Value}{w':World}(hr:Rel cx env σ vals a w)(hs:dH cx σ' aO w')(hk:ct cx σ vals w σ' aO w'):Rel cx env σ' aO a w':=
 ⟨hs,λp=>hk.ra _ _ (hr.env p),hr.defers,λx v hq=>hk.ra _ _ (hr.gh x v hq),hr.lo⟩
def as5{K:AV->aF->Prop}(hr:Rel cx env σ vals a w)(c x y:Operand)(ho:o.op=.pick c x y)
 (hK:match bK env c with
   | .pv c=>match c with
    | .bool c=>match c with
     |true=>K (bK env x) σ
     |false=>K (bK env y) σ
    |_=>False
   |_=>False):Out cx env a w o K:=by
 have hc:=hr.ev c
 revert hK hc
 cases bK env c with
 |pv p=>
  cases p with
  |bool b=>
   intro hK hc;simp only[RA,Rd]at hc;cases b with
   |true=>exact Out.run (v:=a.eval x) (by simp[execOp,ho,hc,asBool]) hr (hr.ev x) hK
   |false=>exact Out.run (v:=a.eval y) (by simp[execOp,ho,hc,asBool]) hr (hr.ev y) hK
  |_=>intro hK;exact hK.elim
 |_=>intro hK;exact hK.elim
def atC{sz:Nat}{aC:List PV}{ad:Option Addr}{c l h:Nat}(EA:l<=h)(hx:h<=aC.length)(hs:Rd (Ok cx σ vals w) w (.sl sz aC) (.slice ad aC.length c)):
 Rd (Ok cx σ vals w) w (.sl sz (cut l h aC)) (.slice (if c=l then ad else ad.map (·.add (l*sz))) (h-l) (c-l)):=by
 simp only[Rd]at hs ⊢;obtain⟨G2,c0,hv,h1,h2,h3⟩:=hs;cases hv;refine⟨_,_,by rw[wL _ _ _ hx],ZG,ab,?_⟩;rcases h3 with h3|⟨b,o,rfl,di,h4⟩
 ·left;subst h3;simp[cut]
 ·by_cases hc:c=l
  ·left;exact zaf ZG
  ·right;refine⟨b,o+l*sz,?_,di,SP l h aC EA hx o h4⟩;rw[if_neg hc];simp[ik]
def tJ(hr:Rel cx env σ vals a w)(lo hi:Option Operand)(EC:Bool)(n cap:Nat)(hn:n<=cap)(K':Nat->Nat->Prop)(hk:iJ n (lo.map (bK env)) (hi.map (bK env)) K'):
 ∃l u,l<=u/\u<=n/\K' l u/\(Instr.sliceBounds EC n cap (lo.map a.eval) (hi.map a.eval) none).run cx.P w=.ok (l,u,cap) w:=by
 refine agh (cx:=cx) (σ:=σ) (vals:=vals) cx.P EC n cap hn _ _ _ _ ?_ ?_ ?_ ?_ K' hk
 ·intro av h;cases lo with
  |none=>cases h
  |some z=>cases h;exact⟨_,rfl,hr.ev z⟩
 ·intro av h;cases hi with
  |none=>cases h
  |some z=>cases h;exact⟨_,rfl,hr.ev z⟩
 ·intro h;cases lo with
  |none=>rfl
  |some z=>cases h
 ·intro h;cases hi with
  |none=>rfl
  |some z=>cases h
def at3{K:AV->aF->Prop}(hr:Rel cx env σ vals a w)(t:TypeId)(x:Operand)(lo hi:Option Operand)(ho:o.op=.slice t x lo hi none)(ht:cx.P.underlying t=some .string)
 (hK:match bK env x with
   | .pv x=>match x with
    | .str s=>iJ s.length (lo.map (bK env)) (hi.map (bK env)) λl h=>K (.pv (.str (cut l h s))) σ
    |_=>False
   |_=>False):Out cx env a w o K:=by
 have hx:=hr.ev x
 revert hK hx
 cases bK env x with
 |pv p=>
  cases p with
  |str s=>
   intro hK hx;simp only[RA,Rd]at hx;obtain⟨l,u,h1,h2,h3,h4⟩:=tJ hr lo hi false s.length s.length (zai _) _ hK;refine Out.run (v:=.string ⟨(cut l u s).toArray⟩) ?_ hr (av:=.pv (.str (cut l u s))) jc h3;have mD:(⟨s.toArray⟩:ByteArray).size=s.length:=rfl;simp[execOp,ho,hx,Instr.sliceAt,Instr.slice,run_underlying ht,mD,h4,extract_mk]
  |_=>intro hK;exact hK.elim
 |_=>intro hK;exact hK.elim
def arZ{K:AV->aF->Prop}(hr:Rel cx env σ vals a w)(t e:TypeId)(i:TypeInfo)(x:Operand)(lo hi:Option Operand)(ho:o.op=.slice t x lo hi none)(he:cx.P.underlying t=some (.slice e))(Ct:cx.P.info? e=some i)
 (hK:aes σ i.size (bK env x) (lo.map (bK env)) (hi.map (bK env)) K):Out cx env a w o K:=by
 have hx:=hr.ev x;have sl:∀(n:Nat) (ad:Option Addr) (c:Nat),a.eval x=.slice ad n c→∀l u,
  (Instr.sliceBounds true n c (lo.map a.eval) (hi.map a.eval) none).run cx.P w=.ok (l,u,c) w->
  (execOp a.eval o).run cx.P w=.ok (.value (.slice (if c=l then ad else ad.map (·.add (l*i.size))) (u-l) (c-l))) w:=by
  intro n ad c hv l u hb;simp[execOp,ho,hv,Instr.sliceAt,Instr.slice,run_underlying he,hb,sizeOf,typeInfo,Ct]
 have avf:∀(aC:List PV) (v:Value),v=a.eval x->Rd (Ok cx σ vals w) w (.sl i.size aC) v->iJ aC.length (lo.map (bK env)) (hi.map (bK env)) (λl h=>K (.pv (.sl i.size (cut l h aC))) σ)->Out cx env a w o K:=by
  intro aC v hv rT hk;have akl:=rT;simp only[Rd]at akl;obtain⟨ad,c,Oh,hle,_⟩:=akl;obtain⟨l,u,h1,h2,h3,h4⟩:=tJ hr lo hi true aC.length c hle _ hk;subst Oh;exact Out.run (sl _ ad c hv.symm l u h4) hr (by simp only[RA];exact atC h1 h2 rT) h3
 cases sO:bK env x with
 |pv p=>
  rw[sO]at hK hx;simp only[RA]at hx;cases p with
  |sl s aC=>
   replace hK:(match Nat.beq s i.size with
    |true=>iJ aC.length (lo.map (bK env)) (hi.map (bK env)) λl h=>K (.pv (.sl i.size (cut l h aC))) σ
    |false=>False):=hK
   cases hs:Nat.beq s i.size with
   |false=>rw[hs]at hK;exact hK.elim
   |true=>
    rw[hs]at hK;have:=zab hs;subst this;exact avf aC _ rfl hx hK
  |nil s=>
   simp only[Rd]at hx;obtain⟨l,u,h1,h2,h3,h4⟩:=tJ hr lo hi true 0 0 (zai _) (λ_ _=>K (.pv (.nil s)) σ) hK;obtain⟨rfl,rfl⟩:l=0/\u=0:=⟨ab,ab⟩
   exact Out.run (sl 0 none 0 hx 0 0 h4) hr (av:=.pv (.nil s)) (by simp[RA,Rd]) h3
  |_=>exact hK.elim
 |own id=>
  rw[sO]at hK hx;simp only[RA]at hx;obtain⟨b,hb,hk⟩:=aS σ id _ hK;obtain⟨v',Mz,tZ⟩:=hr.s.val hb;obtain rfl:=getElem?_of hx Mz;cases b with
  |row e' s ap aC=>
   replace hk:(match Nat.beq s i.size with
    |true=>(iJ aC.length (lo.map (bK env)) (hi.map (bK env)) λl h=>wu σ id (.fz (.sl i.size aC)) λσ=>K (.pv (.sl i.size (cut l h aC))) σ)\/iJ aC.length (lo.map (bK env)) (hi.map (bK env)) λl h=>K (.sub id i.size l (h-l)) σ
    |false=>False):=hk
   cases hs:Nat.beq s i.size with
   |false=>rw[hs]at hk;exact hk.elim
   |true=>
    rw[hs]at hk;have:=zab hs;subst this;rcases hk with hk|hk
    rotate_left
    ·obtain⟨_,cells,⟨_,eh⟩,_⟩:=tZ;rcases eh with⟨Oh,h0⟩|⟨g,cap,cur,fr,Oh,_,_,hle,AQ,_⟩
     ·obtain⟨l,u,h1,h2,h3,h4⟩:=tJ hr lo hi true aC.length 0 ab _ hk;obtain⟨rfl,rfl⟩:l=0/\u=0:=⟨ab,ab⟩
      rw[h0]at h4;refine Out.run (sl 0 none 0 Oh 0 0 h4) hr (av:=.sub id i.size 0 (0-0)) ?_ h3;simp only[RA];exact⟨(zaa.1 hb).1,_,_,rfl,zai _,by simp[maxLen],.inl trivial⟩
     ·obtain⟨l,u,h1,h2,h3,h4⟩:=tJ hr lo hi true aC.length cap hle _ hk;refine Out.run (sl _ _ cap Oh l u h4) hr (av:=.sub id i.size l (u-l)) ?_ h3;simp only[RA];refine⟨(zaa.1 hb).1,_,_,rfl,ab,ab,?_⟩;by_cases E2:u-l=0
      ·exact .inl E2
      ·refine .inr ⟨g,aC.length,cap,by rw[hx,Oh],?_⟩;rw[if_neg ab];simp[ik]
    obtain⟨ZI,AP⟩:=hr.s.freeze hb;have CW:Rel cx env (σ.set id (.fz (.sl i.size aC))) vals a w:=hr.keep ZI AP;have rT:Rd (Ok cx (σ.set id (.fz (.sl i.size aC))) vals w) w (.sl i.size aC) (a.eval x):=
     ZI.sV id (.fz (.sl i.size aC)) _ (by rw[nZ (zaa.1 hb).1];simp) hx
    have akl:=rT;simp only[Rd]at akl;obtain⟨ad,c,Oh,hle,_⟩:=akl;obtain⟨l,u,h1,h2,h3,h4⟩:=tJ CW lo hi true aC.length c hle _ hk;obtain⟨_,h3⟩:=fS _ _ _ _ h3;rw[Oh]at rT;exact Out.run (sl _ ad c Oh l u h4) CW (by simp only[RA];exact atC h1 h2 rT) h3
  |fz z=>
   cases z with
   |sl s aC=>
    replace hk:(match Nat.beq s i.size with
     |true=>iJ aC.length (lo.map (bK env)) (hi.map (bK env)) λl h=>K (.pv (.sl i.size (cut l h aC))) σ
     |false=>False):=hk
    cases hs:Nat.beq s i.size with
    |false=>rw[hs]at hk;exact hk.elim
    |true=>
     rw[hs]at hk;have:=zab hs;subst this;exact avf aC _ rfl tZ hk
   |_=>exact hk.elim
  |_=>exact hk.elim
 |sub id s lo0 n=>
  rw[sO]at hK hx;replace hK:(match Nat.beq s i.size with
   |true=>iJ n (lo.map (bK env)) (hi.map (bK env)) λl h=>K (.sub id i.size (lo0+l) (h-l)) σ
   |false=>False):=hK
  cases hs:Nat.beq s i.size with
  |false=>rw[hs]at hK;exact hK.elim
  |true=>
   rw[hs]at hK;have:=zab hs;subst this;simp only[RA]at hx;obtain⟨hid,ad,c,Oh,hle,AQ,ld⟩:=hx;obtain⟨l,u,h1,h2,h3,h4⟩:=tJ hr lo hi true n c hle _ hK;refine Out.run (sl _ _ c Oh l u h4) hr (av:=.sub id i.size (lo0+l) (u-l)) ?_ h3;simp only[RA];refine⟨hid,_,_,rfl,ab,ab,?_⟩;by_cases E2:u-l=0
   ·exact .inl E2
   ·rcases ld with h0|⟨g,n0,c0,f1,rfl⟩
    ·omega
    ·refine .inr ⟨g,n0,c0,f1,?_⟩;rw[if_neg ab];simp[ik,zas]
 |_=>rw[sO]at hK;exact hK.elim
def agY{ok:Nat->Prop}{b n:Nat}{y:PV}(hb:ok b)(h:te ok w b n y.cells):Rd ok w (.cptr y) (.pointer (some ⟨b,n,none⟩)):=by
 cases y<;>simp only[PV.cells,te,Rd]at h ⊢ <;>first|exact⟨b,n,rfl,hb,h⟩|exact⟨b,n,rfl,hb,h.1.1,h.1.2⟩
def Df{ok:Nat->Prop}{y:PV}{v:Value}(h:Rd ok w (.cptr y) v):∃b n,v=.pointer (some ⟨b,n,none⟩)/\ok b/\te ok w b n y.cells:=by
 cases y<;>simp only[PV.cells,te,Rd]at h ⊢ <;>first|(obtain⟨b,n,h1,h2,h3⟩:=h;exact⟨b,n,h1,h2,h3⟩)|(obtain⟨b,n,h1,h2,h3,h4⟩:=h;exact⟨b,n,h1,h2,⟨h3,h4⟩,trivial⟩)
def Di(P:Program)(t e:TypeId)(i:TypeInfo)(ad:Addr)(len c:Nat)(k:IntKind)(n:Int)(he:P.underlying t=some (.slice e))(hi:P.info? e=some i)(h0:0<=n)(hn:n<len):
 (Instr.indexAt t (.slice (some ad) len c) (.int k n)).run P w=.ok (.pointer (some (ad.add (n.toNat*i.size)))) w:=by
 simp[Instr.indexAt,asIntOf,run_underlying he,h0,hn,sizeOf,typeInfo,hi]
def auC{K:AV->aF->Prop}(hr:Rel cx env σ vals a w)(t e:TypeId)(i:TypeInfo)(x ix:Operand)(ho:o.op=.indexAddr t x ix)(he:cx.P.underlying t=some (.slice e))(Ct:cx.P.info? e=some i)
 (hK:Dv.asInt (bK env ix) λ_ n=>Vc σ i.size (bK env x) n λa=>K a σ):Out cx env a w o K:=by
 have hx:=hr.ev x;have hi:=hr.ev ix;cases avg:bK env ix with
 |pv pi=>
  rw[avg]at hK hi;cases pi with
  |int k n=>
   simp only[RA,Rd]at hi;replace hK:Vc σ i.size (bK env x) n λa=>K a σ:=hK
   have avf:∀(aC:List PV) (y:PV),Rd (Ok cx σ vals w) w (.sl i.size aC) (a.eval x)->0<=n->aC[n.toNat]?=some y->K (.pv (.cptr y)) σ->Out cx env a w o K:=by
    intro aC y rT h0 hy hk;have akl:=rT;simp only[Rd]at akl;obtain⟨ad,c,hv,hle,_,ly⟩:=akl;have aU:=(zaa.1 hy).1;rcases ly with h|⟨b,o',rfl,di,ly⟩
    ·subst h;simp at aU
    ·obtain⟨h1,h2⟩:=SY ly hy;refine Out.run (v:=.pointer (some ⟨b,o'+n.toNat*i.size,none⟩)) ?_ hr (av:=.pv (.cptr y)) (by simp only[RA];exact agY di h2) hk;have:=Di (w:=w) cx.P t e i ⟨b,o',none⟩ aC.length c k n he Ct h0 ab;rw[ik]at this;simp[execOp,ho,hv,hi,this]
   cases sO:bK env x with
   |pv p=>
    rw[sO]at hK hx;simp only[RA]at hx;cases p with
    |sl s aC=>
     replace hK:(match Nat.beq s i.size with
      |true=>∃y,(0<=n/\aC[n.toNat]?=some y)/\K (.pv (.cptr y)) σ
      |false=>False):=hK
     cases hs:Nat.beq s i.size with
     |false=>rw[hs]at hK;exact hK.elim
     |true=>
      rw[hs]at hK;have:=zab hs;subst this;obtain⟨y,⟨h0,hy⟩,hk⟩:=hK;exact avf aC y hx h0 hy hk
    |_=>exact hK.elim
   |own id=>
    rw[sO]at hK hx;simp only[RA]at hx;obtain⟨b,hb,hk⟩:=aS σ id _ hK;obtain⟨v',Mz,tZ⟩:=hr.s.val hb;obtain rfl:=getElem?_of hx Mz;cases b with
    |row e' s ap aC=>
     replace hk:(match Nat.beq s i.size with
      |true=>(0<=n/\n.toNat<aC.length)/\K (.ref id n.toNat 0) σ
      |false=>False):=hk
     cases hs:Nat.beq s i.size with
     |false=>rw[hs]at hk;exact hk.elim
     |true=>
      rw[hs]at hk;have:=zab hs;subst this;obtain⟨⟨h0,aU⟩,hk⟩:=hk;obtain⟨mD,cells,h1,_⟩:=tZ;rcases h1.2 with⟨_,h5⟩|⟨g,cap,cur,fr,h4,_⟩
      ·omega
      ·refine Out.run (v:=.pointer (some ⟨g,n.toNat*i.size,none⟩)) ?_ hr (av:=.ref id n.toNat 0) ?_ hk
       ·have:=Di (w:=w) cx.P t e i ⟨g,0,none⟩ aC.length cap k n he Ct h0 ab;rw[ik]at this;simp[execOp,ho,h4,hi,this]
       ·simp only[RA];refine⟨(zaa.1 hb).1,⟨_,rfl⟩,λe2 y8 tc abR h=>?_,λs2 h t_=>?_⟩
        ·rw[hb]at h;cases h;exact⟨_,g,hx,by rw[h4];rfl,aj⟩
        ·rw[hb]at h;cases h;cases t_
    |fz z=>
     cases z with
     |sl s aC=>
      replace hk:(match Nat.beq s i.size with
       |true=>∃y,(0<=n/\aC[n.toNat]?=some y)/\K (.pv (.cptr y)) σ
       |false=>False):=hk
      cases hs:Nat.beq s i.size with
      |false=>rw[hs]at hk;exact hk.elim
      |true=>
       rw[hs]at hk;have:=zab hs;subst this;obtain⟨y,⟨h0,hy⟩,hk⟩:=hk;exact avf aC y tZ h0 hy hk
     |_=>exact hk.elim
    |_=>exact hk.elim
   |sub id z lo m=>
    rw[sO]at hK hx;replace hK:(match Nat.beq z i.size with
     |true=>g_ σ id λb=>match b with
      | .row _ s _ aC=>match Nat.beq s i.size with
       |true=>((0<=n/\n.toNat<m)/\lo+m<=aC.length)/\K (.ref id (lo+n.toNat) 0) σ
       |false=>False
      | .fz x=>match x with
       | .sl s aC=>match Nat.beq s i.size with
        |true=>∃y,((0<=n/\n.toNat<m/\lo+m<=aC.length)/\aC[lo+n.toNat]?=some y)/\K (.pv (.cptr y)) σ
        |false=>False
       |_=>False
      |_=>False
     |false=>False):=hK
    cases hz:Nat.beq z i.size with
    |false=>rw[hz]at hK;exact hK.elim
    |true=>
     rw[hz]at hK;have:=zab hz;subst this;simp only[RA]at hx;obtain⟨hid,ad,c,Oh,hle,AQ,ld⟩:=hx;obtain⟨b,hb,hk⟩:=aS σ id _ hK;obtain⟨u,hu,tZ⟩:=hr.s.val hb;cases b with
     |row e' s ap aC=>
      replace hk:(match Nat.beq s i.size with
       |true=>((0<=n/\n.toNat<m)/\lo+m<=aC.length)/\K (.ref id (lo+n.toNat) 0) σ
       |false=>False):=hk
      cases hs:Nat.beq s i.size with
      |false=>rw[hs]at hk;exact hk.elim
      |true=>
       rw[hs]at hk;have:=zab hs;subst this;obtain⟨⟨⟨h0,aU⟩,_⟩,hk⟩:=hk;rcases ld with oB|⟨g,n0,c0,f1,rfl⟩
       ·omega
       ·refine Out.run (v:=.pointer (some ⟨g,(lo+n.toNat)*i.size,none⟩)) ?_ hr (av:=.ref id (lo+n.toNat) 0) ?_ hk
        ·have:=Di (w:=w) cx.P t e i ⟨g,lo*i.size,none⟩ m c k n he Ct h0 ab;rw[ik]at this;simp[execOp,ho,Oh,hi,this,zas]
        ·simp only[RA];refine⟨(zaa.1 hb).1,⟨_,rfl⟩,λe2 y8 tc abR h=>?_,λs2 h t_=>?_⟩
         ·rw[hb]at h;cases h;exact⟨_,g,f1,rfl,aj⟩
         ·rw[hb]at h;cases h;cases t_
     |fz y=>
      cases y with
      |sl s aC=>
       replace hk:(match Nat.beq s i.size with
        |true=>∃y,((0<=n/\n.toNat<m/\lo+m<=aC.length)/\aC[lo+n.toNat]?=some y)/\K (.pv (.cptr y)) σ
        |false=>False):=hk
       cases hs:Nat.beq s i.size with
       |false=>rw[hs]at hk;exact hk.elim
       |true=>
        rw[hs]at hk;have:=zab hs;subst this;obtain⟨y,⟨⟨h0,aU,aJQ⟩,hy⟩,hk⟩:=hk;rcases ld with oB|⟨g,n0,c0,f1,rfl⟩
        ·omega
        ·rw[hu]at f1;cases f1;have rT:Rd (Ok cx σ vals w) w (.sl i.size aC) (.slice (some ⟨g,0,none⟩) n0 c0):=tZ;simp only[Rd]at rT;obtain⟨nJ,c2,g1,_,_,g4⟩:=rT;cases g1;rcases g4 with g4|⟨b',o',g5,g6,g7⟩
         ·subst g4;simp at hy
         ·cases g5;obtain⟨_,h2⟩:=SY g7 hy;rw[zaV]at h2;refine Out.run (v:=.pointer (some ⟨g,(lo+n.toNat)*i.size,none⟩)) ?_ hr (av:=.pv (.cptr y)) (by simp only[RA];exact agY g6 h2) hk;have:=Di (w:=w) cx.P t e i ⟨g,lo*i.size,none⟩ m c k n he Ct h0 ab;rw[ik]at this;simp[execOp,ho,Oh,hi,this,zas]
      |_=>exact hk.elim
     |_=>exact hk.elim
   |_=>rw[sO]at hK;exact hK.elim
  |_=>exact hK.elim
 |_=>rw[avg]at hK;exact hK.elim
end
end
end Go.Dv
namespace Go.Dv
open Go.RowKit
section
section
variable {cx:Cx} {env:Env} {σ:aF} {vals:List Value} {a:Act} {w:World} {o:Oper}
structure Shape(P:Program)(t:TypeId)(ag:Bool)(n:Nat):Prop where
 info:∃i,P.info? t=some i/\i.size=n
 tp:∃d,P.underlying t=some d/\ag=(match d with| .struct _=>true| .array _ _=>true|_=>false)
def xU{P:Program}{t:TypeId}{s:Bool×Nat}(h:V5 P t=some s):Shape P t s.1 s.2:=by
 unfold V5 opt at h;cases hi:P.info? t with
 |none=>rw[hi]at h;cases h
 |some i=>
  rw[hi]at h;simp only at h;cases hu:P.underlying t with
  |none=>rw[hu]at h;cases h
  |some d=>
   rw[hu]at h;cases d<;>cases h<;>exact⟨⟨i,hi,rfl⟩,⟨_,hu,rfl⟩⟩
def Shape.isAgg{P:Program}{t:TypeId}{ag:Bool}{n:Nat}(h:Shape P t ag n):(isAgg t).run P w=.ok ag w:=by
 obtain⟨d,hd,rfl⟩:=h.tp;cases d<;>simp[Go.isAgg,run_underlying hd]
def valOf(ag:Bool)(us:List Value):Value:=match ag with|true=>.agg us.toArray|false=>us.headD undef
def run_load{P:Program}{t:TypeId}{ag:Bool}{n:Nat}(h:Shape P t ag n)(b off:Nat)(us:List Value)(hl:us.length=if ag then n else 1)(hc:∀(j:Nat) (u:Value),us[j]?=some u->w.cell? ⟨b,off+j,none⟩=some u):
 (loadVar t ⟨b,off,none⟩).run P w=.ok (valOf ag us) w:=by
 obtain⟨i,hi,hn⟩:=h.info;cases ag with
 |true=>
  simp only[if_true]at hl;have:=run_loadCells_list (P:=P) w ⟨b,off,none⟩ us (λj v hj=>by rw[ik];exact hc j v hj);rw[hl]at this;simp[loadVar,h.isAgg,sizeOf,typeInfo,hi,hn,this,valOf]
 |false=>
  cases us with
  |nil=>simp at hl
  |cons u us=>
   have:=hc 0 u rfl;simp[loadVar,h.isAgg,run_load,valOf];simp at this;rw[this]
def YC{ok:Nat->Prop}{ag:Bool}{cs:List PV}{us:List Value}{K:PV->Prop}(h:bS ok w cs us)(h1:∀c∈cs,c.one=true)(hK:afE ag cs K):∃r,K r/\Rd ok w r (valOf ag us)/\(ag=false->cs.length=1):=by
 cases ag with
 |true=>exact⟨_,hK,by simp only[Rd];exact⟨h1,_,rfl,ky⟩,λh=>bV⟩
 |false=>
  cases cs with
  |nil=>exact hK.elim
  |cons c cs=>
   cases cs with
   |nil=>
    simp only[bS]at h;obtain⟨v,r,rfl,h1,rfl⟩:=h;exact⟨c,hK,h1,λ_=>rfl⟩
   |cons _ _=>exact hK.elim
def ajk{ok:Nat->Prop}{ag:Bool}{cs:List AV}{us:List Value}{K:AV->Prop}(h:fY ok σ vals w cs us)(h1:∀c∈cs,c.one=true)(hK:Nz ag cs K):∃r,K r/\RA ok σ vals w r (valOf ag us)/\(ag=false->cs.length=1):=by
 cases ag with
 |true=>
  rcases TP cs K hK with⟨t,rfl,h2⟩|h2
  ·rw[iw]at h;exact⟨_,h2,by simp only[RA,Rd];exact⟨λc hc=>h1 (.pv c) BH,_,rfl,ky⟩,λh=>bV⟩
  ·exact⟨_,h2,by simp only[RA];exact⟨h1,_,rfl,ky⟩,λh=>bV⟩
 |false=>
  cases cs with
  |nil=>exact hK.elim
  |cons c cs=>
   cases cs with
   |nil=>
    simp only[fY]at h;obtain⟨v,r,rfl,h1,rfl⟩:=h;exact⟨c,hK,h1,λ_=>rfl⟩
   |cons _ _=>exact hK.elim
def TH{ok:Nat->Prop}{b off at_ n:Nat}{ag:Bool}{cs:List PV}{K:PV->Prop}(h:te ok w b at_ cs)(hK:HX off ag n cs K):
 ∃r us,K r/\Rd ok w r (valOf ag us)/\us.length=n/\(ag=false->n=1)∧∀(j:Nat) (u:Value),us[j]?=some u->w.cell? ⟨b,at_+off+j,none⟩=some u:=by
 obtain⟨pre,rest,rfl,h1,hK⟩:=Ce off cs _ hK;obtain⟨t,post,rfl,h2,hK⟩:=HM n rest _ hK;rw[pU,pU]at h;obtain⟨h0,us,h3,h4⟩:=(ER b t _).1 h.2.1;obtain⟨r,h5,h6,h7⟩:=YC h3 h0 hK;exact⟨r,us,h5,h6,by rw[h3.length,h2],λh=>h2▸h7 h,by rw[h1]at h4;exact h4⟩
def adY{K:AV->Prop}(hr:dH cx σ vals w)(ag:Bool)(n:Nat){xa:AV}{xv:Value}(hx:RA (Ok cx σ vals w) σ vals w xa xv)(hK:Nw σ ag n xa K):
 ∃b off us av,xv=.pointer (some ⟨b,off,none⟩)/\us.length=n/\(∀(j:Nat) (u:Value),us[j]?=some u->w.cell? ⟨b,off+j,none⟩=some u)/\RA (Ok cx σ vals w) σ vals w av (valOf ag us)/\K av:=by
 have fin:∀(b off:Nat) (us:List Value) (av:AV),xv=.pointer (some ⟨b,off,none⟩)->us.length=n->(∀(j:Nat) (u:Value),us[j]?=some u->w.cell? ⟨b,off+j,none⟩=some u)->
  RA (Ok cx σ vals w) σ vals w av (valOf ag us)->K av→∃b off us av,xv=.pointer (some ⟨b,off,none⟩)/\us.length=n/\(∀(j:Nat) (u:Value),us[j]?=some u->w.cell? ⟨b,off+j,none⟩=some u)/\RA (Ok cx σ vals w) σ vals w av (valOf ag us)/\K av:=
  λb off us av h1 h2 h3 h4 h5=>⟨b,off,us,av,h1,h2,h3,h4,h5⟩
 cases xa with
 |pv p=>
  simp only[RA]at hx;cases p with
  |cptr y=>
   obtain⟨b,off,hv,di,sH⟩:=Df hx;obtain⟨r,us,h1,h2,h3,_,h5⟩:=TH (off:=0) sH hK;exact fin b off us (.pv r) hv h3 h5 Zm h1
  |_=>exact hK.elim
 |ref id idx off=>
  simp only[RA]at hx;obtain⟨aU,_,ly,xe⟩:=hx;obtain⟨b,hb,hk⟩:=aS σ id _ hK;obtain⟨v',Mz,tZ⟩:=hr.val hb;cases b with
  |row e sz ap aC=>
   obtain⟨u,g,hu,hg,hv⟩:=ly e sz ap aC hb;obtain rfl:=getElem?_of Mz hu;obtain⟨y,hy,hk⟩:=hk;obtain⟨ad,c,h1,h2,h3,h4⟩:=pt tZ;rcases h4 with h4|⟨b,o',rfl,h4⟩
   ·subst h4;simp at hy
   ·have OT:o'=0/\b=g:=by
     obtain⟨_,cells,h5,_⟩:=tZ;rcases h5.2 with⟨h6,_⟩|⟨g',cap,cur,fr,h6,_⟩
     ·rw[h6]at h1;cases h1
     ·rw[h6]at h1;cases h1;rw[h6]at hg;exact⟨rfl,by cases hg;rfl⟩
    obtain⟨rfl,rfl⟩:=OT;obtain⟨_,h6⟩:=SY h4 hy;obtain⟨r,us,g1,g2,g3,_,g5⟩:=TH h6 hk;exact fin b (idx*sz+off) us (.pv r) hv g3 (by simpa using g5) (by simp only[RA];exact g2) g1
  |fz z=>
   cases z with
   |cptr y=>
    obtain⟨u,g,hu,rfl,hv⟩:=xe _ hb rfl;obtain rfl:=getElem?_of Mz hu;obtain⟨b,n',e1,_,sH⟩:=Df (show Rd (Ok cx σ vals w) w (.cptr y) _ from tZ);cases e1;obtain⟨r,us,h1,h2,h3,_,h5⟩:=TH sH hk;exact fin _ off us (.pv r) hv h3 (by simpa using h5) Zm h1
   |_=>exact hk.elim
  |box e cs=>
   obtain⟨u,g,hu,rfl,hv⟩:=xe _ hb rfl;obtain rfl:=getElem?_of Mz hu;obtain⟨b,arr,h1,h2,h3,h4,h5⟩:=tZ;cases h1;obtain⟨pre,rest,rfl,h6,hk⟩:=Ce off cs _ hk;obtain⟨t',post,rfl,h7,hk⟩:=HM n rest _ hk;obtain⟨UJ,mT,he,h8,h9⟩:=(gE _ _ _).1 h5;obtain⟨uf,A2,rfl,XK,gT⟩:=(gE _ _ _).1 h9;obtain⟨r,g1,g2,_⟩:=ajk XK (λc hc=>h4 c ql) hk;refine fin _ off uf r hv (by rw[XK.length,h7]) (λj u hj=>?_) g2 g1;have uw:arr[off+j]?=some u:=by
    rw[<-za2,he,zak (by rw[h8.length,h6];omega),h8.length,h6,zav,
     zar (zaa.1 hj).1,hj]
   simp[World.cell?,h3,uw]
  |_=>exact hk.elim
 |_=>exact hK.elim
def aiV{K:AV->aF->Prop}(hr:Rel cx env σ vals a w)(t:TypeId)(x:Operand)(ag:Bool)(n:Nat)(ho:o.op=.load t x)(hs:∃m,Shape cx.P t ag m/\n=if ag then m else 1)
 (hK:Nw σ ag n (bK env x) λa=>K a σ):Out cx env a w o K:=by
 obtain⟨m,hs,hn⟩:=hs;obtain⟨b,off,us,av,hv,hl,hc,Ql,hk⟩:=adY hr.s ag n (hr.ev x) hK;refine Out.run (v:=valOf ag us) ?_ hr Ql hk;have:=run_load hs b off us (by rw[hl,hn]) hc;simp[execOp,ho,hv,Instr.loadAt,Instr.sureAddr,this]
def aaI{K:AV->aF->Prop}(hr:Rel cx env σ vals a w)(x:Operand)(off:Nat)(hs:∀b n,a.eval x=.pointer (some ⟨b,n,none⟩)->(execOp a.eval o).run cx.P w=.ok (.value (.pointer (some ⟨b,n+off,none⟩))) w)
 (hK:UU σ off (bK env x) λa=>K a σ):Out cx env a w o K:=by
 have hx:=hr.ev x;cases sO:bK env x with
 |pv p=>
  rw[sO]at hK hx;simp only[RA]at hx;cases p with
  |cptr y=>
   obtain⟨b,n,hv,di,sH⟩:=Df hx;obtain⟨pre,rest,h1,h2,hk⟩:=Ce off y.cells _ hK;rw[h1,pU,h2]at sH;exact Out.run (v:=.pointer (some ⟨b,n+off,none⟩)) (hs b n hv) hr (av:=.pv (.cptr (.agg rest))) (by simp only[RA];exact agY di sH.2) hk
  |_=>exact hK.elim
 |ref id idx o1=>
  rw[sO]at hK hx;simp only[RA]at hx;obtain⟨aU,_,ly,xe⟩:=hx;obtain⟨b,hb,hK⟩:=aS σ id _ hK;cases b with
  |row e sz ap aC=>
   obtain⟨u,g,hu,hg,hv⟩:=ly e sz ap aC hb;refine Out.run (v:=.pointer (some ⟨g,idx*sz+o1+off,none⟩)) (K:=K) (hs _ _ hv) hr (av:=.ref id idx (o1+off)) ?_ hK;simp only[RA];refine⟨aU,⟨_,rfl⟩,λe2 y8 tc abR h=>?_,λs2 h t_=>?_⟩
   ·rw[hb]at h;cases h;exact⟨u,g,hu,hg,by rw[zaJ]⟩
   ·rw[hb]at h;cases h;cases t_
  |box e cs=>
   obtain⟨u,g,hu,hg,hv⟩:=xe _ hb rfl;refine Out.run (v:=.pointer (some ⟨g,o1+off,none⟩)) (K:=K) (hs _ _ hv) hr (av:=.ref id idx (o1+off)) ?_ hK;simp only[RA];refine⟨aU,⟨_,rfl⟩,λe2 y8 tc abR h=>?_,λs2 h t_=>?_⟩
   ·rw[hb]at h;cases h
   ·exact⟨u,g,hu,hg,rfl⟩
  |fz z=>
   cases z with
   |cptr y=>
    obtain⟨u,g,hu,hg,hv⟩:=xe _ hb rfl;refine Out.run (v:=.pointer (some ⟨g,o1+off,none⟩)) (K:=K) (hs _ _ hv) hr (av:=.ref id idx (o1+off)) ?_ hK;simp only[RA];refine⟨aU,⟨_,rfl⟩,λe2 y8 tc abR h=>?_,λs2 h t_=>?_⟩
    ·rw[hb]at h;cases h
    ·exact⟨u,g,hu,hg,rfl⟩
   |_=>exact hK.elim
  |_=>exact hK.elim
 |_=>rw[sO]at hK;exact hK.elim
def ahD(P:Program)(s:TypeId)(f:Nat)(fs:Array Field)(fd:Field)(ag:Bool)(m:Nat)(h:P.underlying s=some (.struct fs))(hf:fs[f]?=some fd)(hs:Shape P fd.type ag m)(hm:0<m)(b n:Nat):
 (Instr.fieldAt s (.pointer (some ⟨b,n,none⟩)) f).run P w=.ok (.pointer (some ⟨b,n+fd.offset,none⟩)) w:=by
 obtain⟨i,hi,rfl⟩:=hs.info;have h0:¬i.size=0:=ab;simp[Instr.fieldAt,run_underlying h,hf,Instr.sureAddr,Go.fieldPlace,sizeOf,typeInfo,hi,h0,ik]
def Yx{K:AV->aF->Prop}(hr:Rel cx env σ vals a w)(x:Operand)(ft:TypeId)(off:Nat)(ag:Bool)(n:Nat)(cL:∀arr v,a.eval x=.agg arr->(part ft arr off).run cx.P w=.ok v w->(execOp a.eval o).run cx.P w=.ok (.value v) w)
 (hs:∃m,Shape cx.P ft ag m/\n=if ag then m else 1)
 (hK:match bK env x with
   | .pv x=>match x with
    | .agg cs=>HX off ag n cs λr=>K (.pv r) σ
    |_=>False
   | .agg cs=>Ii off cs λr=>J7 n r λt=>Nz ag t λa=>K a σ
   |_=>False):Out cx env a w o K:=by
 have hx:=hr.ev x;obtain⟨m,hs,hn⟩:=hs;have fin:∀(arr:Array Value) (UJ us mT:List Value) (av:AV),a.eval x=.agg arr->arr.toList=UJ++(us++mT)->UJ.length=off->us.length=n->
  RA (Ok cx σ vals w) σ vals w av (valOf ag us)->K av σ->Out cx env a w o K:=by
  intro arr UJ us mT av hv he h1 h2 Ql hk;refine Out.run (v:=valOf ag us) ?_ hr Ql hk;have aGw:(part ft arr off).run cx.P w=.ok (valOf ag us) w:=by
   obtain⟨i,hi,hm⟩:=hs.info;cases ag with
   |true=>
    simp only[if_true]at hn;simp[part,hs.isAgg,sizeOf,typeInfo,hi,hm,valOf];apply Array.ext';simp[he,<-h1,<-hn,<-h2]
   |false=>
    cases us with
    |nil=>simp at h2;simp at hn;omega
    |cons u us=>
     have:arr[off]?=some u:=by
      rw[<-za2,he,zak ab,h1,Nat.sub_self];rfl
     simp[part,hs.isAgg,this,valOf]
  exact cL arr _ hv aGw
 cases sO:bK env x with
 |pv p=>
  rw[sO]at hK hx;simp only[RA]at hx;cases p with
  |agg cs=>
   simp only[Rd]at hx;obtain⟨h0,arr,hv,hl⟩:=hx;obtain⟨pre,rest,rfl,h1,hk⟩:=Ce _ cs _ hK;obtain⟨t,post,rfl,h2,hk⟩:=HM n rest _ hk;obtain⟨UJ,XY,he,h3,h4⟩:=(eG _ _ _).1 hl;obtain⟨us,mT,rfl,h5,h6⟩:=(eG _ _ _).1 h4;obtain⟨r,g1,g2,_⟩:=YC h5 (λc hc=>h0 c ql) hk;exact fin arr UJ us mT (.pv r) hv he (by rw[h3.length,h1]) (by rw[h5.length,h2]) (by simp only[RA];exact g2) g1
  |_=>exact hK.elim
 |agg cs=>
  rw[sO]at hK hx;simp only[RA]at hx;obtain⟨h0,arr,hv,hl⟩:=hx;obtain⟨pre,rest,rfl,h1,hk⟩:=Ce _ cs _ hK;obtain⟨t,post,rfl,h2,hk⟩:=HM n rest _ hk;obtain⟨UJ,XY,he,h3,h4⟩:=(gE _ _ _).1 hl;obtain⟨us,mT,rfl,h5,h6⟩:=(gE _ _ _).1 h4;obtain⟨r,g1,g2,_⟩:=ajk h5 (λc hc=>h0 c ql) hk;exact fin arr UJ us mT r hv he (by rw[h3.length,h1]) (by rw[h5.length,h2]) g2 g1
 |_=>rw[sO]at hK;exact hK.elim
def anu{K:AV->aF->Prop}(hr:Rel cx env σ vals a w)(s:TypeId)(x:Operand)(f:Nat)(fs:Array Field)(fd:Field)(ag:Bool)(n:Nat)(ho:o.op=.field s x f)(hu:cx.P.underlying s=some (.struct fs))(hf:fs[f]?=some fd)
 (hs:∃m,Shape cx.P fd.type ag m/\n=if ag then m else 1)
 (hK:match bK env x with
   | .pv x=>match x with
    | .agg cs=>HX fd.offset ag n cs λr=>K (.pv r) σ
    |_=>False
   | .agg cs=>Ii fd.offset cs λr=>J7 n r λt=>Nz ag t λa=>K a σ
   |_=>False):Out cx env a w o K:=
 Yx hr x fd.type fd.offset ag n (λarr v hv hp=>by simp[execOp,ho,hv,Instr.field,run_underlying hu,hf,asAgg,hp]) hs hK
def aiy{K:AV->aF->Prop}(hr:Rel cx env σ vals a w)(t e:TypeId)(x i:Operand)(m:Nat)(kd:IntKind)(k:Int)(sz:Nat)(ag:Bool)(n:Nat)(ho:o.op=.index t x i)(hu:cx.P.underlying t=some (.array m e))(hi:i=.const (.int kd k))(hk:0<=k/\k.toNat<m)
 (hs:Shape cx.P e ag sz) (hn:n=if ag then sz else 1)
 (hK:match bK env x with
   | .pv x=>match x with
    | .agg cs=>HX (k.toNat*sz) ag n cs λr=>K (.pv r) σ
    |_=>False
   | .agg cs=>Ii (k.toNat*sz) cs λr=>J7 n r λt=>Nz ag t λa=>K a σ
   |_=>False):Out cx env a w o K:=by
 obtain⟨j,hj,wK⟩:=hs.info;refine Yx hr x e (k.toNat*sz) ag n (λarr v hv hp=>?_) ⟨_,hs,hn⟩ hK;subst hi;have aU:k<(m:Int):=ab;have sO:a.eval (.const (.int kd k))=.int kd k:=rfl;simp[execOp,ho,hv,sO,Instr.index,asIntOf,run_underlying hu,hk.1,aU,sizeOf,typeInfo,hj,wK,hp]
def axZ{K:AV->aF->Prop}(hr:Rel cx env σ vals a w)(x:Operand)(i:Nat)(ho:o.op=.extract x i)
 (hK:match bK env x with
   | .tup l=>g_ l i λa=>K a σ
   | .pv x=>match x with
    | .tup l=>g_ l i λa=>K (.pv a) σ
    |_=>False
   |_=>False):Out cx env a w o K:=by
 have hx:=hr.ev x;cases sO:bK env x with
 |pv p=>
  rw[sO]at hK hx;simp only[RA]at hx;cases p with
  |tup l=>
   simp only[Rd]at hx;obtain⟨arr,hv,hl⟩:=hx;obtain⟨c,hc,hk⟩:=aS l i _ hK;obtain⟨h1,h2⟩:=(uo l _).1 hl;have aU:=(zaa.1 hc).1;have aCP:i<arr.size:=by rw[<-zac,h1];exact aU
   have Mz:arr[i]?=some arr[i]:=zaG aCP;refine Out.run (v:=arr[i]) ?_ hr (av:=.pv c) (by simp only[RA];exact h2 i c _ hc aj) hk;simp[execOp,ho,hv,Instr.extract,Mz]
  |_=>exact hK.elim
 |tup l=>
  rw[sO]at hK hx;simp only[RA]at hx;obtain⟨arr,hv,hl⟩:=hx;obtain⟨c,hc,hk⟩:=aS l i _ hK;have aU:=(zaa.1 hc).1;have aCP:i<arr.size:=by rw[<-zac,hl.length];exact aU
  have Mz:arr[i]?=some arr[i]:=zaG aCP;have lj:∀(l:List AV) (vs:List Value) (i:Nat) (c:AV) (v:Value),fY (Ok cx σ vals w) σ vals w l vs->l[i]?=some c->vs[i]?=some v->RA (Ok cx σ vals w) σ vals w c v:=by
   intro l
   induction l with
   |nil=>intro vs i c v _ h;simp at h
   |cons x l ih=>
    intro vs i c v h h1 h2;simp only[fY]at h;obtain⟨v0,r,rfl,h3,h4⟩:=h;cases i with
    |zero=>simp at h1 h2;subst h1 h2;exact h3
    |succ i=>exact ih r i c v h4 xO iT
  refine Out.run (v:=arr[i]) ?_ hr (av:=c) (lj l _ i c _ hl hc aj) hk;simp[execOp,ho,hv,Instr.extract,Mz]
 |_=>rw[sO]at hK;exact hK.elim
def apu{K:AV->aF->Prop}(hr:Rel cx env σ vals a w)(x:Operand)(ho:o.op=.nilCheck x)
 (hK:match bK env x with
   | .ref id idx off=>aed σ id (K (.ref id idx off) σ)
   | .pv x=>match x with
    | .cptr y=>K (.pv (.cptr y)) σ
    | .clo f cs=>K (.pv (.clo f cs)) σ
    |_=>False
   | .clo f cs=>K (.clo f cs) σ
   |_=>False):Out cx env a w o K:=by
 have hx:=hr.ev x;cases sO:bK env x with
 |pv p=>
  rw[sO]at hK hx;cases p with
  |cptr y=>
   have dR:=hx;simp only[RA]at hx;obtain⟨b,n,hv,_⟩:=Df hx;exact Out.run (v:=.pointer (some ⟨b,n,none⟩)) (by simp[execOp,ho,hv]) hr (hv▸dR) hK
  |clo f cs=>
   have dR:=hx;simp only[RA,Rd]at hx;obtain⟨cv,hv,_⟩:=hx;exact Out.run (v:=.func (.func f) #[] cv) (by simp[execOp,ho,hv]) hr (hv▸dR) hK
  |_=>exact hK.elim
 |clo f cs=>
  rw[sO]at hK hx;have dR:=hx;simp only[RA]at hx;obtain⟨cv,hv,_⟩:=hx;exact Out.run (v:=.func (.func f) #[] cv) (by simp[execOp,ho,hv]) hr (hv▸dR) hK
 |ref id idx off=>
  rw[sO]at hK hx;have dR:=hx;simp only[RA]at hx;obtain⟨aU,_,ly,xe⟩:=hx;obtain⟨b,hb,hK⟩:=aS σ id _ hK;cases b with
  |row e sz ap aC=>
   obtain⟨u,g,hu,hg,hv⟩:=ly e sz ap aC hb;exact aa_
  |fz z=>
   cases z with
   |cptr y=>
    obtain⟨u,g,hu,hg,hv⟩:=xe _ hb rfl;exact aa_
   |_=>exact hK.elim
  |box e cs=>
   obtain⟨u,g,hu,hg,hv⟩:=xe _ hb rfl;exact aa_
  |_=>exact hK.elim
 |_=>rw[sO]at hK;exact hK.elim
end
end
end Go.Dv
namespace Go.Dv
open Go.RowKit
section
section
variable {cx:Cx} {env:Env} {σ:aF} {vals:List Value} {a:Act} {w w':World} {o:Oper}
def ajK{s:dC}{v:Value}(hl:vals.length=σ.length){b:Nat}(h:WB (σ++[s]) (vals++[v]) b):WB σ vals b\/(s.live=true/\bl v=some b):=by
 obtain⟨i,t,u,h1,h2,h3,h4⟩:=h;rw[gG]at h1 h3;split at h1
 ·rename_i he;rw[if_pos (by rw[hl];exact he)]at h3;cases h1;cases h3;exact .inr ⟨h2,h4⟩
 ·rename_i he;rw[if_neg (by rw[hl];exact he)]at h3;exact .inl ⟨i,t,u,h1,h2,h3,h4⟩
def dH.push(hr:dH cx σ vals w)(dS:Below w.heap.size w w')(s:dC)(v:Value)(kR:v.oneCell'=true)(rR:s.live=true→∀b,bl v=some b->w.heap.size<=b)
 (hb:ct cx σ vals w (σ++[s]) (vals++[v]) w'->RB cx (σ++[s]) (vals++[v]) w' s v):
 dH cx (σ++[s]) (vals++[v]) w'/\ct cx σ vals w (σ++[s]) (vals++[v]) w':=by
 obtain⟨ic,sN⟩:=hr.grow dS;have hk:ct cx σ vals w (σ++[s]) (vals++[v]) w':=by
  refine⟨λi u h=>?_,aj,λb h=>⟨h.1,zae h.2.1 dS.size,λhm=>?_⟩,λb h=>dS.block b h.2.1,λi hi e sz ap aC h=>?_,λi hi s' h Cs=>?_⟩
  ·rw[gG,if_neg (by have:=(zaa.1 h).1;omega)];exact h
  ·rcases ajK hr.len hm with hm|⟨h1,h2⟩
   ·exact h.2.2 hm
   ·have:=rR h1 b h2;have:=h.2.1;omega
  ·rw[gG,if_neg ab]at h;exact⟨ap,aC,h⟩
  ·rw[gG,if_neg ab]at h;exact⟨s',h,Cs⟩
 have pe:Fr cx (σ++[s]) (vals++[v]) w':=⟨ic.fr.size,ic.fr.same,λb hm sQ=>by
  rcases ajK hr.len hm with hm|⟨h1,h2⟩
  ·exact hr.fr.I1 b hm sQ
  ·have:=rR h1 b h2;have:=cx.hk b sQ;have:=hr.fr.size;omega⟩
 refine⟨⟨ic.below,λu hu=>aij,by simp[hr.len],λi t u h1 h2=>?_,λi j t1 t2 u1 u2 b zk h1 h2 h3 h4 h5 h6 h7=>?_,pe,hr.pin.keep hk⟩,hk⟩
 ·rw[gG]at h1 h2;split at h1
  ·rename_i he;rw[if_pos (by rw[hr.len];exact he)]at h2;cases h1;cases h2;exact hb hk
  ·rename_i he;rw[if_neg (by rw[hr.len];exact he)]at h2;exact hk.rb (hr.sV i t u h1 h2) (λhl b Gn=>dS.block b ((hr.sV i t u h1 h2).block hl Gn).2)
 ·rw[gG]at h1 h2 h5 h6;rw[hr.len]at h5 h6;split at h1
  ·rename_i he;rw[if_pos he]at h5;cases h1;cases h5;rw[if_neg ab]at h2 h6;intro h8;have:=rR h3 b h7;have:=((hr.sV j t2 u2 h2 h6).block h4 h8).2;omega
  ·rename_i he;rw[if_neg he]at h5;split at h2
   ·rename_i qN;rw[if_pos qN]at h6;cases h2;cases h6;intro h8;have:=rR h4 b h8;have:=((hr.sV i t1 u1 h1 h5).block h3 h7).2;omega
   ·rename_i qN;rw[if_neg qN]at h6;exact hr.Xl i j t1 t2 u1 u2 b zk h1 h2 h3 h4 h5 h6 h7
def alc(hl:vals.length=σ.length)(s:dC)(v:Value){ok:Nat->Prop}:RA ok (σ++[s]) (vals++[v]) w (.own σ.length) v:=by
 simp only[RA];rw[gG,if_pos hl.symm]
def amF(hl:vals.length=σ.length)(e:TypeId)(cs:List AV)(b:Nat){ok:Nat->Prop}:RA ok (σ++[.box e cs]) (vals++[.pointer (some ⟨b,0,none⟩)]) w (.ref σ.length 0 0) (.pointer (some ⟨b,0,none⟩)):=by
 simp only[RA];refine⟨aj,⟨_,rfl⟩,λe2 y8 tc abR h=>?_,λs2 h t_=>?_⟩
 ·rw[gG,if_pos rfl]at h;cases h
 ·exact⟨.pointer (some ⟨b,0,none⟩),b,by rw[gG,if_pos hl.symm],rfl,rfl⟩
def Dd(w:World)(ob:Obj):Below w.heap.size w (w.alloc ob):=(Below.refl _ _).alloc (zai _) _
def heap_alloc(w:World)(ob:Obj):(w.alloc ob).heap[w.heap.size]?=some ob:=by show(w.heap.push ob)[w.heap.size]?=_;simp
def aby{K:AV->aF->Prop}(hr:Rel cx env σ vals a w)(e:TypeId)(cs:List AV)(arr:Array Value)(cL:(execOp a.eval o).run cx.P w=.ok (.value (.pointer (some ⟨w.heap.size,0,none⟩))) (w.alloc (.cells arr e)))
 (h1:∀c∈cs,c.one=true) (sH:fY (Ok cx σ vals w) σ vals w cs arr.toList) (hK:pf σ λn=>gD σ (.box e cs) λσ=>K (.ref n 0 0) σ):Out cx env a w o K:=by
 have hK:=cN _ _ _ (gV σ _ hK);obtain⟨hs,hk⟩:=hr.s.push (Dd w (.cells arr e)) (.box e cs) (.pointer (some ⟨w.heap.size,0,none⟩)) rfl (λ_ b h=>Yy)
  (λhk=>⟨w.heap.size,arr,rfl,cx.eh _ hr.s.below.size,heap_alloc w _,h1,hk.kZ _ _ sH⟩)
 exact Out.run cL (hr.keep hs hk) (amF hr.s.len e cs w.heap.size) hK
def Ht{K:AV->aF->Prop}(hr:Rel cx env σ vals a w)(e:TypeId)(sz:Nat)(ap:Bool)(aC:List PV)(w':World)(dS:Below w.heap.size w w')(v:Value)(cL:(execOp a.eval o).run cx.P w=.ok (.value v) w')
 (rR:∀b,bl v=some b->w.heap.size<=b) (mD:0<sz) (cells:List Value) (eh:Jp w' cx.own e sz ap v aC.length cells) (hl:∀x∈aC,x.cells.length=sz) (h1:∀c∈aC.flatMap PV.cells,c.one=true)
 (sH:bS (Ok cx σ vals w) w (aC.flatMap PV.cells) cells) (hK:pf σ λn=>gD σ (.row e sz ap aC) λσ=>K (.own n) σ):Out cx env a w o K:=by
 have hK:=cN _ _ _ (gV σ _ hK);have kR:v.oneCell'=true:=aiP;obtain⟨hs,hk⟩:=hr.s.push dS (.row e sz ap aC) v kR (λ_=>rR) (λhk=>⟨mD,cells,eh,hl,h1,hk.sI sH⟩);exact Out.run cL (hr.keep hs hk) (alc hr.s.len _ _) hK
def afL{ok:Nat->Prop}{c:PV}{v:Value}(h:qt c v=true):Rd ok w c v/\c.one=true:=by
 unfold qt at h;split at h<;>simp_all[Rd,PV.one,Value.oneCell'];rename_i l s;obtain⟨h1,h2⟩:=h;obtain⟨⟨d⟩⟩:=s;simp at h1 h2;subst h1
 simp_all
def XB{ok:Nat->Prop}(cs:List PV):∀vs:List Value,atc cs vs=true->bS ok w cs vs∧∀c∈cs,c.one=true:=by
 induction cs with
 |nil=>intro vs h;cases vs with
  |nil=>simp[bS]
  |cons v vs=>cases h
 |cons c cs ih=>
  intro vs h;cases vs with
  |nil=>cases h
  |cons v vs=>
   have h':(match qt c v with|true=>atc cs vs|false=>false)=true:=h;cases hz:qt c v with
   |false=>rw[hz]at h';cases h'
   |true=>
    rw[hz]at h';obtain⟨h1,h2⟩:=ih vs h';obtain⟨h3,h4⟩:=afL (w:=w) (ok:=ok) hz;exact⟨by simp only[bS];exact⟨v,vs,rfl,h3,h1⟩,by simpa[h4]using h2⟩
def yc{P:Program}{t:TypeId}{z:PV}(h:gQ P t=some z):∃i zv,P.info? t=some i/\i.zero=some zv/\(∀ok w,Rd ok w z zv)/\(∀ok w,bS ok w z.cells zv.cells.toList)∧∀c∈z.cells,c.one=true:=by
 unfold gQ opt at h;cases hs:V5 P t with
 |none=>rw[hs]at h;cases h
 |some s=>
  rw[hs]at h;simp only at h;cases hc:arT P 8 t with
  |none=>rw[hc]at h;cases h
  |some cs=>
   rw[hc]at h;simp only at h;cases hi:P.info? t with
   |none=>rw[hi]at h;cases h
   |some i=>
    rw[hi]at h;simp only at h;cases hz:i.zero with
    |none=>rw[hz]at h;cases h
    |some zv=>
     rw[hz]at h;simp only at h;refine⟨i,zv,rfl,hz,?_⟩;have agg:∀vs,zv=.agg vs->oV (atc cs vs.toList) (some (PV.agg cs))=some z->(∀ok w,Rd ok w z zv)/\(∀ok w,bS ok w z.cells zv.cells.toList)∧∀c∈z.cells,c.one=true:=by
      intro vs hv hn;cases qP:atc cs vs.toList with
      |false=>rw[qP]at hn;cases hn
      |true=>
       rw[qP]at hn;cases hn;subst hv;exact⟨λok w=>by simp only[Rd];exact⟨(XB (ok:=λ_=>True) (w:=default) cs _ qP).2,vs,rfl,(XB cs _ qP).1⟩,λok w=>(XB cs _ qP).1,(XB (ok:=λ_=>True) (w:=default) cs _ qP).2⟩
     have one:∀c,cs=[c]->oV (qt c zv) (some c)=some z->(∀ok w,Rd ok w z zv)/\(∀ok w,bS ok w z.cells zv.cells.toList)∧∀c∈z.cells,c.one=true:=by
      intro c hc hn;cases qP:qt c zv with
      |false=>rw[qP]at hn;cases hn
      |true=>
       rw[qP]at hn;have ba:c=z:=Option.some.inj hn;subst ba;have h1:∀ok w,Rd ok w c zv:=λok w=>(afL qP).1
       have h2:=(afL (ok:=λ_=>True) (w:=default) qP).2;have UD:c.cells=[c]:=by cases c<;>first|rfl|cases h2
       have uz:zv.cells= #[zv]:=by
        have:=(h1 (λ_=>True) default).L5 h2;cases zv<;>first|rfl|cases this
       refine⟨h1,λok w=>?_,?_⟩
       ·rw[UD,uz];simp only[bS];exact⟨zv,[],rfl,h1 ok w,rfl⟩
       ·rw[UD];simpa using h2
     obtain⟨ag,n⟩:=s;cases ag with
     |true=>
      cases zv with
      |agg vs=>exact agg vs rfl h
      |_=>cases h
     |false=>
      cases cs with
      |nil=>cases h
      |cons c cs=>
       cases cs with
       |nil=>exact one _ rfl (by cases zv<;>exact h)
       |cons _ _=>cases zv<;>cases h
def apX{K:AV->aF->Prop}(hr:Rel cx env σ vals a w)(e:TypeId)(z:PV)(ho:o.op=.alloc e)(hz:gQ cx.P e=some z)
 (hK:abh z.cells λcs=>pf σ λn=>gD σ (.box e cs) λσ=>K (.ref n 0 0) σ):Out cx env a w o K:=by
 obtain⟨i,zv,hi,gX,_,h2,h3⟩:=yc hz;refine aby hr e (z.cells.map .pv) zv.cells ?_ ?_ ((iw _ _).2 (h2 _ _)) (tR _ _ hK)
 ·simp[execOp,ho,Instr.alloc,zeroValue,typeInfo,hi,gX,newVar,newRow]
 ·intro c hc;simp at hc;obtain⟨x,hx,rfl⟩:=hc;exact h3 x hx
def anh{ok:Nat->Prop}{z:PV}:∀(vs:List Value) (n:Nat),axq z vs n=true->bS ok w (List.replicate n z) vs/\(0<n->z.one=true):=by
 intro vs
 induction vs with
 |nil=>intro n h;cases n with
  |zero=>simp[bS]
  |succ n=>cases h
 |cons v vs ih=>
  intro n h;cases n with
  |zero=>cases h
  |succ n=>
   replace h:(match qt z v with|true=>axq z vs n|false=>false)=true:=h;cases hz:qt z v with
   |false=>rw[hz]at h;cases h
   |true=>
    rw[hz]at h;have h3:=afL (ok:=ok) (w:=w) hz;rw[zaP];exact⟨by simp only[bS];exact⟨v,vs,rfl,h3.1,(ih n h).1⟩,λ_=>h3.2⟩
def Gf{α β:Type}{o:Option α}{f:α->Option β}{r:β}(h:opt o f=some r):∃x,o=some x/\f x=some r:=by
 unfold opt at h;cases o with
 |none=>cases h
 |some x=>exact⟨x,rfl,h⟩
def Hb{P:Program}{t:TypeId}{q:PV×Nat}(h:C_ P t=some q):∃e i it vs,P.underlying t=some (.array q.2 e)/\P.info? e=some i/\i.size=1/\P.info? t=some it/\it.zero=some (.agg vs)/\axq q.1 vs.toList q.2=true/\8<q.2/\q.2<=1000000:=by
 unfold C_ at h;split at h
 ·rename_i n e hu;obtain⟨i,hi,h⟩:=Gf h;obtain⟨z,hz,h⟩:=Gf h;obtain⟨it,kW,h⟩:=Gf h;obtain⟨zv,gX,h⟩:=Gf h;unfold oV at h;split at h
  ·rename_i hb;simp only[zaU]at hb;split at h
   ·rename_i vs;split at h
    ·rename_i hr;cases h;exact⟨e,i,it,vs,hu,hi,zab hb.2,kW,gX,hr,za3 hb.1.1,za3 hb.1.2⟩
    ·cases h
   ·cases h
  ·cases h
 ·cases h
def ah4(z:PV)(hz:z.one=true)(n:Nat):(List.replicate n z).flatMap PV.cells=List.replicate n z:=by
 have hc:z.cells=[z]:=by cases z<;>first|rfl|cases hz
 induction n with
 |zero=>rfl
 |succ n ih=>rw[zaP,zao,ih,hc];rfl
def aoY{K:AV->aF->Prop}(hr:Rel cx env σ vals a w)(e:TypeId)(q:PV×Nat)(ho:o.op=.alloc e)(hq:C_ cx.P e=some q)
 (hK:pf σ λm=>gD σ (.row e 1 false (List.replicate q.2 q.1)) λσ=>K (.ref m 0 0) σ):Out cx env a w o K:=by
 obtain⟨el,i,it,vs,hu,hi,mD,kW,hz,ayh,h8,kj⟩:=Hb hq;have hK:=cN _ _ _ (gV σ _ hK);have rT:=λ(ok:Nat->Prop)=>(anh (ok:=ok) (w:=w) vs.toList q.2 ayh).1
 have kR:=(anh (ok:=λ_=>True) (w:=w) vs.toList q.2 ayh).2 ab;have hlen:vs.size=q.2:=by have:=(rT (λ_=>True)).length;rw[zaq,zac]at this;exact this
 have mE:q.1.cells.length=1:=by generalize q.1=z at kR;cases z<;>first|rfl|cases kR
 obtain⟨hs,hk⟩:=hr.s.push (Dd w (.cells vs e)) (.row e 1 false (List.replicate q.2 q.1)) (.slice (some ⟨w.heap.size,0,none⟩) q.2 q.2) rfl (λ_ b h=>Yy)
  (λhk=>⟨ab,vs.toList,⟨by rw[zaq,zac,hlen];omega,.inr ⟨w.heap.size,q.2,vs,(0,0),by rw[zaq],cx.eh _ hr.s.below.size,heap_alloc w _,aj,by simp only[maxLen];omega,ab,by rw[zaq,za1 aH],.inl rfl⟩⟩,
    λx hx=>by rw[za7]at hx;rw[hx.2];exact mE,λc hc=>by rw[ah4 _ kR,za7]at hc;rw[hc.2];exact kR,by rw[ah4 _ kR];exact hk.sI (rT _)⟩)
 refine Out.run (v:=.pointer (some ⟨w.heap.size,0,none⟩)) (w':=w.alloc (.cells vs e)) ?_ (hr.keep hs hk) (av:=.ref σ.length 0 0) ?_ hK
 ·simp[execOp,ho,Instr.alloc,zeroValue,typeInfo,kW,hz,newVar,newRow,Value.cells]
 ·simp only[RA];refine⟨aj,⟨_,rfl⟩,λe2 y8 tc abR h=>?_,λs2 h t_=>?_⟩
  ·rw[gG,if_pos rfl]at h;cases h;exact⟨.slice (some ⟨w.heap.size,0,none⟩) q.2 q.2,w.heap.size,by rw[gG,if_pos hr.s.len.symm],rfl,aj⟩
  ·rw[gG,if_pos rfl]at h;cases h;cases t_
def Mw{v:Value}(h:v.oneCell'=true):v.cells= #[v]:=by cases v<;>first|rfl|cases h
def KA(hr:dH cx σ vals w){av:AV}{v:Value}(h:RA (Ok cx σ vals w) σ vals w av v){K:List AV->Prop}(hK:GN av K):∃cs,K cs/\fY (Ok cx σ vals w) σ vals w cs v.cells.toList∧∀c∈cs,c.one=true:=by
 cases av with
 |pv x=>
  simp only[RA]at h;have one:x.one=true->K [.pv x]→∃cs,K cs/\fY (Ok cx σ vals w) σ vals w cs v.cells.toList∧∀c∈cs,c.one=true:=λhx hk=>
   ⟨_,hk,by rw[Mw (h.L5 hx)];simp only[fY];exact⟨v,[],rfl,by simp only[RA];exact h,rfl⟩,by simpa[AV.one]using hx⟩
  cases x with
  |agg cs=>
   simp only[Rd]at h;obtain⟨h0,vs,rfl,h⟩:=h;exact⟨_,tR _ _ hK,(iw _ _).2 h,λc hc=>by simp at hc;obtain⟨x,hx,rfl⟩:=hc;exact h0 x hx⟩
  |tup cs=>exact hK.elim
  |_=>exact one rfl hK
 |agg cs=>
  simp only[RA]at h;obtain⟨h0,vs,rfl,h⟩:=h;exact⟨cs,hK,h,h0⟩
 |own id=>
  have h':=h;simp only[RA]at h;have h1:=hr.one v (zag h);exact⟨_,hK,by rw[Mw h1];simp only[fY];exact⟨v,[],rfl,h',rfl⟩,by simp[AV.one]⟩
 |ref id idx off=>
  have h':=h;simp only[RA]at h;obtain⟨_,⟨ad,rfl⟩,_⟩:=h;exact ZE
 |sub id sz lo n=>
  have h':=h;simp only[RA]at h;obtain⟨_,ad,c,rfl,_⟩:=h;exact ZE
 |clo f jh=>
  have h':=h;simp only[RA]at h;obtain⟨cv,rfl,_⟩:=h;exact ZE
 |_=>exact hK.elim
def awB{K:AV->aF->Prop}(hr:Rel cx env σ vals a w)(e:TypeId)(x:Operand)(ho:o.op=.box e x)
 (hK:GN (bK env x) λcs=>pf σ λn=>gD σ (.box e cs) λσ=>K (.ref n 0 0) σ):Out cx env a w o K:=by
 obtain⟨cs,hk,h1,h2⟩:=KA hr.s (hr.ev x) hK;exact aby hr e cs (a.eval x).cells (by simp[execOp,ho,Instr.box,newVar,newRow]) h2 h1 hk
def ajy{α:Type}(l:List α)(m:Nat)(c:α)(h:m<l.length):(l.set m c).take (m+1)=l.take m++[c]:=by
 apply zba;intro j;rw[zaI,zaS];by_cases h1:j<m
 ·rw[if_pos ab,if_neg ab,zar aH,zaI,if_pos h1]
 ·by_cases h2:j=m
  ·subst h2;rw[if_pos ab,if_pos rfl,if_pos h,zak aH];simp[zat (Nat.le_of_lt h)]
  ·rw[if_neg ab,zaK aH]
def set_drop{α:Type}(l:List α)(m n:Nat)(c:α)(h:m<n):(l.set m c).drop n=l.drop n:=by
 apply zba;intro j;rw[zaB,zaB,zaS,if_neg ab]
def N3(vs:List Value)(off:Nat):∀(k:Nat) (cs:Array Value),off+k+vs.length<=cs.size->
 ((vs.zipIdx k).foldl (λ(cs:Array Value) (p:Value×Nat)=>cs.setIfInBounds (off+p.2) p.1) cs).toList=cs.toList.take (off+k)++vs++cs.toList.drop (off+k+vs.length):=by
 induction vs with
 |nil=>intro k cs _;simp
 |cons c vs ih=>
  intro k cs h;simp only[zam]at h;rw[zaW,zbg,ih (k+1) _ aH];rw[zaR,show off+(k+1)=off+k+1 from rfl,ajy _ _ _ aH,set_drop _ _ _ _ ab];simp[zaJ,Nat.add_comm,zbb]
def ao6{ok:Nat->Prop}{z vs:List AV}{off:Nat}{K:List AV->Prop}(hK:GR vs z off K){cur:Array Value}(hz:fY ok σ vals w z cur.toList){us:Array Value}(hv:fY ok σ vals w vs us.toList):
 ∃z',K z'/\off+us.size<=cur.size/\fY ok σ vals w z' ((us.zipIdx.foldl (λ(cs:Array Value) (p:Value×Nat)=>cs.setIfInBounds (off+p.2) p.1) cur)).toList∧∀P:AV->Prop,(∀c∈z,P c)->(∀c∈vs,P c)→∀c∈z',P c:=by
 obtain⟨pre,mid,post,rfl,h1,h2,hk⟩:=uD vs z off K hK;obtain⟨u1,u3,hc,g1,g3⟩:=(gE _ _ _).1 hz;obtain⟨u1,u2,rfl,g1,g2⟩:=(gE _ _ _).1 g1;have l1:=g1.length;have l2:=g2.length;have l3:=hv.length;have mD:cur.size=u1.length+u2.length+u3.length:=by rw[<-zac,hc];simp[zaJ]
 have gx:us.toList.length=us.size:=zac;have hle:off+us.size<=cur.size:=by rw[<-gx];omega
 refine⟨_,hk,hle,?_,λP hz hv c hc=>?_⟩
 ·have hs:=N3 us.toList off 0 cur (by simpa using hle);have e:us.zipIdx.foldl (λ(cs:Array Value) (p:Value×Nat)=>cs.setIfInBounds (off+p.2) p.1) cur=(us.toList.zipIdx 0).foldl (λ(cs:Array Value) (p:Value×Nat)=>cs.setIfInBounds (off+p.2) p.1) cur:=by
   rw[<-za8];simp
  rw[e,hs,hc];refine(gE _ _ _).2 ⟨u1++us.toList,u3,?_,(gE _ _ _).2 ⟨u1,us.toList,rfl,g1,hv⟩,g3⟩;have e1:(u1++u2++u3).take (off+0)=u1:=by
   rw[zaM,zaj];exact zaH ab
  have e2:(u1++u2++u3).drop (off+0+us.toList.length)=u3:=zaO (by simp only[zad];omega);rw[e1,e2]
 ·simp only[zaA]at hc;rcases hc with(hc|hc)|hc
  ·exact hz c ql
  ·exact hv c hc
  ·exact hz c ql
def aog(hr:Rel cx env σ vals a w)(place:Nat->Option (Nat×Nat)):∀(ps:List (Nat×Operand)) (qs:List (Nat×Nat×Operand)) (z:List AV) (cur:Array Value) (K:List AV->Prop),
 ps.map (λp=>(place p.1).map λq=>(q.1,q.2,p.2))=qs.map some->fY (Ok cx σ vals w) σ vals w z cur.toList->(∀c∈z,c.one=true)->SS z (qs.map λp=>(p.1,p.2.1,bK env p.2.2)) K->
 ∃z' arr,K z'/\Instr.fill place cur (ps.map λp=>(p.1,a.eval p.2))=some arr/\fY (Ok cx σ vals w) σ vals w z' arr.toList∧∀c∈z',c.one=true:=by
 intro ps
 induction ps with
 |nil=>
  intro qs z cur K hq hz h1 hK;cases qs with
  |nil=>exact⟨z,cur,hK,rfl,hz,h1⟩
  |cons q qs=>simp at hq
 |cons p ps ih=>
  intro qs z cur K hq hz h1 hK;cases qs with
  |nil=>simp at hq
  |cons q qs=>
   simp only[zau,List.cons.injEq]at hq;obtain⟨j0,hq2⟩:=hq;cases hp:place p.1 with
   |none=>rw[hp]at j0;cases j0
   |some pl=>
    rw[hp]at j0;simp only[Option.map_some,Option.some.injEq]at j0;subst j0;obtain⟨off,size⟩:=pl;replace hK:GN (bK env p.2) λvs=>vs.length=size/\GR vs z off λz=>SS z (qs.map λp=>(p.1,p.2.1,bK env p.2.2)) K:=hK
    obtain⟨vs,⟨hl,hk⟩,hv,qR⟩:=KA hr.s (hr.ev p.2) hK;obtain⟨z',sN,hle,uC,hP⟩:=ao6 hk hz hv;obtain⟨z2,arr,g1,g2,g3,g4⟩:=ih qs z' _ K hq2 uC (hP _ h1 qR) sN;refine⟨z2,arr,g1,?_,g3,g4⟩;have DI:(a.eval p.2).cells.size=size:=by rw[<-zac,hv.length,hl]
    simp only[zau,Instr.fill,hp];rw[if_neg (by simp[DI];omega)];exact g2
def E_{α β:Type}(f:α->Option β)(l:List α):∀r,Ol f l=some r->l.map f=r.map some/\l.mapM f=some r:=by
 induction l with
 |nil=>intro r h;cases h;exact⟨rfl,rfl⟩
 |cons x l ih=>
  intro r h;have h':opt (f x) (λb=>opt (Ol f l) λt=>some (b::t))=some r:=h;unfold opt at h';cases hx:f x with
  |none=>rw[hx]at h';cases h'
  |some b=>
   rw[hx]at h';simp only at h';cases hl:Ol f l with
   |none=>rw[hl]at h';cases h'
   |some t=>
    rw[hl]at h';cases h';obtain⟨h1,h2⟩:=ih t hl;exact⟨by simp[hx,h1],by simp[List.mapM_cons,hx,h2]⟩
def aoZ{K:AV->aF->Prop}(hr:Rel cx env σ vals a w)(t:TypeId)(parts:Array (Nat×Operand))(fs:Array Field)(cs:List PV)(pl:List (Nat×Nat))(qs:List (Nat×Nat×Operand))(ho:o.op=.build t parts)(hu:cx.P.underlying t=some (.struct fs))(hz:gQ cx.P t=some (.agg cs))
 (qG:Ol (λf:Field=>opt (cx.P.info? f.type) λi=>some (f.offset,i.size)) fs.toList=some pl) (hq:Ol (λp:Nat×Operand=>opt (pl[p.1]?) λq=>some (q.1,q.2,p.2)) parts.toList=some qs)
 (hK:Me env qs λps=>abh cs λz=>SS z ps λcs=>aqx cs λa=>K a σ):Out cx env a w o K:=by
 obtain⟨i,zv,hi,gX,h1,h2,h3⟩:=yc hz;have hK:=tR _ _ (Qr env qs _ hK);have aq1:∀{α β:Type} (o:Option α) (f:α->β),(opt o λx=>some (f x))=o.map f:=λo f=>by cases o<;>rfl
 have uJ:parts.toList.map (λp=>((pl[·]?) p.1).map λq=>(q.1,q.2,p.2))=qs.map some:=by
  rw[<-(E_ _ _ _ hq).1];apply List.map_congr_left;intro p _;exact(aq1 _ _).symm
 obtain⟨z',arr,g1,g2,g3,g4⟩:=aog hr (pl[·]?) parts.toList qs (cs.map .pv) zv.cells _ uJ ((iw _ _).2 (h2 _ _)) (λc hc=>ajx) hK;have amP:cx.P.built t (parts.map λp=>(p.1,a.eval p.2)).toList=some arr:=by
  have hm:fs.toList.mapM (λf=>(cx.P.info? f.type).map λi=>(f.offset,i.size))=some pl:=by
   rw[<-(E_ _ _ _ qG).2];congr 1;funext f;exact(aq1 _ _).symm
  simp only[Program.built,hi,hu,gX,hm,zbe];rw[<-g2];congr 1;funext i;simp
 have cL:(execOp a.eval o).run cx.P w=.ok (.value (.agg arr)) w:=by
  have:=run_build (P:=cx.P) w t (parts.map λp=>(p.1,a.eval p.2)) arr amP;simp only[execOp,ho,Sem.run_bind,this,Result.andThen_ok,Sem.run_pure]
 rcases TP z' _ g1 with⟨l,rfl,hk⟩|hk
 ·refine Out.run cL hr (av:=.pv (.agg l)) ?_ hk;simp only[RA,Rd];exact⟨λc hc=>g4 (.pv c) BH,arr,rfl,(iw _ _).1 g3⟩
 ·refine Out.run cL hr (av:=.agg z') ?_ hk;simp only[RA];exact⟨g4,arr,rfl,g3⟩
end
end
end Go.Dv
namespace Go.Dv
open Go.RowKit
section
section
variable {cx:Cx} {env:Env} {σ:aF} {vals:List Value} {a:Act} {w w':World} {o:Oper}
def Dg{cs:List PV}{K:PV->Prop}(h:qm cs K)(h1:∀c∈cs,c.one=true):
 ∃x,K x∧∀(ok:Nat->Prop) (arr:Array Value) (b:Nat) (e:TypeId) (fr:Nat×Nat),w.heap[b]?=some (.cells arr e fr)->bS ok w cs arr.toList->ok b->Rd ok w (.cptr x) (.pointer (some ⟨b,0,none⟩)):=by
 have Gp:∀(arr:Array Value) (b:Nat) (e:TypeId) (fr:Nat×Nat),w.heap[b]?=some (.cells arr e fr)→∀(j:Nat) (u:Value),arr.toList[j]?=some u->w.cell? ⟨b,0+j,none⟩=some u:=by
  intro arr b e fr hb j u hj;have:arr[j]?=some u:=Gk;simp[World.cell?,hb,this]
 have agg:(∀c∈cs,c.one=true)→∀(ok:Nat->Prop) (arr:Array Value) (b:Nat) (e:TypeId) (fr:Nat×Nat),w.heap[b]?=some (.cells arr e fr)->bS ok w cs arr.toList->ok b->Rd ok w (.cptr (.agg cs)) (.pointer (some ⟨b,0,none⟩)):=by
  intro h1 ok arr b e fr hb h di;simp only[Rd];exact⟨b,0,rfl,di,(ER b cs 0).2 ⟨h1,arr.toList,h,Gp arr b e fr hb⟩⟩
 cases cs with
 |nil=>exact⟨_,h,agg h1⟩
 |cons c r=>
  cases r with
  |cons d r=>exact⟨_,h,agg h1⟩
  |nil=>
   have kR:c.one=true:=h1 c aj;have hx:c.one=true→∀(ok:Nat->Prop) (arr:Array Value) (b:Nat) (e:TypeId) (fr:Nat×Nat),w.heap[b]?=some (.cells arr e fr)->bS ok w [c] arr.toList->ok b->Rd ok w (.cptr c) (.pointer (some ⟨b,0,none⟩)):=by
    intro kR ok arr b e fr hb rT di;simp only[bS]at rT;obtain⟨u,t,hu,hc,rfl⟩:=rT;have h0:=Gp arr b e fr hb 0 u (by rw[hu];rfl);cases c with
    |agg cs=>cases kR
    |_=>simp only[Rd];exact⟨b,0,rfl,di,kR,u,h0,by simpa only[Rd]using hc⟩
   cases c with
   |agg cs=>cases kR
   |_=>exact⟨_,h,hx kR⟩
def TK(cs:List PV){K:PV->Prop}(h:qm cs K):∃x,K x∧∀K':PV->Prop,K' x->qm cs K':=by
 cases cs with
 |nil=>exact⟨_,h,λ_ h=>h⟩
 |cons c r=>cases r with
  |nil=>cases c<;>first|exact B4|exact⟨_,h,λ_ h=>h⟩
  |cons d r=>exact⟨_,h,λ_ h=>h⟩
def Tl:∀(t:List PV) (K:List PV->Prop) (E:Prop),K t->G_ (t.map .pv) K E
 |[],_,_,h=>h
 |_::t,K,E,h=>Tl t _ E h
def an3(b:dC){K:PV->Prop}(h:adh b K):∃x,K x∧∀K':PV->Prop,K' x->adh b K':=by
 cases b with
 |box e cs=>
  rcases nQ cs (λt=>qm t λx=>K (.cptr x)) False h with⟨qU,rfl,AP⟩|AP
  ·obtain⟨x,I_,vR⟩:=TK qU AP;exact⟨_,I_,λK' h'=>Tl qU _ _ (vR _ h')⟩
  ·exact AP.elim
 |_=>exact B4
def Dq(σ:aF)(cs:List AV):(AV.rec_1 (motive_1:=λ_=>(PV->Prop)->Prop) (motive_2:=λ_=>(List PV->Prop)->Prop)
 (λ_=>False) (λx K=>K x)
 (λid K=>g_ σ id λb=>match b with
   | .row _ sz _ aC=>K (.sl sz aC)
   | .fz x=>K x
   |_=>False)
 (λid idx off K=>match idx,off with
   |0,0=>g_ σ id λb=>adh b K
   |_,_=>False) (λid sz lo n K=>g_ σ id λb=>YG sz lo n b λaC=>K (.sl sz aC)) (λ_ ih K=>ih λl=>K (.agg l)) (λ_ ih K=>ih λl=>K (.tup l)) (λ_ _ _ _=>False) (λK=>K []) (λ_ _ h t K=>h λx=>t λl=>K (x::l)) cs:(List PV->Prop)->Prop)=aQ σ cs:=by
 induction cs with
 |nil=>rfl
 |cons c cs ih=>
  funext K;exact congrArg (λf:(List PV->Prop)->Prop=>jD σ c λx=>f λl=>K (x::l)) ih
def BM(σ:aF)(cs:List AV)(K:PV->Prop)(h:jD σ (.agg cs) K):aQ σ cs λl=>K (.agg l):=by
 rw[<-Dq];exact h
def Dh(σ:aF)(cs:List AV)(K:PV->Prop)(h:aQ σ cs λl=>K (.agg l)):jD σ (.agg cs) K:=by
 rw[<-Dq]at h;exact h
def J4(σ:aF)(cs:List AV)(K:PV->Prop)(h:aQ σ cs λl=>K (.tup l)):jD σ (.tup cs) K:=by
 rw[<-Dq]at h;exact h
def dP{α:Type}(l:List α):∀(i:Nat) (x:α) (K:α->Prop),l[i]?=some x->K x->g_ l i K:=by
 induction l with
 |nil=>intro i x K h;simp at h
 |cons y l ih=>
  intro i x K h hk;cases i with
  |zero=>simp at h;subst h;exact hk
  |succ i=>exact ih i x K ky hk
def Hh(σ:aF)(cs:List AV)(K:PV->Prop)(h:jD σ (.tup cs) K):aQ σ cs λl=>K (.tup l):=by
 rw[<-Dq];exact h
def DZ(cs:List AV):(AV.rec_1 (motive_1:=λ_=>aF->(aF->Prop)->Prop) (motive_2:=λ_=>aF->(aF->Prop)->Prop)
 (λ_ _=>False)
 (λ_ σ K=>K σ)
 (λid σ K=>g_ σ id λb=>match b with
   | .row _ sz _ aC=>wu σ id (.fz (.sl sz aC)) K
   | .fz _=>K σ
   |_=>False)
 (λ_ _ _ _ _=>False) (λid _ _ _ σ K=>g_ σ id λb=>match b with
  | .row _ sz _ aC=>wu σ id (.fz (.sl sz aC)) K
  | .fz _=>K σ
  |_=>False) (λ_ ih σ K=>ih σ K) (λ_ ih σ K=>ih σ K) (λ_ _ _ _ _=>False) (λσ K=>K σ) (λ_ _ h t σ K=>h σ λσ=>t σ K) cs:aF->(aF->Prop)->Prop)=fX cs:=by
 induction cs with
 |nil=>rfl
 |cons c cs ih=>
  funext σ K;exact congrArg (λf:aF->(aF->Prop)->Prop=>lP c σ λσ=>f σ K) ih
def Ry(cs:List AV)(σ:aF)(K:aF->Prop)(h:lP (.agg cs) σ K):fX cs σ K:=by
 rw[<-DZ];exact h
def QB(cs:List AV)(σ:aF)(K:aF->Prop)(h:lP (.tup cs) σ K):fX cs σ K:=by
 rw[<-DZ];exact h
def CE(cx:Cx)(σ:aF)(vals:List Value)(w:World)(b:Nat):Prop:=Ok cx σ vals w b\/WB σ vals b
def atP{x:PV}{v:Value}(h:Rd (Ok cx σ vals w) w x v):Rd (CE cx σ vals w) w x v:=Rd.mono (λ_ h=>.inl h) (λ_ _ _=>rfl) x v h
def ad3{ok:Nat->Prop}{x:PV}{v:Value}(h:Rd ok w x v)(hv:v.oneCell'=true):x.one=true:=by
 cases x with
 |agg cs=>simp only[Rd]at h;obtain⟨_,vs,rfl,_⟩:=h;cases hv
 |tup cs=>simp only[Rd]at h;obtain⟨vs,rfl,_⟩:=h;cases hv
 |_=>rfl
mutual
def ad4(hr:dH cx σ vals w):∀(av:AV) (v:Value) (K:PV->Prop),RA (Ok cx σ vals w) σ vals w av v->jD σ av K→∃x,K x/\Rd (CE cx σ vals w) w x v/\(av.one=true->x.one=true)∧∀K2:PV->Prop,K2 x->jD σ av K2
 | .bad,_,_,_,h=>h.elim
 | .pv x,v,K,hv,h=>⟨x,h,atP aaQ,λh=>h,λ_ h=>h⟩
 | .own id,v,K,hv,h=>by
  simp only[RA]at hv;obtain⟨b,hb,hk⟩:=aS σ id _ h;obtain⟨v',Mz,tZ⟩:=hr.val hb;obtain rfl:=getElem?_of hv Mz;have h1:=hr.one v (zag hv);cases b with
  |row e sz ap aC=>
   refine⟨_,hk,?_,λ_=>rfl,λK2 h2=>dP σ id _ _ hb h2⟩;obtain⟨ad,c,g1,g2,g3,g4⟩:=pt tZ;simp only[Rd];refine⟨ad,c,g1,g2,g3,g4.imp_right ?_⟩;rintro⟨b,o',rfl,ly⟩;exact⟨b,o',rfl,.inr ⟨id,_,v,hb,rfl,hv,by rw[g1];rfl⟩,fC.mono (λ_ h=>.inl h) (λ_ _ _=>rfl) b sz o' (λ_=>rfl) aC ly⟩
  |fz x=>exact⟨x,hk,atP tZ,λ_=>ad3 tZ h1,λK2 h2=>dP σ id _ _ hb h2⟩
  |_=>exact hk.elim
 | .ref id idx off,v,K,hv,h=>by
  cases idx with
  |succ _=>exact B4
  |zero=>cases off with
   |succ _=>exact B4
   |zero=>
    obtain⟨b,hb,hk⟩:=aS σ id (λb=>adh b K) h;simp only[RA]at hv;obtain⟨_,_,_,xe⟩:=hv;cases b with
    |box e cs=>
     rcases nQ cs (λt=>qm t λx=>K (.cptr x)) False hk with⟨qU,rfl,AP⟩|AP
     ·obtain⟨u,hu,tZ⟩:=hr.val hb;obtain⟨u',g,gA,jA,hv⟩:=xe _ hb rfl;rw[hu]at gA;cases gA;obtain⟨b',avm,e1,_,e3,e4,e5⟩:=tZ;have kR:∀c∈qU,c.one=true:=λc hc=>e4 (.pv c) BH
      rw[iw]at e5;obtain⟨x,I_,vR⟩:=TK qU AP;obtain⟨x',rfl,hx⟩:=Dg (w:=w) (vR (λy=>y=x) rfl) kR;refine⟨_,I_,?_,λ_=>rfl,λK2 h2=>dP σ id _ _ hb (Tl qU _ _ (vR _ h2))⟩;rw[hv];rw[e1]at jA;cases jA;exact hx _ avm _ _ _ e3 (bS.mono (λ_ h=>.inl h) (λ_ _ _=>rfl) _ _ e5) (.inr ⟨id,_,u,hb,rfl,hu,by rw[e1];rfl⟩)
     ·exact AP.elim
    |_=>exact kK
 | .sub id sz lo n,v,K,hv,h=>by
  obtain⟨b,hb,hk⟩:=aS σ id _ h;obtain⟨aC,h1,h2,h3,ad,c,h4,h5,h6,h7,_⟩:=Qa hr hv hb hk;refine⟨_,h1,?_,λ_=>rfl,λK2 AP=>dP σ id _ _ hb (h3 _ AP)⟩;simp only[Rd];refine⟨ad,c,by rw[h2];exact h4,ab,h6,h7.imp_right ?_⟩;rintro⟨g,g1,g2,g3⟩;refine⟨g,_,g1,?_,fC.mono (λ_ h=>.inl h) (λ_ _ _=>rfl) g sz _ (λ_=>rfl) aC g2⟩;rcases g3 with⟨e,ap,iv,u,rfl,hu,hg⟩|⟨g3,_⟩
  ·exact .inr ⟨id,_,u,hb,rfl,hu,hg⟩
  ·exact .inl g3
 | .clo _ _,_,_,_,h=>(show False from h).elim
 | .agg cs,v,K,hv,h=>by
  simp only[RA]at hv;obtain⟨h0,vs,rfl,hv⟩:=hv;obtain⟨xs,hk,h1,h2,h3⟩:=wP hr cs _ _ hv (BM σ cs K h);exact⟨_,hk,by simp only[Rd];exact⟨h2 h0,vs,rfl,h1⟩,(λh=>bV),λK2 AP=>Dh σ cs K2 (h3 _ AP)⟩
 | .tup cs,v,K,hv,h=>by
  simp only[RA]at hv;obtain⟨vs,rfl,hv⟩:=hv;obtain⟨xs,hk,h1,h2,h3⟩:=wP hr cs _ _ hv (Hh σ cs K h);exact⟨_,hk,by simp only[Rd];exact⟨vs,rfl,h1⟩,(λh=>bV),λK2 AP=>J4 σ cs K2 (h3 _ AP)⟩
def wP(hr:dH cx σ vals w):∀(l:List AV) (vs:List Value) (K:List PV->Prop),fY (Ok cx σ vals w) σ vals w l vs->aQ σ l K→∃xs,K xs/\bS (CE cx σ vals w) w xs vs/\((∀c∈l,c.one=true)→∀c∈xs,c.one=true)∧∀K2:List PV->Prop,K2 xs->aQ σ l K2
 |[],vs,K,hv,h=>⟨[],h,by simpa only[fY,bS]using hv,(λ_ _ h=>bV),λ_ h=>h⟩
 |c::l,vs,K,hv,h=>by
  simp only[fY]at hv;obtain⟨v,r,rfl,h1,h2⟩:=hv;obtain⟨x,hk,h3,h4,h7⟩:=ad4 hr c v _ h1 h;obtain⟨xs,hk,h5,h6,h8⟩:=wP hr l r _ h2 hk;refine⟨x::xs,hk,by simp only[bS];exact⟨v,r,rfl,h3,h5⟩,λhc y hy=>?_,λK2 AP=>h7 _ (h8 _ AP)⟩;rcases zax.1 hy with rfl|hy
  ·exact h4 (hc c aj)
  ·exact h6 (λd hd=>hc d yf) y hy
end
def Fz(σ0 σ:aF):Prop:=∀i:Nat,σ[i]?=σ0[i]?∨∃e sz ap aC,σ0[i]?=some (.row e sz ap aC)/\σ[i]?=some (.fz (.sl sz aC))
mutual
def Jm:∀(av:AV) (σ0 σ:aF) (v:Value) (K:PV->Prop) (K':aF->Prop),Fz σ0 σ->dH cx σ vals w->RA (Ok cx σ vals w) σ vals w av v->jD σ0 av K->lP av σ K'->
 ∃x σ',K x/\K' σ'/\Fz σ0 σ'/\dH cx σ' vals w/\ct cx σ vals w σ' vals w/\Rd (Ok cx σ' vals w) w x v/\(av.one=true->x.one=true)
 | .bad,_,_,_,_,_,_,_,_,h,_=>h.elim
 | .pv x,σ0,σ,v,K,K',hf,hr,hv,h,h'=>⟨x,σ,h,h',hf,hr,.refl,aaQ,λh=>h⟩
 | .own id,σ0,σ,v,K,K',hf,hr,hv,h,h'=>by
  simp only[RA]at hv;obtain⟨b0,cq,hk⟩:=aS σ0 id _ h;obtain⟨b,hb,sN⟩:=aS σ id _ h';obtain⟨v',Mz,tZ⟩:=hr.val hb;obtain rfl:=getElem?_of hv Mz;have h1:=hr.one v (zag hv);have dx:∀x,b=.fz x->K x→∃x σ',K x/\K' σ'/\Fz σ0 σ'/\dH cx σ' vals w/\ct cx σ vals w σ' vals w/\Rd (Ok cx σ' vals w) w x v/\((AV.own id).one=true->x.one=true):=by
   intro x hx hk;subst hx;exact⟨x,σ,hk,sN,hf,hr,.refl,tZ,λ_=>ad3 tZ h1⟩
  rcases hf id with he|⟨e,sz,ap,aC,h0,h2⟩
  ·rw[he,cq]at hb;cases hb;cases b0 with
   |row e sz ap aC=>
    have hbσ:σ[id]?=some (.row e sz ap aC):=he.trans cq;obtain⟨hs,sQ⟩:=hr.freeze hbσ;obtain⟨aU,sN⟩:=fS _ _ _ _ sN;refine⟨_,_,hk,sN,λi=>?_,hs,sQ,hs.sV id (.fz (.sl sz aC)) v (by rw[nZ aU];simp) hv,λ_=>rfl⟩;rw[nZ aU];split
    ·rename_i hi;subst hi;exact .inr ⟨e,sz,ap,aC,cq,rfl⟩
    ·exact hf i
   |fz x=>exact dx x rfl hk
   |_=>exact hk.elim
  ·rw[h0]at cq;cases cq;rw[h2]at hb;cases hb;exact dx _ rfl hk
 | .ref _ _ _,_,_,_,_,_,_,_,_,_,h=>(show False from h).elim
 | .sub id sz lo n,σ0,σ,v,K,K',hf,hr,hv,h,h'=>by
  obtain⟨b0,cq,hk⟩:=aS σ0 id _ h;obtain⟨b,hb,sN⟩:=aS σ id _ h';have dx:∀(aC:List PV) (σ1:aF),dH cx σ1 vals w->σ1[id]?=some (.fz (.sl sz aC))->lo+n<=aC.length->Rd (Ok cx σ1 vals w) w (.sl sz (cut lo (lo+n) aC)) v:=by
   intro aC σ1 Gw G1 hle;have qR:RA (Ok cx σ1 vals w) σ1 vals w (.sub id sz lo n) v:=by
    simp only[RA]at hv ⊢;exact⟨(zaa.1 G1).1,hv.2⟩
   have hw:YG sz lo n (.fz (.sl sz aC)) (λx=>x=cut lo (lo+n) aC):=by
    show(match Nat.beq sz sz with|true=>lo+n<=aC.length/\_|false=>False);rw[show Nat.beq sz sz=true from Nat.beq_refl sz];exact⟨hle,rfl⟩
   obtain⟨abR,rfl,h2,_,ad,c,h4,h5,h6,h7,_⟩:=Qa Gw qR G1 hw;simp only[Rd];refine⟨ad,c,by rw[h2];exact h4,ab,h6,h7.imp_right ?_⟩;rintro⟨g,g1,g2,g3⟩;refine⟨g,_,g1,?_,g2⟩;rcases g3 with⟨e,ap,iv,u,hd,_⟩|⟨g3,_⟩
   ·cases hd
   ·exact g3
  rcases hf id with he|⟨e,mM,ap,aC,h0,h2⟩
  ·rw[he,cq]at hb;cases hb;have hbσ:=he.trans cq;obtain⟨aC,h1,_,_,_,_,_,_,_,_,e,ap,iv,ld⟩:=Qa hr hv hbσ hk;rcases ld with⟨rfl,rfl,hle⟩|⟨rfl,rfl,hle⟩
   ·obtain⟨hs,sQ⟩:=hr.freeze hbσ;obtain⟨aU,sN⟩:=fS _ _ _ _ sN;refine⟨_,_,h1,sN,λi=>?_,hs,sQ,dx iv _ hs (by rw[nZ aU];simp) hle,λ_=>rfl⟩;rw[nZ aU];split
    ·rename_i hi;subst hi;exact .inr ⟨e,sz,ap,iv,cq,rfl⟩
    ·exact hf i
   ·exact⟨_,σ,h1,sN,hf,hr,.refl,dx iv σ hr hbσ hle,λ_=>rfl⟩
  ·rw[h0]at cq;cases cq;rw[h2]at hb;cases hb;replace hk:(match Nat.beq mM sz with|true=>lo+n<=aC.length/\K (.sl sz (cut lo (lo+n) aC))|false=>False):=hk;cases hs:Nat.beq mM sz with
   |false=>rw[hs]at hk;exact hk.elim
   |true=>
    rw[hs]at hk;have:=zab hs;subst this;exact⟨_,σ,hk.2,sN,hf,hr,.refl,dx aC σ hr h2 hk.1,λ_=>rfl⟩
 | .clo _ _,_,_,_,_,_,_,_,_,h,_=>(show False from h).elim
 | .agg cs,σ0,σ,v,K,K',hf,hr,hv,h,h'=>by
  simp only[RA]at hv;obtain⟨h0,vs,rfl,hv⟩:=hv;obtain⟨xs,σ',g1,g2,g3,g4,g5,g6,g7⟩:=qQ cs σ0 σ _ _ K' hf hr hv (BM σ0 cs K h) (Ry cs σ K' h');exact⟨_,σ',g1,g2,g3,g4,g5,by simp only[Rd];exact⟨g7 h0,vs,rfl,g6⟩,λh=>bV⟩
 | .tup cs,σ0,σ,v,K,K',hf,hr,hv,h,h'=>by
  simp only[RA]at hv;obtain⟨vs,rfl,hv⟩:=hv;obtain⟨xs,σ',g1,g2,g3,g4,g5,g6,g7⟩:=qQ cs σ0 σ _ _ K' hf hr hv (Hh σ0 cs K h) (QB cs σ K' h');exact⟨_,σ',g1,g2,g3,g4,g5,by simp only[Rd];exact⟨vs,rfl,g6⟩,λh=>bV⟩
def qQ:∀(l:List AV) (σ0 σ:aF) (vs:List Value) (K:List PV->Prop) (K':aF->Prop),Fz σ0 σ->dH cx σ vals w->fY (Ok cx σ vals w) σ vals w l vs->aQ σ0 l K->fX l σ K'->
 ∃xs σ',K xs/\K' σ'/\Fz σ0 σ'/\dH cx σ' vals w/\ct cx σ vals w σ' vals w/\bS (Ok cx σ' vals w) w xs vs/\((∀c∈l,c.one=true)→∀c∈xs,c.one=true)
 |[],σ0,σ,vs,K,K',hf,hr,hv,h,h'=>⟨[],σ,h,h',hf,hr,.refl,by simpa only[fY,bS]using hv,λ_ _ h=>bV⟩
 |c::l,σ0,σ,vs,K,K',hf,hr,hv,h,h'=>by
  simp only[fY]at hv;obtain⟨v,r,rfl,h1,h2⟩:=hv;obtain⟨x,σ1,hk,sN,g3,g4,g5,g6,g7⟩:=Jm c σ0 σ v _ _ hf hr h1 h h';obtain⟨xs,σ2,hk,sN,f3,f4,f5,f6,f7⟩:=qQ l σ0 σ1 r _ K' g3 g4 (g5.kZ _ _ h2) hk sN;refine⟨x::xs,σ2,hk,sN,f3,f4,g5.trans f5,by simp only[bS];exact⟨v,r,rfl,f5.rd g6,f6⟩,λhc y hy=>?_⟩;rcases zax.1 hy with rfl|hy
  ·exact g7 (hc c aj)
  ·exact f7 (λd hd=>hc d yf) y hy
end
def Fz.refl(σ:aF):Fz σ σ:=λ_=>.inl rfl
end
end
end Go.Dv
namespace Go.Dv
open Go.RowKit Go.Great Go.Lib
section
section
variable {cx:Cx} {env:Env} {σ:aF} {vals:List Value} {a:Act} {w w':World} {o:Oper}
def Ys{ok:Nat->Prop}{x:PV}{v:Value}(h:Rd ok w x v)(hx:∀l,x≠.tup l):bS ok w x.cells v.cells.toList∧∀c∈x.cells,c.one=true:=by
 have one:x.one=true->x.cells=[x]->bS ok w x.cells v.cells.toList∧∀c∈x.cells,c.one=true:=λh1 hc=>by
  rw[hc,Mw (h.L5 h1)];exact⟨by simp only[bS];grind,bf⟩
 cases x with
 |agg cs=>obtain⟨h0,vs,rfl,h1⟩:=h;trivial
 |tup l=>grind
 |_=>exact one rfl rfl
def aek(sz:Nat)(xs:List PV)(h:ahB sz xs=true):∀x∈xs,x.cells.length=sz∧∀l,x≠.tup l:=by
 induction xs with
 |nil=>simp
 |cons x xs ih=>
  have main:(∀l,x≠.tup l)->(match Nat.beq x.cells.length sz with|true=>ahB sz xs|false=>false)=true→∀y∈x::xs,y.cells.length=sz∧∀l,y≠.tup l:=by
   intro hx h y hy;cases hb:Nat.beq x.cells.length sz with
   |false=>grind
   |true=>
    rcases zax.1 hy with rfl|hy
    ·simp_all
    grind
  cases x with
  |tup l=>cases h
  |_=>exact main aj h
def ar1{ok:Nat->Prop}(xs:List PV):∀(vs:List Value),bS ok w xs vs->(∀x∈xs,∀l,x≠.tup l)->bS ok w (xs.flatMap PV.cells) (vs.flatMap (·.cells.toList))∧∀c∈xs.flatMap PV.cells,c.one=true:=by
 induction xs with
 |nil=>intro vs h _;subst h;trivial
 |cons x xs ih=>
  intro vs h hx;obtain⟨v,r,rfl,h1,h2⟩:=h;obtain⟨g1,g2⟩:=ih r h2 (λy hy=>hx y pT);obtain⟨f1,f2⟩:=Ys h1 (hx x aj);exact⟨(eG _ _ _).2 ⟨_,_,rfl,f1,g1⟩,λc hc=>bf⟩
def at6(sz:Nat):∀(vs:List Value) (k:Nat) (cur:Array Value),(∀v∈vs,v.cells.size=sz)->(k+vs.length)*sz<=cur.size->
 ∃arr,Instr.fill (λi=>some (i*sz,sz)) cur ((vs.zipIdx k).map λp=>(p.2,p.1))=some arr/\arr.toList=cur.toList.take (k*sz)++vs.flatMap (·.cells.toList)++cur.toList.drop ((k+vs.length)*sz):=by
 intro vs
 induction vs with
 |nil=>intro k cur _ _;exact⟨cur,rfl,aj⟩
 |cons v vs ih=>
  intro k cur h1 h2;simp only[zam]at h2;have hv:v.cells.size=sz:=h1 v aj;have hm:(k+(vs.length+1))*sz=k*sz+sz+vs.length*sz:=by simp only[zas,zbc];omega
  have lk:=N3 v.cells.toList (k*sz) 0 cur (by rw[zac];omega);rw[zaM,zac,hv]at lk;obtain⟨arr,g1,g2⟩:=ih (k+1) ((v.cells.toList.zipIdx 0).foldl (λ(cs:Array Value) (p:Value×Nat)=>cs.setIfInBounds (k*sz+p.2) p.1) cur) (λu hu=>h1 u (by simp[hu])) (by
   rw[<-zac,lk];simp only[zad,zal,zay,zac,hv,zas,zbc];omega)
  refine⟨arr,?_,?_⟩
  ·simp only[zaW,zau,Instr.fill];rw[if_neg (by simp[hv];omega)];rw[<-g1];congr 1;rw[<-za8];simp
  ·rw[g2,lk];have e1:(k+1)*sz=k*sz+sz:=by rw[zas,zbc]
   have l1:(cur.toList.take (k*sz)++v.cells.toList).length=(k+1)*sz:=by
    rw[zad,zal,zac,zac,hv,zat ab,e1]
   rw[zaH l1];have e2:(k+1+vs.length)*sz=(k+1)*sz+vs.length*sz:=by rw[zas]
   rw[e2,<-zaQ,zaO l1,zaQ];simp only[zao,zaj,zam];congr 4;exact hm.symm
def RO(l:List (Nat×Operand)):∀(k:Nat) (ps:List Operand),R8 l k=some ps->l=(ps.zipIdx k).map λp=>(p.2,p.1):=by
 induction l with
 |nil=>intro k ps h;cases h;rfl
 |cons p l ih=>
  intro k ps h;have h':(match Nat.beq p.1 k with|true=>opt (R8 l (k+1)) λr=>some (p.2::r)|false=>none)=some ps:=h;cases hb:Nat.beq p.1 k with
  |false=>grind
  |true=>
   rw[hb]at h';simp only[opt]at h';cases hi:R8 l (k+1)with
   |none=>grind
   |some r=>
    rw[hi]at h';cases h';have:=zab hb;subst this;rw[zaW,zau,<-ih _ _ hi]
def alg{K:AV->aF->Prop}(hr:Rel cx env σ vals a w)(t e:TypeId)(ie:TypeInfo)(n:Nat)(parts:Array (Nat×Operand))(ps:List Operand)(z:PV)(ho:o.op=.buildSlice t n parts)
 (hu:cx.P.underlying t=some (.slice e)) (Ct:cx.P.info? e=some ie) (fp:R8 parts.toList 0=some ps) (hn:ps.length=n) (mD:0<ie.size) (JL:n*ie.size<=16777216) (hz:gQ cx.P e=some z)
 (hK:aQ σ (ps.map (bK env)) λxs=>ahB ie.size xs=true/\fX (ps.map (bK env)) σ λσ=>pf σ λn=>gD σ (.row e ie.size true xs) λσ=>K (.own n) σ):Out cx env a w o K:=by
 obtain⟨i,zv,hi,gX,_,_,_⟩:=yc hz;rw[Ct]at hi;cases hi;obtain⟨xs,⟨hlen,hk⟩,_,_,WR⟩:=wP hr.s _ _ _ (hr.cd ps) hK;obtain⟨O0,σ',rfl,hk,_,hs,sQ,rT,_⟩:=qQ (ps.map (bK env)) σ σ _ (λys=>ys=xs) _ (Fz.refl σ) hr.s (hr.cd ps) (WR _ rfl) hk;have C3:=aek _ _ hlen;obtain⟨SL,kR⟩:=ar1 _ _ rT (λx hx=>(C3 x hx).2);have hl:O0.length=n:=by have:=rT.length;simp at this;omega
 have aJT:∀v∈ps.map a.eval,v.cells.size=ie.size:=by
  intro v hv;obtain⟨j,hj⟩:=zaE.1 hv;have HQ:j<O0.length:=by have:=(zaa.1 hj).1;simp at this;omega
  have hx:=zah HQ;have h1:=((uo _ _).1 rT).2 j _ v hx hj;have SF:=zag hx;have:=(Ys h1 (C3 _ SF).2).1.length;rw[zac,(C3 _ SF).1]at this;exact this
 obtain⟨arr,g1,g2⟩:=at6 ie.size (ps.map a.eval) 0 ((Array.range (n*ie.size)).map (zv.cells[· %zv.cells.size]!)) aJT (by simp[hn]);have UE:arr.toList=(ps.map a.eval).flatMap (·.cells.toList):=by
  rw[g2];simp[hn]
 have cL:(execOp a.eval o).run cx.P w=.ok (.value (.slice (some ⟨w.heap.size,0,none⟩) n n)) (w.alloc (.cells arr e)):=by
  by_cases h0:n=0
  ·subst h0;have aJU:ps=[]:=zaf hn;subst aJU;have hp:parts= #[]:=by
    have:=RO _ _ _ fp;simp at this;exact this
   have ha:arr= #[]:=by apply Array.ext';rw[UE];rfl
   subst hp ha;simp[execOp,ho,Instr.buildSlice,run_underlying hu,sizeOf,typeInfo,Ct,Instr.fill,newRow];congr 2;apply Array.ext';simp
  ·have Gq:¬n*ie.size=0:=by
    intro h;rcases Nat.mul_eq_zero.1 h with h|h<;>omega
   have:=run_buildSlice (P:=cx.P) w t e n (parts.map λp=>(p.1,a.eval p.2)) arr ie zv hu Ct gX ab Gq (by
    rw[<-g1];congr 1;rw[zbe,RO _ _ _ fp,List.zipIdx_map];simp[List.map_map,Function.comp_def])
   simp only[execOp,ho,Sem.run_bind,this,Result.andThen_ok,Sem.run_pure]
 refine Ht (hr.keep hs sQ) e ie.size true O0 _ (Dd w _) _ cL (λb h=>Yy) mD _ ⟨?_,.inr ⟨w.heap.size,n,arr,(0,0),by rw[hl],cx.eh _ hr.s.below.size,heap_alloc w _,ab,?_,?_,?_,.inl rfl⟩⟩
  (λx hx=>(C3 x hx).1) kR SL hk
 ·rw[SL.length,fv _ _ (λx hx=>(C3 x hx).1)]
 ·simp only[maxLen];have:=Nat.le_mul_of_pos_right n mD;omega
 ·rw[<-zac,UE,SL.length,fv _ _ (λx hx=>(C3 x hx).1),hl]
 ·rw[UE];exact za1 (by rw[SL.length,fv _ _ (λx hx=>(C3 x hx).1)];exact zai _)
def Ym(cs:List PV)(n:Nat):∀j,j<n*cs.length->((List.replicate n cs).flatten)[j]?=cs[j%cs.length]?:=by
 induction n with
 |zero=>omega
 |succ n ih=>
  intro j h;rw[zaP,List.flatten_cons];by_cases hj:j<cs.length
  ·rw[zar hj,Nat.mod_eq_of_lt hj]
  ·rw[zak ab,ih _ bf,<-Nat.mod_eq_sub_mod ab]
def asa{K:AV->aF->Prop}(hr:Rel cx env σ vals a w)(t e:TypeId)(ie:TypeInfo)(z:PV)(l c:Operand)(ho:o.op=.makeSlice t l c)(hu:cx.P.underlying t=some (.slice e))(Ct:cx.P.info? e=some ie)(hz:gQ cx.P e=some z)(mD:0<ie.size)
 (Jd:z.cells.length=ie.size) (hK:Dv.asInt (bK env l) λ_ l=>Dv.asInt (bK env c) λ_ c=>
  (0<=l/\l<=c/\(ie.bytes:Int)*c<=281474976710656/\c<=9223372036854775807)/\pf σ λn=>gD σ (.row e ie.size true (List.replicate l.toNat z)) λσ=>K (.own n) σ):Out cx env a w o K:=by
 obtain⟨i,zv,hi,gX,h1,h2,h3⟩:=yc hz;rw[Ct]at hi;cases hi;have hx:=hr.ev l;have hy:=hr.ev c
 revert hK hx hy
 cases bK env l with
 |pv pl=>
  cases pl with
  |int kl nl=>
   cases bK env c with
   |pv pc=>
    cases pc with
    |int kc nc=>
     rintro⟨⟨g0,g1,g2,g3⟩,hk⟩ hx hy;simp only[RA,Rd]at hx hy;have cL:(execOp a.eval o).run cx.P w=.ok (.value (.slice (some ⟨w.heap.size,0,none⟩) nl.toNat nc.toNat)) (w.alloc (.cells (madeCells zv.cells (nc.toNat*ie.size)) e)):=by
      have:=run_make (P:=cx.P) w t e ie zv hu Ct gX kl kc nl nc g0 g1 g2 g3;simp[execOp,ho,hx,hy,this]
     have gH:zv.cells.size=ie.size:=QW;have akn:(List.replicate nl.toNat z).flatMap PV.cells=(List.replicate nl.toNat z.cells).flatten:=by
      rw[List.flatMap_def,List.map_replicate]
     have SL:((List.replicate nl.toNat z).flatMap PV.cells).length=nl.toNat*ie.size:=by
      simp_all
     have hle:nl.toNat*ie.size<=nc.toNat*ie.size:=zaF _ ab;have SF:∀c∈(List.replicate nl.toNat z).flatMap PV.cells,c.one=true:=by
      grind
     refine Ht hr e ie.size true _ _ (Dd w _) _ cL (λb h=>by cases h;simp) mD ((madeCells zv.cells (nc.toNat*ie.size)).toList.take (nl.toNat*ie.size))
      ⟨?_,.inr ⟨w.heap.size,nc.toNat,_,(0,0),aj,cx.eh _ hr.s.below.size,heap_alloc w _,?_,?_,?_,?_,.inl rfl⟩⟩ ?_ SF ((uo _ _).2 ⟨?_,?_⟩) hk
     ·rw[zal,zac,size_madeCells,zat hle,zaq]
     ·grind
     ·simp only[maxLen];omega
     ·rw[size_madeCells]
     ·simp
     ·grind
     ·rw[SL,zal,zac,size_madeCells,zat hle]
     ·intro j c v hc hv;have hj:j<nl.toNat*ie.size:=bf;rw[akn,Ym _ _ j bf,Jd]at hc;rw[zaI,if_pos hj]at hv;have aJV:j%ie.size<zv.cells.size:=bf;have Mz:v=zv.cells[j%ie.size]:=by
       simp[madeCells,gH]at hv
       grind
      exact((uo _ _).1 (h2 (Ok cx σ vals w) w)).2 (j%ie.size) c v hc bf
    |_=>intro hK;trivial
   |_=>intro hK;trivial
  |_=>intro hK;trivial
 |_=>intro hK;trivial
def axE{K:AV->aF->Prop}(hr:Rel cx env σ vals a w)(s d e:TypeId)(x:Operand)(ho:o.op=.convert s d x)(hs:cx.P.underlying s=some .string)(hd:cx.P.underlying d=some (.slice e))(he:cx.P.underlying e=some (.int .u8))
 (hK:match bK env x with
   | .pv x=>match x with
    | .str l=>l.length<=9223372036854775807/\pf σ λn=>gD σ (.row e 1 false (l.map aL)) λσ=>K (.own n) σ
    |_=>False
   |_=>False):Out cx env a w o K:=by
 have hx:=hr.ev x
 revert hK hx
 cases bK env x with
 |pv p=>
  cases p with
  |str l=>
   rintro⟨gJ,hK⟩ hx;simp only[RA,Rd]at hx;have mD:(⟨_⟩:ByteArray).size=l.length:=rfl;have cL:=run_bytes_of_string (P:=cx.P) w s d e ⟨l.toArray⟩ hs hd he;rw[mD]at cL;have lA:=grownCap_ge w l.length 0 e;have E3:(bytesRow ⟨l.toArray⟩ (grownCap w l.length 0 e)).toList.take l.length=l.map λb=>Value.int .u8 b.toNat:=by
    simp[bytesRow]
   have DI:(bytesRow ⟨l.toArray⟩ (grownCap w l.length 0 e)).size=grownCap w l.length 0 e:=by
    simp[bytesRow,mD];omega
   have XJ:=grownCap_le_maxLen w l.length 0 e aA;refine Ht hr e 1 false (l.map aL) (w.drew.alloc (.cells (bytesRow ⟨_⟩ (grownCap w l.length 0 e)) e ((bytesRow ⟨l.toArray⟩ (grownCap w l.length 0 e)).size,(bytesRow ⟨l.toArray⟩ (grownCap w l.length 0 e)).size+1))) (((Below.refl _ w).drew).alloc aj _) (.slice (some ⟨w.heap.size,0,none⟩) l.length (grownCap w l.length 0 e)) (by simp[execOp,ho,hx,cL]) (λb h=>by cases h;simp) ab
    (l.map λb=>Value.int .u8 b.toNat) ⟨aj,.inr ⟨_,_,_,_,aj,cx.eh _ hr.s.below.size,heap_alloc w.drew _,bf,XJ,ab,?_,.inr ⟨rfl,zai _⟩⟩⟩ ?_ ?_ ?_ hK
   ·grind
   ·intro x hx;rw[zaX]at hx;obtain⟨b,_,rfl⟩:=hx;rfl
   ·rw[l_];intro c hc;rw[zaX]at hc;obtain⟨b,_,rfl⟩:=hc;rfl
   ·rw[l_,EJ]
  |_=>simp
 |_=>simp
def SC{B:Nat->Prop}{e:TypeId}{sz:Nat}{v:Value}{n:Nat}{xs:List Value}(h:Jp w B e sz true v n xs):w.ownsRow 0 e sz v n xs∧∀b,bl v=some b->B b:=by
 refine⟨⟨h.1,?_⟩,?_⟩
 ·rcases h.2 with h2|⟨g,cap,cur,fr,h1,h2,h3,h4,h5,h6,h7,h8⟩
  ·grind
  grind
 ·intro b hb;rcases h.2 with⟨rfl,_⟩|⟨g,cap,cur,fr,rfl,h2,_⟩
  ·cases hb
  ·cases hb;exact h2
def VL(z:Array Value)(n:Nat):(Builtin.zeroCells z n).size=n*z.size:=by simp[Builtin.zeroCells]
def FK(w:World)(B:Nat->Prop)(e:TypeId)(sz:Nat)(v:Value)(n m:Nat)(cells:List Value)(v':Value)(w':World):Prop:=
 Jp w' B e sz true v' (n+m) cells/\w.grownBy w' v.ownBlock∧∀b,bl v'=some b->bl v=some b\/w.heap.size<=b
def Hc{P:Program}{e:TypeId}{i:TypeInfo}{zv:Value}(B:Nat->Prop)(v:Value)(n m:Nat)(xs news:List Value)(hi:i.zero=some zv)(gH:zv.cells.size=i.size)(hx:xs.length=n*i.size)(hl:news.length=m*i.size)(q7:Nat)(hold:q7<n+m)(DP:n+m<=maxLen)(hB:B w.heap.size):
 FK w B e i.size v n m (xs++news) (.slice (some ⟨w.heap.size,0,none⟩) (n+m) (grownCap w (n+m) q7 e))
  (w.drew.alloc (.cells (xs.toArray++news.toArray++Builtin.zeroCells zv.cells (grownCap w (n+m) q7 e-(n+m))) e)):=by
 have lA:=grownCap_ge w (n+m) q7 e;have hlen:(xs++news).length=(n+m)*i.size:=bf;refine⟨⟨hlen,.inr ⟨_,_,_,_,rfl,hB,heap_alloc w.drew _,lA,grownCap_le_maxLen w (n+m) q7 e DP,?_,?_,.inl rfl⟩⟩,⟨rfl,rfl,rfl,aj,λk hk _=>Below.heap_alloc w.drew _ k hk⟩,λb h=>by cases h;simp⟩
 ·simp only[Array.size_append,List.size_toArray,VL,gH,hx,hl,<-zas]
  grind
 grind
def UW{e:TypeId}{sz:Nat}(B:Nat->Prop)(g n m cap:Nat)(cur:Array Value)(news:List Value)(hl:news.length=m*sz)(hg:w.heap[g]?=some (.cells cur e (0,0)))(hB:B g)(LP:n+m<=cap)(AQ:cap<=maxLen)(sH:cur.size=cap*sz):
 FK w B e sz (.slice (some ⟨g,0,none⟩) n cap) n m (cur.toList.take (n*sz)++news) (.slice (some ⟨g,0,none⟩) (n+m) cap) (w.setRow g (cur.toList.take (n*sz)++news++cur.toList.drop (n*sz+news.length)).toArray):=by
 have hle:(n+m)*sz<=cap*sz:=zaF _ LP;have hlen:(cur.toList.take (n*sz)++news).length=(n+m)*sz:=bf;refine⟨⟨hlen,.inr ⟨g,_,_,_,rfl,hB,setRow_heap w g cur _ e _ hg,LP,AQ,?_,?_,.inl rfl⟩⟩,⟨rfl,rfl,rfl,aj,λk _ hk=>setRow_other w g k _ (λh=>hk (by simp[Value.ownBlock,h]))⟩,λb h=>.inl h⟩
 ·grind
 grind
def aqH{P:Program}(B:Nat->Prop)(t ty e:TypeId)(i:TypeInfo)(zv:Value)(ht:P.underlying t=some (.slice e))(hi:P.info? e=some i)(hz:i.zero=some zv)(gH:zv.cells.size=i.size)
 (v:Value) (n:Nat) (xs:List Value) (eh:Jp w B e i.size true v n xs) (ad:Option Addr) (m c:Nat) (hmc:m<=c) (news:List Value) (hl:news.length=m*i.size) (IG:m=0∨∃a,ad=some a∧∀(j:Nat) (u:Value),news[j]?=some u->w.cell? (a.add j)=some u) (h1:∀u∈news,u.oneCell'=true)
 (DP:n+m<=maxLen) (amQ:(n+m)*i.bytes<=140737488355328) (hB:B w.heap.size):
 ∃v' w',(Builtin.append_ #[t,t] ty #[v,.slice ad m c]).run P w=.ok v' w'/\FK w B e i.size v n m (xs++news) v' w':=by
 have aJW:n+m<=9223372036854775807:=aA;rcases IG with rfl|⟨ad,rfl,IG⟩
 ·have:news=[]:=zaf ab;subst this;refine⟨v,w,?_,bf,⟨rfl,rfl,rfl,zai _,λ_ _ _=>rfl⟩,λb h=>.inl h⟩;rcases eh.2 with⟨rfl,rfl⟩|⟨g,cap,cur,fr,rfl,_,_,mO,_⟩
  ·cases ad<;>simp[Builtin.append_,run_underlying ht,sizeOf,typeInfo,hi,Builtin.lenOf,Builtin.firstCells,loadCells,loadCellsFrom]
  ·cases ad<;>simp[Builtin.append_,run_underlying ht,sizeOf,typeInfo,hi,Builtin.lenOf,Builtin.firstCells,loadCells,loadCellsFrom,mO,storeCells]
 ·by_cases hm:m=0
  ·subst hm;have:news=[]:=zaf ab;subst this;refine⟨v,w,?_,bf,⟨rfl,rfl,rfl,zai _,λ_ _ _=>rfl⟩,λb h=>.inl h⟩;rcases eh.2 with⟨rfl,rfl⟩|⟨g,cap,cur,fr,rfl,_,_,mO,_⟩
   ·simp[Builtin.append_,run_underlying ht,sizeOf,typeInfo,hi,Builtin.lenOf,Builtin.firstCells,loadCells,loadCellsFrom]
   ·simp[Builtin.append_,run_underlying ht,sizeOf,typeInfo,hi,Builtin.lenOf,Builtin.firstCells,loadCells,loadCellsFrom,mO,storeCells]
  ·obtain⟨ld,ako⟩:=SC eh;rcases ld.2 with⟨rfl,rfl⟩|⟨g,cap,cur,rfl,_,hg,mO,AQ,sH,aeP⟩
   ·have hx:xs=[]:=zaf (by simpa using eh.1);subst hx;have hr:=run_append_nil (P:=P) w t ty e i zv ht hi hz ad m c news hl IG ab ab bf;have:=Hc (P:=P) (e:=e) B (.slice none 0 0) 0 m [] news hz gH aj hl 0 ab DP hB
    grind
   ·by_cases LP:n+m<=cap
    ·have aJX:n*i.size+news.length<=cur.size:=by rw[hl,sH,<-zas];exact zaF _ LP
     have hr:=run_append_room (P:=P) w t ty e i ht hi g n cap cur hg ad m c news hl IG h1 LP aJX;exact⟨_,_,hr,aeP▸UW B g n m cap cur news hl hg (ako g rfl) LP AQ sH⟩
    ·have holds:∀(j:Nat) (u:Value),xs[j]?=some u->w.cell? ((⟨g,0,none⟩:Addr).add j)=some u:=ld.cells (g:=g) rfl;have hr:=run_append_grow (P:=P) w t ty e i zv ht hi hz ⟨g,0,none⟩ n cap xs eh.1 holds ad m c news hl IG ab ab (growslice_fits ab amQ);exact⟨_,_,hr,Hc (P:=P) (e:=e) B _ n m xs news hz gH eh.1 hl cap ab DP hB⟩
def ams{P:Program}(B:Nat->Prop)(t u ty e:TypeId)(i:TypeInfo)(zv:Value)(ht:P.underlying t=some (.slice e))(hu:P.underlying u=some .string)(hi:P.info? e=some i)(hz:i.zero=some zv)(gH:zv.cells.size=i.size)(lX:i.size=1)
 (v:Value) (n:Nat) (xs:List Value) (eh:Jp w B e i.size true v n xs) (s:ByteArray)
 (DP:n+s.size<=maxLen) (amQ:(n+s.size)*i.bytes<=140737488355328) (hB:B w.heap.size):
 ∃v' w',(Builtin.append_ #[t,u] ty #[v,.string s]).run P w=.ok v' w'/\FK w B e i.size v n s.size (xs++strCells s) v' w':=by
 have aJW:n+s.size<=9223372036854775807:=aA;have hl:(strCells s).length=s.size*i.size:=by rw[strCells_length,lX,Nat.mul_one]
 by_cases hm:s.size=0
 ·have ed:strCells s=[]:=zaf bf;rw[ed,hm];refine⟨v,w,?_,bf,⟨rfl,rfl,rfl,zai _,λ_ _ _=>rfl⟩,λb h=>.inl h⟩;have wM:=run_firstCells_string (P:=P) w i.size s;rw[hm,ed]at wM;rcases eh.2 with⟨rfl,rfl⟩|⟨g,cap,cur,fr,rfl,_,_,mO,_⟩
  ·simp[Builtin.append_,run_underlying ht,run_underlying hu,sizeOf,typeInfo,hi,Builtin.lenOf,hm,wM]
  ·simp[Builtin.append_,run_underlying ht,run_underlying hu,sizeOf,typeInfo,hi,Builtin.lenOf,hm,wM,mO,storeCells]
 ·obtain⟨ld,ako⟩:=SC eh;rcases ld.2 with⟨rfl,rfl⟩|⟨g,cap,cur,rfl,_,hg,mO,AQ,sH,aeP⟩
  ·have hx:xs=[]:=zaf (by simpa using eh.1);subst hx;have hr:=run_append_nil_string (P:=P) w t u ty e i zv ht hu hi hz s ab ab bf;have:=Hc (P:=P) (e:=e) B (.slice none 0 0) 0 s.size [] (strCells s) hz gH aj hl 0 ab DP hB;simp only[zaV,zaZ,Array.empty_append]at this ⊢;have e0:(strCells s).toArray=s.data.map (λb=>Value.int .u8 b.toNat):=by apply Array.ext';simp[strCells]
   grind
  ·by_cases LP:n+s.size<=cap
   ·have hr:=run_append_room_string (P:=P) w t u ty e i ht hu hi lX g n cap cur hg s LP bf;have:=UW B g n s.size cap cur (strCells s) hl hg (ako g rfl) LP AQ sH
    grind
   ·have holds:=ld.cells (g:=g) rfl;have hr:=run_append_grow_string (P:=P) w t u ty e i zv ht hu hi hz ⟨g,0,none⟩ n cap xs eh.1 holds s ab ab (growslice_fits ab amQ);exact⟨_,_,hr,Hc (P:=P) (e:=e) B _ n s.size xs (strCells s) hz gH eh.1 hl cap ab DP hB⟩
def Mm{v:Value}{b:Nat}(hs:∀p,v≠.pointer p):bl v=some b↔v.ownBlock=some b:=by
 cases v with
 |slice a n c=>cases a<;>simp[bl,Value.ownBlock]
 |pointer p=>grind
 |_=>rfl
def dH.app(hr:dH cx σ vals w){id:Nat}{e:TypeId}{sz n m:Nat}{aC els':List PV}{v v':Value}(hi:σ[id]?=some (.row e sz true aC))(hv:vals[id]?=some v){cells:List Value}(ha:FK w cx.own e sz v n m cells v' w')
 (hn:n+m=els'.length) (hl:∀x∈els',x.cells.length=sz) (h1:∀c∈els'.flatMap PV.cells,c.one=true) (sH:bS (Ok cx σ vals w) w (els'.flatMap PV.cells) cells):
 dH cx (σ.set id .dead++[.row e sz true els']) (vals++[v']) w'/\ct cx σ vals w (σ.set id .dead++[.row e sz true els']) (vals++[v']) w':=by
 obtain⟨eh,hg,rR⟩:=ha;have aU:=(zaa.1 hi).1;have tZ:=hr.sV id _ _ hi hv;have mD:0<sz:=tZ.1;have y9:∀p,v≠.pointer p:=by
  obtain⟨_,c0,h,_⟩:=tZ;rcases h.2 with⟨rfl,_⟩|⟨_,_,_,_,rfl,_⟩<;>simp
 have kR:v'.oneCell'=true:=aiP;have lM:∀b,bl v=some b->WB σ vals b:=λb h=>⟨id,_,v,hi,rfl,hv,h⟩
 have get:∀j s,(σ.set id dC.dead++[dC.row e sz true els'])[j]?=some s->(j=σ.length/\s=.row e sz true els')\/(j<σ.length/\j≠id/\σ[j]?=some s)\/s=.dead:=by
  intro j s h;rw[gG,za0]at h;split at h
  ·rename_i hj;exact .inl ⟨hj,by cases h;rfl⟩
  ·rw[nZ aU]at h;split at h
   ·cases h;exact .inr (.inr rfl)
   ·rename_i hj;exact .inr (.inl ⟨(zaa.1 h).1,λh=>hj h.symm,h⟩)
 have avn:∀j u,j<σ.length->(vals++[v'])[j]?=some u->vals[j]?=some u:=by
  intro j u hj h;rw[gG,hr.len,if_neg ab]at h;exact h
 have ayj:∀u,(vals++[v'])[σ.length]?=some u->u=v':=by
  intro u h;rw[gG,hr.len,if_pos rfl]at h;cases h;rfl
 have abU:∀b,WB (σ.set id .dead++[.row e sz true els']) (vals++[v']) b->WB σ vals b\/w.heap.size<=b:=by
  rintro b ⟨j,s,u,g1,g2,g3,g4⟩;rcases get j s g1 with⟨rfl,rfl⟩|⟨hj,_,hs⟩|rfl
  ·rw[ayj u g3]at g4;rcases rR b g4 with h|h
   ·exact .inl (lM b h)
   ·exact .inr h
  ·exact .inl ⟨j,s,u,hs,g2,avn j u hj g3,g4⟩
  ·cases g2
 have hk:ct cx σ vals w (σ.set id .dead++[.row e sz true els']) (vals++[v']) w':=by
  refine⟨λi u h=>?_,aj,λb h=>⟨h.1,zae h.2.1 hg.size,λhm=>?_⟩,λb h=>hg.block b h.2.1 (λhe=>h.2.2 (lM b ((Mm y9).2 he.symm))),λi Vp e2 y8 tc abR h=>?_,λi Vp s2 h t_=>?_⟩
  ·rw[gG,if_neg (by have:=(zaa.1 h).1;omega)];exact h
  ·rcases abU b hm with h'|h'
   ·exact h.2.2 h'
   ·have:=h.2.1;omega
  ·rcases get i _ h with⟨hj,_⟩|⟨_,_,hs⟩|hd
   ·omega
   ·exact⟨tc,abR,hs⟩
   ·cases hd
  ·rcases get i _ h with⟨hj,_⟩|⟨_,_,hs⟩|hd
   ·omega
   ·exact⟨s2,hs,t_⟩
   ·subst hd;cases t_
 have pe:Fr cx (σ.set id .dead++[.row e sz true els']) (vals++[v']) w':=⟨zan hr.fr.size hg.size,λb hb=>(hg.block b (zae (cx.hk b hb) hr.fr.size) (λhe=>hr.fr.I1 b (lM b ((Mm y9).2 he.symm)) hb)).trans (hr.fr.same b hb),λb hm sQ=>by
  rcases abU b hm with hm|hm
  ·exact hr.fr.I1 b hm sQ
  ·have:=cx.hk b sQ;have:=hr.fr.size;omega⟩
 refine⟨⟨hr.below.grown hg (λk h=>(tZ.block rfl ((Mm y9).2 h)).1),λu hu=>aij,by simp[hr.len],λi s u g1 g2=>?_,λi j s1 s2 u1 u2 b zk g1 g2 g3 g4 g5 g6 g7=>?_,pe,hr.pin.keep hk⟩,hk⟩
 ·rcases get i s g1 with⟨rfl,rfl⟩|⟨hj,dI,hs⟩|rfl
  ·rw[ayj u g2];exact⟨mD,cells,hn▸eh,hl,h1,hk.sI sH⟩
  ·have hu:=avn i u hj g2;refine hk.rb (hr.sV i s u hs hu) (λhlv b hb=>hg.block b ((hr.sV i s u hs hu).block hlv hb).2 (λhe=>?_));exact hr.Xl i id s _ u v b dI hs hi hlv rfl hu hv hb ((Mm y9).2 he.symm)
  ·trivial
 ·intro g8;rcases get i s1 g1 with⟨rfl,rfl⟩|⟨ud,aJY,lX⟩|rfl
  ·rw[ayj u1 g5]at g7;rcases get j s2 g2 with⟨rfl,rfl⟩|⟨hj,dI,hs⟩|rfl
   ·exact zk rfl
   ·have hu:=avn j u2 hj g6;rcases rR b g7 with h|h
    ·exact hr.Xl j id s2 _ u2 v b dI hs hi g4 rfl hu hv g8 h
    ·have:=((hr.sV j s2 u2 hs hu).block g4 g8).2;omega
   ·cases g4
  ·have ov:=avn i u1 ud g5;rcases get j s2 g2 with⟨rfl,rfl⟩|⟨hj,dI,hs⟩|rfl
   ·rw[ayj u2 g6]at g8;rcases rR b g8 with h|h
    ·exact hr.Xl i id s1 _ u1 v b aJY lX hi g3 rfl ov hv g7 h
    ·have:=((hr.sV i s1 u1 lX ov).block g3 g7).2;omega
   ·exact hr.Xl i j s1 s2 u1 u2 b zk lX hs g3 g4 ov (avn j u2 hj g6) g7 g8
   ·cases g4
  ·cases g3
def QE(w:World)(B:Nat->Prop)(e:TypeId)(sz:Nat)(ap:Bool):Jp w B e sz ap (.slice none 0 0) 0 []:=⟨aj,.inl ⟨rfl,rfl⟩⟩
def aiU{K:AV->aF->Prop}(hr:Rel cx env σ vals a w)(e:TypeId)(ie:TypeInfo)(zv:Value)(x:Operand)(ys:List PV)(news:List Value)(Ct:cx.P.info? e=some ie)(gH:zv.cells.size=ie.size)(mD:0<ie.size)
 (hl:∀y∈ys,y.cells.length=ie.size) (h1:∀c∈ys.flatMap PV.cells,c.one=true) (sH:bS (Ok cx σ vals w) w (ys.flatMap PV.cells) news)
 (cL:∀(v:Value) (n:Nat) (xs:List Value),a.eval x=v->Jp w cx.own e ie.size true v n xs->n+ys.length<=maxLen->(n+ys.length)*ie.bytes<=140737488355328->
   ∃v' w',(execOp a.eval o).run cx.P w=.ok (.value v') w'/\FK w cx.own e ie.size v n ys.length (xs++news) v' w')
 (hK:alB σ e ie.size ie.bytes (bK env x) ys K):Out cx env a w o K:=by
 have hx:=hr.ev x;cases sO:bK env x with
 |pv p=>
  rw[sO]at hK hx;simp only[RA]at hx;cases p with
  |nil s=>
   obtain⟨⟨hb,hm⟩,hk⟩:=hK;obtain⟨v',w',ic,eh,hg,hf⟩:=cL _ 0 [] hx (QE w _ e ie.size true) (by simp only[maxLen];omega) bf;simp only[zaV,zaZ]at eh;refine Ht hr e ie.size true ys w' ⟨hg.os,hg.tape,hg.output,hg.size,λk hk=>hg.block k hk (by simp[Value.ownBlock])⟩ v' ic (λb h=>?_) mD news eh hl h1 sH hk;rcases hf b h with h|h
   ·cases h
   omega
  |_=>trivial
 |own id=>
  rw[sO]at hK hx;simp only[RA]at hx;obtain⟨b,hb,hk⟩:=aS σ id _ hK;cases b with
  |row e' s ap aC=>
   cases ap with
   |false=>grind
   |true=>
    cases h2:Nat.beq s ie.size with
    |false=>grind
    |true=>
     cases h3:Nat.beq e' e with
     |false=>grind
     |true=>
      simp only[h2,h3]at hk;have:=zab h2;subst this;have:=zab h3;subst this;obtain⟨⟨G1,t_⟩,hk⟩:=hk;obtain⟨_,hk⟩:=fS _ _ _ _ hk;have hk:=cN _ _ _ (gV _ _ hk);have tZ:=hr.s.sV id _ _ hb hx;obtain⟨_,cells,g1,g2,g3,g4⟩:=tZ;obtain⟨v',w',ic,ha⟩:=cL _ aC.length cells rfl g1 aA G1;obtain⟨hs,sQ⟩:=hr.s.app hb hx ha (els':=aC++ys) aj (λx hx=>bf)
       (λc hc=>bf) (by rw[zaz];exact(eG _ _ _).2 ⟨_,_,rfl,g4,sH⟩)
      refine Out.run ic (hr.keep hs sQ) (av:=.own (σ.set id .dead).length) ?_ hk;rw[za0];simp only[RA];rw[gG,if_pos hr.s.len.symm]
  |_=>grind
 |_=>rw[sO]at hK;trivial
def axl{K:AV->aF->Prop}(hr:Rel cx env σ vals a w)(t e:TypeId)(ie:TypeInfo)(z:PV)(x y:Operand)(c:Call)(ho:o.op=.call c)(hc:c.callee=.builtin .append)(cP:c.args.toList=[x,y])(IF:c.argTypes.toList=[t,t])
 (hu:cx.P.underlying t=some (.slice e)) (Ct:cx.P.info? e=some ie) (hz:gQ cx.P e=some z) (Jd:z.cells.length=ie.size) (mD:0<ie.size)
 (hK:Ef σ (bK env y) λs ys=>match Nat.beq s ie.size with
   |true=>alB σ e ie.size ie.bytes (bK env x) ys K
   |false=>False):Out cx env a w o K:=by
 obtain⟨i,zv,hi,gX,_,h2,_⟩:=yc hz;rw[Ct]at hi;cases hi;have gH:zv.cells.size=ie.size:=QW;obtain⟨s,ys,⟨ad,cc,hv,hle,_,ly⟩,hK⟩:=FT hr.s (hr.ev y) hK;have je:c.args= #[x,y]:=bf;have abV:c.argTypes= #[t,t]:=bf;cases hs:Nat.beq s ie.size with
 |false=>grind
 |true=>
  rw[hs]at hK;have:=zab hs;subst this;obtain⟨news,eK,sH,h1,hl,IG⟩:∃news:List Value,news.length=ys.length*ie.size/\bS (Ok cx σ vals w) w (ys.flatMap PV.cells) news/\(∀c∈ys.flatMap PV.cells,c.one=true)/\(∀y∈ys,y.cells.length=ie.size)/\
   (ys.length=0∨∃a,ad=some a∧∀(j:Nat) (u:Value),news[j]?=some u->w.cell? (a.add j)=some u):=by
   rcases ly with rfl|⟨b,o',rfl,ly⟩
   ·exact⟨[],aj,by rfl,aj,aj,.inl rfl⟩
   ·obtain⟨g1,g2⟩:=(tq b _ ys o').1 ly;obtain⟨g3,us,g4,g5⟩:=(ER b _ o').1 g2;exact⟨us,by rw[g4.length,fv _ _ g1],g4,g3,g1,.inr ⟨_,rfl,λj u hj=>by rw[ik];grind⟩⟩
  have kR:∀u∈news,u.oneCell'=true:=by
   intro u hu;obtain⟨j,hj⟩:=zaE.1 hu;have HQ:j<(ys.flatMap PV.cells).length:=by rw[<-sH.length];grind
   have hc:=zah HQ;exact(((uo _ _).1 sH).2 j _ u hc hj).L5 (h1 _ (zag hc))
  refine aiU hr e ie zv x ys news Ct gH mD hl h1 sH (λv n xs Ut eh hm hb=>?_) hK;obtain⟨v',w',cL,ha⟩:=aqH (P:=cx.P) cx.own t o.type e ie zv hu Ct gX gH v n xs eh ad ys.length cc hle news eK IG kR hm hb (cx.eh _ hr.s.below.size);exact⟨v',w',by simp[execOp,ho,resolve,hc,invoke,builtin,je,abV,hv,Ut,cL],ha⟩
def aub{K:AV->aF->Prop}(hr:Rel cx env σ vals a w)(t u e:TypeId)(ie:TypeInfo)(z:PV)(x y:Operand)(c:Call)(ho:o.op=.call c)(hc:c.callee=.builtin .append)(cP:c.args.toList=[x,y])(IF:c.argTypes.toList=[t,u])
 (hu:cx.P.underlying t=some (.slice e)) (gx:cx.P.underlying u=some .string) (Ct:cx.P.info? e=some ie) (hz:gQ cx.P e=some z) (Jd:z.cells.length=ie.size) (mD:ie.size=1)
 (hK:match bK env y with
   | .pv y=>match y with
    | .str l=>alB σ e 1 ie.bytes (bK env x) (l.map aL) K
    |_=>False
   |_=>False):Out cx env a w o K:=by
 obtain⟨i,zv,hi,gX,_,h2,_⟩:=yc hz;rw[Ct]at hi;cases hi;have gH:zv.cells.size=ie.size:=QW;have je:c.args= #[x,y]:=bf;have abV:c.argTypes= #[t,u]:=bf;have hy:=hr.ev y
 revert hK hy
 cases bK env y with
 |pv p=>
  cases p with
  |str l=>
   intro hK hy;simp only[RA,Rd]at hy;have hlen:(l.map aL).length=(⟨l.toArray⟩:ByteArray).size:=Lh;refine aiU hr e ie zv x (l.map aL) (strCells ⟨l.toArray⟩) Ct gH ab ?_ ?_ ?_ (λv n xs Ut eh hm hb=>?_) bf
   ·intro y hy;rw[zaX]at hy;obtain⟨b,_,rfl⟩:=hy;rw[mD];rfl
   ·rw[l_];intro c hc;rw[zaX]at hc;obtain⟨b,_,rfl⟩:=hc;rfl
   ·rw[l_,EJ];rfl
   ·rw[hlen]at hm hb ⊢;obtain⟨v',w',cL,ha⟩:=ams (P:=cx.P) cx.own t u o.type e ie zv hu gx Ct gX gH mD v n xs eh ⟨_⟩ hm hb (cx.eh _ hr.s.below.size);exact⟨v',w',by simp[execOp,ho,resolve,hc,invoke,builtin,je,abV,hy,Ut,cL],ha⟩
  |_=>simp
 |_=>simp
end
end
end Go.Dv
namespace Go.Dv
open Go.RowKit
section
section
variable {cx:Cx} {env:Env} {σ:aF} {vals:List Value} {a:Act} {w w':World} {o:Oper}
def Oz(P:Program)(g off:Nat)(e:TypeId)(fr:Nat×Nat):∀(vs:List Value) (i:Nat) (cur:Array Value) (w:World),w.heap[g]?=some (.cells cur e fr)->off+i+vs.length<=cur.size->(fr=(0,0)\/cur.size<=fr.1)->(∀v∈vs,v.oneCell'=true)->
 ∃w' SG,(storeCells ⟨g,off,none⟩ vs i).run P w=.ok () w'/\w'.heap[g]?=some (.cells SG e fr)/\SG.toList=cur.toList.take (off+i)++vs++cur.toList.drop (off+i+vs.length)/\
  (∀b,b≠g->w'.heap[b]?=w.heap[b]?)/\w'.heap.size=w.heap.size/\w'.os=w.os/\w'.tape=w.tape/\w'.output=w.output:=by
 intro vs
 induction vs with
 |nil=>intro i cur w hg _ _ _;exact⟨w,cur,by simp[storeCells],hg,aj,λ_ _=>rfl,rfl,rfl,rfl,rfl⟩
 |cons v vs ih=>
  intro i cur w hg hle pe h1;simp only[zam]at hle;have hc:w.cell? ⟨g,off+i,none⟩=some cur[off+i]:=by simp[World.cell?,hg,show off+i<cur.size from by omega]
  have hf:w.frozen? ⟨g,off+i,none⟩=false:=by
   simp only[World.frozen?,hg];rcases pe with rfl|h
   ·simp
   ·simp;omega
  have fM:(store ((⟨g,off,none⟩:Addr).add i) v).run P w=.ok () (w.setCell ⟨g,off+i,none⟩ v):=by
   rw[ik,run_store P w _ v _ (h1 v aj)];simp[hc,hf]
  have mU:(w.setCell ⟨g,off+i,none⟩ v).heap[g]?=some (.cells (cur.setIfInBounds (off+i) v) e fr):=by
   obtain⟨aU,hv⟩:=zap.1 hg;simp only[World.setCell];rw[zaG (by simpa using aU),Array.getElem_modify_self,hv];rfl
  obtain⟨w',SG,g1,g2,g3,g4,g5,g6,g7,g8⟩:=ih (i+1) (cur.setIfInBounds (off+i) v) (w.setCell ⟨g,off+i,none⟩ v) mU aH (by simpa using pe) (λu hu=>h1 u (by simp[hu]));refine⟨w',SG,?_,g2,?_,λb hb=>(g4 b hb).trans (Below.heap_setCell _ _ _ _ hb),by rw[g5];simp[World.setCell],by rw[g6];rfl,by rw[g7];rfl,by rw[g8];rfl⟩
  ·simp only[storeCells,Sem.run_bind,fM,Result.andThen_ok,g1]
  ·rw[g3,zaR,show off+(i+1)=off+i+1 from rfl,ajy _ _ _ aH,set_drop _ _ _ _ ab];simp[zaJ,Nat.add_comm,zbb]
def dC.aCc:dC->dC->Prop
 | .row e sz _ _,.row e' mM _ _=>e=e'/\sz=mM
 | .box _ _,.box _ _=>True
 |_,_=>False
def dH.write(hr:dH cx σ vals w){id g:Nat}{s s':dC}{u:Value}(hi:σ[id]?=some s)(hl:s.live=true)(cK:s'.live=true)(hs:dC.aCc s s')(hu:vals[id]?=some u)(hg:bl u=some g)
 (zZ:∀b,b≠g->w'.heap[b]?=w.heap[b]?) (DI:w'.heap.size=w.heap.size) (uK:w'.os=w.os) (aGy:w'.tape=w.tape) (avo:w'.output=w.output)
 (hb:ct cx σ vals w (σ.set id s') vals w'->RB cx (σ.set id s') vals w' s' u):dH cx (σ.set id s') vals w'/\ct cx σ vals w (σ.set id s') vals w':=by
 have aU:=(zaa.1 hi).1;have Gr:=λj=>nZ (x:=s') aU j
 have abU:∀b,WB (σ.set id s') vals b->WB σ vals b:=by
  rintro b ⟨i,t,v,h1,h2,h3,h4⟩;rw[Gr]at h1;split at h1
  ·rename_i he;subst he;exact⟨id,s,v,hi,hl,h3,h4⟩
  ·exact⟨i,t,v,h1,h2,h3,h4⟩
 have dI:∀b,Ok cx σ vals w b->b≠g:=λb h he=>h.2.2 (he▸⟨id,s,u,hi,hl,hu,hg⟩)
 have hk:ct cx σ vals w (σ.set id s') vals w':=by
  refine⟨λ_ _ h=>h,aj,λb h=>⟨h.1,DI▸h.2.1,λhm=>h.2.2 (abU b hm)⟩,λb h=>zZ b (dI b h),λi _ e sz ap aC h=>?_,λi _ s2 h t_=>?_⟩
  ·rw[Gr]at h;split at h
   ·rename_i he;subst he;cases h;cases s<;>simp[dC.aCc]at hs;obtain⟨rfl,rfl⟩:=hs;exact⟨_,_,hi⟩
   ·exact⟨ap,aC,h⟩
  ·rw[Gr]at h;split at h
   ·rename_i he;subst he;cases h;refine⟨s,hi,?_⟩;cases s'<;>first|(cases cK;done)|(cases t_;done)|skip
    cases s<;>simp[dC.aCc]at hs;rfl
   ·exact⟨s2,h,t_⟩
 have avp:=(hr.sV id s u hi hu).block hl hg;have pe:Fr cx (σ.set id s') vals w':=⟨by rw[DI];exact hr.fr.size,λb hb=>(zZ b (λhe=>hr.fr.I1 b (he▸⟨id,s,u,hi,hl,hu,hg⟩) hb)).trans (hr.fr.same b hb),λb hm=>hr.fr.I1 b (abU b hm)⟩
 refine⟨⟨⟨uK.trans hr.below.os,aGy.trans hr.below.tape,avo.trans hr.below.output,by rw[DI];exact hr.below.size,λk hk ho=>(zZ k (λe=>ho (e▸avp.1))).trans (hr.below.block k hk ho)⟩,hr.one,by simp[hr.len],λi t v h1 h2=>?_,λi j t1 t2 u1 u2 b zk h1 h2 h3 h4 h5 h6 h7=>?_,pe,hr.pin.keep hk⟩,hk⟩
 ·rw[Gr]at h1;split at h1
  ·rename_i he;subst he;cases h1;rw[hu]at h2;cases h2;exact hb hk
  ·rename_i he;exact hk.rb (hr.sV i t v h1 h2) (λhlv b y_=>zZ b (λuV=>hr.Xl i id t s v u b (λh=>he h.symm) h1 hi hlv hl h2 hu y_ (by rw[hg,uV])))
 ·rw[Gr]at h1 h2;have real:∀i t,(if id=i then some s' else σ[i]?)=some t->t.live=true→∃t',σ[i]?=some t'/\t'.live=true:=by
   intro i t h hlv;split at h
   ·rename_i he;subst he;exact⟨s,hi,hl⟩
   ·exact⟨t,h,hlv⟩
  obtain⟨uW,g1,g2⟩:=real i t1 h1 h3;obtain⟨u5,g3,g4⟩:=real j t2 h2 h4;exact hr.Xl i j uW u5 u1 u2 b zk g1 g3 g2 g4 h5 h6 h7
def fY.Qx(hr:dH cx σ vals w):∀(l:List AV) (vs:List Value),fY (Ok cx σ vals w) σ vals w l vs->(∀c∈l,c.one=true)→∀v∈vs,v.oneCell'=true:=by
 intro l
 induction l with
 |nil=>intro vs h _ v hv;simp only[fY]at h;subst h;cases hv
 |cons c l ih=>
  intro vs h h1 v hv;simp only[fY]at h;obtain⟨u,r,rfl,h3,h4⟩:=h;rcases zax.1 hv with rfl|hv
  ·have hc:=h1 c aj;cases c with
   |pv x=>simp only[RA]at h3;exact h3.L5 hc
   |own id=>simp only[RA]at h3;exact hr.one _ (zag h3)
   |ref id idx off=>simp only[RA]at h3;obtain⟨_,⟨ad,rfl⟩,_⟩:=h3;rfl
   |clo f jh=>simp only[RA]at h3;obtain⟨cv,rfl,_⟩:=h3;rfl
   |sub id sz lo n=>simp only[RA]at h3;obtain⟨_,ad,c,rfl,_⟩:=h3;rfl
   |_=>cases hc
  ·exact ih r h4 (λd hd=>h1 d yf) v hv
def bS.Qx{ok:Nat->Prop}{l:List PV}{vs:List Value}(h:bS ok w l vs)(h1:∀c∈l,c.one=true):∀v∈vs,v.oneCell'=true:=by
 intro v hv;obtain⟨j,hj⟩:=zaE.1 hv;have HQ:j<l.length:=by rw[<-h.length];exact(zaa.1 hj).1
 have hc:=zah HQ;exact(((uo _ _).1 h).2 j _ v hc hj).L5 (h1 _ (zag hc))
def Vk{P:Program}{t:TypeId}{i:TypeInfo}(hi:P.info? t=some i)(v:Value)(mD:v.cells.size=i.size)(b off:Nat):
 (Instr.storeAt t (.pointer (some ⟨b,off,none⟩)) v).run P w=(storeCells ⟨b,off,none⟩ v.cells.toList).run P w:=by
 simp[Instr.storeAt,Instr.sureAddr,storeVar,sizeOf,typeInfo,hi,mD]
def ahx{y:PV}{cs:List PV}{K:PV->Prop}(h:akT y cs K)(hy:∀l,y≠.tup l)(h1:∀c∈cs,c.one=true):∃y',K y'/\y'.cells=cs:=by
 cases y with
 |agg l=>exact⟨_,h,rfl⟩
 |tup l=>exact(hy l rfl).elim
 |_=>
  cases cs with
  |nil=>exact h.elim
  |cons c cs=>
   cases cs with
   |nil=>exact⟨c,h,by have:=h1 c aj;cases c<;>first|rfl|cases this⟩
   |cons _ _=>exact h.elim
def aqU{K:AV->aF->Prop}(hr:Rel cx env σ vals a w)(t:TypeId)(ti:TypeInfo)(x v:Operand)(ho:o.op=.store t x v)(nO:cx.P.info? t=some ti)
 (hK:aaL σ ti.size (bK env x) (bK env v) λσ=>K .bad σ):Out cx env a w o K:=by
 have hx:=hr.ev x;have hv:=hr.ev v;cases sO:bK env x with
 |ref id idx off=>
  rw[sO]at hK hx;simp only[RA]at hx;obtain⟨aU,_,ly,xe⟩:=hx;obtain⟨b,hb,hk⟩:=aS σ id _ hK;obtain⟨u,hu,tZ⟩:=hr.s.val hb;cases b with
  |box e cs=>
   obtain⟨u',g,gA,jA,O5⟩:=xe _ hb rfl;have hg:bl u'=some g:=by rw[jA];rfl
   obtain rfl:=getElem?_of hu gA;obtain⟨g',arr,h1,h2,h3,h4,h5⟩:=tZ;rw[h1]at hg;obtain rfl:g'=g:=by cases hg;rfl
   obtain⟨vs,⟨hlen,hk⟩,Ql,kR⟩:=KA hr.s hv hk;obtain⟨pre,mid,post,rfl,g1,g2,hk⟩:=uD vs cs off _ hk;obtain⟨_,hk⟩:=fS _ _ _ _ hk;have Ja:=Ql.length;have DI:(a.eval v).cells.size=ti.size:=by rw[<-zac,Ja,hlen]
   have UE:=h5.length;simp only[zad,zac]at UE;obtain⟨w',SG,f1,f2,f3,f4,f5,f6,f7,f8⟩:=Oz cx.P g' off e (0,0) (a.eval v).cells.toList 0 arr w h3 (by rw[Ja];omega) (.inl rfl) (fY.Qx hr.s _ _ Ql kR);obtain⟨hs,sQ⟩:=hr.s.write (s':=.box e (pre++vs++post)) hb rfl rfl trivial hu (by rw[h1];rfl) f4 f5 f6 f7 f8 (λsQ=>by
    refine⟨g',SG,h1,h2,f2,?_,?_⟩
    ·intro c hc;simp only[zaA]at hc;rcases hc with(hc|hc)|hc
     ·exact h4 c ql
     ·exact kR c hc
     ·exact h4 c ql
    ·obtain⟨v1,v3,qR,r1,r3⟩:=(gE _ _ _).1 h5;obtain⟨v1,v2,rfl,r1,r2⟩:=(gE _ _ _).1 r1;have e1:arr.toList.take (off+0)=v1:=by rw[qR,zaM,zaj];exact zaH (by rw[r1.length,g1])
     have e2:arr.toList.drop (off+0+(a.eval v).cells.toList.length)=v3:=by
      rw[qR];exact zaO (by rw[zad,r1.length,r2.length,Ja];omega)
     rw[f3,e1,e2];exact(gE _ _ _).2 ⟨_,_,rfl,(gE _ _ _).2 ⟨_,_,rfl,sQ.kZ _ _ r1,sQ.kZ _ _ Ql⟩,sQ.kZ _ _ r3⟩)
   refine Out.skip ?_ (hr.keep hs sQ) hk;simp[execOp,ho,O5,Vk nO _ DI,f1]
  |row e sz ap aC=>
   obtain⟨x1,AP,_,_,WR⟩:=ad4 hr.s _ _ _ hv hk;obtain⟨x2,σ1,rfl,O6,oC,lX,aCS,rT,_⟩:=Jm _ σ σ _ (λz=>z=x1) _ (Fz.refl σ) hr.s hv (WR _ rfl) AP;have Gw:=hr.keep lX aCS;obtain⟨b1,G1,E4⟩:=aS σ1 id _ O6;cases b1 with
   |row e1 ib n4 Cu=>
    obtain⟨y,hy,Pd,u6⟩:=E4;obtain⟨pre,mid,post,XL,g1,g2,u9⟩:=uD _ _ off _ u6;have ov:vals[id]?=some u:=hu;have aJ2:=lX.sV id _ _ G1 ov;obtain⟨mD,cells,eh,hl,kR,sH⟩:=aJ2;have zZ:e1=e/\ib=sz/\n4=ap/\Cu=aC:=by
     rcases oC id with h|⟨_,_,_,_,_,h⟩
     ·rw[h,hb]at G1;cases G1;exact⟨rfl,rfl,rfl,rfl⟩
     ·rw[h]at G1;cases G1
    obtain⟨rfl,rfl,rfl,rfl⟩:=zZ;obtain⟨u',g,gA,hg,O5⟩:=ly _ _ _ _ hb;obtain rfl:=getElem?_of hu gA;have avq:=(zaa.1 hy).1;have azq:=zag hy;have aCT:Cu=Cu.take idx++y::Cu.drop (idx+1):=by
     have:=List.getElem_cons_drop avq;rw[(zaa.1 hy).2]at this;rw[this,zaD]
    have aGz:=aek _ _ Pd x2 aj;obtain⟨rM,avr⟩:=Ys rT aGz.2;have avs:∀c∈y.cells,c.one=true:=λc hc=>kR c (List.mem_flatMap.2 ⟨y,azq,hc⟩)
    have u_:∀l,y≠.tup l:=by
     rintro l rfl;have:=avs (.tup l) (by simp[PV.cells]);cases this
    have aCU:∀c∈pre++x2.cells++post,c.one=true:=by
     intro c hc;simp only[zaA]at hc;rcases hc with(hc|hc)|hc
     ·exact avs c (by rw[XL];simp[hc])
     ·exact avr c hc
     ·exact avs c (by rw[XL];simp[hc])
    obtain⟨y',vb,cn⟩:=ahx u9 u_ aCU;obtain⟨_,F1⟩:=fS _ _ _ _ vb;have LO:Cu.set idx y'=Cu.take idx++y'::Cu.drop (idx+1):=by
     rw[List.set_eq_take_append_cons_drop,if_pos avq]
    have ve:y.cells.length=ib:=hl y azq;have aJ4:y'.cells.length=ib:=by rw[cn,<-ve,XL];simp[g2]
    have hT:((Cu.take idx).flatMap PV.cells).length=idx*ib:=by
     rw[fv ib _ (λz hz=>hl z (zaL hz)),zal,zat (Nat.le_of_lt avq)]
    have qY:Cu.flatMap PV.cells=((Cu.take idx).flatMap PV.cells++pre)++mid++(post++(Cu.drop (idx+1)).flatMap PV.cells):=by
     conv=>lhs;rw[aCT]
     rw[zaz,zao,XL];simp[zaj]
    have Fy:(Cu.set idx y').flatMap PV.cells=((Cu.take idx).flatMap PV.cells++pre)++x2.cells++(post++(Cu.drop (idx+1)).flatMap PV.cells):=by
     rw[LO,zaz,zao,cn];simp[zaj]
    rw[qY]at sH;obtain⟨vq,c3,Gp,Pz,r3⟩:=(eG _ _ _).1 sH;obtain⟨c1,c2,rfl,r1,r2⟩:=(eG _ _ _).1 Pz;have Oi:c1.length=idx*ib+off:=by rw[r1.length,zad,hT,g1]
    have Cw:c2.length=x2.cells.length:=by rw[r2.length,g2]
    have Ja:=rM.length;have DI:(a.eval v).cells.size=ti.size:=by rw[<-zac,Ja,aGz.1]
    rcases eh with⟨mE,⟨_,h0⟩|⟨gg,cap,cur,fr,h1,h2,h3,h4,h5,h6,h7,h8⟩⟩
    ·rw[h0]at avq;omega
    ·rw[h1]at hg;obtain rfl:gg=g:=by cases hg;rfl
     have aJ6:Cu.length*ib<=cur.size:=by rw[h6];exact zaF _ h4
     have jB:idx*ib+off+(a.eval v).cells.toList.length<=Cu.length*ib:=by
      have:(c1++c2++c3).length=Cu.length*ib:=by rw[<-Gp,mE]
      rw[zad,zad,Oi,Cw]at this;omega
     obtain⟨w',SG,f1,f2,f3,f4,f5,f6,f7,f8⟩:=Oz cx.P gg (idx*ib+off) e1 fr (a.eval v).cells.toList 0 cur w h3 ab (h8.imp (λh=>h) λh=>h.2) (bS.Qx rM avr);have abW:cur.toList=(c1++c2++c3)++cur.toList.drop (Cu.length*ib):=by
      rw[<-Gp,<-h7,zaD]
     have akq:SG.toList=(c1++(a.eval v).cells.toList++c3)++cur.toList.drop (Cu.length*ib):=by
      rw[f3,zaM];have e1:cur.toList.take (idx*ib+off)=c1:=by
       rw[abW,zaj,zaj];exact zaH Oi
      have e2:cur.toList.drop (idx*ib+off+(a.eval v).cells.toList.length)=c3++cur.toList.drop (Cu.length*ib):=by
       conv=>lhs;rw[abW]
       rw[zaj];exact zaO (by rw[zad,Oi,Cw,Ja])
      rw[e1,e2];simp[zaj]
     have eK:(Cu.set idx y').length=Cu.length:=za0;obtain⟨hs,sQ⟩:=lX.write (s':=.row e1 ib n4 (Cu.set idx y')) G1 rfl rfl ⟨rfl,rfl⟩ ov (by rw[h1];rfl) f4 f5 f6 f7 f8 (λsQ=>by
      have avu:SG.size=cur.size:=by
       have e1:=congrArg List.length akq;have e2:=congrArg List.length abW;simp only[zad,zac,Ja,Cw]at e1 e2;omega
      refine⟨mD,c1++(a.eval v).cells.toList++c3,⟨?_,.inr ⟨gg,cap,SG,fr,by rw[eK];exact h1,h2,f2,by rw[eK];exact h4,h5,by rw[avu,h6],?_,by rw[avu];exact h8⟩⟩,?_,?_,?_⟩
      ·rw[eK,<-mE,Gp];simp only[zad,Ja,Cw]
      ·rw[eK,akq];refine zaH ?_;rw[<-mE,Gp];simp only[zad,Ja,Cw]
      ·intro z hz;rcases List.mem_or_eq_of_mem_set hz with hz|rfl
       ·exact hl z hz
       ·exact aJ4
      ·intro c hc;rw[Fy]at hc;rw[qY]at kR;simp only[zaA]at hc kR;rcases hc with((hc|hc)|hc)|hc
       ·exact kR c (.inl (.inl (.inl hc)))
       ·exact kR c (.inl (.inl (.inr hc)))
       ·exact avr c hc
       ·exact kR c (.inr hc)
      ·rw[Fy];exact(eG _ _ _).2 ⟨_,_,rfl,(eG _ _ _).2 ⟨_,_,rfl,sQ.sI r1,sQ.sI rM⟩,sQ.sI r3⟩)
     refine Out.skip ?_ (Gw.keep hs sQ) F1;simp[execOp,ho,O5,Vk nO _ DI,f1]
   |_=>exact E4.elim
  |_=>exact hk.elim
 |_=>rw[sO]at hK;exact hK.elim
end
end
end Go.Dv
namespace Go.Dv
open Go.RowKit
section
section
variable {cx:Cx} {env:Env} {σ:aF} {vals:List Value} {a:Act} {w w':World}
def ad8(n:Nat)(l:List Nat)(h:afB n l=false):n∉l:=by
 induction l with
 |nil=>simp
 |cons a l ih=>
  have h':Bool.rec (afB n l) true (Nat.beq a n)=false:=h;cases hb:Nat.beq a n with
  |true=>rw[hb]at h';cases h'
  |false=>
   rw[hb]at h';intro hm;rcases zax.1 hm with rfl|hm
   ·simp at hb
   ·exact ih h' hm
def Uj{n:Nat}{l:List Nat}{K:List Nat->Prop}(hl:l.Nodup)(h:ahX n l K):∃l',K l'/\l'.Nodup/\l<+:l':=by
 unfold ahX at h;cases hb:afB n l with
 |true=>rw[hb]at h;exact A7
 |false=>
  rw[hb]at h;refine⟨_,cN _ _ _ h,?_,List.prefix_append _ _⟩;rw[List.nodup_append];exact⟨hl,aj,λa ha b Cs=>by
   simp at Cs;subst Cs;exact λe=>ad8 _ _ hb (e▸ha)⟩
def aaG:∀(a:AV) (l:List Nat) (K:List Nat->Prop),l.Nodup->anT a l K→∃l',K l'/\l'.Nodup/\l<+:l':=by
 intro a;refine AV.rec (motive_1:=λa=>∀(l:List Nat) (K:List Nat->Prop),l.Nodup->anT a l K→∃l',K l'/\l'.Nodup/\l<+:l')
  (motive_2:=λaLq=>∀(l:List Nat) (K:List Nat->Prop),l.Nodup->(AV.rec_1 (motive_1:=λ_=>List Nat->(List Nat->Prop)->Prop) (motive_2:=λ_=>List Nat->(List Nat->Prop)->Prop)
    (λl K=>K l) (λ_ l K=>K l) (λid l K=>ahX id l K) (λid _ _ l K=>ahX id l K) (λid _ _ _ l K=>ahX id l K)
    (λ_ ih l K=>ih l K) (λ_ ih l K=>ih l K) (λ_ _ ih l K=>ih l K) (λl K=>K l) (λ_ _ h t l K=>h l λl=>t l K) aLq:List Nat->(List Nat->Prop)->Prop) l K→∃l',K l'/\l'.Nodup/\l<+:l')
  ?_ ?_ ?_ ?_ ?_ ?_ ?_ ?_ ?_ ?_ a
 ·intro l K hl h;exact A7
 ·intro x l K hl h;exact A7
 ·intro id l K hl h;exact Uj hl h
 ·intro id _ _ l K hl h;exact Uj hl h
 ·intro id _ _ _ l K hl h;exact Uj hl h
 ·intro cs ih l K hl h;exact ih l K hl h
 ·intro cs ih l K hl h;exact ih l K hl h
 ·intro f cs ih l K hl h;exact ih l K hl h
 ·intro l K hl h;exact A7
 ·intro x xs h1 h2 l K hl h;obtain⟨l',h3,h4,h5⟩:=h1 l _ hl h;obtain⟨l2,h6,h7,h8⟩:=h2 l' K h4 h3;exact⟨l2,h6,h7,h5.trans h8⟩
def Kx(aLq:List AV):∀(l:List Nat) (K:List Nat->Prop),l.Nodup->abE aLq l K→∃l',K l'/\l'.Nodup/\l<+:l':=by
 induction aLq with
 |nil=>intro l K hl h;exact A7
 |cons a aLq ih=>
  intro l K hl h;obtain⟨l',h1,h2,h3⟩:=aaG a l _ hl h;obtain⟨l2,h4,h5,h6⟩:=ih l' K h2 h1;exact⟨l2,h4,h5,h3.trans h6⟩
def ai3(e:Env):∀(l:List Nat) (K:List Nat->Prop),l.Nodup->arX e l K→∃l',K l'/\l'.Nodup/\l<+:l':=by
 induction e with
 |nil=>intro l K hl h;exact A7
 |cons a aLq ih=>
  intro l K hl h;obtain⟨l',h1,h2,h3⟩:=aaG a.2 l _ hl h;obtain⟨l2,h4,h5,h6⟩:=ih l' K h2 h1;exact⟨l2,h4,h5,h3.trans h6⟩
def LN(σ:aF)(r:List Nat):∀(l:List Nat) (K:List Nat->Prop),l.Nodup->X_ σ r l K→∃l',K l'/\l'.Nodup/\l<+:l':=by
 induction r with
 |nil=>intro l K hl h;exact A7
 |cons i r ih=>
  intro l K hl h;obtain⟨b,h1,h2⟩:=aS _ _ _ h;cases b with
  |box e cs=>
   obtain⟨l',h3,h4,h5⟩:=Kx cs l _ hl h2;obtain⟨l2,h6,h7,h8⟩:=ih l' K h4 h3;exact⟨l2,h6,h7,h5.trans h8⟩
  |_=>exact ih l K hl h2
def Ly(n:Nat)(r:List Nat):∀(K:Nat->Prop),Kl n r K False→∃j,r[j]?=some n/\K j:=by
 induction r with
 |nil=>intro K h;exact h.elim
 |cons a r ih=>
  intro K h;have h':Bool.rec (Kl n r (λj=>K (Nat.succ j)) False) (K 0) (Nat.beq a n):=h;cases hb:Nat.beq a n with
  |true=>
   rw[hb]at h';exact⟨0,by simp[zab hb],h'⟩
  |false=>
   rw[hb]at h';obtain⟨j,h1,h2⟩:=ih _ h';exact⟨j+1,xO,h2⟩
mutual
def Ren(r:List Nat):AV->AV->Prop
 | .bad,y=>y=.bad
 | .pv x,y=>y=.pv x
 | .own i,y=>∃j,r[j]?=some i/\y=.own j
 | .ref i k o,y=>∃j,r[j]?=some i/\y=.ref j k o
 | .sub i s l n,y=>∃j,r[j]?=some i/\y=.sub j s l n
 | .agg cs,y=>∃ds,y=.agg ds/\kC r cs ds
 | .tup cs,y=>∃ds,y=.tup ds/\kC r cs ds
 | .clo f cs,y=>∃ds,y=.clo f ds/\kC r cs ds
def kC(r:List Nat):List AV->List AV->Prop
 |[],ys=>ys=[]
 |x::xs,ys=>∃y t,ys=y::t/\Ren r x y/\kC r xs t
end
def abF(r:List Nat):∀(a:AV) (K:AV->Prop),anH r a K→∃b,K b/\Ren r a b:=by
 intro a;refine AV.rec (motive_1:=λa=>∀K:AV->Prop,anH r a K→∃b,K b/\Ren r a b)
  (motive_2:=λaLq=>∀K:List AV->Prop,(AV.rec_1 (motive_1:=λ_=>(AV->Prop)->Prop) (motive_2:=λ_=>(List AV->Prop)->Prop)
    (λK=>K .bad) (λx K=>K (.pv x)) (λid K=>Kl id r (λj=>K (.own j)) False) (λid i o K=>Kl id r (λj=>K (.ref j i o)) False) (λid s l n K=>Kl id r (λj=>K (.sub j s l n)) False)
    (λ_ ih K=>ih λl=>K (.agg l)) (λ_ ih K=>ih λl=>K (.tup l)) (λf _ ih K=>ih λl=>K (.clo f l)) (λK=>K []) (λ_ _ h t K=>h λa=>t λl=>K (a::l)) aLq:(List AV->Prop)->Prop) K→∃bs,K bs/\kC r aLq bs)
  ?_ ?_ ?_ ?_ ?_ ?_ ?_ ?_ ?_ ?_ a
 ·intro K h;exact⟨_,h,by simp only[Ren]⟩
 ·intro x K h;exact⟨_,h,by simp only[Ren]⟩
 ·intro id K h;obtain⟨j,h1,h2⟩:=Ly _ _ _ h;exact⟨_,h2,ZK⟩
 ·intro id i o K h;obtain⟨j,h1,h2⟩:=Ly _ _ _ h;exact⟨_,h2,ZK⟩
 ·intro id s l n K h;obtain⟨j,h1,h2⟩:=Ly _ _ _ h;exact⟨_,h2,ZK⟩
 ·intro cs ih K h;obtain⟨bs,h1,h2⟩:=ih _ h;exact⟨_,h1,XR⟩
 ·intro cs ih K h;obtain⟨bs,h1,h2⟩:=ih _ h;exact⟨_,h1,XR⟩
 ·intro f cs ih K h;obtain⟨bs,h1,h2⟩:=ih _ h;exact⟨_,h1,XR⟩
 ·intro K h;exact⟨[],h,by simp only[kC]⟩
 ·intro x xs h1 h2 K h;obtain⟨b,h3,h4⟩:=h1 _ h;obtain⟨bs,h5,h6⟩:=h2 _ h3;exact⟨_,h5,by simp only[kC];exact⟨b,bs,rfl,h4,h6⟩⟩
def LG(r:List Nat)(aLq:List AV):∀(K:List AV->Prop),Zk r aLq K→∃bs,K bs/\kC r aLq bs:=by
 induction aLq with
 |nil=>intro K h;exact⟨[],h,by simp only[kC]⟩
 |cons x xs ih=>
  intro K h;obtain⟨b,h3,h4⟩:=abF r x _ h;obtain⟨bs,h5,h6⟩:=ih _ h3;exact⟨_,h5,by simp only[kC];exact⟨b,bs,rfl,h4,h6⟩⟩
def aiw(r:List Nat)(e:Env):∀(K:Env->Prop),auJ r e K→∃e',K e'∧∀p,Ren r (aE p e) (aE p e'):=by
 induction e with
 |nil=>intro K h;exact⟨[],h,λp=>by simp only[aE,Ren]⟩
 |cons x xs ih=>
  intro K h;obtain⟨b,h3,h4⟩:=abF r x.2 _ h;obtain⟨bs,h5,h6⟩:=ih _ h3;refine⟨_,h5,λp=>?_⟩;obtain⟨q,v⟩:=x;simp only[aE];cases Nat.beq q p with
  |true=>exact h4
  |false=>exact h6 p
def Gj(r:List Nat):dC->dC->Prop
 | .box e cs,t=>∃ds,t=.box e ds/\kC r cs ds
 |s,t=>t=s
def aiA(r:List Nat)(b:dC)(K:dC->Prop)(h:au3 r b K):∃t,K t/\Gj r b t:=by
 cases b with
 |box e cs=>
  obtain⟨ds,h1,h2⟩:=LG r cs _ h;exact⟨_,h1,ds,rfl,h2⟩
 |_=>exact⟨_,h,rfl⟩
def KB(σ:aF)(r l:List Nat):∀(K:aF->Prop),aap σ r l K→∃σ',K σ'/\σ'.length=l.length∧∀(j i:Nat),l[j]?=some i→∃s t,σ[i]?=some s/\σ'[j]?=some t/\Gj r s t:=by
 induction l with
 |nil=>intro K h;exact⟨[],h,rfl,λj i hj=>by simp at hj⟩
 |cons i l ih=>
  intro K h;obtain⟨s,h1,h2⟩:=aS _ _ _ h;obtain⟨t,h3,h4⟩:=aiA r s _ h2;obtain⟨σ',h5,h6,h7⟩:=ih _ h3;refine⟨_,h5,by simp[h6],λj i' hj=>?_⟩;cases j with
  |zero=>simp at hj;subst hj;exact⟨s,t,h1,rfl,h4⟩
  |succ j=>exact h7 j i' Gk
def Gj.OV{r:List Nat}{s t:dC}(h:Gj r s t):t.OV=s.OV:=by
 cases s with
 |box e cs=>obtain⟨ds,rfl,_⟩:=h;rfl
 |_=>cases h;rfl
def Gj.live{r:List Nat}{s t:dC}(h:Gj r s t):t.live=s.live:=by
 cases s with
 |box e cs=>obtain⟨ds,rfl,_⟩:=h;rfl
 |_=>cases h;rfl
mutual
def Ren.one{r:List Nat}:∀{x y:AV},Ren r x y->x.one=true->y.one=true
 | .pv x,y,h,hx=>by simp only[Ren]at h;rw[h];exact hx
 | .own i,y,h,_=>by simp only[Ren]at h;obtain⟨j,_,rfl⟩:=h;rfl
 | .bad,_,_,hx=>by cases hx
 | .ref _ _ _,y,h,_=>by simp only[Ren]at h;obtain⟨j,_,rfl⟩:=h;rfl
 | .sub _ _ _ _,y,h,_=>by simp only[Ren]at h;obtain⟨j,_,rfl⟩:=h;rfl
 | .clo _ _,y,h,_=>by simp only[Ren]at h;obtain⟨j,rfl,_⟩:=h;rfl
 | .agg _,_,_,hx=>by cases hx
 | .tup _,_,_,hx=>by cases hx
end
def Ren.aJp{r:List Nat}:∀{x y:AV},Ren r x y->y.one=true->x.one=true:=by
 intro x y h hy;cases x with
 |pv x=>simp only[Ren]at h;subst h;exact hy
 |own i=>rfl
 |ref _ _ _=>rfl
 |sub _ _ _ _=>rfl
 |clo _ _=>rfl
 |bad=>simp only[Ren]at h;subst h;exact hy
 |agg cs=>simp only[Ren]at h;obtain⟨ds,rfl,_⟩:=h;cases hy
 |tup cs=>simp only[Ren]at h;obtain⟨ds,rfl,_⟩:=h;cases hy
def kC.atD{r:List Nat}:∀{xs ys:List AV},kC r xs ys->(∀c∈ys,c.one=true)→∀c∈xs,c.one=true
 |[],ys,h,_=>by simp
 |x::xs,ys,h,hx=>by
  simp only[kC]at h;obtain⟨y,t,rfl,h1,h2⟩:=h;intro c hc;rcases zax.1 hc with rfl|hc
  ·exact h1.aJp (hx y aj)
  ·exact h2.atD (λc hc=>hx c ql) c hc
def kC.awx{r:List Nat}:∀{xs ys:List AV},kC r xs ys->(∀c∈xs,c.one=true)→∀c∈ys,c.one=true
 |[],ys,h,_=>by simp only[kC]at h;subst h;simp
 |x::xs,ys,h,hx=>by
  simp only[kC]at h;obtain⟨y,t,rfl,h1,h2⟩:=h;intro c hc;rcases zax.1 hc with rfl|hc
  ·exact h1.one (hx x aj)
  ·exact h2.awx (λc hc=>hx c ql) c hc
structure ap5(r:List Nat)(σ σ':aF)(vals aO:List Value):Prop where
 nodup:r.Nodup
 len:σ'.length=r.length
 sV:∀(j i:Nat),r[j]?=some i→∃s t,σ[i]?=some s/\σ'[j]?=some t/\Gj r s t
 axW:aO.length=r.length
 vals:∀(j i:Nat),r[j]?=some i->aO[j]?=vals[i]?∧∃v,vals[i]?=some v
mutual
def Ren.ra{r:List Nat}{σ':aF}{aO:List Value}(hA:ap5 r σ σ' vals aO){ok wj:Nat->Prop}(di:∀b,ok b->wj b):∀(x y:AV) (v:Value),Ren r x y->RA ok σ vals w x v->RA wj σ' aO w y v
 | .bad,y,v,h,_=>by simp only[Ren]at h;subst h;simp only[RA]
 | .pv x,y,v,h,hv=>by
  simp only[Ren]at h;subst h;simp only[RA]at hv ⊢;exact Rd.mono di (λ_ _ _=>rfl) x v hv
 | .own i,y,v,h,hv=>by
  simp only[Ren]at h;obtain⟨j,hj,rfl⟩:=h;simp only[RA]at hv ⊢;rw[(hA.vals j i hj).1];exact hv
 | .ref i k o,y,v,h,hv=>by
  simp only[Ren]at h;obtain⟨j,hj,rfl⟩:=h;simp only[RA]at hv ⊢;obtain⟨_,hp,h1,h2⟩:=hv;obtain⟨s,t,hs,ht,fM⟩:=hA.sV j i hj;refine⟨(zaa.1 ht).1,hp,λe sz ap aC he=>?_,λs2 he t_=>?_⟩
  ·rw[ht]at he;cases he;have:s=.row e sz ap aC:=by
    cases s with
    |box e cs=>obtain⟨ds,h,_⟩:=fM;cases h
    |_=>exact fM.symm
   subst this;rw[(hA.vals j i hj).1];exact h1 _ _ _ _ hs
  ·rw[ht]at he;cases he;rw[(hA.vals j i hj).1];exact h2 _ hs (by rw[<-fM.OV];exact t_)
 | .sub i s l n,y,v,h,hv=>by
  simp only[Ren]at h;obtain⟨j,hj,rfl⟩:=h;simp only[RA]at hv ⊢;obtain⟨s,t,hs,ht,fM⟩:=hA.sV j i hj;refine⟨(zaa.1 ht).1,?_⟩;rw[(hA.vals j i hj).1];exact hv.2
 | .agg cs,y,v,h,hv=>by
  simp only[Ren]at h;obtain⟨ds,rfl,h⟩:=h;simp only[RA]at hv ⊢;obtain⟨h1,vs,rfl,h2⟩:=hv;exact⟨h.awx h1,vs,rfl,kC.ra hA di cs ds _ h h2⟩
 | .tup cs,y,v,h,hv=>by
  simp only[Ren]at h;obtain⟨ds,rfl,h⟩:=h;simp only[RA]at hv ⊢;obtain⟨vs,rfl,h2⟩:=hv;exact⟨vs,rfl,kC.ra hA di cs ds _ h h2⟩
 | .clo f cs,y,v,h,hv=>by
  simp only[Ren]at h;obtain⟨ds,rfl,h⟩:=h;simp only[RA]at hv ⊢;obtain⟨vs,rfl,h2⟩:=hv;exact⟨vs,rfl,kC.ra hA di cs ds _ h h2⟩
def kC.ra{r:List Nat}{σ':aF}{aO:List Value}(hA:ap5 r σ σ' vals aO){ok wj:Nat->Prop}(di:∀b,ok b->wj b):∀(xs ys:List AV) (vs:List Value),kC r xs ys->fY ok σ vals w xs vs->fY wj σ' aO w ys vs
 |[],ys,vs,h,hv=>by simp only[kC]at h;subst h;simpa only[fY]using hv
 |x::xs,ys,vs,h,hv=>by
  simp only[kC]at h;obtain⟨y,t,rfl,h1,h2⟩:=h;simp only[fY]at hv ⊢;obtain⟨v,u,rfl,h3,h4⟩:=hv;exact⟨v,u,rfl,Ren.ra hA di x y v h1 h3,kC.ra hA di xs t u h2 h4⟩
end
end
end
end Go.Dv
namespace Go.Dv
open Go.RowKit
section
mutual
def RR(ok:Nat->Prop)(B:Nat->Prop)(w:World):RV->Value->List Value->Prop
 | .pv x,v,us=>Rd ok w x v/\us=[]
 | .fresh e sz aC,v,us=>us=[v]/\0<sz∧∃cells,Jp w B e sz true v aC.length cells/\(∀x∈aC,x.cells.length=sz)/\(∀c∈aC.flatMap PV.cells,c.one=true)/\bS ok w (aC.flatMap PV.cells) cells
 | .row e sz aC,v,us=>us=[v]/\0<sz∧∃cells,Jp w B e sz false v aC.length cells/\(∀x∈aC,x.cells.length=sz)/\(∀c∈aC.flatMap PV.cells,c.one=true)/\bS ok w (aC.flatMap PV.cells) cells
 | .mp l,v,us=>us=[v]∧∃b es n,v=.map (some b)/\ok b/\w.heap[b]?=some (.map es n)/\Zj es l
 | .agg rs,v,us=>∃vs,v=.agg vs/\(∀r∈rs,match r with| .pv x=>x.one=true| .fresh _ _ _=>True| .row _ _ _=>True|_=>False)/\XW ok B w rs vs.toList us
 | .tup rs,v,us=>∃vs,v=.tuple vs/\XW ok B w rs vs.toList us
def XW(ok:Nat->Prop)(B:Nat->Prop)(w:World):List RV->List Value->List Value->Prop
 |[],vs,us=>vs=[]/\us=[]
 |r::rs,vs,us=>∃v t UJ mT,vs=v::t/\us=UJ++mT/\RR ok B w r v UJ/\XW ok B w rs t mT
end
def qb(ok:Nat->Prop)(lone:Bool)(w w':World)(us:List Value)(b:Nat):Prop:=
 ((lone=false/\ok b)\/w.heap.size<=b)/\b<w'.heap.size∧∀u∈us,bl u≠some b
def ayb(jN:Nat->Prop)(W W':World):Prop:=W.heap.size<=W'.heap.size∧∀b,jN b->W'.heap[b]?=W.heap[b]?
def ab5{α:Type}(jN:Nat->Prop)(n:Nat)(P:Program)(g:Nat)(lb:Array Value)(PM:α->Array Value)(Nx:List α->α->Prop)(S Sp:List α->Prop)(w:World):Prop:=
 ∀(l:Nat) (J Jx:List α->World->Prop) (W:World),Below w.heap.size w W->AbidesFrom W.heap.size J->AbidesFrom W.heap.size Jx->
  (∀pre x W1,J pre W1->Nx pre x->YieldAt Fence.wide (n-1) P l (PM x) W1 λe W'=>
    (e=.returned (.bool true)/\J (pre++[x]) W'/\ayb jN W1 W')\/(e=.returned (.bool false)/\Jx (pre++[x]) W'))->
  J [] W->
  CallsIn Fence.wide n P g (#[.func (.yield l) #[] #[]]++lb) W λe W'=>(∃v,e=.returned v)/\((∃xs,S xs/\J xs W')\/(∃pre,Sp pre/\Jx pre W'))
def akR(P:Program)(g:FuncId)(iter:List PV->List (List PV)->Prop):Prop:=
 ∀(m:Nat) (w:World) (jN:Nat->Prop) (jh:List PV) (vs:Array Value) (L:List (List PV)),(∀b,jN b->b<w.heap.size)->bS jN w jh vs.toList->iter jh L->
  (∃(α:Type) (y:α->List PV) (en:α->Array Value),(∀x,y x∈L/\bS jN w (y x) (en x).toList)/\ab5 jN m P g vs en (λpre x=>L[pre.length]?=some (y x)) (λxs=>xs.map y=L) (λpre=>pre.map y<+:L) w)/\
   ∀(args:Array Value) (w:World),(callFunc g args).run P w=.ok (.enter g args) w
structure U6(n0:Nat)(X X':Nat->Prop)(W W':World):Prop where
 size:W.heap.size<=W'.heap.size
 same:∀b,b<W.heap.size→¬X b->(b<n0∨∃o:Obj,W.heap[b]?=some o/\o.isCells=true)->W'.heap[b]?=W.heap[b]?
 YE:∀b,X' b->X b\/W.heap.size<=b
def U6.trans{n0:Nat}{X Y Z:Nat->Prop}{A B C:World}(h:U6 n0 X Y A B)(k:U6 n0 Y Z B C):U6 n0 X Z A C:=by
 refine⟨zan h.size k.size,λb hb hx hc=>?_,λb hb=>?_⟩
 ·have e:=h.same b hb hx hc;rw[<-e];refine k.same b (zae hb h.size) (λhy=>(h.YE b hy).elim hx λg=>ab) ?_;rw[e];exact hc
 ·rcases k.YE b hb with g|g
  ·exact h.YE b g
  ·exact .inr (zan h.size g)
def U6.put{n0:Nat}{X:Nat->Prop}{W:World}{l:Nat}{o:Obj}(o':Obj)(hl:n0<=l)(h:W.heap[l]?=some o)(ho:o.isCells=false):U6 n0 X X W (W.putObj l o'):=
 ⟨by simp[World.putObj],λb _ _ hc=>World.putObj_heap_other (λe=>by
  subst e;rcases hc with hc|⟨o2,h2,h3⟩
  ·omega
  ·rw[h]at h2;cases h2;rw[ho]at h3;cases h3),λ_ h=>.inl h⟩
def aen{α:Type}(jN:Nat->Prop)(n:Nat)(P:Program)(g:Nat)(lb:Array Value)(PM:α->Array Value)(Nx:List α->α->Prop)(S Sp:List α->Prop)(w:World):Prop:=
 ∀(l:Nat) (J:List α->(Nat->Prop)->World->Prop) (Jx:List α->World->Prop) (W:World),Below w.heap.size w W->(∀X,AbidesFrom W.heap.size λpre=>J pre X)->AbidesFrom W.heap.size Jx->
  (∀pre X W1,J pre X W1→∀b,X b->b<W1.heap.size)->
  (∀pre x X W1,J pre X W1->Nx pre x->YieldAt Fence.wide (n-1) P l (PM x) W1 λe W'=>
    (e=.returned (.bool true)∧∃X',J (pre++[x]) X' W'/\U6 w.heap.size X X' W1 W')\/(e=.returned (.bool false)/\Jx (pre++[x]) W'))->
  ∀X0,(∀b,jN b→¬X0 b)->J [] X0 W->
  CallsIn Fence.wide n P g (#[.func (.yield l) #[] #[]]++lb) W λe W'=>(∃v,e=.returned v)/\((∃xs X,S xs/\J xs X W')\/(∃pre,Sp pre/\Jx pre W'))
def Y9(P:Program)(g:FuncId)(iter:List PV->List (List PV)->Prop):Prop:=
 ∀(m:Nat) (w:World) (jN:Nat->Prop) (jh:List PV) (vs:Array Value) (L:List (List PV)),(∀b,jN b->b<w.heap.size)->bS jN w jh vs.toList->iter jh L->
  (∃(α:Type) (y:α->List PV) (en:α->Array Value),(∀x,y x∈L/\bS jN w (y x) (en x).toList)/\aen jN m P g vs en (λpre x=>L[pre.length]?=some (y x)) (λxs=>xs.map y=L) (λpre=>pre.map y<+:L) w)/\
   ∀(args:Array Value) (w:World),(callFunc g args).run P w=.ok (.enter g args) w
def ab5.ajb{α:Type}{jN:Nat->Prop}{n:Nat}{P:Program}{g:Nat}{lb:Array Value}{PM:α->Array Value}{Nx:List α->α->Prop}{S Sp:List α->Prop}{w:World}(di:∀b,jN b->b<w.heap.size)
 (h:ab5 jN n P g lb PM Nx S Sp w):aen jN n P g lb PM Nx S Sp w:=by
 intro l J Jx W hb hJ HG hX hY X0 h0 hj;refine(h l (λpre W=>(∃X,J pre X W∧∀b,jN b→¬X b)/\w.heap.size<=W.heap.size) Jx W hb (λs A B row ⟨⟨X,h1,h2⟩,h3⟩ hg hr=>⟨⟨X,hJ X s A B row h1 hg hr,h2⟩,zan h3 hg.size⟩) HG ?_ ⟨⟨X0,hj,h0⟩,hb.size⟩).mono ?_
 ·rintro pre x W1 ⟨⟨X,h1,h2⟩,h3⟩ hlen;obtain⟨fn,tmps,qJ,body,hy,hR⟩:=hY pre x X W1 h1 hlen;refine⟨fn,tmps,qJ,body,hy,hR.mono ?_⟩;rintro e W' (⟨rfl,X',g1,g2⟩|⟨rfl,g1⟩)
  ·refine .inl ⟨rfl,⟨⟨X',g1,λb Cs hx=>?_⟩,zan h3 g2.size⟩,g2.size,λb Cs=>g2.same b (zae (di b Cs) h3) (h2 b Cs) (.inl (di b Cs))⟩;rcases g2.YE b hx with g|g
   ·exact h2 b Cs g
   ·have:=di b Cs;omega
  ·exact .inr ⟨rfl,g1⟩
 ·rintro e W' ⟨h1,⟨xs,h2,⟨X,h3,_⟩,_⟩|h2⟩
  ·exact⟨h1,.inl ⟨xs,X,h2,h3⟩⟩
  ·exact⟨h1,.inr h2⟩
def akR.x{P:Program}{g:FuncId}{iter:List PV->List (List PV)->Prop}(h:akR P g iter):Y9 P g iter:=λm w jN jh vs L di hr hi=>by
 obtain⟨⟨α,y,en,h1,h2⟩,h3⟩:=h m w jN jh vs L di hr hi;exact⟨⟨α,y,en,h1,ab5.ajb di h2⟩,h3⟩
def nY(P:Program)(w:World)(ok:Nat->Prop)(di:∀b,ok b->b<w.heap.size)(σ0:aF)(db:List Value):Cx:=
 { P:=P,w0:=w,eC:=ok,hA:=di,own:=λb=>w.heap.size<=b\/WB σ0 db b,eh:=λ_ h=>.inl h,Le:=σ0,acm:=db }
def Enters(P:Program)(f:FuncId):Prop:=∀(args:Array Value) (w:World),(callFunc f args).run P w=.ok (.enter f args) w
def bU(P:Program)(f:FuncId)(S:Spec):Prop:=
 (S.fn=true→∀ps K,S.run ps K→∃x,K (.pv x)∧∀K':RV->Prop,K' (.pv x)->S.run ps K')/\(S.fn=true->S.lone=true/\S.mu=false)/\
 (∀(w:World) (ok:Nat->Prop) (ps:List PV) (vs:Array Value) (K:RV->Prop),S.mu=false->(∀b,ok b->b<w.heap.size)->bS ok w ps vs.toList->S.run ps K->
   Enters P f/\Calls P f vs w λe w'=>∃v r us,e=.returned v/\K r/\Below w.heap.size w w'/\RR (qb ok S.lone w w' us) (λb=>w.heap.size<=b) w' r v us/\
    (∀u∈us,∀b,bl u=some b->w.heap.size<=b)∧∀(i j:Nat) (u t:Value) (b:Nat),i≠j->us[i]?=some u->us[j]?=some t->bl u=some b->bl t≠some b)/\Y9 P f S.iter/\
 (∀(w:World) (ok:Nat->Prop) (di:∀b,ok b->b<w.heap.size) (σ0:aF) (db:List Value) (aLq:List AV) (vs:Array Value) (K:AV->aF->Prop),S.mu=true->dH (nY P w ok di σ0 db) σ0 db w->
   fY (Ok (nY P w ok di σ0 db) σ0 db w) σ0 db w aLq vs.toList->S.qS aLq σ0 K->
   Enters P f/\Calls P f vs w λe w'=>∃v res σ1 kh,e=.returned v/\K res σ1/\dH (nY P w ok di σ0 db) σ1 kh w'/\RA (Ok (nY P w ok di σ0 db) σ1 kh w') σ1 kh w' res v)
def Sound(P:Program)(Γ:Ctx):Prop:=∀f,bU P f (Γ f)
section
variable {cx:Cx} {env:Env} {σ:aF} {vals:List Value} {a:Act} {w w':World} {o:Oper}
def uI{α:Type}(l m:List α)(j:Nat):(l++m)[j]?=if j<l.length then l[j]? else m[j-l.length]?:=by
 by_cases h:j<l.length
 ·rw[if_pos h,zar h]
 ·rw[if_neg h,zak ab]
def dH.amy(hr:dH cx σ vals w)(dS:Below w.heap.size w w')(ss:List dC)(us:List Value)(hlen:us.length=ss.length)(kR:∀u∈us,u.oneCell'=true)(rR:∀u∈us,∀b,bl u=some b->w.heap.size<=b)
 (Es:∀(i j:Nat) (u t:Value) (b:Nat),i≠j->us[i]?=some u->us[j]?=some t->bl u=some b->bl t≠some b)
 (hb:ct cx σ vals w (σ++ss) (vals++us) w'→∀(i:Nat) (s:dC) (u:Value),ss[i]?=some s->us[i]?=some u->RB cx (σ++ss) (vals++us) w' s u):
 dH cx (σ++ss) (vals++us) w'/\ct cx σ vals w (σ++ss) (vals++us) w':=by
 obtain⟨ic,sN⟩:=hr.grow dS;have abU:∀b,WB (σ++ss) (vals++us) b->WB σ vals b\/w.heap.size<=b:=by
  rintro b ⟨i,s,u,h1,h2,h3,h4⟩;rw[uI]at h1 h3;rw[hr.len]at h3;split at h1
  ·rename_i he;rw[if_pos he]at h3;exact .inl ⟨i,s,u,h1,h2,h3,h4⟩
  ·rename_i he;rw[if_neg he]at h3;exact .inr (rR u (zag h3) b h4)
 have hk:ct cx σ vals w (σ++ss) (vals++us) w':=by
  refine⟨λi u h=>?_,aj,λb h=>⟨h.1,zae h.2.1 dS.size,λhm=>?_⟩,λb h=>dS.block b h.2.1,λi hi e sz ap aC h=>?_,λi hi s2 h t_=>?_⟩
  ·rw[uI,if_pos (zaa.1 h).1];exact h
  ·rcases abU b hm with hm|h2
   ·exact h.2.2 hm
   ·have:=h.2.1;omega
  ·rw[uI,if_pos hi]at h;exact⟨ap,aC,h⟩
  ·rw[uI,if_pos hi]at h;exact⟨s2,h,t_⟩
 have pe:Fr cx (σ++ss) (vals++us) w':=⟨ic.fr.size,ic.fr.same,λb hm sQ=>by
  rcases abU b hm with hm|hm
  ·exact hr.fr.I1 b hm sQ
  ·have:=cx.hk b sQ;have:=hr.fr.size;omega⟩
 refine⟨⟨ic.below,λu hu=>by rcases zaA.1 hu with hu|hu;exact hr.one u hu;exact kR u hu,by simp[hr.len,hlen],λi t u h1 h2=>?_,λi j t1 t2 u1 u2 b zk h1 h2 h3 h4 h5 h6 h7=>?_,pe,hr.pin.keep hk⟩,hk⟩
 ·rw[uI]at h1 h2;rw[hr.len]at h2;split at h1
  ·rename_i he;rw[if_pos he]at h2;exact hk.rb (hr.sV i t u h1 h2) (λhl b Gn=>dS.block b ((hr.sV i t u h1 h2).block hl Gn).2)
  ·rename_i he;rw[if_neg he]at h2;exact hb hk _ t u h1 h2
 ·rw[uI]at h1 h2 h5 h6;rw[hr.len]at h5 h6;intro h8;split at h1
  ·rename_i hi;rw[if_pos hi]at h5;have g1:=((hr.sV i t1 u1 h1 h5).block h3 h7).2;split at h2
   ·rename_i hj;rw[if_pos hj]at h6;exact hr.Xl i j t1 t2 u1 u2 b zk h1 h2 h3 h4 h5 h6 h7 h8
   ·rename_i hj;rw[if_neg hj]at h6;have:=rR u2 (zag h6) b h8;omega
  ·rename_i hi;rw[if_neg hi]at h5;have g1:=rR u1 (zag h5) b h7;split at h2
   ·rename_i hj;rw[if_pos hj]at h6;have:=((hr.sV j t2 u2 h2 h6).block h4 h8).2;omega
   ·rename_i hj;rw[if_neg hj]at h6;exact Es _ _ u1 u2 b ab h5 h6 h7 h8
mutual
def oi:RV->List dC
 | .pv _=>[]
 | .fresh e sz aC=>[.row e sz true aC]
 | .row e sz aC=>[.row e sz false aC]
 | .mp l=>[.mp l]
 | .agg rs=>JY rs
 | .tup rs=>JY rs
def JY:List RV->List dC
 |[]=>[]
 |r::rs=>oi r++JY rs
end
mutual
def WG:Nat->RV->AV
 |_,.pv x=>.pv x
 |n,.fresh _ _ _=>.own n
 |n,.row _ _ _=>.own n
 |n,.mp _=>.own n
 |n,.agg rs=>.agg (nz n rs)
 |n,.tup rs=>.tup (nz n rs)
def nz:Nat->List RV->List AV
 |_,[]=>[]
 |n,r::rs=>WG n r::nz (n+(oi r).length) rs
end
def ai2:(∀(r:RV) (σ:aF) (K:AV->aF->Prop),sW r σ K->K (WG σ.length r) (σ++oi r)):=by
 intro r;refine RV.rec (motive_1:=λr=>∀(σ:aF) (K:AV->aF->Prop),sW r σ K->K (WG σ.length r) (σ++oi r))
  (motive_2:=λrs=>∀(σ:aF) (K:List AV->aF->Prop),
    (RV.rec_1 (motive_1:=λ_=>aF->(AV->aF->Prop)->Prop) (motive_2:=λ_=>aF->(List AV->aF->Prop)->Prop)
      (λx σ K=>K (.pv x) σ) (λe sz aC σ K=>pf σ λn=>gD σ (.row e sz true aC) λσ=>K (.own n) σ) (λe sz aC σ K=>pf σ λn=>gD σ (.row e sz false aC) λσ=>K (.own n) σ)
      (λ_ ih σ K=>ih σ λl σ=>K (.agg l) σ) (λ_ ih σ K=>ih σ λl σ=>K (.tup l) σ) (λl σ K=>pf σ λn=>gD σ (.mp l) λσ=>K (.own n) σ) (λσ K=>K [] σ)
      (λ_ _ h t σ K=>h σ λa σ=>t σ λl σ=>K (a::l) σ) rs:aF->(List AV->aF->Prop)->Prop) σ K->K (nz σ.length rs) (σ++JY rs))
  ?_ ?_ ?_ ?_ ?_ ?_ ?_ ?_ r
 ·intro x σ K h;have h':K (.pv x) σ:=h;simpa[WG,oi]using h'
 ·intro e sz aC σ K h;exact cN _ _ _ (gV σ _ h)
 ·intro e sz aC σ K h;exact cN _ _ _ (gV σ _ h)
 ·intro rs ih σ K h;exact ih σ _ h
 ·intro rs ih σ K h;exact ih σ _ h
 ·intro l σ K h;exact cN _ _ _ (gV σ _ h)
 ·intro σ K h;have h':K [] σ:=h;simpa[nz,JY]using h'
 ·intro r rs za zb σ K h;have h1:=za σ _ h;have h2:=zb _ _ h1;simpa[nz,JY,zaj]using h2
def aA0(ok:Nat->Prop)(B:Nat->Prop)(w:World)(s:dC)(u:Value):Prop:=
 (∃e sz ap aC cells,s=.row e sz ap aC/\0<sz/\Jp w B e sz ap u aC.length cells/\(∀x∈aC,x.cells.length=sz)/\(∀c∈aC.flatMap PV.cells,c.one=true)/\bS ok w (aC.flatMap PV.cells) cells)∨∃l b es n,s=.mp l/\u=.map (some b)/\ok b/\w.heap[b]?=some (.map es n)/\Zj es l
def RR.news{ok:Nat->Prop}{B:Nat->Prop}:(∀(r:RV) (v:Value) (us:List Value),RR ok B w r v us->us.length=(oi r).length∧∀(i:Nat) (s:dC) (u:Value),(oi r)[i]?=some s->us[i]?=some u->
 aA0 ok B w s u):=by
 intro r;refine RV.rec (motive_1:=λr=>∀(v:Value) (us:List Value),RR ok B w r v us->us.length=(oi r).length∧∀(i:Nat) (s:dC) (u:Value),(oi r)[i]?=some s->us[i]?=some u->
  aA0 ok B w s u)
  (motive_2:=λrs=>∀(vs:List Value) (us:List Value),XW ok B w rs vs us->us.length=(JY rs).length∧∀(i:Nat) (s:dC) (u:Value),(JY rs)[i]?=some s->us[i]?=some u->
    aA0 ok B w s u)
  ?_ ?_ ?_ ?_ ?_ ?_ ?_ ?_ r
 ·intro x v us h;simp only[RR]at h;rw[h.2];exact⟨rfl,λi s u h=>by simp[oi]at h⟩
 ·intro e sz aC v us h;simp only[RR]at h;obtain⟨rfl,h0,cells,h1,h2,h3,h4⟩:=h;refine⟨rfl,λi s u g1 g2=>?_⟩;cases i with
  |zero=>simp[oi]at g1 g2;subst g1 g2;exact .inl ⟨e,sz,true,aC,cells,rfl,h0,h1,h2,h3,h4⟩
  |succ i=>simp[oi]at g1
 ·intro e sz aC v us h;simp only[RR]at h;obtain⟨rfl,h0,cells,h1,h2,h3,h4⟩:=h;refine⟨rfl,λi s u g1 g2=>?_⟩;cases i with
  |zero=>simp[oi]at g1 g2;subst g1 g2;exact .inl ⟨e,sz,false,aC,cells,rfl,h0,h1,h2,h3,h4⟩
  |succ i=>simp[oi]at g1
 ·intro rs ih v us h;simp only[RR]at h;obtain⟨vs,_,_,h⟩:=h;exact ih _ _ h
 ·intro rs ih v us h;simp only[RR]at h;obtain⟨vs,_,h⟩:=h;exact ih _ _ h
 ·intro l v us h;simp only[RR]at h;obtain⟨rfl,b,es,n,h1,h2,h3,h4⟩:=h;refine⟨rfl,λi s u g1 g2=>?_⟩;cases i with
  |zero=>simp[oi]at g1 g2;subst g1 g2;exact .inr ⟨l,b,es,n,rfl,h1,h2,h3,h4⟩
  |succ i=>simp[oi]at g1
 ·intro vs us h;simp only[XW]at h;rw[h.2];exact⟨rfl,λi s u h=>by simp[JY]at h⟩
 ·intro r rs za zb vs us h;simp only[XW]at h;obtain⟨v,t,UJ,mT,rfl,rfl,h1,h2⟩:=h;obtain⟨l1,g1⟩:=za _ _ h1;obtain⟨l2,g2⟩:=zb _ _ h2;refine⟨by simp[JY,l1,l2],λi s u f1 f2=>?_⟩;simp only[JY,uI]at f1 f2;rw[l1]at f2;split at f1
  ·rename_i hi;rw[if_pos hi]at f2;exact g1 i s u f1 f2
  ·rename_i hi;rw[if_neg hi]at f2;exact g2 _ s u f1 f2
def RR.ra{ok wj:Nat->Prop}{B:Nat->Prop}(di:∀b,ok b->wj b)(σ':aF)(aO:List Value):∀(r:RV) (v:Value) (us:List Value) (n:Nat),RR ok B w r v us->(∀(i:Nat) (u:Value),us[i]?=some u->aO[n+i]?=some u)->RA wj σ' aO w (WG n r) v:=by
 intro r;refine RV.rec (motive_1:=λr=>∀(v:Value) (us:List Value) (n:Nat),RR ok B w r v us->(∀(i:Nat) (u:Value),us[i]?=some u->aO[n+i]?=some u)->RA wj σ' aO w (WG n r) v)
  (motive_2:=λrs=>∀(vs:List Value) (us:List Value) (n:Nat),XW ok B w rs vs us->(∀(i:Nat) (u:Value),us[i]?=some u->aO[n+i]?=some u)->fY wj σ' aO w (nz n rs) vs)
  ?_ ?_ ?_ ?_ ?_ ?_ ?_ ?_ r
 ·intro x v us n h _;simp only[RR]at h;simp only[WG,RA];exact Rd.mono di (λ_ _ _=>rfl) x v h.1
 ·intro e sz aC v us n h hv;simp only[RR]at h;obtain⟨rfl,_⟩:=h;simp only[WG,RA];exact hv 0 v rfl
 ·intro e sz aC v us n h hv;simp only[RR]at h;obtain⟨rfl,_⟩:=h;simp only[WG,RA];exact hv 0 v rfl
 ·intro rs ih v us n h hv;simp only[RR]at h;obtain⟨vs,rfl,h1,h⟩:=h;simp only[WG,RA];refine⟨λc hc=>?_,vs,rfl,ih _ _ n h hv⟩;have:∀(rs:List RV) (n:Nat),(∀r∈rs,match r with| .pv x=>x.one=true| .fresh _ _ _=>True| .row _ _ _=>True|_=>False)→∀c∈nz n rs,c.one=true:=by
   intro rs
   induction rs with
   |nil=>intro n _ c hc;simp[nz]at hc
   |cons r rs ih=>
    intro n h c hc;simp only[nz]at hc;rcases zax.1 hc with rfl|hc
    ·have:=h r aj;cases r with
     |pv x=>exact this
     |fresh e sz aC=>rfl
     |row e sz aC=>rfl
     |_=>exact this.elim
    ·exact ih _ (λr hr=>h r (by simp[hr])) c hc
  exact this rs n h1 c hc
 ·intro rs ih v us n h hv;simp only[RR]at h;obtain⟨vs,rfl,h⟩:=h;simp only[WG,RA];exact⟨vs,rfl,ih _ _ n h hv⟩
 ·intro l v us n h hv;simp only[RR]at h;obtain⟨rfl,_⟩:=h;simp only[WG,RA];exact hv 0 v rfl
 ·intro vs us n h _;simp only[XW]at h;simp only[nz,fY];exact h.1
 ·intro r rs za zb vs us n h hv;simp only[XW]at h;obtain⟨v,t,UJ,mT,rfl,rfl,h1,h2⟩:=h;simp only[nz,fY];have l1:=(RR.news r v UJ h1).1;refine⟨v,t,rfl,za v UJ n h1 (λi u hi=>hv i u (by rw[uI,if_pos (zaa.1 hi).1];exact hi)),zb t mT _ h2 (λi u hi=>?_)⟩;have:=hv (UJ.length+i) u (by rw[uI,if_neg ab,zav];exact hi);rwa[<-l1,zaJ]
def apA{K:AV->aF->Prop}{Γ:Ctx}(hΓ:Sound cx.P Γ)(hr:Rel cx env σ vals a w)(f:FuncId)(aLq:List AV)(vs:Array Value)(aeQ:(execOp a.eval o).run cx.P w=(callFunc f vs).run cx.P w)(l9:fY (Ok cx σ vals w) σ vals w aLq vs.toList)(Um:(Γ f).mu=false)
 (hK:aQ σ aLq λps=>match (Γ f).lone with
   |true=>(Γ f).run ps λr=>sW r σ K
   |false=>fX aLq σ λσ=>(Γ f).run ps λr=>sW r σ K):Out cx env a w o K:=by
 have main:∀(σ1:aF) (ok:Nat->Prop) (ps:List PV),Rel cx env σ1 vals a w->(∀b,ok b->b<w.heap.size)->((Γ f).lone=false→∀b,ok b->Ok cx σ1 vals w b)->bS ok w ps vs.toList->((Γ f).run ps λr=>sW r σ1 K)->Out cx env a w o K:=by
  intro σ1 ok ps Gw aJ7 UF rT cL next Q Gs
  obtain⟨avv,avw⟩:=(hΓ f).2.2.1 w ok ps vs _ Um aJ7 rT cL;unfold Oper.wp;rw[aeQ,avv,Oper.upon_enter];refine avw.mono ?_;rintro e w' ⟨v,r,us,rfl,hK,dS,JA,rR,Es⟩;have hK:=ai2 r σ1 K hK;obtain⟨hl,IG⟩:=RR.news r v us JA;have kR:∀u∈us,u.oneCell'=true:=by
   intro u hu;obtain⟨i,hi⟩:=zaE.1 hu;have jB:i<(oi r).length:=by rw[<-hl];exact(zaa.1 hi).1
   rcases IG i _ u (zah jB) hi with⟨_,_,_,_,_,_,_,h,_⟩|⟨_,b,_,_,_,rfl,_⟩
   case inr=>rfl
   rcases h.2 with⟨rfl,_⟩|⟨_,_,_,_,rfl,_⟩<;>rfl
  have aCV:∀b,qb ok (Γ f).lone w w' us b->Ok cx (σ1++oi r) (vals++us) w' b:=by
   rintro b ⟨h1,h2,h3⟩;refine⟨?_,h2,?_⟩
   ·rcases h1 with⟨h0,h1⟩|h1
    ·exact(UF h0 b h1).1
    ·exact .inr (cx.eh _ (zan Gw.s.below.size h1))
   ·rintro⟨i,s,u,g1,g2,g3,g4⟩;rw[uI]at g1 g3;rw[Gw.s.len]at g3;split at g1
    ·rename_i hi;rw[if_pos hi]at g3;rcases h1 with⟨h0,h1⟩|h1
     ·exact(UF h0 b h1).2.2 ⟨i,s,u,g1,g2,g3,g4⟩
     ·have:=((Gw.s.sV i s u g1 g3).block g2 g4).2;omega
    ·rename_i hi;rw[if_neg hi]at g3;exact h3 u (zag g3) g4
  obtain⟨hs,sQ⟩:=Gw.s.amy dS (oi r) us hl kR rR Es (λsQ i s u g1 g2=>by
   rcases IG i s u g1 g2 with⟨e,sz,ap,aC,cells,rfl,h0,h1,h2,h3,h4⟩|⟨l,b,es,n,rfl,rfl,h2,h3,h4⟩
   case inr=>exact⟨b,es,n,rfl,aCV b h2,h3,h4⟩
   refine⟨h0,cells,⟨h1.1,?_⟩,h2,h3,bS.mono aCV (λ_ _ _=>rfl) _ _ h4⟩;rcases h1.2 with h|⟨g,cap,cur,fr,f1,f2,f3⟩
   ·exact .inl h
   ·exact .inr ⟨g,cap,cur,fr,f1,cx.eh _ (zan Gw.s.below.size f2),f3⟩)
  refine Gs _ _ _ v w' hK (Gw.keep hs sQ) ?_;refine RR.ra aCV _ _ r v us σ1.length JA (λi u hi=>?_);rw[uI,if_neg (by rw[Gw.s.len];omega),Gw.s.len,zav];exact hi
 obtain⟨ps,hk,rT,_,WR⟩:=wP hr.s _ _ _ l9 hK;cases Vq:(Γ f).lone with
 |true=>
  simp only[Vq]at hk;refine main σ (CE cx σ vals w) ps hr (λb hb=>?_) (λh=>by rw[Vq]at h;cases h) rT hk;rcases hb with hb|⟨i,s,u,h1,h2,h3,h4⟩
  ·exact hb.2.1
  ·exact((hr.s.sV i s u h1 h3).block h2 h4).2
 |false=>
  simp only[Vq]at hk;obtain⟨xs,σ1,rfl,hk,_,lX,aCS,rT,_⟩:=qQ _ σ σ _ (λz=>z=ps) _ (Fz.refl σ) hr.s l9 (WR _ rfl) hk;exact main σ1 (Ok cx σ1 vals w) _ (hr.keep lX aCS) (λb hb=>hb.2.1) (λ_ b hb=>hb) rT hk
end
end
end Go.Dv
namespace Go.Dv
open Go.RowKit
section
section
variable {cx:Cx} {env:Env} {σ:aF} {vals:List Value} {a:Act} {w w':World} {o:Oper}
def Zr:∀(l:List AV) (σ:aF) (vs:List Value) (K:List PV->aF->Prop),dH cx σ vals w->fY (Ok cx σ vals w) σ vals w l vs->Ho l σ K->
 ∃xs σ',K xs σ'/\dH cx σ' vals w/\ct cx σ vals w σ' vals w/\bS (Ok cx σ' vals w) w xs vs:=by
 intro l
 induction l with
 |nil=>
  intro σ vs K hr h hK;simp only[fY]at h;exact⟨[],σ,hK,hr,ct.refl,by simp only[bS];exact h⟩
 |cons av l ih=>
  intro σ vs K hr h hK;simp only[fY]at h;obtain⟨v,t,rfl,hv,ht⟩:=h;have fin:∀(σ1:aF) (y:PV),dH cx σ1 vals w->ct cx σ vals w σ1 vals w->Rd (Ok cx σ1 vals w) w (.cptr y) v->(Ho l σ1 λxs σ=>K (.cptr y::xs) σ)->
   ∃xs σ',K xs σ'/\dH cx σ' vals w/\ct cx σ vals w σ' vals w/\bS (Ok cx σ' vals w) w xs (v::t):=by
   intro σ1 y Gw SH rT Gt;obtain⟨xs,σ',h1,h2,h3,h4⟩:=ih σ1 t _ Gw (SH.kZ _ _ ht) Gt;exact⟨_,σ',h1,h2,SH.trans h3,by simp only[bS];exact⟨v,t,rfl,h3.rd rT,h4⟩⟩
  cases av with
  |pv x=>
   cases x with
   |cptr y=>simp only[RA]at hv;exact fin σ y hr ct.refl hv hK
   |_=>exact Ba
  |ref id idx off=>
   simp only[RA]at hv;obtain⟨aU,_,_,xe⟩:=hv;obtain⟨b,hb,hk⟩:=aS _ _ _ (show g_ σ id _ from hK);cases b with
   |box e cs=>
    cases off with
    |zero=>
     have hk:aQ σ cs λt=>qm t λx=>fX cs σ λσ=>wu σ id (.fz (.cptr x)) λσ=>Ho l σ λxs σ=>K (.cptr x::xs) σ:=hk
     obtain⟨u,hu,tZ⟩:=hr.val hb;obtain⟨u',g,gA,jA,hv⟩:=xe _ hb rfl;rw[hu]at gA;cases gA;obtain⟨b,arr,e1,e2,e3,e4,e5⟩:=tZ;obtain⟨DX,AP,_,_,WR⟩:=wP hr cs _ _ e5 hk;have y_:∃x,(∀(K:PV->Prop),qm DX K->K x)/\qm DX λy=>y=x:=by
      have:∀K:PV->Prop,qm DX K→∃x,(∀(K:PV->Prop),qm DX K->K x)/\qm DX λy=>y=x:=by
       intro K h;cases DX with
       |nil=>exact⟨_,λ_ h=>h,rfl⟩
       |cons c r=>cases r with
        |cons d r=>exact⟨_,λ_ h=>h,rfl⟩
        |nil=>cases c with
         |agg cs=>exact h.elim
         |_=>exact⟨_,λ_ h=>h,rfl⟩
      exact this _ AP
     obtain⟨x,I_,vR⟩:=y_;have O6:=I_ _ AP;obtain⟨n_,σ1,rfl,E4,oC,Gw,SH,aJ8,kR⟩:=qQ cs σ σ _ (λz=>z=DX) _ (Fz.refl σ) hr e5 (WR _ rfl) O6;have G1:σ1[id]?=some (.box e cs):=by
      rcases oC id with h|⟨_,_,_,_,h,_⟩
      ·rw[h];exact hb
      ·rw[hb]at h;cases h
     have aJ9:id<σ1.length:=(zaa.1 G1).1;obtain⟨x',mV,vw⟩:=Dg (w:=w) vR (kR e4);subst mV;obtain⟨_,LO⟩:=fS _ _ _ _ E4;obtain⟨CW,aJ_⟩:=Gw.Qw (x:=.cptr x') G1 rfl (λwj v' Mz _ di Gn=>by
      rw[hu]at Mz;cases Mz;rw[e1];exact vw wj arr b _ _ e3 (bS.mono di (λ_ _ _=>rfl) _ _ aJ8) (Gn b (by rw[e1];rfl))) (λ_=>rfl)
     refine fin _ x' CW (SH.trans aJ_) ?_ LO;have:=CW.sV id _ _ (by rw[List.getElem?_set_self aJ9]) hu;have DY:v=u:=by rw[hv,jA]
     rw[DY];exact this
    |succ off=>exact kK
   |fz y=>
    cases off with
    |zero=>
     cases y with
     |cptr y=>
      obtain⟨u,hu,tZ⟩:=hr.val hb;obtain⟨u',g,gA,jA,hv⟩:=xe _ hb rfl;rw[hu]at gA;cases gA;have DY:v=u:=by rw[hv,jA]
      exact fin σ y hr ct.refl (by rw[DY];exact tZ) hk
     |_=>exact kK
    |succ off=>exact kK
   |_=>cases off<;>exact kK
  |_=>exact Ba
def axX{K:AV->aF->Prop}(hr:Rel cx env σ vals a w)(f:FuncId)(first jh:Array Operand)(ho:o.op=.makeFunc (.func f) first jh)(hf:first.toList=[])
 (hK:Ho (jh.toList.map (bK env)) σ λxs σ=>K (.pv (.clo f xs)) σ):Out cx env a w o K:=by
 obtain⟨xs,σ',h1,h2,h3,h4⟩:=Zr _ σ _ _ hr.s (hr.cd jh.toList) hK;have D0:first= #[]:=Array.toList_eq_nil_iff.1 hf
 refine Out.run (v:=.func (.func f) #[] (jh.map a.eval)) (by simp[execOp,ho,Instr.makeFunc,D0]) (hr.keep h2 h3) (av:=.pv (.clo f xs)) ?_ h1;simp only[RA,Rd];exact⟨_,rfl,Kq⟩
end
end
end Go.Dv
