/- Own work: parts of the proof, shortened and laid together by a tool of our own. -/
import GoSem.Core.Code
import GoSem.Core.Lib
import GoSem.Op.String
import Derived.KernelRfl
import Derived.Below
import GoSem.Core.Layout
import GoSem.Op.Equal
import GoSem.Core.Region
import Derived.WalkKit
import Derived.Lib.Strings
import Derived.Lib.AppendStr
import Derived.Laws.AppendOwnNone
import Derived.Great.BuildSlice
import Derived.Laws.IdiomStrings
import Derived.RangeFuncNested
set_option linter.defProp false
set_option linter.unusedSimpArgs false
set_option linter.unusedVariables false
open List renaming getElem?_eq_some_iff→zaa, length_append→zad, eq_nil_of_length_eq_zero→zaf, mem_of_getElem?→zag, getElem?_eq_getElem→zah, append_assoc→zaj, getElem?_append_right→zak, length_take→zal, flatMap_cons→zan, length_cons→zap, length_replicate→zaq, getElem?_append_left→zar, map_cons→zau, length_map→zaw, mem_cons→zax, length_drop→zay, flatMap_append→zaz, mem_append→zaA, getElem?_drop→zaB, getElem?_map→zaD, drop_drop→zaE, take_append_drop→zaF, mem_iff_getElem?→zaG, take_left'→zaJ, getElem?_take→zaK, getElem?_eq_none→zaM, drop_left'→zaO, replicate_succ→zaP, getElem?_set→zaR, extract_eq_take_drop→zaS, zipIdx_cons→zaV, mem_map→zaX, map_append→zaY, nil_append→zaZ, length_set→za0, take_of_length_le→za1, length_singleton→za2, mem_of_mem_take→za5, mem_replicate→za9, ext_getElem?→zbb, cons_append→zbe, append_nil→zbg, length_nil→zbh, foldl_cons→zbi, take_take→zbj, tail_drop→zbl, take_left→zbm, drop_left→zbn
open Nat renaming eq_of_beq_eq_true→zab, lt_of_lt_of_le→zae, le_refl→zai, le_trans→zam, add_mul→zas, min_eq_left→zat, add_sub_cancel_left→zav, mul_le_mul_right→zaH, add_assoc→zaL, zero_add→zaU, add_zero→zaW, le_of_ble_eq_true→za4, add_right_comm→za8, add_left_comm→zbc, one_mul→zbd
open Array renaming length_toList→zac, getElem?_eq_some_iff→zao, getElem?_eq_getElem→zaI, toList_setIfInBounds→zaQ, getElem?_toList→za3, toList_extract→za6, foldl_toList→zba, toList_map→zbf
open Int renaming toNat_natCast→zaC, toNat_of_nonneg→za7
open Bool renaming eq_iff_iff→zaN, and_eq_true→zaT, decide_or→zbk
set_option maxHeartbeats 16000000
noncomputable section
namespace Go.Dv
section
abbrev P8:=List UInt8
abbrev QK:=List Nat
abbrev OG:=List Int
abbrev XS:=List Value
abbrev QE:=List Bool
abbrev XU:=List Operand
structure Hd(P:Prop):Prop where
 h:P
section
variable {P:Prop}
def PS(h:P:=by simp only[Rd];exact h5):P:=h
def yT(h:P:=by simpa using U):P:=h
def uQ(h:P:=by simpa using F):P:=h
def yZ(h:P:=by simpa using hj):P:=h
def ab(h:P:=by simp):P:=h
def lE(h:P:=by simp[F]):P:=h
def pr(h:P:=by simp[hy]):P:=h
def DU(h:P:=by simpa using h4):P:=h
def V(h:P:=by omega):P:=h
def aH(h:P:=by simp;omega):P:=h
def ck(h:P:=by simp only[Rd]):P:=h
def Rg(h:P:=by simp[binOp,Op.intArith]):P:=h
def KB(h:P:=by simp[binOp,Op.intBits,dB]):P:=h
def zk(h:P:=by simp[binOp,Op.intCmp]):P:=h
def ai(h:P:=by decide):P:=h
def S4(h:P:=by simp only[RA];exact H):P:=h
def fK(h:P:=by simp only[RA,Rd]):P:=h
def RH(h:P:=by rw[hu]at hd;cases hd;rfl):P:=h
def bP(h:P:=by simp[T]):P:=h
def QJ(h:P:=by rw[qS _ _ _ T];omega):P:=h
def rB(h:P:=by simpa using h):P:=h
def bc(h:P:=by cases h):P:=h
def nh(h:P:=by simpa using H):P:=h
def amB(h:P:=by rw[hv];simp[execOp,ho,hv]):P:=h
def adb(h:P:=by rcases List.mem_append.1 hu with hu|hu;exact J.one u hu;simp at hu;exact hu▸ff):P:=h
def QF(h:P:=by cases h;exact Nat.le_refl _):P:=h
def abZ(h:P:=by rcases cj.2 with⟨rfl,_⟩|⟨_,_,_,_,rfl,_⟩<;>rfl):P:=h
def amy(h:P:=by rw[Er rfl];simp only[eu];exact⟨_,[],rfl,h',rfl⟩):P:=h
def aaF(h:P:=by simp at F;obtain⟨x,T,rfl⟩:=F;exact h3 x T):P:=h
def RP(h:P:=by simpa only[RA]using hv):P:=h
def rM(h:P:=by simp[hd]):P:=h
def au(h:P:=by grind):P:=h
def HY(h:P:=by rw[<-Array.length_toList,(H (λ_=>True) w).length,hzl]):P:=h
def az(h:P:=by assumption):P:=h
def dw(h:P:=by rfl):P:=h
def vL(h:P:=by rw[List.length_map];rfl):P:=h
def SC(h:P:=by simp only[Ren];exact⟨j,U,rfl⟩):P:=h
def SL(h:P:=by simp only[Ren];exact⟨bs,rfl,H⟩):P:=h
def Q8(h:P:=by rw[hz.length,iS _ _ hl]):P:=h
def ady(h:P:=by rw[uE _ _ hl]at F;exact ff c (List.mem_of_mem_take F)):P:=h
def aD(h:P:=by trivial):P:=h
def zF(h:P:=by simp only[Ren];grind):P:=h
def CD(h:P:=by simpa using hl):P:=h
def abl(h:P:=by rw[<-hA.asK];exact(List.getElem?_eq_some_iff.1 hj).1):P:=h
def C7(h:P:=by rw[<-Pz];rfl):P:=h
def Tu(h:P:=by rw[<-hρlen];exact(List.getElem?_eq_some_iff.1 hj).1):P:=h
def SO(h:P:=by simp[execOp,ho,Act.eval]):P:=h
def CJ(h:P:=by simp[PO.reads,ht]):P:=h
def mY(h:P:=by simp[PK.reads,ht]):P:=h
def iJ(h:P:=by simp[hq]):P:=h
def Ck(h:P:=by rcases hf with hf|hf<;>rw[hf]<;>rfl):P:=h
def J2(h:P:=by simp[Region.wanted,hg]):P:=h
def adA(h:P:=by rcases hf with hf|hf<;>rw[hf];exact .inl rfl;exact .inr rfl):P:=h
def Se(h:P:=by simp only[hg,Bool.not_false]):P:=h
def adQ(h:P:=by rw[A6];exact Nat.zero_le _):P:=h
def lQ(h:P:=by cases hu):P:=h
def acb(h:P:=by have:=h3 σ' K' hs E;rw[<-xP]at this;exact this):P:=h
def nf(h:P:=by cases I):P:=h
def y8(h:P:=by rw[List.append_nil]at E;exact E):P:=h
def DJ(h:P:=by simpa only[AV.Nm]using T):P:=h
def uV(h:P:=by simp at W):P:=h
def ach(h:P:=by unfold za.M;rintro(hM|hM);exact(F j hj).1 hM;exact(F j hj).2 hM):P:=h
def J5(h:P:=by simp[bt]):P:=h
def bh(h:P:=by cases e):P:=h
def JP(h:P:=by rw[List.getElem?_eq_getElem (by omega)];exact⟨_,rfl⟩):P:=h
def J3(h:P:=by rw[Int.toNat_natCast,List.getElem?_map,List.getElem?_eq_getElem h];rfl):P:=h
def ae(h:P:=by kernel_rfl):P:=h
def TZ(h:P:=by rw[<-Array.toList_inj];exact e1):P:=h
def ab8(h:P:=by rcases F with⟨_,h⟩|⟨h,_⟩;exact h;cases h):P:=h
def zw(h:P:=by obtain⟨h,_⟩:=hq6;cases h):P:=h
def II(h:P:=by obtain⟨h,_⟩:=hq1;cases h):P:=h
def aaa(h:P:=by simp at e;exact Prod.ext (by omega) (by omega)):P:=h
def DS(h:P:=by rw[List.length_map,Int.toNat_natCast];omega):P:=h
def pd(h:P:=by rw[List.length_map];omega):P:=h
def Iu(h:P:=by rw[<-hg,List.length_append]):P:=h
def acX(h:P:=by rw[Int.toNat_natCast,List.getElem?_map,<-hg,List.getElem?_append_right (Nat.le_refl _),Nat.sub_self];rfl):P:=h
def sg(h:P:=by unfold c7.copy at F;simpa using F):P:=h
def kn(h:P:=by rw[F]):P:=h
def IW(h:P:=by simp at hm2;omega):P:=h
def v_(h:P:=by simp[hg]):P:=h
def Ih(h:P:=by rw[adR];simp[dQ]):P:=h
def adK(h:P:=by simp only[List.length_append,List.length_cons,List.length_nil]at hol ⊢;omega):P:=h
def gx(h:P:=by rw[List.length_drop];omega):P:=h
def yM(h:P:=by unfold s_;omega):P:=h
def QW(h:P:=by unfold c7.made;rw[if_pos hd]):P:=h
def Sq(h:P:=by unfold c7.made;rw[if_neg hd]):P:=h
def aa4(h:P:=by rw[List.length_append,List.length_cons,List.length_nil,List.length_drop];omega):P:=h
def TO(h:P:=by rw[List.length_take,List.length_drop];omega):P:=h
def anP(h:P:=by first|(simp;omega)|simp):P:=h
def bT(h:P:=by repeat'(first|omega|assumption|exact trivial|refine And.intro ?_ ?_)):P:=h
def bJ(h:P:=by(simp;omega)):P:=h
def IB(h:P:=by simpa[jF]using I):P:=h
def KA(h:P:=by unfold ez;omega):P:=h
def IL(h:P:=by rw[List.getElem?_drop];rfl):P:=h
def aaB(h:P:=by have:=congrArg (List.drop 1) hd;rwa[List.drop_drop,List.drop_drop]at this):P:=h
def IF(h:P:=by unfold small;simpa using hns):P:=h
def gA(h:P:=by rw[List.length_take];omega):P:=h
def adD(h:P:=by rw[List.take_append_of_le_length (by rw[List.length_take];omega),List.take_take,Nat.min_self];exact ht):P:=h
def Dz(h:P:=by have:=fo E;omega):P:=h
def dg(h:P:=by(repeat'(first|omega|assumption|exact trivial|refine And.intro ?_ ?_));first|done|fail):P:=h
def aX(h:P:=by simp only[DE,bZ];omega):P:=h
def uX(h:P:=by unfold Dk.n;omega):P:=h
def lP(h:P:=by simp;first|done|fail):P:=h
def v7(h:P:=by rw[hT];rfl):P:=h
def lI(h:P:=by rw[fx];decide):P:=h
def QH(h:P:=by intro e;subst e;simp at aM):P:=h
def acw(h:P:=by have:=pM (gr.2.2.2 r J);exact⟨by omega,by omega⟩):P:=h
def D3(h:P:=by simp[aZ,h]):P:=h
def DN(h:P:=by rw[l5 h];exact h):P:=h
def QT(h:P:=by unfold gB;rw[hp];rfl):P:=h
def Qp(h:P:=by(rw[axl];simp;omega)):P:=h
def nd(h:P:=by rw[b8];omega):P:=h
def Rx(h:P:=by rw[qk];split<;>omega):P:=h
def Qe(h:P:=by unfold cut;rw[List.drop_zero]):P:=h
def ac_(h:P:=by(simp only[zad,zal,zay,bB];omega)):P:=h
def HQ(h:P:=by rw[rv,if_pos F]):P:=h
def aaT(h:P:=by rw[show(aj d a).a.rs=a.rs from rfl,fx]at h;cases h):P:=h
def Jk(h:P:=by rw[Int.natCast_add];exact hg):P:=h
def CB(h:P:=by rw[Int.toNat_natCast,List.getElem?_map,T];rfl):P:=h
def ado(h:P:=by rw[ht];exact congrArg (λy=>[cK.row 103 2 true y,_]) (hse ⟨q.s,q.n+1⟩)):P:=h
def aaS(h:P:=by rw[ht,List.map_append (l₁:=p++[q]) (l₂:=[⟨(n:Int),1⟩])];rfl):P:=h
def Ie(h:P:=by rw[List.getElem?_map,I];rfl):P:=h
def yB(h:P:=by unfold fB;rw[I];rfl):P:=h
def TA(h:P:=by unfold jm;rw[if_neg (λg=>g he)]):P:=h
def abg(h:P:=by unfold jN at he;rw[if_neg (λg=>g E)]at he;exact he):P:=h
def IP(h:P:=by rw[DL];exact λh=>h rfl):P:=h
def C2(h:P:=by rw[wj (by decide)];decide):P:=h
def zO(h:P:=by simp only[List.length_map,List.length_singleton];omega):P:=h
def sv(h:P:=by rw[List.map_append];rfl):P:=h
def adH(h:P:=by rw[<-hP,Int.toNat_natCast,List.getElem?_map,List.getElem?_cons_succ,hy];rfl):P:=h
def IZ(h:P:=by rw[hl];simp;omega):P:=h
def adi(h:P:=by cases a with|_ t n i f r v ft rn al sz vd=>cases rn<;>rfl):P:=h
def DR(h:P:=by unfold fB;grind):P:=h
def adg(h:P:=by unfold ZV;rw[if_neg (λh=>h hE),eb,if_neg ff,if_pos hoR]):P:=h
def aaq(h:P:=by rcases apI q l with h|h;rw[h];simp;exact List.mem_cons_of_mem _ h):P:=h
def abn(h:P:=by rw[eb];intro h;rcases h with h|h|h;exact h hE;exact ff h;exact h g):P:=h
def IV(h:P:=by simp only;omega):P:=h
def JA(h:P:=by rwa[LO _ _ E]at hj):P:=h
def SP(h:P:=by have:=hrI.b r J;omega):P:=h
def aaD(h:P:=by rw[List.set_set];exact(List.map_set (f:=Rn.pv) (a:=⟨(dK R).s+min c (dK R).n,(dK R).n-min c (dK R).n⟩)).symm):P:=h
def J6(h:P:=by simp only[List.length_append,List.length_singleton,hMm];omega):P:=h
def adL(h:P:=by rw[show((x.toNat:Nat):Int)=x by omega];exact T):P:=h
def apo(h:P:=by simp only[hn,Bool.false_eq_true]):P:=h
def Rw(h:P:=by exact⟨b,o,U,E b H,h3,u,F b o u H h4,this⟩):P:=h
def Qs(h:P:=by exact Out.run (v:=a.eval x) amB J hx' Y):P:=h
def Qh(h:P:=by exact⟨_,Y,amy,by simp[AV.one]⟩):P:=h
def va(h:P:=by exact(show False from h).elim):P:=h
def gY(h:P:=by exact(show False from E).elim):P:=h
def vq(h:P:=by exact⟨l,h,hl,List.prefix_refl l⟩):P:=h
def vJ(h:P:=by exact(show False from Y).elim):P:=h
def Kh(h:P:=by exact Out.run (v:=.slice none 0 0) SO J (av:=.pv (.nil i.2.1)) fK Y):P:=h
def dy(h:P:=by exact bN.ret _):P:=h
def oJ(h:P:=by exact jQ.ret _):P:=h
def oU(h:P:=by exact ahe hs az h):P:=h
def mQ(h:P:=by exact(show False from H).elim):P:=h
def Su(h:P:=by exact⟨[],h,λu hu=>lQ,λσ' K' _ E=>E⟩):P:=h
def zf(h:P:=by exact⟨i,h,rfl⟩):P:=h
def IT(h:P:=by exact⟨cs,rfl,Wx cs h⟩):P:=h
def Je(h:P:=by exact⟨_,h,λP hp=>⟨hp,trivial⟩,λ_ h=>h⟩):P:=h
def SJ(h:P:=by exact⟨_,_,r1,.inr ⟨rfl,r2⟩⟩):P:=h
def Sg(h:P:=by exact⟨cx,D_,σ2,eH,hC,hn2,akf ET tT,H⟩):P:=h
def Dq(h:P:=by exact cy _ _ b _ ((h id J5).trans U) H):P:=h
def Sb(h:P:=by exact H _ _ V V V):P:=h
def aO(h:P:=by exact⟨.pv (pI _),rfl,trivial,Y⟩):P:=h
def rC(h:P:=by exact⟨.pv _,rfl,trivial,Y⟩):P:=h
def fJ(h:P:=by exact⟨.pv (.str _),rfl,trivial,Y⟩):P:=h
def ll(h:P:=by exact absurd rfl h):P:=h
def QY(h:P:=by exact⟨[.pv (pI _),.pv (pI _)],⟨rfl,rfl,trivial⟩,⟨trivial,trivial,trivial⟩,Y⟩):P:=h
def yY(h:P:=by exact absurd ai h):P:=h
def JD(h:P:=by exact⟨rfl,λ_=>rfl,Iff.rfl⟩):P:=h
def Ki(h:P:=by exact⟨[.fresh _ _ _,.pv _],⟨⟨rfl,rfl,rfl,rfl⟩,rfl,trivial⟩,⟨by simp[RV.Ts],trivial,trivial⟩,Y⟩):P:=h
def gV(h:P:=by exact⟨[.pv (.str _),.pv _],⟨rfl,rfl,trivial⟩,⟨trivial,trivial,trivial⟩,Y⟩):P:=h
def pf(h:P:=by exact absurd h ai):P:=h
def J4(h:P:=by exact⟨[.pv (.str _),.pv _],⟨rfl,rfl,trivial⟩,⟨trivial,trivial,trivial⟩,hf⟩):P:=h
def h_(h:P:=by exact⟨.pv (.bool _),rfl,trivial,Y _ anP⟩):P:=h
def oQ(h:P:=by exact⟨.fresh _ _ _,⟨rfl,rfl,rfl,rfl⟩,aW _,Y⟩):P:=h
def bj(h:P:=by exact(λ_ h=>bc)):P:=h
def T3(h:P:=by exact this.wide V V V):P:=h
def Qu(h:P:=by exact⟨.pv _,.inl rfl,trivial,Y⟩):P:=h
def KD(h:P:=by exact⟨.pv (.bool _),rfl,trivial,Y _ (by simp[*])⟩):P:=h
def pA(h:P:=by exact⟨[.pv _,.pv _],⟨rfl,rfl,trivial⟩,⟨trivial,trivial,trivial⟩,Y⟩):P:=h
def TX(h:P:=by exact⟨.pv (.bool _),rfl,trivial,Y _ (by simp<;>omega)⟩):P:=h
def TT(h:P:=by exact⟨.pv (pI _),cn uX,trivial,Y⟩):P:=h
def Ro(h:P:=by exact⟨m-1,V,n+1,V,rfl,v7⟩):P:=h
def TC(h:P:=by exact⟨.pv (pI _),rfl,trivial,hK' false aH⟩):P:=h
def Q1(h:P:=by exact⟨[.pv _,.pv (pI _)],⟨rfl,rfl,trivial⟩,trivial,KF⟩):P:=h
def RS(h:P:=by exact⟨.pv (.bool _),rfl,trivial,Y _ (by simp only[*];simp)⟩):P:=h
def TE(h:P:=by exact⟨m-1,V,k+1,V,by rw[hT];simp[strs],rfl⟩):P:=h
def gz(h:P:=by exact⟨[.pv zD.pv,.pv zA.pv,.pv (pI _)],⟨rfl,rfl,rfl,trivial⟩,trivial,Y⟩):P:=h
def CC(h:P:=by exact⟨[.pv (Dk.pv _),.pv (At.pv _),.pv (pI _)],⟨rfl,rfl,rfl,trivial⟩,trivial,Y⟩):P:=h
def SE(h:P:=by exact⟨[.fresh _ _ _,.pv (pI _)],⟨⟨rfl,rfl,rfl,rfl⟩,rfl,trivial⟩,⟨(λ_ h=>bc),trivial,trivial⟩,Y⟩):P:=h
def Tm(h:P:=by exact⟨[.fresh _ _ _,.pv (pI _)],⟨⟨rfl,rfl,rfl,rfl⟩,rfl,trivial⟩,⟨aW _,trivial,trivial⟩,Y⟩):P:=h
def TG(h:P:=by exact⟨m-1,V,n+1,V,hT3.symm,rfl⟩):P:=h
def TS(h:P:=by exact⟨m-1,V,n+1,V,.inr hT4.symm,rfl⟩):P:=h
def P0(h:P:=by exact⟨m-1,V,k+1,V,by rw[hT,fI hB],rfl⟩):P:=h
def DT(h:P:=by exact Decidable.not_not.1 g):P:=h
def QR(h:P:=by exact⟨.pv (.bool _),rfl,trivial,Y _ aH⟩):P:=h
def Td(h:P:=by exact⟨.fresh _ _ _,⟨rfl,rfl,rfl,rfl⟩,bG _,Y⟩):P:=h
def wa(h:P:=by exact⟨[.pv v.pv,.pv (pI _)],⟨rfl,rfl,trivial⟩,trivial,Y⟩):P:=h
def R9(h:P:=by exact⟨m-1,V,n+1,V,by rw[ht];rfl,rfl⟩):P:=h
def yQ(h:P:=by exact⟨m-1,V,n+1,V,by rw[ht],rfl⟩):P:=h
def JZ(h:P:=by exact⟨.fresh _ _ _,⟨rfl,rfl,rfl,rfl⟩,trivial,Y⟩):P:=h
def SM(h:P:=by exact⟨[.pv zVo.pv,.pv (pI _)],⟨rfl,rfl,trivial⟩,trivial,Y⟩):P:=h
def HZ(h:P:=by exact⟨[.pv (An.pv ⟨[],0⟩),.pv (lC v D i.toNat A).pv],⟨rfl,rfl,trivial⟩,trivial,Y⟩):P:=h
def Ky(h:P:=by exact⟨[.pv (An.pv ⟨[],hk⟩),.pv _],⟨rfl,rfl,trivial⟩,trivial,Y⟩):P:=h
def Qf(h:P:=by exact⟨[.fresh 70 2 [],.pv zVo.pv,.pv (pI _)],⟨⟨rfl,rfl,rfl,rfl⟩,rfl,rfl,trivial⟩,trivial,Y⟩):P:=h
def IC(h:P:=by exact⟨m-1,V,i+1,V,by rw[e],rfl⟩):P:=h
def abf(h:P:=by exact absurd hm ai):P:=h
def PU(h:P:=by exact⟨[.pv (.sl 4 []),.pv (pI _)],⟨rfl,rfl,trivial⟩,trivial,Y⟩):P:=h
def QM(h:P:=by exact⟨[.pv (.sl 4 []),.pv (pI 16)],⟨rfl,rfl,trivial⟩,trivial,Y⟩):P:=h
def QL(h:P:=by exact⟨[.pv (.sl 4 _),.pv (pI _)],⟨rfl,rfl,trivial⟩,trivial,Y⟩):P:=h
def RN(h:P:=by exact⟨.inl (e1.trans e2.symm),λg=>absurd (e1.symm.trans g) z⟩):P:=h
def CR(h:P:=by exact⟨.pv (.bool false),rfl,trivial,Y false apo⟩):P:=h
def pn(h:P:=by exact⟨.pv (pB true),rfl,trivial,Y⟩):P:=h
variable {Q:Prop} (a:Q)
def fq(h:Hd Q->P:=by intro q;(conv=>whnf);(fail_if_success first|apply gRA|apply gRB|apply gRC);exact q.h):P:=h ⟨a⟩
def ik(h:Hd Q->P:=by intro q;(fail_if_success first|apply gRA|apply gRB|apply gRC);exact q.h):P:=h ⟨a⟩
def cT(h:Hd Q->P:=by intro q;show _<=(9223372036854775807:Nat)->_;(repeat (first|rw[List.length_map,b8]|rw[List.length_map]|rw[List.length_replicate]));exact q.h):P:=h ⟨a⟩
def aY{α:Type _}{x:α}:x=x/\Q:=⟨rfl,a⟩
def Gq(h:P:=by kernel_rfl):P/\Q:=⟨h,a⟩
def HI(h:P:=by omega):P/\Q:=⟨h,a⟩
end
inductive PV where
 |bool (b:Bool)
 |int (k:IntKind) (n:Int)
 |str (l:P8)
 |val (v:Value)
 |nil (sz:Nat)
 |sl (sz:Nat) (aw:List PV)
 |agg (cs:List PV)
 |tup (vs:List PV)
 |cptr (x:PV)
 |clo (f:FuncId) (ep:List PV)
inductive AV where
 |bad
 |pv (x:PV)
 |own (id:Nat)
 |ref (id idx off:Nat)
 |sub (id sz lo n:Nat)
 |agg (cs:List AV)
 |tup (vs:List AV)
 |clo (f:FuncId) (ep:List AV)
inductive cK where
 |dead
 |row (e:TypeId) (sz:Nat) (app:Bool) (aw:List PV)
 |box (e:TypeId) (cs:List AV)
 |fz (x:PV)
 |mp (l:List (Int×Bool))
inductive RV where
 |pv (x:PV)
 |fresh (e:TypeId) (sz:Nat) (aw:List PV)
 |row (e:TypeId) (sz:Nat) (aw:List PV)
 |agg (cs:List RV)
 |tup (vs:List RV)
 |mp (l:List (Int×Bool))
inductive Cv where
 |toInt (k:IntKind)|same|bts|stb (e:TypeId)
inductive PK where
 |mv (x:Operand)
 |nilS (sz:Nat)
 |nilR (e:TypeId) (sz:Nat)
 |pick (c a b:Operand)
 |bin (op:BinOp) (x y:Operand)
 |eqb (neg:Bool) (x y:Operand)
 |eqs (neg:Bool) (ks:QK) (x y:Operand)
 |un (op:UnOp) (x:Operand)
 |conv (c:Cv) (x:Operand)
 |lenS (x:Operand)
 |lenR (x:Operand)
 |lenN (x:Operand)
 |mm (mx:Bool) (x y:Operand)
 |idx (x i:Operand)
 |slcS (x:Operand) (lo W:Option Operand)
 |slcR (sz:Nat) (x:Operand) (lo W:Option Operand)
 |idxA (sz:Nat) (x i:Operand)
 |fldA (off:Nat) (x:Operand)
 |fld (off:Nat) (ag:Bool) (n:Nat) (x:Operand)
 |load (ag:Bool) (n:Nat) (x:Operand)
 |store (n:Nat) (x v:Operand)
 |alloc (e:TypeId) (z:PV)
 |box (e:TypeId) (x:Operand)
 |build (z:List PV) (parts:List (Nat×Nat×Operand))
 |bslice (e:TypeId) (sz:Nat) (parts:XU)
 |bslP (e:TypeId) (sz:Nat) (parts:XU)
 |app (e:TypeId) (sz bytes:Nat) (x y:Operand)
 |appS (e:TypeId) (bytes:Nat) (x y:Operand)
 |mksl (e:TypeId) (sz bytes:Nat) (z:PV) (l c:Operand)
 |call (f:FuncId) (args:XU)
 |ext (x:Operand) (i:Nat)
 |nilck (x:Operand)
 |mkf (f:FuncId) (ep:XU)
 |callv (f:Operand) (args:XU)
 |fail
 |junk
 |cpyS (x y:Operand)
 |clr (sz:Nat) (z:PV) (x:Operand)
 |mkarr (e:TypeId) (sz:Nat) (z:PV) (n:Nat)
 |idxAr (n sz:Nat) (x i:Operand)
 |isnil (neg:Bool) (x:Operand)
 |look (c:Bool) (x k:Operand)
structure PO where
 dst:Option Nat
 g:Option (Nat×Bool)
 k:PK
inductive PC where
 |skip
 |region (ops:List PO)
 |draw (ops:List PO) (kh:List (QK))
 |drawD (ops:List PO) (kh:List (QK))
 |seq (a b:PC)
 |cond (c:Operand) (t e:PC)
 |block (id:Nat) (b:PC)
 |loop (live:QK) (b:PC)
 |rangeF (f:Operand) (ps:QK) (ap5:List PO) (b:PC)
 |exit (id:Nat)
 |ret
abbrev Env:=List (Nat×AV)
abbrev ax:=List cK
section
variable {α:Type}
def eM(l:List α):Nat->(α->Prop)->Prop:=
 List.rec (λ_ _=>False)
  (λa _ ih i K=>Nat.rec (K a) (λj _=>ih j K) i) l
def Nr(n:Nat):List α->(List α->Prop)->Prop:=
 Nat.rec (λ_ K=>K [])
  (λ_ ih l K=>match l with|[]=>False|a::r=>ih r λt=>K (a::t)) n
def H_(n:Nat):List α->(List α->Prop)->Prop:=
 Nat.rec (λl K=>K l)
  (λ_ ih l K=>match l with|[]=>False|_::r=>ih r K) n
def A5(new:List α)(l:List α):Nat->(List α->Prop)->Prop:=
 List.rec
  (λi K=>match i,new with|0,[]=>K []|_,_=>False)
  (λa r ih i K=>Nat.rec
    (List.rec (λl K=>K l)
      (λx _ ih l K=>match l with|[]=>False|_::r=>ih r λt=>K (x::t)) new (a::r) K)
    (λj _=>ih j λt=>K (a::t)) i) l
def rJ(l:List α):Nat->α->(List α->Prop)->Prop:=
 List.rec (λ_ _ _=>False)
  (λa r ih i x K=>Nat.rec (K (x::r)) (λj _=>ih j x λt=>K (a::t)) i) l
def fv(l:List α)(x:α):(List α->Prop)->Prop:=
 List.rec (λK=>K [x]) (λa _ ih K=>ih λt=>K (a::t)) l
def me(l:List α):(Nat->Prop)->Prop:=
 List.rec (λK=>K 0) (λ_ _ ih K=>ih λn=>K (Nat.succ n)) l
end
def look(p:Nat)(K:AV->Prop)(e:Env):Prop:=
 List.rec (K .bad) (λhd _ ih=>Bool.rec ih (K hd.2) (Nat.beq hd.1 p)) e
def Aj:Value->AV
 | .bool b=>.pv (.bool b)
 | .int k n=>.pv (.int k n)
 | .string s=>.pv (.str s.data.toList)
 | .slice none 0 0=>.pv (.nil 0)
 | .agg _=>.bad
 | .tuple _=>.bad
 |v=>.pv (.val v)
def ev(env:Env)(o:Operand)(K:AV->Prop):Prop:=
 match o with
 | .tmp t=>look t K env
 | .const v=>K (Aj v)
 | .global _=>K .bad
 | .func f=>K (.pv (.clo f []))
def evs(env:Env)(l:XU):(List AV->Prop)->Prop:=
 List.rec (λK=>K []) (λo _ ih K=>ev env o λa=>ih λl=>K (a::l)) l
def PV.cells:PV->List PV
 | .agg cs=>cs
 |x=>[x]
def Yi(ag:Bool)(cs:List PV)(K:PV->Prop):Prop:=
 match ag with
 |true=>K (.agg cs)
 |false=>match cs with
  |[x]=>K x
  |_=>False
def cut{α:Type}(l h:Nat)(xs:List α):List α:=(xs.take h).drop l
def Sn(sz lo n:Nat)(b:cK)(K:List PV->Prop):Prop:=
 match b with
 | .row _ s _ aw=>match Nat.beq s sz with
  |true=>lo+n<=aw.length/\K (cut lo (lo+n) aw)
  |false=>False
 | .fz x=>match x with
  | .sl s aw=>match Nat.beq s sz with
   |true=>lo+n<=aw.length/\K (cut lo (lo+n) aw)
   |false=>False
  |_=>False
 |_=>False
def LI(l:List AV):(List PV->Prop)->Prop->Prop:=
 List.rec (λK _=>K [])
  (λa _ ih K hk=>match a with| .pv x=>ih (λt=>K (x::t)) hk|_=>hk) l
def lR(cs:List PV)(K:PV->Prop):Prop:=
 match cs with
 |[]=>K (.agg [])
 |c::r=>match r with
  |[]=>match c with
   | .agg _=>False
   |c=>K c
  |d::r=>K (.agg (c::d::r))
def UJ(b:cK)(K:PV->Prop):Prop:=
 match b with
 | .box _ cs=>LI cs (λxs=>lR xs λx=>K (.cptr x)) False
 |_=>False
def gk(Z:ax)(a:AV)(K:PV->Prop):Prop:=
 AV.rec (motive_1:=λ_=>(PV->Prop)->Prop) (motive_2:=λ_=>(List PV->Prop)->Prop)
  (λ_=>False)
  (λx K=>K x)
  (λid K=>eM Z id λb=>match b with
    | .row _ sz _ aw=>K (.sl sz aw)
    | .fz x=>K x
    |_=>False)
  (λid idx off K=>match idx,off with
    |0,0=>eM Z id λb=>UJ b K
    |_,_=>False)
  (λid sz lo n K=>eM Z id λb=>Sn sz lo n b λaw=>K (.sl sz aw))
  (λ_ ih K=>ih λl=>K (.agg l))
  (λ_ ih K=>ih λl=>K (.tup l))
  (λ_ _ _ _=>False)
  (λK=>K [])
  (λ_ _ h t K=>h λx=>t λl=>K (x::l)) a K
def bK(Z:ax)(l:List AV):(List PV->Prop)->Prop:=
 List.rec (λK=>K []) (λa _ ih K=>gk Z a λx=>ih λl=>K (x::l)) l
def lH(a:AV):ax->(ax->Prop)->Prop:=
 AV.rec (motive_1:=λ_=>ax->(ax->Prop)->Prop) (motive_2:=λ_=>ax->(ax->Prop)->Prop)
  (λ_ _=>False)
  (λ_ Z K=>K Z)
  (λid Z K=>eM Z id λb=>match b with
    | .row _ sz _ aw=>rJ Z id (.fz (.sl sz aw)) K
    | .fz _=>K Z
    |_=>False)
  (λ_ _ _ _ _=>False)
  (λid _ _ _ Z K=>eM Z id λb=>match b with
    | .row _ sz _ aw=>rJ Z id (.fz (.sl sz aw)) K
    | .fz _=>K Z
    |_=>False)
  (λ_ ih Z K=>ih Z K)
  (λ_ ih Z K=>ih Z K)
  (λ_ _ _ _ _=>False)
  (λZ K=>K Z)
  (λ_ _ h t Z K=>h Z λZ=>t Z K) a
def d_(l:List AV):ax->(ax->Prop)->Prop:=
 List.rec (λZ K=>K Z) (λa _ ih Z K=>lH a Z λZ=>ih Z K) l
def vQ(r:RV):ax->(AV->ax->Prop)->Prop:=
 RV.rec (motive_1:=λ_=>ax->(AV->ax->Prop)->Prop) (motive_2:=λ_=>ax->(List AV->ax->Prop)->Prop)
  (λx Z K=>K (.pv x) Z)
  (λe sz aw Z K=>me Z λn=>fv Z (.row e sz true aw) λZ=>K (.own n) Z)
  (λe sz aw Z K=>me Z λn=>fv Z (.row e sz false aw) λZ=>K (.own n) Z)
  (λ_ ih Z K=>ih Z λl Z=>K (.agg l) Z)
  (λ_ ih Z K=>ih Z λl Z=>K (.tup l) Z)
  (λl Z K=>me Z λn=>fv Z (.mp l) λZ=>K (.own n) Z)
  (λZ K=>K [] Z)
  (λ_ _ h t Z K=>h Z λa Z=>t Z λl Z=>K (a::l) Z) r
structure Spec where
 lone:Bool
 fn:Bool
 run:List PV->(RV->Prop)->Prop
 iter:List PV->List (List PV)->Prop
 mu:Bool
 j0:List AV->ax->(AV->ax->Prop)->Prop
 dt:Bool:=false
 hdt:dt=true->mu=false∧∀ps K,run ps K→∃r,K r∧∀K':RV->Prop,K' r->run ps K':=by intro h;cases h
def AT(lone fn:Bool)(run:List PV->(RV->Prop)->Prop):Spec where
 lone:=lone
 fn:=fn
 run:=run
 iter:=λ_ _=>False
 mu:=false
 j0:=λ_ _ _=>False
def lZ(j0:List AV->ax->(AV->ax->Prop)->Prop):Spec where
 lone:=false
 fn:=false
 run:=λ_ _=>False
 iter:=λ_ _=>False
 mu:=true
 j0:=j0
def dz(lone:Bool)(R:List PV->RV->Prop):Spec where
 lone:=lone
 fn:=false
 run:=λps K=>∃r,R ps r/\K r
 iter:=λ_ _=>False
 mu:=false
 j0:=λ_ _ _=>False
 dt:=true
 hdt:=λ_=>⟨rfl,λ_ _ ⟨r,U,H⟩=>⟨r,H,λ_ h=>⟨r,U,h⟩⟩⟩
abbrev Ctx:=FuncId->Spec
def vN(p:Prop)(K:PV->Prop):Prop:=∀r:Bool,(r=true↔p)->K (.bool r)
def acQ(k:IntKind)(n:Int)(K:PV->Prop):Prop:=∀r:Int,r=k.wrap n->K (.int k r)
def dB(op:BinOp)(k:IntKind)(x y:Int):Int:=
 let a:=BitVec.ofInt k.bits x
 let b:=BitVec.ofInt k.bits y
 match op with
 | .and=>k.wrap (a&&&b).toNat
 | .or=>k.wrap (a|||b).toNat
 | .xor=>k.wrap (a^^^b).toNat
 |_=>k.wrap (a&&& ~~~b).toNat
def apw(op:BinOp)(k:IntKind)(a b:Int)(K:PV->Prop):Prop:=
 match op with
 | .add=>acQ k (a+b) K
 | .sub=>acQ k (a-b) K
 | .mul=>acQ k (a*b) K
 | .quo=>b≠0/\acQ k (a.tdiv b) K
 | .rem=>b≠0∧∀r:Int,r=a.tmod b->K (.int k r)
 | .and=>∀r:Int,r=dB .and k a b->K (.int k r)
 | .or=>∀r:Int,r=dB .or k a b->K (.int k r)
 | .xor=>∀r:Int,r=dB .xor k a b->K (.int k r)
 | .andNot=>∀r:Int,r=dB .andNot k a b->K (.int k r)
 | .eql=>vN (a=b) K
 | .neq=>vN (a≠b) K
 | .lss=>vN (a<b) K
 | .leq=>vN (a<=b) K
 | .gtr=>vN (b<a) K
 | .geq=>vN (b<=a) K
 | .shl=>0<=b∧∀r:Int,r=k.wrap (a*2^min b.toNat k.bits)->K (.int k r)
 | .shr=>0<=b∧∀r:Int,r=a.fdiv (2^min b.toNat k.bits)->K (.int k r)
def sameKind(op:BinOp)(k j:IntKind):Bool:=
 match op with
 | .shl| .shr=>true
 |_=>Nat.beq k.ctorIdx j.ctorIdx
def ash(op:BinOp)(x y:PV)(K:PV->Prop):Prop:=
 match x,y with
 | .int k a,.int j b=>match sameKind op k j with
  |true=>apw op k a b K
  |false=>False
 | .str a,.str b=>match op with
  | .add=>((a.length+b.length:Nat):Int)<=9223372036854775807/\K (.str (a++b))
  | .eql=>vN (a=b) K
  | .neq=>vN (a≠b) K
  | .lss=>vN (Op.bytesLess a b=true) K
  | .leq=>vN (Op.bytesLess a b=true\/a=b) K
  | .gtr=>vN (¬(Op.bytesLess a b=true\/a=b)) K
  | .geq=>vN (¬Op.bytesLess a b=true) K
  |_=>False
 |_,_=>False
def unP(op:UnOp)(x:PV)(K:PV->Prop):Prop:=
 match op,x with
 | .not,.bool b=>vN (b=false) K
 | .neg,.int k n=>acQ k (0-n) K
 |_,_=>False
def Gf(k:Nat)(a b:PV):Bool:=
 match a,b with
 | .int i _,.int j _=>match k with|0=>decide (i=j)|_=>false
 | .str _,.str _=>match k with|1=>true|_=>false
 | .bool _,.bool _=>match k with|2=>true|_=>false
 |_,_=>false
def se(ks:QK):List PV->List PV->Bool:=
 List.rec (λa b=>match a,b with|[],[]=>true|_,_=>false)
  (λk _ ih a b=>match a,b with
    |x::a,y::b=>match Gf k x y with|true=>ih a b|false=>false
    |_,_=>false) ks
def aG(b:UInt8):PV:=.int .u8 b.toNat
def AL(Z:ax)(a:AV)(K:Nat->List PV->Prop):Prop:=
 match a with
 | .pv x=>match x with
  | .sl sz aw=>K sz aw
  | .nil sz=>K sz []
  |_=>False
 | .own id=>eM Z id λb=>match b with
  | .row _ sz _ aw=>K sz aw
  | .fz x=>match x with
   | .sl sz aw=>K sz aw
   |_=>False
  |_=>False
 | .sub id sz lo n=>eM Z id λb=>Sn sz lo n b λaw=>K sz aw
 |_=>False
def upK(n:Nat)(W:Option AV)(K:Nat->Prop):Prop:=
 match W with
 |none=>K n
 |some a=>match a with
  | .pv x=>match x with
   | .int _ h=>(0<=h/\h<=n)/\K h.toNat
   |_=>False
  |_=>False
def fX(n:Nat)(lo W:Option AV)(K:Nat->Nat->Prop):Prop:=
 match lo with
 |none=>upK n W λh=>K 0 h
 |some a=>match a with
  | .pv x=>match x with
   | .int _ l=>upK n W λh=>(0<=l/\l<=h)/\K l.toNat h
   |_=>False
  |_=>False
def evO(env:Env)(o:Option Operand)(K:Option AV->Prop):Prop:=
 match o with
 |none=>K none
 |some x=>ev env x λa=>K (some a)
def asInt(a:AV)(K:IntKind->Int->Prop):Prop:=
 match a with
 | .pv x=>match x with
  | .int k n=>K k n
  |_=>False
 |_=>False
def IJ(off:Nat)(ag:Bool)(n:Nat)(cs:List PV)(K:PV->Prop):Prop:=
 H_ off cs λr=>Nr n r λt=>Yi ag t K
def Qn(l:List PV):(List AV->Prop)->Prop:=
 List.rec (λK=>K []) (λx _ ih K=>ih λt=>K (.pv x::t)) l
def Am(a:AV)(K:List AV->Prop):Prop:=
 match a with
 | .pv x=>match x with
  | .agg cs=>Qn cs K
  | .tup _=>False
  |x=>K [.pv x]
 | .agg cs=>K cs
 | .own id=>K [.own id]
 | .ref id idx off=>K [.ref id idx off]
 | .sub id sz lo n=>K [.sub id sz lo n]
 | .clo f ep=>K [.clo f ep]
 |_=>False
def akJ(l:List AV)(K:AV->Prop):Prop:=LI l (λt=>K (.pv (.agg t))) (K (.agg l))
def Qb(ag:Bool)(cs:List AV)(K:AV->Prop):Prop:=
 match ag with
 |true=>akJ cs K
 |false=>match cs with
  |[x]=>K x
  |_=>False
def FU(Z:ax)(ag:Bool)(n:Nat)(a:AV)(K:AV->Prop):Prop:=
 match a with
 | .pv x=>match x with
  | .cptr y=>IJ 0 ag n y.cells λr=>K (.pv r)
  |_=>False
 | .ref id idx off=>eM Z id λb=>match b with
  | .row _ _ _ aw=>∃y,aw[idx]?=some y/\IJ off ag n y.cells λr=>K (.pv r)
  | .box _ cs=>H_ off cs λr=>Nr n r λt=>Qb ag t K
  | .fz x=>match x with
   | .cptr y=>IJ off ag n y.cells λr=>K (.pv r)
   |_=>False
  |_=>False
 |_=>False
def aaE(sz:Nat)(xs:List PV):Bool:=
 List.rec true (λx _ ih=>match x with
  | .tup _=>false
  |x=>match Nat.beq x.cells.length sz with
   |true=>ih
   |false=>false) xs
def agA(y:PV)(cs:List PV)(K:PV->Prop):Prop:=
 match y with
 | .agg _=>K (.agg cs)
 |_=>match cs with
  |[x]=>K x
  |_=>False
def XZ(Z:ax)(n:Nat)(a v:AV)(K:ax->Prop):Prop:=
 match a with
 | .ref id idx off=>eM Z id λb=>match b with
  | .row _ _ _ _=>gk Z v λx=>lH v Z λZ=>eM Z id λb=>match b with
   | .row e sz ap aw=>∃y,aw[idx]?=some y/\aaE n [x]=true/\A5 x.cells y.cells off λcs=>agA y cs λy'=>rJ Z id (.row e sz ap (aw.set idx y')) K
   |_=>False
  | .box e cs=>Am v λvs=>vs.length=n/\A5 vs cs off λcs=>rJ Z id (.box e cs) K
  |_=>False
 |_=>False
def MP(Z:ax)(sz:Nat)(a:AV)(i:Int)(K:AV->Prop):Prop:=
 match a with
 | .pv x=>match x with
  | .sl s aw=>match Nat.beq s sz with
   |true=>∃y,(0<=i/\aw[i.toNat]?=some y)/\K (.pv (.cptr y))
   |false=>False
  |_=>False
 | .own id=>eM Z id λb=>match b with
  | .row _ s _ aw=>match Nat.beq s sz with
   |true=>(0<=i/\i.toNat<aw.length)/\K (.ref id i.toNat 0)
   |false=>False
  | .fz x=>match x with
   | .sl s aw=>match Nat.beq s sz with
    |true=>∃y,(0<=i/\aw[i.toNat]?=some y)/\K (.pv (.cptr y))
    |false=>False
   |_=>False
  |_=>False
 | .sub id z lo n=>match Nat.beq z sz with
  |true=>eM Z id λb=>match b with
   | .row _ s _ aw=>match Nat.beq s sz with
    |true=>((0<=i/\i.toNat<n)/\lo+n<=aw.length)/\K (.ref id (lo+i.toNat) 0)
    |false=>False
   | .fz x=>match x with
    | .sl s aw=>match Nat.beq s sz with
     |true=>∃y,((0<=i/\i.toNat<n/\lo+n<=aw.length)/\aw[lo+i.toNat]?=some y)/\K (.pv (.cptr y))
     |false=>False
    |_=>False
   |_=>False
  |false=>False
 |_=>False
def We(Z:ax)(sz:Nat)(x:AV)(lo W:Option AV)(K:AV->ax->Prop):Prop:=
 match x with
 | .pv x=>match x with
  | .sl s aw=>match Nat.beq s sz with
   |true=>fX aw.length lo W λl h=>K (.pv (.sl sz (cut l h aw))) Z
   |false=>False
  | .nil s=>fX 0 lo W λ_ _=>K (.pv (.nil s)) Z
  |_=>False
 | .own id=>eM Z id λb=>match b with
  | .row _ s _ aw=>match Nat.beq s sz with
   |true=>(fX aw.length lo W λl h=>rJ Z id (.fz (.sl sz aw)) λZ=>K (.pv (.sl sz (cut l h aw))) Z)\/fX aw.length lo W λl h=>K (.sub id sz l (h-l)) Z
   |false=>False
  | .fz x=>match x with
   | .sl s aw=>match Nat.beq s sz with
    |true=>fX aw.length lo W λl h=>K (.pv (.sl sz (cut l h aw))) Z
    |false=>False
   |_=>False
  |_=>False
 | .sub id s lo0 n=>match Nat.beq s sz with
  |true=>fX n lo W λl h=>K (.sub id sz (lo0+l) (h-l)) Z
  |false=>False
 |_=>False
def Mg(Z:ax)(n sz:Nat)(x:AV)(i:Int)(K:AV->Prop):Prop:=
 match x with
 | .ref id idx off=>match idx,off with
  |0,0=>eM Z id λb=>match b with
   | .row _ s _ aw=>match Nat.beq s sz with
    |true=>(aw.length=n/\0<=i/\i.toNat<n)/\K (.ref id i.toNat 0)
    |false=>False
   |_=>False
  |_,_=>False
 |_=>False
def Nn(Z:ax)(sz:Nat)(x:AV)(ys:List PV)(K:Nat->ax->Prop):Prop:=
 match x with
 | .pv x=>match x with
  | .nil _=>K 0 Z
  |_=>False
 | .own id=>eM Z id λb=>match b with
  | .row e s ap aw=>match Nat.beq s sz with
   |true=>rJ Z id (.row e s ap (ys.take aw.length++aw.drop ys.length)) λZ=>K (min ys.length aw.length) Z
   |false=>False
  |_=>False
 | .sub id s lo n=>match Nat.beq s sz with
  |true=>eM Z id λb=>match b with
   | .row e s ap aw=>match Nat.beq s sz with
    |true=>lo+n<=aw.length/\rJ Z id (.row e s ap (aw.take lo++ys.take n++aw.drop (lo+min ys.length n))) λZ=>K (min ys.length n) Z
    |false=>False
   |_=>False
  |false=>False
 |_=>False
def WE(Z:ax)(id:Nat)(p:Prop):Prop:=
 eM Z id λb=>match b with
  | .row _ _ _ _=>p
  | .box _ _=>p
  | .fz x=>match x with
   | .cptr _=>p
   |_=>False
  |_=>False
def acD(Z:ax)(off:Nat)(a:AV)(K:AV->Prop):Prop:=
 match a with
 | .pv x=>match x with
  | .cptr y=>H_ off y.cells λr=>K (.pv (.cptr (.agg r)))
  |_=>False
 | .ref id idx o=>WE Z id (K (.ref id idx (Nat.add o off)))
 |_=>False
def PY(l:List (Int×Bool))(n:Int):Option Bool:=
 List.rec none (λp _ ih=>match decide (n=p.1)with|true=>some p.2|false=>ih) l
def aim(Z:ax)(c:Bool)(x k:AV)(K:AV->Prop):Prop:=
 match x with
 | .own id=>eM Z id λb=>match b with
  | .mp l=>match k with
   | .pv y=>match y with
    | .int kd n=>match kd with
     | .i64=>match c with
      |true=>K (.tup [.pv (.bool ((PY l n).getD false)),.pv (.bool (PY l n).isSome)])
      |false=>K (.pv (.bool ((PY l n).getD false)))
     |_=>False
    |_=>False
   |_=>False
  |_=>False
 |_=>False
def aAz(Z:ax)(a:AV)(K:Bool->Prop):Prop:=
 match a with
 | .pv x=>match x with
  | .nil _=>K true
  | .sl _ aw=>∀r:Bool,(aw≠[]->r=false)->K r
  |_=>False
 | .own id=>eM Z id λb=>match b with
  | .row _ _ _ aw=>∀r:Bool,(aw≠[]->r=false)->K r
  | .fz x=>match x with
   | .sl _ aw=>∀r:Bool,(aw≠[]->r=false)->K r
   |_=>False
  |_=>False
 |_=>False
def LK(z:List AV)(ps:List (Nat×Nat×AV)):(List AV->Prop)->Prop:=
 List.rec (λz K=>K z)
  (λp _ ih z K=>Am p.2.2 λvs=>vs.length=p.2.1/\A5 vs z p.1 λz=>ih z K) ps z
def EG(env:Env)(l:List (Nat×Nat×Operand)):(List (Nat×Nat×AV)->Prop)->Prop:=
 List.rec (λK=>K []) (λo _ ih K=>ev env o.2.2 λa=>ih λl=>K ((o.1,o.2.1,a)::l)) l
def aeJ(Z:ax)(e:TypeId)(sz bytes:Nat)(x:AV)(ys:List PV)(K:AV->ax->Prop):Prop:=
 match x with
 | .pv x=>match x with
  | .nil _=>(ys.length*bytes<=140737488355328/\ys.length<=9223372036854775807)/\me Z λn=>fv Z (.row e sz true ys) λZ=>K (.own n) Z
  |_=>False
 | .own id=>eM Z id λb=>match b with
  | .row e' s ap aw=>match ap,Nat.beq s sz,Nat.beq e' e with
   |true,true,true=>((aw.length+ys.length)*bytes<=140737488355328/\aw.length+ys.length<=9223372036854775807)/\
    rJ Z id .dead λZ=>me Z λn=>fv Z (.row e sz true (aw++ys)) λZ=>K (.own n) Z
   |_,_,_=>False
  |_=>False
 |_=>False
def xX(l:List AV):ax->(List PV->ax->Prop)->Prop:=
 List.rec (λZ K=>K [] Z) (λa _ ih Z K=>match a with
  | .ref id _ off=>eM Z id λb=>match b,off with
   | .box _ cs,0=>bK Z cs λt=>lR t λx=>d_ cs Z λZ=>rJ Z id (.fz (.cptr x)) λZ=>ih Z λxs Z=>K (.cptr x::xs) Z
   | .fz x,0=>match x with
    | .cptr y=>ih Z λxs Z=>K (.cptr y::xs) Z
    |_=>False
   |_,_=>False
  | .pv x=>match x with
   | .cptr y=>ih Z λxs Z=>K (.cptr y::xs) Z
   |_=>False
  |_=>False) l
def Xy(n:Nat)(l:QK):Bool:=List.rec false (λa _ ih=>Bool.rec ih true (Nat.beq a n)) l
def abK(n:Nat)(l:QK)(K:QK->Prop):Prop:=Bool.rec (fv l n K) (K l) (Xy n l)
def aho(a:AV):QK->(QK->Prop)->Prop:=
 AV.rec (motive_1:=λ_=>QK->(QK->Prop)->Prop) (motive_2:=λ_=>QK->(QK->Prop)->Prop)
  (λl K=>K l) (λ_ l K=>K l) (λid l K=>abK id l K) (λid _ _ l K=>abK id l K) (λid _ _ _ l K=>abK id l K)
  (λ_ ih l K=>ih l K) (λ_ ih l K=>ih l K) (λ_ _ ih l K=>ih l K) (λl K=>K l) (λ_ _ h t l K=>h l λl=>t l K) a
def P7(aM1:List AV):QK->(QK->Prop)->Prop:=
 List.rec (λl K=>K l) (λa _ ih l K=>aho a l λl=>ih l K) aM1
def apM(e:Env):QK->(QK->Prop)->Prop:=
 List.rec (λl K=>K l) (λa _ ih l K=>aho a.2 l λl=>ih l K) e
def TJ(Z:ax)(r:QK):QK->(QK->Prop)->Prop:=
 List.rec (λl K=>K l)
  (λi _ ih l K=>eM Z i λb=>match b with
    | .box _ cs=>P7 cs l λl=>ih l K
    |_=>ih l K) r
def DW(n:Nat)(l:QK):(Nat->Prop)->Prop->Prop:=
 List.rec (λ_ hk=>hk)
  (λa _ ih K hk=>Bool.rec (ih (λj=>K (Nat.succ j)) hk) (K 0) (Nat.beq a n)) l
def ah3(r:QK)(a:AV):(AV->Prop)->Prop:=
 AV.rec (motive_1:=λ_=>(AV->Prop)->Prop) (motive_2:=λ_=>(List AV->Prop)->Prop)
  (λK=>K .bad) (λx K=>K (.pv x)) (λid K=>DW id r (λj=>K (.own j)) False) (λid i o K=>DW id r (λj=>K (.ref j i o)) False) (λid s l n K=>DW id r (λj=>K (.sub j s l n)) False)
  (λ_ ih K=>ih λl=>K (.agg l)) (λ_ ih K=>ih λl=>K (.tup l)) (λf _ ih K=>ih λl=>K (.clo f l)) (λK=>K []) (λ_ _ h t K=>h λa=>t λl=>K (a::l)) a
def S5(r:QK)(l:List AV):(List AV->Prop)->Prop:=
 List.rec (λK=>K []) (λa _ ih K=>ah3 r a λa=>ih λl=>K (a::l)) l
def anS(r:QK)(e:Env):(Env->Prop)->Prop:=
 List.rec (λK=>K []) (λa _ ih K=>ah3 r a.2 λv=>ih λl=>K ((a.1,v)::l)) e
def amb(r:QK)(b:cK)(K:cK->Prop):Prop:=
 match b with
 | .box e cs=>S5 r cs λcs=>K (.box e cs)
 |b=>K b
def TD(Z:ax)(r l:QK):(ax->Prop)->Prop:=
 List.rec (λK=>K []) (λi _ ih K=>eM Z i λb=>amb r b λb=>ih λt=>K (b::t)) l
def aAu(Z:ax):QK->Nat->(QK->Prop)->Prop:=
 List.rec (λ_ _ K=>K [])
  (λ_ _ ih r L K=>match r with
    |a::r=>ih r L λt=>K (a::t)
    |[]=>ih [] (Nat.succ L) λt=>K (L::t)) Z
def arK(ρ:QK)(a:AV):(AV->Prop)->Prop:=
 AV.rec (motive_1:=λ_=>(AV->Prop)->Prop) (motive_2:=λ_=>(List AV->Prop)->Prop)
  (λK=>K .bad) (λx K=>K (.pv x)) (λid K=>eM ρ id λj=>K (.own j)) (λid i o K=>eM ρ id λj=>K (.ref j i o)) (λid s l n K=>eM ρ id λj=>K (.sub j s l n))
  (λ_ ih K=>ih λl=>K (.agg l)) (λ_ ih K=>ih λl=>K (.tup l)) (λf _ ih K=>ih λl=>K (.clo f l)) (λK=>K []) (λ_ _ h t K=>h λa=>t λl=>K (a::l)) a
def auN(ρ:QK)(l:List AV):(List AV->Prop)->Prop:=
 List.rec (λK=>K []) (λa _ ih K=>arK ρ a λa=>ih λl=>K (a::l)) l
def au1(ρ:QK)(b:cK)(K:cK->Prop):Prop:=
 match b with
 | .box e cs=>auN ρ cs λcs=>K (.box e cs)
 |b=>K b
def aie(ρ:QK)(σ1:ax):QK->ax->(ax->Prop)->Prop:=
 List.rec (λ_ Z K=>K Z)
  (λb _ ih r Z K=>au1 ρ b λb=>match r with
    |a::r=>rJ Z a b λZ=>ih r Z K
    |[]=>fv Z b λZ=>ih [] Z K) σ1
def azD(r:QK)(Z:ax)(res:AV)(σ1:ax)(K:AV->ax->Prop):Prop:=
 me Z λL=>aAu σ1 r L λρ=>arK ρ res λres=>aie ρ σ1 r Z λZ=>K res Z
def anY(run:List AV->ax->(AV->ax->Prop)->Prop)(aM1:List AV)(Z:ax)(K:AV->ax->Prop):Prop:=
 P7 aM1 [] λl=>TJ Z l l λr=>S5 r aM1 λas'=>TD Z r r λσ0=>run as' σ0 λres σ1=>azD r Z res σ1 K
def F_(S:Spec)(aM1:List AV)(Z:ax)(K:AV->ax->Prop):Prop:=
 match S.mu with
 |true=>anY S.j0 aM1 Z K
 |false=>bK Z aM1 λps=>match S.lone with
  |true=>S.run ps λr=>vQ r Z K
  |false=>d_ aM1 Z λZ=>S.run ps λr=>vQ r Z K
def ao0(l m:List AV):(List AV->Prop)->Prop:=
 List.rec (λK=>K m) (λa _ ih K=>ih λt=>K (a::t)) l
def RQ(Γ:Ctx)(f:AV)(aM1:List AV)(Z:ax)(K:AV->ax->Prop):Prop:=
 match f with
 | .pv x=>match x with
  | .clo g ep=>Qn ep λcs=>ao0 aM1 cs λaM1=>F_ (Γ g) aM1 Z K
  |_=>False
 | .clo g cs=>ao0 aM1 cs λaM1=>F_ (Γ g) aM1 Z K
 |_=>False
def kb(Γ:Ctx)(env:Env)(Z:ax)(k:PK)(K:AV->ax->Prop):Prop:=
 match k with
 | .mv x=>ev env x λa=>K a Z
 | .nilS sz=>K (.pv (.nil sz)) Z
 | .nilR e sz=>me Z λn=>fv Z (.row e sz true []) λZ=>K (.own n) Z
 | .pick c a b=>ev env c λc=>match c with
  | .pv c=>match c with
   | .bool c=>match c with
    |true=>ev env a λa=>K a Z
    |false=>ev env b λa=>K a Z
   |_=>False
  |_=>False
 | .bin op x y=>ev env x λx=>ev env y λy=>match x,y with
  | .pv x,.pv y=>ash op x y λr=>K (.pv r) Z
  |_,_=>False
 | .eqb neg x y=>ev env x λx=>ev env y λy=>match x,y with
  | .pv x,.pv y=>match x,y with
   | .bool a,.bool b=>match neg with
    |false=>vN (a=b) λr=>K (.pv r) Z
    |true=>vN (a≠b) λr=>K (.pv r) Z
   |_,_=>False
  |_,_=>False
 | .eqs neg ks x y=>ev env x λx=>ev env y λy=>match x,y with
  | .pv x,.pv y=>match x,y with
   | .agg a,.agg b=>match se ks a b with
    |true=>match neg with
     |false=>vN (a=b) λr=>K (.pv r) Z
     |true=>vN (a≠b) λr=>K (.pv r) Z
    |false=>False
   |_,_=>False
  |_,_=>False
 | .un op x=>ev env x λx=>match x with
  | .pv x=>unP op x λr=>K (.pv r) Z
  |_=>False
 | .conv c x=>ev env x λx=>match c with
  | .toInt k=>asInt x λ_ n=>acQ k n λr=>K (.pv r) Z
  | .same=>match x with
   | .pv x=>match x with
    | .str l=>K (.pv (.str l)) Z
    |_=>False
   |_=>False
  | .bts=>AL Z x λ_ aw=>∃l:P8,aw=l.map aG/\K (.pv (.str l)) Z
  | .stb e=>match x with
   | .pv x=>match x with
    | .str l=>l.length<=9223372036854775807/\me Z λn=>fv Z (.row e 1 false (l.map aG)) λZ=>K (.own n) Z
    |_=>False
   |_=>False
 | .lenS x=>ev env x λx=>match x with
  | .pv x=>match x with
   | .str l=>K (.pv (.int .i64 l.length)) Z
   |_=>False
  |_=>False
 | .lenR x=>ev env x λx=>AL Z x λ_ aw=>aw.length<=9223372036854775807->K (.pv (.int .i64 aw.length)) Z
 | .lenN x=>ev env x λx=>AL Z x λ_ aw=>K (.pv (.int .i64 aw.length)) Z
 | .mm mx x y=>ev env x λx=>ev env y λy=>asInt x λk a=>asInt y λ_ b=>
  match mx with
  |true=>∀r:Int,r=max a b->K (.pv (.int k r)) Z
  |false=>∀r:Int,r=min a b->K (.pv (.int k r)) Z
 | .idx x i=>ev env x λx=>ev env i λi=>asInt i λ_ i=>match x with
  | .pv x=>match x with
   | .str l=>∃b,(0<=i/\l[i.toNat]?=some b)/\K (.pv (aG b)) Z
   |_=>False
  |_=>False
 | .slcS x lo W=>ev env x λx=>evO env lo λlo=>evO env W λW=>match x with
  | .pv x=>match x with
   | .str s=>fX s.length lo W λl h=>K (.pv (.str (cut l h s))) Z
   |_=>False
  |_=>False
 | .slcR sz x lo W=>ev env x λx=>evO env lo λlo=>evO env W λW=>We Z sz x lo W K
 | .idxA sz x i=>ev env x λx=>ev env i λi=>asInt i λ_ i=>MP Z sz x i λa=>K a Z
 | .fldA off x=>ev env x λx=>acD Z off x λa=>K a Z
 | .fld off ag n x=>ev env x λx=>match x with
  | .pv x=>match x with
   | .agg cs=>IJ off ag n cs λr=>K (.pv r) Z
   |_=>False
  | .agg cs=>H_ off cs λr=>Nr n r λt=>Qb ag t λa=>K a Z
  |_=>False
 | .load ag n x=>ev env x λx=>FU Z ag n x λa=>K a Z
 | .store n x v=>ev env x λx=>ev env v λv=>XZ Z n x v λZ=>K .bad Z
 | .alloc e z=>Qn z.cells λcs=>me Z λn=>fv Z (.box e cs) λZ=>K (.ref n 0 0) Z
 | .box e x=>ev env x λx=>Am x λcs=>me Z λn=>fv Z (.box e cs) λZ=>K (.ref n 0 0) Z
 | .build z parts=>EG env parts λps=>Qn z λz=>LK z ps λcs=>akJ cs λa=>K a Z
 | .bslice e sz parts=>evs env parts λaM1=>bK Z aM1 λxs=>aaE sz xs=true/\d_ aM1 Z λZ=>me Z λn=>fv Z (.row e sz true xs) λZ=>K (.own n) Z
 | .bslP e sz parts=>evs env parts λaM1=>bK Z aM1 λxs=>aaE sz xs=true/\d_ aM1 Z λZ=>me Z λn=>fv Z (.row e sz true xs) λZ=>K (.own n) Z
 | .app e sz bytes x y=>ev env x λx=>ev env y λy=>AL Z y λs ys=>match Nat.beq s sz with
  |true=>aeJ Z e sz bytes x ys K
  |false=>False
 | .appS e bytes x y=>ev env x λx=>ev env y λy=>match y with
  | .pv y=>match y with
   | .str l=>aeJ Z e 1 bytes x (l.map aG) K
   |_=>False
  |_=>False
 | .mksl e sz bytes z l c=>ev env l λl=>ev env c λc=>asInt l λ_ l=>asInt c λ_ c=>
  (0<=l/\l<=c/\(bytes:Int)*c<=281474976710656/\c<=9223372036854775807)/\me Z λn=>fv Z (.row e sz true (List.replicate l.toNat z)) λZ=>K (.own n) Z
 | .call f args=>evs env args λaM1=>F_ (Γ f) aM1 Z K
 | .callv f args=>ev env f λf=>evs env args λaM1=>RQ Γ f aM1 Z K
 | .ext x i=>ev env x λx=>match x with
  | .tup l=>eM l i λa=>K a Z
  | .pv x=>match x with
   | .tup l=>eM l i λa=>K (.pv a) Z
   |_=>False
  |_=>False
 | .nilck x=>ev env x λx=>match x with
  | .ref id idx off=>WE Z id (K (.ref id idx off) Z)
  | .pv x=>match x with
   | .cptr y=>K (.pv (.cptr y)) Z
   | .clo f cs=>K (.pv (.clo f cs)) Z
   |_=>False
  | .clo f cs=>K (.clo f cs) Z
  |_=>False
 | .mkf f ep=>evs env ep λaM1=>match (Γ f).mu with
  |true=>K (.clo f aM1) Z
  |false=>xX aM1 Z λxs Z=>K (.pv (.clo f xs)) Z
 | .fail=>False
 | .junk=>K .bad Z
 | .cpyS x y=>ev env x λx=>ev env y λy=>match y with
  | .pv y=>match y with
   | .str l=>Nn Z 1 x (l.map aG) λn Z=>K (.pv (.int .i64 n)) Z
   |_=>False
  |_=>False
 | .clr sz z x=>ev env x λx=>AL Z x λ_ aw=>Nn Z sz x (List.replicate aw.length z) λ_ Z=>K .bad Z
 | .mkarr e sz z n=>me Z λm=>fv Z (.row e sz false (List.replicate n z)) λZ=>K (.ref m 0 0) Z
 | .idxAr n sz x i=>ev env x λx=>ev env i λi=>asInt i λ_ i=>Mg Z n sz x i λa=>K a Z
 | .look c x k=>ev env x λx=>ev env k λk=>aim Z c x k λr=>K r Z
 | .isnil neg x=>ev env x λx=>aAz Z x λr=>K (.pv (.bool (xor r neg))) Z
def put(d:Option Nat)(v:AV)(env:Env):Env:=match d with|some d=>(d,v)::env|none=>env
def HV(Γ:Ctx)(K:Env->ax->Prop)(ops:List PO):Env->ax->Prop:=
 List.rec K (λo _ ih env Z=>
  match o.g with
  |none=>kb Γ env Z o.k λv Z=>ih (put o.dst v env) Z
  |some (g,want)=>look g (λgv=>match gv with
   | .pv x=>match x with
    | .bool b=>match b with
     |true=>(match want with
      |true=>kb Γ env Z o.k λv Z=>ih (put o.dst v env) Z
      |false=>ih (put o.dst (.pv (.tup [])) env) Z)
     |false=>(match want with
      |false=>kb Γ env Z o.k λv Z=>ih (put o.dst v env) Z
      |true=>ih (put o.dst (.pv (.tup [])) env) Z)
    | .tup _=>ih (put o.dst (.pv (.tup [])) env) Z
    |_=>False
   |_=>False) env) ops
def auQ(Γ:Ctx)(o:PO)(env:Env)(Z:ax)(K:Env->ax->Prop):Prop:=
 match o.g with
 |none=>kb Γ env Z o.k λv Z=>K (put o.dst v env) Z
 |some (g,want)=>look g (λgv=>match gv with
  | .pv x=>match x with
   | .bool b=>match b with
    |true=>(match want with
     |true=>kb Γ env Z o.k λv Z=>K (put o.dst v env) Z
     |false=>K (put o.dst (.pv (.tup [])) env) Z)
    |false=>(match want with
     |false=>kb Γ env Z o.k λv Z=>K (put o.dst v env) Z
     |true=>K (put o.dst (.pv (.tup [])) env) Z)
   | .tup _=>K (put o.dst (.pv (.tup [])) env) Z
   |_=>False
  |_=>False) env
def aaW(p:Nat)(e:Env):AV:=
 List.rec .bad (λhd _ ih=>Bool.rec ih hd.2 (Nat.beq hd.1 p)) e
def nL:Operand->QK
 | .tmp t=>[t]
 |_=>[]
def rdO:Option Operand->QK
 |some x=>nL x
 |none=>[]
def PK.reads:PK->QK
 | .mv x| .un _ x| .conv _ x| .lenS x| .lenR x| .lenN x| .fldA _ x| .fld _ _ _ x| .load _ _ x| .box _ x| .ext x _| .nilck x=>nL x
 | .nilS _| .nilR _ _| .alloc _ _| .fail| .junk| .mkarr _ _ _ _=>[]
 | .cpyS x y| .idxAr _ _ x y=>nL x++nL y
 | .clr _ _ x=>nL x
 | .isnil _ x=>nL x
 | .look _ x y=>nL x++nL y
 | .pick c a b=>nL c++(nL a++nL b)
 | .bin _ x y| .eqb _ x y| .eqs _ _ x y| .mm _ x y| .idx x y| .idxA _ x y| .store _ x y| .app _ _ _ x y| .appS _ _ x y=>nL x++nL y
 | .mksl _ _ _ _ x y=>nL x++nL y
 | .slcS x lo W| .slcR _ x lo W=>nL x++(rdO lo++rdO W)
 | .build _ ps=>ps.flatMap λp=>nL p.2.2
 | .bslice _ _ l| .bslP _ _ l| .call _ l| .mkf _ l=>l.flatMap nL
 | .callv f l=>nL f++l.flatMap nL
def PK.pure(Γ:Ctx):PK->Bool
 | .mv _| .nilS _| .pick _ _ _| .bin _ _ _| .eqb _ _ _| .eqs _ _ _ _| .un _ _| .lenS _| .lenN _| .mm _ _ _| .idx _ _| .slcS _ _ _| .idxA _ _ _| .idxAr _ _ _ _| .fldA _ _| .fld _ _ _ _| .load _ _ _| .ext _ _| .nilck _| .build _ _=>true
 | .conv c _=>match c with| .stb _=>false|_=>true
 | .call f _=>(Γ f).fn
 |_=>false
def PK.plain:PK->PK
 | .lenR x=>.lenN x
 | .bslice e sz l=>.bslP e sz l
 |k=>k
def PO.plain(o:PO):PO:=⟨o.dst,o.g,o.k.plain⟩
def PO.reads(o:PO):QK:=(match o.g with|some (g,_)=>[g]|none=>[])++o.k.reads
def Iw(p o:PO):Bool:=
 (match p.dst with|some d=>o.reads.contains d||(match o.dst with|some e=>d==e|none=>false)|none=>false)||
 (match o.dst with|some d=>p.reads.contains d|none=>false)
def aps(kh:List (QK)):List (QK):=
 kh.foldl (λacc l=>acc++[(l++l.flatMap λe=>acc.getD e []).eraseDups]) []
def ahH(kh bs:List (QK)):Bool:=
 kh.zipIdx.all λ(l,i)=>l.all (λe=>Nat.blt e i)&&(bs.getD i []).all λj=>l.contains j||l.any λe=>(bs.getD e []).contains j
def PK.still:PK->Bool
 | .mv _| .nilS _| .pick _ _ _| .bin _ _ _| .eqb _ _ _| .eqs _ _ _ _| .un _ _| .lenS _| .mm _ _ _| .ext _ _=>true
 | .conv c _=>match c with| .toInt _=>true|_=>false
 |_=>false
def PK.al:PK->Bool
 | .alloc _ _| .box _ _=>true
 |_=>false
def TB(Γ:Ctx)(o p:PO):Bool:=o.k.pure Γ&&p.k.pure Γ
def LL(Γ:Ctx)(ops:List PO)(kh:List (QK)):Bool:=
 let bs:=aps kh
 kh.length==ops.length&&ahH kh bs&&ops.zipIdx.all λ(o,i)=>ops.zipIdx.all λ(p,j)=>
  !Nat.blt j i||(bs.getD i []).contains j||(TB Γ o p&&!Iw p o)
def AV.ids(a:AV):QK:=
 AV.rec (motive_1:=λ_=>QK) (motive_2:=λ_=>QK) [] (λ_=>[]) (λid=>[id]) (λid _ _=>[id]) (λid _ _ _=>[id])
  (λ_ ih=>ih) (λ_ ih=>ih) (λ_ _ ih=>ih) [] (λ_ _ h t=>h++t) a
def XN(l:List AV):QK:=List.rec [] (λa _ ih=>a.ids++ih) l
def ae6(env:Env)(l:QK):QK:=List.rec [] (λt _ ih=>(aaW t env).ids++ih) l
def NZ(Z:ax)(l:QK):QK:=List.rec [] (λi _ ih=>(match Z[i]? with|some (.box _ cs)=>XN cs|_=>[])++ih) l
def PK.dk(Γ:Ctx)(k:PK):Bool:=
 k.pure Γ||k.still||k.al||match k with
  | .store _ _ _| .app _ _ _ _ _| .slcR _ _ _ _| .cpyS _ _| .look _ _ _| .bslP _ _ _=>true
  | .mkf f _=>!(Γ f).mu
  | .call f _=>(Γ f).dt
  |_=>false
def PK.turns(Γ:Ctx)(k:PK):Bool:=
 match k with
  | .store _ _ _| .app _ _ _ _ _| .slcR _ _ _ _| .mkf _ _| .cpyS _ _| .bslP _ _ _=>true
  | .call f _=>!(Γ f).fn&&!(Γ f).lone
  |_=>false
def PK.reach(k:PK)(env:Env)(Z:ax):QK:=
 match k.still||k.al with
 |true=>[]
 |false=>match k with
  | .mkf _ _=>ae6 env k.reads++NZ Z (ae6 env k.reads)
  |k=>ae6 env k.reads
abbrev Lg:=Nat×QK×QK
def vcD(Γ:Ctx)(K:List Lg->Env->ax->Prop)(ops:List PO):List Lg->Env->ax->Prop:=
 List.rec (λlog env Z=>K log env Z) (λo _ ih log env Z=>
  auQ Γ o env Z λaB σ'=>ih ((σ'.length,o.k.reach env Z,(match o.dst with|some d=>(aaW d aB).ids|none=>[]))::log) aB σ') ops
def apart(l m:QK):Bool:=l.all λi=>!m.contains i
def azA(n:Nat)(l:QK):Bool:=l.all λi=>Nat.blt i n
def ar_(a b:Nat)(l:QK):Bool:=l.all λi=>Nat.blt i a||Nat.ble b i
def WZ(Γ:Ctx)(ops:List PO)(kh:List (QK)):Bool:=kh.length==ops.length&&ahH kh (aps kh)&&ops.all λo=>o.k.dk Γ
def azl(n0:Nat)(lg:List Lg)(i:Nat):Nat:=match i with|0=>n0|i+1=>(lg.getD i (0,[],[])).1
def awN(Γ:Ctx)(ops:List PO)(kh:List (QK))(n0:Nat)(log:List Lg):Bool:=
 let bs:=aps kh
 let lg:=log.reverse
 let len:=azl n0 lg
 let A:=λi=>(lg.getD i (0,[],[])).2.1
 let aa:=λi=>(lg.getD i (0,[],[])).2.2
 let M:=λ(i:Nat) (o:PO)=>match o.k.turns Γ with|true=>A i|false=>[]
 ops.zipIdx.all λ(o,i)=>azA (len (i+1)) (aa i)&&ops.zipIdx.all λ(p,j)=>
  !Nat.blt j i||(bs.getD i []).contains j||(!Iw p o&&apart (M j p) (A i)&&ar_ (len j) (len (j+1)) (A i)&&apart (M i o) (A j)&&ar_ (len i) (len (i+1)) (A j)&&ar_ (len j) (len (j+1)) (aa i))
def canon(env:Env)(ps:QK):(Env->Prop)->Prop:=
 List.rec (λK=>K []) (λp _ ih K=>look p (λv=>ih λr=>K ((p,v)::r)) env) ps
def gc(pin:QK)(env:Env)(Z:ax)(ps:QK)(K:Env->ax->Prop):Prop:=
 canon env ps λenv=>apM env pin λl=>TJ Z l l λr=>anS r env λenv=>TD Z r r λZ=>K env Z
inductive Ex where
 |normal|exit (id:Nat)|ret
def arW(B:Env->ax->Prop)(Q:Ex->Env->ax->Prop):Ex->Env->ax->Prop
 | .normal,e,Z=>B e Z
 | .exit i,e,Z=>Q (.exit i) e Z
 | .ret,e,Z=>Q .ret e Z
def agq(id:Nat)(Q:Ex->Env->ax->Prop):Ex->Env->ax->Prop
 | .exit i,e,Z=>match Nat.beq i id with|true=>Q .normal e Z|false=>Q (.exit i) e Z
 | .normal,e,Z=>Q .normal e Z
 | .ret,e,Z=>Q .ret e Z
def YA(pin ps:QK)(B:(Ex->Env->ax->Prop)->Env->ax->Prop)(Q:Ex->Env->ax->Prop)(env:Env)(Z:ax):Prop:=
 ∃(hb:Nat->Env->ax->Prop) (n:Nat),hb n env Z∧∀n env Z,hb n env Z->B (arW (λe Z=>gc pin e Z ps λe' σ'=>∃m,m<n/\hb m e' σ') Q) env Z
def apx(ps:QK):List PV->Env->(Env->Prop)->Prop:=
 List.rec (λxs env K=>match xs with|[]=>K env|_=>False)
  (λp _ ih xs env K=>match xs with|[]=>False|x::xs=>ih xs ((p,.pv x)::env) K) ps
def U0(Z:ax):Bool:=List.rec true (λb _ ih=>match b with| .mp _=>false|_=>ih) Z
def afk(pin ps:QK)(Q:Ex->Env->ax->Prop)(env:Env)(hb:List (List PV)->ax->Prop)(L pre:List (List PV)):Ex->Env->ax->Prop
 | .normal,_,Z=>gc pin env Z ps λaB σ'=>aB=env/\U0 σ'=true/\hb pre σ'
 | .exit i,_,Z=>U0 Z=true/\(pre<+:L->Q (.exit i) env Z)
 | .ret,_,Z=>U0 Z=true/\(pre<+:L->Q .ret env Z)
def ZC(Γ:Ctx)(pin qs ps:QK)(ap5:List PO)(B:(Ex->Env->ax->Prop)->Env->ax->Prop)(Q:Ex->Env->ax->Prop)(f:AV)(env:Env)(σ0:ax):Prop:=
 match f with
 | .pv x=>match x with
  | .clo g ep=>∃(L:List (List PV)) (hb:List (List PV)->ax->Prop),(Γ g).iter ep L/\(∀x∈L,x.length=ps.length)/\(U0 σ0=true/\hb [] σ0)/\
   (∀pre x Z,x∈L->L[pre.length]?=some x->hb pre Z->apx ps x env λaB=>HV Γ (λaAD Z=>B (afk (List.range σ0.length) qs Q env hb L (pre++[x])) aAD Z) ap5 aB Z)/\
   ∀Z,hb L Z->Q .normal env Z
  |_=>False
 |_=>False
def pvB(l:List AV):Bool:=List.rec true (λa _ ih=>match a with
 | .pv x=>match x with
  | .agg _=>false
  |_=>ih
 |_=>false) l
def az6(Z:ax)(a:AV):Bool:=
 match a with
 | .ref id idx off=>match idx,off with
  |0,0=>match Z[id]? with
   |some b=>match b with
    | .box _ cs=>pvB cs
    |_=>false
   |_=>false
  |_,_=>false
 |_=>false
def akc(t:Nat)(K:Env->ax->Prop)(env:Env)(Z:ax):Prop:=
 look t (λa=>match az6 Z a with
  |true=>xX [a] Z λxs σ'=>match xs with
   |[]=>False
   |x::_=>K ((t,.pv x)::env) σ'
  |false=>K env Z) env
def Oj(l:XU)(K:Env->ax->Prop):Env->ax->Prop:=
 List.rec K (λo _ ih=>match o with
  | .tmp t=>akc t ih
  |_=>ih) l
def axj(ops:List PO)(K:Env->ax->Prop):Env->ax->Prop:=
 List.rec K (λo _ ih=>match o.k with
  | .mkf _ l=>Oj l ih
  |_=>ih) ops
def isK(live:QK):Bool:=match live with
 |[]=>false
 |m::_=>Nat.beq m 4096
def dm(c:PC):Bool:=
 PC.rec true (λ_=>true) (λ_ _=>true) (λ_ _=>true) (λ_ _ a b=>match a with|true=>b|false=>false) (λ_ _ _ a b=>match a with|true=>b|false=>false) (λ_ _ b=>b) (λlive _ b=>match isK live with|true=>b|false=>false) (λ_ _ _ _ _=>false) (λ_=>true) true c
def ail(ps:QK)(B:(Ex->Env->ax->Prop)->Env->ax->Prop)(Q:Ex->Env->ax->Prop)(pin:QK)(env:Env)(Z:ax):Prop:=
 gc pin env Z ps λenv Z=>YA pin ps B Q env Z
def vc(Γ:Ctx)(pin ps:QK)(c:PC):(Ex->Env->ax->Prop)->Env->ax->Prop:=
 PC.rec
  (λQ env Z=>Q .normal env Z)
  (λops Q env Z=>canon env ps λenv=>HV Γ (Q .normal) ops env Z)
  (λops kh Q env Z=>LL Γ ops kh=true/\canon env ps λenv=>HV Γ (Q .normal) ops env Z)
  (λops kh Q env Z=>WZ Γ ops kh=true/\canon env ps λenv=>axj ops (λenv Z=>vcD Γ (λlog aB σ'=>awN Γ ops kh Z.length log=true/\Q .normal aB σ') ops [] env Z) env Z)
  (λ_ _ A B Q env Z=>A (arW (B Q) Q) env Z)
  (λc _ _ hx hk Q env Z=>ev env c λc=>match c with
    | .pv x=>match x with
     | .bool b=>match b with
      |true=>hx Q env Z
      |false=>hk Q env Z
     |_=>False
    |_=>False)
  (λid _ B Q env Z=>B (agq id Q) env Z)
  (λlive b B Q env Z=>match isK live with
    |true=>match dm b with
     |true=>ail live.tail B Q (List.range Z.length) env Z
     |false=>False
    |false=>gc pin env Z live λenv Z=>YA pin live B Q env Z)
  (λf qs ap5 b B Q env Z=>match dm b with
    |true=>canon env ps λenv=>ev env f λf=>ZC Γ pin ps qs ap5 B Q f env Z
    |false=>False)
  (λid Q env Z=>Q (.exit id) env Z)
  (λQ env Z=>Q .ret env Z) c
def abH(Z:ax)(a:AV)(r:RV):Prop:=
 match a with
 | .pv x=>match r with
  | .pv y=>match x with
   | .nil s=>y=.nil s\/y=.sl s []
   |x=>y=x
  | .fresh _ s aw=>match x with
   | .nil s'=>(s=s'/\aw=[])/\0<s
   |_=>False
  | .row _ s aw=>match x with
   | .nil s'=>(s=s'/\aw=[])/\0<s
   |_=>False
  |_=>False
 | .own id=>eM Z id λb=>match b with
  | .row e sz ap aw=>match r with
   | .fresh e' sz' els'=>ap=true/\e'=e/\sz'=sz/\els'=aw
   | .row e' sz' els'=>e'=e/\sz'=sz/\els'=aw
   | .pv y=>y=.sl sz aw
   |_=>False
  | .fz x=>match r with
   | .pv y=>y=x
   |_=>False
  |_=>False
 | .sub id sz lo n=>eM Z id λb=>Sn sz lo n b λaw=>match r with
  | .pv y=>y=.sl sz aw
  |_=>False
 | .ref id idx off=>match r with
  | .pv y=>match idx,off with
   |0,0=>eM Z id λb=>match b with
    | .box _ cs=>LI cs (λxs=>lR xs λx=>y=.cptr x) False
    |_=>False
   |_,_=>False
  |_=>False
 |_=>False
def QZ(Z:ax)(l:List AV):List RV->Prop:=
 List.rec (λrs=>match rs with|[]=>True|_=>False)
  (λa _ ih rs=>match rs with|r::rs=>abH Z a r/\ih rs|[]=>False) l
def Rt(Z:ax)(a:AV)(r:RV):Prop:=
 match a with
 | .agg cs=>match r with
  | .pv y=>bK Z cs λxs=>y=.agg xs
  | .agg rs=>QZ Z cs rs
  |_=>False
 |a=>abH Z a r
def M3(Z:ax)(l:List AV):List RV->Prop:=
 List.rec (λrs=>match rs with|[]=>True|_=>False)
  (λa _ ih rs=>match rs with|r::rs=>Rt Z a r/\ih rs|[]=>False) l
def Wi(l:List AV):QK->(QK->Bool)->Bool:=
 List.rec (λseen K=>K seen) (λa _ ih seen K=>match a with
  | .own id=>Bool.rec (ih (id::seen) K) false (Xy id seen)
  | .ref id _ _=>Bool.rec (ih (id::seen) K) false (Xy id seen)
  | .sub id _ _ _=>Bool.rec (ih (id::seen) K) false (Xy id seen)
  |_=>ih seen K) l
def O7(l:List AV):QK->Bool:=
 List.rec (λ_=>true) (λa _ ih seen=>match a with
  | .agg cs=>Wi cs seen ih
  |a=>Wi [a] seen ih) l
def PV.an7:PV->Prop
 | .bool _| .int _ _| .str _| .nil _=>True
 |_=>False
def PV.flat:PV->Prop
 | .agg cs=>∀c∈cs,c.an7
 | .bool _| .int _ _| .str _| .nil _=>True
 |_=>False
def RV.Ts:RV->Prop
 | .pv x=>x.flat
 | .fresh _ _ aw=>∀x∈aw,x.flat
 | .row _ _ aw=>∀x∈aw,x.flat
 |_=>False
def ahx(l:List RV):Prop:=List.rec True (λr _ ih=>r.Ts/\ih) l
def aou(lone:Bool)(Z:ax)(aM1:List AV)(K:RV->Prop):Prop:=
 match O7 aM1 []with
 |false=>False
 |true=>match aM1 with
  |[]=>K (.tup [])
  |a::aM1=>match aM1 with
   |[]=>∃r,Rt Z a r/\(match lone with|true=>r.Ts|false=>True)/\K r
   |b::bs=>∃rs,M3 Z (a::b::bs) rs/\(match lone with|true=>ahx rs|false=>True)/\K (.tup rs)
def nA(Z:ax)(env:Env)(rs:List (Nat×Option (Bool×Nat))):(List AV->Prop)->Prop:=
 List.rec (λK=>K []) (λp _ ih K=>look p.1 (λv=>match p.2 with
  |none=>ih λl=>K (v::l)
  |some q=>FU Z q.1 q.2 v λv=>ih λl=>K (v::l)) env) rs
def axk(lone:Bool)(rs:List (Nat×Option (Bool×Nat)))(K:RV->Prop):Ex->Env->ax->Prop
 | .normal,env,Z=>nA Z env rs λaM1=>aou lone Z aM1 K
 | .ret,env,Z=>nA Z env rs λaM1=>aou lone Z aM1 K
 | .exit _,_,_=>False
def aol(l:List PV):Nat->(Env->Prop)->Prop:=
 List.rec (λ_ K=>K []) (λx _ ih n K=>ih (Nat.succ n) λe=>K ((n,.pv x)::e)) l
def ahF(Γ:Ctx)(ps:QK)(pc:PC)(rs:List (Nat×Option (Bool×Nat)))(S:Spec):Prop:=
 ∀(args:List PV) (K:RV->Prop),S.run args K->aol args 0 λenv=>vc Γ [] ps pc (axk S.lone rs K) env []
def az2(Z:ax):Nat->(QK->Prop)->Prop:=
 List.rec (λ_ K=>K []) (λ_ _ ih n K=>ih (Nat.succ n) λt=>K (n::t)) Z
def am2:List AV->AV
 |[a]=>a
 |l=>.tup l
def avM(pin:QK)(rs:List (Nat×Option (Bool×Nat)))(K:AV->ax->Prop):Ex->Env->ax->Prop
 | .exit _,_,_=>False
 |_,env,Z=>nA Z env rs λaM1=>P7 aM1 pin λl=>TJ Z l l λr=>S5 r aM1 λaM1=>TD Z r r λZ=>K (am2 aM1) Z
def ahU(l:List AV):Nat->(Env->Prop)->Prop:=
 List.rec (λ_ K=>K []) (λx _ ih n K=>ih (Nat.succ n) λe=>K ((n,x)::e)) l
def Yl(Γ:Ctx)(ps:QK)(pc:PC)(rs:List (Nat×Option (Bool×Nat)))(S:Spec):Prop:=
 ∀(args:List AV) (Z:ax) (K:AV->ax->Prop),S.j0 args Z K->ahU args 0 λenv=>az2 Z 0 λpin=>vc Γ pin ps pc (avM pin rs K) env Z
abbrev CK:=List PV
abbrev XP:=List AV
abbrev Od:=List PO
abbrev Ux:=List RV
end
end Go.Dv
namespace Go.Dv
open Go.RowKit
section
def PV.one:PV->Bool
 | .agg _| .tup _=>false
 |_=>true
mutual
def Rd(ok:Nat->Prop)(w:World):PV->Value->Prop
 | .bool b,v=>v=.bool b
 | .int k n,v=>v=.int k n
 | .str l,v=>v=.string ⟨l.toArray⟩
 | .val u,v=>v=u/\u.oneCell'=true
 | .nil _,v=>v=.slice none 0 0
 | .sl sz aw,v=>∃a c,v=.slice a aw.length c/\aw.length<=c/\c<=maxLen/\(aw=[]∨∃b o,a=some ⟨b,o,none⟩/\ok b/\dN ok w b sz o aw)
 | .agg cs,v=>(∀c∈cs,c.one=true)∧∃vs,v=.agg vs/\cz ok w cs vs.toList
 | .tup cs,v=>∃vs,v=.tuple vs/\cz ok w cs vs.toList
 | .cptr (.agg cs),v=>∃b o,v=.pointer (some ⟨b,o,none⟩)/\ok b/\nu ok w b o cs
 | .cptr x,v=>∃b o,v=.pointer (some ⟨b,o,none⟩)/\ok b/\x.one=true∧∃u,w.cell? ⟨b,o,none⟩=some u/\Rd ok w x u
 | .clo f ep,v=>∃cv,v=.func (.func f) #[] cv/\cz ok w ep cv.toList
def cz(ok:Nat->Prop)(w:World):CK->XS->Prop
 |[],vs=>vs=[]
 |x::xs,vs=>∃v r,vs=v::r/\Rd ok w x v/\cz ok w xs r
def dN(ok:Nat->Prop)(w:World)(b sz:Nat)(o:Nat):CK->Prop
 |[]=>True
 | .agg cs::xs=>(cs.length=sz/\nu ok w b o cs)/\dN ok w b sz (o+sz) xs
 |x::xs=>(sz=1/\x.one=true∧∃u,w.cell? ⟨b,o,none⟩=some u/\Rd ok w x u)/\dN ok w b sz (o+sz) xs
def nu(ok:Nat->Prop)(w:World)(b:Nat)(o:Nat):CK->Prop
 |[]=>True
 |c::cs=>(c.one=true∧∃u,w.cell? ⟨b,o,none⟩=some u/\Rd ok w c u)/\nu ok w b (o+1) cs
end
section mono
variable {ok qN:Nat->Prop} {w w':World}
mutual
def Rd.e_(E:∀b,ok b->qN b)(F:∀b o u,ok b->w.cell? ⟨b,o,none⟩=some u->w'.cell? ⟨b,o,none⟩=some u):∀(x:PV) (v:Value),Rd ok w x v->Rd qN w' x v
 | .bool _,_,h=>by simpa only[Rd]using h
 | .int _ _,_,h=>by simpa only[Rd]using h
 | .str _,_,h=>by simpa only[Rd]using h
 | .val _,_,h=>by simpa only[Rd]using h
 | .nil _,_,h=>by simpa only[Rd]using h
 | .sl sz aw,v,h=>by
  simp only[Rd]at h ⊢;obtain⟨a,c,U,H,h3,h4⟩:=h;refine⟨a,c,U,H,h3,?_⟩;rcases h4 with h4|⟨b,o,ha,I,J⟩
  ·exact .inl h4
  ·exact .inr ⟨b,o,ha,E b I,dN.e_ E F b sz o (λo u=>F b o u I) aw J⟩
 | .agg cs,v,h=>by
  simp only[Rd]at h ⊢;obtain⟨h0,vs,U,H⟩:=h;exact⟨h0,vs,U,cz.e_ E F cs _ H⟩
 | .tup cs,v,h=>by
  simp only[Rd]at h ⊢;obtain⟨vs,U,H⟩:=h;exact⟨vs,U,cz.e_ E F cs _ H⟩
 | .cptr x,v,h=>by
  cases x with
  |agg cs=>
   simp only[Rd]at h ⊢;obtain⟨b,o,U,H,h3⟩:=h;exact⟨b,o,U,E b H,nu.e_ E F b o (λo u=>F b o u H) cs h3⟩
  |sl sz aw=>
   simp only[Rd]at h ⊢;obtain⟨b,o,U,H,h3,u,h4,h5⟩:=h;have:=Rd.e_ E F (.sl sz aw) u PS;simp only[Rd]at this;exact Rw
  |tup vs=>
   simp only[Rd]at h ⊢;obtain⟨b,o,U,H,h3,u,h4,h5⟩:=h;have:=Rd.e_ E F (.tup vs) u PS;simp only[Rd]at this;exact Rw
  |clo f ep=>
   simp only[Rd]at h ⊢;obtain⟨b,o,U,H,h3,u,h4,h5⟩:=h;have:=Rd.e_ E F (.clo f ep) u PS;simp only[Rd]at this;exact Rw
  |_=>
   simp only[Rd]at h ⊢;obtain⟨b,o,U,H,h3,u,h4,h5⟩:=h;refine⟨b,o,U,E b H,h3,u,F b o u H h4,?_⟩;first
    |exact h5
    |(have:=Rd.e_ E F _ u (by simpa only[Rd]using h5);simpa only[Rd]using this)
 | .clo f cs,v,h=>by
  simp only[Rd]at h ⊢;obtain⟨vs,U,H⟩:=h;exact⟨vs,U,cz.e_ E F cs _ H⟩
def cz.e_(E:∀b,ok b->qN b)(F:∀b o u,ok b->w.cell? ⟨b,o,none⟩=some u->w'.cell? ⟨b,o,none⟩=some u):∀(l:CK) (vs:XS),cz ok w l vs->cz qN w' l vs
 |[],_,h=>by simpa only[cz]using h
 |x::xs,vs,h=>by
  simp only[cz]at h ⊢;obtain⟨v,r,U,H,h3⟩:=h;exact⟨v,r,U,Rd.e_ E F x v H,cz.e_ E F xs r h3⟩
def dN.e_(E:∀b,ok b->qN b)(F:∀b o u,ok b->w.cell? ⟨b,o,none⟩=some u->w'.cell? ⟨b,o,none⟩=some u)(b sz o:Nat)(I:∀o u,w.cell? ⟨b,o,none⟩=some u->w'.cell? ⟨b,o,none⟩=some u):∀(l:CK),dN ok w b sz o l->dN qN w' b sz o l
 |[],h=>by simp only[dN]
 |x::xs,h=>by
  cases x with
  |agg cs=>
   simp only[dN]at h ⊢;exact⟨⟨h.1.1,nu.e_ E F b o I cs h.1.2⟩,dN.e_ E F b sz (o+sz) I xs h.2⟩
  |_=>
   simp only[dN]at h ⊢;obtain⟨⟨U,H,u,h3,h4⟩,h5⟩:=h;exact⟨⟨U,H,u,I o u h3,Rd.e_ E F _ u h4⟩,dN.e_ E F b sz (o+sz) I xs h5⟩
def nu.e_(E:∀b,ok b->qN b)(F:∀b o u,ok b->w.cell? ⟨b,o,none⟩=some u->w'.cell? ⟨b,o,none⟩=some u)(b o:Nat)(I:∀o u,w.cell? ⟨b,o,none⟩=some u->w'.cell? ⟨b,o,none⟩=some u):∀(l:CK),nu ok w b o l->nu qN w' b o l
 |[],h=>by simp only[nu]
 |x::xs,h=>by
  simp only[nu]at h ⊢;obtain⟨⟨H,u,h3,h4⟩,h5⟩:=h;exact⟨⟨H,u,I o u h3,Rd.e_ E F _ u h4⟩,nu.e_ E F b (o+1) I xs h5⟩
end
def Rd.mono(E:∀b,ok b->qN b)(F:∀b o,ok b->w'.cell? ⟨b,o,none⟩=w.cell? ⟨b,o,none⟩)(x:PV)(v:Value)(h:Rd ok w x v):Rd qN w' x v:=
 Rd.e_ E (λb o _ I h=>(F b o I).trans h) x v h
def cz.mono(E:∀b,ok b->qN b)(F:∀b o,ok b->w'.cell? ⟨b,o,none⟩=w.cell? ⟨b,o,none⟩)(l:CK)(vs:XS)(h:cz ok w l vs):cz qN w' l vs:=
 cz.e_ E (λb o _ I h=>(F b o I).trans h) l vs h
def dN.mono(E:∀b,ok b->qN b)(F:∀b o,ok b->w'.cell? ⟨b,o,none⟩=w.cell? ⟨b,o,none⟩)(b sz o:Nat)(I:∀o,w'.cell? ⟨b,o,none⟩=w.cell? ⟨b,o,none⟩)(l:CK)(h:dN ok w b sz o l):dN qN w' b sz o l:=
 dN.e_ E (λb o _ I h=>(F b o I).trans h) b sz o (λo _ h=>(I o).trans h) l h
end mono
section get
variable {ok:Nat->Prop} {w:World}
def Rd.EM{x:PV}{v:Value}(h:Rd ok w x v)(T:x.one=true):v.oneCell'=true:=by
 cases x with
 |val u=>simp only[Rd]at h;exact h.1▸h.2
 |agg cs=>cases T
 |tup cs=>cases T
 |cptr x=>cases x<;>simp only[Rd]at h<;>obtain⟨b,o,rfl,_⟩:=h<;>rfl
 |sl sz aw=>simp only[Rd]at h;obtain⟨a,c,rfl,_⟩:=h;rfl
 |clo f cs=>simp only[Rd]at h;obtain⟨a,rfl,_⟩:=h;rfl
 |_=>simp only[Rd]at h;subst h;rfl
def oN(cs:CK):∀vs:XS,cz ok w cs vs↔(vs.length=cs.length∧∀(j:Nat) (c:PV) (v:Value),cs[j]?=some c->vs[j]?=some v->Rd ok w c v):=by
 induction cs with
 |nil=>intro vs;simp only[cz];constructor
       ·rintro rfl;simp
       ·intro h;exact zaf (by simpa using h.1)
 |cons c cs ih=>
  intro vs;simp only[cz];constructor
  ·rintro⟨v,r,rfl,U,H⟩;obtain⟨h3,h4⟩:=(ih r).1 H;refine⟨by simp[h3],λj c' v' F hv=>?_⟩;cases j with
   |zero=>simp at F hv;subst F hv;exact U
   |succ j=>simp at F hv;exact h4 j c' v' F hv
  ·rintro⟨U,H⟩;cases vs with
   |nil=>simp at U
   |cons v r=>exact⟨v,r,rfl,H 0 c v rfl rfl,(ih r).2 ⟨yT,λj c' v' F hv=>H (j+1) c' v' uQ (by simpa using hv)⟩⟩
def Cg(b:Nat)(cs:CK):∀o,nu ok w b o cs↔((∀c∈cs,c.one=true)∧∃us:XS,cz ok w cs us∧∀(j:Nat) (u:Value),us[j]?=some u->w.cell? ⟨b,o+j,none⟩=some u):=by
 induction cs with
 |nil=>intro o;simp only[nu,cz];simp
 |cons c cs ih=>
  intro o;simp only[nu,cz];constructor
  ·rintro⟨⟨U,u,H,h3⟩,h4⟩;obtain⟨h5,us,h6,h7⟩:=(ih (o+1)).1 h4;refine⟨by simpa[U]using h5,u::us,⟨u,us,rfl,h3,h6⟩,λj u' hj=>?_⟩;cases j with
   |zero=>simp at hj;subst hj;exact H
   |succ j=>have:=h7 j u' yZ;rwa[za8]at this
  ·rintro⟨U,_,⟨u,us,rfl,h3,h6⟩,h7⟩;refine⟨⟨U c ab,u,h7 0 u rfl,h3⟩,(ih (o+1)).2 ⟨λc' F=>U c' lE,us,h6,λj u' hj=>?_⟩⟩;have:=h7 (j+1) u' yZ;rwa[za8]
def lz(b:Nat)(xs ys:CK):∀o,nu ok w b o (xs++ys)↔nu ok w b o xs/\nu ok w b (o+xs.length) ys:=by
 induction xs with
 |nil=>intro o;simp[nu]
 |cons x xs ih=>
  intro o;simp only[zbe,nu,ih,zap,and_assoc];rw[show o+1+xs.length=o+(xs.length+1)from by omega]
def qR(b sz:Nat)(aw:CK):∀o,dN ok w b sz o aw↔((∀x∈aw,x.cells.length=sz)/\nu ok w b o (aw.flatMap PV.cells)):=by
 induction aw with
 |nil=>intro o;simp[dN,nu]
 |cons x xs ih=>
  intro o;rw[zan,lz];cases x with
  |agg cs=>
   simp only[dN,ih,PV.cells];constructor
   ·rintro⟨⟨rfl,U⟩,H,h3⟩;exact⟨by simpa[PV.cells]using H,U,h3⟩
   ·rintro⟨U,H,h3⟩;have h0:cs.length=sz:=by simpa[PV.cells]using U (.agg cs) ab
    exact⟨⟨h0,H⟩,λy hy=>U y pr,h0▸h3⟩
  |_=>
   simp only[dN,ih,PV.cells,nu];constructor
   ·rintro⟨⟨rfl,U,H⟩,h3,h4⟩;exact⟨by simpa[PV.cells]using h3,⟨⟨U,H⟩,trivial⟩,DU⟩
   ·rintro⟨U,⟨⟨H,h3⟩,_⟩,h4⟩;have h0:1=sz:=by simpa[PV.cells]using U _ (List.mem_cons_self ..)
    exact⟨⟨h0.symm,H,h3⟩,λy hy=>U y pr,by subst h0;simpa using h4⟩
def iS(sz:Nat)(aw:CK)(h:∀x∈aw,x.cells.length=sz):(aw.flatMap PV.cells).length=aw.length*sz:=by
 induction aw with
 |nil=>simp
 |cons x xs ih=>rw[zan,zad,ih (λy hy=>h y pr),h x ab,zap,zas];omega
def L0{b sz o:Nat}{aw:CK}(h:dN ok w b sz o aw):∀{i:Nat} {x:PV},aw[i]?=some x->x.cells.length=sz/\nu ok w b (o+i*sz) x.cells:=by
 induction aw generalizing o with
 |nil=>intro i x T;simp at T
 |cons y ys ih=>
  intro i x T;have hd:=(qR b sz (y::ys) o).1 h;rw[zan,lz]at hd;have h0:=hd.1 y ab;cases i with
  |zero=>simp at T;subst T;exact⟨h0,by simpa using hd.2.1⟩
  |succ i=>
   have:=ih ((qR b sz ys (o+sz)).2 ⟨λz hz=>hd.1 z (by simp[hz]),h0▸hd.2.2⟩) (i:=i) (x:=x) (by simpa using T);refine⟨this.1,?_⟩;rw[show o+(i+1)*sz=o+sz+i*sz from by rw[zas];omega];exact this.2
end get
structure Cx where
 P:Program
 w0:World
 Zi:Nat->Prop
 hA:∀b,Zi b->b<w0.heap.size
 w1:World:=w0
 keep:Nat->Prop:=λ_=>False
 E:∀b,keep b->b<w1.heap.size:=by intro _ h;exact h.elim
 defers:List Deferred:=[]
 gh:AV->Value->Prop:=λ_ _=>False
 lo:Nat:=0
 base:Nat->Value:=λ_=>undef
 own:Nat->Prop:=λb=>w0.heap.size<=b
 cj:∀b,w0.heap.size<=b->own b:=by exact λ_ h=>h
 wK:List cK:=[]
 NF:XS:=[]
structure vH(own:Nat->Prop)(w w':World):Prop where
 os:w'.os=w.os
 tape:w'.tape=w.tape
 output:w'.output=w.output
 size:w.heap.size<=w'.heap.size
 block:∀k,k<w.heap.size→¬own k->w'.heap[k]?=w.heap[k]?
def vH.refl(own:Nat->Prop)(w:World):vH own w w:=⟨rfl,rfl,rfl,zai _,λ_ _ _=>rfl⟩
def vH.below{own:Nat->Prop}{a b c:World}(h:vH own a b)(k:Below b.heap.size b c):vH own a c:=
 ⟨k.os.trans h.os,k.tape.trans h.tape,k.output.trans h.output,zam h.size k.size,λi W ho=>(k.block i (zae W h.size)).trans (h.block i W ho)⟩
def vH.grown{own:Nat->Prop}{a w w':World}{row:Option Nat}(h:vH own a w)(hg:w.grownBy w' row)(J:∀k,row=some k->own k):vH own a w':=
 ⟨hg.os.trans h.os,hg.tape.trans h.tape,hg.output.trans h.output,zam h.size hg.size,λk E ho=>(hg.block k (zae E h.size) (λe=>ho (J k e.symm))).trans (h.block k E ho)⟩
def vH.ann{own:Nat->Prop}{a b:World}(h:vH own a b)(ho:∀k,own k->a.heap.size<=k):Below a.heap.size a b:=
 ⟨h.os,h.tape,h.output,h.size,λk E=>h.block k E (λe=>by have:=ho k e;omega)⟩
def bM:Value->Option Nat
 | .pointer (some a)=>some a.block
 | .slice (some a) _ _=>some a.block
 |_=>Option.none
def cK.live:cK->Bool
 | .row .. | .box .. =>true
 |_=>false
def cK.Gz:cK->Bool
 | .box .. =>true
 | .fz x=>match x with| .cptr _=>true|_=>false
 |_=>false
def Fo(Z:ax)(vals:XS)(b:Nat):Prop:=∃(i:Nat) (s:cK) (v:Value),Z[i]?=some s/\s.live=true/\vals[i]?=some v/\bM v=some b
def Ok(cx:Cx)(Z:ax)(vals:XS)(w:World)(b:Nat):Prop:=(cx.Zi b\/cx.own b)/\b<w.heap.size∧¬Fo Z vals b
def AV.one:AV->Bool
 | .pv x=>x.one
 | .own _=>true
 | .ref _ _ _=>true
 | .sub _ _ _ _=>true
 | .clo _ _=>true
 |_=>false
mutual
def RA(ok:Nat->Prop)(Z:ax)(vals:XS)(w:World):AV->Value->Prop
 | .bad,_=>True
 | .pv x,v=>Rd ok w x v
 | .own i,v=>vals[i]?=some v
 | .ref i idx off,v=>i<Z.length/\(∃ad,v=.pointer ad)/\(∀e sz ap aw,Z[i]?=some (.row e sz ap aw)→∃u b,vals[i]?=some u/\bM u=some b/\v=.pointer (some ⟨b,idx*sz+off,none⟩))/\
  (∀s,Z[i]?=some s->s.Gz=true→∃u b,vals[i]?=some u/\u=.pointer (some ⟨b,0,none⟩)/\v=.pointer (some ⟨b,off,none⟩))
 | .sub i sz lo n,v=>i<Z.length∧∃a c,v=.slice a n c/\n<=c/\c<=maxLen/\(n=0∨∃b n0 c0,vals[i]?=some (.slice (some ⟨b,0,none⟩) n0 c0)/\a=some ⟨b,lo*sz,none⟩)
 | .agg cs,v=>(∀c∈cs,c.one=true)∧∃vs,v=.agg vs/\eu ok Z vals w cs vs.toList
 | .tup cs,v=>∃vs,v=.tuple vs/\eu ok Z vals w cs vs.toList
 | .clo f cs,v=>∃cv,v=.func (.func f) #[] cv/\eu ok Z vals w cs cv.toList
def eu(ok:Nat->Prop)(Z:ax)(vals:XS)(w:World):XP->XS->Prop
 |[],vs=>vs=[]
 |x::xs,vs=>∃v r,vs=v::r/\RA ok Z vals w x v/\eu ok Z vals w xs r
end
def DD(w:World)(M:Nat->Prop)(e:TypeId)(sz:Nat)(app:Bool)(v:Value)(n:Nat)(xs:XS):Prop:=
 xs.length=n*sz/\((v=.slice Option.none 0 0/\n=0)\/
  ∃g cap cur fr,v=.slice (some ⟨g,0,Option.none⟩) n cap/\M g/\w.heap[g]?=some (.cells cur e fr)/\n<=cap/\cap<=maxLen/\cur.size=cap*sz/\cur.toList.take (n*sz)=xs/\
   (fr=(0,0)\/(app=false/\cur.size<=fr.1)))
def RM(es:Array MapEntry)(l:List (Int×Bool)):Prop:=es.toList.map (λe=>(e.key,e.val))=l.map λp=>(.int .i64 p.1,.bool p.2)
def RB(cx:Cx)(Z:ax)(vals:XS)(w:World):cK->Value->Prop
 | .dead,_=>True
 | .fz x,v=>Rd (Ok cx Z vals w) w x v
 | .mp l,v=>∃b es n,v=.map (some b)/\Ok cx Z vals w b/\w.heap[b]?=some (.map es n)/\RM es l
 | .row e sz app aw,v=>0<sz∧∃cells,DD w cx.own e sz app v aw.length cells/\(∀x∈aw,x.cells.length=sz)/\(∀c∈aw.flatMap PV.cells,c.one=true)/\cz (Ok cx Z vals w) w (aw.flatMap PV.cells) cells
 | .box e cs,v=>∃b arr,v=.pointer (some ⟨b,0,Option.none⟩)/\cx.own b/\w.heap[b]?=some (.cells arr e (0,0))/\(∀c∈cs,c.one=true)/\eu (Ok cx Z vals w) Z vals w cs arr.toList
def aA(p:Nat):Env->AV
 |[]=>.bad
 |(q,v)::r=>bif Nat.beq q p then v else aA p r
structure Fr(cx:Cx)(Z:ax)(vals:XS)(w:World):Prop where
 size:cx.w1.heap.size<=w.heap.size
 same:∀b,cx.keep b->w.heap[b]?=cx.w1.heap[b]?
 sy:∀b,Fo Z vals b→¬cx.keep b
structure Pin(cx:Cx)(Z:ax)(vals:XS):Prop where
 vs:∀(i:Nat) (v:Value),cx.NF[i]?=some v->vals[i]?=some v
 len:cx.wK.length<=Z.length
 wG:∀i:Nat,i<cx.wK.length→∀e sz ap aw,Z[i]?=some (.row e sz ap aw)→∃ap' els',cx.wK[i]?=some (.row e sz ap' els')
 wH:∀i:Nat,i<cx.wK.length→∀s,Z[i]?=some s->s.Gz=true→∃s',cx.wK[i]?=some s'/\s'.Gz=true
structure bW(cx:Cx)(Z:ax)(vals:XS)(w:World):Prop where
 below:vH cx.own cx.w0 w
 one:∀v∈vals,v.oneCell'=true
 len:vals.length=Z.length
 lW:∀(i:Nat) (s:cK) (v:Value),Z[i]?=some s->vals[i]?=some v->RB cx Z vals w s v
 Cb:∀(i j:Nat) (s t:cK) (u v:Value) (b:Nat),i≠j->Z[i]?=some s->Z[j]?=some t->s.live=true->t.live=true->vals[i]?=some u->vals[j]?=some v->bM u=some b->bM v≠some b
 fr:Fr cx Z vals w
 pin:Pin cx Z vals
structure Rel(cx:Cx)(env:Env)(Z:ax)(vals:XS)(a:Act)(w:World):Prop where
 s:bW cx Z vals w
 env:∀p,RA (Ok cx Z vals w) Z vals w (aA p env) (a.tmps.getD p undef)
 defers:a.defers=cx.defers
 gh:∀x v,cx.gh x v->RA (Ok cx Z vals w) Z vals w x v
 lo:∀p,p<cx.lo->a.tmps.getD p undef=cx.base p
structure de(cx:Cx)(Z:ax)(vals:XS)(w:World)(σ':ax)(ay:XS)(w':World):Prop where
 vs:∀(i:Nat) (v:Value),vals[i]?=some v->ay[i]?=some v
 len:Z.length<=σ'.length
 ok:∀b,Ok cx Z vals w b->Ok cx σ' ay w' b
 same:∀b,Ok cx Z vals w b->w'.heap[b]?=w.heap[b]?
 wG:∀i:Nat,i<Z.length→∀e sz ap aw,σ'[i]?=some (.row e sz ap aw)→∃ap' els',Z[i]?=some (.row e sz ap' els')
 wH:∀i:Nat,i<Z.length→∀s,σ'[i]?=some s->s.Gz=true→∃s',Z[i]?=some s'/\s'.Gz=true
section keep
variable {cx:Cx} {Z σ':ax} {vals ay:XS} {w w':World}
def de.rd(h:de cx Z vals w σ' ay w'){x:PV}{v:Value}(T:Rd (Ok cx Z vals w) w x v):Rd (Ok cx σ' ay w') w' x v:=
 Rd.mono h.ok (λb _ I=>World.cell?_of_block (h.same b I)) x v T
def de.rdL(h:de cx Z vals w σ' ay w'){x:CK}{v:XS}(T:cz (Ok cx Z vals w) w x v):cz (Ok cx σ' ay w') w' x v:=
 cz.mono h.ok (λb _ I=>World.cell?_of_block (h.same b I)) x v T
mutual
def de.ra(h:de cx Z vals w σ' ay w'):∀(x:AV) (v:Value),RA (Ok cx Z vals w) Z vals w x v->RA (Ok cx σ' ay w') σ' ay w' x v
 | .bad,_,_=>by simp only[RA]
 | .pv x,v,T=>by simp only[RA]at T ⊢;exact h.rd T
 | .own i,v,T=>by simp only[RA]at T ⊢;exact h.vs i v T
 | .ref i idx off,v,T=>by
  simp only[RA]at T ⊢;obtain⟨h0,hp,U,H⟩:=T;refine⟨zae h0 h.len,hp,λe sz ap aw he=>?_,λs he hbx=>?_⟩
  ·obtain⟨ap',els',h3⟩:=h.wG i h0 e sz ap aw he;obtain⟨u,b,h4,h5⟩:=U e sz ap' els' h3;exact⟨u,b,h.vs i u h4,h5⟩
  ·obtain⟨s',h3,aEa⟩:=h.wH i h0 s he hbx;obtain⟨u,b,h4,h5⟩:=H s' h3 aEa;exact⟨u,b,h.vs i u h4,h5⟩
 | .sub i sz lo n,v,T=>by
  simp only[RA]at T ⊢;obtain⟨h0,ad,c,U,H,h3,h4⟩:=T;exact⟨zae h0 h.len,ad,c,U,H,h3,h4.imp_right λ⟨b,n0,c0,h5,h6⟩=>⟨b,n0,c0,h.vs i _ h5,h6⟩⟩
 | .agg cs,v,T=>by
  simp only[RA]at T ⊢;obtain⟨h0,vs,U,H⟩:=T;exact⟨h0,vs,U,de.raL h cs _ H⟩
 | .tup cs,v,T=>by
  simp only[RA]at T ⊢;obtain⟨vs,U,H⟩:=T;exact⟨vs,U,de.raL h cs _ H⟩
 | .clo f cs,v,T=>by
  simp only[RA]at T ⊢;obtain⟨vs,U,H⟩:=T;exact⟨vs,U,de.raL h cs _ H⟩
def de.raL(h:de cx Z vals w σ' ay w'):∀(x:XP) (v:XS),eu (Ok cx Z vals w) Z vals w x v->eu (Ok cx σ' ay w') σ' ay w' x v
 |[],_,T=>by simpa only[eu]using T
 |x::xs,vs,T=>by
  simp only[eu]at T ⊢;obtain⟨v,r,U,H,h3⟩:=T;exact⟨v,r,U,de.ra h x v H,de.raL h xs r h3⟩
end
def DD.keep{B:Nat->Prop}{e:TypeId}{sz:Nat}{app:Bool}{v:Value}{n:Nat}{xs:XS}(h:DD w B e sz app v n xs)(I:∀b,bM v=some b->w'.heap[b]?=w.heap[b]?):DD w' B e sz app v n xs:=by
 refine⟨h.1,?_⟩;rcases h.2 with H|⟨g,cap,cur,fr,rfl,H,h3,h4⟩
 ·exact .inl H
 ·exact .inr ⟨g,cap,cur,fr,rfl,H,(I g rfl).trans h3,h4⟩
def de.rb(h:de cx Z vals w σ' ay w'){s:cK}{v:Value}(hs:RB cx Z vals w s v)(I:s.live=true→∀b,bM v=some b->w'.heap[b]?=w.heap[b]?):RB cx σ' ay w' s v:=by
 cases s with
 |dead=>trivial
 |fz x=>exact h.rd hs
 |mp l=>
  obtain⟨b,es,n,rfl,U,H,h3⟩:=hs;exact⟨b,es,n,rfl,h.ok b U,(h.same b U).trans H,h3⟩
 |row e sz app aw=>
  obtain⟨h0,cells,U,H,h3,h4⟩:=hs;exact⟨h0,cells,U.keep (I rfl),H,h3,h.rdL h4⟩
 |box e cs=>
  obtain⟨b,arr,rfl,U,H,h3,h4⟩:=hs;exact⟨b,arr,rfl,U,(I rfl b rfl).trans H,h3,h.raL _ _ h4⟩
def kQ{α:Type}{l:List α}{i:Nat}{x:α}(W:i<l.length)(j:Nat):(l.set i x)[j]?=if i=j then some x else l[j]?:=by
 rw[zaR];split
 ·rename_i h;subst h;simp[W]
 ·rfl
def fE{α:Type}(l:List α)(x:α)(j:Nat):(l++[x])[j]?=if j=l.length then some x else l[j]?:=by
 by_cases h:j<l.length
 ·rw[zar h,if_neg V]
 ·rw[zak V];by_cases H:j=l.length
  ·subst H;simp
  ·rw[if_neg H,zaM aH,zaM V]
def de.refl:de cx Z vals w Z vals w:=
 ⟨λ_ _ h=>h,zai _,λ_ h=>h,λ_ _=>rfl,λ_ _ _ _ ap aw h=>⟨ap,aw,h⟩,λ_ _ s h I=>⟨s,h,I⟩⟩
def de.grow(hs:w.heap.size<=w'.heap.size)(I:∀b,b<w.heap.size->w'.heap[b]?=w.heap[b]?):de cx Z vals w Z vals w':=
 ⟨λ_ _ h=>h,zai _,λ_ h=>⟨h.1,zae h.2.1 hs,h.2.2⟩,λb h=>I b h.2.1,λ_ _ _ _ ap aw h=>⟨ap,aw,h⟩,λ_ _ s h I=>⟨s,h,I⟩⟩
def de.trans{σ2:ax}{eH:XS}{w2:World}(h:de cx Z vals w σ' ay w')(k:de cx σ' ay w' σ2 eH w2):de cx Z vals w σ2 eH w2:=
 ⟨λi v hv=>k.vs i v (h.vs i v hv),zam h.len k.len,λb I=>k.ok b (h.ok b I),λb I=>(k.same b (h.ok b I)).trans (h.same b I),
  λi W e sz ap aw he=>by
   obtain⟨ap',els',h'⟩:=k.wG i (zae W h.len) e sz ap aw he;exact h.wG i W e sz ap' els' h',
  λi W s he I=>by
   obtain⟨s',h',nN⟩:=k.wH i (zae W h.len) s he I;exact h.wH i W s' h' nN⟩
def Pin.keep(p:Pin cx Z vals)(h:de cx Z vals w σ' ay w'):Pin cx σ' ay:=
 ⟨λi v hv=>h.vs i v (p.vs i v hv),zam p.len h.len,
  λi W e sz ap aw he=>by
   obtain⟨ap',els',h'⟩:=h.wG i (zae W p.len) e sz ap aw he;exact p.wG i W e sz ap' els' h',
  λi W s he I=>by
   obtain⟨s',h',nN⟩:=h.wH i (zae W p.len) s he I;exact p.wH i W s' h' nN⟩
def bW.grow(h:bW cx Z vals w)(Xi:Below w.heap.size w w'):bW cx Z vals w'/\de cx Z vals w Z vals w':=by
 have E:de cx Z vals w Z vals w':=de.grow Xi.size Xi.block;have tg:Fr cx Z vals w':=⟨zam h.fr.size Xi.size,λb I=>(Xi.block b (zae (cx.E b I) h.fr.size)).trans (h.fr.same b I),h.fr.sy⟩
 refine⟨⟨h.below.below Xi,h.one,h.len,λi s v W hv=>?_,h.Cb,tg,h.pin.keep E⟩,E⟩;refine E.rb (h.lW i s v W hv) (λhl b I=>Xi.block b ?_);have hs:=h.lW i s v W hv;cases s with
 |dead=>cases hl
 |fz x=>cases hl
 |mp l=>cases hl
 |row e sz app aw=>
  obtain⟨_,cells,U,_⟩:=hs;rcases U.2 with⟨rfl,_⟩|⟨g,cap,cur,fr,rfl,_,h3,_⟩
  ·cases I
  ·cases I;exact(zao.1 h3).1
 |box e cs=>
  obtain⟨b',arr,rfl,_,H,_⟩:=hs;cases I;exact(zao.1 H).1
end keep
end
end Go.Dv
namespace Go.Dv
def opt{α β:Type}(o:Option α)(f:α->Option β):Option β:=
 match o with
 |none=>none
 |some a=>f a
def k_{α:Type}(b:Bool)(x:Option α):Option α:=match b with|true=>x|false=>none
def xY(P:Program)(t:TypeId):Option (TypeId×Nat×Nat):=
 match P.underlying t with
 |some (.slice e)=>opt (P.info? e) λi=>some (e,i.size,i.bytes)
 |_=>none
def U9(P:Program)(t:TypeId):Option (Bool×Nat):=
 opt (P.info? t) λi=>match P.underlying t with
  |some (.struct _)=>some (true,i.size)
  |some (.array _ _)=>some (true,i.size)
  |some _=>some (false,i.size)
  |none=>none
def Ae{α β:Type}(f:α->Option β)(l:List α):Option (List β):=
 List.rec (some []) (λa _ ih=>opt (f a) λb=>opt ih λt=>some (b::t)) l
def auG(P:Program)(t:TypeId):Option PV:=
 match P.underlying t with
 |some .bool=>some (.bool false)
 |some (.int k)=>some (.int k 0)
 |some .string=>some (.str [])
 |some (.slice e)=>opt (P.info? e) λi=>some (.nil i.size)
 |some (.pointer _)=>some (.val (.pointer none))
 |some (.interface _)=>some (.val .nilIface)
 |some (.func _ _ _)=>some (.val .nilFunc)
 |_=>none
def aop(P:Program)(n:Nat):TypeId->Option (CK):=
 Nat.rec (λ_=>none) (λ_ ih t=>
  match P.underlying t with
  |some (.struct fs)=>opt (Ae (λf:Field=>ih f.type) fs.toList) λl=>some l.flatten
  |some (.array m e)=>opt (ih e) λl=>some (List.replicate m l).flatten
  |_=>opt (auG P t) λc=>some [c]) n
def zIs:PV->Value->Bool
 | .bool b,.bool c=>b==c
 | .int k n,.int j m=>decide (k=j)&&decide (n=m)
 | .str l,.string s=>l.isEmpty&&s.data.toList.isEmpty
 | .nil _,.slice none 0 0=>true
 | .val (.pointer none),.pointer none=>true
 | .val .nilIface,.nilIface=>true
 | .val .nilFunc,.nilFunc=>true
 |_,_=>false
def apl(cs:CK):XS->Bool:=
 List.rec (λvs=>match vs with|[]=>true|_=>false)
  (λc _ ih vs=>match vs with|[]=>false|v::r=>match zIs c v with|true=>ih r|false=>false) cs
def zPV(P:Program)(t:TypeId):Option PV:=
 opt (U9 P t) λs=>opt (aop P 8 t) λcs=>opt (P.info? t) λi=>opt i.zero λz=>
  match s.1,z with
  |true,.agg vs=>k_ (apl cs vs.toList) (some (.agg cs))
  |false,z=>match cs with
   |[c]=>k_ (zIs c z) (some c)
   |_=>none
  |_,_=>none
def Cu:Operand->Bool
 | .const (.slice none 0 0)=>true
 |_=>false
def mO(P:Program)(sub:List Field->Option (QK))(l:List Field):Nat->Option (QK):=
 List.rec (λ_=>some []) (λf _ ih n=>k_ (Nat.beq f.offset n&&f.name != "_") (match P.underlying f.type with
  |some (.int _)=>opt (ih (n+1)) λr=>some (0::r)
  |some .string=>opt (ih (n+1)) λr=>some (1::r)
  |some .bool=>opt (ih (n+1)) λr=>some (2::r)
  |some (.struct gs)=>opt (sub gs.toList) λks=>opt (P.info? f.type) λi=>k_ (Nat.beq i.size ks.length&&!P.stoodInHeld f.type) (opt (ih (n+ks.length)) λr=>some (ks++r))
  |_=>none)) l
def AZ(P:Program)(l:List Field)(n:Nat):Option (QK):=
 mO P (λgs=>mO P (λhs=>mO P (λ_=>none) hs 0) gs 0) l n
def Jo(l:List (Nat×Operand)):Nat->Option (XU):=
 List.rec (λ_=>some []) (λp _ ih n=>match Nat.beq p.1 n with
  |true=>opt (ih (n+1)) λr=>some (p.2::r)
  |false=>none) l
def fieldPlace(P:Program)(t:TypeId)(f:Nat):Option (Nat×Bool×Nat):=
 match P.underlying t with
 |some (.struct fs)=>opt (fs[f]?) λfd=>opt (U9 P fd.type) λs=>k_ (decide (0<s.2)) (some (fd.offset,s.1,s.2))
 |_=>none
def asD(z:PV):XS->Nat->Bool:=
 List.rec (λn=>match n with|0=>true|_=>false)
  (λv _ ih n=>match n with
    |0=>false
    |n+1=>match zIs z v with|true=>ih n|false=>false)
def EA(P:Program)(t:TypeId):Option (PV×Nat):=
 match P.underlying t with
 |some (.array n e)=>opt (P.info? e) λi=>opt (auG P e) λz=>opt (P.info? t) λit=>opt it.zero λzv=>
  k_ (Nat.blt 8 n&&Nat.ble n 1000000&&Nat.beq i.size 1) (match zv with
   | .agg vs=>k_ (asD z vs.toList n) (some (z,n))
   |_=>none)
 |_=>none
def C5(P:Program)(t:TypeId)(x:Operand):Option (Nat×Bool×Nat):=
 match P.underlying t with
 |some (.array n e)=>match x with
  | .const v=>match v with
   | .int _ k=>opt (U9 P e) λs=>k_ (decide (0<=k/\k.toNat<n)&&decide (0<s.2)) (some (k.toNat*s.2,s.1,s.2))
   |_=>none
  |_=>none
 |_=>none
def aio(P:Program)(dr:Bool)(o:Oper):Option PK:=
 match o.op with
 | .move x=>match Cu x with
  |true=>opt (xY P o.type) λi=>match dr,Nat.blt 0 i.2.1 with
   |false,true=>some (.nilR i.1 i.2.1)
   |_,_=>some (.nilS i.2.1)
  |false=>some (.mv x)
 | .assign x=>match Cu x with
  |true=>opt (xY P o.type) λi=>match dr,Nat.blt 0 i.2.1 with
   |false,true=>some (.nilR i.1 i.2.1)
   |_,_=>some (.nilS i.2.1)
  |false=>some (.mv x)
 | .pick c a b=>some (.pick c a b)
 | .binOp op t x y _=>match op with
  | .eql=>match P.underlying t with
   |some (.int _)=>some (.bin .eql x y)
   |some .string=>some (.bin .eql x y)
   |some .bool=>some (.eqb false x y)
   |some (.slice _)=>k_ (Cu y) (some (.isnil false x))
   |some (.struct fs)=>opt (AZ P fs.toList 0) λks=>k_ (!P.stoodInHeld t&&!P.eqGuardType P.depth t) (some (.eqs false ks x y))
   |_=>none
  | .neq=>match P.underlying t with
   |some (.int _)=>some (.bin .neq x y)
   |some .string=>some (.bin .neq x y)
   |some .bool=>some (.eqb true x y)
   |some (.slice _)=>k_ (Cu y) (some (.isnil true x))
   |some (.struct fs)=>opt (AZ P fs.toList 0) λks=>k_ (!P.stoodInHeld t&&!P.eqGuardType P.depth t) (some (.eqs true ks x y))
   |_=>none
  |op=>some (.bin op x y)
 | .unOp op _ x=>some (.un op x)
 | .lookup t x k c=>match P.underlying t with
  |some (.map kt et)=>match P.underlying kt with
   |some (.int .i64)=>opt (P.info? et) λi=>match i.zero with
    |some (.bool false)=>some (.look c x k)
    |_=>none
   |_=>none
  |_=>none
 | .convert s d x=>match P.underlying s,P.underlying d with
  |some (.int _),some (.int k)=>some (.conv (.toInt k) x)
  |some .string,some .string=>some (.conv .same x)
  |some (.slice e),some .string=>match P.underlying e with
   |some (.int .u8)=>some (.conv .bts x)
   |_=>none
  |some .string,some (.slice e)=>match P.underlying e with
   |some (.int .u8)=>some (.conv (.stb e) x)
   |_=>none
  |_,_=>none
 | .load t x=>opt (U9 P t) λs=>match s.1 with
  |true=>some (.load true s.2 x)
  |false=>some (.load false 1 x)
 | .store t x v=>opt (P.info? t) λi=>some (.store i.size x v)
 | .alloc e=>match EA P e with
  |some q=>some (.mkarr e 1 q.1 q.2)
  |none=>opt (zPV P e) λz=>some (.alloc e z)
 | .box e x=>some (.box e x)
 | .build t parts=>match P.underlying t with
  |some (.struct fs)=>opt (zPV P t) λz=>opt (Ae (λf:Field=>opt (P.info? f.type) λi=>some (f.offset,i.size)) fs.toList) λpl=>opt (Ae (λp:Nat×Operand=>opt (pl[p.1]?) λq=>some (q.1,q.2,p.2)) parts.toList) λps=>match z with
   | .agg cs=>some (.build cs ps)
   |_=>none
  |some (.array _ e)=>opt (zPV P t) λz=>opt (U9 P e) λs=>match z with
   | .agg cs=>some (.build cs (parts.toList.map λp=>(p.1*s.2,s.2,p.2)))
   |_=>none
  |_=>none
 | .buildSlice t n parts=>opt (xY P t) λi=>opt (Jo parts.toList 0) λps=>
  k_ (Nat.beq ps.length n&&decide (0<i.2.1)&&Nat.ble (n*i.2.1) 16777216) (opt (zPV P i.1) λ_=>some (.bslice i.1 i.2.1 ps))
 | .call c=>match c.callee with
  | .builtin b=>match b,c.args.toList with
   | .len,[x]=>opt (c.argTypes[0]?) λt=>match P.underlying t with
    |some .string=>some (.lenS x)
    |some (.slice _)=>some (.lenR x)
    |_=>none
   | .append,[x,y]=>match c.argTypes.toList with
    |[t,u]=>opt (xY P t) λi=>opt (zPV P i.1) λz=>k_ (decide (0<i.2.1)&&Nat.beq z.cells.length i.2.1) (match Nat.beq t u with
     |true=>some (.app i.1 i.2.1 i.2.2 x y)
     |false=>match P.underlying u with
      |some .string=>match P.underlying i.1 with
       |some (.int .u8)=>k_ (Nat.beq i.2.1 1) (some (.appS i.1 i.2.2 x y))
       |_=>none
      |_=>none)
    |_=>none
   | .copy,[x,y]=>match c.argTypes.toList with
    |[t,u]=>opt (xY P t) λi=>match P.underlying u with
     |some .string=>match P.underlying i.1 with
      |some (.int .u8)=>k_ (Nat.beq i.2.1 1) (some (.cpyS x y))
      |_=>none
     |_=>none
    |_=>none
   | .clear,[x]=>opt (c.argTypes[0]?) λt=>opt (xY P t) λi=>opt (zPV P i.1) λz=>k_ (decide (0<i.2.1)&&Nat.beq z.cells.length i.2.1) (some (.clr i.2.1 z x))
   | .min,[x,y]=>some (.mm false x y)
   | .max,[x,y]=>some (.mm true x y)
   |_,_=>none
  | .value f=>match f with
   | .func f=>opt (P.funcs[f]?) λfn=>match fn.body with
    |some _=>k_ (decide (fn.name≠ "runtime.NumGoroutine")) (some (.call f c.args.toList))
    |none=>none
   | .tmp t=>some (.callv (.tmp t) c.args.toList)
   |_=>none
  |_=>none
 | .extract x i=>some (.ext x i)
 | .slice t x lo W mx=>match mx with
  |none=>match P.underlying t with
   |some .string=>some (.slcS x lo W)
   |some (.slice e)=>opt (P.info? e) λi=>some (.slcR i.size x lo W)
   |_=>none
  |some _=>none
 | .index t x i=>match P.underlying t with
  |some .string=>some (.idx x i)
  |some (.array m e)=>match C5 P t i with
   |some q=>match q.2.1 with
    |true=>some (.fld q.1 true q.2.2 x)
    |false=>some (.fld q.1 false 1 x)
   |none=>none
  |_=>none
 | .indexAddr t x i=>match P.underlying t with
  |some (.array m e)=>match EA P t with
   |some q=>some (.idxAr q.2 1 x i)
   |none=>match C5 P t i with
    |some q=>some (.fldA q.1 x)
    |none=>none
  |_=>opt (xY P t) λs=>some (.idxA s.2.1 x i)
 | .fieldAddr s x f=>opt (fieldPlace P s f) λq=>some (.fldA q.1 x)
 | .field s x f=>opt (fieldPlace P s f) λq=>match q.2.1 with
  |true=>some (.fld q.1 true q.2.2 x)
  |false=>some (.fld q.1 false 1 x)
 | .nilCheck x=>some (.nilck x)
 | .makeFunc f first ep=>match f,first.toList with
  | .func f,[]=>some (.mkf f ep.toList)
  |_,_=>none
 | .makeSlice t l c=>opt (xY P t) λi=>opt (zPV P i.1) λz=>k_ (decide (0<i.2.1)&&Nat.beq z.cells.length i.2.1) (some (.mksl i.1 i.2.1 i.2.2 z l c))
 | .panic _=>some .fail
 | .makeInterface t _=>match P.underlying t with
  |some (.interface _)=>none
  |some _=>some .junk
  |none=>none
 |_=>none
def azX(n:Nat):Option Tmp->Bool
 |none=>true
 |some d=>Nat.blt d n
def ahv(P:Program)(dr:Bool)(o:Oper):Option PK:=
 match aio P dr o with
 |some k=>some k
 |none=>match o.op with
  | .call _=>some .fail
  |_=>none
def w_(P:Program)(dr:Bool)(ops:Array Oper)(n:Nat)(o:Oper):Option PO:=
 opt (ahv P dr o) λk=>k_ (azX n o.dst) (match o.guard with
  |none=>some ⟨o.dst,none,k⟩
  |some (j,want)=>opt (ops[j]?) λoj=>opt oj.dst λd=>some ⟨o.dst,some (d,want),k⟩)
def Xe(n:Nat)(o:Oper):Option PO:=
 match o.guard,o.dst,o.op with
 |none,some d,.move x=>match x with
  | .tmp t=>k_ (Nat.blt d n) (some ⟨some d,none,.mv (.tmp t)⟩)
  |_=>none
 |none,some d,.assign x=>match x with
  | .tmp t=>k_ (Nat.blt d n) (some ⟨some d,none,.mv (.tmp t)⟩)
  |_=>none
 |_,_,_=>none
def WM(P:Program)(n:Nat)(c:Code):Option (Od):=
 Code.rec (motive:=λ_=>Option (Od)) none
  (λ_ ops draw=>match draw with
    |false=>Ae (w_ P false ops n) ops.toList
    |true=>none)
  (λ_ _ a b=>opt a λa=>opt b λb=>some (a++b))
  (λ_ _ _ _ _=>none) (λ_ _ _=>none) (λ_ _=>none) (λ_ _ _ _ _ _=>none) (λ_=>none) (λ_ _=>none) (λ_=>none) (λ_=>none) none (λ_=>none) c
def eT(P:Program)(n:Nat)(c:Code):Option PC:=
 Code.rec (motive:=λ_=>Option PC)
  (some .skip)
  (λ_ ops draw=>match draw with
    |false=>opt (Ae (w_ P false ops n) ops.toList) λl=>some (.region l)
    |true=>opt (Ae (w_ P true ops n) ops.toList) λl=>some (.draw (l.map PO.plain) (ops.toList.map λo=>(o.after.toList.filter λe=>Region.binds .any e).map (·.on))))
  (λ_ _ a b=>opt a λa=>opt b λb=>some (.seq a b))
  (λx _ _ a b=>opt a λa=>opt b λb=>some (.cond x a b))
  (λid _ b=>opt b λb=>some (.block id b))
  (λ_ b=>opt b λb=>some (.loop [] b))
  (λf ps asg _ _ b=>opt (WM P n asg) λl=>opt b λb=>k_ (ps.toList.all λp=>Nat.blt p n) (some (.rangeF f ps.toList l b)))
  (λid=>some (.exit id))
  (λ_ _=>none)
  (λ_=>none)
  (λ_=>none)
  (some .ret)
  (λ_=>none) c
def strip(c:PC):PC:=
 PC.rec .skip (λl=>.region l) (λl a=>.draw l a) (λl a=>.draw l a) (λ_ _ a b=>.seq a b) (λx _ _ a b=>.cond x a b) (λid _ b=>.block id b) (λ_ _ b=>.loop [] b) (λf ps l _ b=>.rangeF f ps l b) (λid=>.exit id) .ret c
def ads(P:Program)(r:ResultVar):Option (Nat×Option (Bool×Nat)):=
 match r with
 | .tmp t=>some (t,none)
 | .cell a t=>opt (U9 P t) λs=>match s.1 with
  |true=>some (a,some (true,s.2))
  |false=>some (a,some (false,1))
section
section
variable {α:Type}
def aK(l:List α):∀(i:Nat) (K:α->Prop),eM l i K→∃a,l[i]?=some a/\K a:=by
 induction l with
 |nil=>intro i K h;exact h.elim
 |cons a l ih=>
  intro i K h;cases i with
  |zero=>exact⟨a,rfl,h⟩
  |succ i=>simpa using ih i K h
def As(n:Nat):∀(l:List α) (K:List α->Prop),Nr n l K→∃t r,l=t++r/\t.length=n/\K t:=by
 induction n with
 |zero=>intro l K h;exact⟨[],l,rfl,rfl,h⟩
 |succ n ih=>
  intro l K h;cases l with
  |nil=>exact h.elim
  |cons a l=>
   obtain⟨t,r,rfl,H,h3⟩:=ih l _ h;exact⟨a::t,r,rfl,by simp[H],h3⟩
def vM(n:Nat):∀(l:List α) (K:List α->Prop),H_ n l K→∃t r,l=t++r/\t.length=n/\K r:=by
 induction n with
 |zero=>intro l K h;exact⟨[],l,rfl,rfl,h⟩
 |succ n ih=>
  intro l K h;cases l with
  |nil=>exact h.elim
  |cons a l=>
   obtain⟨t,r,rfl,H,h3⟩:=ih l _ h;exact⟨a::t,r,rfl,by simp[H],h3⟩
def akE(new:List α):∀(l:List α) (K:List α->Prop),
 (List.rec (λl K=>K l) (λx _ ih l K=>match l with|[]=>False|_::r=>ih r λt=>K (x::t)) new l K)->
 ∃mid post,l=mid++post/\mid.length=new.length/\K (new++post):=by
 induction new with
 |nil=>intro l K h;exact⟨[],l,rfl,rfl,h⟩
 |cons x new ih=>
  intro l K h;cases l with
  |nil=>exact h.elim
  |cons a l=>
   obtain⟨m,p,rfl,H,h3⟩:=ih l _ h;exact⟨a::m,p,rfl,by simp[H],h3⟩
def ph(new:List α)(l:List α):∀(i:Nat) (K:List α->Prop),A5 new l i K->
 ∃pre mid post,l=pre++mid++post/\pre.length=i/\mid.length=new.length/\K (pre++new++post):=by
 induction l with
 |nil=>
  intro i K h;cases i with
  |zero=>
   cases new with
   |nil=>exact⟨[],[],[],rfl,rfl,rfl,h⟩
   |cons x new=>exact h.elim
  |succ i=>exact h.elim
 |cons a l ih=>
  intro i K h;cases i with
  |zero=>
   obtain⟨m,p,U,H,h3⟩:=akE new (a::l) K h;exact⟨[],m,p,yT,rfl,H,by simpa using h3⟩
  |succ i=>
   obtain⟨pre,m,p,rfl,H,h3,h4⟩:=ih i _ h;exact⟨a::pre,m,p,ab,by simp[H],h3,DU⟩
def dW(l:List α):∀(i:Nat) (x:α) (K:List α->Prop),rJ l i x K->i<l.length/\K (l.set i x):=by
 induction l with
 |nil=>intro i x K h;exact h.elim
 |cons a l ih=>
  intro i x K h;cases i with
  |zero=>exact⟨ab,h⟩
  |succ i=>have:=ih i x _ h;exact⟨by simpa using this.1,by simpa using this.2⟩
def cS(l:List α)(x:α):∀(K:List α->Prop),fv l x K->K (l++[x]):=by
 induction l with
 |nil=>intro K h;exact h
 |cons a l ih=>intro K h;exact ih _ h
def dX(l:List α):∀(K:Nat->Prop),me l K->K l.length:=by
 induction l with
 |nil=>intro K h;exact h
 |cons a l ih=>intro K h;exact ih _ h
end
def Ek(p:Nat)(K:AV->Prop)(e:Env):look p K e->K (aA p e):=by
 induction e with
 |nil=>intro h;exact h
 |cons hd e ih=>
  intro h;obtain⟨q,v⟩:=hd;have h':Bool.rec (look p K e) (K v) (Nat.beq q p):=h;simp only[aA];cases hq:Nat.beq q p with
  |true=>rw[hq]at h';exact h'
  |false=>rw[hq]at h';exact ih h'
def bD(env:Env):Operand->AV
 | .tmp t=>aA t env
 | .const v=>Aj v
 | .global _=>.bad
 | .func f=>.pv (.clo f [])
def aN(env:Env)(o:Operand)(K:AV->Prop)(h:ev env o K):K (bD env o):=by
 cases o with
 |tmp t=>exact Ek t K env h
 |const v=>exact h
 |global g=>exact h
 |func f=>exact h
def JV(env:Env)(l:XU):∀(K:XP->Prop),evs env l K->K (l.map (bD env)):=by
 induction l with
 |nil=>intro K h;exact h
 |cons o l ih=>intro K h;exact ih _ (aN env o _ h)
def JH(env:Env)(o:Option Operand)(K:Option AV->Prop)(h:evO env o K):K (o.map (bD env)):=by
 cases o with
 |none=>exact h
 |some x=>exact aN env x _ h
def Kk(env:Env)(l:List (Nat×Nat×Operand)):∀(K:List (Nat×Nat×AV)->Prop),EG env l K->K (l.map λp=>(p.1,p.2.1,bD env p.2.2)):=by
 induction l with
 |nil=>intro K h;exact h
 |cons o l ih=>intro K h;exact ih _ (aN env o.2.2 _ h)
def Tw(env:Env)(ps:QK):∀(K:Env->Prop),canon env ps K->K (ps.map λp=>(p,aA p env)):=by
 induction ps with
 |nil=>intro K h;exact h
 |cons p ps ih=>intro K h;exact ih _ (Ek p (λv=>canon env ps λr=>K ((p,v)::r)) env h)
def nY(l:CK):∀(K:XP->Prop),Qn l K->K (l.map .pv):=by
 induction l with
 |nil=>intro K h;exact h
 |cons x l ih=>intro K h;exact ih _ h
def rD(l:XP):∀(K:CK->Prop) (hk:Prop),LI l K hk->(∃t,l=t.map .pv/\K t)\/hk:=by
 induction l with
 |nil=>intro K hk h;exact .inl ⟨[],rfl,h⟩
 |cons a l ih=>
  intro K hk h;cases a with
  |pv x=>
   rcases ih _ hk h with⟨t,rfl,H⟩|H
   ·exact .inl ⟨x::t,rfl,H⟩
   ·exact .inr H
  |_=>exact .inr h
def LX(l:XP)(K:AV->Prop)(h:akJ l K):(∃t,l=t.map .pv/\K (.pv (.agg t)))\/K (.agg l):=rD l _ _ h
def DZ(env:Env)(ps:QK)(p:Nat):aA p (ps.map λp=>(p,aA p env))=aA p env\/aA p (ps.map λp=>(p,aA p env))=.bad:=by
 induction ps with
 |nil=>exact .inr rfl
 |cons q ps ih=>
  simp only[zau,aA];cases hq:Nat.beq q p with
  |true=>have:q=p:=zab hq;subst this;exact .inl rfl
  |false=>exact ih
def gU(d:Nat)(v:AV)(env:Env)(p:Nat):aA p (put (some d) v env)=bif Nat.beq d p then v else aA p env:=rfl
section read
variable {ok:Nat->Prop} {Z:ax} {vals:XS} {w:World}
def fm(l:CK):∀vs:XS,eu ok Z vals w (l.map .pv) vs↔cz ok w l vs:=by
 induction l with
 |nil=>intro vs;simp[eu,cz]
 |cons x l ih=>intro vs;simp only[zau,eu,cz,RA,ih]
def ew(xs ys:XP):∀vs:XS,eu ok Z vals w (xs++ys) vs↔∃us ws,vs=us++ws/\eu ok Z vals w xs us/\eu ok Z vals w ys ws:=by
 induction xs with
 |nil=>intro vs;simp only[zaZ,eu];constructor
       ·intro h;exact⟨[],vs,rfl,rfl,h⟩
       ·rintro⟨us,ws,rfl,rfl,h⟩;exact h
 |cons x xs ih=>
  intro vs;simp only[zbe,eu,ih];constructor
  ·rintro⟨v,r,rfl,U,us,ws,rfl,H,h3⟩;exact⟨v::us,ws,rfl,⟨v,us,rfl,U,H⟩,h3⟩
  ·rintro⟨_,ws,rfl,⟨v,us,rfl,U,H⟩,h3⟩;exact⟨v,us++ws,rfl,U,us,ws,rfl,H,h3⟩
def eu.length{l:XP}:∀{vs:XS},eu ok Z vals w l vs->vs.length=l.length:=by
 induction l with
 |nil=>intro vs h;simp only[eu]at h;subst h;rfl
 |cons x l ih=>intro vs h;simp only[eu]at h;obtain⟨v,r,rfl,_,H⟩:=h;simp[ih H]
def di(xs ys:CK)(vs:XS):cz ok w (xs++ys) vs↔∃us ws,vs=us++ws/\cz ok w xs us/\cz ok w ys ws:=by
 have:=ew (ok:=ok) (Z:=[]) (vals:=[]) (w:=w) (xs.map .pv) (ys.map .pv) vs;rw[<-zaY,fm]at this;simpa only[fm]using this
def cz.length{l:CK}{vs:XS}(h:cz ok w l vs):vs.length=l.length:=((oN l vs).1 h).1
end read
end
end Go.Dv
namespace Go.Dv
open Go.RowKit
section
def Out(cx:Cx)(env:Env)(a:Act)(w:World)(o:Oper)(K:AV->ax->Prop):Prop:=
 ∀(next:Act->World->Prop) (Q:Exit->Act->World->Prop),
  (∀av σ' ay v w',K av σ'->Rel cx env σ' ay a w'->RA (Ok cx σ' ay w') σ' ay w' av v->next (a.put o.dst v) w')->o.wp cx.P a w next Q
section
variable {cx:Cx} {env:Env} {Z:ax} {vals:XS} {a:Act} {w:World} {o:Oper}
def Rel.ev(h:Rel cx env Z vals a w)(x:Operand):RA (Ok cx Z vals w) Z vals w (bD env x) (a.eval x):=by
 cases x with
 |tmp t=>exact h.env t
 |const v=>
  simp only[bD,Act.eval];unfold Aj;split<;>simp only[RA,Rd];rename_i U H h3 h4 h5 h6;refine⟨trivial,?_⟩;cases v<;>first|rfl|exact(h5 _ rfl).elim|exact(h6 _ rfl).elim
 |global g=>simp only[bD,RA]
 |func f=>simp only[bD,Act.eval,RA,Rd];exact⟨#[],rfl,by simp[cz]⟩
def Rel.evL(h:Rel cx env Z vals a w)(l:XU):eu (Ok cx Z vals w) Z vals w (l.map (bD env)) (l.map a.eval):=by
 induction l with
 |nil=>simp[eu]
 |cons x l ih=>simp only[zau,eu];exact⟨_,_,rfl,h.ev x,ih⟩
def Out.run{K:AV->ax->Prop}{σ':ax}{ay:XS}{w':World}{v:Value}{av:AV}(b9:(execOp a.eval o).run cx.P w=.ok (.value v) w')(J:Rel cx env σ' ay a w')(hv:RA (Ok cx σ' ay w') σ' ay w' av v)
 (Y:K av σ'):Out cx env a w o K:=by
 intro next Q hn
 unfold Oper.wp;rw[b9,Oper.upon_value];exact hn av σ' ay v w' Y J hv
def Out.skip{K:AV->ax->Prop}{σ':ax}{ay:XS}{w':World}(b9:(execOp a.eval o).run cx.P w=.ok .skip w')(J:Rel cx env σ' ay a w')
 (Y:K .bad σ'):Out cx env a w o K:=by
 intro next Q hn
 unfold Oper.wp;rw[b9,Oper.upon_skip];exact hn .bad σ' ay undef w' Y J (by simp only[RA])
def aam{K:AV->ax->Prop}(J:Rel cx env Z vals a w)(x:Operand)(ho:o.op=.move x\/o.op=.assign x)(Y:K (bD env x) Z):Out cx env a w o K:=by
 refine Out.run (v:=a.eval x) ?_ J (J.ev x) Y;rcases ho with ho|ho<;>simp[execOp,ho]
def uC{p:Prop}[Decidable p]{K:PV->Prop}(h:vN p K):K (.bool (decide p)):=h _ ab
def j9{k j:IntKind}(h:Nat.beq k.ctorIdx j.ctorIdx=true):k=j:=by
 cases k<;>cases j<;>first|rfl|cases h
def anT(P:Program)(op:BinOp)(t:TypeId)(k j:IntKind)(x y:Int)(K:PV->Prop)(hj:sameKind op k j=true)(h:apw op k x y K):
 ∃r v,(binOp op t (.int k x) (.int j y)).run P w=.ok v w/\Rd (Ok cx Z vals w) w r v/\K r∧∀b1 b2,(eqGuard op t b1 b2 (.int k x) (.int j y)).run P w=.ok () w:=by
 have hg:∀b1 b2,(eqGuard op t b1 b2 (.int k x) (.int j y)).run P w=.ok () w:=by
  intro b1 b2;cases op<;>simp[eqGuard]
 cases op with
 |shl=>
  obtain⟨h0,h⟩:=h;refine⟨_,.int k (k.wrap (x*2^min y.toNat k.bits)),?_,ck,h _ rfl,hg⟩;simp[binOp,Op.shift,show ¬y<0 from by omega]
 |shr=>
  obtain⟨h0,h⟩:=h;refine⟨_,.int k (x.fdiv (2^min y.toNat k.bits)),?_,ck,h _ rfl,hg⟩;simp[binOp,Op.shift,show ¬y<0 from by omega]
 |quo=>
  obtain⟨h0,h⟩:=h;cases j9 hj;refine⟨_,.int k (k.wrap (x.tdiv y)),?_,ck,h _ rfl,hg⟩;simp[binOp,Op.intDiv,h0]
 |rem=>
  obtain⟨h0,h⟩:=h;cases j9 hj;refine⟨_,.int k (x.tmod y),?_,ck,h _ rfl,hg⟩;simp[binOp,Op.intDiv,h0]
 |add=>cases j9 hj;exact⟨_,.int k (k.wrap (x+y)),Rg,ck,h _ rfl,hg⟩
 |sub=>cases j9 hj;exact⟨_,.int k (k.wrap (x-y)),Rg,ck,h _ rfl,hg⟩
 |mul=>cases j9 hj;exact⟨_,.int k (k.wrap (x*y)),Rg,ck,h _ rfl,hg⟩
 |and=>cases j9 hj;exact⟨_,.int k (dB .and k x y),KB,ck,h _ rfl,hg⟩
 |or=>cases j9 hj;exact⟨_,.int k (dB .or k x y),KB,ck,h _ rfl,hg⟩
 |xor=>cases j9 hj;exact⟨_,.int k (dB .xor k x y),KB,ck,h _ rfl,hg⟩
 |andNot=>cases j9 hj;exact⟨_,.int k (dB .andNot k x y),KB,ck,h _ rfl,hg⟩
 |eql=>cases j9 hj;exact⟨.bool (x==y),.bool (x==y),zk,ck,h _ ab,hg⟩
 |neq=>cases j9 hj;exact⟨.bool (x !=y),.bool (x !=y),zk,ck,h _ ab,hg⟩
 |lss=>cases j9 hj;exact⟨.bool (decide (x<y)),.bool (decide (x<y)),zk,ck,h _ ab,hg⟩
 |leq=>cases j9 hj;exact⟨.bool (decide (x<=y)),.bool (decide (x<=y)),zk,ck,h _ ab,hg⟩
 |gtr=>cases j9 hj;exact⟨.bool (decide (y<x)),.bool (decide (y<x)),zk,ck,h _ ab,hg⟩
 |geq=>cases j9 hj;exact⟨.bool (decide (y<=x)),.bool (decide (y<=x)),zk,ck,h _ ab,hg⟩
def ve(l m:P8):((⟨l.toArray⟩:ByteArray).toList==(⟨m.toArray⟩:ByteArray).toList)=decide (l=m):=by
 rw[ByteArray.toList_mk,ByteArray.toList_mk,zaN];simp
def Ac(l m:P8):Op.bytesLess (⟨l.toArray⟩:ByteArray).toList (⟨m.toArray⟩:ByteArray).toList=decide (Op.bytesLess l m=true):=by
 rw[ByteArray.toList_mk,ByteArray.toList_mk];simp
def ab1(P:Program)(op:BinOp)(t:TypeId)(x y:PV)(vx vy:Value)(K:PV->Prop)(T:Rd (Ok cx Z vals w) w x vx)(hy:Rd (Ok cx Z vals w) w y vy)(h:ash op x y K):
 ∃r v,(binOp op t vx vy).run P w=.ok v w/\Rd (Ok cx Z vals w) w r v/\K r∧∀b1 b2,(eqGuard op t b1 b2 vx vy).run P w=.ok () w:=by
 cases x with
 |int k x=>
  cases y with
  |int j y=>
   simp only[Rd]at T hy;subst T hy;have h':(match sameKind op k j with|true=>apw op k x y K|false=>False):=h;cases hs:sameKind op k j with
   |true=>rw[hs]at h';exact anT P op t k j x y K hs h'
   |false=>rw[hs]at h';exact h'.elim
  |_=>exact h.elim
 |str x=>
  cases y with
  |str y=>
   simp only[Rd]at T hy;subst T hy;have hg:∀b1 b2,(eqGuard op t b1 b2 (.string ⟨x.toArray⟩) (.string ⟨y.toArray⟩)).run P w=.ok () w:=by
    intro b1 b2;cases op<;>simp[eqGuard]
   cases op with
   |add=>
    obtain⟨h0,h⟩:=h;refine⟨_,.string ⟨(x++y).toArray⟩,?_,ck,h,hg⟩;have U:¬(((⟨x.toArray⟩:ByteArray).size+(⟨y.toArray⟩:ByteArray).size:Nat):Int)>IntKind.i64.max:=by
     have:IntKind.i64.max=9223372036854775807:=ai;rw[this];show ¬((x.length+y.length:Nat):Int)>_;omega
    simp only[binOp,Op.stringOp,if_neg U];show Result.ok (Value.string (⟨x.toArray⟩++⟨y.toArray⟩)) w=_;congr 2
   |eql=>
    refine⟨_,.bool (decide (x=y)),?_,ck,uC h,hg⟩;simp only[binOp,Op.stringOp,ve];rfl
   |neq=>
    refine⟨_,.bool (decide (x≠y)),?_,ck,uC h,hg⟩;simp only[binOp,Op.stringOp,ve,decide_not];rfl
   |lss=>
    refine⟨_,.bool (decide (Op.bytesLess x y=true)),?_,ck,uC h,hg⟩;simp only[binOp,Op.stringOp,Ac];rfl
   |leq=>
    refine⟨_,.bool (decide (Op.bytesLess x y=true\/x=y)),?_,ck,uC h,hg⟩;simp only[binOp,Op.stringOp,Ac,ve,zbk];rfl
   |gtr=>
    refine⟨_,.bool (decide (¬(Op.bytesLess x y=true\/x=y))),?_,ck,uC h,hg⟩;simp only[binOp,Op.stringOp,Ac,ve,decide_not,zbk];rfl
   |geq=>
    refine⟨_,.bool (decide (¬Op.bytesLess x y=true)),?_,ck,uC h,hg⟩;simp only[binOp,Op.stringOp,Ac,decide_not];rfl
   |_=>exact h.elim
  |_=>exact h.elim
 |_=>exact h.elim
def asI{K:AV->ax->Prop}(J:Rel cx env Z vals a w)(op:BinOp)(t u:TypeId)(x y:Operand)(ho:o.op=.binOp op t x y u)
 (Y:match bD env x,bD env y with
   | .pv x,.pv y=>ash op x y λr=>K (.pv r) Z
   |_,_=>False):Out cx env a w o K:=by
 have T:=J.ev x;have hy:=J.ev y
 revert Y T hy
 cases bD env x with
 |pv px=>
  cases bD env y with
  |pv py=>
   intro Y T hy;simp only[RA]at T hy;obtain⟨r,v,U,H,h3,h4⟩:=ab1 cx.P op t px py _ _ _ T hy Y;refine Out.run (v:=v) ?_ J S4 h3;simp[execOp,ho,U,h4]
  |_=>intro Y;exact Y.elim
 |_=>intro Y;exact Y.elim
def avH{K:AV->ax->Prop}(J:Rel cx env Z vals a w)(op:UnOp)(t:TypeId)(x:Operand)(ho:o.op=.unOp op t x)
 (Y:match bD env x with
   | .pv x=>unP op x λr=>K (.pv r) Z
   |_=>False):Out cx env a w o K:=by
 have T:=J.ev x
 revert Y T
 cases bD env x with
 |pv px=>
  intro Y T;simp only[RA]at T;cases op with
  |not=>
   cases px with
   |bool b=>
    simp only[Rd]at T;refine Out.run (v:=.bool (!b)) (by simp[execOp,ho,T,Op.unary]) J (av:=.pv (.bool (!b))) fK (Y _ ab)
   |_=>exact Y.elim
  |neg=>
   cases px with
   |int k n=>
    simp only[Rd]at T;refine Out.run (v:=.int k (k.wrap (0-n))) (by simp[execOp,ho,T,Op.unary,Op.intArith]) J (av:=.pv (.int k (k.wrap (0-n)))) fK (Y _ rfl)
   |_=>exact Y.elim
  |_=>exact Y.elim
 |_=>intro Y;exact Y.elim
def ah8{K:AV->ax->Prop}(J:Rel cx env Z vals a w)(neg:Bool)(t u:TypeId)(x y:Operand)
 (Y:match bD env x,bD env y with
   | .pv x,.pv y=>match x,y with
    | .bool a,.bool b=>match neg with
     |false=>vN (a=b) λr=>K (.pv r) Z
     |true=>vN (a≠b) λr=>K (.pv r) Z
    |_,_=>False
   |_,_=>False)
 (ho:o.op=.binOp (if neg then .neq else .eql) t x y u) (ht:cx.P.underlying t=some .bool):Out cx env a w o K:=by
 have T:=J.ev x;have hy:=J.ev y
 revert Y T hy
 cases bD env x with
 |pv px=>
  cases bD env y with
  |pv py=>
   cases px with
   |bool p=>
    cases py with
    |bool q=>
     intro Y T hy;simp only[RA,Rd]at T hy;cases neg with
     |false=>
      refine Out.run (v:=.bool (p==q)) ?_ J (av:=.pv (.bool (p==q))) fK (Y _ ab);simp[execOp,ho,T,hy,eqGuard,binOp,Op.equal,run_equalIn_bool w 9999 t p q ht,Op.maxDepth,Sem.run_bind,Sem.run_pure]
     |true=>
      refine Out.run (v:=.bool (p !=q)) ?_ J (av:=.pv (.bool (p !=q))) fK (Y _ ab);simp[execOp,ho,T,hy,eqGuard,binOp,Op.equal,run_equalIn_bool w 9999 t p q ht,Op.maxDepth,Sem.run_bind,Sem.run_pure];cases p<;>cases q<;>rfl
    |_=>intro Y;exact Y.elim
   |_=>intro Y;cases py<;>exact Y.elim
  |_=>intro Y;exact Y.elim
 |_=>intro Y;exact Y.elim
instance aGz:DecidableEq PV:=λx y=>Classical.propDecidable (x=y)
def FP{P:Program}{t:TypeId}(h:∀d,P.underlying t=some d->(d matches .struct _| .array _ _)=false)(hd:∃d,P.underlying t=some d){cs:Array Value}{off:Nat}{v:Value}(hv:cs[off]?=some v):
 (part t cs off).run P w=.ok v w:=by
 obtain⟨d,hd⟩:=hd;have:=h d hd;cases d<;>simp_all[part,isAgg,run_underlying hd]
def Ku:∀(k1 k2:QK) (cs ds:CK),se (k1++k2) cs ds=true→∃c1 c2 d1 d2,cs=c1++c2/\ds=d1++d2/\se k1 c1 d1=true/\se k2 c2 d2=true/\c1.length=k1.length/\d1.length=k1.length
 |[],k2,cs,ds,h=>⟨[],cs,[],ds,rfl,rfl,rfl,h,rfl,rfl⟩
 |k::k1,k2,cs,ds,h=>by
  cases cs with
  |nil=>cases h
  |cons c cs=>
   cases ds with
   |nil=>cases h
   |cons d ds=>
    have h':(match Gf k c d with|true=>se (k1++k2) cs ds|false=>false)=true:=h;cases U:Gf k c d with
    |false=>rw[U]at h';cases h'
    |true=>
     rw[U]at h';obtain⟨c1,c2,d1,d2,rfl,rfl,e1,e2,e3,e4⟩:=Ku k1 k2 cs ds h';refine⟨c::c1,c2,d::d1,d2,rfl,rfl,?_,e2,by simp[e3],by simp[e4]⟩;show(match Gf k c d with|true=>se k1 c1 d1|false=>false)=true;rw[U];exact e1
def adS{P:Program}{w:World}{t:TypeId}{gs:Array Field}{i:TypeInfo}(h:P.underlying t=some (.struct gs))(W:P.info? t=some i)(cs:Array Value)(off:Nat):
 (part t cs off).run P w=.ok (.agg (cs.extract off (off+i.size))) w:=by
 simp[part,isAgg,run_underlying h,sizeOf,run_typeInfo w W]
def L5{P:Program}(N:Nat)(sub:List Field->Option (QK))
 (axn:∀(gs:List Field) (ks:QK) (cs ds:CK) (xs ys:Array Value),sub gs=some ks->se ks cs ds=true->cz (Ok cx Z vals w) w cs xs.toList->cz (Ok cx Z vals w) w ds ys.toList->(Op.eqFields N xs ys gs).run P w=.ok (decide (cs=ds)) w)
 (fs:List Field):∀(n:Nat) (ks:QK) (cs ds:CK) (xs ys:Array Value),mO P sub fs n=some ks->se ks cs ds=true->
 cz (Ok cx Z vals w) w cs (xs.toList.drop n)->cz (Ok cx Z vals w) w ds (ys.toList.drop n)->(Op.eqFields (N+1) xs ys fs).run P w=.ok (decide (cs=ds)) w:=by
 induction fs with
 |nil=>
  intro n ks cs ds xs ys E hl T hy;cases E;have:cs=[]/\ds=[]:=by
   cases cs with
   |nil=>cases ds with
    |nil=>exact⟨rfl,rfl⟩
    |cons d ds=>simp[se]at hl
   |cons c cs=>simp[se]at hl
  obtain⟨rfl,rfl⟩:=this;simp[Op.eqFields]
 |cons f fs ih=>
  intro n ks cs ds xs ys E hl T hy;have pP:k_ (Nat.beq f.offset n&&f.name != "_") (match P.underlying f.type with
   |some (.int _)=>opt (mO P sub fs (n+1)) λr=>some (0::r)
   |some .string=>opt (mO P sub fs (n+1)) λr=>some (1::r)
   |some .bool=>opt (mO P sub fs (n+1)) λr=>some (2::r)
   |some (.struct gs)=>opt (sub gs.toList) λks=>opt (P.info? f.type) λi=>k_ (Nat.beq i.size ks.length&&!P.stoodInHeld f.type) (opt (mO P sub fs (n+ks.length)) λr=>some (ks++r))
   |_=>none)=some ks:=E
  cases I:(Nat.beq f.offset n&&f.name != "_")with
  |false=>rw[I]at pP;simp[k_]at pP
  |true=>
   rw[I]at pP;simp only[k_]at pP;rw[zaT]at I;have ho:f.offset=n:=zab I.1;have hn:f.name≠ "_" :=by simpa using I.2
   have main:∀k r,ks=k::r->mO P sub fs (n+1)=some r->
    (∀c d u v,Gf k c d=true->Rd (Ok cx Z vals w) w c u->Rd (Ok cx Z vals w) w d v->(Op.equalIn (N+1) f.type u v).run P w=.ok (decide (c=d)) w)->
    (∀d,P.underlying f.type=some d->(d matches .struct _| .array _ _)=false)->(∃d,P.underlying f.type=some d)->
    (Op.eqFields (N+1) xs ys (f::fs)).run P w=.ok (decide (cs=ds)) w:=by
    intro k r hks J heq hna hex;subst hks;cases cs with
    |nil=>simp[se]at hl
    |cons c cs=>
     cases ds with
     |nil=>simp[se]at hl
     |cons d ds=>
      have T5:(match Gf k c d with|true=>se r cs ds|false=>false)=true:=hl;cases U:Gf k c d with
      |false=>rw[U]at T5;cases T5
      |true=>
       rw[U]at T5;simp only[cz]at T hy;obtain⟨u,us,hu,hcu,nO⟩:=T;obtain⟨v,vs,hv,hdv,hds⟩:=hy;have e1:xs[n]?=some u:=by
        have:=congrArg (·[0]?) hu;simpa[zaB]using this
       have e2:ys[n]?=some v:=by
        have:=congrArg (·[0]?) hv;simpa[zaB]using this
       have d1:xs.toList.drop (n+1)=us:=by
        have:=congrArg List.tail hu;rwa[zbl]at this
       have d2:ys.toList.drop (n+1)=vs:=by
        have:=congrArg List.tail hv;rwa[zbl]at this
       have:=ih (n+1) r cs ds xs ys J T5 (d1▸nO) (d2▸hds);simp only[Op.eqFields,if_pos hn,Sem.run_bind,ho,FP hna hex e1,FP hna hex e2,Result.andThen_ok,heq c d u v U hcu hdv,Sem.run_ite,this,Sem.run_pure];by_cases hcd:c=d
       ·simp[hcd]
       ·simp[hcd]
   cases hu:P.underlying f.type with
   |none=>rw[hu]at pP;cases pP
   |some d=>
    rw[hu]at pP;cases d with
    |int k=>
     simp only[opt]at pP;cases J:mO P sub fs (n+1)with
     |none=>rw[J]at pP;cases pP
     |some r=>
      rw[J]at pP;cases pP;refine main 0 r rfl J ?_ (λd hd=>RH) ⟨_,hu⟩;intro c d u v U F hd;cases c<;>cases d<;>simp[Gf]at U;simp only[Rd]at F hd;subst U F hd;rw[run_equalIn_int w N f.type _ k _ _ hu];congr 1;rw[zaN];simp
    |string=>
     simp only[opt]at pP;cases J:mO P sub fs (n+1)with
     |none=>rw[J]at pP;cases pP
     |some r=>
      rw[J]at pP;cases pP;refine main 1 r rfl J ?_ (λd hd=>RH) ⟨_,hu⟩;intro c d u v U F hd;cases c<;>cases d<;>simp[Gf]at U;simp only[Rd]at F hd;subst F hd;rw[run_equalIn_string w N f.type _ _ hu,ve];congr 1;rw[zaN];simp
    |bool=>
     simp only[opt]at pP;cases J:mO P sub fs (n+1)with
     |none=>rw[J]at pP;cases pP
     |some r=>
      rw[J]at pP;cases pP;refine main 2 r rfl J ?_ (λd hd=>RH) ⟨_,hu⟩;intro c d u v U F hd;cases c<;>cases d<;>simp[Gf]at U;simp only[Rd]at F hd;subst F hd;rw[run_equalIn_bool w N f.type _ _ hu];congr 1;rw[zaN];simp
    |struct gs=>
     simp only[opt]at pP;cases hs:sub gs.toList with
     |none=>rw[hs]at pP;cases pP
     |some k1=>
      rw[hs]at pP;cases W:P.info? f.type with
      |none=>rw[W]at pP;cases pP
      |some i=>
       rw[W]at pP;cases hz:(Nat.beq i.size k1.length&&!P.stoodInHeld f.type)with
       |false=>simp only[hz]at pP;cases pP
       |true=>
        simp only[hz,k_]at pP;rw[zaT]at hz;have nP:i.size=k1.length:=zab hz.1;have fu:P.stoodInHeld f.type=false:=by simpa using hz.2
        cases J:mO P sub fs (n+k1.length)with
        |none=>rw[J]at pP;cases pP
        |some r=>
         rw[J]at pP;cases pP;obtain⟨c1,c2,d1,d2,rfl,rfl,l1,l2,n1,n2⟩:=Ku _ _ _ _ hl;obtain⟨us,ws,hu1,sB,A7⟩:=(di _ _ _).1 T;obtain⟨us',ws',hu2,hy1,hy2⟩:=(di _ _ _).1 hy;have m1:us.length=k1.length:=by rw[sB.length,n1]
         have m2:us'.length=k1.length:=by rw[hy1.length,n2]
         have e1:(xs.extract n (n+i.size)).toList=us:=by
          rw[za6,zaS,zav,hu1,nP,<-m1,zbm]
         have e2:(ys.extract n (n+i.size)).toList=us':=by
          rw[za6,zaS,zav,hu2,nP,<-m2,zbm]
         have f1:xs.toList.drop (n+k1.length)=ws:=by rw[<-zaE,hu1,<-m1,zbn]
         have f2:ys.toList.drop (n+k1.length)=ws':=by rw[<-zaE,hu2,<-m2,zbn]
         have hfo:P.fieldsOf f.type=gs:=by simp[Program.fieldsOf,hu]
         have heq:(Op.equalIn (N+1) f.type (.agg (xs.extract n (n+i.size))) (.agg (ys.extract n (n+i.size)))).run P w=.ok (decide (c1=d1)) w:=by
          rw[run_equalIn_struct w N f.type _ _ (by rw[hfo];exact hu) fu,hfo];exact axn gs.toList k1 c1 d1 _ _ hs l1 (e1▸sB) (e2▸hy1)
         have aAF:=ih (n+k1.length) r c2 d2 xs ys J l2 (f1▸A7) (f2▸hy2);simp only[Op.eqFields,if_pos hn,Sem.run_bind,ho,adS hu W,Result.andThen_ok,heq,Sem.run_ite,aAF,Sem.run_pure];have atE:(c1++c2=d1++d2)↔(c1=d1/\c2=d2):=⟨λh=>List.append_inj h (by rw[n1,n2]),λ⟨U,H⟩=>by rw[U,H]⟩
         by_cases hcd:c1=d1
         ·simp[hcd]
         ·simp[hcd,atE]
    |_=>cases pP
def adU{P:Program}(fs:List Field)(ks:QK)(cs ds:CK)(xs ys:Array Value)(E:AZ P fs 0=some ks)(hl:se ks cs ds=true)
 (T:cz (Ok cx Z vals w) w cs xs.toList) (hy:cz (Ok cx Z vals w) w ds ys.toList):(Op.eqFields 9999 xs ys fs).run P w=.ok (decide (cs=ds)) w:=by
 refine L5 9998 _ (λgs ks cs ds xs ys U H h3 h4=>?_) fs 0 ks cs ds xs ys E hl (by simpa using T) (by simpa using hy);refine L5 9997 _ (λgs ks cs ds xs ys U H h3 h4=>?_) gs 0 ks cs ds xs ys U H (by simpa using h3) DU;exact L5 9996 _ (λgs ks cs ds xs ys U _ _ _=>by cases U) gs 0 ks cs ds xs ys U H (by simpa using h3) DU
def ahQ{K:AV->ax->Prop}(J:Rel cx env Z vals a w)(neg:Bool)(ks:QK)(t u:TypeId)(x y:Operand)
 (Y:match bD env x,bD env y with
   | .pv x,.pv y=>match x,y with
    | .agg a,.agg b=>match se ks a b with
     |true=>match neg with
      |false=>vN (a=b) λr=>K (.pv r) Z
      |true=>vN (a≠b) λr=>K (.pv r) Z
     |false=>False
    |_,_=>False
   |_,_=>False)
 (ho:o.op=.binOp (if neg then .neq else .eql) t x y u) (fs:Array Field) (ht:cx.P.underlying t=some (.struct fs))
 (E:AZ cx.P fs.toList 0=some ks) (hs:cx.P.stoodInHeld t=false) (hg:cx.P.eqGuardType cx.P.depth t=false):Out cx env a w o K:=by
 have T:=J.ev x;have hy:=J.ev y
 revert Y T hy
 cases bD env x with
 |pv px=>
  cases bD env y with
  |pv py=>
   cases px with
   |agg p=>
    cases py with
    |agg q=>
     intro Y T hy;simp only[RA,Rd]at T hy;obtain⟨_,xs,T,hx'⟩:=T;obtain⟨_,ys,hy,hy'⟩:=hy;have hf:cx.P.fieldsOf t=fs:=by simp[Program.fieldsOf,ht]
     cases hl:se ks p q with
     |false=>simp only[hl]at Y
     |true=>
      simp only[hl]at Y;have b9:=adU (P:=cx.P) fs.toList ks p q xs ys E hl (by simpa using hx') (by simpa using hy');have au2:(Op.equalIn 10000 t (.agg xs) (.agg ys)).run cx.P w=.ok (decide (p=q)) w:=by
       rw[run_equalIn_struct w 9999 t xs ys (by rw[hf];exact ht) hs,hf];exact b9
      cases neg with
      |false=>
       refine Out.run (v:=.bool (decide (p=q))) ?_ J (av:=.pv (.bool (decide (p=q)))) fK (Y _ ab);simp[execOp,ho,T,hy,run_eqGuard_agg w _ t _ _ xs ys hg,run_eql_struct,au2]
      |true=>
       refine Out.run (v:=.bool (!decide (p=q))) ?_ J (av:=.pv (.bool (!decide (p=q)))) fK (Y _ ab);simp[execOp,ho,T,hy,run_eqGuard_agg w _ t _ _ xs ys hg,run_neq_struct,au2]
    |_=>intro Y;exact Y.elim
   |_=>intro Y;cases py<;>exact Y.elim
  |_=>intro Y;exact Y.elim
 |_=>intro Y;exact Y.elim
end
end
end Go.Dv
namespace Go.Dv
open Go.RowKit
section
def SlV(ok:Nat->Prop)(w:World)(sz:Nat)(aw:CK)(v:Value):Prop:=
 ∃a c,v=.slice a aw.length c/\aw.length<=c/\c<=maxLen/\(aw=[]∨∃b o,a=some ⟨b,o,none⟩/\dN ok w b sz o aw)
def ic(b o n:Nat):(⟨b,o,none⟩:Addr).add n=⟨b,o+n,none⟩:=by
 unfold Addr.add;split
 ·rename_i h;subst h;rfl
 ·rfl
section
variable {cx:Cx} {env:Env} {Z:ax} {vals:XS} {a:Act} {w:World} {o:Oper}
def Wr{ok:Nat->Prop}{sz:Nat}{aw:CK}{v:Value}(h:Rd ok w (.sl sz aw) v):SlV ok w sz aw v:=by
 simp only[Rd]at h;obtain⟨a,c,U,H,h3,h4⟩:=h;exact⟨a,c,U,H,h3,h4.imp id λ⟨b,o,h5,_,h6⟩=>⟨b,o,h5,h6⟩⟩
def uS{e:TypeId}{sz:Nat}{ap:Bool}{aw:CK}{v:Value}(h:RB cx Z vals w (.row e sz ap aw) v):SlV (Ok cx Z vals w) w sz aw v:=by
 obtain⟨nP,cells,U,H,h3,h4⟩:=h;rcases U.2 with⟨rfl,h5⟩|⟨g,cap,cur,fr,rfl,h5,h6,h7,h8,h9,VB,h11⟩
 ·have:aw=[]:=zaf h5;subst this;exact⟨none,0,rfl,zai _,by simp[maxLen],.inl rfl⟩
 ·refine⟨_,cap,rfl,h7,h8,.inr ⟨g,0,rfl,(qR g sz aw 0).2 ⟨H,(Cg g _ 0).2 ⟨h3,cells,h4,λj u hu=>?_⟩⟩⟩⟩;have hj:cur[j]?=some u:=by
   rw[<-VB,zaK]at hu;split at hu
   ·simpa using hu
   ·cases hu
  simp[World.cell?,h6,hj]
def getElem?_of{α:Type}{l:List α}{i:Nat}{x y:α}(h:l[i]?=some x)(h':l[i]?=some y):x=y:=by rw[h]at h';exact Option.some.inj h'
def bW.val(h:bW cx Z vals w){i:Nat}{s:cK}(W:Z[i]?=some s):∃v,vals[i]?=some v/\RB cx Z vals w s v:=by
 have hl:i<vals.length:=by rw[h.len];exact(zaa.1 W).1
 exact⟨vals[i],zah hl,h.lW i s _ W (zah hl)⟩
def afU{ok:Nat->Prop}{b sz:Nat}(xs ys:CK):∀o,dN ok w b sz o (xs++ys)->dN ok w b sz (o+xs.length*sz) ys:=by
 intro o h;rw[qR]at h ⊢;obtain⟨U,H⟩:=h;rw[zaz,lz,iS sz xs (λx T=>U x bP)]at H;exact⟨λx T=>U x bP,H.2⟩
def aer{ok:Nat->Prop}{b sz:Nat}(xs ys:CK):∀o,dN ok w b sz o (xs++ys)->dN ok w b sz o xs:=by
 intro o h;rw[qR]at h ⊢;obtain⟨U,H⟩:=h;rw[zaz,lz]at H;exact⟨λx T=>U x bP,H.1⟩
def LZ{ok:Nat->Prop}{b sz:Nat}(l h:Nat)(xs:CK)(hlh:l<=h)(T:h<=xs.length)(o:Nat)(J:dN ok w b sz o xs):dN ok w b sz (o+l*sz) (cut l h xs):=by
 have e1:xs=xs.take l++(cut l h xs++xs.drop h):=by
  unfold cut;rw[<-zaj];have:xs.take l++(xs.take h).drop l=xs.take h:=by
   have:=zaF l (xs.take h);rwa[zbj,zat hlh]at this
  rw[this,zaF]
 rw[e1]at J;have:=afU _ _ o J;rw[zal,zat V]at this;exact aer _ _ _ this
def qS{α:Type}(l h:Nat)(xs:List α)(T:h<=xs.length):(cut l h xs).length=h-l:=by
 unfold cut;rw[zay,zal,zat T]
def Iv(J:bW cx Z vals w){id sz lo n:Nat}{v:Value}(hv:RA (Ok cx Z vals w) Z vals w (.sub id sz lo n) v){b:cK}(I:Z[id]?=some b){K:CK->Prop}(h:Sn sz lo n b K):
 ∃aw,K aw/\aw.length=n/\(∀K2:CK->Prop,K2 aw->Sn sz lo n b K2)/\
  ∃ad c,v=.slice ad n c/\n<=c/\c<=maxLen/\(aw=[]∨∃g,ad=some ⟨g,lo*sz,none⟩/\dN (Ok cx Z vals w) w g sz (lo*sz) aw/\
   ((∃e ap fg u,b=.row e sz ap fg/\vals[id]?=some u/\bM u=some g)\/(Ok cx Z vals w g∧∃fg,b=.fz (.sl sz fg))))/\(∃e ap fg,b=.row e sz ap fg/\aw=cut lo (lo+n) fg/\lo+n<=fg.length\/b=.fz (.sl sz fg)/\aw=cut lo (lo+n) fg/\lo+n<=fg.length):=by
 obtain⟨u,hu,lV⟩:=J.val I;simp only[RA]at hv;obtain⟨_,ad,c,rfl,H,h3,h4⟩:=hv;have main:∀fg:CK,lo+n<=fg.length->(∀g n0 c0,u=.slice (some ⟨g,0,none⟩) n0 c0->0<n->dN (Ok cx Z vals w) w g sz 0 fg/\((∃e ap fg u,b=.row e sz ap fg/\vals[id]?=some u/\bM u=some g)\/(Ok cx Z vals w g∧∃fg,b=.fz (.sl sz fg))))->K (cut lo (lo+n) fg)->(∀K2:CK->Prop,K2 (cut lo (lo+n) fg)->Sn sz lo n b K2)->
  (∃e ap Xj,b=.row e sz ap Xj/\cut lo (lo+n) fg=cut lo (lo+n) Xj/\lo+n<=Xj.length\/b=.fz (.sl sz Xj)/\cut lo (lo+n) fg=cut lo (lo+n) Xj/\lo+n<=Xj.length)->
  ∃aw,K aw/\aw.length=n/\(∀K2:CK->Prop,K2 aw->Sn sz lo n b K2)/\
  ∃ad' c',Value.slice ad n c=.slice ad' n c'/\n<=c'/\c'<=maxLen/\(aw=[]∨∃g,ad'=some ⟨g,lo*sz,none⟩/\dN (Ok cx Z vals w) w g sz (lo*sz) aw/\
   ((∃e ap fg u,b=.row e sz ap fg/\vals[id]?=some u/\bM u=some g)\/(Ok cx Z vals w g∧∃fg,b=.fz (.sl sz fg))))/\(∃e ap fg,b=.row e sz ap fg/\aw=cut lo (lo+n) fg/\lo+n<=fg.length\/b=.fz (.sl sz fg)/\aw=cut lo (lo+n) fg/\lo+n<=fg.length):=by
  intro fg hle hg E xG nj;refine⟨_,E,by rw[qS _ _ _ hle];omega,xG,ad,c,rfl,H,h3,?_,nj⟩;rcases h4 with rfl|⟨g,n0,c0,h5,h6⟩
  ·left;simp[cut]
  ·by_cases hn:n=0
   ·subst hn;left;simp[cut]
   rw[hu]at h5;cases h5;obtain⟨f1,f2⟩:=hg g n0 c0 rfl V;right;refine⟨g,h6,?_,f2⟩;have:=LZ lo (lo+n) fg V hle 0 f1;rwa[zaU]at this
 cases b with
 |row e s ap fg=>
  replace h:(match Nat.beq s sz with|true=>lo+n<=fg.length/\K (cut lo (lo+n) fg)|false=>False):=h;cases hs:Nat.beq s sz with
  |false=>rw[hs]at h;exact h.elim
  |true=>
   rw[hs]at h;have:=zab hs;subst this;refine main fg h.1 (λg n0 c0 hg hn=>⟨?_,.inl ⟨_,_,_,u,rfl,hu,by rw[hg];rfl⟩⟩) h.2 (λK2 H=>?_) ⟨e,ap,fg,.inl ⟨rfl,rfl,h.1⟩⟩
   ·obtain⟨ad2,c2,g1,_,_,g4⟩:=uS lV;rw[hg]at g1;cases g1;rcases g4 with g4|⟨b',o',g5,g6⟩
    ·subst g4;have:=h.1;simp at this;omega
    ·cases g5;exact g6
   ·show(match Nat.beq s s with|true=>lo+n<=fg.length/\K2 (cut lo (lo+n) fg)|false=>False);rw[hs];exact⟨h.1,H⟩
 |fz x=>
  cases x with
  |sl s fg=>
   replace h:(match Nat.beq s sz with|true=>lo+n<=fg.length/\K (cut lo (lo+n) fg)|false=>False):=h;cases hs:Nat.beq s sz with
   |false=>rw[hs]at h;exact h.elim
   |true=>
    rw[hs]at h;have:=zab hs;subst this;have lf:Rd (Ok cx Z vals w) w (.sl s fg) u:=lV;simp only[Rd]at lf;obtain⟨ad2,c2,g1,_,_,g4⟩:=lf;have E:=λ(g n0 c0:Nat) (hg:u=.slice (some ⟨g,0,none⟩) n0 c0) (hn:0<n)=>(show dN (Ok cx Z vals w) w g s 0 fg/\Ok cx Z vals w g by
     rw[hg]at g1;cases g1;rcases g4 with g4|⟨b',o',g5,g6,g7⟩
     ·subst g4;have:=h.1;simp at this;omega
     ·cases g5;exact⟨g7,g6⟩)
    refine main fg h.1 (λg n0 c0 hg hn=>⟨(E g n0 c0 hg hn).1,.inr ⟨(E g n0 c0 hg hn).2,_,rfl⟩⟩) h.2 (λK2 H=>?_) ⟨0,false,fg,.inr ⟨rfl,rfl,h.1⟩⟩;show(match Nat.beq s s with|true=>lo+n<=fg.length/\K2 (cut lo (lo+n) fg)|false=>False);rw[hs];exact⟨h.1,H⟩
  |_=>exact h.elim
 |_=>exact h.elim
def Et(J:bW cx Z vals w){av:AV}{v:Value}(hv:RA (Ok cx Z vals w) Z vals w av v){K:Nat->CK->Prop}(h:AL Z av K):
 ∃sz aw,SlV (Ok cx Z vals w) w sz aw v/\K sz aw:=by
 cases av with
 |pv x=>
  simp only[RA]at hv;cases x with
  |sl sz aw=>exact⟨sz,aw,Wr hv,h⟩
  |nil sz=>simp only[Rd]at hv;subst hv;exact⟨sz,[],⟨none,0,rfl,zai _,by simp[maxLen],.inl rfl⟩,h⟩
  |_=>exact h.elim
 |own id=>
  simp only[RA]at hv;obtain⟨b,I,h⟩:=aK Z id _ h;obtain⟨v',EU,lV⟩:=J.val I;obtain rfl:=getElem?_of hv EU;cases b with
  |row e sz ap aw=>exact⟨sz,aw,uS lV,h⟩
  |fz x=>
   cases x with
   |sl sz aw=>exact⟨sz,aw,Wr lV,h⟩
   |_=>exact h.elim
  |_=>exact h.elim
 |sub id sz lo n=>
  obtain⟨b,I,h⟩:=aK Z id _ h;obtain⟨aw,U,H,_,ad,c,h4,h5,h6,h7,_⟩:=Iv J hv I h;refine⟨sz,aw,⟨ad,c,by rw[H];exact h4,V,h6,?_⟩,U⟩;exact h7.imp_right λ⟨g,g1,g2,_⟩=>⟨g,_,g1,g2⟩
 |_=>exact h.elim
def anU{K:AV->ax->Prop}(J:Rel cx env Z vals a w)(x:Operand)(t e:TypeId)(c:Call)(ho:o.op=.call c)(F:c.callee=.builtin .len)(cI:c.args.toList=[x])(Ea:c.argTypes[0]?=some t)
 (he:cx.P.underlying t=some (.slice e)) (Y:AL Z (bD env x) λ_ aw=>aw.length<=9223372036854775807->K (.pv (.int .i64 aw.length)) Z):Out cx env a w o K:=by
 obtain⟨sz,aw,⟨ad,cc,hv,hle,hml,_⟩,E⟩:=Et J.s (J.ev x) Y;have iG:c.args= #[x]:=by rw[<-cI]
 refine Out.run (v:=.int .i64 aw.length) ?_ J (av:=.pv (.int .i64 aw.length)) fK (E (by simp only[maxLen]at hml;omega));simp[execOp,ho,resolve,F,invoke,builtin,iG,hv,Builtin.len_,Ea,run_underlying he,goInt]
def amY{K:AV->ax->Prop}(J:Rel cx env Z vals a w)(x:Operand)(t:TypeId)(c:Call)(ho:o.op=.call c)(F:c.callee=.builtin .len)(cI:c.args.toList=[x])(Ea:c.argTypes[0]?=some t)
 (hs:cx.P.underlying t=some .string) (Y:match bD env x with
  | .pv x=>match x with
   | .str l=>K (.pv (.int .i64 l.length)) Z
   |_=>False
  |_=>False):Out cx env a w o K:=by
 have T:=J.ev x;have iG:c.args= #[x]:=by rw[<-cI]
 revert Y T
 cases bD env x with
 |pv p=>
  cases p with
  |str l=>
   intro Y T;simp only[RA,Rd]at T;refine Out.run (v:=.int .i64 l.length) ?_ J (av:=.pv (.int .i64 l.length)) fK Y;have nP:(⟨l.toArray⟩:ByteArray).size=l.length:=rfl;simp[execOp,ho,resolve,F,invoke,builtin,iG,T,Builtin.len_,Ea,run_underlying hs,goInt,nP]
  |_=>intro Y;exact Y.elim
 |_=>intro Y;exact Y.elim
def arR{K:AV->ax->Prop}(J:Rel cx env Z vals a w)(t:TypeId)(x i:Operand)(ho:o.op=.index t x i)(ht:cx.P.underlying t=some .string)
 (Y:Dv.asInt (bD env i) λ_ i=>match bD env x with
   | .pv x=>match x with
    | .str l=>∃b,(0<=i/\l[i.toNat]?=some b)/\K (.pv (aG b)) Z
    |_=>False
   |_=>False):Out cx env a w o K:=by
 have T:=J.ev x;have W:=J.ev i
 revert Y T W
 cases bD env i with
 |pv pi=>
  cases pi with
  |int k n=>
   cases bD env x with
   |pv px=>
    cases px with
    |str l=>
     rintro⟨b,⟨h0,I⟩,Y⟩ T W;simp only[RA,Rd]at T W;refine Out.run (v:=.int .u8 b.toNat) ?_ J (av:=.pv (aG b)) (by simp only[RA,Rd,aG]) Y;have hg:(⟨l.toArray⟩:ByteArray)[n.toNat]?=some b:=by
      obtain⟨aM,e⟩:=zaa.1 I;have hs:n.toNat<(⟨l.toArray⟩:ByteArray).size:=by simpa[ByteArray.size]using aM
      rw[getElem?_pos (⟨l.toArray⟩:ByteArray) n.toNat hs];congr 1
     simp[execOp,ho,T,W,Instr.index,asIntOf,run_underlying ht,h0,hg]
    |_=>intro Y;exact Y.elim
   |_=>intro Y;exact Y.elim
  |_=>intro Y;exact Y.elim
 |_=>intro Y;exact Y.elim
def aoU{K:AV->ax->Prop}(J:Rel cx env Z vals a w)(mx:Bool)(x y:Operand)
 (Y:Dv.asInt (bD env x) λk a=>Dv.asInt (bD env y) λ_ b=>match mx with
   |true=>∀r:Int,r=max a b->K (.pv (.int k r)) Z
   |false=>∀r:Int,r=min a b->K (.pv (.int k r)) Z)
 (c:Call) (ho:o.op=.call c) (F:c.callee=.builtin (if mx then .max else .min)) (iG:c.args.toList=[x,y]):Out cx env a w o K:=by
 have T:=J.ev x;have hy:=J.ev y;have cI:c.args= #[x,y]:=by rw[<-iG]
 revert Y T hy
 cases bD env x with
 |pv px=>
  cases px with
  |int k n=>
   cases bD env y with
   |pv py=>
    cases py with
    |int j m=>
     intro Y T hy;simp only[RA,Rd]at T hy;cases mx with
     |true=>
      refine Out.run (v:=.int k (max n m)) ?_ J (av:=.pv (.int k (max n m))) fK (Y _ rfl);simp[execOp,ho,resolve,F,invoke,builtin,cI,T,hy,Builtin.max_,Builtin.max2];omega
     |false=>
      refine Out.run (v:=.int k (min n m)) ?_ J (av:=.pv (.int k (min n m))) fK (Y _ rfl);simp[execOp,ho,resolve,F,invoke,builtin,cI,T,hy,Builtin.min_,Builtin.min2];omega
    |_=>intro Y;exact Y.elim
   |_=>intro Y;exact Y.elim
  |_=>intro Y;exact Y.elim
 |_=>intro Y;exact Y.elim
def aiW{K:AV->ax->Prop}(J:Rel cx env Z vals a w)(s d:TypeId)(k k0:IntKind)(x:Operand)(ho:o.op=.convert s d x)(hs:cx.P.underlying s=some (.int k0))(hd:cx.P.underlying d=some (.int k))
 (Y:Dv.asInt (bD env x) λ_ n=>acQ k n λr=>K (.pv r) Z):Out cx env a w o K:=by
 have T:=J.ev x
 revert Y T
 cases bD env x with
 |pv px=>
  cases px with
  |int j n=>
   intro Y T;simp only[RA,Rd]at T;refine Out.run (v:=.int k (k.wrap n)) ?_ J (av:=.pv (.int k (k.wrap n))) fK (Y _ rfl);simp[execOp,ho,T,convert,run_underlying hs,run_underlying hd,Conv.intToInt]
  |_=>intro Y;exact Y.elim
 |_=>intro Y;exact Y.elim
def anE{K:AV->ax->Prop}(J:Rel cx env Z vals a w)(s d:TypeId)(x:Operand)(ho:o.op=.convert s d x)(hs:cx.P.underlying s=some .string)(hd:cx.P.underlying d=some .string)
 (Y:match bD env x with
   | .pv x=>match x with
    | .str l=>K (.pv (.str l)) Z
    |_=>False
   |_=>False):Out cx env a w o K:=by
 have T:=J.ev x
 revert Y T
 cases bD env x with
 |pv px=>
  cases px with
  |str l=>
   intro Y T;simp only[RA,Rd]at T;refine Out.run (v:=.string ⟨l.toArray⟩) ?_ J (av:=.pv (.str l)) fK Y;simp[execOp,ho,T,convert,run_underlying hs,run_underlying hd]
  |_=>intro Y;exact Y.elim
 |_=>intro Y;exact Y.elim
def i_(l:P8):(l.map aG).flatMap PV.cells=l.map aG:=by
 induction l with
 |nil=>rfl
 |cons b l ih=>simp only[zau,zan,ih,aG,PV.cells,List.singleton_append]
def foldl_push(l:OG):∀s:ByteArray,(l.foldl (λr n=>r.push (UInt8.ofNat n.toNat)) s).data=s.data++(l.map λn=>UInt8.ofNat n.toNat).toArray:=by
 induction l with
 |nil=>intro s;simp
 |cons n l ih=>intro s;rw[zbi,ih];simp[ByteArray.push]
def y6{ok:Nat->Prop}(l:P8):∀us:XS,cz ok w (l.map aG) us↔us=l.map λb=>Value.int .u8 b.toNat:=by
 induction l with
 |nil=>intro us;simp[cz]
 |cons b l ih=>
  intro us;simp only[zau,cz,aG,Rd];constructor
  ·rintro⟨v,r,rfl,rfl,h⟩;rw[(ih r).1 h]
  ·rintro rfl;exact⟨_,_,rfl,rfl,(ih _).2 rfl⟩
def arz{K:AV->ax->Prop}(J:Rel cx env Z vals a w)(s d e:TypeId)(x:Operand)(ho:o.op=.convert s d x)(hs:cx.P.underlying s=some (.slice e))(he:cx.P.underlying e=some (.int .u8))(hd:cx.P.underlying d=some .string)
 (Y:AL Z (bD env x) λ_ aw=>∃l:P8,aw=l.map aG/\K (.pv (.str l)) Z):Out cx env a w o K:=by
 obtain⟨sz,aw,⟨ad,c,hv,hle,_,jH⟩,l,rfl,Y⟩:=Et J.s (J.ev x) Y;refine Out.run (v:=.string ⟨l.toArray⟩) ?_ J (av:=.pv (.str l)) fK Y;have b9:(Conv.bytesToString (.slice ad l.length c)).run cx.P w=.ok (.string ⟨l.toArray⟩) w:=by
  cases ad with
  |none=>
   rcases jH with h|⟨b,o',h,_⟩
   ·have:l=[]:=by simpa using h
    subst this;simp[Conv.bytesToString];rfl
   ·cases h
  |some ad=>
   have hl:∀j v,(l.map λb=>Value.int .u8 b.toNat)[j]?=some v->w.cell? (ad.add j)=some v:=by
    intro j v hj;rcases jH with h|⟨b,o',h,H⟩
    ·have:l=[]:=by simpa using h
     subst this;simp at hj
    ·cases h;have h3:=((qR b sz _ o').1 H).2;rw[i_]at h3;obtain⟨_,us,h4,h5⟩:=(Cg b _ o').1 h3;rw[y6]at h4;subst h4;rw[ic];exact h5 j v hj
   have:=run_loadCells_list (P:=cx.P) w ad _ hl;rw[zaw]at this;rw[show(l.map λb=>Value.int .u8 b.toNat)=(l.map λb:UInt8=>(b.toNat:Int)).map (Value.int .u8)from by simp]at this;rw[run_bytesToString w ad l.length c _ this];congr 2;have:∀s:ByteArray,s=⟨s.data⟩:=λ_=>rfl
   rw[this (List.foldl _ _ _),foldl_push];congr 1;simp only[zbg,List.map_map,Array.append_empty];have hid:((λn:Int=>UInt8.ofNat n.toNat)∘λb:UInt8=>(b.toNat:Int))=id:=by funext b;simp
   rw[hid,List.map_id];simp
 have EU:a.eval x=.slice ad l.length c:=by simpa using hv
 simp[execOp,ho,EU,convert,run_underlying hs,run_underlying hd,run_underlying he,b9]
def adV(P:Program)(isS:Bool)(n cap:Nat)(hnc:n<=cap)(lo W:Option AV)(vlo vhi:Option Value)(A6:∀a,lo=some a→∃v,vlo=some v/\RA (Ok cx Z vals w) Z vals w a v)(hhi:∀a,W=some a→∃v,vhi=some v/\RA (Ok cx Z vals w) Z vals w a v)
 (nlo:lo=none->vlo=none) (nhi:W=none->vhi=none) (K:Nat->Nat->Prop) (h:fX n lo W K):
 ∃l u,l<=u/\u<=n/\K l u/\(Instr.sliceBounds isS n cap vlo vhi none).run P w=.ok (l,u,cap) w:=by
 have up:∀K':Nat->Prop,upK n W K'→∃u:Nat,u<=n/\K' u/\((W=none/\u=n)∨∃k m,vhi=some (.int k m)/\0<=m/\m.toNat=u):=by
  intro K' E;cases W with
  |none=>exact⟨n,zai _,E,.inl ⟨rfl,rfl⟩⟩
  |some a=>
   cases a with
   |pv x=>
    cases x with
    |int k m=>
     obtain⟨v,hv,EV⟩:=hhi _ rfl;simp only[RA,Rd]at EV;subst EV;have U:0<=m:=E.1.1;have H:m<=(n:Int):=E.1.2;exact⟨m.toNat,V,E.2,.inr ⟨k,m,hv,E.1.1,rfl⟩⟩
    |_=>exact E.elim
   |_=>exact E.elim
 cases lo with
 |none=>
  obtain⟨u,hu,E,hu2⟩:=up (λh=>K 0 h) h;have:=nlo rfl;subst this;refine⟨0,u,Nat.zero_le _,hu,E,?_⟩;rcases hu2 with⟨U,rfl⟩|⟨k,m,rfl,H,h3⟩
  ·have:=nhi U;subst this;simp[Instr.sliceBounds]
  ·have hm:m<=(cap:Int):=by have:=za7 H;omega
   simp[Instr.sliceBounds,Instr.sliceBound,asIntOf,H,hm,h3]
 |some a=>
  cases a with
  |pv x=>
   cases x with
   |int k m=>
    obtain⟨u,hu,E,hu2⟩:=up (λh=>(0<=m/\m<=h)/\K m.toNat h) h;obtain⟨v,hv,EV⟩:=A6 _ rfl;simp only[RA,Rd]at EV;subst EV hv;refine⟨m.toNat,u,V,hu,E.2,?_⟩;rcases hu2 with⟨U,rfl⟩|⟨k,m',rfl,H,h3⟩
    ·have:=nhi U;subst this;simp[Instr.sliceBounds,Instr.sliceBound,asIntOf,E.1.1,E.1.2]
    ·have hm:m'<=(cap:Int):=by have:=za7 H;omega
     simp[Instr.sliceBounds,Instr.sliceBound,asIntOf,H,hm,h3,E.1.1,E.1.2]
   |_=>exact h.elim
  |_=>exact h.elim
end
end
end Go.Dv
namespace Go.Dv
open Go.RowKit
section
section
variable {cx:Cx} {env:Env} {Z:ax} {vals:XS} {a:Act} {w:World} {o:Oper}
def extract_mk(l:P8)(i j:Nat):(⟨l.toArray⟩:ByteArray).extract i j=⟨(cut i j l).toArray⟩:=by
 have h:(ByteArray.extract ⟨l.toArray⟩ i j).data.toList=(l.drop i).take (j-i):=by
  rw[ByteArray.extract_mk]
 have ext:∀s t:ByteArray,s.data.toList=t.data.toList->s=t:=by rintro⟨⟨x⟩⟩ ⟨⟨y⟩⟩ h;simp at h;subst h;rfl
 refine ext _ _ ?_;rw[h];simp[cut,List.drop_take]
def RB.block{s:cK}{v:Value}(h:RB cx Z vals w s v)(hl:s.live=true){b:Nat}(I:bM v=some b):cx.own b/\b<w.heap.size:=by
 cases s with
 |dead=>cases hl
 |fz x=>cases hl
 |mp l=>cases hl
 |row e sz app aw=>
  obtain⟨_,cells,U,_⟩:=h;rcases U.2 with⟨rfl,_⟩|⟨g,cap,cur,fr,rfl,H,h3,_⟩
  ·cases I
  ·cases I;exact⟨H,(zao.1 h3).1⟩
 |box e cs=>
  obtain⟨b',arr,rfl,U,H,_⟩:=h;cases I;exact⟨U,(zao.1 H).1⟩
def bW.Kx(J:bW cx Z vals w){id:Nat}{s0:cK}{x:PV}(W:Z[id]?=some s0)(hl0:s0.live=true)
 (T:∀(qN:Nat->Prop) (v:Value),vals[id]?=some v->RB cx Z vals w s0 v->(∀b,Ok cx Z vals w b->qN b)->(∀b,bM v=some b->qN b)->Rd qN w x v) (hbx:(cK.fz x).Gz=true->s0.Gz=true:=by intro h;first|exact h|(cases h)):
 bW cx (Z.set id (.fz x)) vals w/\de cx Z vals w (Z.set id (.fz x)) vals w:=by
 obtain⟨v,hv,I⟩:=J.val W;have aM:=(zaa.1 W).1;have hg:=λj=>kQ (x:=cK.fz x) aM j
 have E:de cx Z vals w (Z.set id (.fz x)) vals w:=by
  refine⟨λ_ _ h=>h,ab,λb I=>⟨I.1,I.2.1,λhm=>I.2.2 ?_⟩,λ_ _=>rfl,λi _ e' sz' ap' els' h=>?_,λi _ s' h nN=>?_⟩
  ·obtain⟨i,s,u,U,H,h3,h4⟩:=hm;rw[hg]at U;split at U
   ·cases U;cases H
   ·exact⟨i,s,u,U,H,h3,h4⟩
  ·rw[hg]at h;split at h
   ·cases h
   ·exact⟨ap',els',h⟩
  ·rw[hg]at h;split at h
   ·rename_i he;subst he;cases h;exact⟨s0,W,hbx nN⟩
   ·exact⟨s',h,nN⟩
 have lf:Rd (Ok cx (Z.set id (.fz x)) vals w) w x v:=by
  refine T _ v hv I E.ok (λb A8=>⟨.inr (I.block hl0 A8).1,(I.block hl0 A8).2,?_⟩);rintro⟨i,s,u,g1,g2,g3,g4⟩;rw[hg]at g1;split at g1
  ·cases g1;cases g2
  ·rename_i ca;exact J.Cb i id s _ u v b (λe=>ca e.symm) g1 W g2 hl0 g3 hv g4 A8
 have tg:Fr cx (Z.set id (.fz x)) vals w:=⟨J.fr.size,J.fr.same,λb hm=>J.fr.sy b (by
  obtain⟨i,s,u,g1,g2,g3,g4⟩:=hm;rw[hg]at g1;split at g1
  ·cases g1;cases g2
  ·exact⟨i,s,u,g1,g2,g3,g4⟩)⟩
 refine⟨⟨J.below,J.one,by simp[J.len],λi s u U H=>?_,λi j s t u v' b sC U H h3 h4 h5 h6=>?_,tg,J.pin.keep E⟩,E⟩
 ·rw[hg]at U;split at U
  ·rename_i he;subst he;cases U;rw[hv]at H;cases H;exact lf
  ·exact E.rb (J.lW i s u U H) (λ_ _ _=>rfl)
 ·rw[hg]at U H;split at U
  ·cases U;cases h3
  ·split at H
   ·cases H;cases h4
   ·exact J.Cb i j s t u v' b sC U H h3 h4 h5 h6
def bW.freeze(J:bW cx Z vals w){id:Nat}{e:TypeId}{sz:Nat}{ap:Bool}{aw:CK}(W:Z[id]?=some (.row e sz ap aw)):
 bW cx (Z.set id (.fz (.sl sz aw))) vals w/\de cx Z vals w (Z.set id (.fz (.sl sz aw))) vals w:=by
 refine J.Kx W rfl λqN v _ I b_ A8=>?_
 obtain⟨ad,c,U,H,h3,h4⟩:=uS I;simp only[Rd];refine⟨ad,c,U,H,h3,h4.imp_right ?_⟩;rintro⟨b,o',rfl,jH⟩;exact⟨b,o',rfl,A8 b (by rw[U];rfl),dN.mono b_ (λ_ _ _=>rfl) b sz o' (λ_=>rfl) aw jH⟩
def Rel.keep{σ':ax}{ay:XS}{w':World}(J:Rel cx env Z vals a w)(hs:bW cx σ' ay w')(E:de cx Z vals w σ' ay w'):Rel cx env σ' ay a w':=
 ⟨hs,λp=>E.ra _ _ (J.env p),J.defers,λx v hq=>E.ra _ _ (J.gh x v hq),J.lo⟩
def an_{K:AV->ax->Prop}(J:Rel cx env Z vals a w)(c x y:Operand)(ho:o.op=.pick c x y)
 (Y:match bD env c with
   | .pv c=>match c with
    | .bool c=>match c with
     |true=>K (bD env x) Z
     |false=>K (bD env y) Z
    |_=>False
   |_=>False):Out cx env a w o K:=by
 have F:=J.ev c
 revert Y F
 cases bD env c with
 |pv p=>
  cases p with
  |bool b=>
   intro Y F;simp only[RA,Rd]at F;cases b with
   |true=>exact Out.run (v:=a.eval x) (by simp[execOp,ho,F,asBool]) J (J.ev x) Y
   |false=>exact Out.run (v:=a.eval y) (by simp[execOp,ho,F,asBool]) J (J.ev y) Y
  |_=>intro Y;exact Y.elim
 |_=>intro Y;exact Y.elim
def anh{sz:Nat}{aw:CK}{ad:Option Addr}{c l h:Nat}(hlh:l<=h)(T:h<=aw.length)(hs:Rd (Ok cx Z vals w) w (.sl sz aw) (.slice ad aw.length c)):
 Rd (Ok cx Z vals w) w (.sl sz (cut l h aw)) (.slice (if c=l then ad else ad.map (·.add (l*sz))) (h-l) (c-l)):=by
 simp only[Rd]at hs ⊢;obtain⟨ad0,c0,hv,U,H,h3⟩:=hs;cases hv;refine⟨_,_,by rw[qS _ _ _ T],QJ,V,?_⟩;rcases h3 with h3|⟨b,o,rfl,b_,h4⟩
 ·left;subst h3;simp[cut]
 ·by_cases F:c=l
  ·left;exact zaf QJ
  ·right;refine⟨b,o+l*sz,?_,b_,LZ l h aw hlh T o h4⟩;rw[if_neg F];simp[ic]
def qV(J:Rel cx env Z vals a w)(lo W:Option Operand)(isS:Bool)(n cap:Nat)(hn:n<=cap)(K':Nat->Nat->Prop)(E:fX n (lo.map (bD env)) (W.map (bD env)) K'):
 ∃l u,l<=u/\u<=n/\K' l u/\(Instr.sliceBounds isS n cap (lo.map a.eval) (W.map a.eval) none).run cx.P w=.ok (l,u,cap) w:=by
 refine adV (cx:=cx) (Z:=Z) (vals:=vals) cx.P isS n cap hn _ _ _ _ ?_ ?_ ?_ ?_ K' E
 ·intro av h;cases lo with
  |none=>cases h
  |some z=>cases h;exact⟨_,rfl,J.ev z⟩
 ·intro av h;cases W with
  |none=>cases h
  |some z=>cases h;exact⟨_,rfl,J.ev z⟩
 ·intro h;cases lo with
  |none=>rfl
  |some z=>cases h
 ·intro h;cases W with
  |none=>rfl
  |some z=>cases h
def amq{K:AV->ax->Prop}(J:Rel cx env Z vals a w)(t:TypeId)(x:Operand)(lo W:Option Operand)(ho:o.op=.slice t x lo W none)(ht:cx.P.underlying t=some .string)
 (Y:match bD env x with
   | .pv x=>match x with
    | .str s=>fX s.length (lo.map (bD env)) (W.map (bD env)) λl h=>K (.pv (.str (cut l h s))) Z
    |_=>False
   |_=>False):Out cx env a w o K:=by
 have T:=J.ev x
 revert Y T
 cases bD env x with
 |pv p=>
  cases p with
  |str s=>
   intro Y T;simp only[RA,Rd]at T;obtain⟨l,u,U,H,h3,h4⟩:=qV J lo W false s.length s.length (zai _) _ Y;refine Out.run (v:=.string ⟨(cut l u s).toArray⟩) ?_ J (av:=.pv (.str (cut l u s))) fK h3;have nP:(⟨s.toArray⟩:ByteArray).size=s.length:=rfl;simp[execOp,ho,T,Instr.sliceAt,Instr.slice,run_underlying ht,nP,h4,extract_mk]
  |_=>intro Y;exact Y.elim
 |_=>intro Y;exact Y.elim
def al_{K:AV->ax->Prop}(J:Rel cx env Z vals a w)(t e:TypeId)(i:TypeInfo)(x:Operand)(lo W:Option Operand)(ho:o.op=.slice t x lo W none)(he:cx.P.underlying t=some (.slice e))(yg:cx.P.info? e=some i)
 (Y:We Z i.size (bD env x) (lo.map (bD env)) (W.map (bD env)) K):Out cx env a w o K:=by
 have T:=J.ev x;have sl:∀(n:Nat) (ad:Option Addr) (c:Nat),a.eval x=.slice ad n c→∀l u,
  (Instr.sliceBounds true n c (lo.map a.eval) (W.map a.eval) none).run cx.P w=.ok (l,u,c) w->
  (execOp a.eval o).run cx.P w=.ok (.value (.slice (if c=l then ad else ad.map (·.add (l*i.size))) (u-l) (c-l))) w:=by
  intro n ad c hv l u I;simp[execOp,ho,hv,Instr.sliceAt,Instr.slice,run_underlying he,I,sizeOf,typeInfo,yg]
 have ap6:∀(aw:CK) (v:Value),v=a.eval x->Rd (Ok cx Z vals w) w (.sl i.size aw) v->fX aw.length (lo.map (bD env)) (W.map (bD env)) (λl h=>K (.pv (.sl i.size (cut l h aw))) Z)->Out cx env a w o K:=by
  intro aw v hv lf E;have adT:=lf;simp only[Rd]at adT;obtain⟨ad,c,HL,hle,_⟩:=adT;obtain⟨l,u,U,H,h3,h4⟩:=qV J lo W true aw.length c hle _ E;subst HL;exact Out.run (sl _ ad c hv.symm l u h4) J (by simp only[RA];exact anh U H lf) h3
 cases th:bD env x with
 |pv p=>
  rw[th]at Y T;simp only[RA]at T;cases p with
  |sl s aw=>
   replace Y:(match Nat.beq s i.size with
    |true=>fX aw.length (lo.map (bD env)) (W.map (bD env)) λl h=>K (.pv (.sl i.size (cut l h aw))) Z
    |false=>False):=Y
   cases hs:Nat.beq s i.size with
   |false=>rw[hs]at Y;exact Y.elim
   |true=>
    rw[hs]at Y;have:=zab hs;subst this;exact ap6 aw _ rfl T Y
  |nil s=>
   simp only[Rd]at T;obtain⟨l,u,U,H,h3,h4⟩:=qV J lo W true 0 0 (zai _) (λ_ _=>K (.pv (.nil s)) Z) Y;obtain⟨rfl,rfl⟩:l=0/\u=0:=⟨V,V⟩
   exact Out.run (sl 0 none 0 T 0 0 h4) J (av:=.pv (.nil s)) (by simp[RA,Rd]) h3
  |_=>exact Y.elim
 |own id=>
  rw[th]at Y T;simp only[RA]at T;obtain⟨b,I,E⟩:=aK Z id _ Y;obtain⟨v',EU,lV⟩:=J.s.val I;obtain rfl:=getElem?_of T EU;cases b with
  |row e' s ap aw=>
   replace E:(match Nat.beq s i.size with
    |true=>(fX aw.length (lo.map (bD env)) (W.map (bD env)) λl h=>rJ Z id (.fz (.sl i.size aw)) λZ=>K (.pv (.sl i.size (cut l h aw))) Z)\/fX aw.length (lo.map (bD env)) (W.map (bD env)) λl h=>K (.sub id i.size l (h-l)) Z
    |false=>False):=E
   cases hs:Nat.beq s i.size with
   |false=>rw[hs]at E;exact E.elim
   |true=>
    rw[hs]at E;have:=zab hs;subst this;rcases E with E|E
    rotate_left
    ·obtain⟨_,cells,⟨_,cj⟩,_⟩:=lV;rcases cj with⟨HL,h0⟩|⟨g,cap,cur,fr,HL,_,_,hle,HM,_⟩
     ·obtain⟨l,u,U,H,h3,h4⟩:=qV J lo W true aw.length 0 V _ E;obtain⟨rfl,rfl⟩:l=0/\u=0:=⟨V,V⟩
      rw[h0]at h4;refine Out.run (sl 0 none 0 HL 0 0 h4) J (av:=.sub id i.size 0 (0-0)) ?_ h3;simp only[RA];exact⟨(zaa.1 I).1,_,_,rfl,zai _,by simp[maxLen],.inl trivial⟩
     ·obtain⟨l,u,U,H,h3,h4⟩:=qV J lo W true aw.length cap hle _ E;refine Out.run (sl _ _ cap HL l u h4) J (av:=.sub id i.size l (u-l)) ?_ h3;simp only[RA];refine⟨(zaa.1 I).1,_,_,rfl,V,V,?_⟩;by_cases hlu:u-l=0
      ·exact .inl hlu
      ·refine .inr ⟨g,aw.length,cap,by rw[T,HL],?_⟩;rw[if_neg V];simp[ic]
    obtain⟨PA,xG⟩:=J.s.freeze I;have tT:Rel cx env (Z.set id (.fz (.sl i.size aw))) vals a w:=J.keep PA xG;have lf:Rd (Ok cx (Z.set id (.fz (.sl i.size aw))) vals w) w (.sl i.size aw) (a.eval x):=
     PA.lW id (.fz (.sl i.size aw)) _ (by rw[kQ (zaa.1 I).1];simp) T
    have adT:=lf;simp only[Rd]at adT;obtain⟨ad,c,HL,hle,_⟩:=adT;obtain⟨l,u,U,H,h3,h4⟩:=qV tT lo W true aw.length c hle _ E;obtain⟨_,h3⟩:=dW _ _ _ _ h3;rw[HL]at lf;exact Out.run (sl _ ad c HL l u h4) tT (by simp only[RA];exact anh U H lf) h3
  |fz z=>
   cases z with
   |sl s aw=>
    replace E:(match Nat.beq s i.size with
     |true=>fX aw.length (lo.map (bD env)) (W.map (bD env)) λl h=>K (.pv (.sl i.size (cut l h aw))) Z
     |false=>False):=E
    cases hs:Nat.beq s i.size with
    |false=>rw[hs]at E;exact E.elim
    |true=>
     rw[hs]at E;have:=zab hs;subst this;exact ap6 aw _ rfl lV E
   |_=>exact E.elim
  |_=>exact E.elim
 |sub id s lo0 n=>
  rw[th]at Y T;replace Y:(match Nat.beq s i.size with
   |true=>fX n (lo.map (bD env)) (W.map (bD env)) λl h=>K (.sub id i.size (lo0+l) (h-l)) Z
   |false=>False):=Y
  cases hs:Nat.beq s i.size with
  |false=>rw[hs]at Y;exact Y.elim
  |true=>
   rw[hs]at Y;have:=zab hs;subst this;simp only[RA]at T;obtain⟨hid,ad,c,HL,hle,HM,hor⟩:=T;obtain⟨l,u,U,H,h3,h4⟩:=qV J lo W true n c hle _ Y;refine Out.run (sl _ _ c HL l u h4) J (av:=.sub id i.size (lo0+l) (u-l)) ?_ h3;simp only[RA];refine⟨hid,_,_,rfl,V,V,?_⟩;by_cases hlu:u-l=0
   ·exact .inl hlu
   ·rcases hor with h0|⟨g,n0,c0,f1,rfl⟩
    ·omega
    ·refine .inr ⟨g,n0,c0,f1,?_⟩;rw[if_neg V];simp[ic,zas]
 |_=>rw[th]at Y;exact Y.elim
def Ym{ok:Nat->Prop}{b n:Nat}{y:PV}(I:ok b)(h:nu ok w b n y.cells):Rd ok w (.cptr y) (.pointer (some ⟨b,n,none⟩)):=by
 cases y<;>simp only[PV.cells,nu,Rd]at h ⊢ <;>first|exact⟨b,n,rfl,I,h⟩|exact⟨b,n,rfl,I,h.1.1,h.1.2⟩
def xB{ok:Nat->Prop}{y:PV}{v:Value}(h:Rd ok w (.cptr y) v):∃b n,v=.pointer (some ⟨b,n,none⟩)/\ok b/\nu ok w b n y.cells:=by
 cases y<;>simp only[PV.cells,nu,Rd]at h ⊢ <;>first|(obtain⟨b,n,U,H,h3⟩:=h;exact⟨b,n,U,H,h3⟩)|(obtain⟨b,n,U,H,h3,h4⟩:=h;exact⟨b,n,U,H,⟨h3,h4⟩,trivial⟩)
def wU(P:Program)(t e:TypeId)(i:TypeInfo)(ad:Addr)(len c:Nat)(k:IntKind)(n:Int)(he:P.underlying t=some (.slice e))(W:P.info? e=some i)(h0:0<=n)(hn:n<len):
 (Instr.indexAt t (.slice (some ad) len c) (.int k n)).run P w=.ok (.pointer (some (ad.add (n.toNat*i.size)))) w:=by
 simp[Instr.indexAt,asIntOf,run_underlying he,h0,hn,sizeOf,typeInfo,W]
def amV{K:AV->ax->Prop}(J:Rel cx env Z vals a w)(t e:TypeId)(i:TypeInfo)(x ix:Operand)(ho:o.op=.indexAddr t x ix)(he:cx.P.underlying t=some (.slice e))(yg:cx.P.info? e=some i)
 (Y:Dv.asInt (bD env ix) λ_ n=>MP Z i.size (bD env x) n λa=>K a Z):Out cx env a w o K:=by
 have T:=J.ev x;have W:=J.ev ix;cases ap7:bD env ix with
 |pv pi=>
  rw[ap7]at Y W;cases pi with
  |int k n=>
   simp only[RA,Rd]at W;replace Y:MP Z i.size (bD env x) n λa=>K a Z:=Y
   have ap6:∀(aw:CK) (y:PV),Rd (Ok cx Z vals w) w (.sl i.size aw) (a.eval x)->0<=n->aw[n.toNat]?=some y->K (.pv (.cptr y)) Z->Out cx env a w o K:=by
    intro aw y lf h0 hy E;have adT:=lf;simp only[Rd]at adT;obtain⟨ad,c,hv,hle,_,jH⟩:=adT;have aM:=(zaa.1 hy).1;rcases jH with h|⟨b,o',rfl,b_,jH⟩
    ·subst h;simp at aM
    ·obtain⟨U,H⟩:=L0 jH hy;refine Out.run (v:=.pointer (some ⟨b,o'+n.toNat*i.size,none⟩)) ?_ J (av:=.pv (.cptr y)) (by simp only[RA];exact Ym b_ H) E;have:=wU (w:=w) cx.P t e i ⟨b,o',none⟩ aw.length c k n he yg h0 V;rw[ic]at this;simp[execOp,ho,hv,W,this]
   cases th:bD env x with
   |pv p=>
    rw[th]at Y T;simp only[RA]at T;cases p with
    |sl s aw=>
     replace Y:(match Nat.beq s i.size with
      |true=>∃y,(0<=n/\aw[n.toNat]?=some y)/\K (.pv (.cptr y)) Z
      |false=>False):=Y
     cases hs:Nat.beq s i.size with
     |false=>rw[hs]at Y;exact Y.elim
     |true=>
      rw[hs]at Y;have:=zab hs;subst this;obtain⟨y,⟨h0,hy⟩,E⟩:=Y;exact ap6 aw y T h0 hy E
    |_=>exact Y.elim
   |own id=>
    rw[th]at Y T;simp only[RA]at T;obtain⟨b,I,E⟩:=aK Z id _ Y;obtain⟨v',EU,lV⟩:=J.s.val I;obtain rfl:=getElem?_of T EU;cases b with
    |row e' s ap aw=>
     replace E:(match Nat.beq s i.size with
      |true=>(0<=n/\n.toNat<aw.length)/\K (.ref id n.toNat 0) Z
      |false=>False):=E
     cases hs:Nat.beq s i.size with
     |false=>rw[hs]at E;exact E.elim
     |true=>
      rw[hs]at E;have:=zab hs;subst this;obtain⟨⟨h0,aM⟩,E⟩:=E;obtain⟨nP,cells,U,_⟩:=lV;rcases U.2 with⟨_,h5⟩|⟨g,cap,cur,fr,h4,_⟩
      ·omega
      ·refine Out.run (v:=.pointer (some ⟨g,n.toNat*i.size,none⟩)) ?_ J (av:=.ref id n.toNat 0) ?_ E
       ·have:=wU (w:=w) cx.P t e i ⟨g,0,none⟩ aw.length cap k n he yg h0 V;rw[ic]at this;simp[execOp,ho,h4,W,this]
       ·simp only[RA];refine⟨(zaa.1 I).1,⟨_,rfl⟩,λe2 sz2 ap2 T6 h=>?_,λs2 h nj=>?_⟩
        ·rw[I]at h;cases h;exact⟨_,g,T,by rw[h4];rfl,ab⟩
        ·rw[I]at h;cases h;cases nj
    |fz z=>
     cases z with
     |sl s aw=>
      replace E:(match Nat.beq s i.size with
       |true=>∃y,(0<=n/\aw[n.toNat]?=some y)/\K (.pv (.cptr y)) Z
       |false=>False):=E
      cases hs:Nat.beq s i.size with
      |false=>rw[hs]at E;exact E.elim
      |true=>
       rw[hs]at E;have:=zab hs;subst this;obtain⟨y,⟨h0,hy⟩,E⟩:=E;exact ap6 aw y lV h0 hy E
     |_=>exact E.elim
    |_=>exact E.elim
   |sub id z lo m=>
    rw[th]at Y T;replace Y:(match Nat.beq z i.size with
     |true=>eM Z id λb=>match b with
      | .row _ s _ aw=>match Nat.beq s i.size with
       |true=>((0<=n/\n.toNat<m)/\lo+m<=aw.length)/\K (.ref id (lo+n.toNat) 0) Z
       |false=>False
      | .fz x=>match x with
       | .sl s aw=>match Nat.beq s i.size with
        |true=>∃y,((0<=n/\n.toNat<m/\lo+m<=aw.length)/\aw[lo+n.toNat]?=some y)/\K (.pv (.cptr y)) Z
        |false=>False
       |_=>False
      |_=>False
     |false=>False):=Y
    cases hz:Nat.beq z i.size with
    |false=>rw[hz]at Y;exact Y.elim
    |true=>
     rw[hz]at Y;have:=zab hz;subst this;simp only[RA]at T;obtain⟨hid,ad,c,HL,hle,HM,hor⟩:=T;obtain⟨b,I,E⟩:=aK Z id _ Y;obtain⟨u,hu,lV⟩:=J.s.val I;cases b with
     |row e' s ap aw=>
      replace E:(match Nat.beq s i.size with
       |true=>((0<=n/\n.toNat<m)/\lo+m<=aw.length)/\K (.ref id (lo+n.toNat) 0) Z
       |false=>False):=E
      cases hs:Nat.beq s i.size with
      |false=>rw[hs]at E;exact E.elim
      |true=>
       rw[hs]at E;have:=zab hs;subst this;obtain⟨⟨⟨h0,aM⟩,_⟩,E⟩:=E;rcases hor with hm0|⟨g,n0,c0,f1,rfl⟩
       ·omega
       ·refine Out.run (v:=.pointer (some ⟨g,(lo+n.toNat)*i.size,none⟩)) ?_ J (av:=.ref id (lo+n.toNat) 0) ?_ E
        ·have:=wU (w:=w) cx.P t e i ⟨g,lo*i.size,none⟩ m c k n he yg h0 V;rw[ic]at this;simp[execOp,ho,HL,W,this,zas]
        ·simp only[RA];refine⟨(zaa.1 I).1,⟨_,rfl⟩,λe2 sz2 ap2 T6 h=>?_,λs2 h nj=>?_⟩
         ·rw[I]at h;cases h;exact⟨_,g,f1,rfl,ab⟩
         ·rw[I]at h;cases h;cases nj
     |fz y=>
      cases y with
      |sl s aw=>
       replace E:(match Nat.beq s i.size with
        |true=>∃y,((0<=n/\n.toNat<m/\lo+m<=aw.length)/\aw[lo+n.toNat]?=some y)/\K (.pv (.cptr y)) Z
        |false=>False):=E
       cases hs:Nat.beq s i.size with
       |false=>rw[hs]at E;exact E.elim
       |true=>
        rw[hs]at E;have:=zab hs;subst this;obtain⟨y,⟨⟨h0,aM,aEd⟩,hy⟩,E⟩:=E;rcases hor with hm0|⟨g,n0,c0,f1,rfl⟩
        ·omega
        ·rw[hu]at f1;cases f1;have lf:Rd (Ok cx Z vals w) w (.sl i.size aw) (.slice (some ⟨g,0,none⟩) n0 c0):=lV;simp only[Rd]at lf;obtain⟨ad2,c2,g1,_,_,g4⟩:=lf;cases g1;rcases g4 with g4|⟨b',o',g5,g6,g7⟩
         ·subst g4;simp at hy
         ·cases g5;obtain⟨_,H⟩:=L0 g7 hy;rw[zaU]at H;refine Out.run (v:=.pointer (some ⟨g,(lo+n.toNat)*i.size,none⟩)) ?_ J (av:=.pv (.cptr y)) (by simp only[RA];exact Ym g6 H) E;have:=wU (w:=w) cx.P t e i ⟨g,lo*i.size,none⟩ m c k n he yg h0 V;rw[ic]at this;simp[execOp,ho,HL,W,this,zas]
      |_=>exact E.elim
     |_=>exact E.elim
   |_=>rw[th]at Y;exact Y.elim
  |_=>exact Y.elim
 |_=>rw[ap7]at Y;exact Y.elim
end
end
end Go.Dv
namespace Go.Dv
open Go.RowKit
section
section
variable {cx:Cx} {env:Env} {Z:ax} {vals:XS} {a:Act} {w:World} {o:Oper}
structure Shape(P:Program)(t:TypeId)(ag:Bool)(n:Nat):Prop where
 info:∃i,P.info? t=some i/\i.size=n
 und:∃d,P.underlying t=some d/\ag=(match d with| .struct _=>true| .array _ _=>true|_=>false)
def zH{P:Program}{t:TypeId}{s:Bool×Nat}(h:U9 P t=some s):Shape P t s.1 s.2:=by
 unfold U9 opt at h;cases W:P.info? t with
 |none=>rw[W]at h;cases h
 |some i=>
  rw[W]at h;simp only at h;cases hu:P.underlying t with
  |none=>rw[hu]at h;cases h
  |some d=>
   rw[hu]at h;cases d<;>cases h<;>exact⟨⟨i,W,rfl⟩,⟨_,hu,rfl⟩⟩
def Shape.isAgg{P:Program}{t:TypeId}{ag:Bool}{n:Nat}(h:Shape P t ag n):(isAgg t).run P w=.ok ag w:=by
 obtain⟨d,hd,rfl⟩:=h.und;cases d<;>simp[Go.isAgg,run_underlying hd]
def valOf(ag:Bool)(us:XS):Value:=match ag with|true=>.agg us.toArray|false=>us.headD undef
def run_load{P:Program}{t:TypeId}{ag:Bool}{n:Nat}(h:Shape P t ag n)(b off:Nat)(us:XS)(hl:us.length=if ag then n else 1)(F:∀(j:Nat) (u:Value),us[j]?=some u->w.cell? ⟨b,off+j,none⟩=some u):
 (loadVar t ⟨b,off,none⟩).run P w=.ok (valOf ag us) w:=by
 obtain⟨i,W,hn⟩:=h.info;cases ag with
 |true=>
  simp only[if_true]at hl;have:=run_loadCells_list (P:=P) w ⟨b,off,none⟩ us (λj v hj=>by rw[ic];exact F j v hj);rw[hl]at this;simp[loadVar,h.isAgg,sizeOf,typeInfo,W,hn,this,valOf]
 |false=>
  cases us with
  |nil=>simp at hl
  |cons u us=>
   have:=F 0 u rfl;simp[loadVar,h.isAgg,run_load,valOf];simp at this;rw[this]
def TP{ok:Nat->Prop}{ag:Bool}{cs:CK}{us:XS}{K:PV->Prop}(h:cz ok w cs us)(U:∀c∈cs,c.one=true)(Y:Yi ag cs K):∃r,K r/\Rd ok w r (valOf ag us)/\(ag=false->cs.length=1):=by
 cases ag with
 |true=>exact⟨_,Y,by simp only[Rd];exact⟨U,_,rfl,rB⟩,λh=>bc⟩
 |false=>
  cases cs with
  |nil=>exact Y.elim
  |cons c cs=>
   cases cs with
   |nil=>
    simp only[cz]at h;obtain⟨v,r,rfl,U,rfl⟩:=h;exact⟨c,Y,U,λ_=>rfl⟩
   |cons _ _=>exact Y.elim
def aao{ok:Nat->Prop}{ag:Bool}{cs:XP}{us:XS}{K:AV->Prop}(h:eu ok Z vals w cs us)(U:∀c∈cs,c.one=true)(Y:Qb ag cs K):∃r,K r/\RA ok Z vals w r (valOf ag us)/\(ag=false->cs.length=1):=by
 cases ag with
 |true=>
  rcases LX cs K Y with⟨t,rfl,H⟩|H
  ·rw[fm]at h;exact⟨_,H,by simp only[RA,Rd];exact⟨λc F=>U (.pv c) uQ,_,rfl,rB⟩,λh=>bc⟩
  ·exact⟨_,H,by simp only[RA];exact⟨U,_,rfl,rB⟩,λh=>bc⟩
 |false=>
  cases cs with
  |nil=>exact Y.elim
  |cons c cs=>
   cases cs with
   |nil=>
    simp only[eu]at h;obtain⟨v,r,rfl,U,rfl⟩:=h;exact⟨c,Y,U,λ_=>rfl⟩
   |cons _ _=>exact Y.elim
def Mm{ok:Nat->Prop}{b off at_ n:Nat}{ag:Bool}{cs:CK}{K:PV->Prop}(h:nu ok w b at_ cs)(Y:IJ off ag n cs K):
 ∃r us,K r/\Rd ok w r (valOf ag us)/\us.length=n/\(ag=false->n=1)∧∀(j:Nat) (u:Value),us[j]?=some u->w.cell? ⟨b,at_+off+j,none⟩=some u:=by
 obtain⟨pre,rest,rfl,U,Y⟩:=vM off cs _ Y;obtain⟨t,post,rfl,H,Y⟩:=As n rest _ Y;rw[lz,lz]at h;obtain⟨h0,us,h3,h4⟩:=(Cg b t _).1 h.2.1;obtain⟨r,h5,h6,h7⟩:=TP h3 h0 Y;exact⟨r,us,h5,h6,by rw[h3.length,H],λh=>H▸h7 h,by rw[U]at h4;exact h4⟩
def WN{K:AV->Prop}(J:bW cx Z vals w)(ag:Bool)(n:Nat){xa:AV}{xv:Value}(T:RA (Ok cx Z vals w) Z vals w xa xv)(Y:FU Z ag n xa K):
 ∃b off us av,xv=.pointer (some ⟨b,off,none⟩)/\us.length=n/\(∀(j:Nat) (u:Value),us[j]?=some u->w.cell? ⟨b,off+j,none⟩=some u)/\RA (Ok cx Z vals w) Z vals w av (valOf ag us)/\K av:=by
 have fin:∀(b off:Nat) (us:XS) (av:AV),xv=.pointer (some ⟨b,off,none⟩)->us.length=n->(∀(j:Nat) (u:Value),us[j]?=some u->w.cell? ⟨b,off+j,none⟩=some u)->
  RA (Ok cx Z vals w) Z vals w av (valOf ag us)->K av→∃b off us av,xv=.pointer (some ⟨b,off,none⟩)/\us.length=n/\(∀(j:Nat) (u:Value),us[j]?=some u->w.cell? ⟨b,off+j,none⟩=some u)/\RA (Ok cx Z vals w) Z vals w av (valOf ag us)/\K av:=
  λb off us av U H h3 h4 h5=>⟨b,off,us,av,U,H,h3,h4,h5⟩
 cases xa with
 |pv p=>
  simp only[RA]at T;cases p with
  |cptr y=>
   obtain⟨b,off,hv,b_,nO⟩:=xB T;obtain⟨r,us,U,H,h3,_,h5⟩:=Mm (off:=0) nO Y;exact fin b off us (.pv r) hv h3 h5 S4 U
  |_=>exact Y.elim
 |ref id idx off=>
  simp only[RA]at T;obtain⟨aM,_,jH,rj⟩:=T;obtain⟨b,I,E⟩:=aK Z id _ Y;obtain⟨v',EU,lV⟩:=J.val I;cases b with
  |row e sz ap aw=>
   obtain⟨u,g,hu,hg,hv⟩:=jH e sz ap aw I;obtain rfl:=getElem?_of EU hu;obtain⟨y,hy,E⟩:=E;obtain⟨ad,c,U,H,h3,h4⟩:=uS lV;rcases h4 with h4|⟨b,o',rfl,h4⟩
   ·subst h4;simp at hy
   ·have ho':o'=0/\b=g:=by
     obtain⟨_,cells,h5,_⟩:=lV;rcases h5.2 with⟨h6,_⟩|⟨g',cap,cur,fr,h6,_⟩
     ·rw[h6]at U;cases U
     ·rw[h6]at U;cases U;rw[h6]at hg;exact⟨rfl,by cases hg;rfl⟩
    obtain⟨rfl,rfl⟩:=ho';obtain⟨_,h6⟩:=L0 h4 hy;obtain⟨r,us,g1,g2,g3,_,g5⟩:=Mm h6 E;exact fin b (idx*sz+off) us (.pv r) hv g3 (by simpa using g5) (by simp only[RA];exact g2) g1
  |fz z=>
   cases z with
   |cptr y=>
    obtain⟨u,g,hu,rfl,hv⟩:=rj _ I rfl;obtain rfl:=getElem?_of EU hu;obtain⟨b,n',e1,_,nO⟩:=xB (show Rd (Ok cx Z vals w) w (.cptr y) _ from lV);cases e1;obtain⟨r,us,U,H,h3,_,h5⟩:=Mm nO E;exact fin _ off us (.pv r) hv h3 (by simpa using h5) S4 U
   |_=>exact E.elim
  |box e cs=>
   obtain⟨u,g,hu,rfl,hv⟩:=rj _ I rfl;obtain rfl:=getElem?_of EU hu;obtain⟨b,arr,U,H,h3,h4,h5⟩:=lV;cases U;obtain⟨pre,rest,rfl,h6,E⟩:=vM off cs _ E;obtain⟨t',post,rfl,h7,E⟩:=As n rest _ E;obtain⟨Nd,us2,he,h8,h9⟩:=(ew _ _ _).1 h5;obtain⟨us3,us4,rfl,VB,h11⟩:=(ew _ _ _).1 h9;obtain⟨r,g1,g2,_⟩:=aao VB (λc F=>h4 c lE) E;refine fin _ off us3 r hv (by rw[VB.length,h7]) (λj u hj=>?_) g2 g1;have hj':arr[off+j]?=some u:=by
    rw[<-za3,he,zak (by rw[h8.length,h6];omega),h8.length,h6,zav,
     zar (zaa.1 hj).1,hj]
   simp[World.cell?,h3,hj']
  |_=>exact E.elim
 |_=>exact Y.elim
def ac3{K:AV->ax->Prop}(J:Rel cx env Z vals a w)(t:TypeId)(x:Operand)(ag:Bool)(n:Nat)(ho:o.op=.load t x)(hs:∃m,Shape cx.P t ag m/\n=if ag then m else 1)
 (Y:FU Z ag n (bD env x) λa=>K a Z):Out cx env a w o K:=by
 obtain⟨m,hs,hn⟩:=hs;obtain⟨b,off,us,av,hv,hl,F,EV,E⟩:=WN J.s ag n (J.ev x) Y;refine Out.run (v:=valOf ag us) ?_ J EV E;have:=run_load hs b off us (by rw[hl,hn]) F;simp[execOp,ho,hv,Instr.loadAt,Instr.sureAddr,this]
def acT{K:AV->ax->Prop}(J:Rel cx env Z vals a w)(x:Operand)(off:Nat)(hs:∀b n,a.eval x=.pointer (some ⟨b,n,none⟩)->(execOp a.eval o).run cx.P w=.ok (.value (.pointer (some ⟨b,n+off,none⟩))) w)
 (Y:acD Z off (bD env x) λa=>K a Z):Out cx env a w o K:=by
 have T:=J.ev x;cases th:bD env x with
 |pv p=>
  rw[th]at Y T;simp only[RA]at T;cases p with
  |cptr y=>
   obtain⟨b,n,hv,b_,nO⟩:=xB T;obtain⟨pre,rest,U,H,E⟩:=vM off y.cells _ Y;rw[U,lz,H]at nO;exact Out.run (v:=.pointer (some ⟨b,n+off,none⟩)) (hs b n hv) J (av:=.pv (.cptr (.agg rest))) (by simp only[RA];exact Ym b_ nO.2) E
  |_=>exact Y.elim
 |ref id idx o1=>
  rw[th]at Y T;simp only[RA]at T;obtain⟨aM,_,jH,rj⟩:=T;obtain⟨b,I,Y⟩:=aK Z id _ Y;cases b with
  |row e sz ap aw=>
   obtain⟨u,g,hu,hg,hv⟩:=jH e sz ap aw I;refine Out.run (v:=.pointer (some ⟨g,idx*sz+o1+off,none⟩)) (K:=K) (hs _ _ hv) J (av:=.ref id idx (o1+off)) ?_ Y;simp only[RA];refine⟨aM,⟨_,rfl⟩,λe2 sz2 ap2 T6 h=>?_,λs2 h nj=>?_⟩
   ·rw[I]at h;cases h;exact⟨u,g,hu,hg,by rw[zaL]⟩
   ·rw[I]at h;cases h;cases nj
  |box e cs=>
   obtain⟨u,g,hu,hg,hv⟩:=rj _ I rfl;refine Out.run (v:=.pointer (some ⟨g,o1+off,none⟩)) (K:=K) (hs _ _ hv) J (av:=.ref id idx (o1+off)) ?_ Y;simp only[RA];refine⟨aM,⟨_,rfl⟩,λe2 sz2 ap2 T6 h=>?_,λs2 h nj=>?_⟩
   ·rw[I]at h;cases h
   ·exact⟨u,g,hu,hg,rfl⟩
  |fz z=>
   cases z with
   |cptr y=>
    obtain⟨u,g,hu,hg,hv⟩:=rj _ I rfl;refine Out.run (v:=.pointer (some ⟨g,o1+off,none⟩)) (K:=K) (hs _ _ hv) J (av:=.ref id idx (o1+off)) ?_ Y;simp only[RA];refine⟨aM,⟨_,rfl⟩,λe2 sz2 ap2 T6 h=>?_,λs2 h nj=>?_⟩
    ·rw[I]at h;cases h
    ·exact⟨u,g,hu,hg,rfl⟩
   |_=>exact Y.elim
  |_=>exact Y.elim
 |_=>rw[th]at Y;exact Y.elim
def acE(P:Program)(s:TypeId)(f:Nat)(fs:Array Field)(fd:Field)(ag:Bool)(m:Nat)(h:P.underlying s=some (.struct fs))(hf:fs[f]?=some fd)(hs:Shape P fd.type ag m)(hm:0<m)(b n:Nat):
 (Instr.fieldAt s (.pointer (some ⟨b,n,none⟩)) f).run P w=.ok (.pointer (some ⟨b,n+fd.offset,none⟩)) w:=by
 obtain⟨i,W,rfl⟩:=hs.info;have h0:¬i.size=0:=V;simp[Instr.fieldAt,run_underlying h,hf,Instr.sureAddr,Go.fieldPlace,sizeOf,typeInfo,W,h0,ic]
def abM{K:AV->ax->Prop}(J:Rel cx env Z vals a w)(x:Operand)(ft:TypeId)(off:Nat)(ag:Bool)(n:Nat)(b9:∀arr v,a.eval x=.agg arr->(part ft arr off).run cx.P w=.ok v w->(execOp a.eval o).run cx.P w=.ok (.value v) w)
 (hs:∃m,Shape cx.P ft ag m/\n=if ag then m else 1)
 (Y:match bD env x with
   | .pv x=>match x with
    | .agg cs=>IJ off ag n cs λr=>K (.pv r) Z
    |_=>False
   | .agg cs=>H_ off cs λr=>Nr n r λt=>Qb ag t λa=>K a Z
   |_=>False):Out cx env a w o K:=by
 have T:=J.ev x;obtain⟨m,hs,hn⟩:=hs;have fin:∀(arr:Array Value) (Nd us us2:XS) (av:AV),a.eval x=.agg arr->arr.toList=Nd++(us++us2)->Nd.length=off->us.length=n->
  RA (Ok cx Z vals w) Z vals w av (valOf ag us)->K av Z->Out cx env a w o K:=by
  intro arr Nd us us2 av hv he U H EV E;refine Out.run (v:=valOf ag us) ?_ J EV E;have aAG:(part ft arr off).run cx.P w=.ok (valOf ag us) w:=by
   obtain⟨i,W,hm⟩:=hs.info;cases ag with
   |true=>
    simp only[if_true]at hn;simp[part,hs.isAgg,sizeOf,typeInfo,W,hm,valOf];apply Array.ext';simp[he,<-U,<-hn,<-H]
   |false=>
    cases us with
    |nil=>simp at H;simp at hn;omega
    |cons u us=>
     have:arr[off]?=some u:=by
      rw[<-za3,he,zak V,U,Nat.sub_self];rfl
     simp[part,hs.isAgg,this,valOf]
  exact b9 arr _ hv aAG
 cases th:bD env x with
 |pv p=>
  rw[th]at Y T;simp only[RA]at T;cases p with
  |agg cs=>
   simp only[Rd]at T;obtain⟨h0,arr,hv,hl⟩:=T;obtain⟨pre,rest,rfl,U,E⟩:=vM _ cs _ Y;obtain⟨t,post,rfl,H,E⟩:=As n rest _ E;obtain⟨Nd,us0,he,h3,h4⟩:=(di _ _ _).1 hl;obtain⟨us,us2,rfl,h5,h6⟩:=(di _ _ _).1 h4;obtain⟨r,g1,g2,_⟩:=TP h5 (λc F=>h0 c lE) E;exact fin arr Nd us us2 (.pv r) hv he (by rw[h3.length,U]) (by rw[h5.length,H]) (by simp only[RA];exact g2) g1
  |_=>exact Y.elim
 |agg cs=>
  rw[th]at Y T;simp only[RA]at T;obtain⟨h0,arr,hv,hl⟩:=T;obtain⟨pre,rest,rfl,U,E⟩:=vM _ cs _ Y;obtain⟨t,post,rfl,H,E⟩:=As n rest _ E;obtain⟨Nd,us0,he,h3,h4⟩:=(ew _ _ _).1 hl;obtain⟨us,us2,rfl,h5,h6⟩:=(ew _ _ _).1 h4;obtain⟨r,g1,g2,_⟩:=aao h5 (λc F=>h0 c lE) E;exact fin arr Nd us us2 r hv he (by rw[h3.length,U]) (by rw[h5.length,H]) g2 g1
 |_=>rw[th]at Y;exact Y.elim
def ah7{K:AV->ax->Prop}(J:Rel cx env Z vals a w)(s:TypeId)(x:Operand)(f:Nat)(fs:Array Field)(fd:Field)(ag:Bool)(n:Nat)(ho:o.op=.field s x f)(hu:cx.P.underlying s=some (.struct fs))(hf:fs[f]?=some fd)
 (hs:∃m,Shape cx.P fd.type ag m/\n=if ag then m else 1)
 (Y:match bD env x with
   | .pv x=>match x with
    | .agg cs=>IJ fd.offset ag n cs λr=>K (.pv r) Z
    |_=>False
   | .agg cs=>H_ fd.offset cs λr=>Nr n r λt=>Qb ag t λa=>K a Z
   |_=>False):Out cx env a w o K:=
 abM J x fd.type fd.offset ag n (λarr v hv hp=>by simp[execOp,ho,hv,Instr.field,run_underlying hu,hf,asAgg,hp]) hs Y
def adt{K:AV->ax->Prop}(J:Rel cx env Z vals a w)(t e:TypeId)(x i:Operand)(m:Nat)(kd:IntKind)(k:Int)(sz:Nat)(ag:Bool)(n:Nat)(ho:o.op=.index t x i)(hu:cx.P.underlying t=some (.array m e))(W:i=.const (.int kd k))(E:0<=k/\k.toNat<m)
 (hs:Shape cx.P e ag sz) (hn:n=if ag then sz else 1)
 (Y:match bD env x with
   | .pv x=>match x with
    | .agg cs=>IJ (k.toNat*sz) ag n cs λr=>K (.pv r) Z
    |_=>False
   | .agg cs=>H_ (k.toNat*sz) cs λr=>Nr n r λt=>Qb ag t λa=>K a Z
   |_=>False):Out cx env a w o K:=by
 obtain⟨j,hj,hjs⟩:=hs.info;refine abM J x e (k.toNat*sz) ag n (λarr v hv hp=>?_) ⟨_,hs,hn⟩ Y;subst W;have aM:k<(m:Int):=V;have th:a.eval (.const (.int kd k))=.int kd k:=rfl;simp[execOp,ho,hv,th,Instr.index,asIntOf,run_underlying hu,E.1,aM,sizeOf,typeInfo,hj,hjs,hp]
def arj{K:AV->ax->Prop}(J:Rel cx env Z vals a w)(x:Operand)(i:Nat)(ho:o.op=.extract x i)
 (Y:match bD env x with
   | .tup l=>eM l i λa=>K a Z
   | .pv x=>match x with
    | .tup l=>eM l i λa=>K (.pv a) Z
    |_=>False
   |_=>False):Out cx env a w o K:=by
 have T:=J.ev x;cases th:bD env x with
 |pv p=>
  rw[th]at Y T;simp only[RA]at T;cases p with
  |tup l=>
   simp only[Rd]at T;obtain⟨arr,hv,hl⟩:=T;obtain⟨c,F,E⟩:=aK l i _ Y;obtain⟨U,H⟩:=(oN l _).1 hl;have aM:=(zaa.1 F).1;have axq:i<arr.size:=by rw[<-zac,U];exact aM
   have EU:arr[i]?=some arr[i]:=zaI axq;refine Out.run (v:=arr[i]) ?_ J (av:=.pv c) (by simp only[RA];exact H i c _ F ab) E;simp[execOp,ho,hv,Instr.extract,EU]
  |_=>exact Y.elim
 |tup l=>
  rw[th]at Y T;simp only[RA]at T;obtain⟨arr,hv,hl⟩:=T;obtain⟨c,F,E⟩:=aK l i _ Y;have aM:=(zaa.1 F).1;have axq:i<arr.size:=by rw[<-zac,hl.length];exact aM
  have EU:arr[i]?=some arr[i]:=zaI axq;have hel:∀(l:XP) (vs:XS) (i:Nat) (c:AV) (v:Value),eu (Ok cx Z vals w) Z vals w l vs->l[i]?=some c->vs[i]?=some v->RA (Ok cx Z vals w) Z vals w c v:=by
   intro l
   induction l with
   |nil=>intro vs i c v _ h;simp at h
   |cons x l ih=>
    intro vs i c v h U H;simp only[eu]at h;obtain⟨v0,r,rfl,h3,h4⟩:=h;cases i with
    |zero=>simp at U H;subst U H;exact h3
    |succ i=>exact ih r i c v h4 yT nh
  refine Out.run (v:=arr[i]) ?_ J (av:=c) (hel l _ i c _ hl F ab) E;simp[execOp,ho,hv,Instr.extract,EU]
 |_=>rw[th]at Y;exact Y.elim
def ak3{K:AV->ax->Prop}(J:Rel cx env Z vals a w)(x:Operand)(ho:o.op=.nilCheck x)
 (Y:match bD env x with
   | .ref id idx off=>WE Z id (K (.ref id idx off) Z)
   | .pv x=>match x with
    | .cptr y=>K (.pv (.cptr y)) Z
    | .clo f cs=>K (.pv (.clo f cs)) Z
    |_=>False
   | .clo f cs=>K (.clo f cs) Z
   |_=>False):Out cx env a w o K:=by
 have T:=J.ev x;cases th:bD env x with
 |pv p=>
  rw[th]at Y T;cases p with
  |cptr y=>
   have hx':=T;simp only[RA]at T;obtain⟨b,n,hv,_⟩:=xB T;exact Out.run (v:=.pointer (some ⟨b,n,none⟩)) (by simp[execOp,ho,hv]) J (hv▸hx') Y
  |clo f cs=>
   have hx':=T;simp only[RA,Rd]at T;obtain⟨cv,hv,_⟩:=T;exact Out.run (v:=.func (.func f) #[] cv) (by simp[execOp,ho,hv]) J (hv▸hx') Y
  |_=>exact Y.elim
 |clo f cs=>
  rw[th]at Y T;have hx':=T;simp only[RA]at T;obtain⟨cv,hv,_⟩:=T;exact Out.run (v:=.func (.func f) #[] cv) (by simp[execOp,ho,hv]) J (hv▸hx') Y
 |ref id idx off=>
  rw[th]at Y T;have hx':=T;simp only[RA]at T;obtain⟨aM,_,jH,rj⟩:=T;obtain⟨b,I,Y⟩:=aK Z id _ Y;cases b with
  |row e sz ap aw=>
   obtain⟨u,g,hu,hg,hv⟩:=jH e sz ap aw I;exact Qs
  |fz z=>
   cases z with
   |cptr y=>
    obtain⟨u,g,hu,hg,hv⟩:=rj _ I rfl;exact Qs
   |_=>exact Y.elim
  |box e cs=>
   obtain⟨u,g,hu,hg,hv⟩:=rj _ I rfl;exact Qs
  |_=>exact Y.elim
 |_=>rw[th]at Y;exact Y.elim
end
end
end Go.Dv
namespace Go.Dv
open Go.RowKit
section
section
variable {cx:Cx} {env:Env} {Z:ax} {vals:XS} {a:Act} {w w':World} {o:Oper}
def abp{s:cK}{v:Value}(hl:vals.length=Z.length){b:Nat}(h:Fo (Z++[s]) (vals++[v]) b):Fo Z vals b\/(s.live=true/\bM v=some b):=by
 obtain⟨i,t,u,U,H,h3,h4⟩:=h;rw[fE]at U h3;split at U
 ·rename_i he;rw[if_pos (by rw[hl];exact he)]at h3;cases U;cases h3;exact .inr ⟨H,h4⟩
 ·rename_i he;rw[if_neg (by rw[hl];exact he)]at h3;exact .inl ⟨i,t,u,U,H,h3,h4⟩
def bW.push(J:bW cx Z vals w)(Xi:Below w.heap.size w w')(s:cK)(v:Value)(ff:v.oneCell'=true)(mM:s.live=true→∀b,bM v=some b->w.heap.size<=b)
 (I:de cx Z vals w (Z++[s]) (vals++[v]) w'->RB cx (Z++[s]) (vals++[v]) w' s v):
 bW cx (Z++[s]) (vals++[v]) w'/\de cx Z vals w (Z++[s]) (vals++[v]) w':=by
 obtain⟨eI,pP⟩:=J.grow Xi;have E:de cx Z vals w (Z++[s]) (vals++[v]) w':=by
  refine⟨λi u h=>?_,ab,λb h=>⟨h.1,zae h.2.1 Xi.size,λhm=>?_⟩,λb h=>Xi.block b h.2.1,λi W e sz ap aw h=>?_,λi W s' h nN=>?_⟩
  ·rw[fE,if_neg (by have:=(zaa.1 h).1;omega)];exact h
  ·rcases abp J.len hm with hm|⟨U,H⟩
   ·exact h.2.2 hm
   ·have:=mM U b H;have:=h.2.1;omega
  ·rw[fE,if_neg V]at h;exact⟨ap,aw,h⟩
  ·rw[fE,if_neg V]at h;exact⟨s',h,nN⟩
 have tg:Fr cx (Z++[s]) (vals++[v]) w':=⟨eI.fr.size,eI.fr.same,λb hm nr=>by
  rcases abp J.len hm with hm|⟨U,H⟩
  ·exact J.fr.sy b hm nr
  ·have:=mM U b H;have:=cx.E b nr;have:=J.fr.size;omega⟩
 refine⟨⟨eI.below,λu hu=>adb,by simp[J.len],λi t u U H=>?_,λi j t1 t2 u1 u2 b sC U H h3 h4 h5 h6 h7=>?_,tg,J.pin.keep E⟩,E⟩
 ·rw[fE]at U H;split at U
  ·rename_i he;rw[if_pos (by rw[J.len];exact he)]at H;cases U;cases H;exact I E
  ·rename_i he;rw[if_neg (by rw[J.len];exact he)]at H;exact E.rb (J.lW i t u U H) (λhl b A8=>Xi.block b ((J.lW i t u U H).block hl A8).2)
 ·rw[fE]at U H h5 h6;rw[J.len]at h5 h6;split at U
  ·rename_i he;rw[if_pos he]at h5;cases U;cases h5;rw[if_neg V]at H h6;intro h8;have:=mM h3 b h7;have:=((J.lW j t2 u2 H h6).block h4 h8).2;omega
  ·rename_i he;rw[if_neg he]at h5;split at H
   ·rename_i he2;rw[if_pos he2]at h6;cases H;cases h6;intro h8;have:=mM h4 b h8;have:=((J.lW i t1 u1 U h5).block h3 h7).2;omega
   ·rename_i he2;rw[if_neg he2]at h6;exact J.Cb i j t1 t2 u1 u2 b sC U H h3 h4 h5 h6 h7
def afg(hl:vals.length=Z.length)(s:cK)(v:Value){ok:Nat->Prop}:RA ok (Z++[s]) (vals++[v]) w (.own Z.length) v:=by
 simp only[RA];rw[fE,if_pos hl.symm]
def aet(hl:vals.length=Z.length)(e:TypeId)(cs:XP)(b:Nat){ok:Nat->Prop}:RA ok (Z++[.box e cs]) (vals++[.pointer (some ⟨b,0,none⟩)]) w (.ref Z.length 0 0) (.pointer (some ⟨b,0,none⟩)):=by
 simp only[RA];refine⟨ab,⟨_,rfl⟩,λe2 sz2 ap2 T6 h=>?_,λs2 h nj=>?_⟩
 ·rw[fE,if_pos rfl]at h;cases h
 ·exact⟨.pointer (some ⟨b,0,none⟩),b,by rw[fE,if_pos hl.symm],rfl,rfl⟩
def xw(w:World)(ob:Obj):Below w.heap.size w (w.alloc ob):=(Below.refl _ _).alloc (zai _) _
def heap_alloc(w:World)(ob:Obj):(w.alloc ob).heap[w.heap.size]?=some ob:=by show(w.heap.push ob)[w.heap.size]?=_;simp
def P9{K:AV->ax->Prop}(J:Rel cx env Z vals a w)(e:TypeId)(cs:XP)(arr:Array Value)(b9:(execOp a.eval o).run cx.P w=.ok (.value (.pointer (some ⟨w.heap.size,0,none⟩))) (w.alloc (.cells arr e)))
 (U:∀c∈cs,c.one=true) (nO:eu (Ok cx Z vals w) Z vals w cs arr.toList) (Y:me Z λn=>fv Z (.box e cs) λZ=>K (.ref n 0 0) Z):Out cx env a w o K:=by
 have Y:=cS _ _ _ (dX Z _ Y);obtain⟨hs,E⟩:=J.s.push (xw w (.cells arr e)) (.box e cs) (.pointer (some ⟨w.heap.size,0,none⟩)) rfl (λ_ b h=>QF)
  (λE=>⟨w.heap.size,arr,rfl,cx.cj _ J.s.below.size,heap_alloc w _,U,E.raL _ _ nO⟩)
 exact Out.run b9 (J.keep hs E) (aet J.s.len e cs w.heap.size) Y
def AB{K:AV->ax->Prop}(J:Rel cx env Z vals a w)(e:TypeId)(sz:Nat)(ap:Bool)(aw:CK)(w':World)(Xi:Below w.heap.size w w')(v:Value)(b9:(execOp a.eval o).run cx.P w=.ok (.value v) w')
 (mM:∀b,bM v=some b->w.heap.size<=b) (nP:0<sz) (cells:XS) (cj:DD w' cx.own e sz ap v aw.length cells) (hl:∀x∈aw,x.cells.length=sz) (U:∀c∈aw.flatMap PV.cells,c.one=true)
 (nO:cz (Ok cx Z vals w) w (aw.flatMap PV.cells) cells) (Y:me Z λn=>fv Z (.row e sz ap aw) λZ=>K (.own n) Z):Out cx env a w o K:=by
 have Y:=cS _ _ _ (dX Z _ Y);have ff:v.oneCell'=true:=abZ;obtain⟨hs,E⟩:=J.s.push Xi (.row e sz ap aw) v ff (λ_=>mM) (λE=>⟨nP,cells,cj,hl,U,E.rdL nO⟩);exact Out.run b9 (J.keep hs E) (afg J.s.len _ _) Y
def YX{ok:Nat->Prop}{c:PV}{v:Value}(h:zIs c v=true):Rd ok w c v/\c.one=true:=by
 unfold zIs at h;split at h<;>simp_all[Rd,PV.one,Value.oneCell'];rename_i l s;obtain⟨U,H⟩:=h;obtain⟨⟨d⟩⟩:=s;simp at U H;subst U
 simp_all
def Po{ok:Nat->Prop}(cs:CK):∀vs:XS,apl cs vs=true->cz ok w cs vs∧∀c∈cs,c.one=true:=by
 induction cs with
 |nil=>intro vs h;cases vs with
  |nil=>simp[cz]
  |cons v vs=>cases h
 |cons c cs ih=>
  intro vs h;cases vs with
  |nil=>cases h
  |cons v vs=>
   have h':(match zIs c v with|true=>apl cs vs|false=>false)=true:=h;cases hz:zIs c v with
   |false=>rw[hz]at h';cases h'
   |true=>
    rw[hz]at h';obtain⟨U,H⟩:=ih vs h';obtain⟨h3,h4⟩:=YX (w:=w) (ok:=ok) hz;exact⟨by simp only[cz];exact⟨v,vs,rfl,h3,U⟩,by simpa[h4]using H⟩
def rW{P:Program}{t:TypeId}{z:PV}(h:zPV P t=some z):∃i zv,P.info? t=some i/\i.zero=some zv/\(∀ok w,Rd ok w z zv)/\(∀ok w,cz ok w z.cells zv.cells.toList)∧∀c∈z.cells,c.one=true:=by
 unfold zPV opt at h;cases hs:U9 P t with
 |none=>rw[hs]at h;cases h
 |some s=>
  rw[hs]at h;simp only at h;cases F:aop P 8 t with
  |none=>rw[F]at h;cases h
  |some cs=>
   rw[F]at h;simp only at h;cases W:P.info? t with
   |none=>rw[W]at h;cases h
   |some i=>
    rw[W]at h;simp only at h;cases hz:i.zero with
    |none=>rw[hz]at h;cases h
    |some zv=>
     rw[hz]at h;simp only at h;refine⟨i,zv,rfl,hz,?_⟩;have agg:∀vs,zv=.agg vs->k_ (apl cs vs.toList) (some (PV.agg cs))=some z->(∀ok w,Rd ok w z zv)/\(∀ok w,cz ok w z.cells zv.cells.toList)∧∀c∈z.cells,c.one=true:=by
      intro vs hv hn;cases hza:apl cs vs.toList with
      |false=>rw[hza]at hn;cases hn
      |true=>
       rw[hza]at hn;cases hn;subst hv;exact⟨λok w=>by simp only[Rd];exact⟨(Po (ok:=λ_=>True) (w:=default) cs _ hza).2,vs,rfl,(Po cs _ hza).1⟩,λok w=>(Po cs _ hza).1,(Po (ok:=λ_=>True) (w:=default) cs _ hza).2⟩
     have one:∀c,cs=[c]->k_ (zIs c zv) (some c)=some z->(∀ok w,Rd ok w z zv)/\(∀ok w,cz ok w z.cells zv.cells.toList)∧∀c∈z.cells,c.one=true:=by
      intro c F hn;cases hza:zIs c zv with
      |false=>rw[hza]at hn;cases hn
      |true=>
       rw[hza]at hn;have HN:c=z:=Option.some.inj hn;subst HN;have U:∀ok w,Rd ok w c zv:=λok w=>(YX hza).1
       have H:=(YX (ok:=λ_=>True) (w:=default) hza).2;have MF:c.cells=[c]:=by cases c<;>first|rfl|cases H
       have hvc:zv.cells= #[zv]:=by
        have:=(U (λ_=>True) default).EM H;cases zv<;>first|rfl|cases this
       refine⟨U,λok w=>?_,?_⟩
       ·rw[MF,hvc];simp only[cz];exact⟨zv,[],rfl,U ok w,rfl⟩
       ·rw[MF];simpa using H
     obtain⟨ag,n⟩:=s;cases ag with
     |true=>
      cases zv with
      |agg vs=>exact agg vs rfl h
      |_=>cases h
     |false=>
      cases cs with
      |nil=>cases h
      |cons c cs=>
       cases cs with
       |nil=>exact one _ rfl (by cases zv<;>exact h)
       |cons _ _=>cases zv<;>cases h
def ajt{K:AV->ax->Prop}(J:Rel cx env Z vals a w)(e:TypeId)(z:PV)(ho:o.op=.alloc e)(hz:zPV cx.P e=some z)
 (Y:Qn z.cells λcs=>me Z λn=>fv Z (.box e cs) λZ=>K (.ref n 0 0) Z):Out cx env a w o K:=by
 obtain⟨i,zv,W,hzv,_,H,h3⟩:=rW hz;refine P9 J e (z.cells.map .pv) zv.cells ?_ ?_ ((fm _ _).2 (H _ _)) (nY _ _ Y)
 ·simp[execOp,ho,Instr.alloc,zeroValue,typeInfo,W,hzv,newVar,newRow]
 ·intro c F;simp at F;obtain⟨x,T,rfl⟩:=F;exact h3 x T
def ahZ{ok:Nat->Prop}{z:PV}:∀(vs:XS) (n:Nat),asD z vs n=true->cz ok w (List.replicate n z) vs/\(0<n->z.one=true):=by
 intro vs
 induction vs with
 |nil=>intro n h;cases n with
  |zero=>simp[cz]
  |succ n=>cases h
 |cons v vs ih=>
  intro n h;cases n with
  |zero=>cases h
  |succ n=>
   replace h:(match zIs z v with|true=>asD z vs n|false=>false)=true:=h;cases hz:zIs z v with
   |false=>rw[hz]at h;cases h
   |true=>
    rw[hz]at h;have h3:=YX (ok:=ok) (w:=w) hz;rw[zaP];exact⟨by simp only[cz];exact⟨v,vs,rfl,h3.1,(ih n h).1⟩,λ_=>h3.2⟩
def yn{α β:Type}{o:Option α}{f:α->Option β}{r:β}(h:opt o f=some r):∃x,o=some x/\f x=some r:=by
 unfold opt at h;cases o with
 |none=>cases h
 |some x=>exact⟨x,rfl,h⟩
def Iy{P:Program}{t:TypeId}{q:PV×Nat}(h:EA P t=some q):∃e i it vs,P.underlying t=some (.array q.2 e)/\P.info? e=some i/\i.size=1/\P.info? t=some it/\it.zero=some (.agg vs)/\asD q.1 vs.toList q.2=true/\8<q.2/\q.2<=1000000:=by
 unfold EA at h;split at h
 ·rename_i n e hu;obtain⟨i,W,h⟩:=yn h;obtain⟨z,hz,h⟩:=yn h;obtain⟨it,hit,h⟩:=yn h;obtain⟨zv,hzv,h⟩:=yn h;unfold k_ at h;split at h
  ·rename_i I;simp only[zaT]at I;split at h
   ·rename_i vs;split at h
    ·rename_i J;cases h;exact⟨e,i,it,vs,hu,W,zab I.2,hit,hzv,J,za4 I.1.1,za4 I.1.2⟩
    ·cases h
   ·cases h
  ·cases h
 ·cases h
def aa0(z:PV)(hz:z.one=true)(n:Nat):(List.replicate n z).flatMap PV.cells=List.replicate n z:=by
 have F:z.cells=[z]:=by cases z<;>first|rfl|cases hz
 induction n with
 |zero=>rfl
 |succ n ih=>rw[zaP,zan,ih,F];rfl
def akX{K:AV->ax->Prop}(J:Rel cx env Z vals a w)(e:TypeId)(q:PV×Nat)(ho:o.op=.alloc e)(hq:EA cx.P e=some q)
 (Y:me Z λm=>fv Z (.row e 1 false (List.replicate q.2 q.1)) λZ=>K (.ref m 0 0) Z):Out cx env a w o K:=by
 obtain⟨el,i,it,vs,hu,W,nP,hit,hz,axr,h8,hmx⟩:=Iy hq;have Y:=cS _ _ _ (dX Z _ Y);have lf:=λ(ok:Nat->Prop)=>(ahZ (ok:=ok) (w:=w) vs.toList q.2 axr).1
 have ff:=(ahZ (ok:=λ_=>True) (w:=w) vs.toList q.2 axr).2 V;have hlen:vs.size=q.2:=by have:=(lf (λ_=>True)).length;rw[zaq,zac]at this;exact this
 have iX:q.1.cells.length=1:=by generalize q.1=z at ff;cases z<;>first|rfl|cases ff
 obtain⟨hs,E⟩:=J.s.push (xw w (.cells vs e)) (.row e 1 false (List.replicate q.2 q.1)) (.slice (some ⟨w.heap.size,0,none⟩) q.2 q.2) rfl (λ_ b h=>QF)
  (λE=>⟨V,vs.toList,⟨by rw[zaq,zac,hlen];omega,.inr ⟨w.heap.size,q.2,vs,(0,0),by rw[zaq],cx.cj _ J.s.below.size,heap_alloc w _,ab,by simp only[maxLen];omega,V,by rw[zaq,za1 aH],.inl rfl⟩⟩,
    λx T=>by rw[za9]at T;rw[T.2];exact iX,λc F=>by rw[aa0 _ ff,za9]at F;rw[F.2];exact ff,by rw[aa0 _ ff];exact E.rdL (lf _)⟩)
 refine Out.run (v:=.pointer (some ⟨w.heap.size,0,none⟩)) (w':=w.alloc (.cells vs e)) ?_ (J.keep hs E) (av:=.ref Z.length 0 0) ?_ Y
 ·simp[execOp,ho,Instr.alloc,zeroValue,typeInfo,hit,hz,newVar,newRow,Value.cells]
 ·simp only[RA];refine⟨ab,⟨_,rfl⟩,λe2 sz2 ap2 T6 h=>?_,λs2 h nj=>?_⟩
  ·rw[fE,if_pos rfl]at h;cases h;exact⟨.slice (some ⟨w.heap.size,0,none⟩) q.2 q.2,w.heap.size,by rw[fE,if_pos J.s.len.symm],rfl,ab⟩
  ·rw[fE,if_pos rfl]at h;cases h;cases nj
def Er{v:Value}(h:v.oneCell'=true):v.cells= #[v]:=by cases v<;>first|rfl|cases h
def Dn(J:bW cx Z vals w){av:AV}{v:Value}(h:RA (Ok cx Z vals w) Z vals w av v){K:XP->Prop}(Y:Am av K):∃cs,K cs/\eu (Ok cx Z vals w) Z vals w cs v.cells.toList∧∀c∈cs,c.one=true:=by
 cases av with
 |pv x=>
  simp only[RA]at h;have one:x.one=true->K [.pv x]→∃cs,K cs/\eu (Ok cx Z vals w) Z vals w cs v.cells.toList∧∀c∈cs,c.one=true:=λT E=>
   ⟨_,E,by rw[Er (h.EM T)];simp only[eu];exact⟨v,[],rfl,by simp only[RA];exact h,rfl⟩,by simpa[AV.one]using T⟩
  cases x with
  |agg cs=>
   simp only[Rd]at h;obtain⟨h0,vs,rfl,h⟩:=h;exact⟨_,nY _ _ Y,(fm _ _).2 h,λc F=>by simp at F;obtain⟨x,T,rfl⟩:=F;exact h0 x T⟩
  |tup cs=>exact Y.elim
  |_=>exact one rfl Y
 |agg cs=>
  simp only[RA]at h;obtain⟨h0,vs,rfl,h⟩:=h;exact⟨cs,Y,h,h0⟩
 |own id=>
  have h':=h;simp only[RA]at h;have U:=J.one v (zag h);exact⟨_,Y,by rw[Er U];simp only[eu];exact⟨v,[],rfl,h',rfl⟩,by simp[AV.one]⟩
 |ref id idx off=>
  have h':=h;simp only[RA]at h;obtain⟨_,⟨ad,rfl⟩,_⟩:=h;exact Qh
 |sub id sz lo n=>
  have h':=h;simp only[RA]at h;obtain⟨_,ad,c,rfl,_⟩:=h;exact Qh
 |clo f ep=>
  have h':=h;simp only[RA]at h;obtain⟨cv,rfl,_⟩:=h;exact Qh
 |_=>exact Y.elim
def ats{K:AV->ax->Prop}(J:Rel cx env Z vals a w)(e:TypeId)(x:Operand)(ho:o.op=.box e x)
 (Y:Am (bD env x) λcs=>me Z λn=>fv Z (.box e cs) λZ=>K (.ref n 0 0) Z):Out cx env a w o K:=by
 obtain⟨cs,E,U,H⟩:=Dn J.s (J.ev x) Y;exact P9 J e cs (a.eval x).cells (by simp[execOp,ho,Instr.box,newVar,newRow]) H U E
def ac4{α:Type}(l:List α)(m:Nat)(c:α)(h:m<l.length):(l.set m c).take (m+1)=l.take m++[c]:=by
 apply zbb;intro j;rw[zaK,zaR];by_cases U:j<m
 ·rw[if_pos V,if_neg V,zar aH,zaK,if_pos U]
 ·by_cases H:j=m
  ·subst H;rw[if_pos V,if_pos rfl,if_pos h,zak aH];simp[zat (Nat.le_of_lt h)]
  ·rw[if_neg V,zaM aH]
def set_drop{α:Type}(l:List α)(m n:Nat)(c:α)(h:m<n):(l.set m c).drop n=l.drop n:=by
 apply zbb;intro j;rw[zaB,zaB,zaR,if_neg V]
def Gc(vs:XS)(off:Nat):∀(k:Nat) (cs:Array Value),off+k+vs.length<=cs.size->
 ((vs.zipIdx k).foldl (λ(cs:Array Value) (p:Value×Nat)=>cs.setIfInBounds (off+p.2) p.1) cs).toList=cs.toList.take (off+k)++vs++cs.toList.drop (off+k+vs.length):=by
 induction vs with
 |nil=>intro k cs _;simp
 |cons c vs ih=>
  intro k cs h;simp only[zap]at h;rw[zaV,zbi,ih (k+1) _ aH];rw[zaQ,show off+(k+1)=off+k+1 from rfl,ac4 _ _ _ aH,set_drop _ _ _ _ V];simp[zaL,Nat.add_comm,zbc]
def ak5{ok:Nat->Prop}{z vs:XP}{off:Nat}{K:XP->Prop}(Y:A5 vs z off K){cur:Array Value}(hz:eu ok Z vals w z cur.toList){us:Array Value}(hv:eu ok Z vals w vs us.toList):
 ∃z',K z'/\off+us.size<=cur.size/\eu ok Z vals w z' ((us.zipIdx.foldl (λ(cs:Array Value) (p:Value×Nat)=>cs.setIfInBounds (off+p.2) p.1) cur)).toList∧∀P:AV->Prop,(∀c∈z,P c)->(∀c∈vs,P c)→∀c∈z',P c:=by
 obtain⟨pre,mid,post,rfl,U,H,E⟩:=ph vs z off K Y;obtain⟨u1,u3,F,g1,g3⟩:=(ew _ _ _).1 hz;obtain⟨u1,u2,rfl,g1,g2⟩:=(ew _ _ _).1 g1;have l1:=g1.length;have l2:=g2.length;have l3:=hv.length;have nP:cur.size=u1.length+u2.length+u3.length:=by rw[<-zac,F];simp[zaL]
 have Uq:us.toList.length=us.size:=zac;have hle:off+us.size<=cur.size:=by rw[<-Uq];omega
 refine⟨_,E,hle,?_,λP hz hv c F=>?_⟩
 ·have hs:=Gc us.toList off 0 cur (by simpa using hle);have e:us.zipIdx.foldl (λ(cs:Array Value) (p:Value×Nat)=>cs.setIfInBounds (off+p.2) p.1) cur=(us.toList.zipIdx 0).foldl (λ(cs:Array Value) (p:Value×Nat)=>cs.setIfInBounds (off+p.2) p.1) cur:=by
   rw[<-zba];simp
  rw[e,hs,F];refine(ew _ _ _).2 ⟨u1++us.toList,u3,?_,(ew _ _ _).2 ⟨u1,us.toList,rfl,g1,hv⟩,g3⟩;have e1:(u1++u2++u3).take (off+0)=u1:=by
   rw[zaW,zaj];exact zaJ V
  have e2:(u1++u2++u3).drop (off+0+us.toList.length)=u3:=zaO (by simp only[zad];omega);rw[e1,e2]
 ·simp only[zaA]at F;rcases F with(F|F)|F
  ·exact hz c lE
  ·exact hv c F
  ·exact hz c lE
def ahM(J:Rel cx env Z vals a w)(place:Nat->Option (Nat×Nat)):∀(ps:List (Nat×Operand)) (qs:List (Nat×Nat×Operand)) (z:XP) (cur:Array Value) (K:XP->Prop),
 ps.map (λp=>(place p.1).map λq=>(q.1,q.2,p.2))=qs.map some->eu (Ok cx Z vals w) Z vals w z cur.toList->(∀c∈z,c.one=true)->LK z (qs.map λp=>(p.1,p.2.1,bD env p.2.2)) K->
 ∃z' arr,K z'/\Instr.fill place cur (ps.map λp=>(p.1,a.eval p.2))=some arr/\eu (Ok cx Z vals w) Z vals w z' arr.toList∧∀c∈z',c.one=true:=by
 intro ps
 induction ps with
 |nil=>
  intro qs z cur K hq hz U Y;cases qs with
  |nil=>exact⟨z,cur,Y,rfl,hz,U⟩
  |cons q qs=>simp at hq
 |cons p ps ih=>
  intro qs z cur K hq hz U Y;cases qs with
  |nil=>simp at hq
  |cons q qs=>
   simp only[zau,List.cons.injEq]at hq;obtain⟨hq1,hq2⟩:=hq;cases hp:place p.1 with
   |none=>rw[hp]at hq1;cases hq1
   |some pl=>
    rw[hp]at hq1;simp only[Option.map_some,Option.some.injEq]at hq1;subst hq1;obtain⟨off,size⟩:=pl;replace Y:Am (bD env p.2) λvs=>vs.length=size/\A5 vs z off λz=>LK z (qs.map λp=>(p.1,p.2.1,bD env p.2.2)) K:=Y
    obtain⟨vs,⟨hl,E⟩,hv,hv1⟩:=Dn J.s (J.ev p.2) Y;obtain⟨z',pP,hle,hz',hP⟩:=ak5 E hz hv;obtain⟨z2,arr,g1,g2,g3,g4⟩:=ih qs z' _ K hq2 hz' (hP _ U hv1) pP;refine⟨z2,arr,g1,?_,g3,g4⟩;have xH:(a.eval p.2).cells.size=size:=by rw[<-zac,hv.length,hl]
    simp only[zau,Instr.fill,hp];rw[if_neg (by simp[xH];omega)];exact g2
def Me{α β:Type}(f:α->Option β)(l:List α):∀r,Ae f l=some r->l.map f=r.map some/\l.mapM f=some r:=by
 induction l with
 |nil=>intro r h;cases h;exact⟨rfl,rfl⟩
 |cons x l ih=>
  intro r h;have h':opt (f x) (λb=>opt (Ae f l) λt=>some (b::t))=some r:=h;unfold opt at h';cases T:f x with
  |none=>rw[T]at h';cases h'
  |some b=>
   rw[T]at h';simp only at h';cases hl:Ae f l with
   |none=>rw[hl]at h';cases h'
   |some t=>
    rw[hl]at h';cases h';obtain⟨U,H⟩:=ih t hl;exact⟨by simp[T,U],by simp[List.mapM_cons,T,H]⟩
def ajd{K:AV->ax->Prop}(J:Rel cx env Z vals a w)(t:TypeId)(parts:Array (Nat×Operand))(fs:Array Field)(cs:CK)(pl:List (Nat×Nat))(qs:List (Nat×Nat×Operand))(ho:o.op=.build t parts)(hu:cx.P.underlying t=some (.struct fs))(hz:zPV cx.P t=some (.agg cs))
 (qk:Ae (λf:Field=>opt (cx.P.info? f.type) λi=>some (f.offset,i.size)) fs.toList=some pl) (hq:Ae (λp:Nat×Operand=>opt (pl[p.1]?) λq=>some (q.1,q.2,p.2)) parts.toList=some qs)
 (Y:EG env qs λps=>Qn cs λz=>LK z ps λcs=>akJ cs λa=>K a Z):Out cx env a w o K:=by
 obtain⟨i,zv,W,hzv,U,H,h3⟩:=rW hz;have Y:=nY _ _ (Kk env qs _ Y);have alg:∀{α β:Type} (o:Option α) (f:α->β),(opt o λx=>some (f x))=o.map f:=λo f=>by cases o<;>rfl
 have hq':parts.toList.map (λp=>((pl[·]?) p.1).map λq=>(q.1,q.2,p.2))=qs.map some:=by
  rw[<-(Me _ _ _ hq).1];apply List.map_congr_left;intro p _;exact(alg _ _).symm
 obtain⟨z',arr,g1,g2,g3,g4⟩:=ahM J (pl[·]?) parts.toList qs (cs.map .pv) zv.cells _ hq' ((fm _ _).2 (H _ _)) (λc F=>aaF) Y;have agJ:cx.P.built t (parts.map λp=>(p.1,a.eval p.2)).toList=some arr:=by
  have hm:fs.toList.mapM (λf=>(cx.P.info? f.type).map λi=>(f.offset,i.size))=some pl:=by
   rw[<-(Me _ _ _ qk).2];congr 1;funext f;exact(alg _ _).symm
  simp only[Program.built,W,hu,hzv,hm,zbf];rw[<-g2];congr 1;funext i;simp
 have b9:(execOp a.eval o).run cx.P w=.ok (.value (.agg arr)) w:=by
  have:=run_build (P:=cx.P) w t (parts.map λp=>(p.1,a.eval p.2)) arr agJ;simp only[execOp,ho,Sem.run_bind,this,Result.andThen_ok,Sem.run_pure]
 rcases LX z' _ g1 with⟨l,rfl,E⟩|E
 ·refine Out.run b9 J (av:=.pv (.agg l)) ?_ E;simp only[RA,Rd];exact⟨λc F=>g4 (.pv c) uQ,arr,rfl,(fm _ _).1 g3⟩
 ·refine Out.run b9 J (av:=.agg z') ?_ E;simp only[RA];exact⟨g4,arr,rfl,g3⟩
end
end
end Go.Dv
namespace Go.Dv
open Go.RowKit
section
section
variable {cx:Cx} {env:Env} {Z:ax} {vals:XS} {a:Act} {w w':World} {o:Oper}
def xb{cs:CK}{K:PV->Prop}(h:lR cs K)(U:∀c∈cs,c.one=true):
 ∃x,K x∧∀(ok:Nat->Prop) (arr:Array Value) (b:Nat) (e:TypeId) (fr:Nat×Nat),w.heap[b]?=some (.cells arr e fr)->cz ok w cs arr.toList->ok b->Rd ok w (.cptr x) (.pointer (some ⟨b,0,none⟩)):=by
 have tU:∀(arr:Array Value) (b:Nat) (e:TypeId) (fr:Nat×Nat),w.heap[b]?=some (.cells arr e fr)→∀(j:Nat) (u:Value),arr.toList[j]?=some u->w.cell? ⟨b,0+j,none⟩=some u:=by
  intro arr b e fr I j u hj;have:arr[j]?=some u:=yZ;simp[World.cell?,I,this]
 have agg:(∀c∈cs,c.one=true)→∀(ok:Nat->Prop) (arr:Array Value) (b:Nat) (e:TypeId) (fr:Nat×Nat),w.heap[b]?=some (.cells arr e fr)->cz ok w cs arr.toList->ok b->Rd ok w (.cptr (.agg cs)) (.pointer (some ⟨b,0,none⟩)):=by
  intro U ok arr b e fr I h b_;simp only[Rd];exact⟨b,0,rfl,b_,(Cg b cs 0).2 ⟨U,arr.toList,h,tU arr b e fr I⟩⟩
 cases cs with
 |nil=>exact⟨_,h,agg U⟩
 |cons c r=>
  cases r with
  |cons d r=>exact⟨_,h,agg U⟩
  |nil=>
   have ff:c.one=true:=U c ab;have T:c.one=true→∀(ok:Nat->Prop) (arr:Array Value) (b:Nat) (e:TypeId) (fr:Nat×Nat),w.heap[b]?=some (.cells arr e fr)->cz ok w [c] arr.toList->ok b->Rd ok w (.cptr c) (.pointer (some ⟨b,0,none⟩)):=by
    intro ff ok arr b e fr I lf b_;simp only[cz]at lf;obtain⟨u,t,hu,F,rfl⟩:=lf;have h0:=tU arr b e fr I 0 u (by rw[hu];rfl);cases c with
    |agg cs=>cases ff
    |_=>simp only[Rd];exact⟨b,0,rfl,b_,ff,u,h0,by simpa only[Rd]using F⟩
   cases c with
   |agg cs=>cases ff
   |_=>exact⟨_,h,T ff⟩
def ME(cs:CK){K:PV->Prop}(h:lR cs K):∃x,K x∧∀K':PV->Prop,K' x->lR cs K':=by
 cases cs with
 |nil=>exact⟨_,h,λ_ h=>h⟩
 |cons c r=>cases r with
  |nil=>cases c<;>first|exact va|exact⟨_,h,λ_ h=>h⟩
  |cons d r=>exact⟨_,h,λ_ h=>h⟩
def Lm:∀(t:CK) (K:CK->Prop) (hk:Prop),K t->LI (t.map .pv) K hk
 |[],_,_,h=>h
 |_::t,K,hk,h=>Lm t _ hk h
def ag3(b:cK){K:PV->Prop}(h:UJ b K):∃x,K x∧∀K':PV->Prop,K' x->UJ b K':=by
 cases b with
 |box e cs=>
  rcases rD cs (λt=>lR t λx=>K (.cptr x)) False h with⟨tcs,rfl,xG⟩|xG
  ·obtain⟨x,sB,A7⟩:=ME tcs xG;exact⟨_,sB,λK' h'=>Lm tcs _ _ (A7 _ h')⟩
  ·exact xG.elim
 |_=>exact va
def xu(Z:ax)(cs:XP):(AV.rec_1 (motive_1:=λ_=>(PV->Prop)->Prop) (motive_2:=λ_=>(CK->Prop)->Prop)
 (λ_=>False) (λx K=>K x)
 (λid K=>eM Z id λb=>match b with
   | .row _ sz _ aw=>K (.sl sz aw)
   | .fz x=>K x
   |_=>False)
 (λid idx off K=>match idx,off with
   |0,0=>eM Z id λb=>UJ b K
   |_,_=>False) (λid sz lo n K=>eM Z id λb=>Sn sz lo n b λaw=>K (.sl sz aw)) (λ_ ih K=>ih λl=>K (.agg l)) (λ_ ih K=>ih λl=>K (.tup l)) (λ_ _ _ _=>False) (λK=>K []) (λ_ _ h t K=>h λx=>t λl=>K (x::l)) cs:(CK->Prop)->Prop)=bK Z cs:=by
 induction cs with
 |nil=>rfl
 |cons c cs ih=>
  funext K;exact congrArg (λf:(CK->Prop)->Prop=>gk Z c λx=>f λl=>K (x::l)) ih
def vw(Z:ax)(cs:XP)(K:PV->Prop)(h:gk Z (.agg cs) K):bK Z cs λl=>K (.agg l):=by
 rw[<-xu];exact h
def xm(Z:ax)(cs:XP)(K:PV->Prop)(h:bK Z cs λl=>K (.agg l)):gk Z (.agg cs) K:=by
 rw[<-xu]at h;exact h
def D9(Z:ax)(cs:XP)(K:PV->Prop)(h:bK Z cs λl=>K (.tup l)):gk Z (.tup cs) K:=by
 rw[<-xu]at h;exact h
def cy{α:Type}(l:List α):∀(i:Nat) (x:α) (K:α->Prop),l[i]?=some x->K x->eM l i K:=by
 induction l with
 |nil=>intro i x K h;simp at h
 |cons y l ih=>
  intro i x K h E;cases i with
  |zero=>simp at h;subst h;exact E
  |succ i=>exact ih i x K rB E
def AN(Z:ax)(cs:XP)(K:PV->Prop)(h:gk Z (.tup cs) K):bK Z cs λl=>K (.tup l):=by
 rw[<-xu];exact h
def xP(cs:XP):(AV.rec_1 (motive_1:=λ_=>ax->(ax->Prop)->Prop) (motive_2:=λ_=>ax->(ax->Prop)->Prop)
 (λ_ _=>False)
 (λ_ Z K=>K Z)
 (λid Z K=>eM Z id λb=>match b with
   | .row _ sz _ aw=>rJ Z id (.fz (.sl sz aw)) K
   | .fz _=>K Z
   |_=>False)
 (λ_ _ _ _ _=>False) (λid _ _ _ Z K=>eM Z id λb=>match b with
  | .row _ sz _ aw=>rJ Z id (.fz (.sl sz aw)) K
  | .fz _=>K Z
  |_=>False) (λ_ ih Z K=>ih Z K) (λ_ ih Z K=>ih Z K) (λ_ _ _ _ _=>False) (λZ K=>K Z) (λ_ _ h t Z K=>h Z λZ=>t Z K) cs:ax->(ax->Prop)->Prop)=d_ cs:=by
 induction cs with
 |nil=>rfl
 |cons c cs ih=>
  funext Z K;exact congrArg (λf:ax->(ax->Prop)->Prop=>lH c Z λZ=>f Z K) ih
def JT(cs:XP)(Z:ax)(K:ax->Prop)(h:lH (.agg cs) Z K):d_ cs Z K:=by
 rw[<-xP];exact h
def Ib(cs:XP)(Z:ax)(K:ax->Prop)(h:lH (.tup cs) Z K):d_ cs Z K:=by
 rw[<-xP];exact h
def OkM(cx:Cx)(Z:ax)(vals:XS)(w:World)(b:Nat):Prop:=Ok cx Z vals w b\/Fo Z vals b
def amM{x:PV}{v:Value}(h:Rd (Ok cx Z vals w) w x v):Rd (OkM cx Z vals w) w x v:=Rd.mono (λ_ h=>.inl h) (λ_ _ _=>rfl) x v h
def WX{ok:Nat->Prop}{x:PV}{v:Value}(h:Rd ok w x v)(hv:v.oneCell'=true):x.one=true:=by
 cases x with
 |agg cs=>simp only[Rd]at h;obtain⟨_,vs,rfl,_⟩:=h;cases hv
 |tup cs=>simp only[Rd]at h;obtain⟨vs,rfl,_⟩:=h;cases hv
 |_=>rfl
mutual
def Wq(J:bW cx Z vals w):∀(av:AV) (v:Value) (K:PV->Prop),RA (Ok cx Z vals w) Z vals w av v->gk Z av K→∃x,K x/\Rd (OkM cx Z vals w) w x v/\(av.one=true->x.one=true)∧∀K2:PV->Prop,K2 x->gk Z av K2
 | .bad,_,_,_,h=>h.elim
 | .pv x,v,K,hv,h=>⟨x,h,amM RP,λh=>h,λ_ h=>h⟩
 | .own id,v,K,hv,h=>by
  simp only[RA]at hv;obtain⟨b,I,E⟩:=aK Z id _ h;obtain⟨v',EU,lV⟩:=J.val I;obtain rfl:=getElem?_of hv EU;have U:=J.one v (zag hv);cases b with
  |row e sz ap aw=>
   refine⟨_,E,?_,λ_=>rfl,λK2 H=>cy Z id _ _ I H⟩;obtain⟨ad,c,g1,g2,g3,g4⟩:=uS lV;simp only[Rd];refine⟨ad,c,g1,g2,g3,g4.imp_right ?_⟩;rintro⟨b,o',rfl,jH⟩;exact⟨b,o',rfl,.inr ⟨id,_,v,I,rfl,hv,by rw[g1];rfl⟩,dN.mono (λ_ h=>.inl h) (λ_ _ _=>rfl) b sz o' (λ_=>rfl) aw jH⟩
  |fz x=>exact⟨x,E,amM lV,λ_=>WX lV U,λK2 H=>cy Z id _ _ I H⟩
  |_=>exact E.elim
 | .ref id idx off,v,K,hv,h=>by
  cases idx with
  |succ _=>exact va
  |zero=>cases off with
   |succ _=>exact va
   |zero=>
    obtain⟨b,I,E⟩:=aK Z id (λb=>UJ b K) h;simp only[RA]at hv;obtain⟨_,_,_,rj⟩:=hv;cases b with
    |box e cs=>
     rcases rD cs (λt=>lR t λx=>K (.cptr x)) False E with⟨tcs,rfl,xG⟩|xG
     ·obtain⟨u,hu,lV⟩:=J.val I;obtain⟨u',g,Z3,NC,hv⟩:=rj _ I rfl;rw[hu]at Z3;cases Z3;obtain⟨b',aqb,e1,_,e3,e4,e5⟩:=lV;have ff:∀c∈tcs,c.one=true:=λc F=>e4 (.pv c) uQ
      rw[fm]at e5;obtain⟨x,sB,A7⟩:=ME tcs xG;obtain⟨x',rfl,T⟩:=xb (w:=w) (A7 (λy=>y=x) rfl) ff;refine⟨_,sB,?_,λ_=>rfl,λK2 H=>cy Z id _ _ I (Lm tcs _ _ (A7 _ H))⟩;rw[hv];rw[e1]at NC;cases NC;exact T _ aqb _ _ _ e3 (cz.mono (λ_ h=>.inl h) (λ_ _ _=>rfl) _ _ e5) (.inr ⟨id,_,u,I,rfl,hu,by rw[e1];rfl⟩)
     ·exact xG.elim
    |_=>exact gY
 | .sub id sz lo n,v,K,hv,h=>by
  obtain⟨b,I,E⟩:=aK Z id _ h;obtain⟨aw,U,H,h3,ad,c,h4,h5,h6,h7,_⟩:=Iv J hv I E;refine⟨_,U,?_,λ_=>rfl,λK2 xG=>cy Z id _ _ I (h3 _ xG)⟩;simp only[Rd];refine⟨ad,c,by rw[H];exact h4,V,h6,h7.imp_right ?_⟩;rintro⟨g,g1,g2,g3⟩;refine⟨g,_,g1,?_,dN.mono (λ_ h=>.inl h) (λ_ _ _=>rfl) g sz _ (λ_=>rfl) aw g2⟩;rcases g3 with⟨e,ap,fg,u,rfl,hu,hg⟩|⟨g3,_⟩
  ·exact .inr ⟨id,_,u,I,rfl,hu,hg⟩
  ·exact .inl g3
 | .clo _ _,_,_,_,h=>(show False from h).elim
 | .agg cs,v,K,hv,h=>by
  simp only[RA]at hv;obtain⟨h0,vs,rfl,hv⟩:=hv;obtain⟨xs,E,U,H,h3⟩:=qX J cs _ _ hv (vw Z cs K h);exact⟨_,E,by simp only[Rd];exact⟨H h0,vs,rfl,U⟩,(λh=>bc),λK2 xG=>xm Z cs K2 (h3 _ xG)⟩
 | .tup cs,v,K,hv,h=>by
  simp only[RA]at hv;obtain⟨vs,rfl,hv⟩:=hv;obtain⟨xs,E,U,H,h3⟩:=qX J cs _ _ hv (AN Z cs K h);exact⟨_,E,by simp only[Rd];exact⟨vs,rfl,U⟩,(λh=>bc),λK2 xG=>D9 Z cs K2 (h3 _ xG)⟩
def qX(J:bW cx Z vals w):∀(l:XP) (vs:XS) (K:CK->Prop),eu (Ok cx Z vals w) Z vals w l vs->bK Z l K→∃xs,K xs/\cz (OkM cx Z vals w) w xs vs/\((∀c∈l,c.one=true)→∀c∈xs,c.one=true)∧∀K2:CK->Prop,K2 xs->bK Z l K2
 |[],vs,K,hv,h=>⟨[],h,by simpa only[eu,cz]using hv,(λ_ _ h=>bc),λ_ h=>h⟩
 |c::l,vs,K,hv,h=>by
  simp only[eu]at hv;obtain⟨v,r,rfl,U,H⟩:=hv;obtain⟨x,E,h3,h4,h7⟩:=Wq J c v _ U h;obtain⟨xs,E,h5,h6,h8⟩:=qX J l r _ H E;refine⟨x::xs,E,by simp only[cz];exact⟨v,r,rfl,h3,h5⟩,λF y hy=>?_,λK2 xG=>h7 _ (h8 _ xG)⟩;rcases zax.1 hy with rfl|hy
  ·exact h4 (F c ab)
  ·exact h6 (λd hd=>F d rM) y hy
end
def Fz(σ0 Z:ax):Prop:=∀i:Nat,Z[i]?=σ0[i]?∨∃e sz ap aw,σ0[i]?=some (.row e sz ap aw)/\Z[i]?=some (.fz (.sl sz aw))
mutual
def DC:∀(av:AV) (σ0 Z:ax) (v:Value) (K:PV->Prop) (K':ax->Prop),Fz σ0 Z->bW cx Z vals w->RA (Ok cx Z vals w) Z vals w av v->gk σ0 av K->lH av Z K'->
 ∃x σ',K x/\K' σ'/\Fz σ0 σ'/\bW cx σ' vals w/\de cx Z vals w σ' vals w/\Rd (Ok cx σ' vals w) w x v/\(av.one=true->x.one=true)
 | .bad,_,_,_,_,_,_,_,_,h,_=>h.elim
 | .pv x,σ0,Z,v,K,K',hf,J,hv,h,h'=>⟨x,Z,h,h',hf,J,.refl,RP,λh=>h⟩
 | .own id,σ0,Z,v,K,K',hf,J,hv,h,h'=>by
  simp only[RA]at hv;obtain⟨b0,VC,E⟩:=aK σ0 id _ h;obtain⟨b,I,pP⟩:=aK Z id _ h';obtain⟨v',EU,lV⟩:=J.val I;obtain rfl:=getElem?_of hv EU;have U:=J.one v (zag hv);have fzc:∀x,b=.fz x->K x→∃x σ',K x/\K' σ'/\Fz σ0 σ'/\bW cx σ' vals w/\de cx Z vals w σ' vals w/\Rd (Ok cx σ' vals w) w x v/\((AV.own id).one=true->x.one=true):=by
   intro x T E;subst T;exact⟨x,Z,E,pP,hf,J,.refl,lV,λ_=>WX lV U⟩
  rcases hf id with he|⟨e,sz,ap,aw,h0,H⟩
  ·rw[he,VC]at I;cases I;cases b0 with
   |row e sz ap aw=>
    have hbσ:Z[id]?=some (.row e sz ap aw):=he.trans VC;obtain⟨hs,nr⟩:=J.freeze hbσ;obtain⟨aM,pP⟩:=dW _ _ _ _ pP;refine⟨_,_,E,pP,λi=>?_,hs,nr,hs.lW id (.fz (.sl sz aw)) v (by rw[kQ aM];simp) hv,λ_=>rfl⟩;rw[kQ aM];split
    ·rename_i W;subst W;exact .inr ⟨e,sz,ap,aw,VC,rfl⟩
    ·exact hf i
   |fz x=>exact fzc x rfl E
   |_=>exact E.elim
  ·rw[h0]at VC;cases VC;rw[H]at I;cases I;exact fzc _ rfl E
 | .ref _ _ _,_,_,_,_,_,_,_,_,_,h=>(show False from h).elim
 | .sub id sz lo n,σ0,Z,v,K,K',hf,J,hv,h,h'=>by
  obtain⟨b0,VC,E⟩:=aK σ0 id _ h;obtain⟨b,I,pP⟩:=aK Z id _ h';have fzc:∀(aw:CK) (σ1:ax),bW cx σ1 vals w->σ1[id]?=some (.fz (.sl sz aw))->lo+n<=aw.length->Rd (Ok cx σ1 vals w) w (.sl sz (cut lo (lo+n) aw)) v:=by
   intro aw σ1 wL xI hle;have hv1:RA (Ok cx σ1 vals w) σ1 vals w (.sub id sz lo n) v:=by
    simp only[RA]at hv ⊢;exact⟨(zaa.1 xI).1,hv.2⟩
   have hw:Sn sz lo n (.fz (.sl sz aw)) (λx=>x=cut lo (lo+n) aw):=by
    show(match Nat.beq sz sz with|true=>lo+n<=aw.length/\_|false=>False);rw[show Nat.beq sz sz=true from Nat.beq_refl sz];exact⟨hle,rfl⟩
   obtain⟨T6,rfl,H,_,ad,c,h4,h5,h6,h7,_⟩:=Iv wL hv1 xI hw;simp only[Rd];refine⟨ad,c,by rw[H];exact h4,V,h6,h7.imp_right ?_⟩;rintro⟨g,g1,g2,g3⟩;refine⟨g,_,g1,?_,g2⟩;rcases g3 with⟨e,ap,fg,u,hd,_⟩|⟨g3,_⟩
   ·cases hd
   ·exact g3
  rcases hf id with he|⟨e,sz',ap,aw,h0,H⟩
  ·rw[he,VC]at I;cases I;have hbσ:=he.trans VC;obtain⟨aw,U,_,_,_,_,_,_,_,_,e,ap,fg,hor⟩:=Iv J hv hbσ E;rcases hor with⟨rfl,rfl,hle⟩|⟨rfl,rfl,hle⟩
   ·obtain⟨hs,nr⟩:=J.freeze hbσ;obtain⟨aM,pP⟩:=dW _ _ _ _ pP;refine⟨_,_,U,pP,λi=>?_,hs,nr,fzc fg _ hs (by rw[kQ aM];simp) hle,λ_=>rfl⟩;rw[kQ aM];split
    ·rename_i W;subst W;exact .inr ⟨e,sz,ap,fg,VC,rfl⟩
    ·exact hf i
   ·exact⟨_,Z,U,pP,hf,J,.refl,fzc fg Z J hbσ hle,λ_=>rfl⟩
  ·rw[h0]at VC;cases VC;rw[H]at I;cases I;replace E:(match Nat.beq sz' sz with|true=>lo+n<=aw.length/\K (.sl sz (cut lo (lo+n) aw))|false=>False):=E;cases hs:Nat.beq sz' sz with
   |false=>rw[hs]at E;exact E.elim
   |true=>
    rw[hs]at E;have:=zab hs;subst this;exact⟨_,Z,E.2,pP,hf,J,.refl,fzc aw Z J H E.1,λ_=>rfl⟩
 | .clo _ _,_,_,_,_,_,_,_,_,h,_=>(show False from h).elim
 | .agg cs,σ0,Z,v,K,K',hf,J,hv,h,h'=>by
  simp only[RA]at hv;obtain⟨h0,vs,rfl,hv⟩:=hv;obtain⟨xs,σ',g1,g2,g3,g4,g5,g6,g7⟩:=mn cs σ0 Z _ _ K' hf J hv (vw σ0 cs K h) (JT cs Z K' h');exact⟨_,σ',g1,g2,g3,g4,g5,by simp only[Rd];exact⟨g7 h0,vs,rfl,g6⟩,λh=>bc⟩
 | .tup cs,σ0,Z,v,K,K',hf,J,hv,h,h'=>by
  simp only[RA]at hv;obtain⟨vs,rfl,hv⟩:=hv;obtain⟨xs,σ',g1,g2,g3,g4,g5,g6,g7⟩:=mn cs σ0 Z _ _ K' hf J hv (AN σ0 cs K h) (Ib cs Z K' h');exact⟨_,σ',g1,g2,g3,g4,g5,by simp only[Rd];exact⟨vs,rfl,g6⟩,λh=>bc⟩
def mn:∀(l:XP) (σ0 Z:ax) (vs:XS) (K:CK->Prop) (K':ax->Prop),Fz σ0 Z->bW cx Z vals w->eu (Ok cx Z vals w) Z vals w l vs->bK σ0 l K->d_ l Z K'->
 ∃xs σ',K xs/\K' σ'/\Fz σ0 σ'/\bW cx σ' vals w/\de cx Z vals w σ' vals w/\cz (Ok cx σ' vals w) w xs vs/\((∀c∈l,c.one=true)→∀c∈xs,c.one=true)
 |[],σ0,Z,vs,K,K',hf,J,hv,h,h'=>⟨[],Z,h,h',hf,J,.refl,by simpa only[eu,cz]using hv,λ_ _ h=>bc⟩
 |c::l,σ0,Z,vs,K,K',hf,J,hv,h,h'=>by
  simp only[eu]at hv;obtain⟨v,r,rfl,U,H⟩:=hv;obtain⟨x,σ1,E,pP,g3,g4,g5,g6,g7⟩:=DC c σ0 Z v _ _ hf J U h h';obtain⟨xs,σ2,E,pP,f3,f4,f5,f6,f7⟩:=mn l σ0 σ1 r _ K' g3 g4 (g5.raL _ _ H) E pP;refine⟨x::xs,σ2,E,pP,f3,f4,g5.trans f5,by simp only[cz];exact⟨v,r,rfl,f5.rd g6,f6⟩,λF y hy=>?_⟩;rcases zax.1 hy with rfl|hy
  ·exact g7 (F c ab)
  ·exact f7 (λd hd=>F d rM) y hy
end
def Fz.refl(Z:ax):Fz Z Z:=λ_=>.inl rfl
end
end
end Go.Dv
namespace Go.Dv
open Go.RowKit Go.Great Go.Lib
section
section
variable {cx:Cx} {env:Env} {Z:ax} {vals:XS} {a:Act} {w w':World} {o:Oper}
def TY{ok:Nat->Prop}{x:PV}{v:Value}(h:Rd ok w x v)(T:∀l,x≠.tup l):cz ok w x.cells v.cells.toList∧∀c∈x.cells,c.one=true:=by
 have one:x.one=true->x.cells=[x]->cz ok w x.cells v.cells.toList∧∀c∈x.cells,c.one=true:=λU F=>by
  rw[F,Er (h.EM U)];exact⟨by simp only[cz];grind,au⟩
 cases x with
 |agg cs=>obtain⟨h0,vs,rfl,U⟩:=h;trivial
 |tup l=>grind
 |_=>exact one rfl rfl
def VQ(sz:Nat)(xs:CK)(h:aaE sz xs=true):∀x∈xs,x.cells.length=sz∧∀l,x≠.tup l:=by
 induction xs with
 |nil=>simp
 |cons x xs ih=>
  have main:(∀l,x≠.tup l)->(match Nat.beq x.cells.length sz with|true=>aaE sz xs|false=>false)=true→∀y∈x::xs,y.cells.length=sz∧∀l,y≠.tup l:=by
   intro T h y hy;cases I:Nat.beq x.cells.length sz with
   |false=>grind
   |true=>
    rcases zax.1 hy with rfl|hy
    ·simp_all
    grind
  cases x with
  |tup l=>cases h
  |_=>exact main ab h
def aoe{ok:Nat->Prop}(xs:CK):∀(vs:XS),cz ok w xs vs->(∀x∈xs,∀l,x≠.tup l)->cz ok w (xs.flatMap PV.cells) (vs.flatMap (·.cells.toList))∧∀c∈xs.flatMap PV.cells,c.one=true:=by
 induction xs with
 |nil=>intro vs h _;subst h;trivial
 |cons x xs ih=>
  intro vs h T;obtain⟨v,r,rfl,U,H⟩:=h;obtain⟨g1,g2⟩:=ih r H (λy hy=>T y pr);obtain⟨f1,f2⟩:=TY U (T x ab);exact⟨(di _ _ _).2 ⟨_,_,rfl,f1,g1⟩,λc F=>au⟩
def aor(sz:Nat):∀(vs:XS) (k:Nat) (cur:Array Value),(∀v∈vs,v.cells.size=sz)->(k+vs.length)*sz<=cur.size->
 ∃arr,Instr.fill (λi=>some (i*sz,sz)) cur ((vs.zipIdx k).map λp=>(p.2,p.1))=some arr/\arr.toList=cur.toList.take (k*sz)++vs.flatMap (·.cells.toList)++cur.toList.drop ((k+vs.length)*sz):=by
 intro vs
 induction vs with
 |nil=>intro k cur _ _;exact⟨cur,rfl,ab⟩
 |cons v vs ih=>
  intro k cur U H;simp only[zap]at H;have hv:v.cells.size=sz:=U v ab;have hm:(k+(vs.length+1))*sz=k*sz+sz+vs.length*sz:=by simp only[zas,zbd];omega
  have hsp:=Gc v.cells.toList (k*sz) 0 cur (by rw[zac];omega);rw[zaW,zac,hv]at hsp;obtain⟨arr,g1,g2⟩:=ih (k+1) ((v.cells.toList.zipIdx 0).foldl (λ(cs:Array Value) (p:Value×Nat)=>cs.setIfInBounds (k*sz+p.2) p.1) cur) (λu hu=>U u (by simp[hu])) (by
   rw[<-zac,hsp];simp only[zad,zal,zay,zac,hv,zas,zbd];omega)
  refine⟨arr,?_,?_⟩
  ·simp only[zaV,zau,Instr.fill];rw[if_neg (by simp[hv];omega)];rw[<-g1];congr 1;rw[<-zba];simp
  ·rw[g2,hsp];have e1:(k+1)*sz=k*sz+sz:=by rw[zas,zbd]
   have l1:(cur.toList.take (k*sz)++v.cells.toList).length=(k+1)*sz:=by
    rw[zad,zal,zac,zac,hv,zat V,e1]
   rw[zaJ l1];have e2:(k+1+vs.length)*sz=(k+1)*sz+vs.length*sz:=by rw[zas]
   rw[e2,<-zaE,zaO l1,zaE];simp only[zan,zaj,zap];congr 4;exact hm.symm
def KE(l:List (Nat×Operand)):∀(k:Nat) (ps:XU),Jo l k=some ps->l=(ps.zipIdx k).map λp=>(p.2,p.1):=by
 induction l with
 |nil=>intro k ps h;cases h;rfl
 |cons p l ih=>
  intro k ps h;have h':(match Nat.beq p.1 k with|true=>opt (Jo l (k+1)) λr=>some (p.2::r)|false=>none)=some ps:=h;cases I:Nat.beq p.1 k with
  |false=>grind
  |true=>
   rw[I]at h';simp only[opt]at h';cases W:Jo l (k+1)with
   |none=>grind
   |some r=>
    rw[W]at h';cases h';have:=zab I;subst this;rw[zaV,zau,<-ih _ _ W]
def afn{K:AV->ax->Prop}(J:Rel cx env Z vals a w)(t e:TypeId)(ie:TypeInfo)(n:Nat)(parts:Array (Nat×Operand))(ps:XU)(z:PV)(ho:o.op=.buildSlice t n parts)
 (hu:cx.P.underlying t=some (.slice e)) (yg:cx.P.info? e=some ie) (VD:Jo parts.toList 0=some ps) (hn:ps.length=n) (nP:0<ie.size) (hsm:n*ie.size<=16777216) (hz:zPV cx.P e=some z)
 (Y:bK Z (ps.map (bD env)) λxs=>aaE ie.size xs=true/\d_ (ps.map (bD env)) Z λZ=>me Z λn=>fv Z (.row e ie.size true xs) λZ=>K (.own n) Z):Out cx env a w o K:=by
 obtain⟨i,zv,W,hzv,_,_,_⟩:=rW hz;rw[yg]at W;cases W;obtain⟨xs,⟨hlen,E⟩,_,_,VE⟩:=qX J.s _ _ _ (J.evL ps) Y;obtain⟨xs',σ',rfl,E,_,hs,nr,lf,_⟩:=mn (ps.map (bD env)) Z Z _ (λys=>ys=xs) _ (Fz.refl Z) J.s (J.evL ps) (VE _ rfl) E;have hlb:=VQ _ _ hlen;obtain⟨PB,ff⟩:=aoe _ _ lf (λx T=>(hlb x T).2);have hl:xs'.length=n:=by have:=lf.length;simp at this;omega
 have aEg:∀v∈ps.map a.eval,v.cells.size=ie.size:=by
  intro v hv;obtain⟨j,hj⟩:=zaG.1 hv;have xJ:j<xs'.length:=by have:=(zaa.1 hj).1;simp at this;omega
  have T:=zah xJ;have U:=((oN _ _).1 lf).2 j _ v T hj;have FI:=zag T;have:=(TY U (hlb _ FI).2).1.length;rw[zac,(hlb _ FI).1]at this;exact this
 obtain⟨arr,g1,g2⟩:=aor ie.size (ps.map a.eval) 0 ((Array.range (n*ie.size)).map (zv.cells[· %zv.cells.size]!)) aEg (by simp[hn]);have T7:arr.toList=(ps.map a.eval).flatMap (·.cells.toList):=by
  rw[g2];simp[hn]
 have b9:(execOp a.eval o).run cx.P w=.ok (.value (.slice (some ⟨w.heap.size,0,none⟩) n n)) (w.alloc (.cells arr e)):=by
  by_cases h0:n=0
  ·subst h0;have aEh:ps=[]:=zaf hn;subst aEh;have hp:parts= #[]:=by
    have:=KE _ _ _ VD;simp at this;exact this
   have ha:arr= #[]:=by apply Array.ext';rw[T7];rfl
   subst hp ha;simp[execOp,ho,Instr.buildSlice,run_underlying hu,sizeOf,typeInfo,yg,Instr.fill,newRow];congr 2;apply Array.ext';simp
  ·have zR:¬n*ie.size=0:=by
    intro h;rcases Nat.mul_eq_zero.1 h with h|h<;>omega
   have:=run_buildSlice (P:=cx.P) w t e n (parts.map λp=>(p.1,a.eval p.2)) arr ie zv hu yg hzv V zR (by
    rw[<-g1];congr 1;rw[zbf,KE _ _ _ VD,List.zipIdx_map];simp[List.map_map,Function.comp_def])
   simp only[execOp,ho,Sem.run_bind,this,Result.andThen_ok,Sem.run_pure]
 refine AB (J.keep hs nr) e ie.size true xs' _ (xw w _) _ b9 (λb h=>QF) nP _ ⟨?_,.inr ⟨w.heap.size,n,arr,(0,0),by rw[hl],cx.cj _ J.s.below.size,heap_alloc w _,V,?_,?_,?_,.inl rfl⟩⟩
  (λx T=>(hlb x T).1) ff PB E
 ·rw[PB.length,iS _ _ (λx T=>(hlb x T).1)]
 ·simp only[maxLen];have:=Nat.le_mul_of_pos_right n nP;omega
 ·rw[<-zac,T7,PB.length,iS _ _ (λx T=>(hlb x T).1),hl]
 ·rw[T7];exact za1 (by rw[PB.length,iS _ _ (λx T=>(hlb x T).1)];exact zai _)
def adY(cs:CK)(n:Nat):∀j,j<n*cs.length->((List.replicate n cs).flatten)[j]?=cs[j%cs.length]?:=by
 induction n with
 |zero=>omega
 |succ n ih=>
  intro j h;rw[zaP,List.flatten_cons];by_cases hj:j<cs.length
  ·rw[zar hj,Nat.mod_eq_of_lt hj]
  ·rw[zak V,ih _ au,<-Nat.mod_eq_sub_mod V]
def al1{K:AV->ax->Prop}(J:Rel cx env Z vals a w)(t e:TypeId)(ie:TypeInfo)(z:PV)(l c:Operand)(ho:o.op=.makeSlice t l c)(hu:cx.P.underlying t=some (.slice e))(yg:cx.P.info? e=some ie)(hz:zPV cx.P e=some z)(nP:0<ie.size)
 (hzl:z.cells.length=ie.size) (Y:Dv.asInt (bD env l) λ_ l=>Dv.asInt (bD env c) λ_ c=>
  (0<=l/\l<=c/\(ie.bytes:Int)*c<=281474976710656/\c<=9223372036854775807)/\me Z λn=>fv Z (.row e ie.size true (List.replicate l.toNat z)) λZ=>K (.own n) Z):Out cx env a w o K:=by
 obtain⟨i,zv,W,hzv,U,H,h3⟩:=rW hz;rw[yg]at W;cases W;have T:=J.ev l;have hy:=J.ev c
 revert Y T hy
 cases bD env l with
 |pv pl=>
  cases pl with
  |int kl nl=>
   cases bD env c with
   |pv pc=>
    cases pc with
    |int kc nc=>
     rintro⟨⟨g0,g1,g2,g3⟩,E⟩ T hy;simp only[RA,Rd]at T hy;have b9:(execOp a.eval o).run cx.P w=.ok (.value (.slice (some ⟨w.heap.size,0,none⟩) nl.toNat nc.toNat)) (w.alloc (.cells (madeCells zv.cells (nc.toNat*ie.size)) e)):=by
      have:=run_make (P:=cx.P) w t e ie zv hu yg hzv kl kc nl nc g0 g1 g2 g3;simp[execOp,ho,T,hy,this]
     have Z4:zv.cells.size=ie.size:=HY;have adW:(List.replicate nl.toNat z).flatMap PV.cells=(List.replicate nl.toNat z.cells).flatten:=by
      rw[List.flatMap_def,List.map_replicate]
     have PB:((List.replicate nl.toNat z).flatMap PV.cells).length=nl.toNat*ie.size:=by
      simp_all
     have hle:nl.toNat*ie.size<=nc.toNat*ie.size:=zaH _ V;have FI:∀c∈(List.replicate nl.toNat z).flatMap PV.cells,c.one=true:=by
      grind
     refine AB J e ie.size true _ _ (xw w _) _ b9 (λb h=>by cases h;simp) nP ((madeCells zv.cells (nc.toNat*ie.size)).toList.take (nl.toNat*ie.size))
      ⟨?_,.inr ⟨w.heap.size,nc.toNat,_,(0,0),ab,cx.cj _ J.s.below.size,heap_alloc w _,?_,?_,?_,?_,.inl rfl⟩⟩ ?_ FI ((oN _ _).2 ⟨?_,?_⟩) E
     ·rw[zal,zac,size_madeCells,zat hle,zaq]
     ·grind
     ·simp only[maxLen];omega
     ·rw[size_madeCells]
     ·simp
     ·grind
     ·rw[PB,zal,zac,size_madeCells,zat hle]
     ·intro j c v F hv;have hj:j<nl.toNat*ie.size:=au;rw[adW,adY _ _ j au,hzl]at F;rw[zaK,if_pos hj]at hv;have aEi:j%ie.size<zv.cells.size:=au;have EU:v=zv.cells[j%ie.size]:=by
       simp[madeCells,Z4]at hv
       grind
      exact((oN _ _).1 (H (Ok cx Z vals w) w)).2 (j%ie.size) c v F au
    |_=>intro Y;trivial
   |_=>intro Y;trivial
  |_=>intro Y;trivial
 |_=>intro Y;trivial
def atn{K:AV->ax->Prop}(J:Rel cx env Z vals a w)(s d e:TypeId)(x:Operand)(ho:o.op=.convert s d x)(hs:cx.P.underlying s=some .string)(hd:cx.P.underlying d=some (.slice e))(he:cx.P.underlying e=some (.int .u8))
 (Y:match bD env x with
   | .pv x=>match x with
    | .str l=>l.length<=9223372036854775807/\me Z λn=>fv Z (.row e 1 false (l.map aG)) λZ=>K (.own n) Z
    |_=>False
   |_=>False):Out cx env a w o K:=by
 have T:=J.ev x
 revert Y T
 cases bD env x with
 |pv p=>
  cases p with
  |str l=>
   rintro⟨FJ,Y⟩ T;simp only[RA,Rd]at T;have nP:(⟨_⟩:ByteArray).size=l.length:=rfl;have b9:=run_bytes_of_string (P:=cx.P) w s d e ⟨l.toArray⟩ hs hd he;rw[nP]at b9;have hge:=grownCap_ge w l.length 0 e;have hbr:(bytesRow ⟨l.toArray⟩ (grownCap w l.length 0 e)).toList.take l.length=l.map λb=>Value.int .u8 b.toNat:=by
    simp[bytesRow]
   have xH:(bytesRow ⟨l.toArray⟩ (grownCap w l.length 0 e)).size=grownCap w l.length 0 e:=by
    simp[bytesRow,nP];omega
   have hml:=grownCap_le_maxLen w l.length 0 e az;refine AB J e 1 false (l.map aG) (w.drew.alloc (.cells (bytesRow ⟨_⟩ (grownCap w l.length 0 e)) e ((bytesRow ⟨l.toArray⟩ (grownCap w l.length 0 e)).size,(bytesRow ⟨l.toArray⟩ (grownCap w l.length 0 e)).size+1))) (((Below.refl _ w).drew).alloc ab _) (.slice (some ⟨w.heap.size,0,none⟩) l.length (grownCap w l.length 0 e)) (by simp[execOp,ho,T,b9]) (λb h=>by cases h;simp) V
    (l.map λb=>Value.int .u8 b.toNat) ⟨ab,.inr ⟨_,_,_,_,ab,cx.cj _ J.s.below.size,heap_alloc w.drew _,au,hml,V,?_,.inr ⟨rfl,zai _⟩⟩⟩ ?_ ?_ ?_ Y
   ·grind
   ·intro x T;rw[zaX]at T;obtain⟨b,_,rfl⟩:=T;rfl
   ·rw[i_];intro c F;rw[zaX]at F;obtain⟨b,_,rfl⟩:=F;rfl
   ·rw[i_,y6]
  |_=>simp
 |_=>simp
def Jg{B:Nat->Prop}{e:TypeId}{sz:Nat}{v:Value}{n:Nat}{xs:XS}(h:DD w B e sz true v n xs):w.ownsRow 0 e sz v n xs∧∀b,bM v=some b->B b:=by
 refine⟨⟨h.1,?_⟩,?_⟩
 ·rcases h.2 with H|⟨g,cap,cur,fr,U,H,h3,h4,h5,h6,h7,h8⟩
  ·grind
  grind
 ·intro b I;rcases h.2 with⟨rfl,_⟩|⟨g,cap,cur,fr,rfl,H,_⟩
  ·cases I
  ·cases I;exact H
def ad1(z:Array Value)(n:Nat):(Builtin.zeroCells z n).size=n*z.size:=by simp[Builtin.zeroCells]
def y9(w:World)(B:Nat->Prop)(e:TypeId)(sz:Nat)(v:Value)(n m:Nat)(cells:XS)(v':Value)(w':World):Prop:=
 DD w' B e sz true v' (n+m) cells/\w.grownBy w' v.ownBlock∧∀b,bM v'=some b->bM v=some b\/w.heap.size<=b
def AO{P:Program}{e:TypeId}{i:TypeInfo}{zv:Value}(B:Nat->Prop)(v:Value)(n m:Nat)(xs news:XS)(W:i.zero=some zv)(Z4:zv.cells.size=i.size)(T:xs.length=n*i.size)(hl:news.length=m*i.size)(old:Nat)(hold:old<n+m)(h63:n+m<=maxLen)(hB:B w.heap.size):
 y9 w B e i.size v n m (xs++news) (.slice (some ⟨w.heap.size,0,none⟩) (n+m) (grownCap w (n+m) old e))
  (w.drew.alloc (.cells (xs.toArray++news.toArray++Builtin.zeroCells zv.cells (grownCap w (n+m) old e-(n+m))) e)):=by
 have hge:=grownCap_ge w (n+m) old e;have hlen:(xs++news).length=(n+m)*i.size:=au;refine⟨⟨hlen,.inr ⟨_,_,_,_,rfl,hB,heap_alloc w.drew _,hge,grownCap_le_maxLen w (n+m) old e h63,?_,?_,.inl rfl⟩⟩,⟨rfl,rfl,rfl,ab,λk E _=>Below.heap_alloc w.drew _ k E⟩,λb h=>by cases h;simp⟩
 ·simp only[Array.size_append,List.size_toArray,ad1,Z4,T,hl,<-zas]
  grind
 grind
def Nb{e:TypeId}{sz:Nat}(B:Nat->Prop)(g n m cap:Nat)(cur:Array Value)(news:XS)(hl:news.length=m*sz)(hg:w.heap[g]?=some (.cells cur e (0,0)))(hB:B g)(Eb:n+m<=cap)(HM:cap<=maxLen)(nO:cur.size=cap*sz):
 y9 w B e sz (.slice (some ⟨g,0,none⟩) n cap) n m (cur.toList.take (n*sz)++news) (.slice (some ⟨g,0,none⟩) (n+m) cap) (w.setRow g (cur.toList.take (n*sz)++news++cur.toList.drop (n*sz+news.length)).toArray):=by
 have hle:(n+m)*sz<=cap*sz:=zaH _ Eb;have hlen:(cur.toList.take (n*sz)++news).length=(n+m)*sz:=au;refine⟨⟨hlen,.inr ⟨g,_,_,_,rfl,hB,setRow_heap w g cur _ e _ hg,Eb,HM,?_,?_,.inl rfl⟩⟩,⟨rfl,rfl,rfl,ab,λk _ E=>setRow_other w g k _ (λh=>E (by simp[Value.ownBlock,h]))⟩,λb h=>.inl h⟩
 ·grind
 grind
def akk{P:Program}(B:Nat->Prop)(t ty e:TypeId)(i:TypeInfo)(zv:Value)(ht:P.underlying t=some (.slice e))(W:P.info? e=some i)(hz:i.zero=some zv)(Z4:zv.cells.size=i.size)
 (v:Value) (n:Nat) (xs:XS) (cj:DD w B e i.size true v n xs) (ad:Option Addr) (m c:Nat) (hmc:m<=c) (news:XS) (hl:news.length=m*i.size) (Gu:m=0∨∃a,ad=some a∧∀(j:Nat) (u:Value),news[j]?=some u->w.cell? (a.add j)=some u) (U:∀u∈news,u.oneCell'=true)
 (h63:n+m<=maxLen) (agK:(n+m)*i.bytes<=140737488355328) (hB:B w.heap.size):
 ∃v' w',(Builtin.append_ #[t,t] ty #[v,.slice ad m c]).run P w=.ok v' w'/\y9 w B e i.size v n m (xs++news) v' w':=by
 have aEj:n+m<=9223372036854775807:=az;rcases Gu with rfl|⟨ad,rfl,Gu⟩
 ·have:news=[]:=zaf V;subst this;refine⟨v,w,?_,au,⟨rfl,rfl,rfl,zai _,λ_ _ _=>rfl⟩,λb h=>.inl h⟩;rcases cj.2 with⟨rfl,rfl⟩|⟨g,cap,cur,fr,rfl,_,_,hnc,_⟩
  ·cases ad<;>simp[Builtin.append_,run_underlying ht,sizeOf,typeInfo,W,Builtin.lenOf,Builtin.firstCells,loadCells,loadCellsFrom]
  ·cases ad<;>simp[Builtin.append_,run_underlying ht,sizeOf,typeInfo,W,Builtin.lenOf,Builtin.firstCells,loadCells,loadCellsFrom,hnc,storeCells]
 ·by_cases hm:m=0
  ·subst hm;have:news=[]:=zaf V;subst this;refine⟨v,w,?_,au,⟨rfl,rfl,rfl,zai _,λ_ _ _=>rfl⟩,λb h=>.inl h⟩;rcases cj.2 with⟨rfl,rfl⟩|⟨g,cap,cur,fr,rfl,_,_,hnc,_⟩
   ·simp[Builtin.append_,run_underlying ht,sizeOf,typeInfo,W,Builtin.lenOf,Builtin.firstCells,loadCells,loadCellsFrom]
   ·simp[Builtin.append_,run_underlying ht,sizeOf,typeInfo,W,Builtin.lenOf,Builtin.firstCells,loadCells,loadCellsFrom,hnc,storeCells]
  ·obtain⟨hor,adX⟩:=Jg cj;rcases hor.2 with⟨rfl,rfl⟩|⟨g,cap,cur,rfl,_,hg,hnc,HM,nO,Xk⟩
   ·have T:xs=[]:=zaf (by simpa using cj.1);subst T;have J:=run_append_nil (P:=P) w t ty e i zv ht W hz ad m c news hl Gu V V au;have:=AO (P:=P) (e:=e) B (.slice none 0 0) 0 m [] news hz Z4 ab hl 0 V h63 hB
    grind
   ·by_cases Eb:n+m<=cap
    ·have aEk:n*i.size+news.length<=cur.size:=by rw[hl,nO,<-zas];exact zaH _ Eb
     have J:=run_append_room (P:=P) w t ty e i ht W g n cap cur hg ad m c news hl Gu U Eb aEk;exact⟨_,_,J,Xk▸Nb B g n m cap cur news hl hg (adX g rfl) Eb HM nO⟩
    ·have holds:∀(j:Nat) (u:Value),xs[j]?=some u->w.cell? ((⟨g,0,none⟩:Addr).add j)=some u:=hor.cells (g:=g) rfl;have J:=run_append_grow (P:=P) w t ty e i zv ht W hz ⟨g,0,none⟩ n cap xs cj.1 holds ad m c news hl Gu V V (growslice_fits V agK);exact⟨_,_,J,AO (P:=P) (e:=e) B _ n m xs news hz Z4 cj.1 hl cap V h63 hB⟩
def aeI{P:Program}(B:Nat->Prop)(t u ty e:TypeId)(i:TypeInfo)(zv:Value)(ht:P.underlying t=some (.slice e))(hu:P.underlying u=some .string)(W:P.info? e=some i)(hz:i.zero=some zv)(Z4:zv.cells.size=i.size)(nk:i.size=1)
 (v:Value) (n:Nat) (xs:XS) (cj:DD w B e i.size true v n xs) (s:ByteArray)
 (h63:n+s.size<=maxLen) (agK:(n+s.size)*i.bytes<=140737488355328) (hB:B w.heap.size):
 ∃v' w',(Builtin.append_ #[t,u] ty #[v,.string s]).run P w=.ok v' w'/\y9 w B e i.size v n s.size (xs++strCells s) v' w':=by
 have aEj:n+s.size<=9223372036854775807:=az;have hl:(strCells s).length=s.size*i.size:=by rw[strCells_length,nk,Nat.mul_one]
 by_cases hm:s.size=0
 ·have hsc:strCells s=[]:=zaf au;rw[hsc,hm];refine⟨v,w,?_,au,⟨rfl,rfl,rfl,zai _,λ_ _ _=>rfl⟩,λb h=>.inl h⟩;have hfc:=run_firstCells_string (P:=P) w i.size s;rw[hm,hsc]at hfc;rcases cj.2 with⟨rfl,rfl⟩|⟨g,cap,cur,fr,rfl,_,_,hnc,_⟩
  ·simp[Builtin.append_,run_underlying ht,run_underlying hu,sizeOf,typeInfo,W,Builtin.lenOf,hm,hfc]
  ·simp[Builtin.append_,run_underlying ht,run_underlying hu,sizeOf,typeInfo,W,Builtin.lenOf,hm,hfc,hnc,storeCells]
 ·obtain⟨hor,adX⟩:=Jg cj;rcases hor.2 with⟨rfl,rfl⟩|⟨g,cap,cur,rfl,_,hg,hnc,HM,nO,Xk⟩
  ·have T:xs=[]:=zaf (by simpa using cj.1);subst T;have J:=run_append_nil_string (P:=P) w t u ty e i zv ht hu W hz s V V au;have:=AO (P:=P) (e:=e) B (.slice none 0 0) 0 s.size [] (strCells s) hz Z4 ab hl 0 V h63 hB;simp only[zaU,zaZ,Array.empty_append]at this ⊢;have e0:(strCells s).toArray=s.data.map (λb=>Value.int .u8 b.toNat):=by apply Array.ext';simp[strCells]
   grind
  ·by_cases Eb:n+s.size<=cap
   ·have J:=run_append_room_string (P:=P) w t u ty e i ht hu W nk g n cap cur hg s Eb au;have:=Nb B g n s.size cap cur (strCells s) hl hg (adX g rfl) Eb HM nO
    grind
   ·have holds:=hor.cells (g:=g) rfl;have J:=run_append_grow_string (P:=P) w t u ty e i zv ht hu W hz ⟨g,0,none⟩ n cap xs cj.1 holds s V V (growslice_fits V agK);exact⟨_,_,J,AO (P:=P) (e:=e) B _ n s.size xs (strCells s) hz Z4 cj.1 hl cap V h63 hB⟩
def Em{v:Value}{b:Nat}(hs:∀p,v≠.pointer p):bM v=some b↔v.ownBlock=some b:=by
 cases v with
 |slice a n c=>cases a<;>simp[bM,Value.ownBlock]
 |pointer p=>grind
 |_=>rfl
def bW.app(J:bW cx Z vals w){id:Nat}{e:TypeId}{sz n m:Nat}{aw els':CK}{v v':Value}(W:Z[id]?=some (.row e sz true aw))(hv:vals[id]?=some v){cells:XS}(ha:y9 w cx.own e sz v n m cells v' w')
 (hn:n+m=els'.length) (hl:∀x∈els',x.cells.length=sz) (U:∀c∈els'.flatMap PV.cells,c.one=true) (nO:cz (Ok cx Z vals w) w (els'.flatMap PV.cells) cells):
 bW cx (Z.set id .dead++[.row e sz true els']) (vals++[v']) w'/\de cx Z vals w (Z.set id .dead++[.row e sz true els']) (vals++[v']) w':=by
 obtain⟨cj,hg,mM⟩:=ha;have aM:=(zaa.1 W).1;have lV:=J.lW id _ _ W hv;have nP:0<sz:=lV.1;have hvs:∀p,v≠.pointer p:=by
  obtain⟨_,c0,h,_⟩:=lV;rcases h.2 with⟨rfl,_⟩|⟨_,_,_,_,rfl,_⟩<;>simp
 have ff:v'.oneCell'=true:=abZ;have hmv:∀b,bM v=some b->Fo Z vals b:=λb h=>⟨id,_,v,W,rfl,hv,h⟩
 have get:∀j s,(Z.set id cK.dead++[cK.row e sz true els'])[j]?=some s->(j=Z.length/\s=.row e sz true els')\/(j<Z.length/\j≠id/\Z[j]?=some s)\/s=.dead:=by
  intro j s h;rw[fE,za0]at h;split at h
  ·rename_i hj;exact .inl ⟨hj,by cases h;rfl⟩
  ·rw[kQ aM]at h;split at h
   ·cases h;exact .inr (.inr rfl)
   ·rename_i hj;exact .inr (.inl ⟨(zaa.1 h).1,λh=>hj h.symm,h⟩)
 have aqc:∀j u,j<Z.length->(vals++[v'])[j]?=some u->vals[j]?=some u:=by
  intro j u hj h;rw[fE,J.len,if_neg V]at h;exact h
 have atG:∀u,(vals++[v'])[Z.length]?=some u->u=v':=by
  intro u h;rw[fE,J.len,if_pos rfl]at h;cases h;rfl
 have T8:∀b,Fo (Z.set id .dead++[.row e sz true els']) (vals++[v']) b->Fo Z vals b\/w.heap.size<=b:=by
  rintro b ⟨j,s,u,g1,g2,g3,g4⟩;rcases get j s g1 with⟨rfl,rfl⟩|⟨hj,_,hs⟩|rfl
  ·rw[atG u g3]at g4;rcases mM b g4 with h|h
   ·exact .inl (hmv b h)
   ·exact .inr h
  ·exact .inl ⟨j,s,u,hs,g2,aqc j u hj g3,g4⟩
  ·cases g2
 have E:de cx Z vals w (Z.set id .dead++[.row e sz true els']) (vals++[v']) w':=by
  refine⟨λi u h=>?_,ab,λb h=>⟨h.1,zae h.2.1 hg.size,λhm=>?_⟩,λb h=>hg.block b h.2.1 (λhe=>h.2.2 (hmv b ((Em hvs).2 he.symm))),λi PD e2 sz2 ap2 T6 h=>?_,λi PD s2 h nj=>?_⟩
  ·rw[fE,if_neg (by have:=(zaa.1 h).1;omega)];exact h
  ·rcases T8 b hm with h'|h'
   ·exact h.2.2 h'
   ·have:=h.2.1;omega
  ·rcases get i _ h with⟨hj,_⟩|⟨_,_,hs⟩|hd
   ·omega
   ·exact⟨ap2,T6,hs⟩
   ·cases hd
  ·rcases get i _ h with⟨hj,_⟩|⟨_,_,hs⟩|hd
   ·omega
   ·exact⟨s2,hs,nj⟩
   ·subst hd;cases nj
 have tg:Fr cx (Z.set id .dead++[.row e sz true els']) (vals++[v']) w':=⟨zam J.fr.size hg.size,λb I=>(hg.block b (zae (cx.E b I) J.fr.size) (λhe=>J.fr.sy b (hmv b ((Em hvs).2 he.symm)) I)).trans (J.fr.same b I),λb hm nr=>by
  rcases T8 b hm with hm|hm
  ·exact J.fr.sy b hm nr
  ·have:=cx.E b nr;have:=J.fr.size;omega⟩
 refine⟨⟨J.below.grown hg (λk h=>(lV.block rfl ((Em hvs).2 h)).1),λu hu=>adb,by simp[J.len],λi s u g1 g2=>?_,λi j s1 s2 u1 u2 b sC g1 g2 g3 g4 g5 g6 g7=>?_,tg,J.pin.keep E⟩,E⟩
 ·rcases get i s g1 with⟨rfl,rfl⟩|⟨hj,ca,hs⟩|rfl
  ·rw[atG u g2];exact⟨nP,cells,hn▸cj,hl,U,E.rdL nO⟩
  ·have hu:=aqc i u hj g2;refine E.rb (J.lW i s u hs hu) (λhlv b I=>hg.block b ((J.lW i s u hs hu).block hlv I).2 (λhe=>?_));exact J.Cb i id s _ u v b ca hs W hlv rfl hu hv I ((Em hvs).2 he.symm)
  ·trivial
 ·intro g8;rcases get i s1 g1 with⟨rfl,rfl⟩|⟨hi1,aEn,nk⟩|rfl
  ·rw[atG u1 g5]at g7;rcases get j s2 g2 with⟨rfl,rfl⟩|⟨hj,ca,hs⟩|rfl
   ·exact sC rfl
   ·have hu:=aqc j u2 hj g6;rcases mM b g7 with h|h
    ·exact J.Cb j id s2 _ u2 v b ca hs W g4 rfl hu hv g8 h
    ·have:=((J.lW j s2 u2 hs hu).block g4 g8).2;omega
   ·cases g4
  ·have hu1:=aqc i u1 hi1 g5;rcases get j s2 g2 with⟨rfl,rfl⟩|⟨hj,ca,hs⟩|rfl
   ·rw[atG u2 g6]at g8;rcases mM b g8 with h|h
    ·exact J.Cb i id s1 _ u1 v b aEn nk W g3 rfl hu1 hv g7 h
    ·have:=((J.lW i s1 u1 nk hu1).block g3 g7).2;omega
   ·exact J.Cb i j s1 s2 u1 u2 b sC nk hs g3 g4 hu1 (aqc j u2 hj g6) g7 g8
   ·cases g4
  ·cases g3
def Iq(w:World)(B:Nat->Prop)(e:TypeId)(sz:Nat)(ap:Bool):DD w B e sz ap (.slice none 0 0) 0 []:=⟨ab,.inl ⟨rfl,rfl⟩⟩
def adN{K:AV->ax->Prop}(J:Rel cx env Z vals a w)(e:TypeId)(ie:TypeInfo)(zv:Value)(x:Operand)(ys:CK)(news:XS)(yg:cx.P.info? e=some ie)(Z4:zv.cells.size=ie.size)(nP:0<ie.size)
 (hl:∀y∈ys,y.cells.length=ie.size) (U:∀c∈ys.flatMap PV.cells,c.one=true) (nO:cz (Ok cx Z vals w) w (ys.flatMap PV.cells) news)
 (b9:∀(v:Value) (n:Nat) (xs:XS),a.eval x=v->DD w cx.own e ie.size true v n xs->n+ys.length<=maxLen->(n+ys.length)*ie.bytes<=140737488355328->
   ∃v' w',(execOp a.eval o).run cx.P w=.ok (.value v') w'/\y9 w cx.own e ie.size v n ys.length (xs++news) v' w')
 (Y:aeJ Z e ie.size ie.bytes (bD env x) ys K):Out cx env a w o K:=by
 have T:=J.ev x;cases th:bD env x with
 |pv p=>
  rw[th]at Y T;simp only[RA]at T;cases p with
  |nil s=>
   obtain⟨⟨I,hm⟩,E⟩:=Y;obtain⟨v',w',eI,cj,hg,hf⟩:=b9 _ 0 [] T (Iq w _ e ie.size true) (by simp only[maxLen];omega) au;simp only[zaU,zaZ]at cj;refine AB J e ie.size true ys w' ⟨hg.os,hg.tape,hg.output,hg.size,λk E=>hg.block k E (by simp[Value.ownBlock])⟩ v' eI (λb h=>?_) nP news cj hl U nO E;rcases hf b h with h|h
   ·cases h
   omega
  |_=>trivial
 |own id=>
  rw[th]at Y T;simp only[RA]at T;obtain⟨b,I,E⟩:=aK Z id _ Y;cases b with
  |row e' s ap aw=>
   cases ap with
   |false=>grind
   |true=>
    cases H:Nat.beq s ie.size with
    |false=>grind
    |true=>
     cases h3:Nat.beq e' e with
     |false=>grind
     |true=>
      simp only[H,h3]at E;have:=zab H;subst this;have:=zab h3;subst this;obtain⟨⟨xI,nj⟩,E⟩:=E;obtain⟨_,E⟩:=dW _ _ _ _ E;have E:=cS _ _ _ (dX _ _ E);have lV:=J.s.lW id _ _ I T;obtain⟨_,cells,g1,g2,g3,g4⟩:=lV;obtain⟨v',w',eI,ha⟩:=b9 _ aw.length cells rfl g1 az xI;obtain⟨hs,nr⟩:=J.s.app I T ha (els':=aw++ys) ab (λx T=>au)
       (λc F=>au) (by rw[zaz];exact(di _ _ _).2 ⟨_,_,rfl,g4,nO⟩)
      refine Out.run eI (J.keep hs nr) (av:=.own (Z.set id .dead).length) ?_ E;rw[za0];simp only[RA];rw[fE,if_pos J.s.len.symm]
  |_=>grind
 |_=>rw[th]at Y;trivial
def arN{K:AV->ax->Prop}(J:Rel cx env Z vals a w)(t e:TypeId)(ie:TypeInfo)(z:PV)(x y:Operand)(c:Call)(ho:o.op=.call c)(F:c.callee=.builtin .append)(cI:c.args.toList=[x,y])(Ea:c.argTypes.toList=[t,t])
 (hu:cx.P.underlying t=some (.slice e)) (yg:cx.P.info? e=some ie) (hz:zPV cx.P e=some z) (hzl:z.cells.length=ie.size) (nP:0<ie.size)
 (Y:AL Z (bD env y) λs ys=>match Nat.beq s ie.size with
   |true=>aeJ Z e ie.size ie.bytes (bD env x) ys K
   |false=>False):Out cx env a w o K:=by
 obtain⟨i,zv,W,hzv,_,H,_⟩:=rW hz;rw[yg]at W;cases W;have Z4:zv.cells.size=ie.size:=HY;obtain⟨s,ys,⟨ad,cc,hv,hle,_,jH⟩,Y⟩:=Et J.s (J.ev y) Y;have iG:c.args= #[x,y]:=au;have agM:c.argTypes= #[t,t]:=au;cases hs:Nat.beq s ie.size with
 |false=>grind
 |true=>
  rw[hs]at Y;have:=zab hs;subst this;obtain⟨news,hnl,nO,U,hl,Gu⟩:∃news:XS,news.length=ys.length*ie.size/\cz (Ok cx Z vals w) w (ys.flatMap PV.cells) news/\(∀c∈ys.flatMap PV.cells,c.one=true)/\(∀y∈ys,y.cells.length=ie.size)/\
   (ys.length=0∨∃a,ad=some a∧∀(j:Nat) (u:Value),news[j]?=some u->w.cell? (a.add j)=some u):=by
   rcases jH with rfl|⟨b,o',rfl,jH⟩
   ·exact⟨[],ab,dw,ab,ab,.inl rfl⟩
   ·obtain⟨g1,g2⟩:=(qR b _ ys o').1 jH;obtain⟨g3,us,g4,g5⟩:=(Cg b _ o').1 g2;exact⟨us,by rw[g4.length,iS _ _ g1],g4,g3,g1,.inr ⟨_,rfl,λj u hj=>by rw[ic];grind⟩⟩
  have ff:∀u∈news,u.oneCell'=true:=by
   intro u hu;obtain⟨j,hj⟩:=zaG.1 hu;have xJ:j<(ys.flatMap PV.cells).length:=by rw[<-nO.length];grind
   have F:=zah xJ;exact(((oN _ _).1 nO).2 j _ u F hj).EM (U _ (zag F))
  refine adN J e ie zv x ys news yg Z4 nP hl U nO (λv n xs hvx cj hm I=>?_) Y;obtain⟨v',w',b9,ha⟩:=akk (P:=cx.P) cx.own t o.type e ie zv hu yg hzv Z4 v n xs cj ad ys.length cc hle news hnl Gu ff hm I (cx.cj _ J.s.below.size);exact⟨v',w',by simp[execOp,ho,resolve,F,invoke,builtin,iG,agM,hv,hvx,b9],ha⟩
def apA{K:AV->ax->Prop}(J:Rel cx env Z vals a w)(t u e:TypeId)(ie:TypeInfo)(z:PV)(x y:Operand)(c:Call)(ho:o.op=.call c)(F:c.callee=.builtin .append)(cI:c.args.toList=[x,y])(Ea:c.argTypes.toList=[t,u])
 (hu:cx.P.underlying t=some (.slice e)) (Uq:cx.P.underlying u=some .string) (yg:cx.P.info? e=some ie) (hz:zPV cx.P e=some z) (hzl:z.cells.length=ie.size) (nP:ie.size=1)
 (Y:match bD env y with
   | .pv y=>match y with
    | .str l=>aeJ Z e 1 ie.bytes (bD env x) (l.map aG) K
    |_=>False
   |_=>False):Out cx env a w o K:=by
 obtain⟨i,zv,W,hzv,_,H,_⟩:=rW hz;rw[yg]at W;cases W;have Z4:zv.cells.size=ie.size:=HY;have iG:c.args= #[x,y]:=au;have agM:c.argTypes= #[t,u]:=au;have hy:=J.ev y
 revert Y hy
 cases bD env y with
 |pv p=>
  cases p with
  |str l=>
   intro Y hy;simp only[RA,Rd]at hy;have hlen:(l.map aG).length=(⟨l.toArray⟩:ByteArray).size:=vL;refine adN J e ie zv x (l.map aG) (strCells ⟨l.toArray⟩) yg Z4 V ?_ ?_ ?_ (λv n xs hvx cj hm I=>?_) au
   ·intro y hy;rw[zaX]at hy;obtain⟨b,_,rfl⟩:=hy;rw[nP];rfl
   ·rw[i_];intro c F;rw[zaX]at F;obtain⟨b,_,rfl⟩:=F;rfl
   ·rw[i_,y6];rfl
   ·rw[hlen]at hm I ⊢;obtain⟨v',w',b9,ha⟩:=aeI (P:=cx.P) cx.own t u o.type e ie zv hu Uq yg hzv Z4 nP v n xs cj ⟨_⟩ hm I (cx.cj _ J.s.below.size);exact⟨v',w',by simp[execOp,ho,resolve,F,invoke,builtin,iG,agM,hy,hvx,b9],ha⟩
  |_=>simp
 |_=>simp
end
end
end Go.Dv
namespace Go.Dv
open Go.RowKit
section
section
variable {cx:Cx} {env:Env} {Z:ax} {vals:XS} {a:Act} {w w':World} {o:Oper}
def Gy(P:Program)(g off:Nat)(e:TypeId)(fr:Nat×Nat):∀(vs:XS) (i:Nat) (cur:Array Value) (w:World),w.heap[g]?=some (.cells cur e fr)->off+i+vs.length<=cur.size->(fr=(0,0)\/cur.size<=fr.1)->(∀v∈vs,v.oneCell'=true)->
 ∃w' KG,(storeCells ⟨g,off,none⟩ vs i).run P w=.ok () w'/\w'.heap[g]?=some (.cells KG e fr)/\KG.toList=cur.toList.take (off+i)++vs++cur.toList.drop (off+i+vs.length)/\
  (∀b,b≠g->w'.heap[b]?=w.heap[b]?)/\w'.heap.size=w.heap.size/\w'.os=w.os/\w'.tape=w.tape/\w'.output=w.output:=by
 intro vs
 induction vs with
 |nil=>intro i cur w hg _ _ _;exact⟨w,cur,by simp[storeCells],hg,ab,λ_ _=>rfl,rfl,rfl,rfl,rfl⟩
 |cons v vs ih=>
  intro i cur w hg hle tg U;simp only[zap]at hle;have F:w.cell? ⟨g,off+i,none⟩=some cur[off+i]:=by simp[World.cell?,hg,show off+i<cur.size from by omega]
  have hf:w.frozen? ⟨g,off+i,none⟩=false:=by
   simp only[World.frozen?,hg];rcases tg with rfl|h
   ·simp
   ·simp;omega
  have fu:(store ((⟨g,off,none⟩:Addr).add i) v).run P w=.ok () (w.setCell ⟨g,off+i,none⟩ v):=by
   rw[ic,run_store P w _ v _ (U v ab)];simp[F,hf]
  have T9:(w.setCell ⟨g,off+i,none⟩ v).heap[g]?=some (.cells (cur.setIfInBounds (off+i) v) e fr):=by
   obtain⟨aM,hv⟩:=zao.1 hg;simp only[World.setCell];rw[zaI (by simpa using aM),Array.getElem_modify_self,hv];rfl
  obtain⟨w',KG,g1,g2,g3,g4,g5,g6,g7,g8⟩:=ih (i+1) (cur.setIfInBounds (off+i) v) (w.setCell ⟨g,off+i,none⟩ v) T9 aH (by simpa using tg) (λu hu=>U u (by simp[hu]));refine⟨w',KG,?_,g2,?_,λb I=>(g4 b I).trans (Below.heap_setCell _ _ _ _ I),by rw[g5];simp[World.setCell],by rw[g6];rfl,by rw[g7];rfl,by rw[g8];rfl⟩
  ·simp only[storeCells,Sem.run_bind,fu,Result.andThen_ok,g1]
  ·rw[g3,zaQ,show off+(i+1)=off+i+1 from rfl,ac4 _ _ _ aH,set_drop _ _ _ _ V];simp[zaL,Nat.add_comm,zbc]
def cK.avE:cK->cK->Prop
 | .row e sz _ _,.row e' sz' _ _=>e=e'/\sz=sz'
 | .box _ _,.box _ _=>True
 |_,_=>False
def bW.write(J:bW cx Z vals w){id g:Nat}{s s':cK}{u:Value}(W:Z[id]?=some s)(hl:s.live=true)(T5:s'.live=true)(hs:cK.avE s s')(hu:vals[id]?=some u)(hg:bM u=some g)
 (xK:∀b,b≠g->w'.heap[b]?=w.heap[b]?) (xH:w'.heap.size=w.heap.size) (hos:w'.os=w.os) (aAJ:w'.tape=w.tape) (atH:w'.output=w.output)
 (I:de cx Z vals w (Z.set id s') vals w'->RB cx (Z.set id s') vals w' s' u):bW cx (Z.set id s') vals w'/\de cx Z vals w (Z.set id s') vals w':=by
 have aM:=(zaa.1 W).1;have tj:=λj=>kQ (x:=s') aM j
 have T8:∀b,Fo (Z.set id s') vals b->Fo Z vals b:=by
  rintro b ⟨i,t,v,U,H,h3,h4⟩;rw[tj]at U;split at U
  ·rename_i he;subst he;exact⟨id,s,v,W,hl,h3,h4⟩
  ·exact⟨i,t,v,U,H,h3,h4⟩
 have ca:∀b,Ok cx Z vals w b->b≠g:=λb h he=>h.2.2 (he▸⟨id,s,u,W,hl,hu,hg⟩)
 have E:de cx Z vals w (Z.set id s') vals w':=by
  refine⟨λ_ _ h=>h,ab,λb h=>⟨h.1,xH▸h.2.1,λhm=>h.2.2 (T8 b hm)⟩,λb h=>xK b (ca b h),λi _ e sz ap aw h=>?_,λi _ s2 h nj=>?_⟩
  ·rw[tj]at h;split at h
   ·rename_i he;subst he;cases h;cases s<;>simp[cK.avE]at hs;obtain⟨rfl,rfl⟩:=hs;exact⟨_,_,W⟩
   ·exact⟨ap,aw,h⟩
  ·rw[tj]at h;split at h
   ·rename_i he;subst he;cases h;refine⟨s,W,?_⟩;cases s'<;>first|(cases T5;done)|(cases nj;done)|skip
    cases s<;>simp[cK.avE]at hs;rfl
   ·exact⟨s2,h,nj⟩
 have aqd:=(J.lW id s u W hu).block hl hg;have tg:Fr cx (Z.set id s') vals w':=⟨by rw[xH];exact J.fr.size,λb I=>(xK b (λhe=>J.fr.sy b (he▸⟨id,s,u,W,hl,hu,hg⟩) I)).trans (J.fr.same b I),λb hm=>J.fr.sy b (T8 b hm)⟩
 refine⟨⟨⟨hos.trans J.below.os,aAJ.trans J.below.tape,atH.trans J.below.output,by rw[xH];exact J.below.size,λk E ho=>(xK k (λe=>ho (e▸aqd.1))).trans (J.below.block k E ho)⟩,J.one,by simp[J.len],λi t v U H=>?_,λi j t1 t2 u1 u2 b sC U H h3 h4 h5 h6 h7=>?_,tg,J.pin.keep E⟩,E⟩
 ·rw[tj]at U;split at U
  ·rename_i he;subst he;cases U;rw[hu]at H;cases H;exact I E
  ·rename_i he;exact E.rb (J.lW i t v U H) (λhlv b hbv=>xK b (λhbg=>J.Cb i id t s v u b (λh=>he h.symm) U W hlv hl H hu hbv (by rw[hg,hbg])))
 ·rw[tj]at U H;have real:∀i t,(if id=i then some s' else Z[i]?)=some t->t.live=true→∃t',Z[i]?=some t'/\t'.live=true:=by
   intro i t h hlv;split at h
   ·rename_i he;subst he;exact⟨s,W,hl⟩
   ·exact⟨t,h,hlv⟩
  obtain⟨t1',g1,g2⟩:=real i t1 U h3;obtain⟨t2',g3,g4⟩:=real j t2 H h4;exact J.Cb i j t1' t2' u1 u2 b sC g1 g3 g2 g4 h5 h6 h7
def eu.Ir(J:bW cx Z vals w):∀(l:XP) (vs:XS),eu (Ok cx Z vals w) Z vals w l vs->(∀c∈l,c.one=true)→∀v∈vs,v.oneCell'=true:=by
 intro l
 induction l with
 |nil=>intro vs h _ v hv;simp only[eu]at h;subst h;cases hv
 |cons c l ih=>
  intro vs h U v hv;simp only[eu]at h;obtain⟨u,r,rfl,h3,h4⟩:=h;rcases zax.1 hv with rfl|hv
  ·have F:=U c ab;cases c with
   |pv x=>simp only[RA]at h3;exact h3.EM F
   |own id=>simp only[RA]at h3;exact J.one _ (zag h3)
   |ref id idx off=>simp only[RA]at h3;obtain⟨_,⟨ad,rfl⟩,_⟩:=h3;rfl
   |clo f ep=>simp only[RA]at h3;obtain⟨cv,rfl,_⟩:=h3;rfl
   |sub id sz lo n=>simp only[RA]at h3;obtain⟨_,ad,c,rfl,_⟩:=h3;rfl
   |_=>cases F
  ·exact ih r h4 (λd hd=>U d rM) v hv
def cz.Ir{ok:Nat->Prop}{l:CK}{vs:XS}(h:cz ok w l vs)(U:∀c∈l,c.one=true):∀v∈vs,v.oneCell'=true:=by
 intro v hv;obtain⟨j,hj⟩:=zaG.1 hv;have xJ:j<l.length:=by rw[<-h.length];exact(zaa.1 hj).1
 have F:=zah xJ;exact(((oN _ _).1 h).2 j _ v F hj).EM (U _ (zag F))
def MX{P:Program}{t:TypeId}{i:TypeInfo}(W:P.info? t=some i)(v:Value)(nP:v.cells.size=i.size)(b off:Nat):
 (Instr.storeAt t (.pointer (some ⟨b,off,none⟩)) v).run P w=(storeCells ⟨b,off,none⟩ v.cells.toList).run P w:=by
 simp[Instr.storeAt,Instr.sureAddr,storeVar,sizeOf,typeInfo,W,nP]
def adp{y:PV}{cs:CK}{K:PV->Prop}(h:agA y cs K)(hy:∀l,y≠.tup l)(U:∀c∈cs,c.one=true):∃y',K y'/\y'.cells=cs:=by
 cases y with
 |agg l=>exact⟨_,h,rfl⟩
 |tup l=>exact(hy l rfl).elim
 |_=>
  cases cs with
  |nil=>exact h.elim
  |cons c cs=>
   cases cs with
   |nil=>exact⟨c,h,by have:=U c ab;cases c<;>first|rfl|cases this⟩
   |cons _ _=>exact h.elim
def aiY{K:AV->ax->Prop}(J:Rel cx env Z vals a w)(t:TypeId)(ti:TypeInfo)(x v:Operand)(ho:o.op=.store t x v)(hti:cx.P.info? t=some ti)
 (Y:XZ Z ti.size (bD env x) (bD env v) λZ=>K .bad Z):Out cx env a w o K:=by
 have T:=J.ev x;have hv:=J.ev v;cases th:bD env x with
 |ref id idx off=>
  rw[th]at Y T;simp only[RA]at T;obtain⟨aM,_,jH,rj⟩:=T;obtain⟨b,I,E⟩:=aK Z id _ Y;obtain⟨u,hu,lV⟩:=J.s.val I;cases b with
  |box e cs=>
   obtain⟨u',g,Z3,NC,hax⟩:=rj _ I rfl;have hg:bM u'=some g:=by rw[NC];rfl
   obtain rfl:=getElem?_of hu Z3;obtain⟨g',arr,U,H,h3,h4,h5⟩:=lV;rw[U]at hg;obtain rfl:g'=g:=by cases hg;rfl
   obtain⟨vs,⟨hlen,E⟩,EV,ff⟩:=Dn J.s hv E;obtain⟨pre,mid,post,rfl,g1,g2,E⟩:=ph vs cs off _ E;obtain⟨_,E⟩:=dW _ _ _ _ E;have PE:=EV.length;have xH:(a.eval v).cells.size=ti.size:=by rw[<-zac,PE,hlen]
   have T7:=h5.length;simp only[zad,zac]at T7;obtain⟨w',KG,f1,f2,f3,f4,f5,f6,f7,f8⟩:=Gy cx.P g' off e (0,0) (a.eval v).cells.toList 0 arr w h3 (by rw[PE];omega) (.inl rfl) (eu.Ir J.s _ _ EV ff);obtain⟨hs,nr⟩:=J.s.write (s':=.box e (pre++vs++post)) I rfl rfl trivial hu (by rw[U];rfl) f4 f5 f6 f7 f8 (λnr=>by
    refine⟨g',KG,U,H,f2,?_,?_⟩
    ·intro c F;simp only[zaA]at F;rcases F with(F|F)|F
     ·exact h4 c lE
     ·exact ff c F
     ·exact h4 c lE
    ·obtain⟨v1,v3,hv1,r1,r3⟩:=(ew _ _ _).1 h5;obtain⟨v1,v2,rfl,r1,r2⟩:=(ew _ _ _).1 r1;have e1:arr.toList.take (off+0)=v1:=by rw[hv1,zaW,zaj];exact zaJ (by rw[r1.length,g1])
     have e2:arr.toList.drop (off+0+(a.eval v).cells.toList.length)=v3:=by
      rw[hv1];exact zaO (by rw[zad,r1.length,r2.length,PE];omega)
     rw[f3,e1,e2];exact(ew _ _ _).2 ⟨_,_,rfl,(ew _ _ _).2 ⟨_,_,rfl,nr.raL _ _ r1,nr.raL _ _ EV⟩,nr.raL _ _ r3⟩)
   refine Out.skip ?_ (J.keep hs nr) E;simp[execOp,ho,hax,MX hti _ xH,f1]
  |row e sz ap aw=>
   obtain⟨x1,xG,_,_,VE⟩:=Wq J.s _ _ _ hv E;obtain⟨x2,σ1,rfl,hk3,hfz,nk,axw,lf,_⟩:=DC _ Z Z _ (λz=>z=x1) _ (Fz.refl Z) J.s hv (VE _ rfl) xG;have wL:=J.keep nk axw;obtain⟨b1,xI,hk4⟩:=aK σ1 id _ hk3;cases b1 with
   |row e1 sz1 ap1 wk=>
    obtain⟨y,hy,hxl,hk5⟩:=hk4;obtain⟨pre,mid,post,PF,g1,g2,hk6⟩:=ph _ _ off _ hk5;have hu1:vals[id]?=some u:=hu;have aEq:=nk.lW id _ _ xI hu1;obtain⟨nP,cells,cj,hl,ff,nO⟩:=aEq;have xK:e1=e/\sz1=sz/\ap1=ap/\wk=aw:=by
     rcases hfz id with h|⟨_,_,_,_,_,h⟩
     ·rw[h,I]at xI;cases xI;exact⟨rfl,rfl,rfl,rfl⟩
     ·rw[h]at xI;cases xI
    obtain⟨rfl,rfl,rfl,rfl⟩:=xK;obtain⟨u',g,Z3,hg,hax⟩:=jH _ _ _ _ I;obtain rfl:=getElem?_of hu Z3;have atI:=(zaa.1 hy).1;have au6:=zag hy;have axx:wk=wk.take idx++y::wk.drop (idx+1):=by
     have:=List.getElem_cons_drop atI;rw[(zaa.1 hy).2]at this;rw[this,zaF]
    have aAK:=VQ _ _ hxl x2 ab;obtain⟨hxc,aqe⟩:=TY lf aAK.2;have aqf:∀c∈y.cells,c.one=true:=λc F=>ff c (List.mem_flatMap.2 ⟨y,au6,F⟩)
    have hyt:∀l,y≠.tup l:=by
     rintro l rfl;have:=aqf (.tup l) (by simp[PV.cells]);cases this
    have axy:∀c∈pre++x2.cells++post,c.one=true:=by
     intro c F;simp only[zaA]at F;rcases F with(F|F)|F
     ·exact aqf c (by rw[PF];simp[F])
     ·exact aqe c F
     ·exact aqf c (by rw[PF];simp[F])
    obtain⟨y',hk7,hy'⟩:=adp hk6 hyt axy;obtain⟨_,hk8⟩:=dW _ _ _ _ hk7;have ql:wk.set idx y'=wk.take idx++y'::wk.drop (idx+1):=by
     rw[List.set_eq_take_append_cons_drop,if_pos atI]
    have hyl:y.cells.length=sz1:=hl y au6;have aEt:y'.cells.length=sz1:=by rw[hy',<-hyl,PF];simp[g2]
    have hT:((wk.take idx).flatMap PV.cells).length=idx*sz1:=by
     rw[iS sz1 _ (λz hz=>hl z (za5 hz)),zal,zat (Nat.le_of_lt atI)]
    have hf1:wk.flatMap PV.cells=((wk.take idx).flatMap PV.cells++pre)++mid++(post++(wk.drop (idx+1)).flatMap PV.cells):=by
     conv=>lhs;rw[axx]
     rw[zaz,zan,PF];simp[zaj]
    have hf2:(wk.set idx y').flatMap PV.cells=((wk.take idx).flatMap PV.cells++pre)++x2.cells++(post++(wk.drop (idx+1)).flatMap PV.cells):=by
     rw[ql,zaz,zan,hy'];simp[zaj]
    rw[hf1]at nO;obtain⟨c12,c3,tU,r12,r3⟩:=(di _ _ _).1 nO;obtain⟨c1,c2,rfl,r1,r2⟩:=(di _ _ _).1 r12;have ZW:c1.length=idx*sz1+off:=by rw[r1.length,zad,hT,g1]
    have HO:c2.length=x2.cells.length:=by rw[r2.length,g2]
    have PE:=hxc.length;have xH:(a.eval v).cells.size=ti.size:=by rw[<-zac,PE,aAK.1]
    rcases cj with⟨iX,⟨_,h0⟩|⟨gg,cap,cur,fr,U,H,h3,h4,h5,h6,h7,h8⟩⟩
    ·rw[h0]at atI;omega
    ·rw[U]at hg;obtain rfl:gg=g:=by cases hg;rfl
     have aEv:wk.length*sz1<=cur.size:=by rw[h6];exact zaH _ h4
     have MG:idx*sz1+off+(a.eval v).cells.toList.length<=wk.length*sz1:=by
      have:(c1++c2++c3).length=wk.length*sz1:=by rw[<-tU,iX]
      rw[zad,zad,ZW,HO]at this;omega
     obtain⟨w',KG,f1,f2,f3,f4,f5,f6,f7,f8⟩:=Gy cx.P gg (idx*sz1+off) e1 fr (a.eval v).cells.toList 0 cur w h3 V (h8.imp (λh=>h) λh=>h.2) (cz.Ir hxc aqe);have T_:cur.toList=(c1++c2++c3)++cur.toList.drop (wk.length*sz1):=by
      rw[<-tU,<-h7,zaF]
     have adZ:KG.toList=(c1++(a.eval v).cells.toList++c3)++cur.toList.drop (wk.length*sz1):=by
      rw[f3,zaW];have e1:cur.toList.take (idx*sz1+off)=c1:=by
       rw[T_,zaj,zaj];exact zaJ ZW
      have e2:cur.toList.drop (idx*sz1+off+(a.eval v).cells.toList.length)=c3++cur.toList.drop (wk.length*sz1):=by
       conv=>lhs;rw[T_]
       rw[zaj];exact zaO (by rw[zad,ZW,HO,PE])
      rw[e1,e2];simp[zaj]
     have hnl:(wk.set idx y').length=wk.length:=za0;obtain⟨hs,nr⟩:=nk.write (s':=.row e1 sz1 ap1 (wk.set idx y')) xI rfl rfl ⟨rfl,rfl⟩ hu1 (by rw[U];rfl) f4 f5 f6 f7 f8 (λnr=>by
      have aqh:KG.size=cur.size:=by
       have e1:=congrArg List.length adZ;have e2:=congrArg List.length T_;simp only[zad,zac,PE,HO]at e1 e2;omega
      refine⟨nP,c1++(a.eval v).cells.toList++c3,⟨?_,.inr ⟨gg,cap,KG,fr,by rw[hnl];exact U,H,f2,by rw[hnl];exact h4,h5,by rw[aqh,h6],?_,by rw[aqh];exact h8⟩⟩,?_,?_,?_⟩
      ·rw[hnl,<-iX,tU];simp only[zad,PE,HO]
      ·rw[hnl,adZ];refine zaJ ?_;rw[<-iX,tU];simp only[zad,PE,HO]
      ·intro z hz;rcases List.mem_or_eq_of_mem_set hz with hz|rfl
       ·exact hl z hz
       ·exact aEt
      ·intro c F;rw[hf2]at F;rw[hf1]at ff;simp only[zaA]at F ff;rcases F with((F|F)|F)|F
       ·exact ff c (.inl (.inl (.inl F)))
       ·exact ff c (.inl (.inl (.inr F)))
       ·exact aqe c F
       ·exact ff c (.inr F)
      ·rw[hf2];exact(di _ _ _).2 ⟨_,_,rfl,(di _ _ _).2 ⟨_,_,rfl,nr.rdL r1,nr.rdL hxc⟩,nr.rdL r3⟩)
     refine Out.skip ?_ (wL.keep hs nr) hk8;simp[execOp,ho,hax,MX hti _ xH,f1]
   |_=>exact hk4.elim
  |_=>exact E.elim
 |_=>rw[th]at Y;exact Y.elim
end
end
end Go.Dv
namespace Go.Dv
open Go.RowKit
section
section
variable {cx:Cx} {env:Env} {Z:ax} {vals:XS} {a:Act} {w w':World}
def VW(n:Nat)(l:QK)(h:Xy n l=false):n∉l:=by
 induction l with
 |nil=>simp
 |cons a l ih=>
  have h':Bool.rec (Xy n l) true (Nat.beq a n)=false:=h;cases I:Nat.beq a n with
  |true=>rw[I]at h';cases h'
  |false=>
   rw[I]at h';intro hm;rcases zax.1 hm with rfl|hm
   ·simp at I
   ·exact ih h' hm
def K5{n:Nat}{l:QK}{K:QK->Prop}(hl:l.Nodup)(h:abK n l K):∃l',K l'/\l'.Nodup/\l<+:l':=by
 unfold abK at h;cases I:Xy n l with
 |true=>rw[I]at h;exact vq
 |false=>
  rw[I]at h;refine⟨_,cS _ _ _ h,?_,List.prefix_append _ _⟩;rw[List.nodup_append];exact⟨hl,ab,λa ha b nN=>by
   simp at nN;subst nN;exact λe=>VW _ _ I (e▸ha)⟩
def T1:∀(a:AV) (l:QK) (K:QK->Prop),l.Nodup->aho a l K→∃l',K l'/\l'.Nodup/\l<+:l':=by
 intro a;refine AV.rec (motive_1:=λa=>∀(l:QK) (K:QK->Prop),l.Nodup->aho a l K→∃l',K l'/\l'.Nodup/\l<+:l')
  (motive_2:=λaM1=>∀(l:QK) (K:QK->Prop),l.Nodup->(AV.rec_1 (motive_1:=λ_=>QK->(QK->Prop)->Prop) (motive_2:=λ_=>QK->(QK->Prop)->Prop)
    (λl K=>K l) (λ_ l K=>K l) (λid l K=>abK id l K) (λid _ _ l K=>abK id l K) (λid _ _ _ l K=>abK id l K)
    (λ_ ih l K=>ih l K) (λ_ ih l K=>ih l K) (λ_ _ ih l K=>ih l K) (λl K=>K l) (λ_ _ h t l K=>h l λl=>t l K) aM1:QK->(QK->Prop)->Prop) l K→∃l',K l'/\l'.Nodup/\l<+:l')
  ?_ ?_ ?_ ?_ ?_ ?_ ?_ ?_ ?_ ?_ a
 ·intro l K hl h;exact vq
 ·intro x l K hl h;exact vq
 ·intro id l K hl h;exact K5 hl h
 ·intro id _ _ l K hl h;exact K5 hl h
 ·intro id _ _ _ l K hl h;exact K5 hl h
 ·intro cs ih l K hl h;exact ih l K hl h
 ·intro cs ih l K hl h;exact ih l K hl h
 ·intro f cs ih l K hl h;exact ih l K hl h
 ·intro l K hl h;exact vq
 ·intro x xs U H l K hl h;obtain⟨l',h3,h4,h5⟩:=U l _ hl h;obtain⟨l2,h6,h7,h8⟩:=H l' K h4 h3;exact⟨l2,h6,h7,h5.trans h8⟩
def Du(aM1:XP):∀(l:QK) (K:QK->Prop),l.Nodup->P7 aM1 l K→∃l',K l'/\l'.Nodup/\l<+:l':=by
 induction aM1 with
 |nil=>intro l K hl h;exact vq
 |cons a aM1 ih=>
  intro l K hl h;obtain⟨l',U,H,h3⟩:=T1 a l _ hl h;obtain⟨l2,h4,h5,h6⟩:=ih l' K H U;exact⟨l2,h4,h5,h3.trans h6⟩
def M4(e:Env):∀(l:QK) (K:QK->Prop),l.Nodup->apM e l K→∃l',K l'/\l'.Nodup/\l<+:l':=by
 induction e with
 |nil=>intro l K hl h;exact vq
 |cons a aM1 ih=>
  intro l K hl h;obtain⟨l',U,H,h3⟩:=T1 a.2 l _ hl h;obtain⟨l2,h4,h5,h6⟩:=ih l' K H U;exact⟨l2,h4,h5,h3.trans h6⟩
def xf(Z:ax)(r:QK):∀(l:QK) (K:QK->Prop),l.Nodup->TJ Z r l K→∃l',K l'/\l'.Nodup/\l<+:l':=by
 induction r with
 |nil=>intro l K hl h;exact vq
 |cons i r ih=>
  intro l K hl h;obtain⟨b,U,H⟩:=aK _ _ _ h;cases b with
  |box e cs=>
   obtain⟨l',h3,h4,h5⟩:=Du cs l _ hl H;obtain⟨l2,h6,h7,h8⟩:=ih l' K h4 h3;exact⟨l2,h6,h7,h5.trans h8⟩
  |_=>exact ih l K hl H
def Cs(n:Nat)(r:QK):∀(K:Nat->Prop),DW n r K False→∃j,r[j]?=some n/\K j:=by
 induction r with
 |nil=>intro K h;exact h.elim
 |cons a r ih=>
  intro K h;have h':Bool.rec (DW n r (λj=>K (Nat.succ j)) False) (K 0) (Nat.beq a n):=h;cases I:Nat.beq a n with
  |true=>
   rw[I]at h';exact⟨0,by simp[zab I],h'⟩
  |false=>
   rw[I]at h';obtain⟨j,U,H⟩:=ih _ h';exact⟨j+1,yT,H⟩
mutual
def Ren(r:QK):AV->AV->Prop
 | .bad,y=>y=.bad
 | .pv x,y=>y=.pv x
 | .own i,y=>∃j,r[j]?=some i/\y=.own j
 | .ref i k o,y=>∃j,r[j]?=some i/\y=.ref j k o
 | .sub i s l n,y=>∃j,r[j]?=some i/\y=.sub j s l n
 | .agg cs,y=>∃ds,y=.agg ds/\gI r cs ds
 | .tup cs,y=>∃ds,y=.tup ds/\gI r cs ds
 | .clo f cs,y=>∃ds,y=.clo f ds/\gI r cs ds
def gI(r:QK):XP->XP->Prop
 |[],ys=>ys=[]
 |x::xs,ys=>∃y t,ys=y::t/\Ren r x y/\gI r xs t
end
def SD(r:QK):∀(a:AV) (K:AV->Prop),ah3 r a K→∃b,K b/\Ren r a b:=by
 intro a;refine AV.rec (motive_1:=λa=>∀K:AV->Prop,ah3 r a K→∃b,K b/\Ren r a b)
  (motive_2:=λaM1=>∀K:XP->Prop,(AV.rec_1 (motive_1:=λ_=>(AV->Prop)->Prop) (motive_2:=λ_=>(XP->Prop)->Prop)
    (λK=>K .bad) (λx K=>K (.pv x)) (λid K=>DW id r (λj=>K (.own j)) False) (λid i o K=>DW id r (λj=>K (.ref j i o)) False) (λid s l n K=>DW id r (λj=>K (.sub j s l n)) False)
    (λ_ ih K=>ih λl=>K (.agg l)) (λ_ ih K=>ih λl=>K (.tup l)) (λf _ ih K=>ih λl=>K (.clo f l)) (λK=>K []) (λ_ _ h t K=>h λa=>t λl=>K (a::l)) aM1:(XP->Prop)->Prop) K→∃bs,K bs/\gI r aM1 bs)
  ?_ ?_ ?_ ?_ ?_ ?_ ?_ ?_ ?_ ?_ a
 ·intro K h;exact⟨_,h,by simp only[Ren]⟩
 ·intro x K h;exact⟨_,h,by simp only[Ren]⟩
 ·intro id K h;obtain⟨j,U,H⟩:=Cs _ _ _ h;exact⟨_,H,SC⟩
 ·intro id i o K h;obtain⟨j,U,H⟩:=Cs _ _ _ h;exact⟨_,H,SC⟩
 ·intro id s l n K h;obtain⟨j,U,H⟩:=Cs _ _ _ h;exact⟨_,H,SC⟩
 ·intro cs ih K h;obtain⟨bs,U,H⟩:=ih _ h;exact⟨_,U,SL⟩
 ·intro cs ih K h;obtain⟨bs,U,H⟩:=ih _ h;exact⟨_,U,SL⟩
 ·intro f cs ih K h;obtain⟨bs,U,H⟩:=ih _ h;exact⟨_,U,SL⟩
 ·intro K h;exact⟨[],h,by simp only[gI]⟩
 ·intro x xs U H K h;obtain⟨b,h3,h4⟩:=U _ h;obtain⟨bs,h5,h6⟩:=H _ h3;exact⟨_,h5,by simp only[gI];exact⟨b,bs,rfl,h4,h6⟩⟩
def Co(r:QK)(aM1:XP):∀(K:XP->Prop),S5 r aM1 K→∃bs,K bs/\gI r aM1 bs:=by
 induction aM1 with
 |nil=>intro K h;exact⟨[],h,by simp only[gI]⟩
 |cons x xs ih=>
  intro K h;obtain⟨b,h3,h4⟩:=SD r x _ h;obtain⟨bs,h5,h6⟩:=ih _ h3;exact⟨_,h5,by simp only[gI];exact⟨b,bs,rfl,h4,h6⟩⟩
def Ni(r:QK)(e:Env):∀(K:Env->Prop),anS r e K→∃e',K e'∧∀p,Ren r (aA p e) (aA p e'):=by
 induction e with
 |nil=>intro K h;exact⟨[],h,λp=>by simp only[aA,Ren]⟩
 |cons x xs ih=>
  intro K h;obtain⟨b,h3,h4⟩:=SD r x.2 _ h;obtain⟨bs,h5,h6⟩:=ih _ h3;refine⟨_,h5,λp=>?_⟩;obtain⟨q,v⟩:=x;simp only[aA];cases Nat.beq q p with
  |true=>exact h4
  |false=>exact h6 p
def yG(r:QK):cK->cK->Prop
 | .box e cs,t=>∃ds,t=.box e ds/\gI r cs ds
 |s,t=>t=s
def ab9(r:QK)(b:cK)(K:cK->Prop)(h:amb r b K):∃t,K t/\yG r b t:=by
 cases b with
 |box e cs=>
  obtain⟨ds,U,H⟩:=Co r cs _ h;exact⟨_,U,ds,rfl,H⟩
 |_=>exact⟨_,h,rfl⟩
def xF(Z:ax)(r l:QK):∀(K:ax->Prop),TD Z r l K→∃σ',K σ'/\σ'.length=l.length∧∀(j i:Nat),l[j]?=some i→∃s t,Z[i]?=some s/\σ'[j]?=some t/\yG r s t:=by
 induction l with
 |nil=>intro K h;exact⟨[],h,rfl,λj i hj=>by simp at hj⟩
 |cons i l ih=>
  intro K h;obtain⟨s,U,H⟩:=aK _ _ _ h;obtain⟨t,h3,h4⟩:=ab9 r s _ H;obtain⟨σ',h5,h6,h7⟩:=ih _ h3;refine⟨_,h5,by simp[h6],λj i' hj=>?_⟩;cases j with
  |zero=>simp at hj;subst hj;exact⟨s,t,U,rfl,h4⟩
  |succ j=>exact h7 j i' yZ
def yG.Gz{r:QK}{s t:cK}(h:yG r s t):t.Gz=s.Gz:=by
 cases s with
 |box e cs=>obtain⟨ds,rfl,_⟩:=h;rfl
 |_=>cases h;rfl
def yG.live{r:QK}{s t:cK}(h:yG r s t):t.live=s.live:=by
 cases s with
 |box e cs=>obtain⟨ds,rfl,_⟩:=h;rfl
 |_=>cases h;rfl
mutual
def Ren.one{r:QK}:∀{x y:AV},Ren r x y->x.one=true->y.one=true
 | .pv x,y,h,T=>by simp only[Ren]at h;rw[h];exact T
 | .own i,y,h,_=>by simp only[Ren]at h;obtain⟨j,_,rfl⟩:=h;rfl
 | .bad,_,_,T=>by cases T
 | .ref _ _ _,y,h,_=>by simp only[Ren]at h;obtain⟨j,_,rfl⟩:=h;rfl
 | .sub _ _ _ _,y,h,_=>by simp only[Ren]at h;obtain⟨j,_,rfl⟩:=h;rfl
 | .clo _ _,y,h,_=>by simp only[Ren]at h;obtain⟨j,rfl,_⟩:=h;rfl
 | .agg _,_,_,T=>by cases T
 | .tup _,_,_,T=>by cases T
end
def Ren.aDr{r:QK}:∀{x y:AV},Ren r x y->y.one=true->x.one=true:=by
 intro x y h hy;cases x with
 |pv x=>simp only[Ren]at h;subst h;exact hy
 |own i=>rfl
 |ref _ _ _=>rfl
 |sub _ _ _ _=>rfl
 |clo _ _=>rfl
 |bad=>simp only[Ren]at h;subst h;exact hy
 |agg cs=>simp only[Ren]at h;obtain⟨ds,rfl,_⟩:=h;cases hy
 |tup cs=>simp only[Ren]at h;obtain⟨ds,rfl,_⟩:=h;cases hy
def gI.ank{r:QK}:∀{xs ys:XP},gI r xs ys->(∀c∈ys,c.one=true)→∀c∈xs,c.one=true
 |[],ys,h,_=>by simp
 |x::xs,ys,h,T=>by
  simp only[gI]at h;obtain⟨y,t,rfl,U,H⟩:=h;intro c F;rcases zax.1 F with rfl|F
  ·exact U.aDr (T y ab)
  ·exact H.ank (λc F=>T c lE) c F
def gI.atf{r:QK}:∀{xs ys:XP},gI r xs ys->(∀c∈xs,c.one=true)→∀c∈ys,c.one=true
 |[],ys,h,_=>by simp only[gI]at h;subst h;simp
 |x::xs,ys,h,T=>by
  simp only[gI]at h;obtain⟨y,t,rfl,U,H⟩:=h;intro c F;rcases zax.1 F with rfl|F
  ·exact U.one (T x ab)
  ·exact H.atf (λc F=>T c lE) c F
structure akO(r:QK)(Z σ':ax)(vals ay:XS):Prop where
 nodup:r.Nodup
 len:σ'.length=r.length
 lW:∀(j i:Nat),r[j]?=some i→∃s t,Z[i]?=some s/\σ'[j]?=some t/\yG r s t
 asK:ay.length=r.length
 vals:∀(j i:Nat),r[j]?=some i->ay[j]?=vals[i]?∧∃v,vals[i]?=some v
mutual
def Ren.ra{r:QK}{σ':ax}{ay:XS}(hA:akO r Z σ' vals ay){ok qN:Nat->Prop}(b_:∀b,ok b->qN b):∀(x y:AV) (v:Value),Ren r x y->RA ok Z vals w x v->RA qN σ' ay w y v
 | .bad,y,v,h,_=>by simp only[Ren]at h;subst h;simp only[RA]
 | .pv x,y,v,h,hv=>by
  simp only[Ren]at h;subst h;simp only[RA]at hv ⊢;exact Rd.mono b_ (λ_ _ _=>rfl) x v hv
 | .own i,y,v,h,hv=>by
  simp only[Ren]at h;obtain⟨j,hj,rfl⟩:=h;simp only[RA]at hv ⊢;rw[(hA.vals j i hj).1];exact hv
 | .ref i k o,y,v,h,hv=>by
  simp only[Ren]at h;obtain⟨j,hj,rfl⟩:=h;simp only[RA]at hv ⊢;obtain⟨_,hp,U,H⟩:=hv;obtain⟨s,t,hs,ht,fu⟩:=hA.lW j i hj;refine⟨(zaa.1 ht).1,hp,λe sz ap aw he=>?_,λs2 he nj=>?_⟩
  ·rw[ht]at he;cases he;have:s=.row e sz ap aw:=by
    cases s with
    |box e cs=>obtain⟨ds,h,_⟩:=fu;cases h
    |_=>exact fu.symm
   subst this;rw[(hA.vals j i hj).1];exact U _ _ _ _ hs
  ·rw[ht]at he;cases he;rw[(hA.vals j i hj).1];exact H _ hs (by rw[<-fu.Gz];exact nj)
 | .sub i s l n,y,v,h,hv=>by
  simp only[Ren]at h;obtain⟨j,hj,rfl⟩:=h;simp only[RA]at hv ⊢;obtain⟨s,t,hs,ht,fu⟩:=hA.lW j i hj;refine⟨(zaa.1 ht).1,?_⟩;rw[(hA.vals j i hj).1];exact hv.2
 | .agg cs,y,v,h,hv=>by
  simp only[Ren]at h;obtain⟨ds,rfl,h⟩:=h;simp only[RA]at hv ⊢;obtain⟨U,vs,rfl,H⟩:=hv;exact⟨h.atf U,vs,rfl,gI.ra hA b_ cs ds _ h H⟩
 | .tup cs,y,v,h,hv=>by
  simp only[Ren]at h;obtain⟨ds,rfl,h⟩:=h;simp only[RA]at hv ⊢;obtain⟨vs,rfl,H⟩:=hv;exact⟨vs,rfl,gI.ra hA b_ cs ds _ h H⟩
 | .clo f cs,y,v,h,hv=>by
  simp only[Ren]at h;obtain⟨ds,rfl,h⟩:=h;simp only[RA]at hv ⊢;obtain⟨vs,rfl,H⟩:=hv;exact⟨vs,rfl,gI.ra hA b_ cs ds _ h H⟩
def gI.ra{r:QK}{σ':ax}{ay:XS}(hA:akO r Z σ' vals ay){ok qN:Nat->Prop}(b_:∀b,ok b->qN b):∀(xs ys:XP) (vs:XS),gI r xs ys->eu ok Z vals w xs vs->eu qN σ' ay w ys vs
 |[],ys,vs,h,hv=>by simp only[gI]at h;subst h;simpa only[eu]using hv
 |x::xs,ys,vs,h,hv=>by
  simp only[gI]at h;obtain⟨y,t,rfl,U,H⟩:=h;simp only[eu]at hv ⊢;obtain⟨v,u,rfl,h3,h4⟩:=hv;exact⟨v,u,rfl,Ren.ra hA b_ x y v U h3,gI.ra hA b_ xs t u H h4⟩
end
end
end
end Go.Dv
namespace Go.Dv
open Go.RowKit
section
mutual
def RR(ok:Nat->Prop)(B:Nat->Prop)(w:World):RV->Value->XS->Prop
 | .pv x,v,us=>Rd ok w x v/\us=[]
 | .fresh e sz aw,v,us=>us=[v]/\0<sz∧∃cells,DD w B e sz true v aw.length cells/\(∀x∈aw,x.cells.length=sz)/\(∀c∈aw.flatMap PV.cells,c.one=true)/\cz ok w (aw.flatMap PV.cells) cells
 | .row e sz aw,v,us=>us=[v]/\0<sz∧∃cells,DD w B e sz false v aw.length cells/\(∀x∈aw,x.cells.length=sz)/\(∀c∈aw.flatMap PV.cells,c.one=true)/\cz ok w (aw.flatMap PV.cells) cells
 | .mp l,v,us=>us=[v]∧∃b es n,v=.map (some b)/\ok b/\w.heap[b]?=some (.map es n)/\RM es l
 | .agg rs,v,us=>∃vs,v=.agg vs/\(∀r∈rs,match r with| .pv x=>x.one=true| .fresh _ _ _=>True| .row _ _ _=>True|_=>False)/\RRL ok B w rs vs.toList us
 | .tup rs,v,us=>∃vs,v=.tuple vs/\RRL ok B w rs vs.toList us
def RRL(ok:Nat->Prop)(B:Nat->Prop)(w:World):Ux->XS->XS->Prop
 |[],vs,us=>vs=[]/\us=[]
 |r::rs,vs,us=>∃v t Nd us2,vs=v::t/\us=Nd++us2/\RR ok B w r v Nd/\RRL ok B w rs t us2
end
def OkR(ok:Nat->Prop)(lone:Bool)(w w':World)(us:XS)(b:Nat):Prop:=
 ((lone=false/\ok b)\/w.heap.size<=b)/\b<w'.heap.size∧∀u∈us,bM u≠some b
def asB:PV->Value
 | .bool b=>.bool b
 | .int k n=>.int k n
 | .str l=>.string ⟨l.toArray⟩
 |_=>undef
def awF:PV->Value
 | .agg cs=>.agg (cs.map asB).toArray
 |x=>asB x
def aAk(dV:Nat->Prop)(hi W':World):Prop:=hi.heap.size<=W'.heap.size∧∀b,dV b->W'.heap[b]?=hi.heap[b]?
def aru{α:Type}(dV:Nat->Prop)(n:Nat)(P:Program)(g:Nat)(lb:Array Value)(Ua:α->Array Value)(Nx:List α->α->Prop)(S Sp:List α->Prop)(w:World):Prop:=
 ∀(l:Nat) (hr Jx:List α->World->Prop) (hi:World),Below w.heap.size w hi->AbidesFrom hi.heap.size hr->AbidesFrom hi.heap.size Jx->
  (∀pre x W1,hr pre W1->Nx pre x->YieldAt Fence.wide (n-1) P l (Ua x) W1 λe W'=>
    (e=.returned (.bool true)/\hr (pre++[x]) W'/\aAk dV W1 W')\/(e=.returned (.bool false)/\Jx (pre++[x]) W'))->
  hr [] hi->
  CallsIn Fence.wide n P g (#[.func (.yield l) #[] #[]]++lb) hi λe W'=>(∃v,e=.returned v)/\((∃xs,S xs/\hr xs W')\/(∃pre,Sp pre/\Jx pre W'))
def Yo(P:Program)(g:FuncId)(iter:CK->List (CK)->Prop):Prop:=
 ∀(m:Nat) (w:World) (dV:Nat->Prop) (ep:CK) (vs:Array Value) (L:List (CK)),(∀b,dV b->b<w.heap.size)->cz dV w ep vs.toList->iter ep L->
  (∃(α:Type) (y:α->CK) (en:α->Array Value),(∀x,y x∈L/\cz dV w (y x) (en x).toList)/\aru dV m P g vs en (λpre x=>L[pre.length]?=some (y x)) (λxs=>xs.map y=L) (λpre=>pre.map y<+:L) w)/\
   ∀(args:Array Value) (w:World),(callFunc g args).run P w=.ok (.enter g args) w
structure KpX(n0:Nat)(X X':Nat->Prop)(hi W':World):Prop where
 size:hi.heap.size<=W'.heap.size
 same:∀b,b<hi.heap.size→¬X b->(b<n0∨∃o:Obj,hi.heap[b]?=some o/\o.isCells=true)->W'.heap[b]?=hi.heap[b]?
 amE:∀b,X' b->X b\/hi.heap.size<=b
def KpX.trans{n0:Nat}{X hK σ:Nat->Prop}{A B C:World}(h:KpX n0 X hK A B)(k:KpX n0 hK σ B C):KpX n0 X σ A C:=by
 refine⟨zam h.size k.size,λb I T F=>?_,λb I=>?_⟩
 ·have e:=h.same b I T F;rw[<-e];refine k.same b (zae I h.size) (λhy=>(h.amE b hy).elim T λg=>V) ?_;rw[e];exact F
 ·rcases k.amE b I with g|g
  ·exact h.amE b g
  ·exact .inr (zam h.size g)
def KpX.put{n0:Nat}{X:Nat->Prop}{hi:World}{l:Nat}{o:Obj}(o':Obj)(hl:n0<=l)(h:hi.heap[l]?=some o)(ho:o.isCells=false):KpX n0 X X hi (hi.putObj l o'):=
 ⟨by simp[World.putObj],λb _ _ F=>World.putObj_heap_other (λe=>by
  subst e;rcases F with F|⟨o2,H,h3⟩
  ·omega
  ·rw[h]at H;cases H;rw[ho]at h3;cases h3),λ_ h=>.inl h⟩
def axg{α:Type}(dV:Nat->Prop)(n:Nat)(P:Program)(g:Nat)(lb:Array Value)(Ua:α->Array Value)(Nx:List α->α->Prop)(S Sp:List α->Prop)(w:World):Prop:=
 ∀(l:Nat) (hr:List α->(Nat->Prop)->World->Prop) (Jx:List α->World->Prop) (hi:World),Below w.heap.size w hi->(∀X,AbidesFrom hi.heap.size λpre=>hr pre X)->AbidesFrom hi.heap.size Jx->
  (∀pre X W1,hr pre X W1→∀b,X b->b<W1.heap.size)->
  (∀pre x X W1,hr pre X W1->Nx pre x->YieldAt Fence.wide (n-1) P l (Ua x) W1 λe W'=>
    (e=.returned (.bool true)∧∃X',hr (pre++[x]) X' W'/\KpX w.heap.size X X' W1 W')\/(e=.returned (.bool false)/\Jx (pre++[x]) W'))->
  ∀X0,(∀b,dV b→¬X0 b)->hr [] X0 hi->
  CallsIn Fence.wide n P g (#[.func (.yield l) #[] #[]]++lb) hi λe W'=>(∃v,e=.returned v)/\((∃xs X,S xs/\hr xs X W')\/(∃pre,Sp pre/\Jx pre W'))
def apO(P:Program)(g:FuncId)(iter:CK->List (CK)->Prop):Prop:=
 ∀(m:Nat) (w:World) (dV:Nat->Prop) (ep:CK) (vs:Array Value) (L:List (CK)),(∀b,dV b->b<w.heap.size)->cz dV w ep vs.toList->iter ep L->
  (∃(α:Type) (y:α->CK) (en:α->Array Value),(∀x,y x∈L/\cz dV w (y x) (en x).toList)/\axg dV m P g vs en (λpre x=>L[pre.length]?=some (y x)) (λxs=>xs.map y=L) (λpre=>pre.map y<+:L) w)/\
   ∀(args:Array Value) (w:World),(callFunc g args).run P w=.ok (.enter g args) w
def aru.aDx{α:Type}{dV:Nat->Prop}{n:Nat}{P:Program}{g:Nat}{lb:Array Value}{Ua:α->Array Value}{Nx:List α->α->Prop}{S Sp:List α->Prop}{w:World}(b_:∀b,dV b->b<w.heap.size)
 (h:aru dV n P g lb Ua Nx S Sp w):axg dV n P g lb Ua Nx S Sp w:=by
 intro l hr Jx hi I hJ hJx hX hY X0 h0 hj;refine(h l (λpre hi=>(∃X,hr pre X hi∧∀b,dV b→¬X b)/\w.heap.size<=hi.heap.size) Jx hi I (λs A B row ⟨⟨X,U,H⟩,h3⟩ hg J=>⟨⟨X,hJ X s A B row U hg J,H⟩,zam h3 hg.size⟩) hJx ?_ ⟨⟨X0,hj,h0⟩,I.size⟩).mono ?_
 ·rintro pre x W1 ⟨⟨X,U,H⟩,h3⟩ hlen;obtain⟨fn,tmps,asg,body,hy,hR⟩:=hY pre x X W1 U hlen;refine⟨fn,tmps,asg,body,hy,hR.mono ?_⟩;rintro e W' (⟨rfl,X',g1,g2⟩|⟨rfl,g1⟩)
  ·refine .inl ⟨rfl,⟨⟨X',g1,λb nN T=>?_⟩,zam h3 g2.size⟩,g2.size,λb nN=>g2.same b (zae (b_ b nN) h3) (H b nN) (.inl (b_ b nN))⟩;rcases g2.amE b T with g|g
   ·exact H b nN g
   ·have:=b_ b nN;omega
  ·exact .inr ⟨rfl,g1⟩
 ·rintro e W' ⟨U,⟨xs,H,⟨X,h3,_⟩,_⟩|H⟩
  ·exact⟨U,.inl ⟨xs,X,H,h3⟩⟩
  ·exact⟨U,.inr H⟩
def Yo.x{P:Program}{g:FuncId}{iter:CK->List (CK)->Prop}(h:Yo P g iter):apO P g iter:=λm w dV ep vs L b_ J W=>by
 obtain⟨⟨α,y,en,U,H⟩,h3⟩:=h m w dV ep vs L b_ J W;exact⟨⟨α,y,en,U,aru.aDx b_ H⟩,h3⟩
def mcx(P:Program)(w:World)(ok:Nat->Prop)(b_:∀b,ok b->b<w.heap.size)(σ0:ax)(cb:XS):Cx:=
 { P:=P,w0:=w,Zi:=ok,hA:=b_,own:=λb=>w.heap.size<=b\/Fo σ0 cb b,cj:=λ_ h=>.inl h,wK:=σ0,NF:=cb }
def Enters(P:Program)(f:FuncId):Prop:=∀(args:Array Value) (w:World),(callFunc f args).run P w=.ok (.enter f args) w
def bQ(P:Program)(f:FuncId)(S:Spec):Prop:=
 (S.fn=true→∀ps K,S.run ps K→∃x,K (.pv x)∧∀K':RV->Prop,K' (.pv x)->S.run ps K')/\(S.fn=true->S.lone=true/\S.mu=false)/\
 (∀(w:World) (ok:Nat->Prop) (ps:CK) (vs:Array Value) (K:RV->Prop),S.mu=false->(∀b,ok b->b<w.heap.size)->cz ok w ps vs.toList->S.run ps K->
   Enters P f/\Calls P f vs w λe w'=>∃v r us,e=.returned v/\K r/\Below w.heap.size w w'/\RR (OkR ok S.lone w w' us) (λb=>w.heap.size<=b) w' r v us/\
    (∀u∈us,∀b,bM u=some b->w.heap.size<=b)∧∀(i j:Nat) (u t:Value) (b:Nat),i≠j->us[i]?=some u->us[j]?=some t->bM u=some b->bM t≠some b)/\apO P f S.iter/\
 (∀(w:World) (ok:Nat->Prop) (b_:∀b,ok b->b<w.heap.size) (σ0:ax) (cb:XS) (aM1:XP) (vs:Array Value) (K:AV->ax->Prop),S.mu=true->bW (mcx P w ok b_ σ0 cb) σ0 cb w->
   eu (Ok (mcx P w ok b_ σ0 cb) σ0 cb w) σ0 cb w aM1 vs.toList->S.j0 aM1 σ0 K->
   Enters P f/\Calls P f vs w λe w'=>∃v res σ1 fY,e=.returned v/\K res σ1/\bW (mcx P w ok b_ σ0 cb) σ1 fY w'/\RA (Ok (mcx P w ok b_ σ0 cb) σ1 fY w') σ1 fY w' res v)
def Sound(P:Program)(Γ:Ctx):Prop:=∀f,bQ P f (Γ f)
section
variable {cx:Cx} {env:Env} {Z:ax} {vals:XS} {a:Act} {w w':World} {o:Oper}
def oS{α:Type}(l m:List α)(j:Nat):(l++m)[j]?=if j<l.length then l[j]? else m[j-l.length]?:=by
 by_cases h:j<l.length
 ·rw[if_pos h,zar h]
 ·rw[if_neg h,zak V]
def bW.afX(J:bW cx Z vals w)(Xi:Below w.heap.size w w')(ss:List cK)(us:XS)(hlen:us.length=ss.length)(ff:∀u∈us,u.oneCell'=true)(mM:∀u∈us,∀b,bM u=some b->w.heap.size<=b)
 (Ec:∀(i j:Nat) (u t:Value) (b:Nat),i≠j->us[i]?=some u->us[j]?=some t->bM u=some b->bM t≠some b)
 (I:de cx Z vals w (Z++ss) (vals++us) w'→∀(i:Nat) (s:cK) (u:Value),ss[i]?=some s->us[i]?=some u->RB cx (Z++ss) (vals++us) w' s u):
 bW cx (Z++ss) (vals++us) w'/\de cx Z vals w (Z++ss) (vals++us) w':=by
 obtain⟨eI,pP⟩:=J.grow Xi;have T8:∀b,Fo (Z++ss) (vals++us) b->Fo Z vals b\/w.heap.size<=b:=by
  rintro b ⟨i,s,u,U,H,h3,h4⟩;rw[oS]at U h3;rw[J.len]at h3;split at U
  ·rename_i he;rw[if_pos he]at h3;exact .inl ⟨i,s,u,U,H,h3,h4⟩
  ·rename_i he;rw[if_neg he]at h3;exact .inr (mM u (zag h3) b h4)
 have E:de cx Z vals w (Z++ss) (vals++us) w':=by
  refine⟨λi u h=>?_,ab,λb h=>⟨h.1,zae h.2.1 Xi.size,λhm=>?_⟩,λb h=>Xi.block b h.2.1,λi W e sz ap aw h=>?_,λi W s2 h nj=>?_⟩
  ·rw[oS,if_pos (zaa.1 h).1];exact h
  ·rcases T8 b hm with hm|H
   ·exact h.2.2 hm
   ·have:=h.2.1;omega
  ·rw[oS,if_pos W]at h;exact⟨ap,aw,h⟩
  ·rw[oS,if_pos W]at h;exact⟨s2,h,nj⟩
 have tg:Fr cx (Z++ss) (vals++us) w':=⟨eI.fr.size,eI.fr.same,λb hm nr=>by
  rcases T8 b hm with hm|hm
  ·exact J.fr.sy b hm nr
  ·have:=cx.E b nr;have:=J.fr.size;omega⟩
 refine⟨⟨eI.below,λu hu=>by rcases zaA.1 hu with hu|hu;exact J.one u hu;exact ff u hu,by simp[J.len,hlen],λi t u U H=>?_,λi j t1 t2 u1 u2 b sC U H h3 h4 h5 h6 h7=>?_,tg,J.pin.keep E⟩,E⟩
 ·rw[oS]at U H;rw[J.len]at H;split at U
  ·rename_i he;rw[if_pos he]at H;exact E.rb (J.lW i t u U H) (λhl b A8=>Xi.block b ((J.lW i t u U H).block hl A8).2)
  ·rename_i he;rw[if_neg he]at H;exact I E _ t u U H
 ·rw[oS]at U H h5 h6;rw[J.len]at h5 h6;intro h8;split at U
  ·rename_i W;rw[if_pos W]at h5;have g1:=((J.lW i t1 u1 U h5).block h3 h7).2;split at H
   ·rename_i hj;rw[if_pos hj]at h6;exact J.Cb i j t1 t2 u1 u2 b sC U H h3 h4 h5 h6 h7 h8
   ·rename_i hj;rw[if_neg hj]at h6;have:=mM u2 (zag h6) b h8;omega
  ·rename_i W;rw[if_neg W]at h5;have g1:=mM u1 (zag h5) b h7;split at H
   ·rename_i hj;rw[if_pos hj]at h6;have:=((J.lW j t2 u2 H h6).block h4 h8).2;omega
   ·rename_i hj;rw[if_neg hj]at h6;exact Ec _ _ u1 u2 b V h5 h6 h7 h8
mutual
def kf:RV->List cK
 | .pv _=>[]
 | .fresh e sz aw=>[.row e sz true aw]
 | .row e sz aw=>[.row e sz false aw]
 | .mp l=>[.mp l]
 | .agg rs=>CP rs
 | .tup rs=>CP rs
def CP:Ux->List cK
 |[]=>[]
 |r::rs=>kf r++CP rs
end
mutual
def Om:Nat->RV->AV
 |_,.pv x=>.pv x
 |n,.fresh _ _ _=>.own n
 |n,.row _ _ _=>.own n
 |n,.mp _=>.own n
 |n,.agg rs=>.agg (avL n rs)
 |n,.tup rs=>.tup (avL n rs)
def avL:Nat->Ux->XP
 |_,[]=>[]
 |n,r::rs=>Om n r::avL (n+(kf r).length) rs
end
def abE:(∀(r:RV) (Z:ax) (K:AV->ax->Prop),vQ r Z K->K (Om Z.length r) (Z++kf r)):=by
 intro r;refine RV.rec (motive_1:=λr=>∀(Z:ax) (K:AV->ax->Prop),vQ r Z K->K (Om Z.length r) (Z++kf r))
  (motive_2:=λrs=>∀(Z:ax) (K:XP->ax->Prop),
    (RV.rec_1 (motive_1:=λ_=>ax->(AV->ax->Prop)->Prop) (motive_2:=λ_=>ax->(XP->ax->Prop)->Prop)
      (λx Z K=>K (.pv x) Z) (λe sz aw Z K=>me Z λn=>fv Z (.row e sz true aw) λZ=>K (.own n) Z) (λe sz aw Z K=>me Z λn=>fv Z (.row e sz false aw) λZ=>K (.own n) Z)
      (λ_ ih Z K=>ih Z λl Z=>K (.agg l) Z) (λ_ ih Z K=>ih Z λl Z=>K (.tup l) Z) (λl Z K=>me Z λn=>fv Z (.mp l) λZ=>K (.own n) Z) (λZ K=>K [] Z)
      (λ_ _ h t Z K=>h Z λa Z=>t Z λl Z=>K (a::l) Z) rs:ax->(XP->ax->Prop)->Prop) Z K->K (avL Z.length rs) (Z++CP rs))
  ?_ ?_ ?_ ?_ ?_ ?_ ?_ ?_ r
 ·intro x Z K h;have h':K (.pv x) Z:=h;simpa[Om,kf]using h'
 ·intro e sz aw Z K h;exact cS _ _ _ (dX Z _ h)
 ·intro e sz aw Z K h;exact cS _ _ _ (dX Z _ h)
 ·intro rs ih Z K h;exact ih Z _ h
 ·intro rs ih Z K h;exact ih Z _ h
 ·intro l Z K h;exact cS _ _ _ (dX Z _ h)
 ·intro Z K h;have h':K [] Z:=h;simpa[avL,CP]using h'
 ·intro r rs ih1 ih2 Z K h;have U:=ih1 Z _ h;have H:=ih2 _ _ U;simpa[avL,CP,zaj]using H
def av_(ok:Nat->Prop)(B:Nat->Prop)(w:World)(s:cK)(u:Value):Prop:=
 (∃e sz ap aw cells,s=.row e sz ap aw/\0<sz/\DD w B e sz ap u aw.length cells/\(∀x∈aw,x.cells.length=sz)/\(∀c∈aw.flatMap PV.cells,c.one=true)/\cz ok w (aw.flatMap PV.cells) cells)∨∃l b es n,s=.mp l/\u=.map (some b)/\ok b/\w.heap[b]?=some (.map es n)/\RM es l
def RR.news{ok:Nat->Prop}{B:Nat->Prop}:(∀(r:RV) (v:Value) (us:XS),RR ok B w r v us->us.length=(kf r).length∧∀(i:Nat) (s:cK) (u:Value),(kf r)[i]?=some s->us[i]?=some u->
 av_ ok B w s u):=by
 intro r;refine RV.rec (motive_1:=λr=>∀(v:Value) (us:XS),RR ok B w r v us->us.length=(kf r).length∧∀(i:Nat) (s:cK) (u:Value),(kf r)[i]?=some s->us[i]?=some u->
  av_ ok B w s u)
  (motive_2:=λrs=>∀(vs:XS) (us:XS),RRL ok B w rs vs us->us.length=(CP rs).length∧∀(i:Nat) (s:cK) (u:Value),(CP rs)[i]?=some s->us[i]?=some u->
    av_ ok B w s u)
  ?_ ?_ ?_ ?_ ?_ ?_ ?_ ?_ r
 ·intro x v us h;simp only[RR]at h;rw[h.2];exact⟨rfl,λi s u h=>by simp[kf]at h⟩
 ·intro e sz aw v us h;simp only[RR]at h;obtain⟨rfl,h0,cells,U,H,h3,h4⟩:=h;refine⟨rfl,λi s u g1 g2=>?_⟩;cases i with
  |zero=>simp[kf]at g1 g2;subst g1 g2;exact .inl ⟨e,sz,true,aw,cells,rfl,h0,U,H,h3,h4⟩
  |succ i=>simp[kf]at g1
 ·intro e sz aw v us h;simp only[RR]at h;obtain⟨rfl,h0,cells,U,H,h3,h4⟩:=h;refine⟨rfl,λi s u g1 g2=>?_⟩;cases i with
  |zero=>simp[kf]at g1 g2;subst g1 g2;exact .inl ⟨e,sz,false,aw,cells,rfl,h0,U,H,h3,h4⟩
  |succ i=>simp[kf]at g1
 ·intro rs ih v us h;simp only[RR]at h;obtain⟨vs,_,_,h⟩:=h;exact ih _ _ h
 ·intro rs ih v us h;simp only[RR]at h;obtain⟨vs,_,h⟩:=h;exact ih _ _ h
 ·intro l v us h;simp only[RR]at h;obtain⟨rfl,b,es,n,U,H,h3,h4⟩:=h;refine⟨rfl,λi s u g1 g2=>?_⟩;cases i with
  |zero=>simp[kf]at g1 g2;subst g1 g2;exact .inr ⟨l,b,es,n,rfl,U,H,h3,h4⟩
  |succ i=>simp[kf]at g1
 ·intro vs us h;simp only[RRL]at h;rw[h.2];exact⟨rfl,λi s u h=>by simp[CP]at h⟩
 ·intro r rs ih1 ih2 vs us h;simp only[RRL]at h;obtain⟨v,t,Nd,us2,rfl,rfl,U,H⟩:=h;obtain⟨l1,g1⟩:=ih1 _ _ U;obtain⟨l2,g2⟩:=ih2 _ _ H;refine⟨by simp[CP,l1,l2],λi s u f1 f2=>?_⟩;simp only[CP,oS]at f1 f2;rw[l1]at f2;split at f1
  ·rename_i W;rw[if_pos W]at f2;exact g1 i s u f1 f2
  ·rename_i W;rw[if_neg W]at f2;exact g2 _ s u f1 f2
def RR.ra{ok qN:Nat->Prop}{B:Nat->Prop}(b_:∀b,ok b->qN b)(σ':ax)(ay:XS):∀(r:RV) (v:Value) (us:XS) (n:Nat),RR ok B w r v us->(∀(i:Nat) (u:Value),us[i]?=some u->ay[n+i]?=some u)->RA qN σ' ay w (Om n r) v:=by
 intro r;refine RV.rec (motive_1:=λr=>∀(v:Value) (us:XS) (n:Nat),RR ok B w r v us->(∀(i:Nat) (u:Value),us[i]?=some u->ay[n+i]?=some u)->RA qN σ' ay w (Om n r) v)
  (motive_2:=λrs=>∀(vs:XS) (us:XS) (n:Nat),RRL ok B w rs vs us->(∀(i:Nat) (u:Value),us[i]?=some u->ay[n+i]?=some u)->eu qN σ' ay w (avL n rs) vs)
  ?_ ?_ ?_ ?_ ?_ ?_ ?_ ?_ r
 ·intro x v us n h _;simp only[RR]at h;simp only[Om,RA];exact Rd.mono b_ (λ_ _ _=>rfl) x v h.1
 ·intro e sz aw v us n h hv;simp only[RR]at h;obtain⟨rfl,_⟩:=h;simp only[Om,RA];exact hv 0 v rfl
 ·intro e sz aw v us n h hv;simp only[RR]at h;obtain⟨rfl,_⟩:=h;simp only[Om,RA];exact hv 0 v rfl
 ·intro rs ih v us n h hv;simp only[RR]at h;obtain⟨vs,rfl,U,h⟩:=h;simp only[Om,RA];refine⟨λc F=>?_,vs,rfl,ih _ _ n h hv⟩;have:∀(rs:Ux) (n:Nat),(∀r∈rs,match r with| .pv x=>x.one=true| .fresh _ _ _=>True| .row _ _ _=>True|_=>False)→∀c∈avL n rs,c.one=true:=by
   intro rs
   induction rs with
   |nil=>intro n _ c F;simp[avL]at F
   |cons r rs ih=>
    intro n h c F;simp only[avL]at F;rcases zax.1 F with rfl|F
    ·have:=h r ab;cases r with
     |pv x=>exact this
     |fresh e sz aw=>rfl
     |row e sz aw=>rfl
     |_=>exact this.elim
    ·exact ih _ (λr J=>h r (by simp[J])) c F
  exact this rs n U c F
 ·intro rs ih v us n h hv;simp only[RR]at h;obtain⟨vs,rfl,h⟩:=h;simp only[Om,RA];exact⟨vs,rfl,ih _ _ n h hv⟩
 ·intro l v us n h hv;simp only[RR]at h;obtain⟨rfl,_⟩:=h;simp only[Om,RA];exact hv 0 v rfl
 ·intro vs us n h _;simp only[RRL]at h;simp only[avL,eu];exact h.1
 ·intro r rs ih1 ih2 vs us n h hv;simp only[RRL]at h;obtain⟨v,t,Nd,us2,rfl,rfl,U,H⟩:=h;simp only[avL,eu];have l1:=(RR.news r v Nd U).1;refine⟨v,t,rfl,ih1 v Nd n U (λi u W=>hv i u (by rw[oS,if_pos (zaa.1 W).1];exact W)),ih2 t us2 _ H (λi u W=>?_)⟩;have:=hv (Nd.length+i) u (by rw[oS,if_neg V,zav];exact W);rwa[<-l1,zaL]
def akz{K:AV->ax->Prop}{Γ:Ctx}(hΓ:Sound cx.P Γ)(J:Rel cx env Z vals a w)(f:FuncId)(aM1:XP)(vs:Array Value)(Xl:(execOp a.eval o).run cx.P w=(callFunc f vs).run cx.P w)(oF:eu (Ok cx Z vals w) Z vals w aM1 vs.toList)(hmu:(Γ f).mu=false)
 (Y:bK Z aM1 λps=>match (Γ f).lone with
   |true=>(Γ f).run ps λr=>vQ r Z K
   |false=>d_ aM1 Z λZ=>(Γ f).run ps λr=>vQ r Z K):Out cx env a w o K:=by
 have main:∀(σ1:ax) (ok:Nat->Prop) (ps:CK),Rel cx env σ1 vals a w->(∀b,ok b->b<w.heap.size)->((Γ f).lone=false→∀b,ok b->Ok cx σ1 vals w b)->cz ok w ps vs.toList->((Γ f).run ps λr=>vQ r σ1 K)->Out cx env a w o K:=by
  intro σ1 ok ps wL aEw Ub lf b9 next Q zS
  obtain⟨aqi,aqj⟩:=(hΓ f).2.2.1 w ok ps vs _ hmu aEw lf b9;unfold Oper.wp;rw[Xl,aqi,Oper.upon_enter];refine aqj.mono ?_;rintro e w' ⟨v,r,us,rfl,Y,Xi,hrr,mM,Ec⟩;have Y:=abE r σ1 K Y;obtain⟨hl,Gu⟩:=RR.news r v us hrr;have ff:∀u∈us,u.oneCell'=true:=by
   intro u hu;obtain⟨i,W⟩:=zaG.1 hu;have MG:i<(kf r).length:=by rw[<-hl];exact(zaa.1 W).1
   rcases Gu i _ u (zah MG) W with⟨_,_,_,_,_,_,_,h,_⟩|⟨_,b,_,_,_,rfl,_⟩
   case inr=>rfl
   rcases h.2 with⟨rfl,_⟩|⟨_,_,_,_,rfl,_⟩<;>rfl
  have axz:∀b,OkR ok (Γ f).lone w w' us b->Ok cx (σ1++kf r) (vals++us) w' b:=by
   rintro b ⟨U,H,h3⟩;refine⟨?_,H,?_⟩
   ·rcases U with⟨h0,U⟩|U
    ·exact(Ub h0 b U).1
    ·exact .inr (cx.cj _ (zam wL.s.below.size U))
   ·rintro⟨i,s,u,g1,g2,g3,g4⟩;rw[oS]at g1 g3;rw[wL.s.len]at g3;split at g1
    ·rename_i W;rw[if_pos W]at g3;rcases U with⟨h0,U⟩|U
     ·exact(Ub h0 b U).2.2 ⟨i,s,u,g1,g2,g3,g4⟩
     ·have:=((wL.s.lW i s u g1 g3).block g2 g4).2;omega
    ·rename_i W;rw[if_neg W]at g3;exact h3 u (zag g3) g4
  obtain⟨hs,nr⟩:=wL.s.afX Xi (kf r) us hl ff mM Ec (λnr i s u g1 g2=>by
   rcases Gu i s u g1 g2 with⟨e,sz,ap,aw,cells,rfl,h0,U,H,h3,h4⟩|⟨l,b,es,n,rfl,rfl,H,h3,h4⟩
   case inr=>exact⟨b,es,n,rfl,axz b H,h3,h4⟩
   refine⟨h0,cells,⟨U.1,?_⟩,H,h3,cz.mono axz (λ_ _ _=>rfl) _ _ h4⟩;rcases U.2 with h|⟨g,cap,cur,fr,f1,f2,f3⟩
   ·exact .inl h
   ·exact .inr ⟨g,cap,cur,fr,f1,cx.cj _ (zam wL.s.below.size f2),f3⟩)
  refine zS _ _ _ v w' Y (wL.keep hs nr) ?_;refine RR.ra axz _ _ r v us σ1.length hrr (λi u W=>?_);rw[oS,if_neg (by rw[wL.s.len];omega),wL.s.len,zav];exact W
 obtain⟨ps,E,lf,_,VE⟩:=qX J.s _ _ _ oF Y;cases ND:(Γ f).lone with
 |true=>
  simp only[ND]at E;refine main Z (OkM cx Z vals w) ps J (λb I=>?_) (λh=>by rw[ND]at h;cases h) lf E;rcases I with I|⟨i,s,u,U,H,h3,h4⟩
  ·exact I.2.1
  ·exact((J.s.lW i s u U h3).block H h4).2
 |false=>
  simp only[ND]at E;obtain⟨xs,σ1,rfl,E,_,nk,axw,lf,_⟩:=mn _ Z Z _ (λz=>z=ps) _ (Fz.refl Z) J.s oF (VE _ rfl) E;exact main σ1 (Ok cx σ1 vals w) _ (J.keep nk axw) (λb I=>I.2.1) (λ_ b I=>I) lf E
end
end
end Go.Dv
namespace Go.Dv
open Go.RowKit
section
section
variable {cx:Cx} {env:Env} {Z:ax} {vals:XS} {a:Act} {w w':World} {o:Oper}
def Sz:∀(l:XP) (Z:ax) (vs:XS) (K:CK->ax->Prop),bW cx Z vals w->eu (Ok cx Z vals w) Z vals w l vs->xX l Z K->
 ∃xs σ',K xs σ'/\bW cx σ' vals w/\de cx Z vals w σ' vals w/\cz (Ok cx σ' vals w) w xs vs:=by
 intro l
 induction l with
 |nil=>
  intro Z vs K J h Y;simp only[eu]at h;exact⟨[],Z,Y,J,de.refl,by simp only[cz];exact h⟩
 |cons av l ih=>
  intro Z vs K J h Y;simp only[eu]at h;obtain⟨v,t,rfl,hv,ht⟩:=h;have fin:∀(σ1:ax) (y:PV),bW cx σ1 vals w->de cx Z vals w σ1 vals w->Rd (Ok cx σ1 vals w) w (.cptr y) v->(xX l σ1 λxs Z=>K (.cptr y::xs) Z)->
   ∃xs σ',K xs σ'/\bW cx σ' vals w/\de cx Z vals w σ' vals w/\cz (Ok cx σ' vals w) w xs (v::t):=by
   intro σ1 y wL KH lf yd;obtain⟨xs,σ',U,H,h3,h4⟩:=ih σ1 t _ wL (KH.raL _ _ ht) yd;exact⟨_,σ',U,H,KH.trans h3,by simp only[cz];exact⟨v,t,rfl,h3.rd lf,h4⟩⟩
  cases av with
  |pv x=>
   cases x with
   |cptr y=>simp only[RA]at hv;exact fin Z y J de.refl hv Y
   |_=>exact vJ
  |ref id idx off=>
   simp only[RA]at hv;obtain⟨aM,_,_,rj⟩:=hv;obtain⟨b,I,E⟩:=aK _ _ _ (show eM Z id _ from Y);cases b with
   |box e cs=>
    cases off with
    |zero=>
     have E:bK Z cs λt=>lR t λx=>d_ cs Z λZ=>rJ Z id (.fz (.cptr x)) λZ=>xX l Z λxs Z=>K (.cptr x::xs) Z:=E
     obtain⟨u,hu,lV⟩:=J.val I;obtain⟨u',g,Z3,NC,hv⟩:=rj _ I rfl;rw[hu]at Z3;cases Z3;obtain⟨b,arr,e1,e2,e3,e4,e5⟩:=lV;obtain⟨txs,xG,_,_,VE⟩:=qX J cs _ _ e5 E;have hbv:∃x,(∀(K:PV->Prop),lR txs K->K x)/\lR txs λy=>y=x:=by
      have:∀K:PV->Prop,lR txs K→∃x,(∀(K:PV->Prop),lR txs K->K x)/\lR txs λy=>y=x:=by
       intro K h;cases txs with
       |nil=>exact⟨_,λ_ h=>h,rfl⟩
       |cons c r=>cases r with
        |cons d r=>exact⟨_,λ_ h=>h,rfl⟩
        |nil=>cases c with
         |agg cs=>exact h.elim
         |_=>exact⟨_,λ_ h=>h,rfl⟩
      exact this _ xG
     obtain⟨x,sB,A7⟩:=hbv;have hk3:=sB _ xG;obtain⟨xs2,σ1,rfl,hk4,hfz,wL,KH,aEx,ff⟩:=mn cs Z Z _ (λz=>z=txs) _ (Fz.refl Z) J e5 (VE _ rfl) hk3;have xI:σ1[id]?=some (.box e cs):=by
      rcases hfz id with h|⟨_,_,_,_,h,_⟩
      ·rw[h];exact I
      ·rw[I]at h;cases h
     have aEy:id<σ1.length:=(zaa.1 xI).1;obtain⟨x',hx3,hx4⟩:=xb (w:=w) A7 (ff e4);subst hx3;obtain⟨_,ql⟩:=dW _ _ _ _ hk4;obtain⟨tT,aEz⟩:=wL.Kx (x:=.cptr x') xI rfl (λqN v' EU _ b_ A8=>by
      rw[hu]at EU;cases EU;rw[e1];exact hx4 qN arr b _ _ e3 (cz.mono b_ (λ_ _ _=>rfl) _ _ aEx) (A8 b (by rw[e1];rfl))) (λ_=>rfl)
     refine fin _ x' tT (KH.trans aEz) ?_ ql;have:=tT.lW id _ _ (by rw[List.getElem?_set_self aEy]) hu;have hvu:v=u:=by rw[hv,NC]
     rw[hvu];exact this
    |succ off=>exact gY
   |fz y=>
    cases off with
    |zero=>
     cases y with
     |cptr y=>
      obtain⟨u,hu,lV⟩:=J.val I;obtain⟨u',g,Z3,NC,hv⟩:=rj _ I rfl;rw[hu]at Z3;cases Z3;have hvu:v=u:=by rw[hv,NC]
      exact fin Z y J de.refl (by rw[hvu];exact lV) E
     |_=>exact gY
    |succ off=>exact gY
   |_=>cases off<;>exact gY
  |_=>exact vJ
def att{K:AV->ax->Prop}(J:Rel cx env Z vals a w)(f:FuncId)(first ep:Array Operand)(ho:o.op=.makeFunc (.func f) first ep)(hf:first.toList=[])
 (Y:xX (ep.toList.map (bD env)) Z λxs Z=>K (.pv (.clo f xs)) Z):Out cx env a w o K:=by
 obtain⟨xs,σ',U,H,h3,h4⟩:=Sz _ Z _ _ J.s (J.evL ep.toList) Y;have hf':first= #[]:=Array.toList_eq_nil_iff.1 hf
 refine Out.run (v:=.func (.func f) #[] (ep.map a.eval)) (by simp[execOp,ho,Instr.makeFunc,hf']) (J.keep H h3) (av:=.pv (.clo f xs)) ?_ U;simp only[RA,Rd];exact⟨_,rfl,DU⟩
end
end
end Go.Dv
end
