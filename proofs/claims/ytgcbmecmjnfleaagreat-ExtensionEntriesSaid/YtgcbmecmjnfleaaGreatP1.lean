/- Own work: parts of the proof, shortened and laid together by a tool of our own. -/
import GoSem.Core.Code
import GoSem.Core.Lib
import GoSem.Op.String
import Derived.KernelRfl
import Derived.Below
import GoSem.Core.Layout
import GoSem.Op.Equal
import GoSem.Core.Region
import Derived.WalkKit
import Derived.Lib.Strings
import Derived.Lib.AppendStr
import Derived.Laws.AppendOwnNone
import Derived.Great.BuildSlice
import Derived.Laws.IdiomStrings
import Derived.RangeFuncNested
set_option linter.defProp false
set_option linter.unusedSimpArgs false
set_option linter.unusedVariables false
open List renaming getElem?_eq_some_iff→zaa, mem_of_getElem?→zad, length_append→zae, eq_nil_of_length_eq_zero→zaf, append_assoc→zah, getElem?_eq_getElem→zak, length_take→zal, getElem?_append_right→zam, length_map→zan, flatMap_cons→zao, length_cons→zap, length_replicate→zaq, getElem?_append_left→zar, map_cons→zav, mem_append→zax, mem_cons→zay, flatMap_append→zaz, take_append_drop→zaA, mem_iff_getElem?→zaB, map_append→zaD, take_left'→zaF, getElem?_drop→zaH, getElem?_take→zaI, getElem?_eq_none→zaK, length_set→zaL, drop_left'→zaN, replicate_succ→zaO, drop_drop→zaP, getElem?_set→zaR, extract_eq_take_drop→zaS, zipIdx_cons→zaV, mem_map→zaX, append_nil→zaY, length_nil→zaZ, nil_append→za0, take_of_length_le→za1, mem_of_mem_take→za4, mem_replicate→za8, ext_getElem?→zbb, cons_append→zbe, length_drop→zbf, foldl_cons→zbh, tail_drop→zbk, take_left→zbl, drop_left→zbm
open Nat renaming eq_of_beq_eq_true→zab, lt_of_lt_of_le→zag, le_refl→zaj, add_mul→zas, le_trans→zat, min_eq_left→zau, add_sub_cancel_left→zaw, mul_le_mul_right→zaC, add_assoc→zaJ, zero_add→zaU, add_zero→zaW, le_of_ble_eq_true→za3, add_right_comm→za7, add_left_comm→zbc, one_mul→zbd
open Array renaming length_toList→zac, getElem?_eq_some_iff→zai, getElem?_eq_getElem→zaE, toList_setIfInBounds→zaQ, getElem?_toList→za2, toList_extract→za5, foldl_toList→za9, toList_map→zbg
open Bool renaming false_eq_true→zaG, eq_iff_iff→zaM, and_eq_true→zaT, not_false→zbi, decide_or→zbj
open Int renaming toNat_of_nonneg→za6
open Decidable renaming not_not→zba
set_option maxHeartbeats 16000000
noncomputable section
namespace Go.Dv
section
structure Hd(P:Prop):Prop where
 h:P
section
variable {P:Prop}
def I4(h:P:=by simp only[Rd];exact h5):P:=h
def mK(h:P:=by simpa using h1):P:=h
def r6(h:P:=by simpa using hc):P:=h
def va(h:P:=by simpa using hj):P:=h
def ae(h:P:=by simp):P:=h
def iN(h:P:=by simp[hc]):P:=h
def rQ(h:P:=by simp[hy]):P:=h
def yA(h:P:=by simpa using h4):P:=h
def yK(h:P:=by simpa using hx):P:=h
def aa(h:P:=by omega):P:=h
def aT(h:P:=by simp;omega):P:=h
def uM(h:P:=by simp[h2]):P:=h
def uK(h:P:=by simpa using h3):P:=h
def oZ(h:P:=by simp[cE]):P:=h
def cL(h:P:=by simp only[Rd]):P:=h
def KR(h:P:=by simp[binOp,Op.intArith]):P:=h
def Eo(h:P:=by simp[binOp,Op.intBits,hY]):P:=h
def uV(h:P:=by simp[binOp,Op.intCmp]):P:=h
def af(h:P:=by decide):P:=h
def Ki(h:P:=by simp only[RA];exact h2):P:=h
def fj(h:P:=by simp only[RA,Rd]):P:=h
def KA(h:P:=by rw[hu]at hd;cases hd;rfl):P:=h
def kG(h:P:=by simp[hx]):P:=h
def nZ(h:P:=by simp[hr.len]):P:=h
def o8(h:P:=by simpa using h):P:=h
def cI(h:P:=by cases h):P:=h
def gu(h:P:=by simpa using h2):P:=h
def aaq(h:P:=by rw[hv];simp[execOp,ho,hv]):P:=h
def RG(h:P:=by rcases List.mem_append.1 hu with hu|hu;exact hr.one u hu;simp at hu;exact hu▸fY):P:=h
def I6(h:P:=by cases h;exact Nat.le_refl _):P:=h
def QG(h:P:=by rcases dx.2 with⟨rfl,_⟩|⟨_,_,_,_,rfl,_⟩<;>rfl):P:=h
def Yu(h:P:=by rw[Al rfl];simp only[d_];exact⟨_,[],rfl,h',rfl⟩):P:=h
def PN(h:P:=by simp at hc;obtain⟨x,hx,rfl⟩:=hc;exact h3 x hx):P:=h
def KS(h:P:=by simpa only[RA]using hv):P:=h
def og(h:P:=by simp[hd]):P:=h
def aV(h:P:=by grind):P:=h
def Eu(h:P:=by rw[<-Array.length_toList,(h2 (λ_=>True) w).length,hzl]):P:=h
def bL(h:P:=by assumption):P:=h
def vD(h:P:=by rw[List.length_map];rfl):P:=h
def yt(h:P:=by simp only[Ren]):P:=h
def Il(h:P:=by simp only[Ren];exact⟨j,h1,rfl⟩):P:=h
def H0(h:P:=by simp only[Ren];exact⟨bs,rfl,h2⟩):P:=h
def Df(h:P:=by simp only[fK]):P:=h
def KG(h:P:=by rw[hz.length,gb _ _ hl]):P:=h
def QR(h:P:=by rw[ER _ _ hl]at hc;exact fY c (List.mem_of_mem_take hc)):P:=h
def aE(h:P:=by trivial):P:=h
def JA(h:P:=by simp only[Ren];exact⟨id,h1,rfl⟩):P:=h
def Io(h:P:=by simp only[Ren];exact⟨cs,rfl,h2⟩):P:=h
def rM(h:P:=by simp[h]):P:=h
def Qr(h:P:=by rw[<-hA.adO];exact(List.getElem?_eq_some_iff.1 hj).1):P:=h
def y_(h:P:=by rw[<-hmd];rfl):P:=h
def HV(h:P:=by rw[<-hρlen];exact(List.getElem?_eq_some_iff.1 hj).1):P:=h
def Iy(h:P:=by rw[h,hq]at hn;cases hn):P:=h
def KD(h:P:=by rw[List.length_set];exact hql):P:=h
def jn(h:P:=by cases hb):P:=h
def IJ(h:P:=by simp[execOp,ho,Act.eval]):P:=h
def yV(h:P:=by simp[PO.reads,ht]):P:=h
def ig(h:P:=by simp[PK.reads,ht]):P:=h
def yh(h:P:=by rcases hf with hf|hf<;>rw[hf]<;>rfl):P:=h
def PY(h:P:=by rcases hf with hf|hf<;>rw[hf];exact .inl rfl;exact .inr rfl):P:=h
def RY(h:P:=by simp only[hg,Bool.not_false]):P:=h
def Ij(h:P:=by simp only[h1,Bool.not_false]):P:=h
def jt(h:P:=by cases hu):P:=h
def Qf(h:P:=by have:=h3 σ' K' hs hk;rw[<-ub]at this;exact this):P:=h
def vQ(h:P:=by rw[List.append_nil]at hk;exact hk):P:=h
def zR(h:P:=by simpa only[AV.Nm]using hx):P:=h
def ry(h:P:=by simp at hi):P:=h
def P0(h:P:=by unfold qW.M;rintro(hM|hM);exact(hc j hj).1 hM;exact(hc j hj).2 hM):P:=h
def CR(h:P:=by rw[<-dp.s.len];exact hi):P:=h
def Dd(h:P:=by rw[dp.s.len];exact(List.getElem?_eq_some_iff.1 hj).1):P:=h
def Q7(h:P:=by rw[<-dp.s.len];exact(List.getElem?_eq_some_iff.1 (g5.2 p hp)).1):P:=h
def DP(h:P:=by simp[bc]):P:=h
def fJ(h:P:=by cases e):P:=h
def II(h:P:=by simp[show p<vs.size from by omega]):P:=h
def I_(h:P:=by rw[Int.toNat_natCast,List.getElem?_map,List.getElem?_eq_getElem h];rfl):P:=h
def Eb(h:P:=by unfold fD;rw[if_neg (by omega),if_neg (by omega)]):P:=h
def bP(h:P:=by kernel_rfl):P:=h
def uX(h:P:=by simp[Sl.l]):P:=h
def aag(h:P:=by first|(simp;omega)|simp):P:=h
def Yg(h:P:=by simp[*]):P:=h
def X8(h:P:=by rw[Mt hx];rfl):P:=h
def uL(h:P:=by rw[show((n:Int)-1).toNat=n-1 by omega];exact hp):P:=h
def zE(h:P:=by(repeat'(first|omega|assumption|exact trivial|refine And.intro ?_ ?_));first|done|fail):P:=h
def oA(h:P:=by have:=aZ hk;omega):P:=h
def jD(h:P:=by(simp;omega)):P:=h
def Qu(h:P:=by rw[show cut (at_+k) (at_+k) s=[]from List.eq_nil_of_length_eq_zero (by rw[HK (by omega)];omega)];rfl):P:=h
def C5(h:P:=by rw[HK (by omega)];omega):P:=h
def PE(h:P:=by rw[show((at_:Int)+(((m+1:Nat):Int)-1)).toNat=at_+m by omega];exact hx):P:=h
def QK(h:P:=by unfold oT at hxo;split at hxo<;>constructor<;>omega):P:=h
def aaw(h:P:=by simp<;>omega):P:=h
def bA(h:P:=by simp only[List.length_append,dn,bS,List.length_nil]):P:=h
def aJ(h:P:=by rw[dn];omega):P:=h
def aF(h:P:=by simp only[sI,bS];omega):P:=h
def Is(h:P:=by rw[hW];exact congrArg pf (by omega)):P:=h
def JO(h:P:=by rw[hA];exact congrArg pf (by omega)):P:=h
def sk(h:P:=by(simp only[zae,dn,bS];omega)):P:=h
def Ps(h:P:=by(simp only[zae,dn,bS];unfold pf;omega)):P:=h
def JG(h:P:=by unfold ES;(repeat' split)<;>omega):P:=h
def vu(h:P:=by simp[cz]):P:=h
def om(h:P:=by rw[List.length_take];omega):P:=h
def Qp(h:P:=by simpa using g):P:=h
def Jm(h:P:=by(show(l.take i).length<=_;rw[zal];omega)):P:=h
def Es(h:P:=by unfold q8;omega):P:=h
def Pu(h:P:=by simp only[true_iff];exact λe=>g0 ((q6 _ _).2 e.1)):P:=h
def Qb(h:P:=by simp only[Bool.false_eq_true,false_iff];exact λe=>e ⟨(q6 _ _).1 (Decidable.not_not.1 g0),g1⟩):P:=h
def Z3(h:P:=by simp only[Bool.false_eq_true,false_iff];intro e;rw[e,hy]at hx;cases hx;exact g rfl):P:=h
def sC(h:P:=by repeat'(first|omega|assumption|exact trivial|refine And.intro ?_ ?_)):P:=h
def Pt(h:P:=by rw[q1.2 x (by omega),q1.2 y (by omega)];exact hT2 x y x1 x2 y1 y2):P:=h
def fM(h:P:=by(simp;done)):P:=h
def oG(h:P:=by(simp only[List.length_singleton];omega)):P:=h
def Rq(h:P:=by rw[show(eb (L.take n)).length-1=xs.length by omega,T6];exact kq):P:=h
def PW(h:P:=by rw[show(eb (L.take n)).length-1=xs.length by omega,T6];exact λh=>h.elim h1 kq):P:=h
def RW(h:P:=by rw[List.take_zero,show JN al r []=[]from rfl,List.append_nil];rfl):P:=h
def QJ(h:P:=by rw[List.length_map,List.length_append,ND,List.length_take];have:=X7 hGl (refs:=refs.l) (al:=al) n;omega):P:=h
def gM(h:P:=by(simp only[zap,zaZ];omega)):P:=h
def Ee(h:P:=by rw[e3,<-List.append_assoc,List.map_append];rfl):P:=h
def Eh(h:P:=by rw[e2,List.map_append];rfl):P:=h
def XN(h:P:=by rw[E1,E2,e1];rfl):P:=h
def Qm(h:P:=by rw[Nz (by rw[Qc,hP.len,KQ]),hP.len,KQ];omega):P:=h
def o6(h:P:=by rw[Qc,hP.len,KQ]):P:=h
def ri(h:P:=by(show(0:Nat)<_;omega)):P:=h
def Ef(h:P:=by(show 0<=_;omega)):P:=h
def DJ(h:P:=by(simp only[hAl,zap,zaZ];omega)):P:=h
def C1(h:P:=by rw[show(r.plus (fi r.nx (aM es))).at_.l=r.at_.l++[fi r.nx (aM es)]from rfl,List.map_append];exact hsw v _):P:=h
def C_(h:P:=by rw[show(r.plus (eT r.nx (aM es) lr.l)).at_.l=r.at_.l++[eT r.nx (aM es) lr.l]from rfl,List.map_append];exact hsw v _):P:=h
def u0(h:P:=by rw[List.length_map,hl]):P:=h
def Q9(h:P:=by simp only[Bool.false_eq_true,false_iff];exact λe=>hl (by rw[e])):P:=h
def P3(h:P:=by simp only[true_iff];exact afl hl λj hj=>h0 j (by omega)):P:=h
def QU(h:P:=by simp only[Bool.false_eq_true,false_iff];intro e;rw[e,hym]at hxm;exact g (Option.some.inj hxm).symm):P:=h
def P6(h:P:=by simp only[true_iff];exact afl (by rw[List.length_map,List.length_map,hl]) λj hj=>h0 j (by rw[List.length_map]at hj;omega)):P:=h
def Pw(h:P:=by unfold x5;rw[if_neg (λh=>h h1),if_neg (λh=>h h2),if_pos h3]):P:=h
def mj(h:P:=by rw[List.length_map];exact h3):P:=h
def P7(h:P:=by rw[show(Sl.sl rl).l=rl from rfl,x6,eH,eH2];exact Yc (by rw[<-eA2,<-eA,<-x6];exact hP2) xX aB1):P:=h
def nX(h:P:=by rw[e2];exact λh=>h rfl):P:=h
def DI(h:P:=by have:=hv.2.1;omega):P:=h
def KL(h:P:=by rintro _ _ ⟨_,⟨_,rfl,_⟩,_⟩;rfl):P:=h
def Km(h:P:=by exact⟨b,o,h1,hk b h2,h3,u,hc b o u h2 h4,this⟩):P:=h
def H_(h:P:=by exact Out.run (v:=a.eval x) aaq hr Xh hK):P:=h
def IE(h:P:=by exact⟨_,hK,Yu,by simp[AV.one]⟩):P:=h
def mw(h:P:=by exact(show False from h).elim):P:=h
def fG(h:P:=by exact(show False from hk).elim):P:=h
def oI(h:P:=by exact⟨l,h,hl,List.prefix_refl l⟩):P:=h
def dN(h:P:=by exact(show False from hK).elim):P:=h
def CX(h:P:=by exact⟨(λ_ _ _ _ h=>cI),λ_ _ h=>cI⟩):P:=h
def J6(h:P:=by exact hr.oP _ _ _ _ _ _ b iT CC EM h3 h4 h5 h6):P:=h
def Ed(h:P:=by exact⟨T7,d1,d2,d3,hk.TO d4⟩):P:=h
def JW(h:P:=by exact hk.rb (hr.iU i s x CC h2) (λ_ _=>rfl)):P:=h
def CZ(h:P:=by exact Out.run (v:=.slice none 0 0) IJ hr (av:=.pv (.nil i.2.1)) fj hK):P:=h
def dq(h:P:=by exact bH.ret _):P:=h
def mB(h:P:=by exact iv.ret _):P:=h
def mg(h:P:=by exact Uu hs bL h):P:=h
def iJ(h:P:=by exact(show False from h2).elim):P:=h
def Iq(h:P:=by exact⟨i,hi,λj hj hm=>h ⟨j,hj,hm⟩⟩):P:=h
def JQ(h:P:=by exact absurd (List.mem_filter.2 ⟨List.mem_range.2 aa,RY⟩) this):P:=h
def IF(h:P:=by exact KT e (Nat.lt_trans (hD.lt i aS e he) aS) (Xi e he) j h):P:=h
def J_(h:P:=by exact⟨[],h,λu hu=>jt,λσ' K' _ hk=>hk⟩):P:=h
def uY(h:P:=by exact⟨i,h,rfl⟩):P:=h
def Di(h:P:=by exact⟨cs,rfl,MZ cs h⟩):P:=h
def Dm(h:P:=by exact⟨_,h,λP hp=>⟨hp,trivial⟩,λ_ h=>h⟩):P:=h
def CO(h:P:=by exact(show False from h1).elim):P:=h
def HW(h:P:=by exact⟨_,_,r1,.inr ⟨rfl,r2⟩⟩):P:=h
def J4(h:P:=by exact⟨cx,qX,σ2,dw,hC,R0,WV hpn qH,h2⟩):P:=h
def zS(h:P:=by exact cr _ _ b _ ((h id DP).trans h1) h2):P:=h
def JM(h:P:=by exact⟨D,h2,(dp.s.fr.same D h3).trans h4,h5⟩):P:=h
def IT(h:P:=by exact h2 _ _ aa aa aa):P:=h
def aB(h:P:=by exact⟨.pv (pI _),rfl,trivial,hK⟩):P:=h
def Kd(h:P:=by exact⟨.pv (.bool _),rfl,trivial,hK _ aag⟩):P:=h
def mi(h:P:=by exact⟨.pv (.bool _),rfl,trivial,hK _ Yg⟩):P:=h
def D_(h:P:=by exact⟨m-1,aa,n+1,aa,rfl,X8⟩):P:=h
def aO(h:P:=by exact⟨[.pv _,.pv _],⟨rfl,rfl,trivial⟩,⟨trivial,trivial,trivial⟩,hK⟩):P:=h
def im(h:P:=by exact⟨.pv (.str _),rfl,trivial,hK⟩):P:=h
def ye(h:P:=by exact⟨.pv (.bool _),rfl,trivial,hK _ aaw⟩):P:=h
def D7(h:P:=by exact⟨.pv (.bool _),rfl,trivial,hK _ rM⟩):P:=h
def mF(h:P:=by exact⟨.pv (.bool _),rfl,trivial,hK _ (by simp_all)⟩):P:=h
def vB(h:P:=by exact⟨.pv (pI _),fH ((iq true Qp).2 rfl),trivial,hK⟩):P:=h
def uS(h:P:=by exact⟨m-1,aa,n+1,⟨aa,(iq false Qp).1 rfl⟩,rfl,rfl⟩):P:=h
def iH(h:P:=by exact absurd h g):P:=h
def yP(h:P:=by exact Decidable.not_not.1 g):P:=h
def Jq(h:P:=by exact⟨.pv (pI _),fH (Tu h0 hy g),trivial,hK⟩):P:=h
def oU(h:P:=by exact aB2 z1 λj hj=>z2 j aa):P:=h
def n7(h:P:=by exact(hnz e0).symm):P:=h
def od(h:P:=by exact⟨[.pv _,.pv _],⟨rfl,rfl,trivial⟩,⟨trivial,trivial,trivial⟩,O2 aa⟩):P:=h
def oC(h:P:=by exact⟨m-1,aa,n+1,⟨aa,next (sZ.trans aa)⟩,rfl,rfl⟩):P:=h
def DD(h:P:=by exact⟨[.fresh _ _ _,.pv _],⟨⟨rfl,rfl,rfl,rfl⟩,rfl,trivial⟩,⟨kF [],trivial,trivial⟩,hK⟩):P:=h
def Iv(h:P:=by exact⟨.pv (.bool _),rfl,trivial,hK _ Z3⟩):P:=h
def zb(h:P:=by exact⟨.pv (.bool _),rfl,trivial,hK⟩):P:=h
def yv(h:P:=by exact this.wide aa aa aa):P:=h
def EC(h:P:=by exact cx1 x z hx s8 Ss R1):P:=h
def yy(h:P:=by exact⟨[.fresh _ _ _,.pv _],⟨⟨rfl,rfl,rfl,rfl⟩,rfl,trivial⟩,trivial,hK⟩):P:=h
def Em(h:P:=by exact⟨.fresh _ _ _,⟨rfl,rfl,rfl,rfl⟩,(λ_ h=>cI),hK⟩):P:=h
def Ev(h:P:=by exact⟨m'-1,aa,k+1,aa,XN,rfl⟩):P:=h
def l9(h:P:=by exact⟨[.pv fp0.pv,.pv _],⟨rfl,rfl,trivial⟩,trivial,hK⟩):P:=h
variable {Q:Prop} (a:Q)
def uR(h:Hd Q->P:=by intro q;(conv=>whnf);(fail_if_success first|apply gRA|apply gRB|apply gRC);exact q.h):P:=h ⟨a⟩
def ko(h:Hd Q->P:=by intro q;(fail_if_success first|apply gRA|apply gRB|apply gRC);exact q.h):P:=h ⟨a⟩
def gF(h:Hd Q->P:=by intro q;show _<=(9223372036854775807:Nat)->_;(repeat (first|rw[List.length_map,Vl]|rw[List.length_map]|rw[List.length_replicate]));exact q.h):P:=h ⟨a⟩
def cw{α:Type _}{x:α}:x=x/\Q:=⟨rfl,a⟩
def wpK(h:P:=by kernel_rfl):P/\Q:=⟨h,a⟩
def Vu(h:P:=by omega):P/\Q:=⟨h,a⟩
end
inductive PV where
 |bool (b:Bool)
 |int (k:IntKind) (n:Int)
 |str (l:List UInt8)
 |val (v:Value)
 |nil (sz:Nat)
 |sl (sz:Nat) (ak:List PV)
 |agg (cs:List PV)
 |tup (vs:List PV)
 |cptr (x:PV)
 |clo (f:FuncId) (gB:List PV)
inductive AV where
 |bad
 |pv (x:PV)
 |own (id:Nat)
 |ref (id idx off:Nat)
 |sub (id sz lo n:Nat)
 |agg (cs:List AV)
 |tup (vs:List AV)
 |clo (f:FuncId) (gB:List AV)
inductive cu where
 |dead
 |row (e:TypeId) (sz:Nat) (app:Bool) (ak:List PV)
 |box (e:TypeId) (cs:List AV)
 |fz (x:PV)
 |mp (l:List (Int×Bool))
 |pool (e:TypeId) (sz:Nat) (l:List (Value×List PV)) (lt:List (Nat×Value))
inductive RV where
 |pv (x:PV)
 |fresh (e:TypeId) (sz:Nat) (ak:List PV)
 |row (e:TypeId) (sz:Nat) (ak:List PV)
 |agg (cs:List RV)
 |tup (vs:List RV)
 |mp (l:List (Int×Bool))
inductive Cv where
 |toInt (k:IntKind)|same|bts|stb (e:TypeId)
inductive PK where
 |mv (x:Operand)
 |nilS (sz:Nat)
 |nilR (e:TypeId) (sz:Nat)
 |pick (c a b:Operand)
 |bin (op:BinOp) (x y:Operand)
 |eqb (neg:Bool) (x y:Operand)
 |eqs (neg:Bool) (ks:List Nat) (x y:Operand)
 |un (op:UnOp) (x:Operand)
 |conv (c:Cv) (x:Operand)
 |lenS (x:Operand)
 |lenR (x:Operand)
 |lenN (x:Operand)
 |mm (mx:Bool) (x y:Operand)
 |idx (x i:Operand)
 |slcS (x:Operand) (lo hi:Option Operand)
 |slcR (sz:Nat) (x:Operand) (lo hi:Option Operand)
 |idxA (sz:Nat) (x i:Operand)
 |fldA (off:Nat) (x:Operand)
 |fld (off:Nat) (ag:Bool) (n:Nat) (x:Operand)
 |load (ag:Bool) (n:Nat) (x:Operand)
 |store (n:Nat) (x v:Operand)
 |alloc (e:TypeId) (z:PV)
 |box (e:TypeId) (x:Operand)
 |build (z:List PV) (parts:List (Nat×Nat×Operand))
 |bslice (e:TypeId) (sz:Nat) (parts:List Operand)
 |bslP (e:TypeId) (sz:Nat) (parts:List Operand)
 |app (e:TypeId) (sz bytes:Nat) (x y:Operand)
 |appS (e:TypeId) (bytes:Nat) (x y:Operand)
 |mksl (e:TypeId) (sz bytes:Nat) (z:PV) (l c:Operand)
 |call (f:FuncId) (args:List Operand)
 |ext (x:Operand) (i:Nat)
 |nilck (x:Operand)
 |mkf (f:FuncId) (gB:List Operand)
 |callv (f:Operand) (args:List Operand)
 |fail
 |junk
 |cpy (sz:Nat) (x y:Operand)
 |cpyS (x y:Operand)
 |clr (sz:Nat) (z:PV) (x:Operand)
 |mkarr (e:TypeId) (sz:Nat) (z:PV) (n:Nat)
 |idxAr (n sz:Nat) (x i:Operand)
 |slcA (n sz:Nat) (x:Operand) (lo hi:Option Operand)
 |isnil (neg:Bool) (x:Operand)
 |look (c:Bool) (x k:Operand)
 |idxV (m sz:Nat) (ag:Bool) (n:Nat) (x i:Operand)
 |fldV (m sz:Nat) (x i:Operand)
structure PO where
 dst:Option Nat
 g:Option (Nat×Bool)
 k:PK
inductive PC where
 |skip
 |region (ops:List PO)
 |draw (ops:List PO) (aft:List (List Nat))
 |drawD (ops:List PO) (aft:List (List Nat))
 |seq (a b:PC)
 |cond (c:Operand) (t e:PC)
 |block (id:Nat) (b:PC)
 |loop (live:List Nat) (b:PC)
 |rangeF (f:Operand) (ps:List Nat) (aaH:List PO) (b:PC)
 |exit (id:Nat)
 |ret
abbrev Env:=List (Nat×AV)
abbrev aw:=List cu
section
variable {α:Type}
def dm(l:List α):Nat->(α->Prop)->Prop:=
 List.rec (λ_ _=>False)
  (λa _ ih i K=>Nat.rec (K a) (λj _=>ih j K) i) l
def zV(n:Nat):List α->(List α->Prop)->Prop:=
 Nat.rec (λ_ K=>K [])
  (λ_ ih l K=>match l with|[]=>False|a::r=>ih r λt=>K (a::t)) n
def xE(n:Nat):List α->(List α->Prop)->Prop:=
 Nat.rec (λl K=>K l)
  (λ_ ih l K=>match l with|[]=>False|_::r=>ih r K) n
def wK(new:List α)(l:List α):Nat->(List α->Prop)->Prop:=
 List.rec
  (λi K=>match i,new with|0,[]=>K []|_,_=>False)
  (λa r ih i K=>Nat.rec
    (List.rec (λl K=>K l)
      (λx _ ih l K=>match l with|[]=>False|_::r=>ih r λt=>K (x::t)) new (a::r) K)
    (λj _=>ih j λt=>K (a::t)) i) l
def iX(l:List α):Nat->α->(List α->Prop)->Prop:=
 List.rec (λ_ _ _=>False)
  (λa r ih i x K=>Nat.rec (K (x::r)) (λj _=>ih j x λt=>K (a::t)) i) l
def eo(l:List α)(x:α):(List α->Prop)->Prop:=
 List.rec (λK=>K [x]) (λa _ ih K=>ih λt=>K (a::t)) l
def iW(l:List α):(Nat->Prop)->Prop:=
 List.rec (λK=>K 0) (λ_ _ ih K=>ih λn=>K (Nat.succ n)) l
end
def look(p:Nat)(K:AV->Prop)(e:Env):Prop:=
 List.rec (K .bad) (λhd _ ih=>Bool.rec ih (K hd.2) (Nat.beq hd.1 p)) e
def EA:Value->AV
 | .bool b=>.pv (.bool b)
 | .int k n=>.pv (.int k n)
 | .string s=>.pv (.str s.data.toList)
 | .slice none 0 0=>.pv (.nil 0)
 | .agg _=>.bad
 | .tuple _=>.bad
 |v=>.pv (.val v)
def ev(env:Env)(o:Operand)(K:AV->Prop):Prop:=
 match o with
 | .tmp t=>look t K env
 | .const v=>K (EA v)
 | .global _=>K .bad
 | .func f=>K (.pv (.clo f []))
def evs(env:Env)(l:List Operand):(List AV->Prop)->Prop:=
 List.rec (λK=>K []) (λo _ ih K=>ev env o λa=>ih λl=>K (a::l)) l
def PV.cells:PV->List PV
 | .agg cs=>cs
 |x=>[x]
def NL(ag:Bool)(cs:List PV)(K:PV->Prop):Prop:=
 match ag with
 |true=>K (.agg cs)
 |false=>match cs with
  |[x]=>K x
  |_=>False
def cut{α:Type}(l h:Nat)(xs:List α):List α:=(xs.take h).drop l
def KK(sz lo n:Nat)(b:cu)(K:List PV->Prop):Prop:=
 match b with
 | .row _ s _ ak=>match Nat.beq s sz with
  |true=>lo+n<=ak.length/\K (cut lo (lo+n) ak)
  |false=>False
 | .fz x=>match x with
  | .sl s ak=>match Nat.beq s sz with
   |true=>lo+n<=ak.length/\K (cut lo (lo+n) ak)
   |false=>False
  |_=>False
 |_=>False
def Fh(l:List AV):(List PV->Prop)->Prop->Prop:=
 List.rec (λK _=>K [])
  (λa _ ih K E=>match a with| .pv x=>ih (λt=>K (x::t)) E|_=>E) l
def jw(cs:List PV)(K:PV->Prop):Prop:=
 match cs with
 |[]=>K (.agg [])
 |c::r=>match r with
  |[]=>match c with
   | .agg _=>False
   |c=>K c
  |d::r=>K (.agg (c::d::r))
def La(b:cu)(K:PV->Prop):Prop:=
 match b with
 | .box _ cs=>Fh cs (λxs=>jw xs λx=>K (.cptr x)) False
 |_=>False
def fE(σ:aw)(a:AV)(K:PV->Prop):Prop:=
 AV.rec (motive_1:=λ_=>(PV->Prop)->Prop) (motive_2:=λ_=>(List PV->Prop)->Prop)
  (λ_=>False)
  (λx K=>K x)
  (λid K=>dm σ id λb=>match b with
    | .row _ sz _ ak=>K (.sl sz ak)
    | .fz x=>K x
    |_=>False)
  (λid idx off K=>match idx,off with
    |0,0=>dm σ id λb=>La b K
    |_,_=>False)
  (λid sz lo n K=>dm σ id λb=>KK sz lo n b λak=>K (.sl sz ak))
  (λ_ ih K=>ih λl=>K (.agg l))
  (λ_ ih K=>ih λl=>K (.tup l))
  (λ_ _ _ _=>False)
  (λK=>K [])
  (λ_ _ h t K=>h λx=>t λl=>K (x::l)) a K
def bJ(σ:aw)(l:List AV):(List PV->Prop)->Prop:=
 List.rec (λK=>K []) (λa _ ih K=>fE σ a λx=>ih λl=>K (x::l)) l
def jy(a:AV):aw->(aw->Prop)->Prop:=
 AV.rec (motive_1:=λ_=>aw->(aw->Prop)->Prop) (motive_2:=λ_=>aw->(aw->Prop)->Prop)
  (λ_ _=>False)
  (λ_ σ K=>K σ)
  (λid σ K=>dm σ id λb=>match b with
    | .row _ sz _ ak=>iX σ id (.fz (.sl sz ak)) K
    | .fz _=>K σ
    |_=>False)
  (λ_ _ _ _ _=>False)
  (λid _ _ _ σ K=>dm σ id λb=>match b with
    | .row _ sz _ ak=>iX σ id (.fz (.sl sz ak)) K
    | .fz _=>K σ
    |_=>False)
  (λ_ ih σ K=>ih σ K)
  (λ_ ih σ K=>ih σ K)
  (λ_ _ _ _ _=>False)
  (λσ K=>K σ)
  (λ_ _ h t σ K=>h σ λσ=>t σ K) a
def dW(l:List AV):aw->(aw->Prop)->Prop:=
 List.rec (λσ K=>K σ) (λa _ ih σ K=>jy a σ λσ=>ih σ K) l
def re(r:RV):aw->(AV->aw->Prop)->Prop:=
 RV.rec (motive_1:=λ_=>aw->(AV->aw->Prop)->Prop) (motive_2:=λ_=>aw->(List AV->aw->Prop)->Prop)
  (λx σ K=>K (.pv x) σ)
  (λe sz ak σ K=>iW σ λn=>eo σ (.row e sz true ak) λσ=>K (.own n) σ)
  (λe sz ak σ K=>iW σ λn=>eo σ (.row e sz false ak) λσ=>K (.own n) σ)
  (λ_ ih σ K=>ih σ λl σ=>K (.agg l) σ)
  (λ_ ih σ K=>ih σ λl σ=>K (.tup l) σ)
  (λl σ K=>iW σ λn=>eo σ (.mp l) λσ=>K (.own n) σ)
  (λσ K=>K [] σ)
  (λ_ _ h t σ K=>h σ λa σ=>t σ λl σ=>K (a::l) σ) r
structure Spec where
 lone:Bool
 fn:Bool
 run:List PV->(RV->Prop)->Prop
 iter:List PV->List (List PV)->Prop
 mu:Bool
 um:List AV->aw->(AV->aw->Prop)->Prop
 dt:Bool:=false
 hdt:dt=true->mu=false∧∀ps K,run ps K→∃r,K r∧∀K':RV->Prop,K' r->run ps K':=by intro h;cases h
def mkS(lone fn:Bool)(run:List PV->(RV->Prop)->Prop):Spec where
 lone:=lone
 fn:=fn
 run:=run
 iter:=λ_ _=>False
 mu:=false
 um:=λ_ _ _=>False
def x3(um:List AV->aw->(AV->aw->Prop)->Prop):Spec where
 lone:=false
 fn:=false
 run:=λ_ _=>False
 iter:=λ_ _=>False
 mu:=true
 um:=um
def gR(lone:Bool)(R:List PV->RV->Prop):Spec where
 lone:=lone
 fn:=false
 run:=λps K=>∃r,R ps r/\K r
 iter:=λ_ _=>False
 mu:=false
 um:=λ_ _ _=>False
 dt:=true
 hdt:=λ_=>⟨rfl,λ_ _ ⟨r,h1,h2⟩=>⟨r,h2,λ_ h=>⟨r,h1,h⟩⟩⟩
abbrev Ctx:=FuncId->Spec
def sj(p:Prop)(K:PV->Prop):Prop:=∀r:Bool,(r=true↔p)->K (.bool r)
def Qs(k:IntKind)(n:Int)(K:PV->Prop):Prop:=∀r:Int,r=k.wrap n->K (.int k r)
def hY(op:BinOp)(k:IntKind)(x y:Int):Int:=
 let a:=BitVec.ofInt k.bits x
 let b:=BitVec.ofInt k.bits y
 match op with
 | .and=>k.wrap (a&&&b).toNat
 | .or=>k.wrap (a|||b).toNat
 | .xor=>k.wrap (a^^^b).toNat
 |_=>k.wrap (a&&& ~~~b).toNat
def YT(op:BinOp)(k:IntKind)(a b:Int)(K:PV->Prop):Prop:=
 match op with
 | .add=>Qs k (a+b) K
 | .sub=>Qs k (a-b) K
 | .mul=>Qs k (a*b) K
 | .quo=>b≠0/\Qs k (a.tdiv b) K
 | .rem=>b≠0∧∀r:Int,r=a.tmod b->K (.int k r)
 | .and=>∀r:Int,r=hY .and k a b->K (.int k r)
 | .or=>∀r:Int,r=hY .or k a b->K (.int k r)
 | .xor=>∀r:Int,r=hY .xor k a b->K (.int k r)
 | .andNot=>∀r:Int,r=hY .andNot k a b->K (.int k r)
 | .eql=>sj (a=b) K
 | .neq=>sj (a≠b) K
 | .lss=>sj (a<b) K
 | .leq=>sj (a<=b) K
 | .gtr=>sj (b<a) K
 | .geq=>sj (b<=a) K
 | .shl=>0<=b∧∀r:Int,r=k.wrap (a*2^min b.toNat k.bits)->K (.int k r)
 | .shr=>0<=b∧∀r:Int,r=a.fdiv (2^min b.toNat k.bits)->K (.int k r)
def sameKind(op:BinOp)(k j:IntKind):Bool:=
 match op with
 | .shl| .shr=>true
 |_=>Nat.beq k.ctorIdx j.ctorIdx
def adK(op:BinOp)(x y:PV)(K:PV->Prop):Prop:=
 match x,y with
 | .int k a,.int j b=>match sameKind op k j with
  |true=>YT op k a b K
  |false=>False
 | .str a,.str b=>match op with
  | .add=>((a.length+b.length:Nat):Int)<=9223372036854775807/\K (.str (a++b))
  | .eql=>sj (a=b) K
  | .neq=>sj (a≠b) K
  | .lss=>sj (Op.bytesLess a b=true) K
  | .leq=>sj (Op.bytesLess a b=true\/a=b) K
  | .gtr=>sj (¬(Op.bytesLess a b=true\/a=b)) K
  | .geq=>sj (¬Op.bytesLess a b=true) K
  |_=>False
 |_,_=>False
def unP(op:UnOp)(x:PV)(K:PV->Prop):Prop:=
 match op,x with
 | .not,.bool b=>sj (b=false) K
 | .neg,.int k n=>Qs k (0-n) K
 |_,_=>False
def BU(k:Nat)(a b:PV):Bool:=
 match a,b with
 | .int i _,.int j _=>match k with|0=>decide (i=j)|_=>false
 | .str _,.str _=>match k with|1=>true|_=>false
 | .bool _,.bool _=>match k with|2=>true|_=>false
 |_,_=>false
def o0(ks:List Nat):List PV->List PV->Bool:=
 List.rec (λa b=>match a,b with|[],[]=>true|_,_=>false)
  (λk _ ih a b=>match a,b with
    |x::a,y::b=>match BU k x y with|true=>ih a b|false=>false
    |_,_=>false) ks
def aR(b:UInt8):PV:=.int .u8 b.toNat
def uO(σ:aw)(a:AV)(K:Nat->List PV->Prop):Prop:=
 match a with
 | .pv x=>match x with
  | .sl sz ak=>K sz ak
  | .nil sz=>K sz []
  |_=>False
 | .own id=>dm σ id λb=>match b with
  | .row _ sz _ ak=>K sz ak
  | .fz x=>match x with
   | .sl sz ak=>K sz ak
   |_=>False
  |_=>False
 | .sub id sz lo n=>dm σ id λb=>KK sz lo n b λak=>K sz ak
 |_=>False
def upK(n:Nat)(hi:Option AV)(K:Nat->Prop):Prop:=
 match hi with
 |none=>K n
 |some a=>match a with
  | .pv x=>match x with
   | .int _ h=>(0<=h/\h<=n)/\K h.toNat
   |_=>False
  |_=>False
def fb(n:Nat)(lo hi:Option AV)(K:Nat->Nat->Prop):Prop:=
 match lo with
 |none=>upK n hi λh=>K 0 h
 |some a=>match a with
  | .pv x=>match x with
   | .int _ l=>upK n hi λh=>(0<=l/\l<=h)/\K l.toNat h
   |_=>False
  |_=>False
def evO(env:Env)(o:Option Operand)(K:Option AV->Prop):Prop:=
 match o with
 |none=>K none
 |some x=>ev env x λa=>K (some a)
def asInt(a:AV)(K:IntKind->Int->Prop):Prop:=
 match a with
 | .pv x=>match x with
  | .int k n=>K k n
  |_=>False
 |_=>False
def xB(off:Nat)(ag:Bool)(n:Nat)(cs:List PV)(K:PV->Prop):Prop:=
 xE off cs λr=>zV n r λt=>NL ag t K
def H3(l:List PV):(List AV->Prop)->Prop:=
 List.rec (λK=>K []) (λx _ ih K=>ih λt=>K (.pv x::t)) l
def wb(a:AV)(K:List AV->Prop):Prop:=
 match a with
 | .pv x=>match x with
  | .agg cs=>H3 cs K
  | .tup _=>False
  |x=>K [.pv x]
 | .agg cs=>K cs
 | .own id=>K [.own id]
 | .ref id idx off=>K [.ref id idx off]
 | .sub id sz lo n=>K [.sub id sz lo n]
 | .clo f gB=>K [.clo f gB]
 |_=>False
def WK(l:List AV)(K:AV->Prop):Prop:=Fh l (λt=>K (.pv (.agg t))) (K (.agg l))
def BK(ag:Bool)(cs:List AV)(K:AV->Prop):Prop:=
 match ag with
 |true=>WK cs K
 |false=>match cs with
  |[x]=>K x
  |_=>False
def Bl(σ:aw)(ag:Bool)(n:Nat)(a:AV)(K:AV->Prop):Prop:=
 match a with
 | .pv x=>match x with
  | .cptr y=>xB 0 ag n y.cells λr=>K (.pv r)
  |_=>False
 | .ref id idx off=>dm σ id λb=>match b with
  | .row _ _ _ ak=>∃y,ak[idx]?=some y/\xB off ag n y.cells λr=>K (.pv r)
  | .box _ cs=>xE off cs λr=>zV n r λt=>BK ag t K
  | .fz x=>match x with
   | .cptr y=>xB off ag n y.cells λr=>K (.pv r)
   |_=>False
  |_=>False
 |_=>False
def SP(sz:Nat)(xs:List PV):Bool:=
 List.rec true (λx _ ih=>match x with
  | .tup _=>false
  |x=>match Nat.beq x.cells.length sz with
   |true=>ih
   |false=>false) xs
def SJ(y:PV)(cs:List PV)(K:PV->Prop):Prop:=
 match y with
 | .agg _=>K (.agg cs)
 |_=>match cs with
  |[x]=>K x
  |_=>False
def Ow(σ:aw)(n:Nat)(a v:AV)(K:aw->Prop):Prop:=
 match a with
 | .ref id idx off=>dm σ id λb=>match b with
  | .row _ _ _ _=>fE σ v λx=>jy v σ λσ=>dm σ id λb=>match b with
   | .row e sz ap ak=>∃y,ak[idx]?=some y/\SP n [x]=true/\wK x.cells y.cells off λcs=>SJ y cs λy'=>iX σ id (.row e sz ap (ak.set idx y')) K
   |_=>False
  | .box e cs=>wb v λvs=>vs.length=n/\wK vs cs off λcs=>iX σ id (.box e cs) K
  |_=>False
 |_=>False
def Ge(σ:aw)(sz:Nat)(a:AV)(i:Int)(K:AV->Prop):Prop:=
 match a with
 | .pv x=>match x with
  | .sl s ak=>match Nat.beq s sz with
   |true=>∃y,(0<=i/\ak[i.toNat]?=some y)/\K (.pv (.cptr y))
   |false=>False
  |_=>False
 | .own id=>dm σ id λb=>match b with
  | .row _ s _ ak=>match Nat.beq s sz with
   |true=>(0<=i/\i.toNat<ak.length)/\K (.ref id i.toNat 0)
   |false=>False
  | .fz x=>match x with
   | .sl s ak=>match Nat.beq s sz with
    |true=>∃y,(0<=i/\ak[i.toNat]?=some y)/\K (.pv (.cptr y))
    |false=>False
   |_=>False
  |_=>False
 | .sub id z lo n=>match Nat.beq z sz with
  |true=>dm σ id λb=>match b with
   | .row _ s _ ak=>match Nat.beq s sz with
    |true=>((0<=i/\i.toNat<n)/\lo+n<=ak.length)/\K (.ref id (lo+i.toNat) 0)
    |false=>False
   | .fz x=>match x with
    | .sl s ak=>match Nat.beq s sz with
     |true=>∃y,((0<=i/\i.toNat<n/\lo+n<=ak.length)/\ak[lo+i.toNat]?=some y)/\K (.pv (.cptr y))
     |false=>False
    |_=>False
   |_=>False
  |false=>False
 |_=>False
def MU(σ:aw)(sz:Nat)(x:AV)(lo hi:Option AV)(K:AV->aw->Prop):Prop:=
 match x with
 | .pv x=>match x with
  | .sl s ak=>match Nat.beq s sz with
   |true=>fb ak.length lo hi λl h=>K (.pv (.sl sz (cut l h ak))) σ
   |false=>False
  | .nil s=>fb 0 lo hi λ_ _=>K (.pv (.nil s)) σ
  |_=>False
 | .own id=>dm σ id λb=>match b with
  | .row _ s _ ak=>match Nat.beq s sz with
   |true=>(fb ak.length lo hi λl h=>iX σ id (.fz (.sl sz ak)) λσ=>K (.pv (.sl sz (cut l h ak))) σ)\/fb ak.length lo hi λl h=>K (.sub id sz l (h-l)) σ
   |false=>False
  | .fz x=>match x with
   | .sl s ak=>match Nat.beq s sz with
    |true=>fb ak.length lo hi λl h=>K (.pv (.sl sz (cut l h ak))) σ
    |false=>False
   |_=>False
  |_=>False
 | .sub id s lo0 n=>match Nat.beq s sz with
  |true=>fb n lo hi λl h=>K (.sub id sz (lo0+l) (h-l)) σ
  |false=>False
 |_=>False
def afg(σ:aw)(n sz:Nat)(x:AV)(lo hi:Option AV)(K:AV->aw->Prop):Prop:=
 match x with
 | .ref id idx off=>match idx,off with
  |0,0=>dm σ id λb=>match b with
   | .row _ s _ ak=>match Nat.beq s sz with
    |true=>ak.length=n/\fb n lo hi λl h=>K (.sub id sz l (h-l)) σ
    |false=>False
   |_=>False
  |_,_=>False
 |_=>False
def Fb(σ:aw)(n sz:Nat)(x:AV)(i:Int)(K:AV->Prop):Prop:=
 match x with
 | .ref id idx off=>match idx,off with
  |0,0=>dm σ id λb=>match b with
   | .row _ s _ ak=>match Nat.beq s sz with
    |true=>(ak.length=n/\0<=i/\i.toNat<n)/\K (.ref id i.toNat 0)
    |false=>False
   |_=>False
  |_,_=>False
 |_=>False
def BS(σ:aw)(sz:Nat)(x:AV)(ys:List PV)(K:Nat->aw->Prop):Prop:=
 match x with
 | .pv x=>match x with
  | .nil _=>K 0 σ
  |_=>False
 | .own id=>dm σ id λb=>match b with
  | .row e s ap ak=>match Nat.beq s sz with
   |true=>iX σ id (.row e s ap (ys.take ak.length++ak.drop ys.length)) λσ=>K (min ys.length ak.length) σ
   |false=>False
  |_=>False
 | .sub id s lo n=>match Nat.beq s sz with
  |true=>dm σ id λb=>match b with
   | .row e s ap ak=>match Nat.beq s sz with
    |true=>lo+n<=ak.length/\iX σ id (.row e s ap (ak.take lo++ys.take n++ak.drop (lo+min ys.length n))) λσ=>K (min ys.length n) σ
    |false=>False
   |_=>False
  |false=>False
 |_=>False
def ME(σ:aw)(id:Nat)(p:Prop):Prop:=
 dm σ id λb=>match b with
  | .row _ _ _ _=>p
  | .box _ _=>p
  | .fz x=>match x with
   | .cptr _=>p
   |_=>False
  |_=>False
def F0(σ:aw)(off:Nat)(a:AV)(K:AV->Prop):Prop:=
 match a with
 | .pv x=>match x with
  | .cptr y=>xE off y.cells λr=>K (.pv (.cptr (.agg r)))
  |_=>False
 | .ref id idx o=>ME σ id (K (.ref id idx (Nat.add o off)))
 |_=>False
def JC(l:List (Int×Bool))(n:Int):Option Bool:=
 List.rec none (λp _ ih=>match decide (n=p.1)with|true=>some p.2|false=>ih) l
def UZ(σ:aw)(c:Bool)(x k:AV)(K:AV->Prop):Prop:=
 match x with
 | .own id=>dm σ id λb=>match b with
  | .mp l=>match k with
   | .pv y=>match y with
    | .int kd n=>match kd with
     | .i64=>match c with
      |true=>K (.tup [.pv (.bool ((JC l n).getD false)),.pv (.bool (JC l n).isSome)])
      |false=>K (.pv (.bool ((JC l n).getD false)))
     |_=>False
    |_=>False
   |_=>False
  |_=>False
 |_=>False
def aw_(σ:aw)(a:AV)(K:Bool->Prop):Prop:=
 match a with
 | .pv x=>match x with
  | .nil _=>K true
  | .sl _ ak=>∀r:Bool,(ak≠[]->r=false)->K r
  |_=>False
 | .own id=>dm σ id λb=>match b with
  | .row _ _ _ ak=>∀r:Bool,(ak≠[]->r=false)->K r
  | .fz x=>match x with
   | .sl _ ak=>∀r:Bool,(ak≠[]->r=false)->K r
   |_=>False
  |_=>False
 |_=>False
def EP(z:List AV)(ps:List (Nat×Nat×AV)):(List AV->Prop)->Prop:=
 List.rec (λz K=>K z)
  (λp _ ih z K=>wb p.2.2 λvs=>vs.length=p.2.1/\wK vs z p.1 λz=>ih z K) ps z
def Ay(env:Env)(l:List (Nat×Nat×Operand)):(List (Nat×Nat×AV)->Prop)->Prop:=
 List.rec (λK=>K []) (λo _ ih K=>ev env o.2.2 λa=>ih λl=>K ((o.1,o.2.1,a)::l)) l
def TW(σ:aw)(e:TypeId)(sz bytes:Nat)(x:AV)(ys:List PV)(K:AV->aw->Prop):Prop:=
 match x with
 | .pv x=>match x with
  | .nil _=>(ys.length*bytes<=140737488355328/\ys.length<=9223372036854775807)/\iW σ λn=>eo σ (.row e sz true ys) λσ=>K (.own n) σ
  |_=>False
 | .own id=>dm σ id λb=>match b with
  | .row e' s ap ak=>match ap,Nat.beq s sz,Nat.beq e' e with
   |true,true,true=>((ak.length+ys.length)*bytes<=140737488355328/\ak.length+ys.length<=9223372036854775807)/\
    iX σ id .dead λσ=>iW σ λn=>eo σ (.row e sz true (ak++ys)) λσ=>K (.own n) σ
   |_,_,_=>False
  |_=>False
 |_=>False
def vZ(l:List AV):aw->(List PV->aw->Prop)->Prop:=
 List.rec (λσ K=>K [] σ) (λa _ ih σ K=>match a with
  | .ref id _ off=>dm σ id λb=>match b,off with
   | .box _ cs,0=>bJ σ cs λt=>jw t λx=>dW cs σ λσ=>iX σ id (.fz (.cptr x)) λσ=>ih σ λxs σ=>K (.cptr x::xs) σ
   | .fz x,0=>match x with
    | .cptr y=>ih σ λxs σ=>K (.cptr y::xs) σ
    |_=>False
   |_,_=>False
  | .pv x=>match x with
   | .cptr y=>ih σ λxs σ=>K (.cptr y::xs) σ
   |_=>False
  |_=>False) l
def Oa(n:Nat)(l:List Nat):Bool:=List.rec false (λa _ ih=>Bool.rec ih true (Nat.beq a n)) l
def OM(n:Nat)(l:List Nat)(K:List Nat->Prop):Prop:=Bool.rec (eo l n K) (K l) (Oa n l)
def Vc(a:AV):List Nat->(List Nat->Prop)->Prop:=
 AV.rec (motive_1:=λ_=>List Nat->(List Nat->Prop)->Prop) (motive_2:=λ_=>List Nat->(List Nat->Prop)->Prop)
  (λl K=>K l) (λ_ l K=>K l) (λid l K=>OM id l K) (λid _ _ l K=>OM id l K) (λid _ _ _ l K=>OM id l K)
  (λ_ ih l K=>ih l K) (λ_ ih l K=>ih l K) (λ_ _ ih l K=>ih l K) (λl K=>K l) (λ_ _ h t l K=>h l λl=>t l K) a
def I3(aHk:List AV):List Nat->(List Nat->Prop)->Prop:=
 List.rec (λl K=>K l) (λa _ ih l K=>Vc a l λl=>ih l K) aHk
def XM(e:Env):List Nat->(List Nat->Prop)->Prop:=
 List.rec (λl K=>K l) (λa _ ih l K=>Vc a.2 l λl=>ih l K) e
def Fx(σ:aw)(r:List Nat):List Nat->(List Nat->Prop)->Prop:=
 List.rec (λl K=>K l)
  (λi _ ih l K=>dm σ i λb=>match b with
    | .box _ cs=>I3 cs l λl=>ih l K
    |_=>ih l K) r
def Ah(σ:aw):Nat->List Nat->(List Nat->Prop)->Prop:=
 List.rec (λ_ l K=>K l)
  (λb _ ih n l K=>match b with
    | .pool _ _ _ _=>OM n l λl=>ih (Nat.succ n) l K
    |_=>ih (Nat.succ n) l K) σ
def yU(n:Nat)(l:List Nat):(Nat->Prop)->Prop->Prop:=
 List.rec (λ_ E=>E)
  (λa _ ih K E=>Bool.rec (ih (λj=>K (Nat.succ j)) E) (K 0) (Nat.beq a n)) l
def Uj(r:List Nat)(a:AV):(AV->Prop)->Prop:=
 AV.rec (motive_1:=λ_=>(AV->Prop)->Prop) (motive_2:=λ_=>(List AV->Prop)->Prop)
  (λK=>K .bad) (λx K=>K (.pv x)) (λid K=>yU id r (λj=>K (.own j)) False) (λid i o K=>yU id r (λj=>K (.ref j i o)) False) (λid s l n K=>yU id r (λj=>K (.sub j s l n)) False)
  (λ_ ih K=>ih λl=>K (.agg l)) (λ_ ih K=>ih λl=>K (.tup l)) (λf _ ih K=>ih λl=>K (.clo f l)) (λK=>K []) (λ_ _ h t K=>h λa=>t λl=>K (a::l)) a
def Ih(r:List Nat)(l:List AV):(List AV->Prop)->Prop:=
 List.rec (λK=>K []) (λa _ ih K=>Uj r a λa=>ih λl=>K (a::l)) l
def aaf(r:List Nat)(e:Env):(Env->Prop)->Prop:=
 List.rec (λK=>K []) (λa _ ih K=>Uj r a.2 λv=>ih λl=>K ((a.1,v)::l)) e
def ZP(r:List Nat)(b:cu)(K:cu->Prop):Prop:=
 match b with
 | .box e cs=>Ih r cs λcs=>K (.box e cs)
 | .pool e sz l lt=>match lt with
  |[]=>K (.pool e sz l [])
  |_=>False
 |b=>K b
def JT(σ:aw)(r l:List Nat):(aw->Prop)->Prop:=
 List.rec (λK=>K []) (λi _ ih K=>dm σ i λb=>ZP r b λb=>ih λt=>K (b::t)) l
def aw3(σ:aw):List Nat->Nat->(List Nat->Prop)->Prop:=
 List.rec (λ_ _ K=>K [])
  (λ_ _ ih r L K=>match r with
    |a::r=>ih r L λt=>K (a::t)
    |[]=>ih [] (Nat.succ L) λt=>K (L::t)) σ
def adC(ρ:List Nat)(a:AV):(AV->Prop)->Prop:=
 AV.rec (motive_1:=λ_=>(AV->Prop)->Prop) (motive_2:=λ_=>(List AV->Prop)->Prop)
  (λK=>K .bad) (λx K=>K (.pv x)) (λid K=>dm ρ id λj=>K (.own j)) (λid i o K=>dm ρ id λj=>K (.ref j i o)) (λid s l n K=>dm ρ id λj=>K (.sub j s l n))
  (λ_ ih K=>ih λl=>K (.agg l)) (λ_ ih K=>ih λl=>K (.tup l)) (λf _ ih K=>ih λl=>K (.clo f l)) (λK=>K []) (λ_ _ h t K=>h λa=>t λl=>K (a::l)) a
def afj(ρ:List Nat)(l:List AV):(List AV->Prop)->Prop:=
 List.rec (λK=>K []) (λa _ ih K=>adC ρ a λa=>ih λl=>K (a::l)) l
def afc(ρ:List Nat)(b:cu)(K:cu->Prop):Prop:=
 match b with
 | .box e cs=>afj ρ cs λcs=>K (.box e cs)
 | .pool e sz l lt=>match lt with
  |[]=>K (.pool e sz l [])
  |_=>False
 |b=>K b
def UQ(ρ:List Nat)(σ1:aw):List Nat->aw->(aw->Prop)->Prop:=
 List.rec (λ_ σ K=>K σ)
  (λb _ ih r σ K=>afc ρ b λb=>match r with
    |a::r=>iX σ a b λσ=>ih r σ K
    |[]=>eo σ b λσ=>ih [] σ K) σ1
def ax_(r:List Nat)(σ:aw)(res:AV)(σ1:aw)(K:AV->aw->Prop):Prop:=
 iW σ λL=>aw3 σ1 r L λρ=>adC ρ res λres=>UQ ρ σ1 r σ λσ=>K res σ
def X6(run:List AV->aw->(AV->aw->Prop)->Prop)(aHk:List AV)(σ:aw)(K:AV->aw->Prop):Prop:=
 I3 aHk [] λl=>Fx σ l l λr=>Ah σ 0 r λr=>Ih r aHk λas'=>JT σ r r λσ0=>run as' σ0 λres σ1=>ax_ r σ res σ1 K
def BA(S:Spec)(aHk:List AV)(σ:aw)(K:AV->aw->Prop):Prop:=
 match S.mu with
 |true=>X6 S.um aHk σ K
 |false=>bJ σ aHk λps=>match S.lone with
  |true=>S.run ps λr=>re r σ K
  |false=>dW aHk σ λσ=>S.run ps λr=>re r σ K
def Yn(l m:List AV):(List AV->Prop)->Prop:=
 List.rec (λK=>K m) (λa _ ih K=>ih λt=>K (a::t)) l
def Ni(Γ:Ctx)(f:AV)(aHk:List AV)(σ:aw)(K:AV->aw->Prop):Prop:=
 match f with
 | .pv x=>match x with
  | .clo g gB=>H3 gB λcs=>Yn aHk cs λaHk=>BA (Γ g) aHk σ K
  |_=>False
 | .clo g cs=>Yn aHk cs λaHk=>BA (Γ g) aHk σ K
 |_=>False
def ia(Γ:Ctx)(env:Env)(σ:aw)(k:PK)(K:AV->aw->Prop):Prop:=
 match k with
 | .mv x=>ev env x λa=>K a σ
 | .nilS sz=>K (.pv (.nil sz)) σ
 | .nilR e sz=>iW σ λn=>eo σ (.row e sz true []) λσ=>K (.own n) σ
 | .pick c a b=>ev env c λc=>match c with
  | .pv c=>match c with
   | .bool c=>match c with
    |true=>ev env a λa=>K a σ
    |false=>ev env b λa=>K a σ
   |_=>False
  |_=>False
 | .bin op x y=>ev env x λx=>ev env y λy=>match x,y with
  | .pv x,.pv y=>adK op x y λr=>K (.pv r) σ
  |_,_=>False
 | .eqb neg x y=>ev env x λx=>ev env y λy=>match x,y with
  | .pv x,.pv y=>match x,y with
   | .bool a,.bool b=>match neg with
    |false=>sj (a=b) λr=>K (.pv r) σ
    |true=>sj (a≠b) λr=>K (.pv r) σ
   |_,_=>False
  |_,_=>False
 | .eqs neg ks x y=>ev env x λx=>ev env y λy=>match x,y with
  | .pv x,.pv y=>match x,y with
   | .agg a,.agg b=>match o0 ks a b with
    |true=>match neg with
     |false=>sj (a=b) λr=>K (.pv r) σ
     |true=>sj (a≠b) λr=>K (.pv r) σ
    |false=>False
   |_,_=>False
  |_,_=>False
 | .un op x=>ev env x λx=>match x with
  | .pv x=>unP op x λr=>K (.pv r) σ
  |_=>False
 | .conv c x=>ev env x λx=>match c with
  | .toInt k=>asInt x λ_ n=>Qs k n λr=>K (.pv r) σ
  | .same=>match x with
   | .pv x=>match x with
    | .str l=>K (.pv (.str l)) σ
    |_=>False
   |_=>False
  | .bts=>uO σ x λ_ ak=>∃l:List UInt8,ak=l.map aR/\K (.pv (.str l)) σ
  | .stb e=>match x with
   | .pv x=>match x with
    | .str l=>l.length<=9223372036854775807/\iW σ λn=>eo σ (.row e 1 false (l.map aR)) λσ=>K (.own n) σ
    |_=>False
   |_=>False
 | .lenS x=>ev env x λx=>match x with
  | .pv x=>match x with
   | .str l=>K (.pv (.int .i64 l.length)) σ
   |_=>False
  |_=>False
 | .lenR x=>ev env x λx=>uO σ x λ_ ak=>ak.length<=9223372036854775807->K (.pv (.int .i64 ak.length)) σ
 | .lenN x=>ev env x λx=>uO σ x λ_ ak=>K (.pv (.int .i64 ak.length)) σ
 | .mm mx x y=>ev env x λx=>ev env y λy=>asInt x λk a=>asInt y λ_ b=>
  match mx with
  |true=>∀r:Int,r=max a b->K (.pv (.int k r)) σ
  |false=>∀r:Int,r=min a b->K (.pv (.int k r)) σ
 | .idx x i=>ev env x λx=>ev env i λi=>asInt i λ_ i=>match x with
  | .pv x=>match x with
   | .str l=>∃b,(0<=i/\l[i.toNat]?=some b)/\K (.pv (aR b)) σ
   |_=>False
  |_=>False
 | .slcS x lo hi=>ev env x λx=>evO env lo λlo=>evO env hi λhi=>match x with
  | .pv x=>match x with
   | .str s=>fb s.length lo hi λl h=>K (.pv (.str (cut l h s))) σ
   |_=>False
  |_=>False
 | .slcR sz x lo hi=>ev env x λx=>evO env lo λlo=>evO env hi λhi=>MU σ sz x lo hi K
 | .idxA sz x i=>ev env x λx=>ev env i λi=>asInt i λ_ i=>Ge σ sz x i λa=>K a σ
 | .fldA off x=>ev env x λx=>F0 σ off x λa=>K a σ
 | .fld off ag n x=>ev env x λx=>match x with
  | .pv x=>match x with
   | .agg cs=>xB off ag n cs λr=>K (.pv r) σ
   |_=>False
  | .agg cs=>xE off cs λr=>zV n r λt=>BK ag t λa=>K a σ
  |_=>False
 | .load ag n x=>ev env x λx=>Bl σ ag n x λa=>K a σ
 | .store n x v=>ev env x λx=>ev env v λv=>Ow σ n x v λσ=>K .bad σ
 | .alloc e z=>H3 z.cells λcs=>iW σ λn=>eo σ (.box e cs) λσ=>K (.ref n 0 0) σ
 | .box e x=>ev env x λx=>wb x λcs=>iW σ λn=>eo σ (.box e cs) λσ=>K (.ref n 0 0) σ
 | .build z parts=>Ay env parts λps=>H3 z λz=>EP z ps λcs=>WK cs λa=>K a σ
 | .bslice e sz parts=>evs env parts λaHk=>bJ σ aHk λxs=>SP sz xs=true/\dW aHk σ λσ=>iW σ λn=>eo σ (.row e sz true xs) λσ=>K (.own n) σ
 | .bslP e sz parts=>evs env parts λaHk=>bJ σ aHk λxs=>SP sz xs=true/\dW aHk σ λσ=>iW σ λn=>eo σ (.row e sz true xs) λσ=>K (.own n) σ
 | .app e sz bytes x y=>ev env x λx=>ev env y λy=>uO σ y λs ys=>match Nat.beq s sz with
  |true=>TW σ e sz bytes x ys K
  |false=>False
 | .appS e bytes x y=>ev env x λx=>ev env y λy=>match y with
  | .pv y=>match y with
   | .str l=>TW σ e 1 bytes x (l.map aR) K
   |_=>False
  |_=>False
 | .mksl e sz bytes z l c=>ev env l λl=>ev env c λc=>asInt l λ_ l=>asInt c λ_ c=>
  (0<=l/\l<=c/\(bytes:Int)*c<=281474976710656/\c<=9223372036854775807)/\iW σ λn=>eo σ (.row e sz true (List.replicate l.toNat z)) λσ=>K (.own n) σ
 | .call f args=>evs env args λaHk=>BA (Γ f) aHk σ K
 | .callv f args=>ev env f λf=>evs env args λaHk=>Ni Γ f aHk σ K
 | .ext x i=>ev env x λx=>match x with
  | .tup l=>dm l i λa=>K a σ
  | .pv x=>match x with
   | .tup l=>dm l i λa=>K (.pv a) σ
   |_=>False
  |_=>False
 | .nilck x=>ev env x λx=>match x with
  | .ref id idx off=>ME σ id (K (.ref id idx off) σ)
  | .pv x=>match x with
   | .cptr y=>K (.pv (.cptr y)) σ
   | .clo f cs=>K (.pv (.clo f cs)) σ
   |_=>False
  | .clo f cs=>K (.clo f cs) σ
  |_=>False
 | .mkf f gB=>evs env gB λaHk=>match (Γ f).mu with
  |true=>K (.clo f aHk) σ
  |false=>vZ aHk σ λxs σ=>K (.pv (.clo f xs)) σ
 | .fail=>False
 | .junk=>K .bad σ
 | .cpy sz x y=>ev env x λx=>ev env y λy=>uO σ y λs ys=>match Nat.beq s sz with
  |true=>BS σ sz x ys λn σ=>K (.pv (.int .i64 n)) σ
  |false=>False
 | .cpyS x y=>ev env x λx=>ev env y λy=>match y with
  | .pv y=>match y with
   | .str l=>BS σ 1 x (l.map aR) λn σ=>K (.pv (.int .i64 n)) σ
   |_=>False
  |_=>False
 | .clr sz z x=>ev env x λx=>uO σ x λ_ ak=>BS σ sz x (List.replicate ak.length z) λ_ σ=>K .bad σ
 | .mkarr e sz z n=>iW σ λm=>eo σ (.row e sz false (List.replicate n z)) λσ=>K (.ref m 0 0) σ
 | .idxAr n sz x i=>ev env x λx=>ev env i λi=>asInt i λ_ i=>Fb σ n sz x i λa=>K a σ
 | .slcA n sz x lo hi=>ev env x λx=>evO env lo λlo=>evO env hi λhi=>afg σ n sz x lo hi K
 | .look c x k=>ev env x λx=>ev env k λk=>UZ σ c x k λr=>K r σ
 | .isnil neg x=>ev env x λx=>aw_ σ x λr=>K (.pv (.bool (xor r neg))) σ
 | .idxV m sz ag n x i=>ev env x λx=>ev env i λi=>asInt i λ_ i=>(0<=i/\i.toNat<m)/\match x with
  | .pv x=>match x with
   | .agg cs=>xB (Nat.mul i.toNat sz) ag n cs λr=>K (.pv r) σ
   |_=>False
  | .agg cs=>xE (Nat.mul i.toNat sz) cs λr=>zV n r λt=>BK ag t λa=>K a σ
  |_=>False
 | .fldV m sz x i=>ev env x λx=>ev env i λi=>asInt i λ_ i=>(0<=i/\i.toNat<m)/\F0 σ (Nat.mul i.toNat sz) x λa=>K a σ
def put(d:Option Nat)(v:AV)(env:Env):Env:=match d with|some d=>(d,v)::env|none=>env
def LP(Γ:Ctx)(K:Env->aw->Prop)(ops:List PO):Env->aw->Prop:=
 List.rec K (λo _ ih env σ=>
  match o.g with
  |none=>ia Γ env σ o.k λv σ=>ih (put o.dst v env) σ
  |some (g,want)=>look g (λgv=>match gv with
   | .pv x=>match x with
    | .bool b=>match b with
     |true=>(match want with
      |true=>ia Γ env σ o.k λv σ=>ih (put o.dst v env) σ
      |false=>ih (put o.dst (.pv (.tup [])) env) σ)
     |false=>(match want with
      |false=>ia Γ env σ o.k λv σ=>ih (put o.dst v env) σ
      |true=>ih (put o.dst (.pv (.tup [])) env) σ)
    | .tup _=>ih (put o.dst (.pv (.tup [])) env) σ
    |_=>False
   |_=>False) env) ops
def Bt(Γ:Ctx)(o:PO)(env:Env)(σ:aw)(K:Env->aw->Prop):Prop:=
 match o.g with
 |none=>ia Γ env σ o.k λv σ=>K (put o.dst v env) σ
 |some (g,want)=>look g (λgv=>match gv with
  | .pv x=>match x with
   | .bool b=>match b with
    |true=>(match want with
     |true=>ia Γ env σ o.k λv σ=>K (put o.dst v env) σ
     |false=>K (put o.dst (.pv (.tup [])) env) σ)
    |false=>(match want with
     |false=>ia Γ env σ o.k λv σ=>K (put o.dst v env) σ
     |true=>K (put o.dst (.pv (.tup [])) env) σ)
   | .tup _=>K (put o.dst (.pv (.tup [])) env) σ
   |_=>False
  |_=>False) env
def mc:Value:=.slice none 0 0
def sT(l:List (Value×List PV))(s:Nat):List PV->List PV->Prop
 |[],[]=>True
 |c::cs,d::ds=>(d=c∨∃p∈l,c=.val p.1/\d=.sl s p.2)/\sT l s cs ds
 |_,_=>False
def u4(l:List (Value×List PV))(s:Nat):List PV->List PV->Prop
 |[],[]=>True
 |x::xs,y::ys=>sT l s x.cells y.cells/\u4 l s xs ys
 |_,_=>False
def mq(σ:aw):Bool:=List.rec false (λb _ ih=>match b with| .pool _ _ _ _=>true|_=>ih) σ
inductive GA where
 |put (n q:Nat)
 |take (q j t:Nat)
 |back (n q j:Nat)
 |solve (n q:Nat) (ak:List PV)
 |lend (q j:Nat)
 |drop (q n:Nat)
 |nrow (n i:Nat) (e:TypeId)
def gaK(g:GA)(env:Env)(σ:aw)(K:Env->aw->Prop):Prop:=
 match g with
 | .put n q=>dm σ n λb=>match b with
  | .row e sz ap ak=>dm σ q λc=>match c with
   | .pool e' CG l lt=>(e=e'/\sz=CG/\ap=true)∧∀h:Value,iX σ n (.fz (.val h)) λσ=>iX σ q (.pool e' CG (l++[(h,ak)]) lt) λσ=>K env σ
   |_=>False
  |_=>False
 | .take q j t=>look t (λa=>match a with
  | .pv x=>match x with
   | .val h=>dm σ q λc=>match c with
    | .pool e sz l lt=>∃xs,l[j]?=some (h,xs)/\iW σ λn=>iX σ q (.pool e sz (l.set j (mc,[])) ((n,h)::lt)) λσ=>eo σ (.row e sz true xs) λσ=>K ((t,.own n)::env) σ
    |_=>False
   |_=>False
  |_=>False) env
 | .back n q j=>dm σ n λb=>match b with
  | .row e sz ap ak=>dm σ q λc=>match c with
   | .pool e' CG l lt=>(e=e'/\sz=CG/\ap=true)∧∃h,(n,h)∈lt/\iX σ n (.fz (.val h)) λσ=>iX σ q (.pool e' CG (l.set j (h,ak)) (lt.filter λp=>!Nat.beq p.1 n)) λσ=>K env σ
   |_=>False
  |_=>False
 | .solve n q els'=>dm σ n λb=>match b with
  | .row e sz ap ak=>dm σ q λc=>match c with
   | .pool _ s2 l _=>u4 l s2 ak els'/\iX σ n (.row e sz ap els') λσ=>iX σ q .dead λσ=>K env σ
   |_=>False
  |_=>False
 | .lend q j=>dm σ q λc=>match c with
  | .pool e sz l lt=>∃h xs,l[j]?=some (h,xs)/\iW σ λn=>iX σ q (.pool e sz (l.set j (mc,[])) ((n,h)::lt)) λσ=>eo σ (.row e sz true xs) λσ=>K env σ
  |_=>False
 | .drop q n=>dm σ q λc=>match c with
  | .pool e sz l lt=>iX σ q (.pool e sz l (lt.filter λp=>!Nat.beq p.1 n)) λσ=>K env σ
  |_=>False
 | .nrow n i e=>dm σ n λb=>match b with
  | .box e' cs=>dm cs i λa=>match a with
   | .pv x=>match x with
    | .nil s=>0<s/\iW σ λL=>iX cs i (.own L) λcs=>iX σ n (.box e' cs) λσ=>eo σ (.row e s true []) λσ=>K env σ
    |_=>False
   |_=>False
  |_=>False
def Oo(gs:List GA):Env->aw->(Env->aw->Prop)->Prop:=
 List.rec (λenv σ K=>K env σ) (λg _ ih env σ K=>gaK g env σ λenv σ=>ih env σ K) gs
def vcX(Γ:Ctx)(K:Env->aw->Prop)(ops:List PO):Env->aw->Prop:=
 List.rec K (λo _ ih env σ=>match mq σ with
  |false=>Bt Γ o env σ ih
  |true=>∃gs:List GA,Oo gs env σ λenv σ=>Bt Γ o env σ ih) ops
def Iw(p:Nat)(e:Env):AV:=
 List.rec .bad (λhd _ ih=>Bool.rec ih hd.2 (Nat.beq hd.1 p)) e
def jJ:Operand->List Nat
 | .tmp t=>[t]
 |_=>[]
def rdO:Option Operand->List Nat
 |some x=>jJ x
 |none=>[]
def PK.reads:PK->List Nat
 | .mv x| .un _ x| .conv _ x| .lenS x| .lenR x| .lenN x| .fldA _ x| .fld _ _ _ x| .load _ _ x| .box _ x| .ext x _| .nilck x=>jJ x
 | .nilS _| .nilR _ _| .alloc _ _| .fail| .junk| .mkarr _ _ _ _=>[]
 | .cpy _ x y| .cpyS x y| .idxAr _ _ x y=>jJ x++jJ y
 | .clr _ _ x=>jJ x
 | .isnil _ x=>jJ x
 | .look _ x y=>jJ x++jJ y
 | .idxV _ _ _ _ x y| .fldV _ _ x y=>jJ x++jJ y
 | .slcA _ _ x lo hi=>jJ x++(rdO lo++rdO hi)
 | .pick c a b=>jJ c++(jJ a++jJ b)
 | .bin _ x y| .eqb _ x y| .eqs _ _ x y| .mm _ x y| .idx x y| .idxA _ x y| .store _ x y| .app _ _ _ x y| .appS _ _ x y=>jJ x++jJ y
 | .mksl _ _ _ _ x y=>jJ x++jJ y
 | .slcS x lo hi| .slcR _ x lo hi=>jJ x++(rdO lo++rdO hi)
 | .build _ ps=>ps.flatMap λp=>jJ p.2.2
 | .bslice _ _ l| .bslP _ _ l| .call _ l| .mkf _ l=>l.flatMap jJ
 | .callv f l=>jJ f++l.flatMap jJ
def PK.pure(Γ:Ctx):PK->Bool
 | .mv _| .nilS _| .pick _ _ _| .bin _ _ _| .eqb _ _ _| .eqs _ _ _ _| .un _ _| .lenS _| .lenN _| .mm _ _ _| .idx _ _| .slcS _ _ _| .idxA _ _ _| .idxAr _ _ _ _| .fldA _ _| .fld _ _ _ _| .load _ _ _| .ext _ _| .nilck _| .build _ _| .idxV _ _ _ _ _ _| .fldV _ _ _ _=>true
 | .conv c _=>match c with| .stb _=>false|_=>true
 | .call f _=>(Γ f).fn
 |_=>false
def PK.plain:PK->PK
 | .lenR x=>.lenN x
 | .bslice e sz l=>.bslP e sz l
 |k=>k
def PO.plain(o:PO):PO:=⟨o.dst,o.g,o.k.plain⟩
def PO.reads(o:PO):List Nat:=(match o.g with|some (g,_)=>[g]|none=>[])++o.k.reads
def DY(p o:PO):Bool:=
 (match p.dst with|some d=>o.reads.contains d||(match o.dst with|some e=>d==e|none=>false)|none=>false)||
 (match o.dst with|some d=>p.reads.contains d|none=>false)
def Td(aft:List (List Nat)):List (List Nat):=
 aft.foldl (λacc l=>acc++[(l++l.flatMap λe=>acc.getD e []).eraseDups]) []
def MP(aft bs:List (List Nat)):Bool:=
 aft.zipIdx.all λ(l,i)=>l.all (λe=>Nat.blt e i)&&(bs.getD i []).all λj=>l.contains j||l.any λe=>(bs.getD e []).contains j
def PK.still:PK->Bool
 | .mv _| .nilS _| .pick _ _ _| .bin _ _ _| .eqb _ _ _| .eqs _ _ _ _| .un _ _| .lenS _| .mm _ _ _| .ext _ _=>true
 | .conv c _=>match c with| .toInt _=>true|_=>false
 |_=>false
def PK.al:PK->Bool
 | .alloc _ _| .box _ _=>true
 |_=>false
def KF(Γ:Ctx)(o p:PO):Bool:=o.k.pure Γ&&p.k.pure Γ
def E6(Γ:Ctx)(ops:List PO)(aft:List (List Nat)):Bool:=
 let bs:=Td aft
 aft.length==ops.length&&MP aft bs&&ops.zipIdx.all λ(o,i)=>ops.zipIdx.all λ(p,j)=>
  !Nat.blt j i||(bs.getD i []).contains j||(KF Γ o p&&!DY p o)
def AV.ids(a:AV):List Nat:=
 AV.rec (motive_1:=λ_=>List Nat) (motive_2:=λ_=>List Nat) [] (λ_=>[]) (λid=>[id]) (λid _ _=>[id]) (λid _ _ _=>[id])
  (λ_ ih=>ih) (λ_ ih=>ih) (λ_ _ ih=>ih) [] (λ_ _ h t=>h++t) a
def N4(l:List AV):List Nat:=List.rec [] (λa _ ih=>a.ids++ih) l
def SG(env:Env)(l:List Nat):List Nat:=List.rec [] (λt _ ih=>(Iw t env).ids++ih) l
def Gz(σ:aw)(l:List Nat):List Nat:=List.rec [] (λi _ ih=>(match σ[i]? with|some (.box _ cs)=>N4 cs|_=>[])++ih) l
def PK.dk(Γ:Ctx)(k:PK):Bool:=
 k.pure Γ||k.still||k.al||match k with
  | .store _ _ _| .app _ _ _ _ _| .slcR _ _ _ _| .cpy _ _ _| .cpyS _ _| .look _ _ _| .bslP _ _ _=>true
  | .mkf f _=>!(Γ f).mu
  | .call f _=>(Γ f).dt
  |_=>false
def PK.turns(Γ:Ctx)(k:PK):Bool:=
 match k with
  | .store _ _ _| .app _ _ _ _ _| .slcR _ _ _ _| .mkf _ _| .cpy _ _ _| .cpyS _ _| .bslP _ _ _=>true
  | .call f _=>!(Γ f).fn&&!(Γ f).lone
  |_=>false
def PK.reach(k:PK)(env:Env)(σ:aw):List Nat:=
 match k.still||k.al with
 |true=>[]
 |false=>match k with
  | .mkf _ _=>SG env k.reads++Gz σ (SG env k.reads)
  |k=>SG env k.reads
abbrev Lg:=Nat×List Nat×List Nat
def Ur(nm:Option (Nat×Nat))(d:Option Nat)(env au:Env)(σ σ':aw)(K:Env->List Nat->Prop):Prop:=
 match nm with
 |none=>K au []
 |some p=>match d with
  |none=>False
  |some t=>look t (λa=>match a with
   | .pv x=>match x with
    | .val h=>dm σ' p.1 λc=>match c with
     | .pool _ _ _ lt=>((p.2,h)∈lt/\p.1<σ.length/\p.2<σ.length)/\K ((t,.own p.2)::env) [p.1,p.2]
     |_=>False
    |_=>False
   |_=>False) au
def vcD(Γ:Ctx)(K:List Lg->Env->aw->Prop)(ops:List PO):List Lg->Env->aw->Prop:=
 List.rec (λlog env σ=>K log env σ) (λo _ ih log env σ=>
  Bt Γ o env σ λau σ'=>match mq σ' with
   |false=>ih ((σ'.length,o.k.reach env σ,(match o.dst with|some d=>(Iw d au).ids|none=>[]))::log) au σ'
   |true=>∃nm:Option (Nat×Nat),Ur nm o.dst env au σ σ' λtX ex=>ih ((σ'.length,o.k.reach env σ++ex,(match o.dst with|some d=>(Iw d tX).ids|none=>[]))::log) tX σ') ops
def apart(l m:List Nat):Bool:=l.all λi=>!m.contains i
def axl(n:Nat)(l:List Nat):Bool:=l.all λi=>Nat.blt i n
def adY(a b:Nat)(l:List Nat):Bool:=l.all λi=>Nat.blt i a||Nat.ble b i
def H5(Γ:Ctx)(ops:List PO)(aft:List (List Nat)):Bool:=aft.length==ops.length&&MP aft (Td aft)&&ops.all λo=>o.k.dk Γ
def avg(n0:Nat)(lg:List Lg)(i:Nat):Nat:=match i with|0=>n0|i+1=>(lg.getD i (0,[],[])).1
def acP(Γ:Ctx)(ops:List PO)(aft:List (List Nat))(n0:Nat)(log:List Lg):Bool:=
 let bs:=Td aft
 let lg:=log.reverse
 let len:=avg n0 lg
 let A:=λi=>(lg.getD i (0,[],[])).2.1
 let V:=λi=>(lg.getD i (0,[],[])).2.2
 let M:=λ(i:Nat) (o:PO)=>match o.k.turns Γ with|true=>A i|false=>[]
 ops.zipIdx.all λ(o,i)=>axl (len (i+1)) (V i)&&ops.zipIdx.all λ(p,j)=>
  !Nat.blt j i||(bs.getD i []).contains j||(!DY p o&&apart (M j p) (A i)&&adY (len j) (len (j+1)) (A i)&&apart (M i o) (A j)&&adY (len i) (len (i+1)) (A j)&&adY (len j) (len (j+1)) (V i))
structure ah0(a b:Prop):Prop where
 l:a
 r:b
def ada(l:List Nat)(P:Nat->Prop):Prop:=List.rec True (λi t ih=>match t with|[]=>P i|_=>ah0 (P i) ih) l
def Jg(aft:List (List Nat))(done:List Nat):List Nat:=(List.range aft.length).filter λi=>!done.contains i&&(aft.getD i []).all λj=>done.contains j
def vcL(Γ:Ctx)(K:Env->aw->Prop)(ops:List PO)(aft:List (List Nat))(n:Nat):List Nat->Env->aw->Prop:=
 Nat.rec (λ_ env σ=>K env σ) (λ_ ih done env σ=>ada (Jg aft done) λi=>∃gs:List GA,Oo gs env σ λenv σ=>Bt Γ (ops.getD i ⟨none,none,.nilS 0⟩) env σ (ih (i::done))) n
def Uz(ops:List PO)(aft:List (List Nat)):Bool:=aft.length==ops.length&&MP aft (Td aft)
def canon(env:Env)(ps:List Nat):(Env->Prop)->Prop:=
 List.rec (λK=>K []) (λp _ ih K=>look p (λv=>ih λr=>K ((p,v)::r)) env) ps
def gc(pin:List Nat)(env:Env)(σ:aw)(ps:List Nat)(K:Env->aw->Prop):Prop:=
 canon env ps λenv=>XM env pin λl=>Fx σ l l λr=>Ah σ 0 r λr=>aaf r env λenv=>JT σ r r λσ=>K env σ
inductive Ex where
 |normal|exit (id:Nat)|ret
def ac5(B:Env->aw->Prop)(Q:Ex->Env->aw->Prop):Ex->Env->aw->Prop
 | .normal,e,σ=>B e σ
 | .exit i,e,σ=>Q (.exit i) e σ
 | .ret,e,σ=>Q .ret e σ
def Tw(id:Nat)(Q:Ex->Env->aw->Prop):Ex->Env->aw->Prop
 | .exit i,e,σ=>match Nat.beq i id with|true=>Q .normal e σ|false=>Q (.exit i) e σ
 | .normal,e,σ=>Q .normal e σ
 | .ret,e,σ=>Q .ret e σ
def Ng(pin ps:List Nat)(B:(Ex->Env->aw->Prop)->Env->aw->Prop)(Q:Ex->Env->aw->Prop)(env:Env)(σ:aw):Prop:=
 ∃(I:Nat->Env->aw->Prop) (n:Nat),I n env σ∧∀n env σ,I n env σ->B (ac5 (λe σ=>gc pin e σ ps λe' σ'=>∃m,m<n/\I m e' σ') Q) env σ
def X5(ps:List Nat):List PV->Env->(Env->Prop)->Prop:=
 List.rec (λxs env K=>match xs with|[]=>K env|_=>False)
  (λp _ ih xs env K=>match xs with|[]=>False|x::xs=>ih xs ((p,.pv x)::env) K) ps
def LA(σ:aw):Bool:=List.rec true (λb _ ih=>match b with| .mp _=>false|_=>ih) σ
def SM(pin ps:List Nat)(Q:Ex->Env->aw->Prop)(env:Env)(I:List (List PV)->aw->Prop)(L pre:List (List PV)):Ex->Env->aw->Prop
 | .normal,_,σ=>gc pin env σ ps λau σ'=>au=env/\LA σ'=true/\I pre σ'
 | .exit i,_,σ=>LA σ=true/\(pre<+:L->Q (.exit i) env σ)
 | .ret,_,σ=>LA σ=true/\(pre<+:L->Q .ret env σ)
def NP(Γ:Ctx)(pin qs ps:List Nat)(aaH:List PO)(B:(Ex->Env->aw->Prop)->Env->aw->Prop)(Q:Ex->Env->aw->Prop)(f:AV)(env:Env)(σ0:aw):Prop:=
 match f with
 | .pv x=>match x with
  | .clo g gB=>∃(L:List (List PV)) (I:List (List PV)->aw->Prop),(Γ g).iter gB L/\(∀x∈L,x.length=ps.length)/\(LA σ0=true/\I [] σ0)/\
   (∀pre x σ,x∈L->L[pre.length]?=some x->I pre σ->X5 ps x env λau=>LP Γ (λtX σ=>B (SM (List.range σ0.length) qs Q env I L (pre++[x])) tX σ) aaH au σ)/\
   ∀σ,I L σ->Q .normal env σ
  |_=>False
 |_=>False
def pvB(l:List AV):Bool:=List.rec true (λa _ ih=>match a with
 | .pv x=>match x with
  | .agg _=>false
  |_=>ih
 |_=>false) l
def aBP(σ:aw)(a:AV):Bool:=
 match a with
 | .ref id idx off=>match idx,off with
  |0,0=>match σ[id]? with
   |some b=>match b with
    | .box _ cs=>pvB cs
    |_=>false
   |_=>false
  |_,_=>false
 |_=>false
def ane(t:Nat)(K:Env->aw->Prop)(env:Env)(σ:aw):Prop:=
 look t (λa=>match aBP σ a with
  |true=>vZ [a] σ λxs σ'=>match xs with
   |[]=>False
   |x::_=>K ((t,.pv x)::env) σ'
  |false=>K env σ) env
def adN(l:List Operand)(K:Env->aw->Prop):Env->aw->Prop:=
 List.rec K (λo _ ih=>match o with
  | .tmp t=>ane t ih
  |_=>ih) l
def acZ(ops:List PO)(K:Env->aw->Prop):Env->aw->Prop:=
 List.rec K (λo _ ih=>match o.k with
  | .mkf _ l=>adN l ih
  |_=>ih) ops
def isK(live:List Nat):Bool:=match live with
 |[]=>false
 |m::_=>Nat.beq m 4096
def dZ(c:PC):Bool:=
 PC.rec true (λ_=>true) (λ_ _=>true) (λ_ _=>true) (λ_ _ a b=>match a with|true=>b|false=>false) (λ_ _ _ a b=>match a with|true=>b|false=>false) (λ_ _ b=>b) (λlive _ b=>match isK live with|true=>b|false=>false) (λ_ _ _ _ _=>false) (λ_=>true) true c
def UJ(ps:List Nat)(B:(Ex->Env->aw->Prop)->Env->aw->Prop)(Q:Ex->Env->aw->Prop)(pin:List Nat)(env:Env)(σ:aw):Prop:=
 gc pin env σ ps λenv σ=>Ng pin ps B Q env σ
@[reducible] noncomputable def C7 (Γ:Ctx) (ps:List Nat) (ops:List PO) (aft:List (List Nat)) (Q:Ex->Env->aw->Prop) (env:Env) (σ:aw):Prop:=
 H5 Γ ops aft=true/\canon env ps λenv=>acZ ops (λenv σ=>vcD Γ (λlog au σ'=>acP Γ ops aft σ.length log=true/\Q .normal au σ') ops [] env σ) env σ
def afh(aft:List (List Nat)):Bool:=
 let bs:=Td aft.dropLast
 let n:=aft.dropLast.length
 let l:=aft.getLastD []
 Nat.blt 0 aft.length&&(l.all λe=>Nat.blt e n)&&(List.range n).all λj=>l.any λe=>Nat.beq e j||(bs.getD e []).contains j
@[reducible] noncomputable def Zl (Γ:Ctx) (ps:List Nat) (ops:List PO) (aft:List (List Nat)) (Q:Ex->Env->aw->Prop) (env:Env) (σ:aw):Prop:=
 (H5 Γ ops.dropLast aft.dropLast&&afh aft)=true/\canon env ps λenv=>acZ ops.dropLast (λenv σ=>vcD Γ (λlog au σ'=>acP Γ ops.dropLast aft.dropLast σ.length log=true/\canon au (ps++(ops.getLastD ⟨none,none,.nilS 0⟩).reads) λau=>∃gs:List GA,Oo gs au σ' λtX σ''=>Bt Γ (ops.getLastD ⟨none,none,.nilS 0⟩) tX σ'' (Q .normal)) ops.dropLast [] env σ) env σ
def vc(Γ:Ctx)(pin ps:List Nat)(c:PC):(Ex->Env->aw->Prop)->Env->aw->Prop:=
 PC.rec
  (λQ env σ=>Q .normal env σ)
  (λops Q env σ=>canon env ps λenv=>vcX Γ (Q .normal) ops env σ)
  (λops aft Q env σ=>E6 Γ ops aft=true/\canon env ps λenv=>LP Γ (Q .normal) ops env σ)
  (λops aft Q env σ=>match mq σ with
    |false=>C7 Γ ps ops aft Q env σ
    |true=>canon env ps λenv=>∃gs:List GA,Oo gs env σ λenv σ=>C7 Γ ps ops aft Q env σ\/Zl Γ ps ops aft Q env σ\/(Uz ops aft=true/\canon env ps λenv=>vcL Γ (Q .normal) ops aft ops.length [] env σ))
  (λ_ _ A B Q env σ=>A (ac5 (B Q) Q) env σ)
  (λc _ _ T E Q env σ=>ev env c λc=>match c with
    | .pv x=>match x with
     | .bool b=>match b with
      |true=>T Q env σ
      |false=>E Q env σ
     |_=>False
    |_=>False)
  (λid _ B Q env σ=>B (Tw id Q) env σ)
  (λlive b B Q env σ=>match isK live with
    |true=>match dZ b with
     |true=>UJ live.tail B Q (List.range σ.length) env σ
     |false=>False
    |false=>gc pin env σ live λenv σ=>Ng pin live B Q env σ)
  (λf qs aaH b B Q env σ=>match dZ b with
    |true=>canon env ps λenv=>ev env f λf=>NP Γ pin ps qs aaH B Q f env σ
    |false=>False)
  (λid Q env σ=>Q (.exit id) env σ)
  (λQ env σ=>Q .ret env σ) c
def RJ(σ:aw)(a:AV)(r:RV):Prop:=
 match a with
 | .pv x=>match r with
  | .pv y=>match x with
   | .nil s=>y=.nil s\/y=.sl s []
   |x=>y=x
  | .fresh _ s ak=>match x with
   | .nil s'=>(s=s'/\ak=[])/\0<s
   |_=>False
  | .row _ s ak=>match x with
   | .nil s'=>(s=s'/\ak=[])/\0<s
   |_=>False
  |_=>False
 | .own id=>dm σ id λb=>match b with
  | .row e sz ap ak=>match r with
   | .fresh e' CG els'=>ap=true/\e'=e/\CG=sz/\els'=ak
   | .row e' CG els'=>e'=e/\CG=sz/\els'=ak
   | .pv y=>y=.sl sz ak
   |_=>False
  | .fz x=>match r with
   | .pv y=>y=x
   |_=>False
  |_=>False
 | .sub id sz lo n=>dm σ id λb=>KK sz lo n b λak=>match r with
  | .pv y=>y=.sl sz ak
  |_=>False
 | .ref id idx off=>match r with
  | .pv y=>match idx,off with
   |0,0=>dm σ id λb=>match b with
    | .box _ cs=>Fh cs (λxs=>jw xs λx=>y=.cptr x) False
    |_=>False
   |_,_=>False
  |_=>False
 |_=>False
def Jj(σ:aw)(l:List AV):List RV->Prop:=
 List.rec (λrs=>match rs with|[]=>True|_=>False)
  (λa _ ih rs=>match rs with|r::rs=>RJ σ a r/\ih rs|[]=>False) l
def Jc(σ:aw)(a:AV)(r:RV):Prop:=
 match a with
 | .agg cs=>match r with
  | .pv y=>bJ σ cs λxs=>y=.agg xs
  | .agg rs=>Jj σ cs rs
  |_=>False
 |a=>RJ σ a r
def Gm(σ:aw)(l:List AV):List RV->Prop:=
 List.rec (λrs=>match rs with|[]=>True|_=>False)
  (λa _ ih rs=>match rs with|r::rs=>Jc σ a r/\ih rs|[]=>False) l
def Mm(l:List AV):List Nat->(List Nat->Bool)->Bool:=
 List.rec (λseen K=>K seen) (λa _ ih seen K=>match a with
  | .own id=>Bool.rec (ih (id::seen) K) false (Oa id seen)
  | .ref id _ _=>Bool.rec (ih (id::seen) K) false (Oa id seen)
  | .sub id _ _ _=>Bool.rec (ih (id::seen) K) false (Oa id seen)
  |_=>ih seen K) l
def HC(l:List AV):List Nat->Bool:=
 List.rec (λ_=>true) (λa _ ih seen=>match a with
  | .agg cs=>Mm cs seen ih
  |a=>Mm [a] seen ih) l
def PV.S9:PV->Prop
 | .bool _| .int _ _| .str _| .nil _=>True
 |_=>False
def PV.flat:PV->Prop
 | .agg cs=>∀c∈cs,c.S9
 | .bool _| .int _ _| .str _| .nil _=>True
 |_=>False
def RV.MG:RV->Prop
 | .pv x=>x.flat
 | .fresh _ _ ak=>∀x∈ak,x.flat
 | .row _ _ ak=>∀x∈ak,x.flat
 |_=>False
def UN(l:List RV):Prop:=List.rec True (λr _ ih=>r.MG/\ih) l
def Xe(lone:Bool)(σ:aw)(aHk:List AV)(K:RV->Prop):Prop:=
 match HC aHk []with
 |false=>False
 |true=>match aHk with
  |[]=>K (.tup [])
  |a::aHk=>match aHk with
   |[]=>∃r,Jc σ a r/\(match lone with|true=>r.MG|false=>True)/\K r
   |b::bs=>∃rs,Gm σ (a::b::bs) rs/\(match lone with|true=>UN rs|false=>True)/\K (.tup rs)
def kn(σ:aw)(env:Env)(rs:List (Nat×Option (Bool×Nat))):(List AV->Prop)->Prop:=
 List.rec (λK=>K []) (λp _ ih K=>look p.1 (λv=>match p.2 with
  |none=>ih λl=>K (v::l)
  |some q=>Bl σ q.1 q.2 v λv=>ih λl=>K (v::l)) env) rs
def ZV(lone:Bool)(rs:List (Nat×Option (Bool×Nat)))(K:RV->Prop):Ex->Env->aw->Prop
 | .normal,env,σ=>kn σ env rs λaHk=>Xe lone σ aHk K
 | .ret,env,σ=>kn σ env rs λaHk=>Xe lone σ aHk K
 | .exit _,_,_=>False
def SL(l:List PV):Nat->(Env->Prop)->Prop:=
 List.rec (λ_ K=>K []) (λx _ ih n K=>ih (Nat.succ n) λe=>K ((n,.pv x)::e)) l
def ay(Γ:Ctx)(ps:List Nat)(pc:PC)(rs:List (Nat×Option (Bool×Nat)))(S:Spec):Prop:=
 ∀(args:List PV) (K:RV->Prop),S.run args K->SL args 0 λenv=>vc Γ [] ps pc (ZV S.lone rs K) env []
def Fc(e:TypeId)(sz:Nat)(Γ:Ctx)(ps:List Nat)(pc:PC)(rs:List (Nat×Option (Bool×Nat)))(S:Spec):Prop:=
 0<sz∧∀(args:List PV) (K:RV->Prop),S.run args K->SL args 0 λenv=>vc Γ [] ps pc (ZV S.lone rs K) env [.pool e sz [] []]
def awr(σ:aw):Nat->(List Nat->Prop)->Prop:=
 List.rec (λ_ K=>K []) (λ_ _ ih n K=>ih (Nat.succ n) λt=>K (n::t)) σ
def XX:List AV->AV
 |[a]=>a
 |l=>.tup l
def agT(pin:List Nat)(rs:List (Nat×Option (Bool×Nat)))(K:AV->aw->Prop):Ex->Env->aw->Prop
 | .exit _,_,_=>False
 |_,env,σ=>kn σ env rs λaHk=>I3 aHk pin λl=>Fx σ l l λr=>Ah σ 0 r λr=>Ih r aHk λaHk=>JT σ r r λσ=>K (XX aHk) σ
def Vz(l:List AV):Nat->(Env->Prop)->Prop:=
 List.rec (λ_ K=>K []) (λx _ ih n K=>ih (Nat.succ n) λe=>K ((n,x)::e)) l
def ki(Γ:Ctx)(ps:List Nat)(pc:PC)(rs:List (Nat×Option (Bool×Nat)))(S:Spec):Prop:=
 ∀(args:List AV) (σ:aw) (K:AV->aw->Prop),S.um args σ K->Vz args 0 λenv=>awr σ 0 λpin=>vc Γ pin ps pc (agT pin rs K) env σ
end
end Go.Dv
namespace Go.Dv
open Go.RowKit
section
def PV.one:PV->Bool
 | .agg _| .tup _=>false
 |_=>true
mutual
def Rd(ok:Nat->Prop)(w:World):PV->Value->Prop
 | .bool b,v=>v=.bool b
 | .int k n,v=>v=.int k n
 | .str l,v=>v=.string ⟨l.toArray⟩
 | .val u,v=>v=u/\u.oneCell'=true
 | .nil _,v=>v=.slice none 0 0
 | .sl sz ak,v=>∃a c,v=.slice a ak.length c/\ak.length<=c/\c<=maxLen/\(ak=[]∨∃b o,a=some ⟨b,o,none⟩/\ok b/\dM ok w b sz o ak)
 | .agg cs,v=>(∀c∈cs,c.one=true)∧∃vs,v=.agg vs/\cE ok w cs vs.toList
 | .tup cs,v=>∃vs,v=.tuple vs/\cE ok w cs vs.toList
 | .cptr (.agg cs),v=>∃b o,v=.pointer (some ⟨b,o,none⟩)/\ok b/\k9 ok w b o cs
 | .cptr x,v=>∃b o,v=.pointer (some ⟨b,o,none⟩)/\ok b/\x.one=true∧∃u,w.cell? ⟨b,o,none⟩=some u/\Rd ok w x u
 | .clo f gB,v=>∃cv,v=.func (.func f) #[] cv/\cE ok w gB cv.toList
def cE(ok:Nat->Prop)(w:World):List PV->List Value->Prop
 |[],vs=>vs=[]
 |x::xs,vs=>∃v r,vs=v::r/\Rd ok w x v/\cE ok w xs r
def dM(ok:Nat->Prop)(w:World)(b sz:Nat)(o:Nat):List PV->Prop
 |[]=>True
 | .agg cs::xs=>(cs.length=sz/\k9 ok w b o cs)/\dM ok w b sz (o+sz) xs
 |x::xs=>(sz=1/\x.one=true∧∃u,w.cell? ⟨b,o,none⟩=some u/\Rd ok w x u)/\dM ok w b sz (o+sz) xs
def k9(ok:Nat->Prop)(w:World)(b:Nat)(o:Nat):List PV->Prop
 |[]=>True
 |c::cs=>(c.one=true∧∃u,w.cell? ⟨b,o,none⟩=some u/\Rd ok w c u)/\k9 ok w b (o+1) cs
end
section mono
variable {ok lT:Nat->Prop} {w w':World}
mutual
def Rd.ey(hk:∀b,ok b->lT b)(hc:∀b o u,ok b->w.cell? ⟨b,o,none⟩=some u->w'.cell? ⟨b,o,none⟩=some u):∀(x:PV) (v:Value),Rd ok w x v->Rd lT w' x v
 | .bool _,_,h=>by simpa only[Rd]using h
 | .int _ _,_,h=>by simpa only[Rd]using h
 | .str _,_,h=>by simpa only[Rd]using h
 | .val _,_,h=>by simpa only[Rd]using h
 | .nil _,_,h=>by simpa only[Rd]using h
 | .sl sz ak,v,h=>by
  simp only[Rd]at h ⊢;obtain⟨a,c,h1,h2,h3,h4⟩:=h;refine⟨a,c,h1,h2,h3,?_⟩;rcases h4 with h4|⟨b,o,ha,hb,hr⟩
  ·exact .inl h4
  ·exact .inr ⟨b,o,ha,hk b hb,dM.ey hk hc b sz o (λo u=>hc b o u hb) ak hr⟩
 | .agg cs,v,h=>by
  simp only[Rd]at h ⊢;obtain⟨h0,vs,h1,h2⟩:=h;exact⟨h0,vs,h1,cE.ey hk hc cs _ h2⟩
 | .tup cs,v,h=>by
  simp only[Rd]at h ⊢;obtain⟨vs,h1,h2⟩:=h;exact⟨vs,h1,cE.ey hk hc cs _ h2⟩
 | .cptr x,v,h=>by
  cases x with
  |agg cs=>
   simp only[Rd]at h ⊢;obtain⟨b,o,h1,h2,h3⟩:=h;exact⟨b,o,h1,hk b h2,k9.ey hk hc b o (λo u=>hc b o u h2) cs h3⟩
  |sl sz ak=>
   simp only[Rd]at h ⊢;obtain⟨b,o,h1,h2,h3,u,h4,h5⟩:=h;have:=Rd.ey hk hc (.sl sz ak) u I4;simp only[Rd]at this;exact Km
  |tup vs=>
   simp only[Rd]at h ⊢;obtain⟨b,o,h1,h2,h3,u,h4,h5⟩:=h;have:=Rd.ey hk hc (.tup vs) u I4;simp only[Rd]at this;exact Km
  |clo f gB=>
   simp only[Rd]at h ⊢;obtain⟨b,o,h1,h2,h3,u,h4,h5⟩:=h;have:=Rd.ey hk hc (.clo f gB) u I4;simp only[Rd]at this;exact Km
  |_=>
   simp only[Rd]at h ⊢;obtain⟨b,o,h1,h2,h3,u,h4,h5⟩:=h;refine⟨b,o,h1,hk b h2,h3,u,hc b o u h2 h4,?_⟩;first
    |exact h5
    |(have:=Rd.ey hk hc _ u (by simpa only[Rd]using h5);simpa only[Rd]using this)
 | .clo f cs,v,h=>by
  simp only[Rd]at h ⊢;obtain⟨vs,h1,h2⟩:=h;exact⟨vs,h1,cE.ey hk hc cs _ h2⟩
def cE.ey(hk:∀b,ok b->lT b)(hc:∀b o u,ok b->w.cell? ⟨b,o,none⟩=some u->w'.cell? ⟨b,o,none⟩=some u):∀(l:List PV) (vs:List Value),cE ok w l vs->cE lT w' l vs
 |[],_,h=>by simpa only[cE]using h
 |x::xs,vs,h=>by
  simp only[cE]at h ⊢;obtain⟨v,r,h1,h2,h3⟩:=h;exact⟨v,r,h1,Rd.ey hk hc x v h2,cE.ey hk hc xs r h3⟩
def dM.ey(hk:∀b,ok b->lT b)(hc:∀b o u,ok b->w.cell? ⟨b,o,none⟩=some u->w'.cell? ⟨b,o,none⟩=some u)(b sz o:Nat)(hb:∀o u,w.cell? ⟨b,o,none⟩=some u->w'.cell? ⟨b,o,none⟩=some u):∀(l:List PV),dM ok w b sz o l->dM lT w' b sz o l
 |[],h=>by simp only[dM]
 |x::xs,h=>by
  cases x with
  |agg cs=>
   simp only[dM]at h ⊢;exact⟨⟨h.1.1,k9.ey hk hc b o hb cs h.1.2⟩,dM.ey hk hc b sz (o+sz) hb xs h.2⟩
  |_=>
   simp only[dM]at h ⊢;obtain⟨⟨h1,h2,u,h3,h4⟩,h5⟩:=h;exact⟨⟨h1,h2,u,hb o u h3,Rd.ey hk hc _ u h4⟩,dM.ey hk hc b sz (o+sz) hb xs h5⟩
def k9.ey(hk:∀b,ok b->lT b)(hc:∀b o u,ok b->w.cell? ⟨b,o,none⟩=some u->w'.cell? ⟨b,o,none⟩=some u)(b o:Nat)(hb:∀o u,w.cell? ⟨b,o,none⟩=some u->w'.cell? ⟨b,o,none⟩=some u):∀(l:List PV),k9 ok w b o l->k9 lT w' b o l
 |[],h=>by simp only[k9]
 |x::xs,h=>by
  simp only[k9]at h ⊢;obtain⟨⟨h2,u,h3,h4⟩,h5⟩:=h;exact⟨⟨h2,u,hb o u h3,Rd.ey hk hc _ u h4⟩,k9.ey hk hc b (o+1) hb xs h5⟩
end
def Rd.mono(hk:∀b,ok b->lT b)(hc:∀b o,ok b->w'.cell? ⟨b,o,none⟩=w.cell? ⟨b,o,none⟩)(x:PV)(v:Value)(h:Rd ok w x v):Rd lT w' x v:=
 Rd.ey hk (λb o _ hb h=>(hc b o hb).trans h) x v h
def cE.mono(hk:∀b,ok b->lT b)(hc:∀b o,ok b->w'.cell? ⟨b,o,none⟩=w.cell? ⟨b,o,none⟩)(l:List PV)(vs:List Value)(h:cE ok w l vs):cE lT w' l vs:=
 cE.ey hk (λb o _ hb h=>(hc b o hb).trans h) l vs h
def dM.mono(hk:∀b,ok b->lT b)(hc:∀b o,ok b->w'.cell? ⟨b,o,none⟩=w.cell? ⟨b,o,none⟩)(b sz o:Nat)(hb:∀o,w'.cell? ⟨b,o,none⟩=w.cell? ⟨b,o,none⟩)(l:List PV)(h:dM ok w b sz o l):dM lT w' b sz o l:=
 dM.ey hk (λb o _ hb h=>(hc b o hb).trans h) b sz o (λo _ h=>(hb o).trans h) l h
end mono
section get
variable {ok:Nat->Prop} {w:World}
def Rd.Ac{x:PV}{v:Value}(h:Rd ok w x v)(hx:x.one=true):v.oneCell'=true:=by
 cases x with
 |val u=>simp only[Rd]at h;exact h.1▸h.2
 |agg cs=>cases hx
 |tup cs=>cases hx
 |cptr x=>cases x<;>simp only[Rd]at h<;>obtain⟨b,o,rfl,_⟩:=h<;>rfl
 |sl sz ak=>simp only[Rd]at h;obtain⟨a,c,rfl,_⟩:=h;rfl
 |clo f cs=>simp only[Rd]at h;obtain⟨a,rfl,_⟩:=h;rfl
 |_=>simp only[Rd]at h;subst h;rfl
def kW(cs:List PV):∀vs:List Value,cE ok w cs vs↔(vs.length=cs.length∧∀(j:Nat) (c:PV) (v:Value),cs[j]?=some c->vs[j]?=some v->Rd ok w c v):=by
 induction cs with
 |nil=>intro vs;simp only[cE];constructor
       ·rintro rfl;simp
       ·intro h;exact zaf (by simpa using h.1)
 |cons c cs ih=>
  intro vs;simp only[cE];constructor
  ·rintro⟨v,r,rfl,h1,h2⟩;obtain⟨h3,h4⟩:=(ih r).1 h2;refine⟨by simp[h3],λj c' v' hc hv=>?_⟩;cases j with
   |zero=>simp at hc hv;subst hc hv;exact h1
   |succ j=>simp at hc hv;exact h4 j c' v' hc hv
  ·rintro⟨h1,h2⟩;cases vs with
   |nil=>simp at h1
   |cons v r=>exact⟨v,r,rfl,h2 0 c v rfl rfl,(ih r).2 ⟨mK,λj c' v' hc hv=>h2 (j+1) c' v' r6 (by simpa using hv)⟩⟩
def u6(b:Nat)(cs:List PV):∀o,k9 ok w b o cs↔((∀c∈cs,c.one=true)∧∃us:List Value,cE ok w cs us∧∀(j:Nat) (u:Value),us[j]?=some u->w.cell? ⟨b,o+j,none⟩=some u):=by
 induction cs with
 |nil=>intro o;simp only[k9,cE];simp
 |cons c cs ih=>
  intro o;simp only[k9,cE];constructor
  ·rintro⟨⟨h1,u,h2,h3⟩,h4⟩;obtain⟨h5,us,h6,h7⟩:=(ih (o+1)).1 h4;refine⟨by simpa[h1]using h5,u::us,⟨u,us,rfl,h3,h6⟩,λj u' hj=>?_⟩;cases j with
   |zero=>simp at hj;subst hj;exact h2
   |succ j=>have:=h7 j u' va;rwa[za7]at this
  ·rintro⟨h1,_,⟨u,us,rfl,h3,h6⟩,h7⟩;refine⟨⟨h1 c ae,u,h7 0 u rfl,h3⟩,(ih (o+1)).2 ⟨λc' hc=>h1 c' iN,us,h6,λj u' hj=>?_⟩⟩;have:=h7 (j+1) u' va;rwa[za7]
def jE(b:Nat)(xs ys:List PV):∀o,k9 ok w b o (xs++ys)↔k9 ok w b o xs/\k9 ok w b (o+xs.length) ys:=by
 induction xs with
 |nil=>intro o;simp[k9]
 |cons x xs ih=>
  intro o;simp only[zbe,k9,ih,zap,and_assoc];rw[show o+1+xs.length=o+(xs.length+1)from by omega]
def lQ(b sz:Nat)(ak:List PV):∀o,dM ok w b sz o ak↔((∀x∈ak,x.cells.length=sz)/\k9 ok w b o (ak.flatMap PV.cells)):=by
 induction ak with
 |nil=>intro o;simp[dM,k9]
 |cons x xs ih=>
  intro o;rw[zao,jE];cases x with
  |agg cs=>
   simp only[dM,ih,PV.cells];constructor
   ·rintro⟨⟨rfl,h1⟩,h2,h3⟩;exact⟨by simpa[PV.cells]using h2,h1,h3⟩
   ·rintro⟨h1,h2,h3⟩;have h0:cs.length=sz:=by simpa[PV.cells]using h1 (.agg cs) ae
    exact⟨⟨h0,h2⟩,λy hy=>h1 y rQ,h0▸h3⟩
  |_=>
   simp only[dM,ih,PV.cells,k9];constructor
   ·rintro⟨⟨rfl,h1,h2⟩,h3,h4⟩;exact⟨by simpa[PV.cells]using h3,⟨⟨h1,h2⟩,trivial⟩,yA⟩
   ·rintro⟨h1,⟨⟨h2,h3⟩,_⟩,h4⟩;have h0:1=sz:=by simpa[PV.cells]using h1 _ (List.mem_cons_self ..)
    exact⟨⟨h0.symm,h2,h3⟩,λy hy=>h1 y rQ,by subst h0;simpa using h4⟩
def gb(sz:Nat)(ak:List PV)(h:∀x∈ak,x.cells.length=sz):(ak.flatMap PV.cells).length=ak.length*sz:=by
 induction ak with
 |nil=>simp
 |cons x xs ih=>rw[zao,zae,ih (λy hy=>h y rQ),h x ae,zap,zas];omega
def Fy{b sz o:Nat}{ak:List PV}(h:dM ok w b sz o ak):∀{i:Nat} {x:PV},ak[i]?=some x->x.cells.length=sz/\k9 ok w b (o+i*sz) x.cells:=by
 induction ak generalizing o with
 |nil=>intro i x hx;simp at hx
 |cons y ys ih=>
  intro i x hx;have hd:=(lQ b sz (y::ys) o).1 h;rw[zao,jE]at hd;have h0:=hd.1 y ae;cases i with
  |zero=>simp at hx;subst hx;exact⟨h0,by simpa using hd.2.1⟩
  |succ i=>
   have:=ih ((lQ b sz ys (o+sz)).2 ⟨λz hz=>hd.1 z (by simp[hz]),h0▸hd.2.2⟩) (i:=i) (x:=x) yK;refine⟨this.1,?_⟩;rw[show o+(i+1)*sz=o+sz+i*sz from by rw[zas];omega];exact this.2
end get
structure Cx where
 P:Program
 w0:World
 OG:Nat->Prop
 hA:∀b,OG b->b<w0.heap.size
 w1:World:=w0
 keep:Nat->Prop:=λ_=>False
 hk:∀b,keep b->b<w1.heap.size:=by intro _ h;exact h.elim
 defers:List Deferred:=[]
 gh:AV->Value->Prop:=λ_ _=>False
 lo:Nat:=0
 base:Nat->Value:=λ_=>undef
 own:Nat->Prop:=λb=>w0.heap.size<=b
 dx:∀b,w0.heap.size<=b->own b:=by exact λ_ h=>h
 rY:List cu:=[]
 ET:List Value:=[]
structure tB(own:Nat->Prop)(w w':World):Prop where
 os:w'.os=w.os
 tape:w'.tape=w.tape
 output:w'.output=w.output
 size:w.heap.size<=w'.heap.size
 block:∀k,k<w.heap.size→¬own k->w'.heap[k]?=w.heap[k]?
def tB.refl(own:Nat->Prop)(w:World):tB own w w:=⟨rfl,rfl,rfl,zaj _,λ_ _ _=>rfl⟩
def tB.below{own:Nat->Prop}{a b c:World}(h:tB own a b)(k:Below b.heap.size b c):tB own a c:=
 ⟨k.os.trans h.os,k.tape.trans h.tape,k.output.trans h.output,zat h.size k.size,λi hi ho=>(k.block i (zag hi h.size)).trans (h.block i hi ho)⟩
def tB.grown{own:Nat->Prop}{a w w':World}{row:Option Nat}(h:tB own a w)(hg:w.grownBy w' row)(hr:∀k,row=some k->own k):tB own a w':=
 ⟨hg.os.trans h.os,hg.tape.trans h.tape,hg.output.trans h.output,zat h.size hg.size,λk hk ho=>(hg.block k (zag hk h.size) (λe=>ho (hr k e.symm))).trans (h.block k hk ho)⟩
def tB.PQ{own:Nat->Prop}{a b:World}(h:tB own a b)(ho:∀k,own k->a.heap.size<=k):Below a.heap.size a b:=
 ⟨h.os,h.tape,h.output,h.size,λk hk=>h.block k hk (λe=>by have:=ho k e;omega)⟩
def bI:Value->Option Nat
 | .pointer (some a)=>some a.block
 | .slice (some a) _ _=>some a.block
 |_=>Option.none
def cu.live:cu->Bool
 | .row .. | .box .. =>true
 |_=>false
def cu.yr:cu->Bool
 | .box .. =>true
 | .fz x=>match x with| .cptr _=>true|_=>false
 |_=>false
def cu.bk:cu->Value->Nat->Prop
 | .row ..,v,b=>bI v=some b
 | .box ..,v,b=>bI v=some b
 | .pool _ _ l _,_,b=>∃p∈l,bI p.1=some b
 |_,_,_=>False
def tA{s:cu}{v:Value}{b:Nat}(h:s.live=true)(hb:bI v=some b):s.bk v b:=by
 cases s with
 |row=>exact hb
 |box=>exact hb
 |_=>cases h
def Av(σ:aw)(vals:List Value)(b:Nat):Prop:=∃(i:Nat) (s:cu) (v:Value),σ[i]?=some s/\vals[i]?=some v/\s.bk v b
def Ok(cx:Cx)(σ:aw)(vals:List Value)(w:World)(b:Nat):Prop:=(cx.OG b\/cx.own b)/\b<w.heap.size∧¬Av σ vals b
def AV.one:AV->Bool
 | .pv x=>x.one
 | .own _=>true
 | .ref _ _ _=>true
 | .sub _ _ _ _=>true
 | .clo _ _=>true
 |_=>false
mutual
def RA(ok:Nat->Prop)(σ:aw)(vals:List Value)(w:World):AV->Value->Prop
 | .bad,_=>True
 | .pv x,v=>Rd ok w x v
 | .own i,v=>vals[i]?=some v
 | .ref i idx off,v=>i<σ.length/\(∃ad,v=.pointer ad)/\(∀e sz ap ak,σ[i]?=some (.row e sz ap ak)→∃u b,vals[i]?=some u/\bI u=some b/\v=.pointer (some ⟨b,idx*sz+off,none⟩))/\
  (∀s,σ[i]?=some s->s.yr=true→∃u b,vals[i]?=some u/\u=.pointer (some ⟨b,0,none⟩)/\v=.pointer (some ⟨b,off,none⟩))
 | .sub i sz lo n,v=>i<σ.length∧∃a c,v=.slice a n c/\n<=c/\c<=maxLen/\(n=0∨∃b n0 c0,vals[i]?=some (.slice (some ⟨b,0,none⟩) n0 c0)/\a=some ⟨b,lo*sz,none⟩)
 | .agg cs,v=>(∀c∈cs,c.one=true)∧∃vs,v=.agg vs/\d_ ok σ vals w cs vs.toList
 | .tup cs,v=>∃vs,v=.tuple vs/\d_ ok σ vals w cs vs.toList
 | .clo f cs,v=>∃cv,v=.func (.func f) #[] cv/\d_ ok σ vals w cs cv.toList
def d_(ok:Nat->Prop)(σ:aw)(vals:List Value)(w:World):List AV->List Value->Prop
 |[],vs=>vs=[]
 |x::xs,vs=>∃v r,vs=v::r/\RA ok σ vals w x v/\d_ ok σ vals w xs r
end
def u9(w:World)(M:Nat->Prop)(e:TypeId)(sz:Nat)(app:Bool)(v:Value)(n:Nat)(xs:List Value):Prop:=
 xs.length=n*sz/\((v=.slice Option.none 0 0/\n=0)\/
  ∃g cap cur fr,v=.slice (some ⟨g,0,Option.none⟩) n cap/\M g/\w.heap[g]?=some (.cells cur e fr)/\n<=cap/\cap<=maxLen/\cur.size=cap*sz/\cur.toList.take (n*sz)=xs/\
   (fr=(0,0)\/(app=false/\cur.size<=fr.1)))
def KO(es:Array MapEntry)(l:List (Int×Bool)):Prop:=es.toList.map (λe=>(e.key,e.val))=l.map λp=>(.int .i64 p.1,.bool p.2)
def RB(cx:Cx)(σ:aw)(vals:List Value)(w:World):cu->Value->Prop
 | .dead,_=>True
 | .fz x,v=>Rd (Ok cx σ vals w) w x v
 | .pool e sz l lt,_=>0<sz/\((l.Pairwise λp q=>∀b,bI p.1=some b->bI q.1≠some b)∧∀p∈lt,vals[p.1]?=some p.2)∧∀p∈l,∃cells,u9 w cx.own e sz true p.1 p.2.length cells/\(∀x∈p.2,x.cells.length=sz)/\(∀c∈p.2.flatMap PV.cells,c.one=true)/\cE (Ok cx σ vals w) w (p.2.flatMap PV.cells) cells
 | .mp l,v=>∃b es n,v=.map (some b)/\Ok cx σ vals w b/\w.heap[b]?=some (.map es n)/\KO es l
 | .row e sz app ak,v=>0<sz∧∃cells,u9 w cx.own e sz app v ak.length cells/\(∀x∈ak,x.cells.length=sz)/\(∀c∈ak.flatMap PV.cells,c.one=true)/\cE (Ok cx σ vals w) w (ak.flatMap PV.cells) cells
 | .box e cs,v=>∃b arr,v=.pointer (some ⟨b,0,Option.none⟩)/\cx.own b/\w.heap[b]?=some (.cells arr e (0,0))/\(∀c∈cs,c.one=true)/\d_ (Ok cx σ vals w) σ vals w cs arr.toList
def aA(p:Nat):Env->AV
 |[]=>.bad
 |(q,v)::r=>bif Nat.beq q p then v else aA p r
structure Fr(cx:Cx)(σ:aw)(vals:List Value)(w:World):Prop where
 size:cx.w1.heap.size<=w.heap.size
 same:∀b,cx.keep b->w.heap[b]?=cx.w1.heap[b]?
 nB:∀b,Av σ vals b→¬cx.keep b
structure Pin(cx:Cx)(σ:aw)(vals:List Value):Prop where
 vs:∀(i:Nat) (v:Value),cx.ET[i]?=some v->vals[i]?=some v
 len:cx.rY.length<=σ.length
 r7:∀i:Nat,i<cx.rY.length→∀e sz ap ak,σ[i]?=some (.row e sz ap ak)→∃Hi els',cx.rY[i]?=some (.row e sz Hi els')
 sb:∀i:Nat,i<cx.rY.length→∀s,σ[i]?=some s->s.yr=true→∃s',cx.rY[i]?=some s'/\s'.yr=true
structure ba(cx:Cx)(σ:aw)(vals:List Value)(w:World):Prop where
 below:tB cx.own cx.w0 w
 one:∀v∈vals,v.oneCell'=true
 len:vals.length=σ.length
 iU:∀(i:Nat) (s:cu) (v:Value),σ[i]?=some s->vals[i]?=some v->RB cx σ vals w s v
 oP:∀(i j:Nat) (s t:cu) (u v:Value) (b:Nat),i≠j->σ[i]?=some s->σ[j]?=some t->vals[i]?=some u->vals[j]?=some v->s.bk u b→¬t.bk v b
 fr:Fr cx σ vals w
 pin:Pin cx σ vals
structure Rel(cx:Cx)(env:Env)(σ:aw)(vals:List Value)(a:Act)(w:World):Prop where
 s:ba cx σ vals w
 env:∀p,RA (Ok cx σ vals w) σ vals w (aA p env) (a.tmps.getD p undef)
 defers:a.defers=cx.defers
 gh:∀x v,cx.gh x v->RA (Ok cx σ vals w) σ vals w x v
 lo:∀p,p<cx.lo->a.tmps.getD p undef=cx.base p
structure cm(cx:Cx)(σ:aw)(vals:List Value)(w:World)(σ':aw)(an:List Value)(w':World):Prop where
 vs:∀(i:Nat) (v:Value),vals[i]?=some v->an[i]?=some v
 len:σ.length<=σ'.length
 ok:∀b,Ok cx σ vals w b->Ok cx σ' an w' b
 same:∀b,Ok cx σ vals w b->w'.heap[b]?=w.heap[b]?
 r7:∀i:Nat,i<σ.length→∀e sz ap ak,σ'[i]?=some (.row e sz ap ak)→∃Hi els',σ[i]?=some (.row e sz Hi els')
 sb:∀i:Nat,i<σ.length→∀s,σ'[i]?=some s->s.yr=true→∃s',σ[i]?=some s'/\s'.yr=true
section keep
variable {cx:Cx} {σ σ':aw} {vals an:List Value} {w w':World}
def cm.rd(h:cm cx σ vals w σ' an w'){x:PV}{v:Value}(hx:Rd (Ok cx σ vals w) w x v):Rd (Ok cx σ' an w') w' x v:=
 Rd.mono h.ok (λb _ hb=>World.cell?_of_block (h.same b hb)) x v hx
def cm.TO(h:cm cx σ vals w σ' an w'){x:List PV}{v:List Value}(hx:cE (Ok cx σ vals w) w x v):cE (Ok cx σ' an w') w' x v:=
 cE.mono h.ok (λb _ hb=>World.cell?_of_block (h.same b hb)) x v hx
mutual
def cm.ra(h:cm cx σ vals w σ' an w'):∀(x:AV) (v:Value),RA (Ok cx σ vals w) σ vals w x v->RA (Ok cx σ' an w') σ' an w' x v
 | .bad,_,_=>by simp only[RA]
 | .pv x,v,hx=>by simp only[RA]at hx ⊢;exact h.rd hx
 | .own i,v,hx=>by simp only[RA]at hx ⊢;exact h.vs i v hx
 | .ref i idx off,v,hx=>by
  simp only[RA]at hx ⊢;obtain⟨h0,hp,h1,h2⟩:=hx;refine⟨zag h0 h.len,hp,λe sz ap ak he=>?_,λs he St=>?_⟩
  ·obtain⟨Hi,els',h3⟩:=h.r7 i h0 e sz ap ak he;obtain⟨u,b,h4,h5⟩:=h1 e sz Hi els' h3;exact⟨u,b,h.vs i u h4,h5⟩
  ·obtain⟨s',h3,aB3⟩:=h.sb i h0 s he St;obtain⟨u,b,h4,h5⟩:=h2 s' h3 aB3;exact⟨u,b,h.vs i u h4,h5⟩
 | .sub i sz lo n,v,hx=>by
  simp only[RA]at hx ⊢;obtain⟨h0,ad,c,h1,h2,h3,h4⟩:=hx;exact⟨zag h0 h.len,ad,c,h1,h2,h3,h4.imp_right λ⟨b,n0,c0,h5,h6⟩=>⟨b,n0,c0,h.vs i _ h5,h6⟩⟩
 | .agg cs,v,hx=>by
  simp only[RA]at hx ⊢;obtain⟨h0,vs,h1,h2⟩:=hx;exact⟨h0,vs,h1,cm.T4 h cs _ h2⟩
 | .tup cs,v,hx=>by
  simp only[RA]at hx ⊢;obtain⟨vs,h1,h2⟩:=hx;exact⟨vs,h1,cm.T4 h cs _ h2⟩
 | .clo f cs,v,hx=>by
  simp only[RA]at hx ⊢;obtain⟨vs,h1,h2⟩:=hx;exact⟨vs,h1,cm.T4 h cs _ h2⟩
def cm.T4(h:cm cx σ vals w σ' an w'):∀(x:List AV) (v:List Value),d_ (Ok cx σ vals w) σ vals w x v->d_ (Ok cx σ' an w') σ' an w' x v
 |[],_,hx=>by simpa only[d_]using hx
 |x::xs,vs,hx=>by
  simp only[d_]at hx ⊢;obtain⟨v,r,h1,h2,h3⟩:=hx;exact⟨v,r,h1,cm.ra h x v h2,cm.T4 h xs r h3⟩
end
def u9.keep{B:Nat->Prop}{e:TypeId}{sz:Nat}{app:Bool}{v:Value}{n:Nat}{xs:List Value}(h:u9 w B e sz app v n xs)(hb:∀b,bI v=some b->w'.heap[b]?=w.heap[b]?):u9 w' B e sz app v n xs:=by
 refine⟨h.1,?_⟩;rcases h.2 with h2|⟨g,cap,cur,fr,rfl,h2,h3,h4⟩
 ·exact .inl h2
 ·exact .inr ⟨g,cap,cur,fr,rfl,h2,(hb g rfl).trans h3,h4⟩
def cm.rb(h:cm cx σ vals w σ' an w'){s:cu}{v:Value}(hs:RB cx σ vals w s v)(hb:∀b,s.bk v b->w'.heap[b]?=w.heap[b]?):RB cx σ' an w' s v:=by
 cases s with
 |dead=>trivial
 |pool e sz l lt=>
  obtain⟨h0,h1,h2⟩:=hs;refine⟨h0,⟨h1.1,λp hp=>h.vs _ _ (h1.2 p hp)⟩,λp hp=>?_⟩;obtain⟨cells,h3,h4,h5,h6⟩:=h2 p hp;exact⟨cells,h3.keep λb x6=>hb b ⟨p,hp,x6⟩,h4,h5,h.TO h6⟩
 |fz x=>exact h.rd hs
 |mp l=>
  obtain⟨b,es,n,rfl,h1,h2,h3⟩:=hs;exact⟨b,es,n,rfl,h.ok b h1,(h.same b h1).trans h2,h3⟩
 |row e sz app ak=>
  obtain⟨h0,cells,h1,h2,h3,h4⟩:=hs;exact⟨h0,cells,h1.keep hb,h2,h3,h.TO h4⟩
 |box e cs=>
  obtain⟨b,arr,rfl,h1,h2,h3,h4⟩:=hs;exact⟨b,arr,rfl,h1,(hb b rfl).trans h2,h3,h.T4 _ _ h4⟩
def cY{α:Type}{l:List α}{i:Nat}{x:α}(hi:i<l.length)(j:Nat):(l.set i x)[j]?=if i=j then some x else l[j]?:=by
 rw[zaR];split
 ·rename_i h;subst h;simp[hi]
 ·rfl
def bE{α:Type}(l:List α)(x:α)(j:Nat):(l++[x])[j]?=if j=l.length then some x else l[j]?:=by
 by_cases h:j<l.length
 ·rw[zar h,if_neg aa]
 ·rw[zam aa];by_cases h2:j=l.length
  ·subst h2;simp
  ·rw[if_neg h2,zaK aT,zaK aa]
def cm.refl:cm cx σ vals w σ vals w:=
 ⟨λ_ _ h=>h,zaj _,λ_ h=>h,λ_ _=>rfl,λ_ _ _ _ ap ak h=>⟨ap,ak,h⟩,λ_ _ s h hb=>⟨s,h,hb⟩⟩
def cm.grow(hs:w.heap.size<=w'.heap.size)(hb:∀b,b<w.heap.size->w'.heap[b]?=w.heap[b]?):cm cx σ vals w σ vals w':=
 ⟨λ_ _ h=>h,zaj _,λ_ h=>⟨h.1,zag h.2.1 hs,h.2.2⟩,λb h=>hb b h.2.1,λ_ _ _ _ ap ak h=>⟨ap,ak,h⟩,λ_ _ s h hb=>⟨s,h,hb⟩⟩
def cm.trans{σ2:aw}{dw:List Value}{w2:World}(h:cm cx σ vals w σ' an w')(k:cm cx σ' an w' σ2 dw w2):cm cx σ vals w σ2 dw w2:=
 ⟨λi v hv=>k.vs i v (h.vs i v hv),zat h.len k.len,λb hb=>k.ok b (h.ok b hb),λb hb=>(k.same b (h.ok b hb)).trans (h.same b hb),
  λi hi e sz ap ak he=>by
   obtain⟨Hi,els',h'⟩:=k.r7 i (zag hi h.len) e sz ap ak he;exact h.r7 i hi e sz Hi els' h',
  λi hi s he hb=>by
   obtain⟨s',h',x6⟩:=k.sb i (zag hi h.len) s he hb;exact h.sb i hi s' h' x6⟩
def Pin.keep(p:Pin cx σ vals)(h:cm cx σ vals w σ' an w'):Pin cx σ' an:=
 ⟨λi v hv=>h.vs i v (p.vs i v hv),zat p.len h.len,
  λi hi e sz ap ak he=>by
   obtain⟨Hi,els',h'⟩:=h.r7 i (zag hi p.len) e sz ap ak he;exact p.r7 i hi e sz Hi els' h',
  λi hi s he hb=>by
   obtain⟨s',h',x6⟩:=h.sb i (zag hi p.len) s he hb;exact p.sb i hi s' h' x6⟩
def ba.grow(h:ba cx σ vals w)(M6:Below w.heap.size w w'):ba cx σ vals w'/\cm cx σ vals w σ vals w':=by
 have hk:cm cx σ vals w σ vals w':=cm.grow M6.size M6.block;have VE:Fr cx σ vals w':=⟨zat h.fr.size M6.size,λb hb=>(M6.block b (zag (cx.hk b hb) h.fr.size)).trans (h.fr.same b hb),h.fr.nB⟩
 refine⟨⟨h.below.below M6,h.one,h.len,λi s v hi hv=>?_,h.oP,VE,h.pin.keep hk⟩,hk⟩;refine hk.rb (h.iU i s v hi hv) (λb hb=>M6.block b ?_);have hs:=h.iU i s v hi hv;cases s with
 |dead=>cases hb
 |fz x=>cases hb
 |mp l=>cases hb
 |pool e sz l lt=>
  obtain⟨p,hp,hb⟩:=hb;obtain⟨_,_,h2⟩:=hs;obtain⟨cells,h1,_⟩:=h2 p hp;rcases h1.2 with⟨Su,_⟩|⟨g,cap,cur,fr,Su,_,h3,_⟩
  ·rw[Su]at hb;cases hb
  ·rw[Su]at hb;cases hb;exact(zai.1 h3).1
 |row e sz app ak=>
  obtain⟨_,cells,h1,_⟩:=hs;rcases h1.2 with⟨rfl,_⟩|⟨g,cap,cur,fr,rfl,_,h3,_⟩
  ·cases hb
  ·cases hb;exact(zai.1 h3).1
 |box e cs=>
  obtain⟨b',arr,rfl,_,h2,_⟩:=hs;cases hb;exact(zai.1 h2).1
end keep
end
end Go.Dv
namespace Go.Dv
def opt{α β:Type}(o:Option α)(f:α->Option β):Option β:=
 match o with
 |none=>none
 |some a=>f a
def jh{α:Type}(b:Bool)(x:Option α):Option α:=match b with|true=>x|false=>none
def uk(P:Program)(t:TypeId):Option (TypeId×Nat×Nat):=
 match P.underlying t with
 |some (.slice e)=>opt (P.info? e) λi=>some (e,i.size,i.bytes)
 |_=>none
def G9(P:Program)(t:TypeId):Option (Bool×Nat):=
 opt (P.info? t) λi=>match P.underlying t with
  |some (.struct _)=>some (true,i.size)
  |some (.array _ _)=>some (true,i.size)
  |some _=>some (false,i.size)
  |none=>none
def Co{α β:Type}(f:α->Option β)(l:List α):Option (List β):=
 List.rec (some []) (λa _ ih=>opt (f a) λb=>opt ih λt=>some (b::t)) l
def afa(P:Program)(t:TypeId):Option PV:=
 match P.underlying t with
 |some .bool=>some (.bool false)
 |some (.int k)=>some (.int k 0)
 |some .string=>some (.str [])
 |some (.slice e)=>opt (P.info? e) λi=>some (.nil i.size)
 |some (.pointer _)=>some (.val (.pointer none))
 |some (.interface _)=>some (.val .nilIface)
 |some (.func _ _ _)=>some (.val .nilFunc)
 |_=>none
def ZQ(P:Program)(n:Nat):TypeId->Option (List PV):=
 Nat.rec (λ_=>none) (λ_ ih t=>
  match P.underlying t with
  |some (.struct fs)=>opt (Co (λf:Field=>ih f.type) fs.toList) λl=>some l.flatten
  |some (.array m e)=>opt (ih e) λl=>some (List.replicate m l).flatten
  |_=>opt (afa P t) λc=>some [c]) n
def Ze:PV->Value->Bool
 | .bool b,.bool c=>b==c
 | .int k n,.int j m=>decide (k=j)&&decide (n=m)
 | .str l,.string s=>l.isEmpty&&s.data.toList.isEmpty
 | .nil _,.slice none 0 0=>true
 | .val (.pointer none),.pointer none=>true
 | .val .nilIface,.nilIface=>true
 | .val .nilFunc,.nilFunc=>true
 |_,_=>false
def aaD(cs:List PV):List Value->Bool:=
 List.rec (λvs=>match vs with|[]=>true|_=>false)
  (λc _ ih vs=>match vs with|[]=>false|v::r=>match Ze c v with|true=>ih r|false=>false) cs
def QT(P:Program)(t:TypeId):Option PV:=
 opt (G9 P t) λs=>opt (ZQ P 8 t) λcs=>opt (P.info? t) λi=>opt i.zero λz=>
  match s.1,z with
  |true,.agg vs=>jh (aaD cs vs.toList) (some (.agg cs))
  |false,z=>match cs with
   |[c]=>jh (Ze c z) (some c)
   |_=>none
  |_,_=>none
def yg:Operand->Bool
 | .const (.slice none 0 0)=>true
 |_=>false
def vS(P:Program)(sub:List Field->Option (List Nat))(l:List Field):Nat->Option (List Nat):=
 List.rec (λ_=>some []) (λf _ ih n=>jh (Nat.beq f.offset n&&f.name != "_") (match P.underlying f.type with
  |some (.int _)=>opt (ih (n+1)) λr=>some (0::r)
  |some .string=>opt (ih (n+1)) λr=>some (1::r)
  |some .bool=>opt (ih (n+1)) λr=>some (2::r)
  |some (.struct gs)=>opt (sub gs.toList) λks=>opt (P.info? f.type) λi=>jh (Nat.beq i.size ks.length&&!P.stoodInHeld f.type) (opt (ih (n+ks.length)) λr=>some (ks++r))
  |_=>none)) l
def wM(P:Program)(l:List Field)(n:Nat):Option (List Nat):=
 vS P (λgs=>vS P (λhs=>vS P (λ_=>none) hs 0) gs 0) l n
def D2(l:List (Nat×Operand)):Nat->Option (List Operand):=
 List.rec (λ_=>some []) (λp _ ih n=>match Nat.beq p.1 n with
  |true=>opt (ih (n+1)) λr=>some (p.2::r)
  |false=>none) l
def fieldPlace(P:Program)(t:TypeId)(f:Nat):Option (Nat×Bool×Nat):=
 match P.underlying t with
 |some (.struct fs)=>opt (fs[f]?) λfd=>opt (G9 P fd.type) λs=>jh (decide (0<s.2)) (some (fd.offset,s.1,s.2))
 |_=>none
def ab_(z:PV):List Value->Nat->Bool:=
 List.rec (λn=>match n with|0=>true|_=>false)
  (λv _ ih n=>match n with
    |0=>false
    |n+1=>match Ze z v with|true=>ih n|false=>false)
def td(P:Program)(t:TypeId):Option (PV×Nat):=
 match P.underlying t with
 |some (.array n e)=>opt (P.info? e) λi=>opt (afa P e) λz=>opt (P.info? t) λit=>opt it.zero λzv=>
  jh (Nat.blt 8 n&&Nat.ble n 1000000&&Nat.beq i.size 1) (match zv with
   | .agg vs=>jh (ab_ z vs.toList n) (some (z,n))
   |_=>none)
 |_=>none
def yF(P:Program)(t:TypeId)(x:Operand):Option (Nat×Bool×Nat):=
 match P.underlying t with
 |some (.array n e)=>match x with
  | .const v=>match v with
   | .int _ k=>opt (G9 P e) λs=>jh (decide (0<=k/\k.toNat<n)&&decide (0<s.2)) (some (k.toNat*s.2,s.1,s.2))
   |_=>none
  |_=>none
 |_=>none
def VA(P:Program)(dr:Bool)(o:Oper):Option PK:=
 match o.op with
 | .move x=>match yg x with
  |true=>opt (uk P o.type) λi=>match dr,Nat.blt 0 i.2.1 with
   |false,true=>some (.nilR i.1 i.2.1)
   |_,_=>some (.nilS i.2.1)
  |false=>some (.mv x)
 | .assign x=>match yg x with
  |true=>opt (uk P o.type) λi=>match dr,Nat.blt 0 i.2.1 with
   |false,true=>some (.nilR i.1 i.2.1)
   |_,_=>some (.nilS i.2.1)
  |false=>some (.mv x)
 | .pick c a b=>some (.pick c a b)
 | .binOp op t x y _=>match op with
  | .eql=>match P.underlying t with
   |some (.int _)=>some (.bin .eql x y)
   |some .string=>some (.bin .eql x y)
   |some .bool=>some (.eqb false x y)
   |some (.slice _)=>jh (yg y) (some (.isnil false x))
   |some (.struct fs)=>opt (wM P fs.toList 0) λks=>jh (!P.stoodInHeld t&&!P.eqGuardType P.depth t) (some (.eqs false ks x y))
   |_=>none
  | .neq=>match P.underlying t with
   |some (.int _)=>some (.bin .neq x y)
   |some .string=>some (.bin .neq x y)
   |some .bool=>some (.eqb true x y)
   |some (.slice _)=>jh (yg y) (some (.isnil true x))
   |some (.struct fs)=>opt (wM P fs.toList 0) λks=>jh (!P.stoodInHeld t&&!P.eqGuardType P.depth t) (some (.eqs true ks x y))
   |_=>none
  |op=>some (.bin op x y)
 | .unOp op _ x=>some (.un op x)
 | .lookup t x k c=>match P.underlying t with
  |some (.map kt et)=>match P.underlying kt with
   |some (.int .i64)=>opt (P.info? et) λi=>match i.zero with
    |some (.bool false)=>some (.look c x k)
    |_=>none
   |_=>none
  |_=>none
 | .convert s d x=>match P.underlying s,P.underlying d with
  |some (.int _),some (.int k)=>some (.conv (.toInt k) x)
  |some .string,some .string=>some (.conv .same x)
  |some (.slice e),some .string=>match P.underlying e with
   |some (.int .u8)=>some (.conv .bts x)
   |_=>none
  |some .string,some (.slice e)=>match P.underlying e with
   |some (.int .u8)=>some (.conv (.stb e) x)
   |_=>none
  |_,_=>none
 | .load t x=>opt (G9 P t) λs=>match s.1 with
  |true=>some (.load true s.2 x)
  |false=>some (.load false 1 x)
 | .store t x v=>opt (P.info? t) λi=>some (.store i.size x v)
 | .alloc e=>match td P e with
  |some q=>some (.mkarr e 1 q.1 q.2)
  |none=>opt (QT P e) λz=>some (.alloc e z)
 | .box e x=>some (.box e x)
 | .build t parts=>match P.underlying t with
  |some (.struct fs)=>opt (QT P t) λz=>opt (Co (λf:Field=>opt (P.info? f.type) λi=>some (f.offset,i.size)) fs.toList) λpl=>opt (Co (λp:Nat×Operand=>opt (pl[p.1]?) λq=>some (q.1,q.2,p.2)) parts.toList) λps=>match z with
   | .agg cs=>some (.build cs ps)
   |_=>none
  |some (.array _ e)=>opt (QT P t) λz=>opt (G9 P e) λs=>match z with
   | .agg cs=>some (.build cs (parts.toList.map λp=>(p.1*s.2,s.2,p.2)))
   |_=>none
  |_=>none
 | .buildSlice t n parts=>opt (uk P t) λi=>opt (D2 parts.toList 0) λps=>
  jh (Nat.beq ps.length n&&decide (0<i.2.1)&&Nat.ble (n*i.2.1) 16777216) (opt (QT P i.1) λ_=>some (.bslice i.1 i.2.1 ps))
 | .call c=>match c.callee with
  | .builtin b=>match b,c.args.toList with
   | .len,[x]=>opt (c.argTypes[0]?) λt=>match P.underlying t with
    |some .string=>some (.lenS x)
    |some (.slice _)=>some (.lenR x)
    |_=>none
   | .append,[x,y]=>match c.argTypes.toList with
    |[t,u]=>opt (uk P t) λi=>opt (QT P i.1) λz=>jh (decide (0<i.2.1)&&Nat.beq z.cells.length i.2.1) (match Nat.beq t u with
     |true=>some (.app i.1 i.2.1 i.2.2 x y)
     |false=>match P.underlying u with
      |some .string=>match P.underlying i.1 with
       |some (.int .u8)=>jh (Nat.beq i.2.1 1) (some (.appS i.1 i.2.2 x y))
       |_=>none
      |_=>none)
    |_=>none
   | .copy,[x,y]=>match c.argTypes.toList with
    |[t,u]=>opt (uk P t) λi=>match P.underlying u with
     |some .string=>match P.underlying i.1 with
      |some (.int .u8)=>jh (Nat.beq i.2.1 1) (some (.cpyS x y))
      |_=>none
     |some (.slice _)=>jh (decide (0<i.2.1)) (some (.cpy i.2.1 x y))
     |_=>none
    |_=>none
   | .clear,[x]=>opt (c.argTypes[0]?) λt=>opt (uk P t) λi=>opt (QT P i.1) λz=>jh (decide (0<i.2.1)&&Nat.beq z.cells.length i.2.1) (some (.clr i.2.1 z x))
   | .min,[x,y]=>some (.mm false x y)
   | .max,[x,y]=>some (.mm true x y)
   |_,_=>none
  | .value f=>match f with
   | .func f=>opt (P.funcs[f]?) λfn=>match fn.body with
    |some _=>jh (decide (fn.name≠ "runtime.NumGoroutine")) (some (.call f c.args.toList))
    |none=>none
   | .tmp t=>some (.callv (.tmp t) c.args.toList)
   |_=>none
  |_=>none
 | .extract x i=>some (.ext x i)
 | .slice t x lo hi mx=>match mx with
  |none=>match P.underlying t with
   |some .string=>some (.slcS x lo hi)
   |some (.slice e)=>opt (P.info? e) λi=>some (.slcR i.size x lo hi)
   |some (.array _ _)=>opt (td P t) λq=>some (.slcA q.2 1 x lo hi)
   |_=>none
  |some _=>none
 | .index t x i=>match P.underlying t with
  |some .string=>some (.idx x i)
  |some (.array m e)=>match yF P t i with
   |some q=>match q.2.1 with
    |true=>some (.fld q.1 true q.2.2 x)
    |false=>some (.fld q.1 false 1 x)
   |none=>opt (G9 P e) λs=>jh (decide (0<s.2)) (match s.1 with
    |true=>some (.idxV m s.2 true s.2 x i)
    |false=>some (.idxV m s.2 false 1 x i))
  |_=>none
 | .indexAddr t x i=>match P.underlying t with
  |some (.array m e)=>match td P t with
   |some q=>some (.idxAr q.2 1 x i)
   |none=>match yF P t i with
    |some q=>some (.fldA q.1 x)
    |none=>opt (G9 P e) λs=>jh (decide (0<s.2)) (some (.fldV m s.2 x i))
  |_=>opt (uk P t) λs=>some (.idxA s.2.1 x i)
 | .fieldAddr s x f=>opt (fieldPlace P s f) λq=>some (.fldA q.1 x)
 | .field s x f=>opt (fieldPlace P s f) λq=>match q.2.1 with
  |true=>some (.fld q.1 true q.2.2 x)
  |false=>some (.fld q.1 false 1 x)
 | .nilCheck x=>some (.nilck x)
 | .makeFunc f first gB=>match f,first.toList with
  | .func f,[]=>some (.mkf f gB.toList)
  |_,_=>none
 | .makeSlice t l c=>opt (uk P t) λi=>opt (QT P i.1) λz=>jh (decide (0<i.2.1)&&Nat.beq z.cells.length i.2.1) (some (.mksl i.1 i.2.1 i.2.2 z l c))
 | .panic _=>some .fail
 | .makeInterface t _=>match P.underlying t with
  |some (.interface _)=>none
  |some _=>some .junk
  |none=>none
 |_=>none
def awg(n:Nat):Option Tmp->Bool
 |none=>true
 |some d=>Nat.blt d n
def Up(P:Program)(dr:Bool)(o:Oper):Option PK:=
 match VA P dr o with
 |some k=>some k
 |none=>match o.op with
  | .call _=>some .fail
  |_=>none
def BO(P:Program)(dr:Bool)(ops:Array Oper)(n:Nat)(o:Oper):Option PO:=
 opt (Up P dr o) λk=>jh (awg n o.dst) (match o.guard with
  |none=>some ⟨o.dst,none,k⟩
  |some (j,want)=>opt (ops[j]?) λoj=>opt oj.dst λd=>some ⟨o.dst,some (d,want),k⟩)
def Me(P:Program)(n:Nat)(c:Code):Option (List PO):=
 Code.rec (motive:=λ_=>Option (List PO)) none
  (λ_ ops draw=>match draw with
    |false=>Co (BO P false ops n) ops.toList
    |true=>none)
  (λ_ _ a b=>opt a λa=>opt b λb=>some (a++b))
  (λ_ _ _ _ _=>none) (λ_ _ _=>none) (λ_ _=>none) (λ_ _ _ _ _ _=>none) (λ_=>none) (λ_ _=>none) (λ_=>none) (λ_=>none) none (λ_=>none) c
def uH(P:Program)(n:Nat)(c:Code):Option PC:=
 Code.rec (motive:=λ_=>Option PC)
  (some .skip)
  (λ_ ops draw=>match draw with
    |false=>opt (Co (BO P false ops n) ops.toList) λl=>some (.region l)
    |true=>opt (Co (BO P true ops n) ops.toList) λl=>some (.draw (l.map PO.plain) (ops.toList.map λo=>(o.after.toList.filter λe=>Region.binds .any e).map (·.on))))
  (λ_ _ a b=>opt a λa=>opt b λb=>some (.seq a b))
  (λx _ _ a b=>opt a λa=>opt b λb=>some (.cond x a b))
  (λid _ b=>opt b λb=>some (.block id b))
  (λ_ b=>opt b λb=>some (.loop [] b))
  (λf ps asg _ _ b=>opt (Me P n asg) λl=>opt b λb=>jh (ps.toList.all λp=>Nat.blt p n) (some (.rangeF f ps.toList l b)))
  (λid=>some (.exit id))
  (λ_ _=>none)
  (λ_=>none)
  (λ_=>none)
  (some .ret)
  (λ_=>none) c
def strip(c:PC):PC:=
 PC.rec .skip (λl=>.region l) (λl a=>.draw l a) (λl a=>.draw l a) (λ_ _ a b=>.seq a b) (λx _ _ a b=>.cond x a b) (λid _ b=>.block id b) (λ_ _ b=>.loop [] b) (λf ps l _ b=>.rangeF f ps l b) (λid=>.exit id) .ret c
def Mj(P:Program)(r:ResultVar):Option (Nat×Option (Bool×Nat)):=
 match r with
 | .tmp t=>some (t,none)
 | .cell a t=>opt (G9 P t) λs=>match s.1 with
  |true=>some (a,some (true,s.2))
  |false=>some (a,some (false,1))
section
section
variable {α:Type}
def az(l:List α):∀(i:Nat) (K:α->Prop),dm l i K→∃a,l[i]?=some a/\K a:=by
 induction l with
 |nil=>intro i K h;exact h.elim
 |cons a l ih=>
  intro i K h;cases i with
  |zero=>exact⟨a,rfl,h⟩
  |succ i=>simpa using ih i K h
def wu(n:Nat):∀(l:List α) (K:List α->Prop),zV n l K→∃t r,l=t++r/\t.length=n/\K t:=by
 induction n with
 |zero=>intro l K h;exact⟨[],l,rfl,rfl,h⟩
 |succ n ih=>
  intro l K h;cases l with
  |nil=>exact h.elim
  |cons a l=>
   obtain⟨t,r,rfl,h2,h3⟩:=ih l _ h;exact⟨a::t,r,rfl,uM,h3⟩
def rL(n:Nat):∀(l:List α) (K:List α->Prop),xE n l K→∃t r,l=t++r/\t.length=n/\K r:=by
 induction n with
 |zero=>intro l K h;exact⟨[],l,rfl,rfl,h⟩
 |succ n ih=>
  intro l K h;cases l with
  |nil=>exact h.elim
  |cons a l=>
   obtain⟨t,r,rfl,h2,h3⟩:=ih l _ h;exact⟨a::t,r,rfl,uM,h3⟩
def VU(new:List α):∀(l:List α) (K:List α->Prop),
 (List.rec (λl K=>K l) (λx _ ih l K=>match l with|[]=>False|_::r=>ih r λt=>K (x::t)) new l K)->
 ∃mid post,l=mid++post/\mid.length=new.length/\K (new++post):=by
 induction new with
 |nil=>intro l K h;exact⟨[],l,rfl,rfl,h⟩
 |cons x new ih=>
  intro l K h;cases l with
  |nil=>exact h.elim
  |cons a l=>
   obtain⟨m,p,rfl,h2,h3⟩:=ih l _ h;exact⟨a::m,p,rfl,uM,h3⟩
def mH(new:List α)(l:List α):∀(i:Nat) (K:List α->Prop),wK new l i K->
 ∃pre mid post,l=pre++mid++post/\pre.length=i/\mid.length=new.length/\K (pre++new++post):=by
 induction l with
 |nil=>
  intro i K h;cases i with
  |zero=>
   cases new with
   |nil=>exact⟨[],[],[],rfl,rfl,rfl,h⟩
   |cons x new=>exact h.elim
  |succ i=>exact h.elim
 |cons a l ih=>
  intro i K h;cases i with
  |zero=>
   obtain⟨m,p,h1,h2,h3⟩:=VU new (a::l) K h;exact⟨[],m,p,mK,rfl,h2,uK⟩
  |succ i=>
   obtain⟨pre,m,p,rfl,h2,h3,h4⟩:=ih i _ h;exact⟨a::pre,m,p,ae,uM,h3,yA⟩
def bu(l:List α):∀(i:Nat) (x:α) (K:List α->Prop),iX l i x K->i<l.length/\K (l.set i x):=by
 induction l with
 |nil=>intro i x K h;exact h.elim
 |cons a l ih=>
  intro i x K h;cases i with
  |zero=>exact⟨ae,h⟩
  |succ i=>have:=ih i x _ h;exact⟨by simpa using this.1,by simpa using this.2⟩
def bR(l:List α)(x:α):∀(K:List α->Prop),eo l x K->K (l++[x]):=by
 induction l with
 |nil=>intro K h;exact h
 |cons a l ih=>intro K h;exact ih _ h
def cW(l:List α):∀(K:Nat->Prop),iW l K->K l.length:=by
 induction l with
 |nil=>intro K h;exact h
 |cons a l ih=>intro K h;exact ih _ h
end
def qZ(p:Nat)(K:AV->Prop)(e:Env):look p K e->K (aA p e):=by
 induction e with
 |nil=>intro h;exact h
 |cons hd e ih=>
  intro h;obtain⟨q,v⟩:=hd;have h':Bool.rec (look p K e) (K v) (Nat.beq q p):=h;simp only[aA];cases hq:Nat.beq q p with
  |true=>rw[hq]at h';exact h'
  |false=>rw[hq]at h';exact ih h'
def a_(env:Env):Operand->AV
 | .tmp t=>aA t env
 | .const v=>EA v
 | .global _=>.bad
 | .func f=>.pv (.clo f [])
def aC(env:Env)(o:Operand)(K:AV->Prop)(h:ev env o K):K (a_ env o):=by
 cases o with
 |tmp t=>exact qZ t K env h
 |const v=>exact h
 |global g=>exact h
 |func f=>exact h
def DU(env:Env)(l:List Operand):∀(K:List AV->Prop),evs env l K->K (l.map (a_ env)):=by
 induction l with
 |nil=>intro K h;exact h
 |cons o l ih=>intro K h;exact ih _ (aC env o _ h)
def uP(env:Env)(o:Option Operand)(K:Option AV->Prop)(h:evO env o K):K (o.map (a_ env)):=by
 cases o with
 |none=>exact h
 |some x=>exact aC env x _ h
def DN(env:Env)(l:List (Nat×Nat×Operand)):∀(K:List (Nat×Nat×AV)->Prop),Ay env l K->K (l.map λp=>(p.1,p.2.1,a_ env p.2.2)):=by
 induction l with
 |nil=>intro K h;exact h
 |cons o l ih=>intro K h;exact ih _ (aC env o.2.2 _ h)
def J9(env:Env)(ps:List Nat):∀(K:Env->Prop),canon env ps K->K (ps.map λp=>(p,aA p env)):=by
 induction ps with
 |nil=>intro K h;exact h
 |cons p ps ih=>intro K h;exact ih _ (qZ p (λv=>canon env ps λr=>K ((p,v)::r)) env h)
def lz(l:List PV):∀(K:List AV->Prop),H3 l K->K (l.map .pv):=by
 induction l with
 |nil=>intro K h;exact h
 |cons x l ih=>intro K h;exact ih _ h
def oY(l:List AV):∀(K:List PV->Prop) (E:Prop),Fh l K E->(∃t,l=t.map .pv/\K t)\/E:=by
 induction l with
 |nil=>intro K E h;exact .inl ⟨[],rfl,h⟩
 |cons a l ih=>
  intro K E h;cases a with
  |pv x=>
   rcases ih _ E h with⟨t,rfl,h2⟩|h2
   ·exact .inl ⟨x::t,rfl,h2⟩
   ·exact .inr h2
  |_=>exact .inr h
def FM(l:List AV)(K:AV->Prop)(h:WK l K):(∃t,l=t.map .pv/\K (.pv (.agg t)))\/K (.agg l):=oY l _ _ h
def yL(env:Env)(ps:List Nat)(p:Nat):aA p (ps.map λp=>(p,aA p env))=aA p env\/aA p (ps.map λp=>(p,aA p env))=.bad:=by
 induction ps with
 |nil=>exact .inr rfl
 |cons q ps ih=>
  simp only[zav,aA];cases hq:Nat.beq q p with
  |true=>have:q=p:=zab hq;subst this;exact .inl rfl
  |false=>exact ih
def fx(d:Nat)(v:AV)(env:Env)(p:Nat):aA p (put (some d) v env)=bif Nat.beq d p then v else aA p env:=rfl
section read
variable {ok:Nat->Prop} {σ:aw} {vals:List Value} {w:World}
def eY(l:List PV):∀vs:List Value,d_ ok σ vals w (l.map .pv) vs↔cE ok w l vs:=by
 induction l with
 |nil=>intro vs;simp[d_,cE]
 |cons x l ih=>intro vs;simp only[zav,d_,cE,RA,ih]
def ei(xs ys:List AV):∀vs:List Value,d_ ok σ vals w (xs++ys) vs↔∃us ws,vs=us++ws/\d_ ok σ vals w xs us/\d_ ok σ vals w ys ws:=by
 induction xs with
 |nil=>intro vs;simp only[za0,d_];constructor
       ·intro h;exact⟨[],vs,rfl,rfl,h⟩
       ·rintro⟨us,ws,rfl,rfl,h⟩;exact h
 |cons x xs ih=>
  intro vs;simp only[zbe,d_,ih];constructor
  ·rintro⟨v,r,rfl,h1,us,ws,rfl,h2,h3⟩;exact⟨v::us,ws,rfl,⟨v,us,rfl,h1,h2⟩,h3⟩
  ·rintro⟨_,ws,rfl,⟨v,us,rfl,h1,h2⟩,h3⟩;exact⟨v,us++ws,rfl,h1,us,ws,rfl,h2,h3⟩
def d_.length{l:List AV}:∀{vs:List Value},d_ ok σ vals w l vs->vs.length=l.length:=by
 induction l with
 |nil=>intro vs h;simp only[d_]at h;subst h;rfl
 |cons x l ih=>intro vs h;simp only[d_]at h;obtain⟨v,r,rfl,_,h2⟩:=h;simp[ih h2]
def c8(xs ys:List PV)(vs:List Value):cE ok w (xs++ys) vs↔∃us ws,vs=us++ws/\cE ok w xs us/\cE ok w ys ws:=by
 have:=ei (ok:=ok) (σ:=[]) (vals:=[]) (w:=w) (xs.map .pv) (ys.map .pv) vs;rw[<-zaD,eY]at this;simpa only[eY]using this
def cE.length{l:List PV}{vs:List Value}(h:cE ok w l vs):vs.length=l.length:=((kW l vs).1 h).1
end read
end
end Go.Dv
namespace Go.Dv
open Go.RowKit
section
def Out(cx:Cx)(env:Env)(a:Act)(w:World)(o:Oper)(K:AV->aw->Prop):Prop:=
 ∀(next:Act->World->Prop) (Q:Exit->Act->World->Prop),
  (∀av σ' an v w',K av σ'->Rel cx env σ' an a w'->RA (Ok cx σ' an w') σ' an w' av v->next (a.put o.dst v) w')->o.wp cx.P a w next Q
section
variable {cx:Cx} {env:Env} {σ:aw} {vals:List Value} {a:Act} {w:World} {o:Oper}
def Rel.ev(h:Rel cx env σ vals a w)(x:Operand):RA (Ok cx σ vals w) σ vals w (a_ env x) (a.eval x):=by
 cases x with
 |tmp t=>exact h.env t
 |const v=>
  simp only[a_,Act.eval];unfold EA;split<;>simp only[RA,Rd];rename_i h1 h2 h3 h4 h5 h6;refine⟨trivial,?_⟩;cases v<;>first|rfl|exact(h5 _ rfl).elim|exact(h6 _ rfl).elim
 |global g=>simp only[a_,RA]
 |func f=>simp only[a_,Act.eval,RA,Rd];exact⟨#[],rfl,oZ⟩
def Rel.evL(h:Rel cx env σ vals a w)(l:List Operand):d_ (Ok cx σ vals w) σ vals w (l.map (a_ env)) (l.map a.eval):=by
 induction l with
 |nil=>simp[d_]
 |cons x l ih=>simp only[zav,d_];exact⟨_,_,rfl,h.ev x,ih⟩
def Out.run{K:AV->aw->Prop}{σ':aw}{an:List Value}{w':World}{v:Value}{av:AV}(ec:(execOp a.eval o).run cx.P w=.ok (.value v) w')(hr:Rel cx env σ' an a w')(hv:RA (Ok cx σ' an w') σ' an w' av v)
 (hK:K av σ'):Out cx env a w o K:=by
 intro next Q hn
 unfold Oper.wp;rw[ec,Oper.upon_value];exact hn av σ' an v w' hK hr hv
def Out.skip{K:AV->aw->Prop}{σ':aw}{an:List Value}{w':World}(ec:(execOp a.eval o).run cx.P w=.ok .skip w')(hr:Rel cx env σ' an a w')
 (hK:K .bad σ'):Out cx env a w o K:=by
 intro next Q hn
 unfold Oper.wp;rw[ec,Oper.upon_skip];exact hn .bad σ' an undef w' hK hr (by simp only[RA])
def Rt{K:AV->aw->Prop}(hr:Rel cx env σ vals a w)(x:Operand)(ho:o.op=.move x\/o.op=.assign x)(hK:K (a_ env x) σ):Out cx env a w o K:=by
 refine Out.run (v:=a.eval x) ?_ hr (hr.ev x) hK;rcases ho with ho|ho<;>simp[execOp,ho]
def q4{p:Prop}[Decidable p]{K:PV->Prop}(h:sj p K):K (.bool (decide p)):=h _ ae
def iD{k j:IntKind}(h:Nat.beq k.ctorIdx j.ctorIdx=true):k=j:=by
 cases k<;>cases j<;>first|rfl|cases h
def ZY(P:Program)(op:BinOp)(t:TypeId)(k j:IntKind)(x y:Int)(K:PV->Prop)(hj:sameKind op k j=true)(h:YT op k x y K):
 ∃r v,(binOp op t (.int k x) (.int j y)).run P w=.ok v w/\Rd (Ok cx σ vals w) w r v/\K r∧∀b1 b2,(eqGuard op t b1 b2 (.int k x) (.int j y)).run P w=.ok () w:=by
 have hg:∀b1 b2,(eqGuard op t b1 b2 (.int k x) (.int j y)).run P w=.ok () w:=by
  intro b1 b2;cases op<;>simp[eqGuard]
 cases op with
 |shl=>
  obtain⟨h0,h⟩:=h;refine⟨_,.int k (k.wrap (x*2^min y.toNat k.bits)),?_,cL,h _ rfl,hg⟩;simp[binOp,Op.shift,show ¬y<0 from by omega]
 |shr=>
  obtain⟨h0,h⟩:=h;refine⟨_,.int k (x.fdiv (2^min y.toNat k.bits)),?_,cL,h _ rfl,hg⟩;simp[binOp,Op.shift,show ¬y<0 from by omega]
 |quo=>
  obtain⟨h0,h⟩:=h;cases iD hj;refine⟨_,.int k (k.wrap (x.tdiv y)),?_,cL,h _ rfl,hg⟩;simp[binOp,Op.intDiv,h0]
 |rem=>
  obtain⟨h0,h⟩:=h;cases iD hj;refine⟨_,.int k (x.tmod y),?_,cL,h _ rfl,hg⟩;simp[binOp,Op.intDiv,h0]
 |add=>cases iD hj;exact⟨_,.int k (k.wrap (x+y)),KR,cL,h _ rfl,hg⟩
 |sub=>cases iD hj;exact⟨_,.int k (k.wrap (x-y)),KR,cL,h _ rfl,hg⟩
 |mul=>cases iD hj;exact⟨_,.int k (k.wrap (x*y)),KR,cL,h _ rfl,hg⟩
 |and=>cases iD hj;exact⟨_,.int k (hY .and k x y),Eo,cL,h _ rfl,hg⟩
 |or=>cases iD hj;exact⟨_,.int k (hY .or k x y),Eo,cL,h _ rfl,hg⟩
 |xor=>cases iD hj;exact⟨_,.int k (hY .xor k x y),Eo,cL,h _ rfl,hg⟩
 |andNot=>cases iD hj;exact⟨_,.int k (hY .andNot k x y),Eo,cL,h _ rfl,hg⟩
 |eql=>cases iD hj;exact⟨.bool (x==y),.bool (x==y),uV,cL,h _ ae,hg⟩
 |neq=>cases iD hj;exact⟨.bool (x !=y),.bool (x !=y),uV,cL,h _ ae,hg⟩
 |lss=>cases iD hj;exact⟨.bool (decide (x<y)),.bool (decide (x<y)),uV,cL,h _ ae,hg⟩
 |leq=>cases iD hj;exact⟨.bool (decide (x<=y)),.bool (decide (x<=y)),uV,cL,h _ ae,hg⟩
 |gtr=>cases iD hj;exact⟨.bool (decide (y<x)),.bool (decide (y<x)),uV,cL,h _ ae,hg⟩
 |geq=>cases iD hj;exact⟨.bool (decide (y<=x)),.bool (decide (y<=x)),uV,cL,h _ ae,hg⟩
def rD(l m:List UInt8):((⟨l.toArray⟩:ByteArray).toList==(⟨m.toArray⟩:ByteArray).toList)=decide (l=m):=by
 rw[ByteArray.toList_mk,ByteArray.toList_mk,zaM];simp
def wG(l m:List UInt8):Op.bytesLess (⟨l.toArray⟩:ByteArray).toList (⟨m.toArray⟩:ByteArray).toList=decide (Op.bytesLess l m=true):=by
 rw[ByteArray.toList_mk,ByteArray.toList_mk];simp
def Z8(P:Program)(op:BinOp)(t:TypeId)(x y:PV)(vx vy:Value)(K:PV->Prop)(hx:Rd (Ok cx σ vals w) w x vx)(hy:Rd (Ok cx σ vals w) w y vy)(h:adK op x y K):
 ∃r v,(binOp op t vx vy).run P w=.ok v w/\Rd (Ok cx σ vals w) w r v/\K r∧∀b1 b2,(eqGuard op t b1 b2 vx vy).run P w=.ok () w:=by
 cases x with
 |int k x=>
  cases y with
  |int j y=>
   simp only[Rd]at hx hy;subst hx hy;have h':(match sameKind op k j with|true=>YT op k x y K|false=>False):=h;cases hs:sameKind op k j with
   |true=>rw[hs]at h';exact ZY P op t k j x y K hs h'
   |false=>rw[hs]at h';exact h'.elim
  |_=>exact h.elim
 |str x=>
  cases y with
  |str y=>
   simp only[Rd]at hx hy;subst hx hy;have hg:∀b1 b2,(eqGuard op t b1 b2 (.string ⟨x.toArray⟩) (.string ⟨y.toArray⟩)).run P w=.ok () w:=by
    intro b1 b2;cases op<;>simp[eqGuard]
   cases op with
   |add=>
    obtain⟨h0,h⟩:=h;refine⟨_,.string ⟨(x++y).toArray⟩,?_,cL,h,hg⟩;have h1:¬(((⟨x.toArray⟩:ByteArray).size+(⟨y.toArray⟩:ByteArray).size:Nat):Int)>IntKind.i64.max:=by
     have:IntKind.i64.max=9223372036854775807:=af;rw[this];show ¬((x.length+y.length:Nat):Int)>_;omega
    simp only[binOp,Op.stringOp,if_neg h1];show Result.ok (Value.string (⟨x.toArray⟩++⟨y.toArray⟩)) w=_;congr 2
   |eql=>
    refine⟨_,.bool (decide (x=y)),?_,cL,q4 h,hg⟩;simp only[binOp,Op.stringOp,rD];rfl
   |neq=>
    refine⟨_,.bool (decide (x≠y)),?_,cL,q4 h,hg⟩;simp only[binOp,Op.stringOp,rD,decide_not];rfl
   |lss=>
    refine⟨_,.bool (decide (Op.bytesLess x y=true)),?_,cL,q4 h,hg⟩;simp only[binOp,Op.stringOp,wG];rfl
   |leq=>
    refine⟨_,.bool (decide (Op.bytesLess x y=true\/x=y)),?_,cL,q4 h,hg⟩;simp only[binOp,Op.stringOp,wG,rD,zbj];rfl
   |gtr=>
    refine⟨_,.bool (decide (¬(Op.bytesLess x y=true\/x=y))),?_,cL,q4 h,hg⟩;simp only[binOp,Op.stringOp,wG,rD,decide_not,zbj];rfl
   |geq=>
    refine⟨_,.bool (decide (¬Op.bytesLess x y=true)),?_,cL,q4 h,hg⟩;simp only[binOp,Op.stringOp,wG,decide_not];rfl
   |_=>exact h.elim
  |_=>exact h.elim
 |_=>exact h.elim
def ad7{K:AV->aw->Prop}(hr:Rel cx env σ vals a w)(op:BinOp)(t u:TypeId)(x y:Operand)(ho:o.op=.binOp op t x y u)
 (hK:match a_ env x,a_ env y with
   | .pv x,.pv y=>adK op x y λr=>K (.pv r) σ
   |_,_=>False):Out cx env a w o K:=by
 have hx:=hr.ev x;have hy:=hr.ev y
 revert hK hx hy
 cases a_ env x with
 |pv px=>
  cases a_ env y with
  |pv py=>
   intro hK hx hy;simp only[RA]at hx hy;obtain⟨r,v,h1,h2,h3,h4⟩:=Z8 cx.P op t px py _ _ _ hx hy hK;refine Out.run (v:=v) ?_ hr Ki h3;simp[execOp,ho,h1,h4]
  |_=>intro hK;exact hK.elim
 |_=>intro hK;exact hK.elim
def aie{K:AV->aw->Prop}(hr:Rel cx env σ vals a w)(op:UnOp)(t:TypeId)(x:Operand)(ho:o.op=.unOp op t x)
 (hK:match a_ env x with
   | .pv x=>unP op x λr=>K (.pv r) σ
   |_=>False):Out cx env a w o K:=by
 have hx:=hr.ev x
 revert hK hx
 cases a_ env x with
 |pv px=>
  intro hK hx;simp only[RA]at hx;cases op with
  |not=>
   cases px with
   |bool b=>
    simp only[Rd]at hx;refine Out.run (v:=.bool (!b)) (by simp[execOp,ho,hx,Op.unary]) hr (av:=.pv (.bool (!b))) fj (hK _ ae)
   |_=>exact hK.elim
  |neg=>
   cases px with
   |int k n=>
    simp only[Rd]at hx;refine Out.run (v:=.int k (k.wrap (0-n))) (by simp[execOp,ho,hx,Op.unary,Op.intArith]) hr (av:=.pv (.int k (k.wrap (0-n)))) fj (hK _ rfl)
   |_=>exact hK.elim
  |_=>exact hK.elim
 |_=>intro hK;exact hK.elim
def Vn{K:AV->aw->Prop}(hr:Rel cx env σ vals a w)(neg:Bool)(t u:TypeId)(x y:Operand)
 (hK:match a_ env x,a_ env y with
   | .pv x,.pv y=>match x,y with
    | .bool a,.bool b=>match neg with
     |false=>sj (a=b) λr=>K (.pv r) σ
     |true=>sj (a≠b) λr=>K (.pv r) σ
    |_,_=>False
   |_,_=>False)
 (ho:o.op=.binOp (if neg then .neq else .eql) t x y u) (ht:cx.P.underlying t=some .bool):Out cx env a w o K:=by
 have hx:=hr.ev x;have hy:=hr.ev y
 revert hK hx hy
 cases a_ env x with
 |pv px=>
  cases a_ env y with
  |pv py=>
   cases px with
   |bool p=>
    cases py with
    |bool q=>
     intro hK hx hy;simp only[RA,Rd]at hx hy;cases neg with
     |false=>
      refine Out.run (v:=.bool (p==q)) ?_ hr (av:=.pv (.bool (p==q))) fj (hK _ ae);simp[execOp,ho,hx,hy,eqGuard,binOp,Op.equal,run_equalIn_bool w 9999 t p q ht,Op.maxDepth,Sem.run_bind,Sem.run_pure]
     |true=>
      refine Out.run (v:=.bool (p !=q)) ?_ hr (av:=.pv (.bool (p !=q))) fj (hK _ ae);simp[execOp,ho,hx,hy,eqGuard,binOp,Op.equal,run_equalIn_bool w 9999 t p q ht,Op.maxDepth,Sem.run_bind,Sem.run_pure];cases p<;>cases q<;>rfl
    |_=>intro hK;exact hK.elim
   |_=>intro hK;cases py<;>exact hK.elim
  |_=>intro hK;exact hK.elim
 |_=>intro hK;exact hK.elim
instance aDB:DecidableEq PV:=λx y=>Classical.propDecidable (x=y)
def Bw{P:Program}{t:TypeId}(h:∀d,P.underlying t=some d->(d matches .struct _| .array _ _)=false)(hd:∃d,P.underlying t=some d){cs:Array Value}{off:Nat}{v:Value}(hv:cs[off]?=some v):
 (part t cs off).run P w=.ok v w:=by
 obtain⟨d,hd⟩:=hd;have:=h d hd;cases d<;>simp_all[part,isAgg,run_underlying hd]
def DF:∀(k1 k2:List Nat) (cs ds:List PV),o0 (k1++k2) cs ds=true→∃c1 c2 d1 d2,cs=c1++c2/\ds=d1++d2/\o0 k1 c1 d1=true/\o0 k2 c2 d2=true/\c1.length=k1.length/\d1.length=k1.length
 |[],k2,cs,ds,h=>⟨[],cs,[],ds,rfl,rfl,rfl,h,rfl,rfl⟩
 |k::k1,k2,cs,ds,h=>by
  cases cs with
  |nil=>cases h
  |cons c cs=>
   cases ds with
   |nil=>cases h
   |cons d ds=>
    have h':(match BU k c d with|true=>o0 (k1++k2) cs ds|false=>false)=true:=h;cases h1:BU k c d with
    |false=>rw[h1]at h';cases h'
    |true=>
     rw[h1]at h';obtain⟨c1,c2,d1,d2,rfl,rfl,e1,e2,e3,e4⟩:=DF k1 k2 cs ds h';refine⟨c::c1,c2,d::d1,d2,rfl,rfl,?_,e2,by simp[e3],by simp[e4]⟩;show(match BU k c d with|true=>o0 k1 c1 d1|false=>false)=true;rw[h1];exact e1
def G8{P:Program}{w:World}{t:TypeId}{gs:Array Field}{i:TypeInfo}(h:P.underlying t=some (.struct gs))(hi:P.info? t=some i)(cs:Array Value)(off:Nat):
 (part t cs off).run P w=.ok (.agg (cs.extract off (off+i.size))) w:=by
 simp[part,isAgg,run_underlying h,sizeOf,run_typeInfo w hi]
def EX{P:Program}(N:Nat)(sub:List Field->Option (List Nat))
 (aB4:∀(gs:List Field) (ks:List Nat) (cs ds:List PV) (xs ys:Array Value),sub gs=some ks->o0 ks cs ds=true->cE (Ok cx σ vals w) w cs xs.toList->cE (Ok cx σ vals w) w ds ys.toList->(Op.eqFields N xs ys gs).run P w=.ok (decide (cs=ds)) w)
 (fs:List Field):∀(n:Nat) (ks:List Nat) (cs ds:List PV) (xs ys:Array Value),vS P sub fs n=some ks->o0 ks cs ds=true->
 cE (Ok cx σ vals w) w cs (xs.toList.drop n)->cE (Ok cx σ vals w) w ds (ys.toList.drop n)->(Op.eqFields (N+1) xs ys fs).run P w=.ok (decide (cs=ds)) w:=by
 induction fs with
 |nil=>
  intro n ks cs ds xs ys hk hl hx hy;cases hk;have:cs=[]/\ds=[]:=by
   cases cs with
   |nil=>cases ds with
    |nil=>exact⟨rfl,rfl⟩
    |cons d ds=>simp[o0]at hl
   |cons c cs=>simp[o0]at hl
  obtain⟨rfl,rfl⟩:=this;simp[Op.eqFields]
 |cons f fs ih=>
  intro n ks cs ds xs ys hk hl hx hy;have mM:jh (Nat.beq f.offset n&&f.name != "_") (match P.underlying f.type with
   |some (.int _)=>opt (vS P sub fs (n+1)) λr=>some (0::r)
   |some .string=>opt (vS P sub fs (n+1)) λr=>some (1::r)
   |some .bool=>opt (vS P sub fs (n+1)) λr=>some (2::r)
   |some (.struct gs)=>opt (sub gs.toList) λks=>opt (P.info? f.type) λi=>jh (Nat.beq i.size ks.length&&!P.stoodInHeld f.type) (opt (vS P sub fs (n+ks.length)) λr=>some (ks++r))
   |_=>none)=some ks:=hk
  cases hb:(Nat.beq f.offset n&&f.name != "_")with
  |false=>rw[hb]at mM;simp[jh]at mM
  |true=>
   rw[hb]at mM;simp only[jh]at mM;rw[zaT]at hb;have ho:f.offset=n:=zab hb.1;have hn:f.name≠ "_" :=by simpa using hb.2
   have main:∀k r,ks=k::r->vS P sub fs (n+1)=some r->
    (∀c d u v,BU k c d=true->Rd (Ok cx σ vals w) w c u->Rd (Ok cx σ vals w) w d v->(Op.equalIn (N+1) f.type u v).run P w=.ok (decide (c=d)) w)->
    (∀d,P.underlying f.type=some d->(d matches .struct _| .array _ _)=false)->(∃d,P.underlying f.type=some d)->
    (Op.eqFields (N+1) xs ys (f::fs)).run P w=.ok (decide (cs=ds)) w:=by
    intro k r hks hr heq hna hex;subst hks;cases cs with
    |nil=>simp[o0]at hl
    |cons c cs=>
     cases ds with
     |nil=>simp[o0]at hl
     |cons d ds=>
      have T8:(match BU k c d with|true=>o0 r cs ds|false=>false)=true:=hl;cases h1:BU k c d with
      |false=>rw[h1]at T8;cases T8
      |true=>
       rw[h1]at T8;simp only[cE]at hx hy;obtain⟨u,us,hu,hcu,pH⟩:=hx;obtain⟨v,vs,hv,hdv,hds⟩:=hy;have e1:xs[n]?=some u:=by
        have:=congrArg (·[0]?) hu;simpa[zaH]using this
       have e2:ys[n]?=some v:=by
        have:=congrArg (·[0]?) hv;simpa[zaH]using this
       have d1:xs.toList.drop (n+1)=us:=by
        have:=congrArg List.tail hu;rwa[zbk]at this
       have d2:ys.toList.drop (n+1)=vs:=by
        have:=congrArg List.tail hv;rwa[zbk]at this
       have:=ih (n+1) r cs ds xs ys hr T8 (d1▸pH) (d2▸hds);simp only[Op.eqFields,if_pos hn,Sem.run_bind,ho,Bw hna hex e1,Bw hna hex e2,Result.andThen_ok,heq c d u v h1 hcu hdv,Sem.run_ite,this,Sem.run_pure];by_cases hcd:c=d
       ·simp[hcd]
       ·simp[hcd]
   cases hu:P.underlying f.type with
   |none=>rw[hu]at mM;cases mM
   |some d=>
    rw[hu]at mM;cases d with
    |int k=>
     simp only[opt]at mM;cases hr:vS P sub fs (n+1)with
     |none=>rw[hr]at mM;cases mM
     |some r=>
      rw[hr]at mM;cases mM;refine main 0 r rfl hr ?_ (λd hd=>KA) ⟨_,hu⟩;intro c d u v h1 hc hd;cases c<;>cases d<;>simp[BU]at h1;simp only[Rd]at hc hd;subst h1 hc hd;rw[run_equalIn_int w N f.type _ k _ _ hu];congr 1;rw[zaM];simp
    |string=>
     simp only[opt]at mM;cases hr:vS P sub fs (n+1)with
     |none=>rw[hr]at mM;cases mM
     |some r=>
      rw[hr]at mM;cases mM;refine main 1 r rfl hr ?_ (λd hd=>KA) ⟨_,hu⟩;intro c d u v h1 hc hd;cases c<;>cases d<;>simp[BU]at h1;simp only[Rd]at hc hd;subst hc hd;rw[run_equalIn_string w N f.type _ _ hu,rD];congr 1;rw[zaM];simp
    |bool=>
     simp only[opt]at mM;cases hr:vS P sub fs (n+1)with
     |none=>rw[hr]at mM;cases mM
     |some r=>
      rw[hr]at mM;cases mM;refine main 2 r rfl hr ?_ (λd hd=>KA) ⟨_,hu⟩;intro c d u v h1 hc hd;cases c<;>cases d<;>simp[BU]at h1;simp only[Rd]at hc hd;subst hc hd;rw[run_equalIn_bool w N f.type _ _ hu];congr 1;rw[zaM];simp
    |struct gs=>
     simp only[opt]at mM;cases hs:sub gs.toList with
     |none=>rw[hs]at mM;cases mM
     |some k1=>
      rw[hs]at mM;cases hi:P.info? f.type with
      |none=>rw[hi]at mM;cases mM
      |some i=>
       rw[hi]at mM;cases hz:(Nat.beq i.size k1.length&&!P.stoodInHeld f.type)with
       |false=>simp only[hz]at mM;cases mM
       |true=>
        simp only[hz,jh]at mM;rw[zaT]at hz;have kq:i.size=k1.length:=zab hz.1;have iq:P.stoodInHeld f.type=false:=by simpa using hz.2
        cases hr:vS P sub fs (n+k1.length)with
        |none=>rw[hr]at mM;cases mM
        |some r=>
         rw[hr]at mM;cases mM;obtain⟨c1,c2,d1,d2,rfl,rfl,l1,l2,n1,n2⟩:=DF _ _ _ _ hl;obtain⟨us,ws,hu1,Pb,s8⟩:=(c8 _ _ _).1 hx;obtain⟨us',ws',hu2,hy1,Pc⟩:=(c8 _ _ _).1 hy;have m1:us.length=k1.length:=by rw[Pb.length,n1]
         have m2:us'.length=k1.length:=by rw[hy1.length,n2]
         have e1:(xs.extract n (n+i.size)).toList=us:=by
          rw[za5,zaS,zaw,hu1,kq,<-m1,zbl]
         have e2:(ys.extract n (n+i.size)).toList=us':=by
          rw[za5,zaS,zaw,hu2,kq,<-m2,zbl]
         have f1:xs.toList.drop (n+k1.length)=ws:=by rw[<-zaP,hu1,<-m1,zbm]
         have f2:ys.toList.drop (n+k1.length)=ws':=by rw[<-zaP,hu2,<-m2,zbm]
         have hfo:P.fieldsOf f.type=gs:=by simp[Program.fieldsOf,hu]
         have heq:(Op.equalIn (N+1) f.type (.agg (xs.extract n (n+i.size))) (.agg (ys.extract n (n+i.size)))).run P w=.ok (decide (c1=d1)) w:=by
          rw[run_equalIn_struct w N f.type _ _ (by rw[hfo];exact hu) iq,hfo];exact aB4 gs.toList k1 c1 d1 _ _ hs l1 (e1▸Pb) (e2▸hy1)
         have BY:=ih (n+k1.length) r c2 d2 xs ys hr l2 (f1▸s8) (f2▸Pc);simp only[Op.eqFields,if_pos hn,Sem.run_bind,ho,G8 hu hi,Result.andThen_ok,heq,Sem.run_ite,BY,Sem.run_pure];have aB6:(c1++c2=d1++d2)↔(c1=d1/\c2=d2):=⟨λh=>List.append_inj h (by rw[n1,n2]),λ⟨h1,h2⟩=>by rw[h1,h2]⟩
         by_cases hcd:c1=d1
         ·simp[hcd]
         ·simp[hcd,aB6]
    |_=>cases mM
def N8{P:Program}(fs:List Field)(ks:List Nat)(cs ds:List PV)(xs ys:Array Value)(hk:wM P fs 0=some ks)(hl:o0 ks cs ds=true)
 (hx:cE (Ok cx σ vals w) w cs xs.toList) (hy:cE (Ok cx σ vals w) w ds ys.toList):(Op.eqFields 9999 xs ys fs).run P w=.ok (decide (cs=ds)) w:=by
 refine EX 9998 _ (λgs ks cs ds xs ys h1 h2 h3 h4=>?_) fs 0 ks cs ds xs ys hk hl yK (by simpa using hy);refine EX 9997 _ (λgs ks cs ds xs ys h1 h2 h3 h4=>?_) gs 0 ks cs ds xs ys h1 h2 uK yA;exact EX 9996 _ (λgs ks cs ds xs ys h1 _ _ _=>by cases h1) gs 0 ks cs ds xs ys h1 h2 uK yA
def UL{K:AV->aw->Prop}(hr:Rel cx env σ vals a w)(neg:Bool)(ks:List Nat)(t u:TypeId)(x y:Operand)
 (hK:match a_ env x,a_ env y with
   | .pv x,.pv y=>match x,y with
    | .agg a,.agg b=>match o0 ks a b with
     |true=>match neg with
      |false=>sj (a=b) λr=>K (.pv r) σ
      |true=>sj (a≠b) λr=>K (.pv r) σ
     |false=>False
    |_,_=>False
   |_,_=>False)
 (ho:o.op=.binOp (if neg then .neq else .eql) t x y u) (fs:Array Field) (ht:cx.P.underlying t=some (.struct fs))
 (hk:wM cx.P fs.toList 0=some ks) (hs:cx.P.stoodInHeld t=false) (hg:cx.P.eqGuardType cx.P.depth t=false):Out cx env a w o K:=by
 have hx:=hr.ev x;have hy:=hr.ev y
 revert hK hx hy
 cases a_ env x with
 |pv px=>
  cases a_ env y with
  |pv py=>
   cases px with
   |agg p=>
    cases py with
    |agg q=>
     intro hK hx hy;simp only[RA,Rd]at hx hy;obtain⟨_,xs,hx,Xh⟩:=hx;obtain⟨_,ys,hy,hy'⟩:=hy;have hf:cx.P.fieldsOf t=fs:=by simp[Program.fieldsOf,ht]
     cases hl:o0 ks p q with
     |false=>simp only[hl]at hK
     |true=>
      simp only[hl]at hK;have ec:=N8 (P:=cx.P) fs.toList ks p q xs ys hk hl (by simpa using Xh) (by simpa using hy');have afw:(Op.equalIn 10000 t (.agg xs) (.agg ys)).run cx.P w=.ok (decide (p=q)) w:=by
       rw[run_equalIn_struct w 9999 t xs ys (by rw[hf];exact ht) hs,hf];exact ec
      cases neg with
      |false=>
       refine Out.run (v:=.bool (decide (p=q))) ?_ hr (av:=.pv (.bool (decide (p=q)))) fj (hK _ ae);simp[execOp,ho,hx,hy,run_eqGuard_agg w _ t _ _ xs ys hg,run_eql_struct,afw]
      |true=>
       refine Out.run (v:=.bool (!decide (p=q))) ?_ hr (av:=.pv (.bool (!decide (p=q)))) fj (hK _ ae);simp[execOp,ho,hx,hy,run_eqGuard_agg w _ t _ _ xs ys hg,run_neq_struct,afw]
    |_=>intro hK;exact hK.elim
   |_=>intro hK;cases py<;>exact hK.elim
  |_=>intro hK;exact hK.elim
 |_=>intro hK;exact hK.elim
end
end
end Go.Dv
namespace Go.Dv
open Go.RowKit
section
def SlV(ok:Nat->Prop)(w:World)(sz:Nat)(ak:List PV)(v:Value):Prop:=
 ∃a c,v=.slice a ak.length c/\ak.length<=c/\c<=maxLen/\(ak=[]∨∃b o,a=some ⟨b,o,none⟩/\dM ok w b sz o ak)
def fe(b o n:Nat):(⟨b,o,none⟩:Addr).add n=⟨b,o+n,none⟩:=by
 unfold Addr.add;split
 ·rename_i h;subst h;rfl
 ·rfl
section
variable {cx:Cx} {env:Env} {σ:aw} {vals:List Value} {a:Act} {w:World} {o:Oper}
def Mq{ok:Nat->Prop}{sz:Nat}{ak:List PV}{v:Value}(h:Rd ok w (.sl sz ak) v):SlV ok w sz ak v:=by
 simp only[Rd]at h;obtain⟨a,c,h1,h2,h3,h4⟩:=h;exact⟨a,c,h1,h2,h3,h4.imp id λ⟨b,o,h5,_,h6⟩=>⟨b,o,h5,h6⟩⟩
def ny{e:TypeId}{sz:Nat}{ap:Bool}{ak:List PV}{v:Value}(h:RB cx σ vals w (.row e sz ap ak) v):SlV (Ok cx σ vals w) w sz ak v:=by
 obtain⟨kq,cells,h1,h2,h3,h4⟩:=h;rcases h1.2 with⟨rfl,h5⟩|⟨g,cap,cur,fr,rfl,h5,h6,h7,h8,h9,M7,Sv⟩
 ·have:ak=[]:=zaf h5;subst this;exact⟨none,0,rfl,zaj _,by simp[maxLen],.inl rfl⟩
 ·refine⟨_,cap,rfl,h7,h8,.inr ⟨g,0,rfl,(lQ g sz ak 0).2 ⟨h2,(u6 g _ 0).2 ⟨h3,cells,h4,λj u hu=>?_⟩⟩⟩⟩;have hj:cur[j]?=some u:=by
   rw[<-M7,zaI]at hu;split at hu
   ·simpa using hu
   ·cases hu
  simp[World.cell?,h6,hj]
def getElem?_of{α:Type}{l:List α}{i:Nat}{x y:α}(h:l[i]?=some x)(h':l[i]?=some y):x=y:=by rw[h]at h';exact Option.some.inj h'
def ba.val(h:ba cx σ vals w){i:Nat}{s:cu}(hi:σ[i]?=some s):∃v,vals[i]?=some v/\RB cx σ vals w s v:=by
 have hl:i<vals.length:=by rw[h.len];exact(zaa.1 hi).1
 exact⟨vals[i],zak hl,h.iU i s _ hi (zak hl)⟩
def T5{ok:Nat->Prop}{b sz:Nat}(xs ys:List PV):∀o,dM ok w b sz o (xs++ys)->dM ok w b sz (o+xs.length*sz) ys:=by
 intro o h;rw[lQ]at h ⊢;obtain⟨h1,h2⟩:=h;rw[zaz,jE,gb sz xs (λx hx=>h1 x kG)]at h2;exact⟨λx hx=>h1 x kG,h2.2⟩
def SK{ok:Nat->Prop}{b sz:Nat}(xs ys:List PV):∀o,dM ok w b sz o (xs++ys)->dM ok w b sz o xs:=by
 intro o h;rw[lQ]at h ⊢;obtain⟨h1,h2⟩:=h;rw[zaz,jE]at h2;exact⟨λx hx=>h1 x kG,h2.1⟩
def MV{ok:Nat->Prop}{b sz:Nat}(l h:Nat)(xs:List PV)(hlh:l<=h)(hx:h<=xs.length)(o:Nat)(hr:dM ok w b sz o xs):dM ok w b sz (o+l*sz) (cut l h xs):=by
 have e1:xs=xs.take l++(cut l h xs++xs.drop h):=by
  unfold cut;rw[<-zah];have:xs.take l++(xs.take h).drop l=xs.take h:=by
   have:=zaA l (xs.take h);rwa[List.take_take,zau hlh]at this
  rw[this,zaA]
 rw[e1]at hr;have:=T5 _ _ o hr;rw[zal,zau aa]at this;exact SK _ _ _ this
def wh{α:Type}(l h:Nat)(xs:List α)(hx:h<=xs.length):(cut l h xs).length=h-l:=by
 unfold cut;rw[zbf,zal,zau hx]
def El(hr:ba cx σ vals w){id sz lo n:Nat}{v:Value}(hv:RA (Ok cx σ vals w) σ vals w (.sub id sz lo n) v){b:cu}(hb:σ[id]?=some b){K:List PV->Prop}(h:KK sz lo n b K):
 ∃ak,K ak/\ak.length=n/\(∀K2:List PV->Prop,K2 ak->KK sz lo n b K2)/\
  ∃ad c,v=.slice ad n c/\n<=c/\c<=maxLen/\(ak=[]∨∃g,ad=some ⟨g,lo*sz,none⟩/\dM (Ok cx σ vals w) w g sz (lo*sz) ak/\
   ((∃e ap eW u,b=.row e sz ap eW/\vals[id]?=some u/\bI u=some g)\/(Ok cx σ vals w g∧∃eW,b=.fz (.sl sz eW))))/\(∃e ap eW,b=.row e sz ap eW/\ak=cut lo (lo+n) eW/\lo+n<=eW.length\/b=.fz (.sl sz eW)/\ak=cut lo (lo+n) eW/\lo+n<=eW.length):=by
 obtain⟨u,hu,nQ⟩:=hr.val hb;simp only[RA]at hv;obtain⟨_,ad,c,rfl,h2,h3,h4⟩:=hv;have main:∀eW:List PV,lo+n<=eW.length->(∀g n0 c0,u=.slice (some ⟨g,0,none⟩) n0 c0->0<n->dM (Ok cx σ vals w) w g sz 0 eW/\((∃e ap eW u,b=.row e sz ap eW/\vals[id]?=some u/\bI u=some g)\/(Ok cx σ vals w g∧∃eW,b=.fz (.sl sz eW))))->K (cut lo (lo+n) eW)->(∀K2:List PV->Prop,K2 (cut lo (lo+n) eW)->KK sz lo n b K2)->
  (∃e ap M8,b=.row e sz ap M8/\cut lo (lo+n) eW=cut lo (lo+n) M8/\lo+n<=M8.length\/b=.fz (.sl sz M8)/\cut lo (lo+n) eW=cut lo (lo+n) M8/\lo+n<=M8.length)->
  ∃ak,K ak/\ak.length=n/\(∀K2:List PV->Prop,K2 ak->KK sz lo n b K2)/\
  ∃ad' c',Value.slice ad n c=.slice ad' n c'/\n<=c'/\c'<=maxLen/\(ak=[]∨∃g,ad'=some ⟨g,lo*sz,none⟩/\dM (Ok cx σ vals w) w g sz (lo*sz) ak/\
   ((∃e ap eW u,b=.row e sz ap eW/\vals[id]?=some u/\bI u=some g)\/(Ok cx σ vals w g∧∃eW,b=.fz (.sl sz eW))))/\(∃e ap eW,b=.row e sz ap eW/\ak=cut lo (lo+n) eW/\lo+n<=eW.length\/b=.fz (.sl sz eW)/\ak=cut lo (lo+n) eW/\lo+n<=eW.length):=by
  intro eW hle hg hk kV mN;refine⟨_,hk,by rw[wh _ _ _ hle];omega,kV,ad,c,rfl,h2,h3,?_,mN⟩;rcases h4 with rfl|⟨g,n0,c0,h5,h6⟩
  ·left;simp[cut]
  ·by_cases hn:n=0
   ·subst hn;left;simp[cut]
   rw[hu]at h5;cases h5;obtain⟨f1,f2⟩:=hg g n0 c0 rfl aa;right;refine⟨g,h6,?_,f2⟩;have:=MV lo (lo+n) eW aa hle 0 f1;rwa[zaU]at this
 cases b with
 |row e s ap eW=>
  replace h:(match Nat.beq s sz with|true=>lo+n<=eW.length/\K (cut lo (lo+n) eW)|false=>False):=h;cases hs:Nat.beq s sz with
  |false=>rw[hs]at h;exact h.elim
  |true=>
   rw[hs]at h;have:=zab hs;subst this;refine main eW h.1 (λg n0 c0 hg hn=>⟨?_,.inl ⟨_,_,_,u,rfl,hu,by rw[hg];rfl⟩⟩) h.2 (λK2 h2=>?_) ⟨e,ap,eW,.inl ⟨rfl,rfl,h.1⟩⟩
   ·obtain⟨ad2,c2,g1,_,_,g4⟩:=ny nQ;rw[hg]at g1;cases g1;rcases g4 with g4|⟨b',o',g5,g6⟩
    ·subst g4;have:=h.1;simp at this;omega
    ·cases g5;exact g6
   ·show(match Nat.beq s s with|true=>lo+n<=eW.length/\K2 (cut lo (lo+n) eW)|false=>False);rw[hs];exact⟨h.1,h2⟩
 |fz x=>
  cases x with
  |sl s eW=>
   replace h:(match Nat.beq s sz with|true=>lo+n<=eW.length/\K (cut lo (lo+n) eW)|false=>False):=h;cases hs:Nat.beq s sz with
   |false=>rw[hs]at h;exact h.elim
   |true=>
    rw[hs]at h;have:=zab hs;subst this;have iY:Rd (Ok cx σ vals w) w (.sl s eW) u:=nQ;simp only[Rd]at iY;obtain⟨ad2,c2,g1,_,_,g4⟩:=iY;have hk:=λ(g n0 c0:Nat) (hg:u=.slice (some ⟨g,0,none⟩) n0 c0) (hn:0<n)=>(show dM (Ok cx σ vals w) w g s 0 eW/\Ok cx σ vals w g by
     rw[hg]at g1;cases g1;rcases g4 with g4|⟨b',o',g5,g6,g7⟩
     ·subst g4;have:=h.1;simp at this;omega
     ·cases g5;exact⟨g7,g6⟩)
    refine main eW h.1 (λg n0 c0 hg hn=>⟨(hk g n0 c0 hg hn).1,.inr ⟨(hk g n0 c0 hg hn).2,_,rfl⟩⟩) h.2 (λK2 h2=>?_) ⟨0,false,eW,.inr ⟨rfl,rfl,h.1⟩⟩;show(match Nat.beq s s with|true=>lo+n<=eW.length/\K2 (cut lo (lo+n) eW)|false=>False);rw[hs];exact⟨h.1,h2⟩
  |_=>exact h.elim
 |_=>exact h.elim
def vR(hr:ba cx σ vals w){av:AV}{v:Value}(hv:RA (Ok cx σ vals w) σ vals w av v){K:Nat->List PV->Prop}(h:uO σ av K):
 ∃sz ak,SlV (Ok cx σ vals w) w sz ak v/\K sz ak:=by
 cases av with
 |pv x=>
  simp only[RA]at hv;cases x with
  |sl sz ak=>exact⟨sz,ak,Mq hv,h⟩
  |nil sz=>simp only[Rd]at hv;subst hv;exact⟨sz,[],⟨none,0,rfl,zaj _,by simp[maxLen],.inl rfl⟩,h⟩
  |_=>exact h.elim
 |own id=>
  simp only[RA]at hv;obtain⟨b,hb,h⟩:=az σ id _ h;obtain⟨v',AF,nQ⟩:=hr.val hb;obtain rfl:=getElem?_of hv AF;cases b with
  |row e sz ap ak=>exact⟨sz,ak,ny nQ,h⟩
  |fz x=>
   cases x with
   |sl sz ak=>exact⟨sz,ak,Mq nQ,h⟩
   |_=>exact h.elim
  |_=>exact h.elim
 |sub id sz lo n=>
  obtain⟨b,hb,h⟩:=az σ id _ h;obtain⟨ak,h1,h2,_,ad,c,h4,h5,h6,h7,_⟩:=El hr hv hb h;refine⟨sz,ak,⟨ad,c,by rw[h2];exact h4,aa,h6,?_⟩,h1⟩;exact h7.imp_right λ⟨g,g1,g2,_⟩=>⟨g,_,g1,g2⟩
 |_=>exact h.elim
def XP{K:AV->aw->Prop}(hr:Rel cx env σ vals a w)(x:Operand)(t e:TypeId)(c:Call)(ho:o.op=.call c)(hc:c.callee=.builtin .len)(dO:c.args.toList=[x])(EN:c.argTypes[0]?=some t)
 (he:cx.P.underlying t=some (.slice e)) (hK:uO σ (a_ env x) λ_ ak=>ak.length<=9223372036854775807->K (.pv (.int .i64 ak.length)) σ):Out cx env a w o K:=by
 obtain⟨sz,ak,⟨ad,cc,hv,hle,hml,_⟩,hk⟩:=vR hr.s (hr.ev x) hK;have fp:c.args= #[x]:=by rw[<-dO]
 refine Out.run (v:=.int .i64 ak.length) ?_ hr (av:=.pv (.int .i64 ak.length)) fj (hk (by simp only[maxLen]at hml;omega));simp[execOp,ho,resolve,hc,invoke,builtin,fp,hv,Builtin.len_,EN,run_underlying he,goInt]
def XV{K:AV->aw->Prop}(hr:Rel cx env σ vals a w)(x:Operand)(t:TypeId)(c:Call)(ho:o.op=.call c)(hc:c.callee=.builtin .len)(dO:c.args.toList=[x])(EN:c.argTypes[0]?=some t)
 (hs:cx.P.underlying t=some .string) (hK:match a_ env x with
  | .pv x=>match x with
   | .str l=>K (.pv (.int .i64 l.length)) σ
   |_=>False
  |_=>False):Out cx env a w o K:=by
 have hx:=hr.ev x;have fp:c.args= #[x]:=by rw[<-dO]
 revert hK hx
 cases a_ env x with
 |pv p=>
  cases p with
  |str l=>
   intro hK hx;simp only[RA,Rd]at hx;refine Out.run (v:=.int .i64 l.length) ?_ hr (av:=.pv (.int .i64 l.length)) fj hK;have kq:(⟨l.toArray⟩:ByteArray).size=l.length:=rfl;simp[execOp,ho,resolve,hc,invoke,builtin,fp,hx,Builtin.len_,EN,run_underlying hs,goInt,kq]
  |_=>intro hK;exact hK.elim
 |_=>intro hK;exact hK.elim
def ac0{K:AV->aw->Prop}(hr:Rel cx env σ vals a w)(t:TypeId)(x i:Operand)(ho:o.op=.index t x i)(ht:cx.P.underlying t=some .string)
 (hK:Dv.asInt (a_ env i) λ_ i=>match a_ env x with
   | .pv x=>match x with
    | .str l=>∃b,(0<=i/\l[i.toNat]?=some b)/\K (.pv (aR b)) σ
    |_=>False
   |_=>False):Out cx env a w o K:=by
 have hx:=hr.ev x;have hi:=hr.ev i
 revert hK hx hi
 cases a_ env i with
 |pv pi=>
  cases pi with
  |int k n=>
   cases a_ env x with
   |pv px=>
    cases px with
    |str l=>
     rintro⟨b,⟨h0,hb⟩,hK⟩ hx hi;simp only[RA,Rd]at hx hi;refine Out.run (v:=.int .u8 b.toNat) ?_ hr (av:=.pv (aR b)) (by simp only[RA,Rd,aR]) hK;have hg:(⟨l.toArray⟩:ByteArray)[n.toNat]?=some b:=by
      obtain⟨aS,e⟩:=zaa.1 hb;have hs:n.toNat<(⟨l.toArray⟩:ByteArray).size:=by simpa[ByteArray.size]using aS
      rw[getElem?_pos (⟨l.toArray⟩:ByteArray) n.toNat hs];congr 1
     simp[execOp,ho,hx,hi,Instr.index,asIntOf,run_underlying ht,h0,hg]
    |_=>intro hK;exact hK.elim
   |_=>intro hK;exact hK.elim
  |_=>intro hK;exact hK.elim
 |_=>intro hK;exact hK.elim
def Y5{K:AV->aw->Prop}(hr:Rel cx env σ vals a w)(mx:Bool)(x y:Operand)
 (hK:Dv.asInt (a_ env x) λk a=>Dv.asInt (a_ env y) λ_ b=>match mx with
   |true=>∀r:Int,r=max a b->K (.pv (.int k r)) σ
   |false=>∀r:Int,r=min a b->K (.pv (.int k r)) σ)
 (c:Call) (ho:o.op=.call c) (hc:c.callee=.builtin (if mx then .max else .min)) (fp:c.args.toList=[x,y]):Out cx env a w o K:=by
 have hx:=hr.ev x;have hy:=hr.ev y;have dO:c.args= #[x,y]:=by rw[<-fp]
 revert hK hx hy
 cases a_ env x with
 |pv px=>
  cases px with
  |int k n=>
   cases a_ env y with
   |pv py=>
    cases py with
    |int j m=>
     intro hK hx hy;simp only[RA,Rd]at hx hy;cases mx with
     |true=>
      refine Out.run (v:=.int k (max n m)) ?_ hr (av:=.pv (.int k (max n m))) fj (hK _ rfl);simp[execOp,ho,resolve,hc,invoke,builtin,dO,hx,hy,Builtin.max_,Builtin.max2];omega
     |false=>
      refine Out.run (v:=.int k (min n m)) ?_ hr (av:=.pv (.int k (min n m))) fj (hK _ rfl);simp[execOp,ho,resolve,hc,invoke,builtin,dO,hx,hy,Builtin.min_,Builtin.min2];omega
    |_=>intro hK;exact hK.elim
   |_=>intro hK;exact hK.elim
  |_=>intro hK;exact hK.elim
 |_=>intro hK;exact hK.elim
def Wt{K:AV->aw->Prop}(hr:Rel cx env σ vals a w)(s d:TypeId)(k k0:IntKind)(x:Operand)(ho:o.op=.convert s d x)(hs:cx.P.underlying s=some (.int k0))(hd:cx.P.underlying d=some (.int k))
 (hK:Dv.asInt (a_ env x) λ_ n=>Qs k n λr=>K (.pv r) σ):Out cx env a w o K:=by
 have hx:=hr.ev x
 revert hK hx
 cases a_ env x with
 |pv px=>
  cases px with
  |int j n=>
   intro hK hx;simp only[RA,Rd]at hx;refine Out.run (v:=.int k (k.wrap n)) ?_ hr (av:=.pv (.int k (k.wrap n))) fj (hK _ rfl);simp[execOp,ho,hx,convert,run_underlying hs,run_underlying hd,Conv.intToInt]
  |_=>intro hK;exact hK.elim
 |_=>intro hK;exact hK.elim
def XS{K:AV->aw->Prop}(hr:Rel cx env σ vals a w)(s d:TypeId)(x:Operand)(ho:o.op=.convert s d x)(hs:cx.P.underlying s=some .string)(hd:cx.P.underlying d=some .string)
 (hK:match a_ env x with
   | .pv x=>match x with
    | .str l=>K (.pv (.str l)) σ
    |_=>False
   |_=>False):Out cx env a w o K:=by
 have hx:=hr.ev x
 revert hK hx
 cases a_ env x with
 |pv px=>
  cases px with
  |str l=>
   intro hK hx;simp only[RA,Rd]at hx;refine Out.run (v:=.string ⟨l.toArray⟩) ?_ hr (av:=.pv (.str l)) fj hK;simp[execOp,ho,hx,convert,run_underlying hs,run_underlying hd]
  |_=>intro hK;exact hK.elim
 |_=>intro hK;exact hK.elim
def iC(l:List UInt8):(l.map aR).flatMap PV.cells=l.map aR:=by
 induction l with
 |nil=>rfl
 |cons b l ih=>simp only[zav,zao,ih,aR,PV.cells,List.singleton_append]
def foldl_push(l:List Int):∀s:ByteArray,(l.foldl (λr n=>r.push (UInt8.ofNat n.toNat)) s).data=s.data++(l.map λn=>UInt8.ofNat n.toNat).toArray:=by
 induction l with
 |nil=>intro s;simp
 |cons n l ih=>intro s;rw[zbh,ih];simp[ByteArray.push]
def z_{ok:Nat->Prop}(l:List UInt8):∀us:List Value,cE ok w (l.map aR) us↔us=l.map λb=>Value.int .u8 b.toNat:=by
 induction l with
 |nil=>intro us;simp[cE]
 |cons b l ih=>
  intro us;simp only[zav,cE,aR,Rd];constructor
  ·rintro⟨v,r,rfl,rfl,h⟩;rw[(ih r).1 h]
  ·rintro rfl;exact⟨_,_,rfl,rfl,(ih _).2 rfl⟩
def adf{K:AV->aw->Prop}(hr:Rel cx env σ vals a w)(s d e:TypeId)(x:Operand)(ho:o.op=.convert s d x)(hs:cx.P.underlying s=some (.slice e))(he:cx.P.underlying e=some (.int .u8))(hd:cx.P.underlying d=some .string)
 (hK:uO σ (a_ env x) λ_ ak=>∃l:List UInt8,ak=l.map aR/\K (.pv (.str l)) σ):Out cx env a w o K:=by
 obtain⟨sz,ak,⟨ad,c,hv,hle,_,fN⟩,l,rfl,hK⟩:=vR hr.s (hr.ev x) hK;refine Out.run (v:=.string ⟨l.toArray⟩) ?_ hr (av:=.pv (.str l)) fj hK;have ec:(Conv.bytesToString (.slice ad l.length c)).run cx.P w=.ok (.string ⟨l.toArray⟩) w:=by
  cases ad with
  |none=>
   rcases fN with h|⟨b,o',h,_⟩
   ·have:l=[]:=by simpa using h
    subst this;simp[Conv.bytesToString];rfl
   ·cases h
  |some ad=>
   have hl:∀j v,(l.map λb=>Value.int .u8 b.toNat)[j]?=some v->w.cell? (ad.add j)=some v:=by
    intro j v hj;rcases fN with h|⟨b,o',h,h2⟩
    ·have:l=[]:=by simpa using h
     subst this;simp at hj
    ·cases h;have h3:=((lQ b sz _ o').1 h2).2;rw[iC]at h3;obtain⟨_,us,h4,h5⟩:=(u6 b _ o').1 h3;rw[z_]at h4;subst h4;rw[fe];exact h5 j v hj
   have:=run_loadCells_list (P:=cx.P) w ad _ hl;rw[zan]at this;rw[show(l.map λb=>Value.int .u8 b.toNat)=(l.map λb:UInt8=>(b.toNat:Int)).map (Value.int .u8)from by simp]at this;rw[run_bytesToString w ad l.length c _ this];congr 2;have:∀s:ByteArray,s=⟨s.data⟩:=λ_=>rfl
   rw[this (List.foldl _ _ _),foldl_push];congr 1;simp only[zaY,List.map_map,Array.append_empty];have hid:((λn:Int=>UInt8.ofNat n.toNat)∘λb:UInt8=>(b.toNat:Int))=id:=by funext b;simp
   rw[hid,List.map_id];simp
 have AF:a.eval x=.slice ad l.length c:=by simpa using hv
 simp[execOp,ho,AF,convert,run_underlying hs,run_underlying hd,run_underlying he,ec]
def NV(P:Program)(isS:Bool)(n cap:Nat)(hnc:n<=cap)(lo hi:Option AV)(vlo vhi:Option Value)(EG:∀a,lo=some a→∃v,vlo=some v/\RA (Ok cx σ vals w) σ vals w a v)(hhi:∀a,hi=some a→∃v,vhi=some v/\RA (Ok cx σ vals w) σ vals w a v)
 (nlo:lo=none->vlo=none) (nhi:hi=none->vhi=none) (K:Nat->Nat->Prop) (h:fb n lo hi K):
 ∃l u,l<=u/\u<=n/\K l u/\(Instr.sliceBounds isS n cap vlo vhi none).run P w=.ok (l,u,cap) w:=by
 have up:∀K':Nat->Prop,upK n hi K'→∃u:Nat,u<=n/\K' u/\((hi=none/\u=n)∨∃k m,vhi=some (.int k m)/\0<=m/\m.toNat=u):=by
  intro K' hk;cases hi with
  |none=>exact⟨n,zaj _,hk,.inl ⟨rfl,rfl⟩⟩
  |some a=>
   cases a with
   |pv x=>
    cases x with
    |int k m=>
     obtain⟨v,hv,Pd⟩:=hhi _ rfl;simp only[RA,Rd]at Pd;subst Pd;have h1:0<=m:=hk.1.1;have h2:m<=(n:Int):=hk.1.2;exact⟨m.toNat,aa,hk.2,.inr ⟨k,m,hv,hk.1.1,rfl⟩⟩
    |_=>exact hk.elim
   |_=>exact hk.elim
 cases lo with
 |none=>
  obtain⟨u,hu,hk,hu2⟩:=up (λh=>K 0 h) h;have:=nlo rfl;subst this;refine⟨0,u,Nat.zero_le _,hu,hk,?_⟩;rcases hu2 with⟨h1,rfl⟩|⟨k,m,rfl,h2,h3⟩
  ·have:=nhi h1;subst this;simp[Instr.sliceBounds]
  ·have hm:m<=(cap:Int):=by have:=za6 h2;omega
   simp[Instr.sliceBounds,Instr.sliceBound,asIntOf,h2,hm,h3]
 |some a=>
  cases a with
  |pv x=>
   cases x with
   |int k m=>
    obtain⟨u,hu,hk,hu2⟩:=up (λh=>(0<=m/\m<=h)/\K m.toNat h) h;obtain⟨v,hv,Pd⟩:=EG _ rfl;simp only[RA,Rd]at Pd;subst Pd hv;refine⟨m.toNat,u,aa,hu,hk.2,?_⟩;rcases hu2 with⟨h1,rfl⟩|⟨k,m',rfl,h2,h3⟩
    ·have:=nhi h1;subst this;simp[Instr.sliceBounds,Instr.sliceBound,asIntOf,hk.1.1,hk.1.2]
    ·have hm:m'<=(cap:Int):=by have:=za6 h2;omega
     simp[Instr.sliceBounds,Instr.sliceBound,asIntOf,h2,hm,h3,hk.1.1,hk.1.2]
   |_=>exact h.elim
  |_=>exact h.elim
end
end
end Go.Dv
namespace Go.Dv
open Go.RowKit
section
section
variable {cx:Cx} {env:Env} {σ:aw} {vals:List Value} {a:Act} {w:World} {o:Oper}
def extract_mk(l:List UInt8)(i j:Nat):(⟨l.toArray⟩:ByteArray).extract i j=⟨(cut i j l).toArray⟩:=by
 have h:(ByteArray.extract ⟨l.toArray⟩ i j).data.toList=(l.drop i).take (j-i):=by
  rw[ByteArray.extract_mk]
 have ext:∀s t:ByteArray,s.data.toList=t.data.toList->s=t:=by rintro⟨⟨x⟩⟩ ⟨⟨y⟩⟩ h;simp at h;subst h;rfl
 refine ext _ _ ?_;rw[h];simp[cut,List.drop_take]
def u9.block{B:Nat->Prop}{e:TypeId}{sz:Nat}{app:Bool}{v:Value}{n:Nat}{xs:List Value}(h:u9 w B e sz app v n xs){b:Nat}(hb:bI v=some b):B b/\b<w.heap.size:=by
 rcases h.2 with⟨rfl,_⟩|⟨g,cap,cur,fr,rfl,h2,h3,_⟩
 ·cases hb
 ·cases hb;exact⟨h2,(zai.1 h3).1⟩
def RB.block{s:cu}{v:Value}(h:RB cx σ vals w s v){b:Nat}(hb:s.bk v b):cx.own b/\b<w.heap.size:=by
 cases s with
 |dead=>cases hb
 |fz x=>cases hb
 |mp l=>cases hb
 |pool e sz l lt=>
  obtain⟨p,hp,hb⟩:=hb;obtain⟨_,_,h2⟩:=h;obtain⟨cells,h1,_⟩:=h2 p hp;exact h1.block hb
 |row e sz app ak=>
  obtain⟨_,cells,h1,_⟩:=h;rcases h1.2 with⟨rfl,_⟩|⟨g,cap,cur,fr,rfl,h2,h3,_⟩
  ·cases hb
  ·cases hb;exact⟨h2,(zai.1 h3).1⟩
 |box e cs=>
  obtain⟨b',arr,rfl,h1,h2,_⟩:=h;cases hb;exact⟨h1,(zai.1 h2).1⟩
def ba.ED(hr:ba cx σ vals w){id:Nat}{s0:cu}{x:PV}(hi:σ[id]?=some s0)(hl0:s0.live=true)
 (hx:∀(lT:Nat->Prop) (v:Value),vals[id]?=some v->RB cx σ vals w s0 v->(∀b,Ok cx σ vals w b->lT b)->(∀b,bI v=some b->lT b)->Rd lT w x v) (St:(cu.fz x).yr=true->s0.yr=true:=by intro h;first|exact h|(cases h)):
 ba cx (σ.set id (.fz x)) vals w/\cm cx σ vals w (σ.set id (.fz x)) vals w:=by
 obtain⟨v,hv,hb⟩:=hr.val hi;have aS:=(zaa.1 hi).1;have hg:=λj=>cY (x:=cu.fz x) aS j
 have hk:cm cx σ vals w (σ.set id (.fz x)) vals w:=by
  refine⟨λ_ _ h=>h,ae,λb hb=>⟨hb.1,hb.2.1,λhm=>hb.2.2 ?_⟩,λ_ _=>rfl,λi _ e' CG Hi els' h=>?_,λi _ s' h x6=>?_⟩
  ·obtain⟨i,s,u,h1,h3,h4⟩:=hm;rw[hg]at h1;split at h1
   ·cases h1;cases h4
   ·exact⟨i,s,u,h1,h3,h4⟩
  ·rw[hg]at h;split at h
   ·cases h
   ·exact⟨Hi,els',h⟩
  ·rw[hg]at h;split at h
   ·rename_i he;subst he;cases h;exact⟨s0,hi,St x6⟩
   ·exact⟨s',h,x6⟩
 have iY:Rd (Ok cx (σ.set id (.fz x)) vals w) w x v:=by
  refine hx _ v hv hb hk.ok (λb Hj=>⟨.inr (hb.block (tA hl0 Hj)).1,(hb.block (tA hl0 Hj)).2,?_⟩);rintro⟨i,s,u,g1,g3,g4⟩;rw[hg]at g1;split at g1
  ·cases g1;cases g4
  ·rename_i qY;exact hr.oP i id s _ u v b (λe=>qY e.symm) g1 hi g3 hv g4 (tA hl0 Hj)
 have VE:Fr cx (σ.set id (.fz x)) vals w:=⟨hr.fr.size,hr.fr.same,λb hm=>hr.fr.nB b (by
  obtain⟨i,s,u,g1,g3,g4⟩:=hm;rw[hg]at g1;split at g1
  ·cases g1;cases g4
  ·exact⟨i,s,u,g1,g3,g4⟩)⟩
 refine⟨⟨hr.below,hr.one,nZ,λi s u h1 h2=>?_,λi j s t u v' b iT h1 h2 h5 h6 h7 h8=>?_,VE,hr.pin.keep hk⟩,hk⟩
 ·rw[hg]at h1;split at h1
  ·rename_i he;subst he;cases h1;rw[hv]at h2;cases h2;exact iY
  ·exact hk.rb (hr.iU i s u h1 h2) (λ_ _=>rfl)
 ·rw[hg]at h1 h2;split at h1
  ·cases h1;cases h7
  ·split at h2
   ·cases h2;cases h8
   ·exact hr.oP i j s t u v' b iT h1 h2 h5 h6 h7 h8
def ba.freeze(hr:ba cx σ vals w){id:Nat}{e:TypeId}{sz:Nat}{ap:Bool}{ak:List PV}(hi:σ[id]?=some (.row e sz ap ak)):
 ba cx (σ.set id (.fz (.sl sz ak))) vals w/\cm cx σ vals w (σ.set id (.fz (.sl sz ak))) vals w:=by
 refine hr.ED hi rfl λlT v _ hb ep Hj=>?_
 obtain⟨ad,c,h1,h2,h3,h4⟩:=ny hb;simp only[Rd];refine⟨ad,c,h1,h2,h3,h4.imp_right ?_⟩;rintro⟨b,o',rfl,fN⟩;exact⟨b,o',rfl,Hj b (by rw[h1];rfl),dM.mono ep (λ_ _ _=>rfl) b sz o' (λ_=>rfl) ak fN⟩
def Rel.keep{σ':aw}{an:List Value}{w':World}(hr:Rel cx env σ vals a w)(hs:ba cx σ' an w')(hk:cm cx σ vals w σ' an w'):Rel cx env σ' an a w':=
 ⟨hs,λp=>hk.ra _ _ (hr.env p),hr.defers,λx v hq=>hk.ra _ _ (hr.gh x v hq),hr.lo⟩
def aac{K:AV->aw->Prop}(hr:Rel cx env σ vals a w)(c x y:Operand)(ho:o.op=.pick c x y)
 (hK:match a_ env c with
   | .pv c=>match c with
    | .bool c=>match c with
     |true=>K (a_ env x) σ
     |false=>K (a_ env y) σ
    |_=>False
   |_=>False):Out cx env a w o K:=by
 have hc:=hr.ev c
 revert hK hc
 cases a_ env c with
 |pv p=>
  cases p with
  |bool b=>
   intro hK hc;simp only[RA,Rd]at hc;cases b with
   |true=>exact Out.run (v:=a.eval x) (by simp[execOp,ho,hc,asBool]) hr (hr.ev x) hK
   |false=>exact Out.run (v:=a.eval y) (by simp[execOp,ho,hc,asBool]) hr (hr.ev y) hK
  |_=>intro hK;exact hK.elim
 |_=>intro hK;exact hK.elim
def YW{sz:Nat}{ak:List PV}{ad:Option Addr}{c l h:Nat}(hlh:l<=h)(hx:h<=ak.length)(hs:Rd (Ok cx σ vals w) w (.sl sz ak) (.slice ad ak.length c)):
 Rd (Ok cx σ vals w) w (.sl sz (cut l h ak)) (.slice (if c=l then ad else ad.map (·.add (l*sz))) (h-l) (c-l)):=by
 simp only[Rd]at hs ⊢;obtain⟨ad0,c0,hv,h1,h2,h3⟩:=hs;cases hv;refine⟨_,_,by rw[wh _ _ _ hx],by rw[wh _ _ _ hx];omega,aa,?_⟩;rcases h3 with h3|⟨b,o,rfl,ep,h4⟩
 ·left;subst h3;simp[cut]
 ·by_cases hc:c=l
  ·left;exact zaf (by rw[wh _ _ _ hx];omega)
  ·right;refine⟨b,o+l*sz,?_,ep,MV l h ak hlh hx o h4⟩;rw[if_neg hc];simp[fe]
def lC(hr:Rel cx env σ vals a w)(lo hi:Option Operand)(isS:Bool)(n cap:Nat)(hn:n<=cap)(K':Nat->Nat->Prop)(hk:fb n (lo.map (a_ env)) (hi.map (a_ env)) K'):
 ∃l u,l<=u/\u<=n/\K' l u/\(Instr.sliceBounds isS n cap (lo.map a.eval) (hi.map a.eval) none).run cx.P w=.ok (l,u,cap) w:=by
 refine NV (cx:=cx) (σ:=σ) (vals:=vals) cx.P isS n cap hn _ _ _ _ ?_ ?_ ?_ ?_ K' hk
 ·intro av h;cases lo with
  |none=>cases h
  |some z=>cases h;exact⟨_,rfl,hr.ev z⟩
 ·intro av h;cases hi with
  |none=>cases h
  |some z=>cases h;exact⟨_,rfl,hr.ev z⟩
 ·intro h;cases lo with
  |none=>rfl
  |some z=>cases h
 ·intro h;cases hi with
  |none=>rfl
  |some z=>cases h
def Y8{K:AV->aw->Prop}(hr:Rel cx env σ vals a w)(t:TypeId)(x:Operand)(lo hi:Option Operand)(ho:o.op=.slice t x lo hi none)(ht:cx.P.underlying t=some .string)
 (hK:match a_ env x with
   | .pv x=>match x with
    | .str s=>fb s.length (lo.map (a_ env)) (hi.map (a_ env)) λl h=>K (.pv (.str (cut l h s))) σ
    |_=>False
   |_=>False):Out cx env a w o K:=by
 have hx:=hr.ev x
 revert hK hx
 cases a_ env x with
 |pv p=>
  cases p with
  |str s=>
   intro hK hx;simp only[RA,Rd]at hx;obtain⟨l,u,h1,h2,h3,h4⟩:=lC hr lo hi false s.length s.length (zaj _) _ hK;refine Out.run (v:=.string ⟨(cut l u s).toArray⟩) ?_ hr (av:=.pv (.str (cut l u s))) fj h3;have kq:(⟨s.toArray⟩:ByteArray).size=s.length:=rfl;simp[execOp,ho,hx,Instr.sliceAt,Instr.slice,run_underlying ht,kq,h4,extract_mk]
  |_=>intro hK;exact hK.elim
 |_=>intro hK;exact hK.elim
def Yi{K:AV->aw->Prop}(hr:Rel cx env σ vals a w)(t e:TypeId)(i:TypeInfo)(x:Operand)(lo hi:Option Operand)(ho:o.op=.slice t x lo hi none)(he:cx.P.underlying t=some (.slice e))(pJ:cx.P.info? e=some i)
 (hK:MU σ i.size (a_ env x) (lo.map (a_ env)) (hi.map (a_ env)) K):Out cx env a w o K:=by
 have hx:=hr.ev x;have sl:∀(n:Nat) (ad:Option Addr) (c:Nat),a.eval x=.slice ad n c→∀l u,
  (Instr.sliceBounds true n c (lo.map a.eval) (hi.map a.eval) none).run cx.P w=.ok (l,u,c) w->
  (execOp a.eval o).run cx.P w=.ok (.value (.slice (if c=l then ad else ad.map (·.add (l*i.size))) (u-l) (c-l))) w:=by
  intro n ad c hv l u hb;simp[execOp,ho,hv,Instr.sliceAt,Instr.slice,run_underlying he,hb,sizeOf,typeInfo,pJ]
 have aaI:∀(ak:List PV) (v:Value),v=a.eval x->Rd (Ok cx σ vals w) w (.sl i.size ak) v->fb ak.length (lo.map (a_ env)) (hi.map (a_ env)) (λl h=>K (.pv (.sl i.size (cut l h ak))) σ)->Out cx env a w o K:=by
  intro ak v hv iY hk;have R2:=iY;simp only[Rd]at R2;obtain⟨ad,c,xX,hle,_⟩:=R2;obtain⟨l,u,h1,h2,h3,h4⟩:=lC hr lo hi true ak.length c hle _ hk;subst xX;exact Out.run (sl _ ad c hv.symm l u h4) hr (by simp only[RA];exact YW h1 h2 iY) h3
 cases pg:a_ env x with
 |pv p=>
  rw[pg]at hK hx;simp only[RA]at hx;cases p with
  |sl s ak=>
   replace hK:(match Nat.beq s i.size with
    |true=>fb ak.length (lo.map (a_ env)) (hi.map (a_ env)) λl h=>K (.pv (.sl i.size (cut l h ak))) σ
    |false=>False):=hK
   cases hs:Nat.beq s i.size with
   |false=>rw[hs]at hK;exact hK.elim
   |true=>
    rw[hs]at hK;have:=zab hs;subst this;exact aaI ak _ rfl hx hK
  |nil s=>
   simp only[Rd]at hx;obtain⟨l,u,h1,h2,h3,h4⟩:=lC hr lo hi true 0 0 (zaj _) (λ_ _=>K (.pv (.nil s)) σ) hK;obtain⟨rfl,rfl⟩:l=0/\u=0:=⟨aa,aa⟩
   exact Out.run (sl 0 none 0 hx 0 0 h4) hr (av:=.pv (.nil s)) (by simp[RA,Rd]) h3
  |_=>exact hK.elim
 |own id=>
  rw[pg]at hK hx;simp only[RA]at hx;obtain⟨b,hb,hk⟩:=az σ id _ hK;obtain⟨v',AF,nQ⟩:=hr.s.val hb;obtain rfl:=getElem?_of hx AF;cases b with
  |row e' s ap ak=>
   replace hk:(match Nat.beq s i.size with
    |true=>(fb ak.length (lo.map (a_ env)) (hi.map (a_ env)) λl h=>iX σ id (.fz (.sl i.size ak)) λσ=>K (.pv (.sl i.size (cut l h ak))) σ)\/fb ak.length (lo.map (a_ env)) (hi.map (a_ env)) λl h=>K (.sub id i.size l (h-l)) σ
    |false=>False):=hk
   cases hs:Nat.beq s i.size with
   |false=>rw[hs]at hk;exact hk.elim
   |true=>
    rw[hs]at hk;have:=zab hs;subst this;rcases hk with hk|hk
    rotate_left
    ·obtain⟨_,cells,⟨_,dx⟩,_⟩:=nQ;rcases dx with⟨xX,h0⟩|⟨g,cap,cur,fr,xX,_,_,hle,hcm,_⟩
     ·obtain⟨l,u,h1,h2,h3,h4⟩:=lC hr lo hi true ak.length 0 aa _ hk;obtain⟨rfl,rfl⟩:l=0/\u=0:=⟨aa,aa⟩
      rw[h0]at h4;refine Out.run (sl 0 none 0 xX 0 0 h4) hr (av:=.sub id i.size 0 (0-0)) ?_ h3;simp only[RA];exact⟨(zaa.1 hb).1,_,_,rfl,zaj _,by simp[maxLen],.inl trivial⟩
     ·obtain⟨l,u,h1,h2,h3,h4⟩:=lC hr lo hi true ak.length cap hle _ hk;refine Out.run (sl _ _ cap xX l u h4) hr (av:=.sub id i.size l (u-l)) ?_ h3;simp only[RA];refine⟨(zaa.1 hb).1,_,_,rfl,aa,aa,?_⟩;by_cases hlu:u-l=0
      ·exact .inl hlu
      ·refine .inr ⟨g,ak.length,cap,by rw[hx,xX],?_⟩;rw[if_neg aa];simp[fe]
    obtain⟨LX,kV⟩:=hr.s.freeze hb;have qH:Rel cx env (σ.set id (.fz (.sl i.size ak))) vals a w:=hr.keep LX kV;have iY:Rd (Ok cx (σ.set id (.fz (.sl i.size ak))) vals w) w (.sl i.size ak) (a.eval x):=
     LX.iU id (.fz (.sl i.size ak)) _ (by rw[cY (zaa.1 hb).1];simp) hx
    have R2:=iY;simp only[Rd]at R2;obtain⟨ad,c,xX,hle,_⟩:=R2;obtain⟨l,u,h1,h2,h3,h4⟩:=lC qH lo hi true ak.length c hle _ hk;obtain⟨_,h3⟩:=bu _ _ _ _ h3;rw[xX]at iY;exact Out.run (sl _ ad c xX l u h4) qH (by simp only[RA];exact YW h1 h2 iY) h3
  |fz z=>
   cases z with
   |sl s ak=>
    replace hk:(match Nat.beq s i.size with
     |true=>fb ak.length (lo.map (a_ env)) (hi.map (a_ env)) λl h=>K (.pv (.sl i.size (cut l h ak))) σ
     |false=>False):=hk
    cases hs:Nat.beq s i.size with
    |false=>rw[hs]at hk;exact hk.elim
    |true=>
     rw[hs]at hk;have:=zab hs;subst this;exact aaI ak _ rfl nQ hk
   |_=>exact hk.elim
  |_=>exact hk.elim
 |sub id s lo0 n=>
  rw[pg]at hK hx;replace hK:(match Nat.beq s i.size with
   |true=>fb n (lo.map (a_ env)) (hi.map (a_ env)) λl h=>K (.sub id i.size (lo0+l) (h-l)) σ
   |false=>False):=hK
  cases hs:Nat.beq s i.size with
  |false=>rw[hs]at hK;exact hK.elim
  |true=>
   rw[hs]at hK;have:=zab hs;subst this;simp only[RA]at hx;obtain⟨hid,ad,c,xX,hle,hcm,VF⟩:=hx;obtain⟨l,u,h1,h2,h3,h4⟩:=lC hr lo hi true n c hle _ hK;refine Out.run (sl _ _ c xX l u h4) hr (av:=.sub id i.size (lo0+l) (u-l)) ?_ h3;simp only[RA];refine⟨hid,_,_,rfl,aa,aa,?_⟩;by_cases hlu:u-l=0
   ·exact .inl hlu
   ·rcases VF with h0|⟨g,n0,c0,f1,rfl⟩
    ·omega
    ·refine .inr ⟨g,n0,c0,f1,?_⟩;rw[if_neg aa];simp[fe,zas]
 |_=>rw[pg]at hK;exact hK.elim
def OZ{ok:Nat->Prop}{b n:Nat}{y:PV}(hb:ok b)(h:k9 ok w b n y.cells):Rd ok w (.cptr y) (.pointer (some ⟨b,n,none⟩)):=by
 cases y<;>simp only[PV.cells,k9,Rd]at h ⊢ <;>first|exact⟨b,n,rfl,hb,h⟩|exact⟨b,n,rfl,hb,h.1.1,h.1.2⟩
def tp{ok:Nat->Prop}{y:PV}{v:Value}(h:Rd ok w (.cptr y) v):∃b n,v=.pointer (some ⟨b,n,none⟩)/\ok b/\k9 ok w b n y.cells:=by
 cases y<;>simp only[PV.cells,k9,Rd]at h ⊢ <;>first|(obtain⟨b,n,h1,h2,h3⟩:=h;exact⟨b,n,h1,h2,h3⟩)|(obtain⟨b,n,h1,h2,h3,h4⟩:=h;exact⟨b,n,h1,h2,⟨h3,h4⟩,trivial⟩)
def tN(P:Program)(t e:TypeId)(i:TypeInfo)(ad:Addr)(len c:Nat)(k:IntKind)(n:Int)(he:P.underlying t=some (.slice e))(hi:P.info? e=some i)(h0:0<=n)(hn:n<len):
 (Instr.indexAt t (.slice (some ad) len c) (.int k n)).run P w=.ok (.pointer (some (ad.add (n.toNat*i.size)))) w:=by
 simp[Instr.indexAt,asIntOf,run_underlying he,h0,hn,sizeOf,typeInfo,hi]
def aak{K:AV->aw->Prop}(hr:Rel cx env σ vals a w)(t e:TypeId)(i:TypeInfo)(x ix:Operand)(ho:o.op=.indexAddr t x ix)(he:cx.P.underlying t=some (.slice e))(pJ:cx.P.info? e=some i)
 (hK:Dv.asInt (a_ env ix) λ_ n=>Ge σ i.size (a_ env x) n λa=>K a σ):Out cx env a w o K:=by
 have hx:=hr.ev x;have hi:=hr.ev ix;cases aaJ:a_ env ix with
 |pv pi=>
  rw[aaJ]at hK hi;cases pi with
  |int k n=>
   simp only[RA,Rd]at hi;replace hK:Ge σ i.size (a_ env x) n λa=>K a σ:=hK
   have aaI:∀(ak:List PV) (y:PV),Rd (Ok cx σ vals w) w (.sl i.size ak) (a.eval x)->0<=n->ak[n.toNat]?=some y->K (.pv (.cptr y)) σ->Out cx env a w o K:=by
    intro ak y iY h0 hy hk;have R2:=iY;simp only[Rd]at R2;obtain⟨ad,c,hv,hle,_,fN⟩:=R2;have aS:=(zaa.1 hy).1;rcases fN with h|⟨b,o',rfl,ep,fN⟩
    ·subst h;simp at aS
    ·obtain⟨h1,h2⟩:=Fy fN hy;refine Out.run (v:=.pointer (some ⟨b,o'+n.toNat*i.size,none⟩)) ?_ hr (av:=.pv (.cptr y)) (by simp only[RA];exact OZ ep h2) hk;have:=tN (w:=w) cx.P t e i ⟨b,o',none⟩ ak.length c k n he pJ h0 aa;rw[fe]at this;simp[execOp,ho,hv,hi,this]
   cases pg:a_ env x with
   |pv p=>
    rw[pg]at hK hx;simp only[RA]at hx;cases p with
    |sl s ak=>
     replace hK:(match Nat.beq s i.size with
      |true=>∃y,(0<=n/\ak[n.toNat]?=some y)/\K (.pv (.cptr y)) σ
      |false=>False):=hK
     cases hs:Nat.beq s i.size with
     |false=>rw[hs]at hK;exact hK.elim
     |true=>
      rw[hs]at hK;have:=zab hs;subst this;obtain⟨y,⟨h0,hy⟩,hk⟩:=hK;exact aaI ak y hx h0 hy hk
    |_=>exact hK.elim
   |own id=>
    rw[pg]at hK hx;simp only[RA]at hx;obtain⟨b,hb,hk⟩:=az σ id _ hK;obtain⟨v',AF,nQ⟩:=hr.s.val hb;obtain rfl:=getElem?_of hx AF;cases b with
    |row e' s ap ak=>
     replace hk:(match Nat.beq s i.size with
      |true=>(0<=n/\n.toNat<ak.length)/\K (.ref id n.toNat 0) σ
      |false=>False):=hk
     cases hs:Nat.beq s i.size with
     |false=>rw[hs]at hk;exact hk.elim
     |true=>
      rw[hs]at hk;have:=zab hs;subst this;obtain⟨⟨h0,aS⟩,hk⟩:=hk;obtain⟨kq,cells,h1,_⟩:=nQ;rcases h1.2 with⟨_,h5⟩|⟨g,cap,cur,fr,h4,_⟩
      ·omega
      ·refine Out.run (v:=.pointer (some ⟨g,n.toNat*i.size,none⟩)) ?_ hr (av:=.ref id n.toNat 0) ?_ hk
       ·have:=tN (w:=w) cx.P t e i ⟨g,0,none⟩ ak.length cap k n he pJ h0 aa;rw[fe]at this;simp[execOp,ho,h4,hi,this]
       ·simp only[RA];refine⟨(zaa.1 hb).1,⟨_,rfl⟩,λe2 sz2 ap2 Hk h=>?_,λs2 h mN=>?_⟩
        ·rw[hb]at h;cases h;exact⟨_,g,hx,by rw[h4];rfl,ae⟩
        ·rw[hb]at h;cases h;cases mN
    |fz z=>
     cases z with
     |sl s ak=>
      replace hk:(match Nat.beq s i.size with
       |true=>∃y,(0<=n/\ak[n.toNat]?=some y)/\K (.pv (.cptr y)) σ
       |false=>False):=hk
      cases hs:Nat.beq s i.size with
      |false=>rw[hs]at hk;exact hk.elim
      |true=>
       rw[hs]at hk;have:=zab hs;subst this;obtain⟨y,⟨h0,hy⟩,hk⟩:=hk;exact aaI ak y nQ h0 hy hk
     |_=>exact hk.elim
    |_=>exact hk.elim
   |sub id z lo m=>
    rw[pg]at hK hx;replace hK:(match Nat.beq z i.size with
     |true=>dm σ id λb=>match b with
      | .row _ s _ ak=>match Nat.beq s i.size with
       |true=>((0<=n/\n.toNat<m)/\lo+m<=ak.length)/\K (.ref id (lo+n.toNat) 0) σ
       |false=>False
      | .fz x=>match x with
       | .sl s ak=>match Nat.beq s i.size with
        |true=>∃y,((0<=n/\n.toNat<m/\lo+m<=ak.length)/\ak[lo+n.toNat]?=some y)/\K (.pv (.cptr y)) σ
        |false=>False
       |_=>False
      |_=>False
     |false=>False):=hK
    cases hz:Nat.beq z i.size with
    |false=>rw[hz]at hK;exact hK.elim
    |true=>
     rw[hz]at hK;have:=zab hz;subst this;simp only[RA]at hx;obtain⟨hid,ad,c,xX,hle,hcm,VF⟩:=hx;obtain⟨b,hb,hk⟩:=az σ id _ hK;obtain⟨u,hu,nQ⟩:=hr.s.val hb;cases b with
     |row e' s ap ak=>
      replace hk:(match Nat.beq s i.size with
       |true=>((0<=n/\n.toNat<m)/\lo+m<=ak.length)/\K (.ref id (lo+n.toNat) 0) σ
       |false=>False):=hk
      cases hs:Nat.beq s i.size with
      |false=>rw[hs]at hk;exact hk.elim
      |true=>
       rw[hs]at hk;have:=zab hs;subst this;obtain⟨⟨⟨h0,aS⟩,_⟩,hk⟩:=hk;rcases VF with hm0|⟨g,n0,c0,f1,rfl⟩
       ·omega
       ·refine Out.run (v:=.pointer (some ⟨g,(lo+n.toNat)*i.size,none⟩)) ?_ hr (av:=.ref id (lo+n.toNat) 0) ?_ hk
        ·have:=tN (w:=w) cx.P t e i ⟨g,lo*i.size,none⟩ m c k n he pJ h0 aa;rw[fe]at this;simp[execOp,ho,xX,hi,this,zas]
        ·simp only[RA];refine⟨(zaa.1 hb).1,⟨_,rfl⟩,λe2 sz2 ap2 Hk h=>?_,λs2 h mN=>?_⟩
         ·rw[hb]at h;cases h;exact⟨_,g,f1,rfl,ae⟩
         ·rw[hb]at h;cases h;cases mN
     |fz y=>
      cases y with
      |sl s ak=>
       replace hk:(match Nat.beq s i.size with
        |true=>∃y,((0<=n/\n.toNat<m/\lo+m<=ak.length)/\ak[lo+n.toNat]?=some y)/\K (.pv (.cptr y)) σ
        |false=>False):=hk
       cases hs:Nat.beq s i.size with
       |false=>rw[hs]at hk;exact hk.elim
       |true=>
        rw[hs]at hk;have:=zab hs;subst this;obtain⟨y,⟨⟨h0,aS,aEK⟩,hy⟩,hk⟩:=hk;rcases VF with hm0|⟨g,n0,c0,f1,rfl⟩
        ·omega
        ·rw[hu]at f1;cases f1;have iY:Rd (Ok cx σ vals w) w (.sl i.size ak) (.slice (some ⟨g,0,none⟩) n0 c0):=nQ;simp only[Rd]at iY;obtain⟨ad2,c2,g1,_,_,g4⟩:=iY;cases g1;rcases g4 with g4|⟨b',o',g5,g6,g7⟩
         ·subst g4;simp at hy
         ·cases g5;obtain⟨_,h2⟩:=Fy g7 hy;rw[zaU]at h2;refine Out.run (v:=.pointer (some ⟨g,(lo+n.toNat)*i.size,none⟩)) ?_ hr (av:=.pv (.cptr y)) (by simp only[RA];exact OZ g6 h2) hk;have:=tN (w:=w) cx.P t e i ⟨g,lo*i.size,none⟩ m c k n he pJ h0 aa;rw[fe]at this;simp[execOp,ho,xX,hi,this,zas]
      |_=>exact hk.elim
     |_=>exact hk.elim
   |_=>rw[pg]at hK;exact hK.elim
  |_=>exact hK.elim
 |_=>rw[aaJ]at hK;exact hK.elim
end
end
end Go.Dv
namespace Go.Dv
open Go.RowKit
section
section
variable {cx:Cx} {env:Env} {σ:aw} {vals:List Value} {a:Act} {w:World} {o:Oper}
structure Shape(P:Program)(t:TypeId)(ag:Bool)(n:Nat):Prop where
 info:∃i,P.info? t=some i/\i.size=n
 und:∃d,P.underlying t=some d/\ag=(match d with| .struct _=>true| .array _ _=>true|_=>false)
def o4{P:Program}{t:TypeId}{s:Bool×Nat}(h:G9 P t=some s):Shape P t s.1 s.2:=by
 unfold G9 opt at h;cases hi:P.info? t with
 |none=>rw[hi]at h;cases h
 |some i=>
  rw[hi]at h;simp only at h;cases hu:P.underlying t with
  |none=>rw[hu]at h;cases h
  |some d=>
   rw[hu]at h;cases d<;>cases h<;>exact⟨⟨i,hi,rfl⟩,⟨_,hu,rfl⟩⟩
def Shape.isAgg{P:Program}{t:TypeId}{ag:Bool}{n:Nat}(h:Shape P t ag n):(isAgg t).run P w=.ok ag w:=by
 obtain⟨d,hd,rfl⟩:=h.und;cases d<;>simp[Go.isAgg,run_underlying hd]
def valOf(ag:Bool)(us:List Value):Value:=match ag with|true=>.agg us.toArray|false=>us.headD undef
def run_load{P:Program}{t:TypeId}{ag:Bool}{n:Nat}(h:Shape P t ag n)(b off:Nat)(us:List Value)(hl:us.length=if ag then n else 1)(hc:∀(j:Nat) (u:Value),us[j]?=some u->w.cell? ⟨b,off+j,none⟩=some u):
 (loadVar t ⟨b,off,none⟩).run P w=.ok (valOf ag us) w:=by
 obtain⟨i,hi,hn⟩:=h.info;cases ag with
 |true=>
  simp only[if_true]at hl;have:=run_loadCells_list (P:=P) w ⟨b,off,none⟩ us (λj v hj=>by rw[fe];exact hc j v hj);rw[hl]at this;simp[loadVar,h.isAgg,sizeOf,typeInfo,hi,hn,this,valOf]
 |false=>
  cases us with
  |nil=>simp at hl
  |cons u us=>
   have:=hc 0 u rfl;simp[loadVar,h.isAgg,run_load,valOf];simp at this;rw[this]
def Jk{ok:Nat->Prop}{ag:Bool}{cs:List PV}{us:List Value}{K:PV->Prop}(h:cE ok w cs us)(h1:∀c∈cs,c.one=true)(hK:NL ag cs K):∃r,K r/\Rd ok w r (valOf ag us)/\(ag=false->cs.length=1):=by
 cases ag with
 |true=>exact⟨_,hK,by simp only[Rd];exact⟨h1,_,rfl,o8⟩,λh=>cI⟩
 |false=>
  cases cs with
  |nil=>exact hK.elim
  |cons c cs=>
   cases cs with
   |nil=>
    simp only[cE]at h;obtain⟨v,r,rfl,h1,rfl⟩:=h;exact⟨c,hK,h1,λ_=>rfl⟩
   |cons _ _=>exact hK.elim
def Q_{ok:Nat->Prop}{ag:Bool}{cs:List AV}{us:List Value}{K:AV->Prop}(h:d_ ok σ vals w cs us)(h1:∀c∈cs,c.one=true)(hK:BK ag cs K):∃r,K r/\RA ok σ vals w r (valOf ag us)/\(ag=false->cs.length=1):=by
 cases ag with
 |true=>
  rcases FM cs K hK with⟨t,rfl,h2⟩|h2
  ·rw[eY]at h;exact⟨_,h2,by simp only[RA,Rd];exact⟨λc hc=>h1 (.pv c) r6,_,rfl,o8⟩,λh=>cI⟩
  ·exact⟨_,h2,by simp only[RA];exact⟨h1,_,rfl,o8⟩,λh=>cI⟩
 |false=>
  cases cs with
  |nil=>exact hK.elim
  |cons c cs=>
   cases cs with
   |nil=>
    simp only[d_]at h;obtain⟨v,r,rfl,h1,rfl⟩:=h;exact⟨c,hK,h1,λ_=>rfl⟩
   |cons _ _=>exact hK.elim
def Fu{ok:Nat->Prop}{b off at_ n:Nat}{ag:Bool}{cs:List PV}{K:PV->Prop}(h:k9 ok w b at_ cs)(hK:xB off ag n cs K):
 ∃r us,K r/\Rd ok w r (valOf ag us)/\us.length=n/\(ag=false->n=1)∧∀(j:Nat) (u:Value),us[j]?=some u->w.cell? ⟨b,at_+off+j,none⟩=some u:=by
 obtain⟨pre,rest,rfl,h1,hK⟩:=rL off cs _ hK;obtain⟨t,post,rfl,h2,hK⟩:=wu n rest _ hK;rw[jE,jE]at h;obtain⟨h0,us,h3,h4⟩:=(u6 b t _).1 h.2.1;obtain⟨r,h5,h6,h7⟩:=Jk h3 h0 hK;exact⟨r,us,h5,h6,by rw[h3.length,h2],λh=>h2▸h7 h,by rw[h1]at h4;exact h4⟩
def MO{K:AV->Prop}(hr:ba cx σ vals w)(ag:Bool)(n:Nat){xa:AV}{xv:Value}(hx:RA (Ok cx σ vals w) σ vals w xa xv)(hK:Bl σ ag n xa K):
 ∃b off us av,xv=.pointer (some ⟨b,off,none⟩)/\us.length=n/\(∀(j:Nat) (u:Value),us[j]?=some u->w.cell? ⟨b,off+j,none⟩=some u)/\RA (Ok cx σ vals w) σ vals w av (valOf ag us)/\K av:=by
 have fin:∀(b off:Nat) (us:List Value) (av:AV),xv=.pointer (some ⟨b,off,none⟩)->us.length=n->(∀(j:Nat) (u:Value),us[j]?=some u->w.cell? ⟨b,off+j,none⟩=some u)->
  RA (Ok cx σ vals w) σ vals w av (valOf ag us)->K av→∃b off us av,xv=.pointer (some ⟨b,off,none⟩)/\us.length=n/\(∀(j:Nat) (u:Value),us[j]?=some u->w.cell? ⟨b,off+j,none⟩=some u)/\RA (Ok cx σ vals w) σ vals w av (valOf ag us)/\K av:=
  λb off us av h1 h2 h3 h4 h5=>⟨b,off,us,av,h1,h2,h3,h4,h5⟩
 cases xa with
 |pv p=>
  simp only[RA]at hx;cases p with
  |cptr y=>
   obtain⟨b,off,hv,ep,pH⟩:=tp hx;obtain⟨r,us,h1,h2,h3,_,h5⟩:=Fu (off:=0) pH hK;exact fin b off us (.pv r) hv h3 h5 Ki h1
  |_=>exact hK.elim
 |ref id idx off=>
  simp only[RA]at hx;obtain⟨aS,_,fN,sM⟩:=hx;obtain⟨b,hb,hk⟩:=az σ id _ hK;obtain⟨v',AF,nQ⟩:=hr.val hb;cases b with
  |row e sz ap ak=>
   obtain⟨u,g,hu,hg,hv⟩:=fN e sz ap ak hb;obtain rfl:=getElem?_of AF hu;obtain⟨y,hy,hk⟩:=hk;obtain⟨ad,c,h1,h2,h3,h4⟩:=ny nQ;rcases h4 with h4|⟨b,o',rfl,h4⟩
   ·subst h4;simp at hy
   ·have ho':o'=0/\b=g:=by
     obtain⟨_,cells,h5,_⟩:=nQ;rcases h5.2 with⟨h6,_⟩|⟨g',cap,cur,fr,h6,_⟩
     ·rw[h6]at h1;cases h1
     ·rw[h6]at h1;cases h1;rw[h6]at hg;exact⟨rfl,by cases hg;rfl⟩
    obtain⟨rfl,rfl⟩:=ho';obtain⟨_,h6⟩:=Fy h4 hy;obtain⟨r,us,g1,g2,g3,_,g5⟩:=Fu h6 hk;exact fin b (idx*sz+off) us (.pv r) hv g3 (by simpa using g5) (by simp only[RA];exact g2) g1
  |fz z=>
   cases z with
   |cptr y=>
    obtain⟨u,g,hu,rfl,hv⟩:=sM _ hb rfl;obtain rfl:=getElem?_of AF hu;obtain⟨b,n',e1,_,pH⟩:=tp (show Rd (Ok cx σ vals w) w (.cptr y) _ from nQ);cases e1;obtain⟨r,us,h1,h2,h3,_,h5⟩:=Fu pH hk;exact fin _ off us (.pv r) hv h3 (by simpa using h5) Ki h1
   |_=>exact hk.elim
  |box e cs=>
   obtain⟨u,g,hu,rfl,hv⟩:=sM _ hb rfl;obtain rfl:=getElem?_of AF hu;obtain⟨b,arr,h1,h2,h3,h4,h5⟩:=nQ;cases h1;obtain⟨pre,rest,rfl,h6,hk⟩:=rL off cs _ hk;obtain⟨t',post,rfl,h7,hk⟩:=wu n rest _ hk;obtain⟨FT,Xj,he,h8,h9⟩:=(ei _ _ _).1 h5;obtain⟨us3,us4,rfl,M7,Sv⟩:=(ei _ _ _).1 h9;obtain⟨r,g1,g2,_⟩:=Q_ M7 (λc hc=>h4 c iN) hk;refine fin _ off us3 r hv (by rw[M7.length,h7]) (λj u hj=>?_) g2 g1;have hj':arr[off+j]?=some u:=by
    rw[<-za2,he,zam (by rw[h8.length,h6];omega),h8.length,h6,zaw,
     zar (zaa.1 hj).1,hj]
   simp[World.cell?,h3,hj']
  |_=>exact hk.elim
 |_=>exact hK.elim
def QE{K:AV->aw->Prop}(hr:Rel cx env σ vals a w)(t:TypeId)(x:Operand)(ag:Bool)(n:Nat)(ho:o.op=.load t x)(hs:∃m,Shape cx.P t ag m/\n=if ag then m else 1)
 (hK:Bl σ ag n (a_ env x) λa=>K a σ):Out cx env a w o K:=by
 obtain⟨m,hs,hn⟩:=hs;obtain⟨b,off,us,av,hv,hl,hc,Pd,hk⟩:=MO hr.s ag n (hr.ev x) hK;refine Out.run (v:=valOf ag us) ?_ hr Pd hk;have:=run_load hs b off us (by rw[hl,hn]) hc;simp[execOp,ho,hv,Instr.loadAt,Instr.sureAddr,this]
def It{K:AV->aw->Prop}(hr:Rel cx env σ vals a w)(x:Operand)(off:Nat)(hs:∀b n,a.eval x=.pointer (some ⟨b,n,none⟩)->(execOp a.eval o).run cx.P w=.ok (.value (.pointer (some ⟨b,n+off,none⟩))) w)
 (hK:F0 σ off (a_ env x) λa=>K a σ):Out cx env a w o K:=by
 have hx:=hr.ev x;cases pg:a_ env x with
 |pv p=>
  rw[pg]at hK hx;simp only[RA]at hx;cases p with
  |cptr y=>
   obtain⟨b,n,hv,ep,pH⟩:=tp hx;obtain⟨pre,rest,h1,h2,hk⟩:=rL off y.cells _ hK;rw[h1,jE,h2]at pH;exact Out.run (v:=.pointer (some ⟨b,n+off,none⟩)) (hs b n hv) hr (av:=.pv (.cptr (.agg rest))) (by simp only[RA];exact OZ ep pH.2) hk
  |_=>exact hK.elim
 |ref id idx o1=>
  rw[pg]at hK hx;simp only[RA]at hx;obtain⟨aS,_,fN,sM⟩:=hx;obtain⟨b,hb,hK⟩:=az σ id _ hK;cases b with
  |row e sz ap ak=>
   obtain⟨u,g,hu,hg,hv⟩:=fN e sz ap ak hb;refine Out.run (v:=.pointer (some ⟨g,idx*sz+o1+off,none⟩)) (K:=K) (hs _ _ hv) hr (av:=.ref id idx (o1+off)) ?_ hK;simp only[RA];refine⟨aS,⟨_,rfl⟩,λe2 sz2 ap2 Hk h=>?_,λs2 h mN=>?_⟩
   ·rw[hb]at h;cases h;exact⟨u,g,hu,hg,by rw[zaJ]⟩
   ·rw[hb]at h;cases h;cases mN
  |box e cs=>
   obtain⟨u,g,hu,hg,hv⟩:=sM _ hb rfl;refine Out.run (v:=.pointer (some ⟨g,o1+off,none⟩)) (K:=K) (hs _ _ hv) hr (av:=.ref id idx (o1+off)) ?_ hK;simp only[RA];refine⟨aS,⟨_,rfl⟩,λe2 sz2 ap2 Hk h=>?_,λs2 h mN=>?_⟩
   ·rw[hb]at h;cases h
   ·exact⟨u,g,hu,hg,rfl⟩
  |fz z=>
   cases z with
   |cptr y=>
    obtain⟨u,g,hu,hg,hv⟩:=sM _ hb rfl;refine Out.run (v:=.pointer (some ⟨g,o1+off,none⟩)) (K:=K) (hs _ _ hv) hr (av:=.ref id idx (o1+off)) ?_ hK;simp only[RA];refine⟨aS,⟨_,rfl⟩,λe2 sz2 ap2 Hk h=>?_,λs2 h mN=>?_⟩
    ·rw[hb]at h;cases h
    ·exact⟨u,g,hu,hg,rfl⟩
   |_=>exact hK.elim
  |_=>exact hK.elim
 |_=>rw[pg]at hK;exact hK.elim
def Ql(P:Program)(s:TypeId)(f:Nat)(fs:Array Field)(fd:Field)(ag:Bool)(m:Nat)(h:P.underlying s=some (.struct fs))(hf:fs[f]?=some fd)(hs:Shape P fd.type ag m)(hm:0<m)(b n:Nat):
 (Instr.fieldAt s (.pointer (some ⟨b,n,none⟩)) f).run P w=.ok (.pointer (some ⟨b,n+fd.offset,none⟩)) w:=by
 obtain⟨i,hi,rfl⟩:=hs.info;have h0:¬i.size=0:=aa;simp[Instr.fieldAt,run_underlying h,hf,Instr.sureAddr,Go.fieldPlace,sizeOf,typeInfo,hi,h0,fe]
def JY{K:AV->aw->Prop}(hr:Rel cx env σ vals a w)(x:Operand)(ft:TypeId)(off:Nat)(ag:Bool)(n:Nat)(ec:∀arr v,a.eval x=.agg arr->(part ft arr off).run cx.P w=.ok v w->(execOp a.eval o).run cx.P w=.ok (.value v) w)
 (hs:∃m,Shape cx.P ft ag m/\n=if ag then m else 1)
 (hK:match a_ env x with
   | .pv x=>match x with
    | .agg cs=>xB off ag n cs λr=>K (.pv r) σ
    |_=>False
   | .agg cs=>xE off cs λr=>zV n r λt=>BK ag t λa=>K a σ
   |_=>False):Out cx env a w o K:=by
 have hx:=hr.ev x;obtain⟨m,hs,hn⟩:=hs;have fin:∀(arr:Array Value) (FT us Xj:List Value) (av:AV),a.eval x=.agg arr->arr.toList=FT++(us++Xj)->FT.length=off->us.length=n->
  RA (Ok cx σ vals w) σ vals w av (valOf ag us)->K av σ->Out cx env a w o K:=by
  intro arr FT us Xj av hv he h1 h2 Pd hk;refine Out.run (v:=valOf ag us) ?_ hr Pd hk;have azU:(part ft arr off).run cx.P w=.ok (valOf ag us) w:=by
   obtain⟨i,hi,hm⟩:=hs.info;cases ag with
   |true=>
    simp only[if_true]at hn;simp[part,hs.isAgg,sizeOf,typeInfo,hi,hm,valOf];apply Array.ext';simp[he,<-h1,<-hn,<-h2]
   |false=>
    cases us with
    |nil=>simp at h2;simp at hn;omega
    |cons u us=>
     have:arr[off]?=some u:=by
      rw[<-za2,he,zam aa,h1,Nat.sub_self];rfl
     simp[part,hs.isAgg,this,valOf]
  exact ec arr _ hv azU
 cases pg:a_ env x with
 |pv p=>
  rw[pg]at hK hx;simp only[RA]at hx;cases p with
  |agg cs=>
   simp only[Rd]at hx;obtain⟨h0,arr,hv,hl⟩:=hx;obtain⟨pre,rest,rfl,h1,hk⟩:=rL _ cs _ hK;obtain⟨t,post,rfl,h2,hk⟩:=wu n rest _ hk;obtain⟨FT,XC,he,h3,h4⟩:=(c8 _ _ _).1 hl;obtain⟨us,Xj,rfl,h5,h6⟩:=(c8 _ _ _).1 h4;obtain⟨r,g1,g2,_⟩:=Jk h5 (λc hc=>h0 c iN) hk;exact fin arr FT us Xj (.pv r) hv he (by rw[h3.length,h1]) (by rw[h5.length,h2]) (by simp only[RA];exact g2) g1
  |_=>exact hK.elim
 |agg cs=>
  rw[pg]at hK hx;simp only[RA]at hx;obtain⟨h0,arr,hv,hl⟩:=hx;obtain⟨pre,rest,rfl,h1,hk⟩:=rL _ cs _ hK;obtain⟨t,post,rfl,h2,hk⟩:=wu n rest _ hk;obtain⟨FT,XC,he,h3,h4⟩:=(ei _ _ _).1 hl;obtain⟨us,Xj,rfl,h5,h6⟩:=(ei _ _ _).1 h4;obtain⟨r,g1,g2,_⟩:=Q_ h5 (λc hc=>h0 c iN) hk;exact fin arr FT us Xj r hv he (by rw[h3.length,h1]) (by rw[h5.length,h2]) g2 g1
 |_=>rw[pg]at hK;exact hK.elim
def VD{K:AV->aw->Prop}(hr:Rel cx env σ vals a w)(s:TypeId)(x:Operand)(f:Nat)(fs:Array Field)(fd:Field)(ag:Bool)(n:Nat)(ho:o.op=.field s x f)(hu:cx.P.underlying s=some (.struct fs))(hf:fs[f]?=some fd)
 (hs:∃m,Shape cx.P fd.type ag m/\n=if ag then m else 1)
 (hK:match a_ env x with
   | .pv x=>match x with
    | .agg cs=>xB fd.offset ag n cs λr=>K (.pv r) σ
    |_=>False
   | .agg cs=>xE fd.offset cs λr=>zV n r λt=>BK ag t λa=>K a σ
   |_=>False):Out cx env a w o K:=
 JY hr x fd.type fd.offset ag n (λarr v hv hp=>by simp[execOp,ho,hv,Instr.field,run_underlying hu,hf,asAgg,hp]) hs hK
def Ro{K:AV->aw->Prop}(hr:Rel cx env σ vals a w)(t e:TypeId)(x i:Operand)(m:Nat)(kd:IntKind)(k:Int)(sz:Nat)(ag:Bool)(n:Nat)(ho:o.op=.index t x i)(hu:cx.P.underlying t=some (.array m e))(hi:i=.const (.int kd k))(hk:0<=k/\k.toNat<m)
 (hs:Shape cx.P e ag sz) (hn:n=if ag then sz else 1)
 (hK:match a_ env x with
   | .pv x=>match x with
    | .agg cs=>xB (k.toNat*sz) ag n cs λr=>K (.pv r) σ
    |_=>False
   | .agg cs=>xE (k.toNat*sz) cs λr=>zV n r λt=>BK ag t λa=>K a σ
   |_=>False):Out cx env a w o K:=by
 obtain⟨j,hj,hjs⟩:=hs.info;refine JY hr x e (k.toNat*sz) ag n (λarr v hv hp=>?_) ⟨_,hs,hn⟩ hK;subst hi;have aS:k<(m:Int):=aa;have pg:a.eval (.const (.int kd k))=.int kd k:=rfl;simp[execOp,ho,hv,pg,Instr.index,asIntOf,run_underlying hu,hk.1,aS,sizeOf,typeInfo,hj,hjs,hp]
def ad3{K:AV->aw->Prop}(hr:Rel cx env σ vals a w)(x:Operand)(i:Nat)(ho:o.op=.extract x i)
 (hK:match a_ env x with
   | .tup l=>dm l i λa=>K a σ
   | .pv x=>match x with
    | .tup l=>dm l i λa=>K (.pv a) σ
    |_=>False
   |_=>False):Out cx env a w o K:=by
 have hx:=hr.ev x;cases pg:a_ env x with
 |pv p=>
  rw[pg]at hK hx;simp only[RA]at hx;cases p with
  |tup l=>
   simp only[Rd]at hx;obtain⟨arr,hv,hl⟩:=hx;obtain⟨c,hc,hk⟩:=az l i _ hK;obtain⟨h1,h2⟩:=(kW l _).1 hl;have aS:=(zaa.1 hc).1;have ar4:i<arr.size:=by rw[<-zac,h1];exact aS
   have AF:arr[i]?=some arr[i]:=zaE ar4;refine Out.run (v:=arr[i]) ?_ hr (av:=.pv c) (by simp only[RA];exact h2 i c _ hc ae) hk;simp[execOp,ho,hv,Instr.extract,AF]
  |_=>exact hK.elim
 |tup l=>
  rw[pg]at hK hx;simp only[RA]at hx;obtain⟨arr,hv,hl⟩:=hx;obtain⟨c,hc,hk⟩:=az l i _ hK;have aS:=(zaa.1 hc).1;have ar4:i<arr.size:=by rw[<-zac,hl.length];exact aS
  have AF:arr[i]?=some arr[i]:=zaE ar4;have Xk:∀(l:List AV) (vs:List Value) (i:Nat) (c:AV) (v:Value),d_ (Ok cx σ vals w) σ vals w l vs->l[i]?=some c->vs[i]?=some v->RA (Ok cx σ vals w) σ vals w c v:=by
   intro l
   induction l with
   |nil=>intro vs i c v _ h;simp at h
   |cons x l ih=>
    intro vs i c v h h1 h2;simp only[d_]at h;obtain⟨v0,r,rfl,h3,h4⟩:=h;cases i with
    |zero=>simp at h1 h2;subst h1 h2;exact h3
    |succ i=>exact ih r i c v h4 mK gu
  refine Out.run (v:=arr[i]) ?_ hr (av:=c) (Xk l _ i c _ hl hc ae) hk;simp[execOp,ho,hv,Instr.extract,AF]
 |_=>rw[pg]at hK;exact hK.elim
def W4{K:AV->aw->Prop}(hr:Rel cx env σ vals a w)(x:Operand)(ho:o.op=.nilCheck x)
 (hK:match a_ env x with
   | .ref id idx off=>ME σ id (K (.ref id idx off) σ)
   | .pv x=>match x with
    | .cptr y=>K (.pv (.cptr y)) σ
    | .clo f cs=>K (.pv (.clo f cs)) σ
    |_=>False
   | .clo f cs=>K (.clo f cs) σ
   |_=>False):Out cx env a w o K:=by
 have hx:=hr.ev x;cases pg:a_ env x with
 |pv p=>
  rw[pg]at hK hx;cases p with
  |cptr y=>
   have Xh:=hx;simp only[RA]at hx;obtain⟨b,n,hv,_⟩:=tp hx;exact Out.run (v:=.pointer (some ⟨b,n,none⟩)) (by simp[execOp,ho,hv]) hr (hv▸Xh) hK
  |clo f cs=>
   have Xh:=hx;simp only[RA,Rd]at hx;obtain⟨cv,hv,_⟩:=hx;exact Out.run (v:=.func (.func f) #[] cv) (by simp[execOp,ho,hv]) hr (hv▸Xh) hK
  |_=>exact hK.elim
 |clo f cs=>
  rw[pg]at hK hx;have Xh:=hx;simp only[RA]at hx;obtain⟨cv,hv,_⟩:=hx;exact Out.run (v:=.func (.func f) #[] cv) (by simp[execOp,ho,hv]) hr (hv▸Xh) hK
 |ref id idx off=>
  rw[pg]at hK hx;have Xh:=hx;simp only[RA]at hx;obtain⟨aS,_,fN,sM⟩:=hx;obtain⟨b,hb,hK⟩:=az σ id _ hK;cases b with
  |row e sz ap ak=>
   obtain⟨u,g,hu,hg,hv⟩:=fN e sz ap ak hb;exact H_
  |fz z=>
   cases z with
   |cptr y=>
    obtain⟨u,g,hu,hg,hv⟩:=sM _ hb rfl;exact H_
   |_=>exact hK.elim
  |box e cs=>
   obtain⟨u,g,hu,hg,hv⟩:=sM _ hb rfl;exact H_
  |_=>exact hK.elim
 |_=>rw[pg]at hK;exact hK.elim
end
end
end Go.Dv
namespace Go.Dv
open Go.RowKit
section
section
variable {cx:Cx} {env:Env} {σ:aw} {vals:List Value} {a:Act} {w w':World} {o:Oper}
def RF{s:cu}{v:Value}(hl:vals.length=σ.length){b:Nat}(h:Av (σ++[s]) (vals++[v]) b):Av σ vals b\/s.bk v b:=by
 obtain⟨i,t,u,h1,h3,h4⟩:=h;rw[bE]at h1 h3;split at h1
 ·rename_i he;rw[if_pos (by rw[hl];exact he)]at h3;cases h1;cases h3;exact .inr h4
 ·rename_i he;rw[if_neg (by rw[hl];exact he)]at h3;exact .inl ⟨i,t,u,h1,h3,h4⟩
def ba.push(hr:ba cx σ vals w)(M6:Below w.heap.size w w')(s:cu)(v:Value)(fY:v.oneCell'=true)(kp:∀b,s.bk v b->w.heap.size<=b)
 (hb:cm cx σ vals w (σ++[s]) (vals++[v]) w'->RB cx (σ++[s]) (vals++[v]) w' s v):
 ba cx (σ++[s]) (vals++[v]) w'/\cm cx σ vals w (σ++[s]) (vals++[v]) w':=by
 obtain⟨dp,mM⟩:=hr.grow M6;have hk:cm cx σ vals w (σ++[s]) (vals++[v]) w':=by
  refine⟨λi u h=>?_,ae,λb h=>⟨h.1,zag h.2.1 M6.size,λhm=>?_⟩,λb h=>M6.block b h.2.1,λi hi e sz ap ak h=>?_,λi hi s' h x6=>?_⟩
  ·rw[bE,if_neg (by have:=(zaa.1 h).1;omega)];exact h
  ·rcases RF hr.len hm with hm|h2
   ·exact h.2.2 hm
   ·have:=kp b h2;have:=h.2.1;omega
  ·rw[bE,if_neg aa]at h;exact⟨ap,ak,h⟩
  ·rw[bE,if_neg aa]at h;exact⟨s',h,x6⟩
 have VE:Fr cx (σ++[s]) (vals++[v]) w':=⟨dp.fr.size,dp.fr.same,λb hm vV=>by
  rcases RF hr.len hm with hm|h2
  ·exact hr.fr.nB b hm vV
  ·have:=kp b h2;have:=cx.hk b vV;have:=hr.fr.size;omega⟩
 refine⟨⟨dp.below,λu hu=>RG,nZ,λi t u h1 h2=>?_,λi j t1 t2 u1 u2 b iT h1 h2 h5 h6 h7 h8=>?_,VE,hr.pin.keep hk⟩,hk⟩
 ·rw[bE]at h1 h2;split at h1
  ·rename_i he;rw[if_pos (by rw[hr.len];exact he)]at h2;cases h1;cases h2;exact hb hk
  ·rename_i he;rw[if_neg (by rw[hr.len];exact he)]at h2;exact hk.rb (hr.iU i t u h1 h2) (λb Hj=>M6.block b ((hr.iU i t u h1 h2).block Hj).2)
 ·rw[bE]at h1 h2 h5 h6;rw[hr.len]at h5 h6;split at h1
  ·rename_i he;rw[if_pos he]at h5;cases h1;cases h5;rw[if_neg aa]at h2 h6;have:=kp b h7;have:=((hr.iU j t2 u2 h2 h6).block h8).2;omega
  ·rename_i he;rw[if_neg he]at h5;split at h2
   ·rename_i he2;rw[if_pos he2]at h6;cases h2;cases h6;have:=kp b h8;have:=((hr.iU i t1 u1 h1 h5).block h7).2;omega
   ·rename_i he2;rw[if_neg he2]at h6;exact hr.oP i j t1 t2 u1 u2 b iT h1 h2 h5 h6 h7 h8
def TN(hl:vals.length=σ.length)(s:cu)(v:Value){ok:Nat->Prop}:RA ok (σ++[s]) (vals++[v]) w (.own σ.length) v:=by
 simp only[RA];rw[bE,if_pos hl.symm]
def SC(hl:vals.length=σ.length)(e:TypeId)(cs:List AV)(b:Nat){ok:Nat->Prop}:RA ok (σ++[.box e cs]) (vals++[.pointer (some ⟨b,0,none⟩)]) w (.ref σ.length 0 0) (.pointer (some ⟨b,0,none⟩)):=by
 simp only[RA];refine⟨ae,⟨_,rfl⟩,λe2 sz2 ap2 Hk h=>?_,λs2 h mN=>?_⟩
 ·rw[bE,if_pos rfl]at h;cases h
 ·exact⟨.pointer (some ⟨b,0,none⟩),b,by rw[bE,if_pos hl.symm],rfl,rfl⟩
def te(w:World)(ob:Obj):Below w.heap.size w (w.alloc ob):=(Below.refl _ _).alloc (zaj _) _
def heap_alloc(w:World)(ob:Obj):(w.alloc ob).heap[w.heap.size]?=some ob:=by show(w.heap.push ob)[w.heap.size]?=_;simp
def Jl{K:AV->aw->Prop}(hr:Rel cx env σ vals a w)(e:TypeId)(cs:List AV)(arr:Array Value)(ec:(execOp a.eval o).run cx.P w=.ok (.value (.pointer (some ⟨w.heap.size,0,none⟩))) (w.alloc (.cells arr e)))
 (h1:∀c∈cs,c.one=true) (pH:d_ (Ok cx σ vals w) σ vals w cs arr.toList) (hK:iW σ λn=>eo σ (.box e cs) λσ=>K (.ref n 0 0) σ):Out cx env a w o K:=by
 have hK:=bR _ _ _ (cW σ _ hK);obtain⟨hs,hk⟩:=hr.s.push (te w (.cells arr e)) (.box e cs) (.pointer (some ⟨w.heap.size,0,none⟩)) rfl (λb h=>I6)
  (λhk=>⟨w.heap.size,arr,rfl,cx.dx _ hr.s.below.size,heap_alloc w _,h1,hk.T4 _ _ pH⟩)
 exact Out.run ec (hr.keep hs hk) (SC hr.s.len e cs w.heap.size) hK
def wg{K:AV->aw->Prop}(hr:Rel cx env σ vals a w)(e:TypeId)(sz:Nat)(ap:Bool)(ak:List PV)(w':World)(M6:Below w.heap.size w w')(v:Value)(ec:(execOp a.eval o).run cx.P w=.ok (.value v) w')
 (kp:∀b,bI v=some b->w.heap.size<=b) (kq:0<sz) (cells:List Value) (dx:u9 w' cx.own e sz ap v ak.length cells) (hl:∀x∈ak,x.cells.length=sz) (h1:∀c∈ak.flatMap PV.cells,c.one=true)
 (pH:cE (Ok cx σ vals w) w (ak.flatMap PV.cells) cells) (hK:iW σ λn=>eo σ (.row e sz ap ak) λσ=>K (.own n) σ):Out cx env a w o K:=by
 have hK:=bR _ _ _ (cW σ _ hK);have fY:v.oneCell'=true:=QG;obtain⟨hs,hk⟩:=hr.s.push M6 (.row e sz ap ak) v fY kp (λhk=>⟨kq,cells,dx,hl,h1,hk.TO pH⟩);exact Out.run ec (hr.keep hs hk) (TN hr.s.len _ _) hK
def Ol{ok:Nat->Prop}{c:PV}{v:Value}(h:Ze c v=true):Rd ok w c v/\c.one=true:=by
 unfold Ze at h;split at h<;>simp_all[Rd,PV.one,Value.oneCell'];rename_i l s;obtain⟨h1,h2⟩:=h;obtain⟨⟨d⟩⟩:=s;simp at h1 h2;subst h1
 simp_all
def Hw{ok:Nat->Prop}(cs:List PV):∀vs:List Value,aaD cs vs=true->cE ok w cs vs∧∀c∈cs,c.one=true:=by
 induction cs with
 |nil=>intro vs h;cases vs with
  |nil=>simp[cE]
  |cons v vs=>cases h
 |cons c cs ih=>
  intro vs h;cases vs with
  |nil=>cases h
  |cons v vs=>
   have h':(match Ze c v with|true=>aaD cs vs|false=>false)=true:=h;cases hz:Ze c v with
   |false=>rw[hz]at h';cases h'
   |true=>
    rw[hz]at h';obtain⟨h1,h2⟩:=ih vs h';obtain⟨h3,h4⟩:=Ol (w:=w) (ok:=ok) hz;exact⟨by simp only[cE];exact⟨v,vs,rfl,h3,h1⟩,by simpa[h4]using h2⟩
def oN{P:Program}{t:TypeId}{z:PV}(h:QT P t=some z):∃i zv,P.info? t=some i/\i.zero=some zv/\(∀ok w,Rd ok w z zv)/\(∀ok w,cE ok w z.cells zv.cells.toList)∧∀c∈z.cells,c.one=true:=by
 unfold QT opt at h;cases hs:G9 P t with
 |none=>rw[hs]at h;cases h
 |some s=>
  rw[hs]at h;simp only at h;cases hc:ZQ P 8 t with
  |none=>rw[hc]at h;cases h
  |some cs=>
   rw[hc]at h;simp only at h;cases hi:P.info? t with
   |none=>rw[hi]at h;cases h
   |some i=>
    rw[hi]at h;simp only at h;cases hz:i.zero with
    |none=>rw[hz]at h;cases h
    |some zv=>
     rw[hz]at h;simp only at h;refine⟨i,zv,rfl,hz,?_⟩;have agg:∀vs,zv=.agg vs->jh (aaD cs vs.toList) (some (PV.agg cs))=some z->(∀ok w,Rd ok w z zv)/\(∀ok w,cE ok w z.cells zv.cells.toList)∧∀c∈z.cells,c.one=true:=by
      intro vs hv hn;cases hza:aaD cs vs.toList with
      |false=>rw[hza]at hn;cases hn
      |true=>
       rw[hza]at hn;cases hn;subst hv;exact⟨λok w=>by simp only[Rd];exact⟨(Hw (ok:=λ_=>True) (w:=default) cs _ hza).2,vs,rfl,(Hw cs _ hza).1⟩,λok w=>(Hw cs _ hza).1,(Hw (ok:=λ_=>True) (w:=default) cs _ hza).2⟩
     have one:∀c,cs=[c]->jh (Ze c zv) (some c)=some z->(∀ok w,Rd ok w z zv)/\(∀ok w,cE ok w z.cells zv.cells.toList)∧∀c∈z.cells,c.one=true:=by
      intro c hc hn;cases hza:Ze c zv with
      |false=>rw[hza]at hn;cases hn
      |true=>
       rw[hza]at hn;have zW:c=z:=Option.some.inj hn;subst zW;have h1:∀ok w,Rd ok w c zv:=λok w=>(Ol hza).1
       have h2:=(Ol (ok:=λ_=>True) (w:=default) hza).2;have O3:c.cells=[c]:=by cases c<;>first|rfl|cases h2
       have hvc:zv.cells= #[zv]:=by
        have:=(h1 (λ_=>True) default).Ac h2;cases zv<;>first|rfl|cases this
       refine⟨h1,λok w=>?_,?_⟩
       ·rw[O3,hvc];simp only[cE];exact⟨zv,[],rfl,h1 ok w,rfl⟩
       ·rw[O3];simpa using h2
     obtain⟨ag,n⟩:=s;cases ag with
     |true=>
      cases zv with
      |agg vs=>exact agg vs rfl h
      |_=>cases h
     |false=>
      cases cs with
      |nil=>cases h
      |cons c cs=>
       cases cs with
       |nil=>exact one _ rfl (by cases zv<;>exact h)
       |cons _ _=>cases zv<;>cases h
def VZ{K:AV->aw->Prop}(hr:Rel cx env σ vals a w)(e:TypeId)(z:PV)(ho:o.op=.alloc e)(hz:QT cx.P e=some z)
 (hK:H3 z.cells λcs=>iW σ λn=>eo σ (.box e cs) λσ=>K (.ref n 0 0) σ):Out cx env a w o K:=by
 obtain⟨i,zv,hi,R3,_,h2,h3⟩:=oN hz;refine Jl hr e (z.cells.map .pv) zv.cells ?_ ?_ ((eY _ _).2 (h2 _ _)) (lz _ _ hK)
 ·simp[execOp,ho,Instr.alloc,zeroValue,typeInfo,hi,R3,newVar,newRow]
 ·intro c hc;simp at hc;obtain⟨x,hx,rfl⟩:=hc;exact h3 x hx
def Uk{ok:Nat->Prop}{z:PV}:∀(vs:List Value) (n:Nat),ab_ z vs n=true->cE ok w (List.replicate n z) vs/\(0<n->z.one=true):=by
 intro vs
 induction vs with
 |nil=>intro n h;cases n with
  |zero=>simp[cE]
  |succ n=>cases h
 |cons v vs ih=>
  intro n h;cases n with
  |zero=>cases h
  |succ n=>
   replace h:(match Ze z v with|true=>ab_ z vs n|false=>false)=true:=h;cases hz:Ze z v with
   |false=>rw[hz]at h;cases h
   |true=>
    rw[hz]at h;have h3:=Ol (ok:=ok) (w:=w) hz;rw[zaO];exact⟨by simp only[cE];exact⟨v,vs,rfl,h3.1,(ih n h).1⟩,λ_=>h3.2⟩
def vr{α β:Type}{o:Option α}{f:α->Option β}{r:β}(h:opt o f=some r):∃x,o=some x/\f x=some r:=by
 unfold opt at h;cases o with
 |none=>cases h
 |some x=>exact⟨x,rfl,h⟩
def wA{P:Program}{t:TypeId}{q:PV×Nat}(h:td P t=some q):∃e i it vs,P.underlying t=some (.array q.2 e)/\P.info? e=some i/\i.size=1/\P.info? t=some it/\it.zero=some (.agg vs)/\ab_ q.1 vs.toList q.2=true/\8<q.2/\q.2<=1000000:=by
 unfold td at h;split at h
 ·rename_i n e hu;obtain⟨i,hi,h⟩:=vr h;obtain⟨z,hz,h⟩:=vr h;obtain⟨it,hit,h⟩:=vr h;obtain⟨zv,R3,h⟩:=vr h;unfold jh at h;split at h
  ·rename_i hb;simp only[zaT]at hb;split at h
   ·rename_i vs;split at h
    ·rename_i hr;cases h;exact⟨e,i,it,vs,hu,hi,zab hb.2,hit,R3,hr,za3 hb.1.1,za3 hb.1.2⟩
    ·cases h
   ·cases h
  ·cases h
 ·cases h
def QD(z:PV)(hz:z.one=true)(n:Nat):(List.replicate n z).flatMap PV.cells=List.replicate n z:=by
 have hc:z.cells=[z]:=by cases z<;>first|rfl|cases hz
 induction n with
 |zero=>rfl
 |succ n ih=>rw[zaO,zao,ih,hc];rfl
def Xd{K:AV->aw->Prop}(hr:Rel cx env σ vals a w)(e:TypeId)(q:PV×Nat)(ho:o.op=.alloc e)(hq:td cx.P e=some q)
 (hK:iW σ λm=>eo σ (.row e 1 false (List.replicate q.2 q.1)) λσ=>K (.ref m 0 0) σ):Out cx env a w o K:=by
 obtain⟨el,i,it,vs,hu,hi,kq,hit,hz,aey,h8,hmx⟩:=wA hq;have hK:=bR _ _ _ (cW σ _ hK);have iY:=λ(ok:Nat->Prop)=>(Uk (ok:=ok) (w:=w) vs.toList q.2 aey).1
 have fY:=(Uk (ok:=λ_=>True) (w:=w) vs.toList q.2 aey).2 aa;have hlen:vs.size=q.2:=by have:=(iY (λ_=>True)).length;rw[zaq,zac]at this;exact this
 have KT:q.1.cells.length=1:=by generalize q.1=z at fY;cases z<;>first|rfl|cases fY
 obtain⟨hs,hk⟩:=hr.s.push (te w (.cells vs e)) (.row e 1 false (List.replicate q.2 q.1)) (.slice (some ⟨w.heap.size,0,none⟩) q.2 q.2) rfl (λb h=>I6)
  (λhk=>⟨aa,vs.toList,⟨by rw[zaq,zac,hlen];omega,.inr ⟨w.heap.size,q.2,vs,(0,0),by rw[zaq],cx.dx _ hr.s.below.size,heap_alloc w _,ae,by simp only[maxLen];omega,aa,by rw[zaq,za1 aT],.inl rfl⟩⟩,
    λx hx=>by rw[za8]at hx;rw[hx.2];exact KT,λc hc=>by rw[QD _ fY,za8]at hc;rw[hc.2];exact fY,by rw[QD _ fY];exact hk.TO (iY _)⟩)
 refine Out.run (v:=.pointer (some ⟨w.heap.size,0,none⟩)) (w':=w.alloc (.cells vs e)) ?_ (hr.keep hs hk) (av:=.ref σ.length 0 0) ?_ hK
 ·simp[execOp,ho,Instr.alloc,zeroValue,typeInfo,hit,hz,newVar,newRow,Value.cells]
 ·simp only[RA];refine⟨ae,⟨_,rfl⟩,λe2 sz2 ap2 Hk h=>?_,λs2 h mN=>?_⟩
  ·rw[bE,if_pos rfl]at h;cases h;exact⟨.slice (some ⟨w.heap.size,0,none⟩) q.2 q.2,w.heap.size,by rw[bE,if_pos hr.s.len.symm],rfl,ae⟩
  ·rw[bE,if_pos rfl]at h;cases h;cases mN
def Al{v:Value}(h:v.oneCell'=true):v.cells= #[v]:=by cases v<;>first|rfl|cases h
def zG(hr:ba cx σ vals w){av:AV}{v:Value}(h:RA (Ok cx σ vals w) σ vals w av v){K:List AV->Prop}(hK:wb av K):∃cs,K cs/\d_ (Ok cx σ vals w) σ vals w cs v.cells.toList∧∀c∈cs,c.one=true:=by
 cases av with
 |pv x=>
  simp only[RA]at h;have one:x.one=true->K [.pv x]→∃cs,K cs/\d_ (Ok cx σ vals w) σ vals w cs v.cells.toList∧∀c∈cs,c.one=true:=λhx hk=>
   ⟨_,hk,by rw[Al (h.Ac hx)];simp only[d_];exact⟨v,[],rfl,by simp only[RA];exact h,rfl⟩,by simpa[AV.one]using hx⟩
  cases x with
  |agg cs=>
   simp only[Rd]at h;obtain⟨h0,vs,rfl,h⟩:=h;exact⟨_,lz _ _ hK,(eY _ _).2 h,λc hc=>by simp at hc;obtain⟨x,hx,rfl⟩:=hc;exact h0 x hx⟩
  |tup cs=>exact hK.elim
  |_=>exact one rfl hK
 |agg cs=>
  simp only[RA]at h;obtain⟨h0,vs,rfl,h⟩:=h;exact⟨cs,hK,h,h0⟩
 |own id=>
  have h':=h;simp only[RA]at h;have h1:=hr.one v (zad h);exact⟨_,hK,by rw[Al h1];simp only[d_];exact⟨v,[],rfl,h',rfl⟩,by simp[AV.one]⟩
 |ref id idx off=>
  have h':=h;simp only[RA]at h;obtain⟨_,⟨ad,rfl⟩,_⟩:=h;exact IE
 |sub id sz lo n=>
  have h':=h;simp only[RA]at h;obtain⟨_,ad,c,rfl,_⟩:=h;exact IE
 |clo f gB=>
  have h':=h;simp only[RA]at h;obtain⟨cv,rfl,_⟩:=h;exact IE
 |_=>exact hK.elim
def adi{K:AV->aw->Prop}(hr:Rel cx env σ vals a w)(e:TypeId)(x:Operand)(ho:o.op=.box e x)
 (hK:wb (a_ env x) λcs=>iW σ λn=>eo σ (.box e cs) λσ=>K (.ref n 0 0) σ):Out cx env a w o K:=by
 obtain⟨cs,hk,h1,h2⟩:=zG hr.s (hr.ev x) hK;exact Jl hr e cs (a.eval x).cells (by simp[execOp,ho,Instr.box,newVar,newRow]) h2 h1 hk
def PH{α:Type}(l:List α)(m:Nat)(c:α)(h:m<l.length):(l.set m c).take (m+1)=l.take m++[c]:=by
 apply zbb;intro j;rw[zaI,zaR];by_cases h1:j<m
 ·rw[if_pos aa,if_neg aa,zar aT,zaI,if_pos h1]
 ·by_cases h2:j=m
  ·subst h2;rw[if_pos aa,if_pos rfl,if_pos h,zam aT];simp[zau (Nat.le_of_lt h)]
  ·rw[if_neg aa,zaK aT]
def set_drop{α:Type}(l:List α)(m n:Nat)(c:α)(h:m<n):(l.set m c).drop n=l.drop n:=by
 apply zbb;intro j;rw[zaH,zaH,zaR,if_neg aa]
def BG(vs:List Value)(off:Nat):∀(k:Nat) (cs:Array Value),off+k+vs.length<=cs.size->
 ((vs.zipIdx k).foldl (λ(cs:Array Value) (p:Value×Nat)=>cs.setIfInBounds (off+p.2) p.1) cs).toList=cs.toList.take (off+k)++vs++cs.toList.drop (off+k+vs.length):=by
 induction vs with
 |nil=>intro k cs _;simp
 |cons c vs ih=>
  intro k cs h;simp only[zap]at h;rw[zaV,zbh,ih (k+1) _ aT];rw[zaQ,show off+(k+1)=off+k+1 from rfl,PH _ _ _ aT,set_drop _ _ _ _ aa];simp[zaJ,Nat.add_comm,zbc]
def WQ{ok:Nat->Prop}{z vs:List AV}{off:Nat}{K:List AV->Prop}(hK:wK vs z off K){cur:Array Value}(hz:d_ ok σ vals w z cur.toList){us:Array Value}(hv:d_ ok σ vals w vs us.toList):
 ∃z',K z'/\off+us.size<=cur.size/\d_ ok σ vals w z' ((us.zipIdx.foldl (λ(cs:Array Value) (p:Value×Nat)=>cs.setIfInBounds (off+p.2) p.1) cur)).toList∧∀P:AV->Prop,(∀c∈z,P c)->(∀c∈vs,P c)→∀c∈z',P c:=by
 obtain⟨pre,mid,post,rfl,h1,h2,hk⟩:=mH vs z off K hK;obtain⟨u1,u3,hc,g1,g3⟩:=(ei _ _ _).1 hz;obtain⟨u1,u2,rfl,g1,g2⟩:=(ei _ _ _).1 g1;have l1:=g1.length;have l2:=g2.length;have l3:=hv.length;have kq:cur.size=u1.length+u2.length+u3.length:=by rw[<-zac,hc];simp[zaJ]
 have Pe:us.toList.length=us.size:=zac;have hle:off+us.size<=cur.size:=by rw[<-Pe];omega
 refine⟨_,hk,hle,?_,λP hz hv c hc=>?_⟩
 ·have hs:=BG us.toList off 0 cur (by simpa using hle);have e:us.zipIdx.foldl (λ(cs:Array Value) (p:Value×Nat)=>cs.setIfInBounds (off+p.2) p.1) cur=(us.toList.zipIdx 0).foldl (λ(cs:Array Value) (p:Value×Nat)=>cs.setIfInBounds (off+p.2) p.1) cur:=by
   rw[<-za9];simp
  rw[e,hs,hc];refine(ei _ _ _).2 ⟨u1++us.toList,u3,?_,(ei _ _ _).2 ⟨u1,us.toList,rfl,g1,hv⟩,g3⟩;have e1:(u1++u2++u3).take (off+0)=u1:=by
   rw[zaW,zah];exact zaF aa
  have e2:(u1++u2++u3).drop (off+0+us.toList.length)=u3:=zaN (by simp only[zae];omega);rw[e1,e2]
 ·simp only[zax]at hc;rcases hc with(hc|hc)|hc
  ·exact hz c iN
  ·exact hv c hc
  ·exact hz c iN
def Vg(hr:Rel cx env σ vals a w)(place:Nat->Option (Nat×Nat)):∀(ps:List (Nat×Operand)) (qs:List (Nat×Nat×Operand)) (z:List AV) (cur:Array Value) (K:List AV->Prop),
 ps.map (λp=>(place p.1).map λq=>(q.1,q.2,p.2))=qs.map some->d_ (Ok cx σ vals w) σ vals w z cur.toList->(∀c∈z,c.one=true)->EP z (qs.map λp=>(p.1,p.2.1,a_ env p.2.2)) K->
 ∃z' arr,K z'/\Instr.fill place cur (ps.map λp=>(p.1,a.eval p.2))=some arr/\d_ (Ok cx σ vals w) σ vals w z' arr.toList∧∀c∈z',c.one=true:=by
 intro ps
 induction ps with
 |nil=>
  intro qs z cur K hq hz h1 hK;cases qs with
  |nil=>exact⟨z,cur,hK,rfl,hz,h1⟩
  |cons q qs=>simp at hq
 |cons p ps ih=>
  intro qs z cur K hq hz h1 hK;cases qs with
  |nil=>simp at hq
  |cons q qs=>
   simp only[zav,List.cons.injEq]at hq;obtain⟨hq1,hq2⟩:=hq;cases hp:place p.1 with
   |none=>rw[hp]at hq1;cases hq1
   |some pl=>
    rw[hp]at hq1;simp only[Option.map_some,Option.some.injEq]at hq1;subst hq1;obtain⟨off,size⟩:=pl;replace hK:wb (a_ env p.2) λvs=>vs.length=size/\wK vs z off λz=>EP z (qs.map λp=>(p.1,p.2.1,a_ env p.2.2)) K:=hK
    obtain⟨vs,⟨hl,hk⟩,hv,hv1⟩:=zG hr.s (hr.ev p.2) hK;obtain⟨z',mM,hle,hz',hP⟩:=WQ hk hz hv;obtain⟨z2,arr,g1,g2,g3,g4⟩:=ih qs z' _ K hq2 hz' (hP _ h1 hv1) mM;refine⟨z2,arr,g1,?_,g3,g4⟩;have tY:(a.eval p.2).cells.size=size:=by rw[<-zac,hv.length,hl]
    simp only[zav,Instr.fill,hp];rw[if_neg (by simp[tY];omega)];exact g2
def E7{α β:Type}(f:α->Option β)(l:List α):∀r,Co f l=some r->l.map f=r.map some/\l.mapM f=some r:=by
 induction l with
 |nil=>intro r h;cases h;exact⟨rfl,rfl⟩
 |cons x l ih=>
  intro r h;have h':opt (f x) (λb=>opt (Co f l) λt=>some (b::t))=some r:=h;unfold opt at h';cases hx:f x with
  |none=>rw[hx]at h';cases h'
  |some b=>
   rw[hx]at h';simp only at h';cases hl:Co f l with
   |none=>rw[hl]at h';cases h'
   |some t=>
    rw[hl]at h';cases h';obtain⟨h1,h2⟩:=ih t hl;exact⟨by simp[hx,h1],by simp[List.mapM_cons,hx,h2]⟩
def WS{K:AV->aw->Prop}(hr:Rel cx env σ vals a w)(t:TypeId)(parts:Array (Nat×Operand))(fs:Array Field)(cs:List PV)(pl:List (Nat×Nat))(qs:List (Nat×Nat×Operand))(ho:o.op=.build t parts)(hu:cx.P.underlying t=some (.struct fs))(hz:QT cx.P t=some (.agg cs))
 (HR:Co (λf:Field=>opt (cx.P.info? f.type) λi=>some (f.offset,i.size)) fs.toList=some pl) (hq:Co (λp:Nat×Operand=>opt (pl[p.1]?) λq=>some (q.1,q.2,p.2)) parts.toList=some qs)
 (hK:Ay env qs λps=>H3 cs λz=>EP z ps λcs=>WK cs λa=>K a σ):Out cx env a w o K:=by
 obtain⟨i,zv,hi,R3,h1,h2,h3⟩:=oN hz;have hK:=lz _ _ (DN env qs _ hK);have azW:∀{α β:Type} (o:Option α) (f:α->β),(opt o λx=>some (f x))=o.map f:=λo f=>by cases o<;>rfl
 have hq':parts.toList.map (λp=>((pl[·]?) p.1).map λq=>(q.1,q.2,p.2))=qs.map some:=by
  rw[<-(E7 _ _ _ hq).1];apply List.map_congr_left;intro p _;exact(azW _ _).symm
 obtain⟨z',arr,g1,g2,g3,g4⟩:=Vg hr (pl[·]?) parts.toList qs (cs.map .pv) zv.cells _ hq' ((eY _ _).2 (h2 _ _)) (λc hc=>PN) hK;have T9:cx.P.built t (parts.map λp=>(p.1,a.eval p.2)).toList=some arr:=by
  have hm:fs.toList.mapM (λf=>(cx.P.info? f.type).map λi=>(f.offset,i.size))=some pl:=by
   rw[<-(E7 _ _ _ HR).2];congr 1;funext f;exact(azW _ _).symm
  simp only[Program.built,hi,hu,R3,hm,zbg];rw[<-g2];congr 1;funext i;simp
 have ec:(execOp a.eval o).run cx.P w=.ok (.value (.agg arr)) w:=by
  have:=run_build (P:=cx.P) w t (parts.map λp=>(p.1,a.eval p.2)) arr T9;simp only[execOp,ho,Sem.run_bind,this,Result.andThen_ok,Sem.run_pure]
 rcases FM z' _ g1 with⟨l,rfl,hk⟩|hk
 ·refine Out.run ec hr (av:=.pv (.agg l)) ?_ hk;simp only[RA,Rd];exact⟨λc hc=>g4 (.pv c) r6,arr,rfl,(eY _ _).1 g3⟩
 ·refine Out.run ec hr (av:=.agg z') ?_ hk;simp only[RA];exact⟨g4,arr,rfl,g3⟩
end
end
end Go.Dv
namespace Go.Dv
open Go.RowKit
section
section
variable {cx:Cx} {env:Env} {σ:aw} {vals:List Value} {a:Act} {w w':World} {o:Oper}
def s_{cs:List PV}{K:PV->Prop}(h:jw cs K)(h1:∀c∈cs,c.one=true):
 ∃x,K x∧∀(ok:Nat->Prop) (arr:Array Value) (b:Nat) (e:TypeId) (fr:Nat×Nat),w.heap[b]?=some (.cells arr e fr)->cE ok w cs arr.toList->ok b->Rd ok w (.cptr x) (.pointer (some ⟨b,0,none⟩)):=by
 have zX:∀(arr:Array Value) (b:Nat) (e:TypeId) (fr:Nat×Nat),w.heap[b]?=some (.cells arr e fr)→∀(j:Nat) (u:Value),arr.toList[j]?=some u->w.cell? ⟨b,0+j,none⟩=some u:=by
  intro arr b e fr hb j u hj;have:arr[j]?=some u:=va;simp[World.cell?,hb,this]
 have agg:(∀c∈cs,c.one=true)→∀(ok:Nat->Prop) (arr:Array Value) (b:Nat) (e:TypeId) (fr:Nat×Nat),w.heap[b]?=some (.cells arr e fr)->cE ok w cs arr.toList->ok b->Rd ok w (.cptr (.agg cs)) (.pointer (some ⟨b,0,none⟩)):=by
  intro h1 ok arr b e fr hb h ep;simp only[Rd];exact⟨b,0,rfl,ep,(u6 b cs 0).2 ⟨h1,arr.toList,h,zX arr b e fr hb⟩⟩
 cases cs with
 |nil=>exact⟨_,h,agg h1⟩
 |cons c r=>
  cases r with
  |cons d r=>exact⟨_,h,agg h1⟩
  |nil=>
   have fY:c.one=true:=h1 c ae;have hx:c.one=true→∀(ok:Nat->Prop) (arr:Array Value) (b:Nat) (e:TypeId) (fr:Nat×Nat),w.heap[b]?=some (.cells arr e fr)->cE ok w [c] arr.toList->ok b->Rd ok w (.cptr c) (.pointer (some ⟨b,0,none⟩)):=by
    intro fY ok arr b e fr hb iY ep;simp only[cE]at iY;obtain⟨u,t,hu,hc,rfl⟩:=iY;have h0:=zX arr b e fr hb 0 u (by rw[hu];rfl);cases c with
    |agg cs=>cases fY
    |_=>simp only[Rd];exact⟨b,0,rfl,ep,fY,u,h0,by simpa only[Rd]using hc⟩
   cases c with
   |agg cs=>cases fY
   |_=>exact⟨_,h,hx fY⟩
def E9(cs:List PV){K:PV->Prop}(h:jw cs K):∃x,K x∧∀K':PV->Prop,K' x->jw cs K':=by
 cases cs with
 |nil=>exact⟨_,h,λ_ h=>h⟩
 |cons c r=>cases r with
  |nil=>cases c<;>first|exact mw|exact⟨_,h,λ_ h=>h⟩
  |cons d r=>exact⟨_,h,λ_ h=>h⟩
def FF:∀(t:List PV) (K:List PV->Prop) (E:Prop),K t->Fh (t.map .pv) K E
 |[],_,_,h=>h
 |_::t,K,E,h=>FF t _ E h
def VC(b:cu){K:PV->Prop}(h:La b K):∃x,K x∧∀K':PV->Prop,K' x->La b K':=by
 cases b with
 |box e cs=>
  rcases oY cs (λt=>jw t λx=>K (.cptr x)) False h with⟨tcs,rfl,kV⟩|kV
  ·obtain⟨x,Pb,s8⟩:=E9 tcs kV;exact⟨_,Pb,λK' h'=>FF tcs _ _ (s8 _ h')⟩
  ·exact kV.elim
 |_=>exact mw
def tz(σ:aw)(cs:List AV):(AV.rec_1 (motive_1:=λ_=>(PV->Prop)->Prop) (motive_2:=λ_=>(List PV->Prop)->Prop)
 (λ_=>False) (λx K=>K x)
 (λid K=>dm σ id λb=>match b with
   | .row _ sz _ ak=>K (.sl sz ak)
   | .fz x=>K x
   |_=>False)
 (λid idx off K=>match idx,off with
   |0,0=>dm σ id λb=>La b K
   |_,_=>False) (λid sz lo n K=>dm σ id λb=>KK sz lo n b λak=>K (.sl sz ak)) (λ_ ih K=>ih λl=>K (.agg l)) (λ_ ih K=>ih λl=>K (.tup l)) (λ_ _ _ _=>False) (λK=>K []) (λ_ _ h t K=>h λx=>t λl=>K (x::l)) cs:(List PV->Prop)->Prop)=bJ σ cs:=by
 induction cs with
 |nil=>rfl
 |cons c cs ih=>
  funext K;exact congrArg (λf:(List PV->Prop)->Prop=>fE σ c λx=>f λl=>K (x::l)) ih
def sx(σ:aw)(cs:List AV)(K:PV->Prop)(h:fE σ (.agg cs) K):bJ σ cs λl=>K (.agg l):=by
 rw[<-tz];exact h
def tC(σ:aw)(cs:List AV)(K:PV->Prop)(h:bJ σ cs λl=>K (.agg l)):fE σ (.agg cs) K:=by
 rw[<-tz]at h;exact h
def zu(σ:aw)(cs:List AV)(K:PV->Prop)(h:bJ σ cs λl=>K (.tup l)):fE σ (.tup cs) K:=by
 rw[<-tz]at h;exact h
def cr{α:Type}(l:List α):∀(i:Nat) (x:α) (K:α->Prop),l[i]?=some x->K x->dm l i K:=by
 induction l with
 |nil=>intro i x K h;simp at h
 |cons y l ih=>
  intro i x K h hk;cases i with
  |zero=>simp at h;subst h;exact hk
  |succ i=>exact ih i x K o8 hk
def wJ(σ:aw)(cs:List AV)(K:PV->Prop)(h:fE σ (.tup cs) K):bJ σ cs λl=>K (.tup l):=by
 rw[<-tz];exact h
def ub(cs:List AV):(AV.rec_1 (motive_1:=λ_=>aw->(aw->Prop)->Prop) (motive_2:=λ_=>aw->(aw->Prop)->Prop)
 (λ_ _=>False)
 (λ_ σ K=>K σ)
 (λid σ K=>dm σ id λb=>match b with
   | .row _ sz _ ak=>iX σ id (.fz (.sl sz ak)) K
   | .fz _=>K σ
   |_=>False)
 (λ_ _ _ _ _=>False) (λid _ _ _ σ K=>dm σ id λb=>match b with
  | .row _ sz _ ak=>iX σ id (.fz (.sl sz ak)) K
  | .fz _=>K σ
  |_=>False) (λ_ ih σ K=>ih σ K) (λ_ ih σ K=>ih σ K) (λ_ _ _ _ _=>False) (λσ K=>K σ) (λ_ _ h t σ K=>h σ λσ=>t σ K) cs:aw->(aw->Prop)->Prop)=dW cs:=by
 induction cs with
 |nil=>rfl
 |cons c cs ih=>
  funext σ K;exact congrArg (λf:aw->(aw->Prop)->Prop=>jy c σ λσ=>f σ K) ih
def Db(cs:List AV)(σ:aw)(K:aw->Prop)(h:jy (.agg cs) σ K):dW cs σ K:=by
 rw[<-ub];exact h
def DQ(cs:List AV)(σ:aw)(K:aw->Prop)(h:jy (.tup cs) σ K):dW cs σ K:=by
 rw[<-ub];exact h
def OkM(cx:Cx)(σ:aw)(vals:List Value)(w:World)(b:Nat):Prop:=Ok cx σ vals w b\/Av σ vals b
def ZE{x:PV}{v:Value}(h:Rd (Ok cx σ vals w) w x v):Rd (OkM cx σ vals w) w x v:=Rd.mono (λ_ h=>.inl h) (λ_ _ _=>rfl) x v h
def MC{ok:Nat->Prop}{x:PV}{v:Value}(h:Rd ok w x v)(hv:v.oneCell'=true):x.one=true:=by
 cases x with
 |agg cs=>simp only[Rd]at h;obtain⟨_,vs,rfl,_⟩:=h;cases hv
 |tup cs=>simp only[Rd]at h;obtain⟨vs,rfl,_⟩:=h;cases hv
 |_=>rfl
mutual
def Mr(hr:ba cx σ vals w):∀(av:AV) (v:Value) (K:PV->Prop),RA (Ok cx σ vals w) σ vals w av v->fE σ av K→∃x,K x/\Rd (OkM cx σ vals w) w x v/\(av.one=true->x.one=true)∧∀K2:PV->Prop,K2 x->fE σ av K2
 | .bad,_,_,_,h=>h.elim
 | .pv x,v,K,hv,h=>⟨x,h,ZE KS,λh=>h,λ_ h=>h⟩
 | .own id,v,K,hv,h=>by
  simp only[RA]at hv;obtain⟨b,hb,hk⟩:=az σ id _ h;obtain⟨v',AF,nQ⟩:=hr.val hb;obtain rfl:=getElem?_of hv AF;have h1:=hr.one v (zad hv);cases b with
  |row e sz ap ak=>
   refine⟨_,hk,?_,λ_=>rfl,λK2 h2=>cr σ id _ _ hb h2⟩;obtain⟨ad,c,g1,g2,g3,g4⟩:=ny nQ;simp only[Rd];refine⟨ad,c,g1,g2,g3,g4.imp_right ?_⟩;rintro⟨b,o',rfl,fN⟩;exact⟨b,o',rfl,.inr ⟨id,_,v,hb,hv,by rw[g1];rfl⟩,dM.mono (λ_ h=>.inl h) (λ_ _ _=>rfl) b sz o' (λ_=>rfl) ak fN⟩
  |fz x=>exact⟨x,hk,ZE nQ,λ_=>MC nQ h1,λK2 h2=>cr σ id _ _ hb h2⟩
  |_=>exact hk.elim
 | .ref id idx off,v,K,hv,h=>by
  cases idx with
  |succ _=>exact mw
  |zero=>cases off with
   |succ _=>exact mw
   |zero=>
    obtain⟨b,hb,hk⟩:=az σ id (λb=>La b K) h;simp only[RA]at hv;obtain⟨_,_,_,sM⟩:=hv;cases b with
    |box e cs=>
     rcases oY cs (λt=>jw t λx=>K (.cptr x)) False hk with⟨tcs,rfl,kV⟩|kV
     ·obtain⟨u,hu,nQ⟩:=hr.val hb;obtain⟨u',g,Pf,M9,hv⟩:=sM _ hb rfl;rw[hu]at Pf;cases Pf;obtain⟨b',aaM,e1,_,e3,e4,e5⟩:=nQ;have fY:∀c∈tcs,c.one=true:=λc hc=>e4 (.pv c) r6
      rw[eY]at e5;obtain⟨x,Pb,s8⟩:=E9 tcs kV;obtain⟨x',rfl,hx⟩:=s_ (w:=w) (s8 (λy=>y=x) rfl) fY;refine⟨_,Pb,?_,λ_=>rfl,λK2 h2=>cr σ id _ _ hb (FF tcs _ _ (s8 _ h2))⟩;rw[hv];rw[e1]at M9;cases M9;exact hx _ aaM _ _ _ e3 (cE.mono (λ_ h=>.inl h) (λ_ _ _=>rfl) _ _ e5) (.inr ⟨id,_,u,hb,hu,by rw[e1];rfl⟩)
     ·exact kV.elim
    |_=>exact fG
 | .sub id sz lo n,v,K,hv,h=>by
  obtain⟨b,hb,hk⟩:=az σ id _ h;obtain⟨ak,h1,h2,h3,ad,c,h4,h5,h6,h7,_⟩:=El hr hv hb hk;refine⟨_,h1,?_,λ_=>rfl,λK2 kV=>cr σ id _ _ hb (h3 _ kV)⟩;simp only[Rd];refine⟨ad,c,by rw[h2];exact h4,aa,h6,h7.imp_right ?_⟩;rintro⟨g,g1,g2,g3⟩;refine⟨g,_,g1,?_,dM.mono (λ_ h=>.inl h) (λ_ _ _=>rfl) g sz _ (λ_=>rfl) ak g2⟩;rcases g3 with⟨e,ap,eW,u,rfl,hu,hg⟩|⟨g3,_⟩
  ·exact .inr ⟨id,_,u,hb,hu,hg⟩
  ·exact .inl g3
 | .clo _ _,_,_,_,h=>(show False from h).elim
 | .agg cs,v,K,hv,h=>by
  simp only[RA]at hv;obtain⟨h0,vs,rfl,hv⟩:=hv;obtain⟨xs,hk,h1,h2,h3⟩:=nD hr cs _ _ hv (sx σ cs K h);exact⟨_,hk,by simp only[Rd];exact⟨h2 h0,vs,rfl,h1⟩,(λh=>cI),λK2 kV=>tC σ cs K2 (h3 _ kV)⟩
 | .tup cs,v,K,hv,h=>by
  simp only[RA]at hv;obtain⟨vs,rfl,hv⟩:=hv;obtain⟨xs,hk,h1,h2,h3⟩:=nD hr cs _ _ hv (wJ σ cs K h);exact⟨_,hk,by simp only[Rd];exact⟨vs,rfl,h1⟩,(λh=>cI),λK2 kV=>zu σ cs K2 (h3 _ kV)⟩
def nD(hr:ba cx σ vals w):∀(l:List AV) (vs:List Value) (K:List PV->Prop),d_ (Ok cx σ vals w) σ vals w l vs->bJ σ l K→∃xs,K xs/\cE (OkM cx σ vals w) w xs vs/\((∀c∈l,c.one=true)→∀c∈xs,c.one=true)∧∀K2:List PV->Prop,K2 xs->bJ σ l K2
 |[],vs,K,hv,h=>⟨[],h,by simpa only[d_,cE]using hv,(λ_ _ h=>cI),λ_ h=>h⟩
 |c::l,vs,K,hv,h=>by
  simp only[d_]at hv;obtain⟨v,r,rfl,h1,h2⟩:=hv;obtain⟨x,hk,h3,h4,h7⟩:=Mr hr c v _ h1 h;obtain⟨xs,hk,h5,h6,h8⟩:=nD hr l r _ h2 hk;refine⟨x::xs,hk,by simp only[cE];exact⟨v,r,rfl,h3,h5⟩,λhc y hy=>?_,λK2 kV=>h7 _ (h8 _ kV)⟩;rcases zay.1 hy with rfl|hy
  ·exact h4 (hc c ae)
  ·exact h6 (λd hd=>hc d og) y hy
end
def Fz(σ0 σ:aw):Prop:=∀i:Nat,σ[i]?=σ0[i]?∨∃e sz ap ak,σ0[i]?=some (.row e sz ap ak)/\σ[i]?=some (.fz (.sl sz ak))
mutual
def yc:∀(av:AV) (σ0 σ:aw) (v:Value) (K:PV->Prop) (K':aw->Prop),Fz σ0 σ->ba cx σ vals w->RA (Ok cx σ vals w) σ vals w av v->fE σ0 av K->jy av σ K'->
 ∃x σ',K x/\K' σ'/\Fz σ0 σ'/\ba cx σ' vals w/\cm cx σ vals w σ' vals w/\Rd (Ok cx σ' vals w) w x v/\(av.one=true->x.one=true)
 | .bad,_,_,_,_,_,_,_,_,h,_=>h.elim
 | .pv x,σ0,σ,v,K,K',hf,hr,hv,h,h'=>⟨x,σ,h,h',hf,hr,.refl,KS,λh=>h⟩
 | .own id,σ0,σ,v,K,K',hf,hr,hv,h,h'=>by
  simp only[RA]at hv;obtain⟨b0,Xl,hk⟩:=az σ0 id _ h;obtain⟨b,hb,mM⟩:=az σ id _ h';obtain⟨v',AF,nQ⟩:=hr.val hb;obtain rfl:=getElem?_of hv AF;have h1:=hr.one v (zad hv);have fzc:∀x,b=.fz x->K x→∃x σ',K x/\K' σ'/\Fz σ0 σ'/\ba cx σ' vals w/\cm cx σ vals w σ' vals w/\Rd (Ok cx σ' vals w) w x v/\((AV.own id).one=true->x.one=true):=by
   intro x hx hk;subst hx;exact⟨x,σ,hk,mM,hf,hr,.refl,nQ,λ_=>MC nQ h1⟩
  rcases hf id with he|⟨e,sz,ap,ak,h0,h2⟩
  ·rw[he,Xl]at hb;cases hb;cases b0 with
   |row e sz ap ak=>
    have hbσ:σ[id]?=some (.row e sz ap ak):=he.trans Xl;obtain⟨hs,vV⟩:=hr.freeze hbσ;obtain⟨aS,mM⟩:=bu _ _ _ _ mM;refine⟨_,_,hk,mM,λi=>?_,hs,vV,hs.iU id (.fz (.sl sz ak)) v (by rw[cY aS];simp) hv,λ_=>rfl⟩;rw[cY aS];split
    ·rename_i hi;subst hi;exact .inr ⟨e,sz,ap,ak,Xl,rfl⟩
    ·exact hf i
   |fz x=>exact fzc x rfl hk
   |_=>exact hk.elim
  ·rw[h0]at Xl;cases Xl;rw[h2]at hb;cases hb;exact fzc _ rfl hk
 | .ref _ _ _,_,_,_,_,_,_,_,_,_,h=>(show False from h).elim
 | .sub id sz lo n,σ0,σ,v,K,K',hf,hr,hv,h,h'=>by
  obtain⟨b0,Xl,hk⟩:=az σ0 id _ h;obtain⟨b,hb,mM⟩:=az σ id _ h';have fzc:∀(ak:List PV) (σ1:aw),ba cx σ1 vals w->σ1[id]?=some (.fz (.sl sz ak))->lo+n<=ak.length->Rd (Ok cx σ1 vals w) w (.sl sz (cut lo (lo+n) ak)) v:=by
   intro ak σ1 zY vT hle;have hv1:RA (Ok cx σ1 vals w) σ1 vals w (.sub id sz lo n) v:=by
    simp only[RA]at hv ⊢;exact⟨(zaa.1 vT).1,hv.2⟩
   have hw:KK sz lo n (.fz (.sl sz ak)) (λx=>x=cut lo (lo+n) ak):=by
    show(match Nat.beq sz sz with|true=>lo+n<=ak.length/\_|false=>False);rw[show Nat.beq sz sz=true from Nat.beq_refl sz];exact⟨hle,rfl⟩
   obtain⟨Hk,rfl,h2,_,ad,c,h4,h5,h6,h7,_⟩:=El zY hv1 vT hw;simp only[Rd];refine⟨ad,c,by rw[h2];exact h4,aa,h6,h7.imp_right ?_⟩;rintro⟨g,g1,g2,g3⟩;refine⟨g,_,g1,?_,g2⟩;rcases g3 with⟨e,ap,eW,u,hd,_⟩|⟨g3,_⟩
   ·cases hd
   ·exact g3
  rcases hf id with he|⟨e,CG,ap,ak,h0,h2⟩
  ·rw[he,Xl]at hb;cases hb;have hbσ:=he.trans Xl;obtain⟨ak,h1,_,_,_,_,_,_,_,_,e,ap,eW,VF⟩:=El hr hv hbσ hk;rcases VF with⟨rfl,rfl,hle⟩|⟨rfl,rfl,hle⟩
   ·obtain⟨hs,vV⟩:=hr.freeze hbσ;obtain⟨aS,mM⟩:=bu _ _ _ _ mM;refine⟨_,_,h1,mM,λi=>?_,hs,vV,fzc eW _ hs (by rw[cY aS];simp) hle,λ_=>rfl⟩;rw[cY aS];split
    ·rename_i hi;subst hi;exact .inr ⟨e,sz,ap,eW,Xl,rfl⟩
    ·exact hf i
   ·exact⟨_,σ,h1,mM,hf,hr,.refl,fzc eW σ hr hbσ hle,λ_=>rfl⟩
  ·rw[h0]at Xl;cases Xl;rw[h2]at hb;cases hb;replace hk:(match Nat.beq CG sz with|true=>lo+n<=ak.length/\K (.sl sz (cut lo (lo+n) ak))|false=>False):=hk;cases hs:Nat.beq CG sz with
   |false=>rw[hs]at hk;exact hk.elim
   |true=>
    rw[hs]at hk;have:=zab hs;subst this;exact⟨_,σ,hk.2,mM,hf,hr,.refl,fzc ak σ hr h2 hk.1,λ_=>rfl⟩
 | .clo _ _,_,_,_,_,_,_,_,_,h,_=>(show False from h).elim
 | .agg cs,σ0,σ,v,K,K',hf,hr,hv,h,h'=>by
  simp only[RA]at hv;obtain⟨h0,vs,rfl,hv⟩:=hv;obtain⟨xs,σ',g1,g2,g3,g4,g5,g6,g7⟩:=jN cs σ0 σ _ _ K' hf hr hv (sx σ0 cs K h) (Db cs σ K' h');exact⟨_,σ',g1,g2,g3,g4,g5,by simp only[Rd];exact⟨g7 h0,vs,rfl,g6⟩,λh=>cI⟩
 | .tup cs,σ0,σ,v,K,K',hf,hr,hv,h,h'=>by
  simp only[RA]at hv;obtain⟨vs,rfl,hv⟩:=hv;obtain⟨xs,σ',g1,g2,g3,g4,g5,g6,g7⟩:=jN cs σ0 σ _ _ K' hf hr hv (wJ σ0 cs K h) (DQ cs σ K' h');exact⟨_,σ',g1,g2,g3,g4,g5,by simp only[Rd];exact⟨vs,rfl,g6⟩,λh=>cI⟩
def jN:∀(l:List AV) (σ0 σ:aw) (vs:List Value) (K:List PV->Prop) (K':aw->Prop),Fz σ0 σ->ba cx σ vals w->d_ (Ok cx σ vals w) σ vals w l vs->bJ σ0 l K->dW l σ K'->
 ∃xs σ',K xs/\K' σ'/\Fz σ0 σ'/\ba cx σ' vals w/\cm cx σ vals w σ' vals w/\cE (Ok cx σ' vals w) w xs vs/\((∀c∈l,c.one=true)→∀c∈xs,c.one=true)
 |[],σ0,σ,vs,K,K',hf,hr,hv,h,h'=>⟨[],σ,h,h',hf,hr,.refl,by simpa only[d_,cE]using hv,λ_ _ h=>cI⟩
 |c::l,σ0,σ,vs,K,K',hf,hr,hv,h,h'=>by
  simp only[d_]at hv;obtain⟨v,r,rfl,h1,h2⟩:=hv;obtain⟨x,σ1,hk,mM,g3,g4,g5,g6,g7⟩:=yc c σ0 σ v _ _ hf hr h1 h h';obtain⟨xs,σ2,hk,mM,f3,f4,f5,f6,f7⟩:=jN l σ0 σ1 r _ K' g3 g4 (g5.T4 _ _ h2) hk mM;refine⟨x::xs,σ2,hk,mM,f3,f4,g5.trans f5,by simp only[cE];exact⟨v,r,rfl,f5.rd g6,f6⟩,λhc y hy=>?_⟩;rcases zay.1 hy with rfl|hy
  ·exact g7 (hc c ae)
  ·exact f7 (λd hd=>hc d og) y hy
end
def Fz.refl(σ:aw):Fz σ σ:=λ_=>.inl rfl
end
end
end Go.Dv
namespace Go.Dv
open Go.RowKit Go.Great Go.Lib
section
section
variable {cx:Cx} {env:Env} {σ:aw} {vals:List Value} {a:Act} {w w':World} {o:Oper}
def Jd{ok:Nat->Prop}{x:PV}{v:Value}(h:Rd ok w x v)(hx:∀l,x≠.tup l):cE ok w x.cells v.cells.toList∧∀c∈x.cells,c.one=true:=by
 have one:x.one=true->x.cells=[x]->cE ok w x.cells v.cells.toList∧∀c∈x.cells,c.one=true:=λh1 hc=>by
  rw[hc,Al (h.Ac h1)];exact⟨by simp only[cE];grind,aV⟩
 cases x with
 |agg cs=>obtain⟨h0,vs,rfl,h1⟩:=h;trivial
 |tup l=>grind
 |_=>exact one rfl rfl
def M0(sz:Nat)(xs:List PV)(h:SP sz xs=true):∀x∈xs,x.cells.length=sz∧∀l,x≠.tup l:=by
 induction xs with
 |nil=>simp
 |cons x xs ih=>
  have main:(∀l,x≠.tup l)->(match Nat.beq x.cells.length sz with|true=>SP sz xs|false=>false)=true→∀y∈x::xs,y.cells.length=sz∧∀l,y≠.tup l:=by
   intro hx h y hy;cases hb:Nat.beq x.cells.length sz with
   |false=>grind
   |true=>
    rcases zay.1 hy with rfl|hy
    ·simp_all
    grind
  cases x with
  |tup l=>cases h
  |_=>exact main ae h
def Zu{ok:Nat->Prop}(xs:List PV):∀(vs:List Value),cE ok w xs vs->(∀x∈xs,∀l,x≠.tup l)->cE ok w (xs.flatMap PV.cells) (vs.flatMap (·.cells.toList))∧∀c∈xs.flatMap PV.cells,c.one=true:=by
 induction xs with
 |nil=>intro vs h _;subst h;trivial
 |cons x xs ih=>
  intro vs h hx;obtain⟨v,r,rfl,h1,h2⟩:=h;obtain⟨g1,g2⟩:=ih r h2 (λy hy=>hx y rQ);obtain⟨f1,f2⟩:=Jd h1 (hx x ae);exact⟨(c8 _ _ _).2 ⟨_,_,rfl,f1,g1⟩,λc hc=>aV⟩
def aaa(sz:Nat):∀(vs:List Value) (k:Nat) (cur:Array Value),(∀v∈vs,v.cells.size=sz)->(k+vs.length)*sz<=cur.size->
 ∃arr,Instr.fill (λi=>some (i*sz,sz)) cur ((vs.zipIdx k).map λp=>(p.2,p.1))=some arr/\arr.toList=cur.toList.take (k*sz)++vs.flatMap (·.cells.toList)++cur.toList.drop ((k+vs.length)*sz):=by
 intro vs
 induction vs with
 |nil=>intro k cur _ _;exact⟨cur,rfl,ae⟩
 |cons v vs ih=>
  intro k cur h1 h2;simp only[zap]at h2;have hv:v.cells.size=sz:=h1 v ae;have hm:(k+(vs.length+1))*sz=k*sz+sz+vs.length*sz:=by simp only[zas,zbd];omega
  have Xm:=BG v.cells.toList (k*sz) 0 cur (by rw[zac];omega);rw[zaW,zac,hv]at Xm;obtain⟨arr,g1,g2⟩:=ih (k+1) ((v.cells.toList.zipIdx 0).foldl (λ(cs:Array Value) (p:Value×Nat)=>cs.setIfInBounds (k*sz+p.2) p.1) cur) (λu hu=>h1 u (by simp[hu])) (by
   rw[<-zac,Xm];simp only[zae,zal,zbf,zac,hv,zas,zbd];omega)
  refine⟨arr,?_,?_⟩
  ·simp only[zaV,zav,Instr.fill];rw[if_neg (by simp[hv];omega)];rw[<-g1];congr 1;rw[<-za9];simp
  ·rw[g2,Xm];have e1:(k+1)*sz=k*sz+sz:=by rw[zas,zbd]
   have l1:(cur.toList.take (k*sz)++v.cells.toList).length=(k+1)*sz:=by
    rw[zae,zal,zac,zac,hv,zau aa,e1]
   rw[zaF l1];have e2:(k+1+vs.length)*sz=(k+1)*sz+vs.length*sz:=by rw[zas]
   rw[e2,<-zaP,zaN l1,zaP];simp only[zao,zah,zap];congr 4;exact hm.symm
def DM(l:List (Nat×Operand)):∀(k:Nat) (ps:List Operand),D2 l k=some ps->l=(ps.zipIdx k).map λp=>(p.2,p.1):=by
 induction l with
 |nil=>intro k ps h;cases h;rfl
 |cons p l ih=>
  intro k ps h;have h':(match Nat.beq p.1 k with|true=>opt (D2 l (k+1)) λr=>some (p.2::r)|false=>none)=some ps:=h;cases hb:Nat.beq p.1 k with
  |false=>grind
  |true=>
   rw[hb]at h';simp only[opt]at h';cases hi:D2 l (k+1)with
   |none=>grind
   |some r=>
    rw[hi]at h';cases h';have:=zab hb;subst this;rw[zaV,zav,<-ih _ _ hi]
def SX{K:AV->aw->Prop}(hr:Rel cx env σ vals a w)(t e:TypeId)(ie:TypeInfo)(n:Nat)(parts:Array (Nat×Operand))(ps:List Operand)(z:PV)(ho:o.op=.buildSlice t n parts)
 (hu:cx.P.underlying t=some (.slice e)) (pJ:cx.P.info? e=some ie) (Pg:D2 parts.toList 0=some ps) (hn:ps.length=n) (kq:0<ie.size) (hsm:n*ie.size<=16777216) (hz:QT cx.P e=some z)
 (hK:bJ σ (ps.map (a_ env)) λxs=>SP ie.size xs=true/\dW (ps.map (a_ env)) σ λσ=>iW σ λn=>eo σ (.row e ie.size true xs) λσ=>K (.own n) σ):Out cx env a w o K:=by
 obtain⟨i,zv,hi,R3,_,_,_⟩:=oN hz;rw[pJ]at hi;cases hi;obtain⟨xs,⟨hlen,hk⟩,_,_,LY⟩:=nD hr.s _ _ _ (hr.evL ps) hK;obtain⟨xs',σ',rfl,hk,_,hs,vV,iY,_⟩:=jN (ps.map (a_ env)) σ σ _ (λys=>ys=xs) _ (Fz.refl σ) hr.s (hr.evL ps) (LY _ rfl) hk;have hlb:=M0 _ _ hlen;obtain⟨hfl,fY⟩:=Zu _ _ iY (λx hx=>(hlb x hx).2);have hl:xs'.length=n:=by have:=iY.length;simp at this;omega
 have aCe:∀v∈ps.map a.eval,v.cells.size=ie.size:=by
  intro v hv;obtain⟨j,hj⟩:=zaB.1 hv;have CH:j<xs'.length:=by have:=(zaa.1 hj).1;simp at this;omega
  have hx:=zak CH;have h1:=((kW _ _).1 iY).2 j _ v hx hj;have Hl:=zad hx;have:=(Jd h1 (hlb _ Hl).2).1.length;rw[zac,(hlb _ Hl).1]at this;exact this
 obtain⟨arr,g1,g2⟩:=aaa ie.size (ps.map a.eval) 0 ((Array.range (n*ie.size)).map (zv.cells[· %zv.cells.size]!)) aCe (by simp[hn]);have T_:arr.toList=(ps.map a.eval).flatMap (·.cells.toList):=by
  rw[g2];simp[hn]
 have ec:(execOp a.eval o).run cx.P w=.ok (.value (.slice (some ⟨w.heap.size,0,none⟩) n n)) (w.alloc (.cells arr e)):=by
  by_cases h0:n=0
  ·subst h0;have aCf:ps=[]:=zaf hn;subst aCf;have hp:parts= #[]:=by
    have:=DM _ _ _ Pg;simp at this;exact this
   have ha:arr= #[]:=by apply Array.ext';rw[T_];rfl
   subst hp ha;simp[execOp,ho,Instr.buildSlice,run_underlying hu,sizeOf,typeInfo,pJ,Instr.fill,newRow];congr 2;apply Array.ext';simp
  ·have azY:¬n*ie.size=0:=by
    intro h;rcases Nat.mul_eq_zero.1 h with h|h<;>omega
   have:=run_buildSlice (P:=cx.P) w t e n (parts.map λp=>(p.1,a.eval p.2)) arr ie zv hu pJ R3 aa azY (by
    rw[<-g1];congr 1;rw[zbg,DM _ _ _ Pg,List.zipIdx_map];simp[List.map_map,Function.comp_def])
   simp only[execOp,ho,Sem.run_bind,this,Result.andThen_ok,Sem.run_pure]
 refine wg (hr.keep hs vV) e ie.size true xs' _ (te w _) _ ec (λb h=>I6) kq _ ⟨?_,.inr ⟨w.heap.size,n,arr,(0,0),by rw[hl],cx.dx _ hr.s.below.size,heap_alloc w _,aa,?_,?_,?_,.inl rfl⟩⟩
  (λx hx=>(hlb x hx).1) fY hfl hk
 ·rw[hfl.length,gb _ _ (λx hx=>(hlb x hx).1)]
 ·simp only[maxLen];have:=Nat.le_mul_of_pos_right n kq;omega
 ·rw[<-zac,T_,hfl.length,gb _ _ (λx hx=>(hlb x hx).1),hl]
 ·rw[T_];exact za1 (by rw[hfl.length,gb _ _ (λx hx=>(hlb x hx).1)];exact zaj _)
def JU(cs:List PV)(n:Nat):∀j,j<n*cs.length->((List.replicate n cs).flatten)[j]?=cs[j%cs.length]?:=by
 induction n with
 |zero=>omega
 |succ n ih=>
  intro j h;rw[zaO,List.flatten_cons];by_cases hj:j<cs.length
  ·rw[zar hj,Nat.mod_eq_of_lt hj]
  ·rw[zam aa,ih _ aV,<-Nat.mod_eq_sub_mod aa]
def YC{K:AV->aw->Prop}(hr:Rel cx env σ vals a w)(t e:TypeId)(ie:TypeInfo)(z:PV)(l c:Operand)(ho:o.op=.makeSlice t l c)(hu:cx.P.underlying t=some (.slice e))(pJ:cx.P.info? e=some ie)(hz:QT cx.P e=some z)(kq:0<ie.size)
 (hzl:z.cells.length=ie.size) (hK:Dv.asInt (a_ env l) λ_ l=>Dv.asInt (a_ env c) λ_ c=>
  (0<=l/\l<=c/\(ie.bytes:Int)*c<=281474976710656/\c<=9223372036854775807)/\iW σ λn=>eo σ (.row e ie.size true (List.replicate l.toNat z)) λσ=>K (.own n) σ):Out cx env a w o K:=by
 obtain⟨i,zv,hi,R3,h1,h2,h3⟩:=oN hz;rw[pJ]at hi;cases hi;have hx:=hr.ev l;have hy:=hr.ev c
 revert hK hx hy
 cases a_ env l with
 |pv pl=>
  cases pl with
  |int kl nl=>
   cases a_ env c with
   |pv pc=>
    cases pc with
    |int kc nc=>
     rintro⟨⟨g0,g1,g2,g3⟩,hk⟩ hx hy;simp only[RA,Rd]at hx hy;have ec:(execOp a.eval o).run cx.P w=.ok (.value (.slice (some ⟨w.heap.size,0,none⟩) nl.toNat nc.toNat)) (w.alloc (.cells (madeCells zv.cells (nc.toNat*ie.size)) e)):=by
      have:=run_make (P:=cx.P) w t e ie zv hu pJ R3 kl kc nl nc g0 g1 g2 g3;simp[execOp,ho,hx,hy,this]
     have Ph:zv.cells.size=ie.size:=Eu;have R4:(List.replicate nl.toNat z).flatMap PV.cells=(List.replicate nl.toNat z.cells).flatten:=by
      rw[List.flatMap_def,List.map_replicate]
     have hfl:((List.replicate nl.toNat z).flatMap PV.cells).length=nl.toNat*ie.size:=by
      simp_all
     have hle:nl.toNat*ie.size<=nc.toNat*ie.size:=zaC _ aa;have Hl:∀c∈(List.replicate nl.toNat z).flatMap PV.cells,c.one=true:=by
      grind
     refine wg hr e ie.size true _ _ (te w _) _ ec (λb h=>by cases h;simp) kq ((madeCells zv.cells (nc.toNat*ie.size)).toList.take (nl.toNat*ie.size))
      ⟨?_,.inr ⟨w.heap.size,nc.toNat,_,(0,0),ae,cx.dx _ hr.s.below.size,heap_alloc w _,?_,?_,?_,?_,.inl rfl⟩⟩ ?_ Hl ((kW _ _).2 ⟨?_,?_⟩) hk
     ·rw[zal,zac,size_madeCells,zau hle,zaq]
     ·grind
     ·simp only[maxLen];omega
     ·rw[size_madeCells]
     ·simp
     ·grind
     ·rw[hfl,zal,zac,size_madeCells,zau hle]
     ·intro j c v hc hv;have hj:j<nl.toNat*ie.size:=aV;rw[R4,JU _ _ j aV,hzl]at hc;rw[zaI,if_pos hj]at hv;have aCg:j%ie.size<zv.cells.size:=aV;have AF:v=zv.cells[j%ie.size]:=by
       simp[madeCells,Ph]at hv
       grind
      exact((kW _ _).1 (h2 (Ok cx σ vals w) w)).2 (j%ie.size) c v hc aV
    |_=>intro hK;trivial
   |_=>intro hK;trivial
  |_=>intro hK;trivial
 |_=>intro hK;trivial
def aef{K:AV->aw->Prop}(hr:Rel cx env σ vals a w)(s d e:TypeId)(x:Operand)(ho:o.op=.convert s d x)(hs:cx.P.underlying s=some .string)(hd:cx.P.underlying d=some (.slice e))(he:cx.P.underlying e=some (.int .u8))
 (hK:match a_ env x with
   | .pv x=>match x with
    | .str l=>l.length<=9223372036854775807/\iW σ λn=>eo σ (.row e 1 false (l.map aR)) λσ=>K (.own n) σ
    |_=>False
   |_=>False):Out cx env a w o K:=by
 have hx:=hr.ev x
 revert hK hx
 cases a_ env x with
 |pv p=>
  cases p with
  |str l=>
   rintro⟨hlm,hK⟩ hx;simp only[RA,Rd]at hx;have kq:(⟨_⟩:ByteArray).size=l.length:=rfl;have ec:=run_bytes_of_string (P:=cx.P) w s d e ⟨l.toArray⟩ hs hd he;rw[kq]at ec;have R5:=grownCap_ge w l.length 0 e;have hbr:(bytesRow ⟨l.toArray⟩ (grownCap w l.length 0 e)).toList.take l.length=l.map λb=>Value.int .u8 b.toNat:=by
    simp[bytesRow]
   have tY:(bytesRow ⟨l.toArray⟩ (grownCap w l.length 0 e)).size=grownCap w l.length 0 e:=by
    simp[bytesRow,kq];omega
   have hml:=grownCap_le_maxLen w l.length 0 e bL;refine wg hr e 1 false (l.map aR) (w.drew.alloc (.cells (bytesRow ⟨_⟩ (grownCap w l.length 0 e)) e ((bytesRow ⟨l.toArray⟩ (grownCap w l.length 0 e)).size,(bytesRow ⟨l.toArray⟩ (grownCap w l.length 0 e)).size+1))) (((Below.refl _ w).drew).alloc ae _) (.slice (some ⟨w.heap.size,0,none⟩) l.length (grownCap w l.length 0 e)) (by simp[execOp,ho,hx,ec]) (λb h=>by cases h;simp) aa
    (l.map λb=>Value.int .u8 b.toNat) ⟨ae,.inr ⟨_,_,_,_,ae,cx.dx _ hr.s.below.size,heap_alloc w.drew _,aV,hml,aa,?_,.inr ⟨rfl,zaj _⟩⟩⟩ ?_ ?_ ?_ hK
   ·grind
   ·intro x hx;rw[zaX]at hx;obtain⟨b,_,rfl⟩:=hx;rfl
   ·rw[iC];intro c hc;rw[zaX]at hc;obtain⟨b,_,rfl⟩:=hc;rfl
   ·rw[iC,z_]
  |_=>simp
 |_=>simp
def Ej{B:Nat->Prop}{e:TypeId}{sz:Nat}{v:Value}{n:Nat}{xs:List Value}(h:u9 w B e sz true v n xs):w.ownsRow 0 e sz v n xs∧∀b,bI v=some b->B b:=by
 refine⟨⟨h.1,?_⟩,?_⟩
 ·rcases h.2 with h2|⟨g,cap,cur,fr,h1,h2,h3,h4,h5,h6,h7,h8⟩
  ·grind
  grind
 ·intro b hb;rcases h.2 with⟨rfl,_⟩|⟨g,cap,cur,fr,rfl,h2,_⟩
  ·cases hb
  ·cases hb;exact h2
def GB(z:Array Value)(n:Nat):(Builtin.zeroCells z n).size=n*z.size:=by simp[Builtin.zeroCells]
def vP(w:World)(B:Nat->Prop)(e:TypeId)(sz:Nat)(v:Value)(n m:Nat)(cells:List Value)(v':Value)(w':World):Prop:=
 u9 w' B e sz true v' (n+m) cells/\w.grownBy w' v.ownBlock∧∀b,bI v'=some b->bI v=some b\/w.heap.size<=b
def wy{P:Program}{e:TypeId}{i:TypeInfo}{zv:Value}(B:Nat->Prop)(v:Value)(n m:Nat)(xs news:List Value)(hi:i.zero=some zv)(Ph:zv.cells.size=i.size)(hx:xs.length=n*i.size)(hl:news.length=m*i.size)(old:Nat)(hold:old<n+m)(h63:n+m<=maxLen)(hB:B w.heap.size):
 vP w B e i.size v n m (xs++news) (.slice (some ⟨w.heap.size,0,none⟩) (n+m) (grownCap w (n+m) old e))
  (w.drew.alloc (.cells (xs.toArray++news.toArray++Builtin.zeroCells zv.cells (grownCap w (n+m) old e-(n+m))) e)):=by
 have R5:=grownCap_ge w (n+m) old e;have hlen:(xs++news).length=(n+m)*i.size:=aV;refine⟨⟨hlen,.inr ⟨_,_,_,_,rfl,hB,heap_alloc w.drew _,R5,grownCap_le_maxLen w (n+m) old e h63,?_,?_,.inl rfl⟩⟩,⟨rfl,rfl,rfl,ae,λk hk _=>Below.heap_alloc w.drew _ k hk⟩,λb h=>by cases h;simp⟩
 ·simp only[Array.size_append,List.size_toArray,GB,Ph,hx,hl,<-zas]
  grind
 grind
def Gq{e:TypeId}{sz:Nat}(B:Nat->Prop)(g n m cap:Nat)(cur:Array Value)(news:List Value)(hl:news.length=m*sz)(hg:w.heap[g]?=some (.cells cur e (0,0)))(hB:B g)(EH:n+m<=cap)(hcm:cap<=maxLen)(pH:cur.size=cap*sz):
 vP w B e sz (.slice (some ⟨g,0,none⟩) n cap) n m (cur.toList.take (n*sz)++news) (.slice (some ⟨g,0,none⟩) (n+m) cap) (w.setRow g (cur.toList.take (n*sz)++news++cur.toList.drop (n*sz+news.length)).toArray):=by
 have hle:(n+m)*sz<=cap*sz:=zaC _ EH;have hlen:(cur.toList.take (n*sz)++news).length=(n+m)*sz:=aV;refine⟨⟨hlen,.inr ⟨g,_,_,_,rfl,hB,setRow_heap w g cur _ e _ hg,EH,hcm,?_,?_,.inl rfl⟩⟩,⟨rfl,rfl,rfl,ae,λk _ hk=>setRow_other w g k _ (λh=>hk (by simp[Value.ownBlock,h]))⟩,λb h=>.inl h⟩
 ·grind
 grind
def WD{P:Program}(B:Nat->Prop)(t ty e:TypeId)(i:TypeInfo)(zv:Value)(ht:P.underlying t=some (.slice e))(hi:P.info? e=some i)(hz:i.zero=some zv)(Ph:zv.cells.size=i.size)
 (v:Value) (n:Nat) (xs:List Value) (dx:u9 w B e i.size true v n xs) (ad:Option Addr) (m c:Nat) (hmc:m<=c) (news:List Value) (hl:news.length=m*i.size) (xG:m=0∨∃a,ad=some a∧∀(j:Nat) (u:Value),news[j]?=some u->w.cell? (a.add j)=some u) (h1:∀u∈news,u.oneCell'=true)
 (h63:n+m<=maxLen) (Ua:(n+m)*i.bytes<=140737488355328) (hB:B w.heap.size):
 ∃v' w',(Builtin.append_ #[t,t] ty #[v,.slice ad m c]).run P w=.ok v' w'/\vP w B e i.size v n m (xs++news) v' w':=by
 have aCh:n+m<=9223372036854775807:=bL;rcases xG with rfl|⟨ad,rfl,xG⟩
 ·have:news=[]:=zaf aa;subst this;refine⟨v,w,?_,aV,⟨rfl,rfl,rfl,zaj _,λ_ _ _=>rfl⟩,λb h=>.inl h⟩;rcases dx.2 with⟨rfl,rfl⟩|⟨g,cap,cur,fr,rfl,_,_,hnc,_⟩
  ·cases ad<;>simp[Builtin.append_,run_underlying ht,sizeOf,typeInfo,hi,Builtin.lenOf,Builtin.firstCells,loadCells,loadCellsFrom]
  ·cases ad<;>simp[Builtin.append_,run_underlying ht,sizeOf,typeInfo,hi,Builtin.lenOf,Builtin.firstCells,loadCells,loadCellsFrom,hnc,storeCells]
 ·by_cases hm:m=0
  ·subst hm;have:news=[]:=zaf aa;subst this;refine⟨v,w,?_,aV,⟨rfl,rfl,rfl,zaj _,λ_ _ _=>rfl⟩,λb h=>.inl h⟩;rcases dx.2 with⟨rfl,rfl⟩|⟨g,cap,cur,fr,rfl,_,_,hnc,_⟩
   ·simp[Builtin.append_,run_underlying ht,sizeOf,typeInfo,hi,Builtin.lenOf,Builtin.firstCells,loadCells,loadCellsFrom]
   ·simp[Builtin.append_,run_underlying ht,sizeOf,typeInfo,hi,Builtin.lenOf,Builtin.firstCells,loadCells,loadCellsFrom,hnc,storeCells]
  ·obtain⟨VF,M_⟩:=Ej dx;rcases VF.2 with⟨rfl,rfl⟩|⟨g,cap,cur,rfl,_,hg,hnc,hcm,pH,afy⟩
   ·have hx:xs=[]:=zaf (by simpa using dx.1);subst hx;have hr:=run_append_nil (P:=P) w t ty e i zv ht hi hz ad m c news hl xG aa aa aV;have:=wy (P:=P) (e:=e) B (.slice none 0 0) 0 m [] news hz Ph ae hl 0 aa h63 hB
    grind
   ·by_cases EH:n+m<=cap
    ·have mW:n*i.size+news.length<=cur.size:=by rw[hl,pH,<-zas];exact zaC _ EH
     have hr:=run_append_room (P:=P) w t ty e i ht hi g n cap cur hg ad m c news hl xG h1 EH mW;exact⟨_,_,hr,afy▸Gq B g n m cap cur news hl hg (M_ g rfl) EH hcm pH⟩
    ·have holds:∀(j:Nat) (u:Value),xs[j]?=some u->w.cell? ((⟨g,0,none⟩:Addr).add j)=some u:=VF.cells (g:=g) rfl;have hr:=run_append_grow (P:=P) w t ty e i zv ht hi hz ⟨g,0,none⟩ n cap xs dx.1 holds ad m c news hl xG aa aa (growslice_fits aa Ua);exact⟨_,_,hr,wy (P:=P) (e:=e) B _ n m xs news hz Ph dx.1 hl cap aa h63 hB⟩
def T3{P:Program}(B:Nat->Prop)(t u ty e:TypeId)(i:TypeInfo)(zv:Value)(ht:P.underlying t=some (.slice e))(hu:P.underlying u=some .string)(hi:P.info? e=some i)(hz:i.zero=some zv)(Ph:zv.cells.size=i.size)(lZ:i.size=1)
 (v:Value) (n:Nat) (xs:List Value) (dx:u9 w B e i.size true v n xs) (s:ByteArray)
 (h63:n+s.size<=maxLen) (Ua:(n+s.size)*i.bytes<=140737488355328) (hB:B w.heap.size):
 ∃v' w',(Builtin.append_ #[t,u] ty #[v,.string s]).run P w=.ok v' w'/\vP w B e i.size v n s.size (xs++strCells s) v' w':=by
 have aCh:n+s.size<=9223372036854775807:=bL;have hl:(strCells s).length=s.size*i.size:=by rw[strCells_length,lZ,Nat.mul_one]
 by_cases hm:s.size=0
 ·have hsc:strCells s=[]:=zaf aV;rw[hsc,hm];refine⟨v,w,?_,aV,⟨rfl,rfl,rfl,zaj _,λ_ _ _=>rfl⟩,λb h=>.inl h⟩;have hfc:=run_firstCells_string (P:=P) w i.size s;rw[hm,hsc]at hfc;rcases dx.2 with⟨rfl,rfl⟩|⟨g,cap,cur,fr,rfl,_,_,hnc,_⟩
  ·simp[Builtin.append_,run_underlying ht,run_underlying hu,sizeOf,typeInfo,hi,Builtin.lenOf,hm,hfc]
  ·simp[Builtin.append_,run_underlying ht,run_underlying hu,sizeOf,typeInfo,hi,Builtin.lenOf,hm,hfc,hnc,storeCells]
 ·obtain⟨VF,M_⟩:=Ej dx;rcases VF.2 with⟨rfl,rfl⟩|⟨g,cap,cur,rfl,_,hg,hnc,hcm,pH,afy⟩
  ·have hx:xs=[]:=zaf (by simpa using dx.1);subst hx;have hr:=run_append_nil_string (P:=P) w t u ty e i zv ht hu hi hz s aa aa aV;have:=wy (P:=P) (e:=e) B (.slice none 0 0) 0 s.size [] (strCells s) hz Ph ae hl 0 aa h63 hB;simp only[zaU,za0,Array.empty_append]at this ⊢;have e0:(strCells s).toArray=s.data.map (λb=>Value.int .u8 b.toNat):=by apply Array.ext';simp[strCells]
   grind
  ·by_cases EH:n+s.size<=cap
   ·have hr:=run_append_room_string (P:=P) w t u ty e i ht hu hi lZ g n cap cur hg s EH aV;have:=Gq B g n s.size cap cur (strCells s) hl hg (M_ g rfl) EH hcm pH
    grind
   ·have holds:=VF.cells (g:=g) rfl;have hr:=run_append_grow_string (P:=P) w t u ty e i zv ht hu hi hz ⟨g,0,none⟩ n cap xs dx.1 holds s aa aa (growslice_fits aa Ua);exact⟨_,_,hr,wy (P:=P) (e:=e) B _ n s.size xs (strCells s) hz Ph dx.1 hl cap aa h63 hB⟩
def An{v:Value}{b:Nat}(hs:∀p,v≠.pointer p):bI v=some b↔v.ownBlock=some b:=by
 cases v with
 |slice a n c=>cases a<;>simp[bI,Value.ownBlock]
 |pointer p=>grind
 |_=>rfl
def ba.app(hr:ba cx σ vals w){id:Nat}{e:TypeId}{sz n m:Nat}{ak els':List PV}{v v':Value}(hi:σ[id]?=some (.row e sz true ak))(hv:vals[id]?=some v){cells:List Value}(ha:vP w cx.own e sz v n m cells v' w')
 (hn:n+m=els'.length) (hl:∀x∈els',x.cells.length=sz) (h1:∀c∈els'.flatMap PV.cells,c.one=true) (pH:cE (Ok cx σ vals w) w (els'.flatMap PV.cells) cells):
 ba cx (σ.set id .dead++[.row e sz true els']) (vals++[v']) w'/\cm cx σ vals w (σ.set id .dead++[.row e sz true els']) (vals++[v']) w':=by
 obtain⟨dx,hg,kp⟩:=ha;have aS:=(zaa.1 hi).1;have nQ:=hr.iU id _ _ hi hv;have kq:0<sz:=nQ.1;have Xn:∀p,v≠.pointer p:=by
  obtain⟨_,c0,h,_⟩:=nQ;rcases h.2 with⟨rfl,_⟩|⟨_,_,_,_,rfl,_⟩<;>simp
 have fY:v'.oneCell'=true:=QG;have hmv:∀b,bI v=some b->Av σ vals b:=λb h=>⟨id,_,v,hi,hv,h⟩
 have get:∀j s,(σ.set id cu.dead++[cu.row e sz true els'])[j]?=some s->(j=σ.length/\s=.row e sz true els')\/(j<σ.length/\j≠id/\σ[j]?=some s)\/s=.dead:=by
  intro j s h;rw[bE,zaL]at h;split at h
  ·rename_i hj;exact .inl ⟨hj,by cases h;rfl⟩
  ·rw[cY aS]at h;split at h
   ·cases h;exact .inr (.inr rfl)
   ·rename_i hj;exact .inr (.inl ⟨(zaa.1 h).1,λh=>hj h.symm,h⟩)
 have aaN:∀j u,j<σ.length->(vals++[v'])[j]?=some u->vals[j]?=some u:=by
  intro j u hj h;rw[bE,hr.len,if_neg aa]at h;exact h
 have aeB:∀u,(vals++[v'])[σ.length]?=some u->u=v':=by
  intro u h;rw[bE,hr.len,if_pos rfl]at h;cases h;rfl
 have EI:∀b,Av (σ.set id .dead++[.row e sz true els']) (vals++[v']) b->Av σ vals b\/w.heap.size<=b:=by
  rintro b ⟨j,s,u,g1,g3,g4⟩;rcases get j s g1 with⟨rfl,rfl⟩|⟨hj,_,hs⟩|rfl
  ·rw[aeB u g3]at g4;rcases kp b g4 with h|h
   ·exact .inl (hmv b h)
   ·exact .inr h
  ·exact .inl ⟨j,s,u,hs,aaN j u hj g3,g4⟩
  ·cases g4
 have hk:cm cx σ vals w (σ.set id .dead++[.row e sz true els']) (vals++[v']) w':=by
  refine⟨λi u h=>?_,ae,λb h=>⟨h.1,zag h.2.1 hg.size,λhm=>?_⟩,λb h=>hg.block b h.2.1 (λhe=>h.2.2 (hmv b ((An Xn).2 he.symm))),λi Gt e2 sz2 ap2 Hk h=>?_,λi Gt s2 h mN=>?_⟩
  ·rw[bE,if_neg (by have:=(zaa.1 h).1;omega)];exact h
  ·rcases EI b hm with h'|h'
   ·exact h.2.2 h'
   ·have:=h.2.1;omega
  ·rcases get i _ h with⟨hj,_⟩|⟨_,_,hs⟩|hd
   ·omega
   ·exact⟨ap2,Hk,hs⟩
   ·cases hd
  ·rcases get i _ h with⟨hj,_⟩|⟨_,_,hs⟩|hd
   ·omega
   ·exact⟨s2,hs,mN⟩
   ·subst hd;cases mN
 have VE:Fr cx (σ.set id .dead++[.row e sz true els']) (vals++[v']) w':=⟨zat hr.fr.size hg.size,λb hb=>(hg.block b (zag (cx.hk b hb) hr.fr.size) (λhe=>hr.fr.nB b (hmv b ((An Xn).2 he.symm)) hb)).trans (hr.fr.same b hb),λb hm vV=>by
  rcases EI b hm with hm|hm
  ·exact hr.fr.nB b hm vV
  ·have:=cx.hk b vV;have:=hr.fr.size;omega⟩
 refine⟨⟨hr.below.grown hg (λk h=>(nQ.block ((An Xn).2 h)).1),λu hu=>RG,nZ,λi s u g1 g2=>?_,λi j s1 s2 u1 u2 b iT g1 g2 g5 g6 g7 g8=>?_,VE,hr.pin.keep hk⟩,hk⟩
 ·rcases get i s g1 with⟨rfl,rfl⟩|⟨hj,qY,hs⟩|rfl
  ·rw[aeB u g2];exact⟨kq,cells,hn▸dx,hl,h1,hk.TO pH⟩
  ·have hu:=aaN i u hj g2;refine hk.rb (hr.iU i s u hs hu) (λb hb=>hg.block b ((hr.iU i s u hs hu).block hb).2 (λhe=>?_));exact hr.oP i id s _ u v b qY hs hi hu hv hb ((An Xn).2 he.symm)
  ·trivial
 ·rcases get i s1 g1 with⟨rfl,rfl⟩|⟨hi1,aCj,lZ⟩|rfl
  ·rw[aeB u1 g5]at g7;rcases get j s2 g2 with⟨rfl,rfl⟩|⟨hj,qY,hs⟩|rfl
   ·exact iT rfl
   ·have hu:=aaN j u2 hj g6;rcases kp b g7 with h|h
    ·exact hr.oP j id s2 _ u2 v b qY hs hi hu hv g8 h
    ·have:=((hr.iU j s2 u2 hs hu).block g8).2;omega
   ·cases g8
  ·have hu1:=aaN i u1 hi1 g5;rcases get j s2 g2 with⟨rfl,rfl⟩|⟨hj,qY,hs⟩|rfl
   ·rw[aeB u2 g6]at g8;rcases kp b g8 with h|h
    ·exact hr.oP i id s1 _ u1 v b aCj lZ hi hu1 hv g7 h
    ·have:=((hr.iU i s1 u1 lZ hu1).block g7).2;omega
   ·exact hr.oP i j s1 s2 u1 u2 b iT lZ hs hu1 (aaN j u2 hj g6) g7 g8
   ·cases g8
  ·cases g7
def vA(w:World)(B:Nat->Prop)(e:TypeId)(sz:Nat)(ap:Bool):u9 w B e sz ap (.slice none 0 0) 0 []:=⟨ae,.inl ⟨rfl,rfl⟩⟩
def P4{K:AV->aw->Prop}(hr:Rel cx env σ vals a w)(e:TypeId)(ie:TypeInfo)(zv:Value)(x:Operand)(ys:List PV)(news:List Value)(pJ:cx.P.info? e=some ie)(Ph:zv.cells.size=ie.size)(kq:0<ie.size)
 (hl:∀y∈ys,y.cells.length=ie.size) (h1:∀c∈ys.flatMap PV.cells,c.one=true) (pH:cE (Ok cx σ vals w) w (ys.flatMap PV.cells) news)
 (ec:∀(v:Value) (n:Nat) (xs:List Value),a.eval x=v->u9 w cx.own e ie.size true v n xs->n+ys.length<=maxLen->(n+ys.length)*ie.bytes<=140737488355328->
   ∃v' w',(execOp a.eval o).run cx.P w=.ok (.value v') w'/\vP w cx.own e ie.size v n ys.length (xs++news) v' w')
 (hK:TW σ e ie.size ie.bytes (a_ env x) ys K):Out cx env a w o K:=by
 have hx:=hr.ev x;cases pg:a_ env x with
 |pv p=>
  rw[pg]at hK hx;simp only[RA]at hx;cases p with
  |nil s=>
   obtain⟨⟨hb,hm⟩,hk⟩:=hK;obtain⟨v',w',dp,dx,hg,hf⟩:=ec _ 0 [] hx (vA w _ e ie.size true) (by simp only[maxLen];omega) aV;simp only[zaU,za0]at dx;refine wg hr e ie.size true ys w' ⟨hg.os,hg.tape,hg.output,hg.size,λk hk=>hg.block k hk (by simp[Value.ownBlock])⟩ v' dp (λb h=>?_) kq news dx hl h1 pH hk;rcases hf b h with h|h
   ·cases h
   omega
  |_=>trivial
 |own id=>
  rw[pg]at hK hx;simp only[RA]at hx;obtain⟨b,hb,hk⟩:=az σ id _ hK;cases b with
  |row e' s ap ak=>
   cases ap with
   |false=>grind
   |true=>
    cases h2:Nat.beq s ie.size with
    |false=>grind
    |true=>
     cases h3:Nat.beq e' e with
     |false=>grind
     |true=>
      simp only[h2,h3]at hk;have:=zab h2;subst this;have:=zab h3;subst this;obtain⟨⟨vT,mN⟩,hk⟩:=hk;obtain⟨_,hk⟩:=bu _ _ _ _ hk;have hk:=bR _ _ _ (cW _ _ hk);have nQ:=hr.s.iU id _ _ hb hx;obtain⟨_,cells,g1,g2,g3,g4⟩:=nQ;obtain⟨v',w',dp,ha⟩:=ec _ ak.length cells rfl g1 bL vT;obtain⟨hs,vV⟩:=hr.s.app hb hx ha (els':=ak++ys) ae (λx hx=>aV)
       (λc hc=>aV) (by rw[zaz];exact(c8 _ _ _).2 ⟨_,_,rfl,g4,pH⟩)
      refine Out.run dp (hr.keep hs vV) (av:=.own (σ.set id .dead).length) ?_ hk;rw[zaL];simp only[RA];rw[bE,if_pos hr.s.len.symm]
  |_=>grind
 |_=>rw[pg]at hK;trivial
def abT{K:AV->aw->Prop}(hr:Rel cx env σ vals a w)(t e:TypeId)(ie:TypeInfo)(z:PV)(x y:Operand)(c:Call)(ho:o.op=.call c)(hc:c.callee=.builtin .append)(dO:c.args.toList=[x,y])(EN:c.argTypes.toList=[t,t])
 (hu:cx.P.underlying t=some (.slice e)) (pJ:cx.P.info? e=some ie) (hz:QT cx.P e=some z) (hzl:z.cells.length=ie.size) (kq:0<ie.size)
 (hK:uO σ (a_ env y) λs ys=>match Nat.beq s ie.size with
   |true=>TW σ e ie.size ie.bytes (a_ env x) ys K
   |false=>False):Out cx env a w o K:=by
 obtain⟨i,zv,hi,R3,_,h2,_⟩:=oN hz;rw[pJ]at hi;cases hi;have Ph:zv.cells.size=ie.size:=Eu;obtain⟨s,ys,⟨ad,cc,hv,hle,_,fN⟩,hK⟩:=vR hr.s (hr.ev y) hK;have fp:c.args= #[x,y]:=aV;have KU:c.argTypes= #[t,t]:=aV;cases hs:Nat.beq s ie.size with
 |false=>grind
 |true=>
  rw[hs]at hK;have:=zab hs;subst this;obtain⟨news,K7,pH,h1,hl,xG⟩:∃news:List Value,news.length=ys.length*ie.size/\cE (Ok cx σ vals w) w (ys.flatMap PV.cells) news/\(∀c∈ys.flatMap PV.cells,c.one=true)/\(∀y∈ys,y.cells.length=ie.size)/\
   (ys.length=0∨∃a,ad=some a∧∀(j:Nat) (u:Value),news[j]?=some u->w.cell? (a.add j)=some u):=by
   rcases fN with rfl|⟨b,o',rfl,fN⟩
   ·exact⟨[],ae,by rfl,ae,ae,.inl rfl⟩
   ·obtain⟨g1,g2⟩:=(lQ b _ ys o').1 fN;obtain⟨g3,us,g4,g5⟩:=(u6 b _ o').1 g2;exact⟨us,by rw[g4.length,gb _ _ g1],g4,g3,g1,.inr ⟨_,rfl,λj u hj=>by rw[fe];grind⟩⟩
  have fY:∀u∈news,u.oneCell'=true:=by
   intro u hu;obtain⟨j,hj⟩:=zaB.1 hu;have CH:j<(ys.flatMap PV.cells).length:=by rw[<-pH.length];grind
   have hc:=zak CH;exact(((kW _ _).1 pH).2 j _ u hc hj).Ac (h1 _ (zad hc))
  refine P4 hr e ie zv x ys news pJ Ph kq hl h1 pH (λv n xs hvx dx hm hb=>?_) hK;obtain⟨v',w',ec,ha⟩:=WD (P:=cx.P) cx.own t o.type e ie zv hu pJ R3 Ph v n xs dx ad ys.length cc hle news K7 xG fY hm hb (cx.dx _ hr.s.below.size);exact⟨v',w',by simp[execOp,ho,resolve,hc,invoke,builtin,fp,KU,hv,hvx,ec],ha⟩
def YA{K:AV->aw->Prop}(hr:Rel cx env σ vals a w)(t u e:TypeId)(ie:TypeInfo)(z:PV)(x y:Operand)(c:Call)(ho:o.op=.call c)(hc:c.callee=.builtin .append)(dO:c.args.toList=[x,y])(EN:c.argTypes.toList=[t,u])
 (hu:cx.P.underlying t=some (.slice e)) (Pe:cx.P.underlying u=some .string) (pJ:cx.P.info? e=some ie) (hz:QT cx.P e=some z) (hzl:z.cells.length=ie.size) (kq:ie.size=1)
 (hK:match a_ env y with
   | .pv y=>match y with
    | .str l=>TW σ e 1 ie.bytes (a_ env x) (l.map aR) K
    |_=>False
   |_=>False):Out cx env a w o K:=by
 obtain⟨i,zv,hi,R3,_,h2,_⟩:=oN hz;rw[pJ]at hi;cases hi;have Ph:zv.cells.size=ie.size:=Eu;have fp:c.args= #[x,y]:=aV;have KU:c.argTypes= #[t,u]:=aV;have hy:=hr.ev y
 revert hK hy
 cases a_ env y with
 |pv p=>
  cases p with
  |str l=>
   intro hK hy;simp only[RA,Rd]at hy;have hlen:(l.map aR).length=(⟨l.toArray⟩:ByteArray).size:=vD;refine P4 hr e ie zv x (l.map aR) (strCells ⟨l.toArray⟩) pJ Ph aa ?_ ?_ ?_ (λv n xs hvx dx hm hb=>?_) aV
   ·intro y hy;rw[zaX]at hy;obtain⟨b,_,rfl⟩:=hy;rw[kq];rfl
   ·rw[iC];intro c hc;rw[zaX]at hc;obtain⟨b,_,rfl⟩:=hc;rfl
   ·rw[iC,z_];rfl
   ·rw[hlen]at hm hb ⊢;obtain⟨v',w',ec,ha⟩:=T3 (P:=cx.P) cx.own t u o.type e ie zv hu Pe pJ R3 Ph kq v n xs dx ⟨_⟩ hm hb (cx.dx _ hr.s.below.size);exact⟨v',w',by simp[execOp,ho,resolve,hc,invoke,builtin,fp,KU,hy,hvx,ec],ha⟩
  |_=>simp
 |_=>simp
end
end
end Go.Dv
namespace Go.Dv
open Go.RowKit
section
section
variable {cx:Cx} {env:Env} {σ:aw} {vals:List Value} {a:Act} {w w':World} {o:Oper}
def Ca(P:Program)(g off:Nat)(e:TypeId)(fr:Nat×Nat):∀(vs:List Value) (i:Nat) (cur:Array Value) (w:World),w.heap[g]?=some (.cells cur e fr)->off+i+vs.length<=cur.size->(fr=(0,0)\/cur.size<=fr.1)->(∀v∈vs,v.oneCell'=true)->
 ∃w' EJ,(storeCells ⟨g,off,none⟩ vs i).run P w=.ok () w'/\w'.heap[g]?=some (.cells EJ e fr)/\EJ.toList=cur.toList.take (off+i)++vs++cur.toList.drop (off+i+vs.length)/\
  (∀b,b≠g->w'.heap[b]?=w.heap[b]?)/\w'.heap.size=w.heap.size/\w'.os=w.os/\w'.tape=w.tape/\w'.output=w.output:=by
 intro vs
 induction vs with
 |nil=>intro i cur w hg _ _ _;exact⟨w,cur,by simp[storeCells],hg,ae,λ_ _=>rfl,rfl,rfl,rfl,rfl⟩
 |cons v vs ih=>
  intro i cur w hg hle VE h1;simp only[zap]at hle;have hc:w.cell? ⟨g,off+i,none⟩=some cur[off+i]:=by simp[World.cell?,hg,show off+i<cur.size from by omega]
  have hf:w.frozen? ⟨g,off+i,none⟩=false:=by
   simp only[World.frozen?,hg];rcases VE with rfl|h
   ·simp
   ·simp;omega
  have iq:(store ((⟨g,off,none⟩:Addr).add i) v).run P w=.ok () (w.setCell ⟨g,off+i,none⟩ v):=by
   rw[fe,run_store P w _ v _ (h1 v ae)];simp[hc,hf]
  have hg2:(w.setCell ⟨g,off+i,none⟩ v).heap[g]?=some (.cells (cur.setIfInBounds (off+i) v) e fr):=by
   obtain⟨aS,hv⟩:=zai.1 hg;simp only[World.setCell];rw[zaE (by simpa using aS),Array.getElem_modify_self,hv];rfl
  obtain⟨w',EJ,g1,g2,g3,g4,g5,g6,g7,g8⟩:=ih (i+1) (cur.setIfInBounds (off+i) v) (w.setCell ⟨g,off+i,none⟩ v) hg2 aT (by simpa using VE) (λu hu=>h1 u (by simp[hu]));refine⟨w',EJ,?_,g2,?_,λb hb=>(g4 b hb).trans (Below.heap_setCell _ _ _ _ hb),by rw[g5];simp[World.setCell],by rw[g6];rfl,by rw[g7];rfl,by rw[g8];rfl⟩
  ·simp only[storeCells,Sem.run_bind,iq,Result.andThen_ok,g1]
  ·rw[g3,zaQ,show off+(i+1)=off+i+1 from rfl,PH _ _ _ aT,set_drop _ _ _ _ aa];simp[zaJ,Nat.add_comm,zbc]
def cu.adE:cu->cu->Prop
 | .row e sz _ _,.row e' CG _ _=>e=e'/\sz=CG
 | .box _ _,.box _ _=>True
 |_,_=>False
def UA{s s':cu}(h:cu.adE s s'){v:Value}{b:Nat}(hb:s'.bk v b):s.bk v b:=by
 cases s<;>cases s'<;>first|exact hb|(cases h;done)
def ba.write(hr:ba cx σ vals w){id g:Nat}{s s':cu}{u:Value}(hi:σ[id]?=some s)(hl:s.live=true)(T8:s'.live=true)(hs:cu.adE s s')(hu:vals[id]?=some u)(hg:bI u=some g)
 (xH:∀b,b≠g->w'.heap[b]?=w.heap[b]?) (tY:w'.heap.size=w.heap.size) (hos:w'.os=w.os) (az1:w'.tape=w.tape) (aCk:w'.output=w.output)
 (hb:cm cx σ vals w (σ.set id s') vals w'->RB cx (σ.set id s') vals w' s' u):ba cx (σ.set id s') vals w'/\cm cx σ vals w (σ.set id s') vals w':=by
 have aS:=(zaa.1 hi).1;have xY:=λj=>cY (x:=s') aS j
 have EI:∀b,Av (σ.set id s') vals b->Av σ vals b:=by
  rintro b ⟨i,t,v,h1,h3,h4⟩;rw[xY]at h1;split at h1
  ·rename_i he;subst he;cases h1;exact⟨id,s,v,hi,h3,UA hs h4⟩
  ·exact⟨i,t,v,h1,h3,h4⟩
 have hbk:s.bk u g:=tA hl hg;have qY:∀b,Ok cx σ vals w b->b≠g:=λb h he=>h.2.2 (he▸⟨id,s,u,hi,hu,hbk⟩)
 have hk:cm cx σ vals w (σ.set id s') vals w':=by
  refine⟨λ_ _ h=>h,ae,λb h=>⟨h.1,tY▸h.2.1,λhm=>h.2.2 (EI b hm)⟩,λb h=>xH b (qY b h),λi _ e sz ap ak h=>?_,λi _ s2 h mN=>?_⟩
  ·rw[xY]at h;split at h
   ·rename_i he;subst he;cases h;cases s<;>simp[cu.adE]at hs;obtain⟨rfl,rfl⟩:=hs;exact⟨_,_,hi⟩
   ·exact⟨ap,ak,h⟩
  ·rw[xY]at h;split at h
   ·rename_i he;subst he;cases h;refine⟨s,hi,?_⟩;cases s'<;>first|(cases T8;done)|(cases mN;done)|skip
    cases s<;>simp[cu.adE]at hs;rfl
   ·exact⟨s2,h,mN⟩
 have Xo:=(hr.iU id s u hi hu).block hbk;have VE:Fr cx (σ.set id s') vals w':=⟨by rw[tY];exact hr.fr.size,λb hb=>(xH b (λhe=>hr.fr.nB b (he▸⟨id,s,u,hi,hu,hbk⟩) hb)).trans (hr.fr.same b hb),λb hm=>hr.fr.nB b (EI b hm)⟩
 refine⟨⟨⟨hos.trans hr.below.os,az1.trans hr.below.tape,aCk.trans hr.below.output,by rw[tY];exact hr.below.size,λk hk ho=>(xH k (λe=>ho (e▸Xo.1))).trans (hr.below.block k hk ho)⟩,hr.one,nZ,λi t v h1 h2=>?_,λi j t1 t2 u1 u2 b iT h1 h2 h5 h6 h7 h8=>?_,VE,hr.pin.keep hk⟩,hk⟩
 ·rw[xY]at h1;split at h1
  ·rename_i he;subst he;cases h1;rw[hu]at h2;cases h2;exact hb hk
  ·rename_i he;exact hk.rb (hr.iU i t v h1 h2) (λb hbv=>xH b (λhbg=>hr.oP i id t s v u b (λh=>he h.symm) h1 hi h2 hu hbv (by rw[hbg];exact hbk)))
 ·rw[xY]at h1 h2;have real:∀i t (v:Value),(if id=i then some s' else σ[i]?)=some t->t.bk v b→∃t',σ[i]?=some t'/\t'.bk v b:=by
   intro i t v h hlv;split at h
   ·rename_i he;subst he;cases h;exact⟨s,hi,UA hs hlv⟩
   ·exact⟨t,h,hlv⟩
  obtain⟨t1',g1,g2⟩:=real i t1 u1 h1 h7;obtain⟨t2',g3,g4⟩:=real j t2 u2 h2 h8;exact hr.oP i j t1' t2' u1 u2 b iT g1 g3 h5 h6 g2 g4
def d_.Ec(hr:ba cx σ vals w):∀(l:List AV) (vs:List Value),d_ (Ok cx σ vals w) σ vals w l vs->(∀c∈l,c.one=true)→∀v∈vs,v.oneCell'=true:=by
 intro l
 induction l with
 |nil=>intro vs h _ v hv;simp only[d_]at h;subst h;cases hv
 |cons c l ih=>
  intro vs h h1 v hv;simp only[d_]at h;obtain⟨u,r,rfl,h3,h4⟩:=h;rcases zay.1 hv with rfl|hv
  ·have hc:=h1 c ae;cases c with
   |pv x=>simp only[RA]at h3;exact h3.Ac hc
   |own id=>simp only[RA]at h3;exact hr.one _ (zad h3)
   |ref id idx off=>simp only[RA]at h3;obtain⟨_,⟨ad,rfl⟩,_⟩:=h3;rfl
   |clo f gB=>simp only[RA]at h3;obtain⟨cv,rfl,_⟩:=h3;rfl
   |sub id sz lo n=>simp only[RA]at h3;obtain⟨_,ad,c,rfl,_⟩:=h3;rfl
   |_=>cases hc
  ·exact ih r h4 (λd hd=>h1 d og) v hv
def cE.Ec{ok:Nat->Prop}{l:List PV}{vs:List Value}(h:cE ok w l vs)(h1:∀c∈l,c.one=true):∀v∈vs,v.oneCell'=true:=by
 intro v hv;obtain⟨j,hj⟩:=zaB.1 hv;have CH:j<l.length:=by rw[<-h.length];exact(zaa.1 hj).1
 have hc:=zak CH;exact(((kW _ _).1 h).2 j _ v hc hj).Ac (h1 _ (zad hc))
def Gg{P:Program}{t:TypeId}{i:TypeInfo}(hi:P.info? t=some i)(v:Value)(kq:v.cells.size=i.size)(b off:Nat):
 (Instr.storeAt t (.pointer (some ⟨b,off,none⟩)) v).run P w=(storeCells ⟨b,off,none⟩ v.cells.toList).run P w:=by
 simp[Instr.storeAt,Instr.sureAddr,storeVar,sizeOf,typeInfo,hi,kq]
def PD{y:PV}{cs:List PV}{K:PV->Prop}(h:SJ y cs K)(hy:∀l,y≠.tup l)(h1:∀c∈cs,c.one=true):∃y',K y'/\y'.cells=cs:=by
 cases y with
 |agg l=>exact⟨_,h,rfl⟩
 |tup l=>exact(hy l rfl).elim
 |_=>
  cases cs with
  |nil=>exact h.elim
  |cons c cs=>
   cases cs with
   |nil=>exact⟨c,h,by have:=h1 c ae;cases c<;>first|rfl|cases this⟩
   |cons _ _=>exact h.elim
def Wi{K:AV->aw->Prop}(hr:Rel cx env σ vals a w)(t:TypeId)(ti:TypeInfo)(x v:Operand)(ho:o.op=.store t x v)(hti:cx.P.info? t=some ti)
 (hK:Ow σ ti.size (a_ env x) (a_ env v) λσ=>K .bad σ):Out cx env a w o K:=by
 have hx:=hr.ev x;have hv:=hr.ev v;cases pg:a_ env x with
 |ref id idx off=>
  rw[pg]at hK hx;simp only[RA]at hx;obtain⟨aS,_,fN,sM⟩:=hx;obtain⟨b,hb,hk⟩:=az σ id _ hK;obtain⟨u,hu,nQ⟩:=hr.s.val hb;cases b with
  |box e cs=>
   obtain⟨u',g,Pf,M9,hax⟩:=sM _ hb rfl;have hg:bI u'=some g:=by rw[M9];rfl
   obtain rfl:=getElem?_of hu Pf;obtain⟨g',arr,h1,h2,h3,h4,h5⟩:=nQ;rw[h1]at hg;obtain rfl:g'=g:=by cases hg;rfl
   obtain⟨vs,⟨hlen,hk⟩,Pd,fY⟩:=zG hr.s hv hk;obtain⟨pre,mid,post,rfl,g1,g2,hk⟩:=mH vs cs off _ hk;obtain⟨_,hk⟩:=bu _ _ _ _ hk;have CD:=Pd.length;have tY:(a.eval v).cells.size=ti.size:=by rw[<-zac,CD,hlen]
   have T_:=h5.length;simp only[zae,zac]at T_;obtain⟨w',EJ,f1,f2,f3,f4,f5,f6,f7,f8⟩:=Ca cx.P g' off e (0,0) (a.eval v).cells.toList 0 arr w h3 (by rw[CD];omega) (.inl rfl) (d_.Ec hr.s _ _ Pd fY);obtain⟨hs,vV⟩:=hr.s.write (s':=.box e (pre++vs++post)) hb rfl rfl trivial hu (by rw[h1];rfl) f4 f5 f6 f7 f8 (λvV=>by
    refine⟨g',EJ,h1,h2,f2,?_,?_⟩
    ·intro c hc;simp only[zax]at hc;rcases hc with(hc|hc)|hc
     ·exact h4 c iN
     ·exact fY c hc
     ·exact h4 c iN
    ·obtain⟨v1,v3,hv1,r1,r3⟩:=(ei _ _ _).1 h5;obtain⟨v1,v2,rfl,r1,r2⟩:=(ei _ _ _).1 r1;have e1:arr.toList.take (off+0)=v1:=by rw[hv1,zaW,zah];exact zaF (by rw[r1.length,g1])
     have e2:arr.toList.drop (off+0+(a.eval v).cells.toList.length)=v3:=by
      rw[hv1];exact zaN (by rw[zae,r1.length,r2.length,CD];omega)
     rw[f3,e1,e2];exact(ei _ _ _).2 ⟨_,_,rfl,(ei _ _ _).2 ⟨_,_,rfl,vV.T4 _ _ r1,vV.T4 _ _ Pd⟩,vV.T4 _ _ r3⟩)
   refine Out.skip ?_ (hr.keep hs vV) hk;simp[execOp,ho,hax,Gg hti _ tY,f1]
  |row e sz ap ak=>
   obtain⟨x1,kV,_,_,LY⟩:=Mr hr.s _ _ _ hv hk;obtain⟨x2,σ1,rfl,hk3,hfz,lZ,ar_,iY,_⟩:=yc _ σ σ _ (λz=>z=x1) _ (Fz.refl σ) hr.s hv (LY _ rfl) kV;have zY:=hr.keep lZ ar_;obtain⟨b1,vT,hk4⟩:=az σ1 id _ hk3;cases b1 with
   |row e1 R6 ap1 sN=>
    obtain⟨y,hy,hxl,hk5⟩:=hk4;obtain⟨pre,mid,post,HS,g1,g2,hk6⟩:=mH _ _ off _ hk5;have hu1:vals[id]?=some u:=hu;have aCn:=lZ.iU id _ _ vT hu1;obtain⟨kq,cells,dx,hl,fY,pH⟩:=aCn;have xH:e1=e/\R6=sz/\ap1=ap/\sN=ak:=by
     rcases hfz id with h|⟨_,_,_,_,_,h⟩
     ·rw[h,hb]at vT;cases vT;exact⟨rfl,rfl,rfl,rfl⟩
     ·rw[h]at vT;cases vT
    obtain⟨rfl,rfl,rfl,rfl⟩:=xH;obtain⟨u',g,Pf,hg,hax⟩:=fN _ _ _ _ hb;obtain rfl:=getElem?_of hu Pf;have aeC:=(zaa.1 hy).1;have afA:=zad hy;have asa:sN=sN.take idx++y::sN.drop (idx+1):=by
     have:=List.getElem_cons_drop aeC;rw[(zaa.1 hy).2]at this;rw[this,zaA]
    have az2:=M0 _ _ hxl x2 ae;obtain⟨hxc,aaO⟩:=Jd iY az2.2;have aaP:∀c∈y.cells,c.one=true:=λc hc=>fY c (List.mem_flatMap.2 ⟨y,afA,hc⟩)
    have hyt:∀l,y≠.tup l:=by
     rintro l rfl;have:=aaP (.tup l) (by simp[PV.cells]);cases this
    have asb:∀c∈pre++x2.cells++post,c.one=true:=by
     intro c hc;simp only[zax]at hc;rcases hc with(hc|hc)|hc
     ·exact aaP c (by rw[HS];simp[hc])
     ·exact aaO c hc
     ·exact aaP c (by rw[HS];simp[hc])
    obtain⟨y',hk7,hy'⟩:=PD hk6 hyt asb;obtain⟨_,hk8⟩:=bu _ _ _ _ hk7;have Hm:sN.set idx y'=sN.take idx++y'::sN.drop (idx+1):=by
     rw[List.set_eq_take_append_cons_drop,if_pos aeC]
    have hyl:y.cells.length=R6:=hl y afA;have aCp:y'.cells.length=R6:=by rw[hy',<-hyl,HS];simp[g2]
    have hT:((sN.take idx).flatMap PV.cells).length=idx*R6:=by
     rw[gb R6 _ (λz hz=>hl z (za4 hz)),zal,zau (Nat.le_of_lt aeC)]
    have hf1:sN.flatMap PV.cells=((sN.take idx).flatMap PV.cells++pre)++mid++(post++(sN.drop (idx+1)).flatMap PV.cells):=by
     conv=>lhs;rw[asa]
     rw[zaz,zao,HS];simp[zah]
    have hf2:(sN.set idx y').flatMap PV.cells=((sN.take idx).flatMap PV.cells++pre)++x2.cells++(post++(sN.drop (idx+1)).flatMap PV.cells):=by
     rw[Hm,zaz,zao,hy'];simp[zah]
    rw[hf1]at pH;obtain⟨c12,c3,zX,r12,r3⟩:=(c8 _ _ _).1 pH;obtain⟨c1,c2,rfl,r1,r2⟩:=(c8 _ _ _).1 r12;have R7:c1.length=idx*R6+off:=by rw[r1.length,zae,hT,g1]
    have LZ:c2.length=x2.cells.length:=by rw[r2.length,g2]
    have CD:=hxc.length;have tY:(a.eval v).cells.size=ti.size:=by rw[<-zac,CD,az2.1]
    rcases dx with⟨KT,⟨_,h0⟩|⟨gg,cap,cur,fr,h1,h2,h3,h4,h5,h6,h7,h8⟩⟩
    ·rw[h0]at aeC;omega
    ·rw[h1]at hg;obtain rfl:gg=g:=by cases hg;rfl
     have aCr:sN.length*R6<=cur.size:=by rw[h6];exact zaC _ h4
     have hin:idx*R6+off+(a.eval v).cells.toList.length<=sN.length*R6:=by
      have:(c1++c2++c3).length=sN.length*R6:=by rw[<-zX,KT]
      rw[zae,zae,R7,LZ]at this;omega
     obtain⟨w',EJ,f1,f2,f3,f4,f5,f6,f7,f8⟩:=Ca cx.P gg (idx*R6+off) e1 fr (a.eval v).cells.toList 0 cur w h3 aa (h8.imp (λh=>h) λh=>h.2) (cE.Ec hxc aaO);have KV:cur.toList=(c1++c2++c3)++cur.toList.drop (sN.length*R6):=by
      rw[<-zX,<-h7,zaA]
     have R8:EJ.toList=(c1++(a.eval v).cells.toList++c3)++cur.toList.drop (sN.length*R6):=by
      rw[f3,zaW];have e1:cur.toList.take (idx*R6+off)=c1:=by
       rw[KV,zah,zah];exact zaF R7
      have e2:cur.toList.drop (idx*R6+off+(a.eval v).cells.toList.length)=c3++cur.toList.drop (sN.length*R6):=by
       conv=>lhs;rw[KV]
       rw[zah];exact zaN (by rw[zae,R7,LZ,CD])
      rw[e1,e2];simp[zah]
     have K7:(sN.set idx y').length=sN.length:=zaL;obtain⟨hs,vV⟩:=lZ.write (s':=.row e1 R6 ap1 (sN.set idx y')) vT rfl rfl ⟨rfl,rfl⟩ hu1 (by rw[h1];rfl) f4 f5 f6 f7 f8 (λvV=>by
      have aaQ:EJ.size=cur.size:=by
       have e1:=congrArg List.length R8;have e2:=congrArg List.length KV;simp only[zae,zac,CD,LZ]at e1 e2;omega
      refine⟨kq,c1++(a.eval v).cells.toList++c3,⟨?_,.inr ⟨gg,cap,EJ,fr,by rw[K7];exact h1,h2,f2,by rw[K7];exact h4,h5,by rw[aaQ,h6],?_,by rw[aaQ];exact h8⟩⟩,?_,?_,?_⟩
      ·rw[K7,<-KT,zX];simp only[zae,CD,LZ]
      ·rw[K7,R8];refine zaF ?_;rw[<-KT,zX];simp only[zae,CD,LZ]
      ·intro z hz;rcases List.mem_or_eq_of_mem_set hz with hz|rfl
       ·exact hl z hz
       ·exact aCp
      ·intro c hc;rw[hf2]at hc;rw[hf1]at fY;simp only[zax]at hc fY;rcases hc with((hc|hc)|hc)|hc
       ·exact fY c (.inl (.inl (.inl hc)))
       ·exact fY c (.inl (.inl (.inr hc)))
       ·exact aaO c hc
       ·exact fY c (.inr hc)
      ·rw[hf2];exact(c8 _ _ _).2 ⟨_,_,rfl,(c8 _ _ _).2 ⟨_,_,rfl,vV.TO r1,vV.TO hxc⟩,vV.TO r3⟩)
     refine Out.skip ?_ (zY.keep hs vV) hk8;simp[execOp,ho,hax,Gg hti _ tY,f1]
   |_=>exact hk4.elim
  |_=>exact hk.elim
 |_=>rw[pg]at hK;exact hK.elim
end
end
end Go.Dv
namespace Go.Dv
open Go.RowKit
section
section
variable {cx:Cx} {env:Env} {σ:aw} {vals:List Value} {a:Act} {w w':World}
def Mv(n:Nat)(l:List Nat)(h:Oa n l=false):n∉l:=by
 induction l with
 |nil=>simp
 |cons a l ih=>
  have h':Bool.rec (Oa n l) true (Nat.beq a n)=false:=h;cases hb:Nat.beq a n with
  |true=>rw[hb]at h';cases h'
  |false=>
   rw[hb]at h';intro hm;rcases zay.1 hm with rfl|hm
   ·simp at hb
   ·exact ih h' hm
def AE{n:Nat}{l:List Nat}{K:List Nat->Prop}(hl:l.Nodup)(h:OM n l K):∃l',K l'/\l'.Nodup/\l<+:l':=by
 unfold OM at h;cases hb:Oa n l with
 |true=>rw[hb]at h;exact oI
 |false=>
  rw[hb]at h;refine⟨_,bR _ _ _ h,?_,List.prefix_append _ _⟩;rw[List.nodup_append];exact⟨hl,ae,λa ha b x6=>by
   simp at x6;subst x6;exact λe=>Mv _ _ hb (e▸ha)⟩
def IB:∀(a:AV) (l:List Nat) (K:List Nat->Prop),l.Nodup->Vc a l K→∃l',K l'/\l'.Nodup/\l<+:l':=by
 intro a;refine AV.rec (motive_1:=λa=>∀(l:List Nat) (K:List Nat->Prop),l.Nodup->Vc a l K→∃l',K l'/\l'.Nodup/\l<+:l')
  (motive_2:=λaHk=>∀(l:List Nat) (K:List Nat->Prop),l.Nodup->(AV.rec_1 (motive_1:=λ_=>List Nat->(List Nat->Prop)->Prop) (motive_2:=λ_=>List Nat->(List Nat->Prop)->Prop)
    (λl K=>K l) (λ_ l K=>K l) (λid l K=>OM id l K) (λid _ _ l K=>OM id l K) (λid _ _ _ l K=>OM id l K)
    (λ_ ih l K=>ih l K) (λ_ ih l K=>ih l K) (λ_ _ ih l K=>ih l K) (λl K=>K l) (λ_ _ h t l K=>h l λl=>t l K) aHk:List Nat->(List Nat->Prop)->Prop) l K→∃l',K l'/\l'.Nodup/\l<+:l')
  ?_ ?_ ?_ ?_ ?_ ?_ ?_ ?_ ?_ ?_ a
 ·intro l K hl h;exact oI
 ·intro x l K hl h;exact oI
 ·intro id l K hl h;exact AE hl h
 ·intro id _ _ l K hl h;exact AE hl h
 ·intro id _ _ _ l K hl h;exact AE hl h
 ·intro cs ih l K hl h;exact ih l K hl h
 ·intro cs ih l K hl h;exact ih l K hl h
 ·intro f cs ih l K hl h;exact ih l K hl h
 ·intro l K hl h;exact oI
 ·intro x xs h1 h2 l K hl h;obtain⟨l',h3,h4,h5⟩:=h1 l _ hl h;obtain⟨l2,h6,h7,h8⟩:=h2 l' K h4 h3;exact⟨l2,h6,h7,h5.trans h8⟩
def yq(aHk:List AV):∀(l:List Nat) (K:List Nat->Prop),l.Nodup->I3 aHk l K→∃l',K l'/\l'.Nodup/\l<+:l':=by
 induction aHk with
 |nil=>intro l K hl h;exact oI
 |cons a aHk ih=>
  intro l K hl h;obtain⟨l',h1,h2,h3⟩:=IB a l _ hl h;obtain⟨l2,h4,h5,h6⟩:=ih l' K h2 h1;exact⟨l2,h4,h5,h3.trans h6⟩
def F9(e:Env):∀(l:List Nat) (K:List Nat->Prop),l.Nodup->XM e l K→∃l',K l'/\l'.Nodup/\l<+:l':=by
 induction e with
 |nil=>intro l K hl h;exact oI
 |cons a aHk ih=>
  intro l K hl h;obtain⟨l',h1,h2,h3⟩:=IB a.2 l _ hl h;obtain⟨l2,h4,h5,h6⟩:=ih l' K h2 h1;exact⟨l2,h4,h5,h3.trans h6⟩
def RZ(σ:aw)(r:List Nat):∀(l:List Nat) (K:List Nat->Prop),l.Nodup->Fx σ r l K→∃l',K l'/\l'.Nodup/\l<+:l':=by
 induction r with
 |nil=>intro l K hl h;exact oI
 |cons i r ih=>
  intro l K hl h;obtain⟨b,h1,h2⟩:=az _ _ _ h;cases b with
  |box e cs=>
   obtain⟨l',h3,h4,h5⟩:=yq cs l _ hl h2;obtain⟨l2,h6,h7,h8⟩:=ih l' K h4 h3;exact⟨l2,h6,h7,h5.trans h8⟩
  |_=>exact ih l K hl h2
def Nq(σ:aw):∀(n:Nat) (l:List Nat) (K:List Nat->Prop),l.Nodup->Ah σ n l K→∃l',K l'/\l'.Nodup/\l<+:l':=by
 induction σ with
 |nil=>intro n l K hl h;exact oI
 |cons b σ ih=>
  intro n l K hl h;cases b with
  |pool e sz q lt=>
   obtain⟨l',h3,h4,h5⟩:=AE hl h;obtain⟨l2,h6,h7,h8⟩:=ih _ l' K h4 h3;exact⟨l2,h6,h7,h5.trans h8⟩
  |_=>exact ih _ l K hl h
def wi(σ:aw)(l:List Nat)(K:List Nat->Prop)(hl:l.Nodup)(h:Fx σ l l λr=>Ah σ 0 r K):∃l',K l'/\l'.Nodup/\l<+:l':=by
 obtain⟨r,h1,h2,h3⟩:=RZ σ l l _ hl h;obtain⟨r',h4,h5,h6⟩:=Nq σ 0 r K h2 h1;exact⟨r',h4,h5,h3.trans h6⟩
def zC(n:Nat)(r:List Nat):∀(K:Nat->Prop),yU n r K False→∃j,r[j]?=some n/\K j:=by
 induction r with
 |nil=>intro K h;exact h.elim
 |cons a r ih=>
  intro K h;have h':Bool.rec (yU n r (λj=>K (Nat.succ j)) False) (K 0) (Nat.beq a n):=h;cases hb:Nat.beq a n with
  |true=>
   rw[hb]at h';exact⟨0,by simp[zab hb],h'⟩
  |false=>
   rw[hb]at h';obtain⟨j,h1,h2⟩:=ih _ h';exact⟨j+1,mK,h2⟩
mutual
def Ren(r:List Nat):AV->AV->Prop
 | .bad,y=>y=.bad
 | .pv x,y=>y=.pv x
 | .own i,y=>∃j,r[j]?=some i/\y=.own j
 | .ref i k o,y=>∃j,r[j]?=some i/\y=.ref j k o
 | .sub i s l n,y=>∃j,r[j]?=some i/\y=.sub j s l n
 | .agg cs,y=>∃ds,y=.agg ds/\fK r cs ds
 | .tup cs,y=>∃ds,y=.tup ds/\fK r cs ds
 | .clo f cs,y=>∃ds,y=.clo f ds/\fK r cs ds
def fK(r:List Nat):List AV->List AV->Prop
 |[],ys=>ys=[]
 |x::xs,ys=>∃y t,ys=y::t/\Ren r x y/\fK r xs t
end
def KM(r:List Nat):∀(a:AV) (K:AV->Prop),Uj r a K→∃b,K b/\Ren r a b:=by
 intro a;refine AV.rec (motive_1:=λa=>∀K:AV->Prop,Uj r a K→∃b,K b/\Ren r a b)
  (motive_2:=λaHk=>∀K:List AV->Prop,(AV.rec_1 (motive_1:=λ_=>(AV->Prop)->Prop) (motive_2:=λ_=>(List AV->Prop)->Prop)
    (λK=>K .bad) (λx K=>K (.pv x)) (λid K=>yU id r (λj=>K (.own j)) False) (λid i o K=>yU id r (λj=>K (.ref j i o)) False) (λid s l n K=>yU id r (λj=>K (.sub j s l n)) False)
    (λ_ ih K=>ih λl=>K (.agg l)) (λ_ ih K=>ih λl=>K (.tup l)) (λf _ ih K=>ih λl=>K (.clo f l)) (λK=>K []) (λ_ _ h t K=>h λa=>t λl=>K (a::l)) aHk:(List AV->Prop)->Prop) K→∃bs,K bs/\fK r aHk bs)
  ?_ ?_ ?_ ?_ ?_ ?_ ?_ ?_ ?_ ?_ a
 ·intro K h;exact⟨_,h,yt⟩
 ·intro x K h;exact⟨_,h,yt⟩
 ·intro id K h;obtain⟨j,h1,h2⟩:=zC _ _ _ h;exact⟨_,h2,Il⟩
 ·intro id i o K h;obtain⟨j,h1,h2⟩:=zC _ _ _ h;exact⟨_,h2,Il⟩
 ·intro id s l n K h;obtain⟨j,h1,h2⟩:=zC _ _ _ h;exact⟨_,h2,Il⟩
 ·intro cs ih K h;obtain⟨bs,h1,h2⟩:=ih _ h;exact⟨_,h1,H0⟩
 ·intro cs ih K h;obtain⟨bs,h1,h2⟩:=ih _ h;exact⟨_,h1,H0⟩
 ·intro f cs ih K h;obtain⟨bs,h1,h2⟩:=ih _ h;exact⟨_,h1,H0⟩
 ·intro K h;exact⟨[],h,Df⟩
 ·intro x xs h1 h2 K h;obtain⟨b,h3,h4⟩:=h1 _ h;obtain⟨bs,h5,h6⟩:=h2 _ h3;exact⟨_,h5,by simp only[fK];exact⟨b,bs,rfl,h4,h6⟩⟩
def zl(r:List Nat)(aHk:List AV):∀(K:List AV->Prop),Ih r aHk K→∃bs,K bs/\fK r aHk bs:=by
 induction aHk with
 |nil=>intro K h;exact⟨[],h,Df⟩
 |cons x xs ih=>
  intro K h;obtain⟨b,h3,h4⟩:=KM r x _ h;obtain⟨bs,h5,h6⟩:=ih _ h3;exact⟨_,h5,by simp only[fK];exact⟨b,bs,rfl,h4,h6⟩⟩
def Gc(r:List Nat)(e:Env):∀(K:Env->Prop),aaf r e K→∃e',K e'∧∀p,Ren r (aA p e) (aA p e'):=by
 induction e with
 |nil=>intro K h;exact⟨[],h,λp=>by simp only[aA,Ren]⟩
 |cons x xs ih=>
  intro K h;obtain⟨b,h3,h4⟩:=KM r x.2 _ h;obtain⟨bs,h5,h6⟩:=ih _ h3;refine⟨_,h5,λp=>?_⟩;obtain⟨q,v⟩:=x;simp only[aA];cases Nat.beq q p with
  |true=>exact h4
  |false=>exact h6 p
def vC(r:List Nat):cu->cu->Prop
 | .box e cs,t=>∃ds,t=.box e ds/\fK r cs ds
 | .pool e sz l lt,t=>t=.pool e sz l lt∧∀p∈lt,r[p.1]?=some p.1
 |s,t=>t=s
def RC(r:List Nat)(b:cu)(K:cu->Prop)(h:ZP r b K):∃t,K t/\vC r b t:=by
 cases b with
 |box e cs=>
  obtain⟨ds,h1,h2⟩:=zl r cs _ h;exact⟨_,h1,ds,rfl,h2⟩
 |pool e sz l lt=>
  cases lt with
  |nil=>exact⟨_,h,rfl,λp hp=>by cases hp⟩
  |cons x lt=>exact mw
 |_=>exact⟨_,h,rfl⟩
def tV(σ:aw)(r l:List Nat):∀(K:aw->Prop),JT σ r l K→∃σ',K σ'/\σ'.length=l.length∧∀(j i:Nat),l[j]?=some i→∃s t,σ[i]?=some s/\σ'[j]?=some t/\vC r s t:=by
 induction l with
 |nil=>intro K h;exact⟨[],h,rfl,λj i hj=>by simp at hj⟩
 |cons i l ih=>
  intro K h;obtain⟨s,h1,h2⟩:=az _ _ _ h;obtain⟨t,h3,h4⟩:=RC r s _ h2;obtain⟨σ',h5,h6,h7⟩:=ih _ h3;refine⟨_,h5,by simp[h6],λj i' hj=>?_⟩;cases j with
  |zero=>simp at hj;subst hj;exact⟨s,t,h1,rfl,h4⟩
  |succ j=>exact h7 j i' va
def vC.bk{r:List Nat}{s t:cu}(h:vC r s t){v:Value}{b:Nat}:t.bk v b↔s.bk v b:=by
 cases s with
 |box e cs=>obtain⟨ds,rfl,_⟩:=h;exact Iff.rfl
 |pool e sz l lt=>obtain⟨rfl,_⟩:=h;exact Iff.rfl
 |_=>cases h;exact Iff.rfl
def vC.yr{r:List Nat}{s t:cu}(h:vC r s t):t.yr=s.yr:=by
 cases s with
 |box e cs=>obtain⟨ds,rfl,_⟩:=h;rfl
 |pool e sz l lt=>obtain⟨rfl,_⟩:=h;rfl
 |_=>cases h;rfl
mutual
def Ren.one{r:List Nat}:∀{x y:AV},Ren r x y->x.one=true->y.one=true
 | .pv x,y,h,hx=>by simp only[Ren]at h;rw[h];exact hx
 | .own i,y,h,_=>by simp only[Ren]at h;obtain⟨j,_,rfl⟩:=h;rfl
 | .bad,_,_,hx=>by cases hx
 | .ref _ _ _,y,h,_=>by simp only[Ren]at h;obtain⟨j,_,rfl⟩:=h;rfl
 | .sub _ _ _ _,y,h,_=>by simp only[Ren]at h;obtain⟨j,_,rfl⟩:=h;rfl
 | .clo _ _,y,h,_=>by simp only[Ren]at h;obtain⟨j,rfl,_⟩:=h;rfl
 | .agg _,_,_,hx=>by cases hx
 | .tup _,_,_,hx=>by cases hx
end
def Ren.aBT{r:List Nat}:∀{x y:AV},Ren r x y->y.one=true->x.one=true:=by
 intro x y h hy;cases x with
 |pv x=>simp only[Ren]at h;subst h;exact hy
 |own i=>rfl
 |ref _ _ _=>rfl
 |sub _ _ _ _=>rfl
 |clo _ _=>rfl
 |bad=>simp only[Ren]at h;subst h;exact hy
 |agg cs=>simp only[Ren]at h;obtain⟨ds,rfl,_⟩:=h;cases hy
 |tup cs=>simp only[Ren]at h;obtain⟨ds,rfl,_⟩:=h;cases hy
def fK.Yr{r:List Nat}:∀{xs ys:List AV},fK r xs ys->(∀c∈ys,c.one=true)→∀c∈xs,c.one=true
 |[],ys,h,_=>by simp
 |x::xs,ys,h,hx=>by
  simp only[fK]at h;obtain⟨y,t,rfl,h1,h2⟩:=h;intro c hc;rcases zay.1 hc with rfl|hc
  ·exact h1.aBT (hx y ae)
  ·exact h2.Yr (λc hc=>hx c iN) c hc
def fK.adW{r:List Nat}:∀{xs ys:List AV},fK r xs ys->(∀c∈xs,c.one=true)→∀c∈ys,c.one=true
 |[],ys,h,_=>by simp only[fK]at h;subst h;simp
 |x::xs,ys,h,hx=>by
  simp only[fK]at h;obtain⟨y,t,rfl,h1,h2⟩:=h;intro c hc;rcases zay.1 hc with rfl|hc
  ·exact h1.one (hx x ae)
  ·exact h2.adW (λc hc=>hx c iN) c hc
structure Wk(r:List Nat)(σ σ':aw)(vals an:List Value):Prop where
 nodup:r.Nodup
 len:σ'.length=r.length
 iU:∀(j i:Nat),r[j]?=some i→∃s t,σ[i]?=some s/\σ'[j]?=some t/\vC r s t
 adO:an.length=r.length
 vals:∀(j i:Nat),r[j]?=some i->an[j]?=vals[i]?∧∃v,vals[i]?=some v
mutual
def Ren.ra{r:List Nat}{σ':aw}{an:List Value}(hA:Wk r σ σ' vals an){ok lT:Nat->Prop}(ep:∀b,ok b->lT b):∀(x y:AV) (v:Value),Ren r x y->RA ok σ vals w x v->RA lT σ' an w y v
 | .bad,y,v,h,_=>by simp only[Ren]at h;subst h;simp only[RA]
 | .pv x,y,v,h,hv=>by
  simp only[Ren]at h;subst h;simp only[RA]at hv ⊢;exact Rd.mono ep (λ_ _ _=>rfl) x v hv
 | .own i,y,v,h,hv=>by
  simp only[Ren]at h;obtain⟨j,hj,rfl⟩:=h;simp only[RA]at hv ⊢;rw[(hA.vals j i hj).1];exact hv
 | .ref i k o,y,v,h,hv=>by
  simp only[Ren]at h;obtain⟨j,hj,rfl⟩:=h;simp only[RA]at hv ⊢;obtain⟨_,hp,h1,h2⟩:=hv;obtain⟨s,t,hs,ht,iq⟩:=hA.iU j i hj;refine⟨(zaa.1 ht).1,hp,λe sz ap ak he=>?_,λs2 he mN=>?_⟩
  ·rw[ht]at he;cases he;have:s=.row e sz ap ak:=by
    cases s with
    |box e cs=>obtain⟨ds,h,_⟩:=iq;cases h
    |pool e sz l lt=>cases iq.1
    |_=>exact iq.symm
   subst this;rw[(hA.vals j i hj).1];exact h1 _ _ _ _ hs
  ·rw[ht]at he;cases he;rw[(hA.vals j i hj).1];exact h2 _ hs (by rw[<-iq.yr];exact mN)
 | .sub i s l n,y,v,h,hv=>by
  simp only[Ren]at h;obtain⟨j,hj,rfl⟩:=h;simp only[RA]at hv ⊢;obtain⟨s,t,hs,ht,iq⟩:=hA.iU j i hj;refine⟨(zaa.1 ht).1,?_⟩;rw[(hA.vals j i hj).1];exact hv.2
 | .agg cs,y,v,h,hv=>by
  simp only[Ren]at h;obtain⟨ds,rfl,h⟩:=h;simp only[RA]at hv ⊢;obtain⟨h1,vs,rfl,h2⟩:=hv;exact⟨h.adW h1,vs,rfl,fK.ra hA ep cs ds _ h h2⟩
 | .tup cs,y,v,h,hv=>by
  simp only[Ren]at h;obtain⟨ds,rfl,h⟩:=h;simp only[RA]at hv ⊢;obtain⟨vs,rfl,h2⟩:=hv;exact⟨vs,rfl,fK.ra hA ep cs ds _ h h2⟩
 | .clo f cs,y,v,h,hv=>by
  simp only[Ren]at h;obtain⟨ds,rfl,h⟩:=h;simp only[RA]at hv ⊢;obtain⟨vs,rfl,h2⟩:=hv;exact⟨vs,rfl,fK.ra hA ep cs ds _ h h2⟩
def fK.ra{r:List Nat}{σ':aw}{an:List Value}(hA:Wk r σ σ' vals an){ok lT:Nat->Prop}(ep:∀b,ok b->lT b):∀(xs ys:List AV) (vs:List Value),fK r xs ys->d_ ok σ vals w xs vs->d_ lT σ' an w ys vs
 |[],ys,vs,h,hv=>by simp only[fK]at h;subst h;simpa only[d_]using hv
 |x::xs,ys,vs,h,hv=>by
  simp only[fK]at h;obtain⟨y,t,rfl,h1,h2⟩:=h;simp only[d_]at hv ⊢;obtain⟨v,u,rfl,h3,h4⟩:=hv;exact⟨v,u,rfl,Ren.ra hA ep x y v h1 h3,fK.ra hA ep xs t u h2 h4⟩
end
end
end
end Go.Dv
namespace Go.Dv
open Go.RowKit
section
mutual
def RR(ok:Nat->Prop)(B:Nat->Prop)(w:World):RV->Value->List Value->Prop
 | .pv x,v,us=>Rd ok w x v/\us=[]
 | .fresh e sz ak,v,us=>us=[v]/\0<sz∧∃cells,u9 w B e sz true v ak.length cells/\(∀x∈ak,x.cells.length=sz)/\(∀c∈ak.flatMap PV.cells,c.one=true)/\cE ok w (ak.flatMap PV.cells) cells
 | .row e sz ak,v,us=>us=[v]/\0<sz∧∃cells,u9 w B e sz false v ak.length cells/\(∀x∈ak,x.cells.length=sz)/\(∀c∈ak.flatMap PV.cells,c.one=true)/\cE ok w (ak.flatMap PV.cells) cells
 | .mp l,v,us=>us=[v]∧∃b es n,v=.map (some b)/\ok b/\w.heap[b]?=some (.map es n)/\KO es l
 | .agg rs,v,us=>∃vs,v=.agg vs/\(∀r∈rs,match r with| .pv x=>x.one=true| .fresh _ _ _=>True| .row _ _ _=>True|_=>False)/\XG ok B w rs vs.toList us
 | .tup rs,v,us=>∃vs,v=.tuple vs/\XG ok B w rs vs.toList us
def XG(ok:Nat->Prop)(B:Nat->Prop)(w:World):List RV->List Value->List Value->Prop
 |[],vs,us=>vs=[]/\us=[]
 |r::rs,vs,us=>∃v t FT Xj,vs=v::t/\us=FT++Xj/\RR ok B w r v FT/\XG ok B w rs t Xj
end
def XI(ok:Nat->Prop)(lone:Bool)(w w':World)(us:List Value)(b:Nat):Prop:=
 ((lone=false/\ok b)\/w.heap.size<=b)/\b<w'.heap.size∧∀u∈us,bI u≠some b
structure SY(n0:Nat)(X X':Nat->Prop)(W W':World):Prop where
 size:W.heap.size<=W'.heap.size
 same:∀b,b<W.heap.size→¬X b->(b<n0∨∃o:Obj,W.heap[b]?=some o/\o.isCells=true)->W'.heap[b]?=W.heap[b]?
 adQ:∀b,X' b->X b\/W.heap.size<=b
def SY.trans{n0:Nat}{X Y Z:Nat->Prop}{A B C:World}(h:SY n0 X Y A B)(k:SY n0 Y Z B C):SY n0 X Z A C:=by
 refine⟨zat h.size k.size,λb hb hx hc=>?_,λb hb=>?_⟩
 ·have e:=h.same b hb hx hc;rw[<-e];refine k.same b (zag hb h.size) (λhy=>(h.adQ b hy).elim hx λg=>aa) ?_;rw[e];exact hc
 ·rcases k.adQ b hb with g|g
  ·exact h.adQ b g
  ·exact .inr (zat h.size g)
def SY.put{n0:Nat}{X:Nat->Prop}{W:World}{l:Nat}{o:Obj}(o':Obj)(hl:n0<=l)(h:W.heap[l]?=some o)(ho:o.isCells=false):SY n0 X X W (W.putObj l o'):=
 ⟨by simp[World.putObj],λb _ _ hc=>World.putObj_heap_other (λe=>by
  subst e;rcases hc with hc|⟨o2,h2,h3⟩
  ·omega
  ·rw[h]at h2;cases h2;rw[ho]at h3;cases h3),λ_ h=>.inl h⟩
def ayP{α:Type}(FR:Nat->Prop)(n:Nat)(P:Program)(g:Nat)(lb:Array Value)(Xp:α->Array Value)(Nx:List α->α->Prop)(S Sp:List α->Prop)(w:World):Prop:=
 ∀(l:Nat) (J:List α->(Nat->Prop)->World->Prop) (Jx:List α->World->Prop) (W:World),Below w.heap.size w W->(∀X,AbidesFrom W.heap.size λpre=>J pre X)->AbidesFrom W.heap.size Jx->
  (∀pre X W1,J pre X W1→∀b,X b->b<W1.heap.size)->
  (∀pre x X W1,J pre X W1->Nx pre x->YieldAt Fence.wide (n-1) P l (Xp x) W1 λe W'=>
    (e=.returned (.bool true)∧∃X',J (pre++[x]) X' W'/\SY w.heap.size X X' W1 W')\/(e=.returned (.bool false)/\Jx (pre++[x]) W'))->
  ∀X0,(∀b,FR b→¬X0 b)->J [] X0 W->
  CallsIn Fence.wide n P g (#[.func (.yield l) #[] #[]]++lb) W λe W'=>(∃v,e=.returned v)/\((∃xs X,S xs/\J xs X W')\/(∃pre,Sp pre/\Jx pre W'))
def axb(P:Program)(g:FuncId)(iter:List PV->List (List PV)->Prop):Prop:=
 ∀(m:Nat) (w:World) (FR:Nat->Prop) (gB:List PV) (vs:Array Value) (L:List (List PV)),(∀b,FR b->b<w.heap.size)->cE FR w gB vs.toList->iter gB L->
  (∃(α:Type) (y:α->List PV) (en:α->Array Value),(∀x,y x∈L/\cE FR w (y x) (en x).toList)/\ayP FR m P g vs en (λpre x=>L[pre.length]?=some (y x)) (λxs=>xs.map y=L) (λpre=>pre.map y<+:L) w)/\
   ∀(args:Array Value) (w:World),(callFunc g args).run P w=.ok (.enter g args) w
def Z1(P:Program)(w:World)(ok:Nat->Prop)(ep:∀b,ok b->b<w.heap.size)(σ0:aw)(cX:List Value):Cx:=
 { P:=P,w0:=w,OG:=ok,hA:=ep,own:=λb=>w.heap.size<=b\/Av σ0 cX b,dx:=λ_ h=>.inl h,rY:=σ0,ET:=cX }
def Enters(P:Program)(f:FuncId):Prop:=∀(args:Array Value) (w:World),(callFunc f args).run P w=.ok (.enter f args) w
def bM(P:Program)(f:FuncId)(S:Spec):Prop:=
 (S.fn=true→∀ps K,S.run ps K→∃x,K (.pv x)∧∀K':RV->Prop,K' (.pv x)->S.run ps K')/\(S.fn=true->S.lone=true/\S.mu=false)/\
 (∀(w:World) (ok:Nat->Prop) (ps:List PV) (vs:Array Value) (K:RV->Prop),S.mu=false->(∀b,ok b->b<w.heap.size)->cE ok w ps vs.toList->S.run ps K->
   Enters P f/\Calls P f vs w λe w'=>∃v r us,e=.returned v/\K r/\Below w.heap.size w w'/\RR (XI ok S.lone w w' us) (λb=>w.heap.size<=b) w' r v us/\
    (∀u∈us,∀b,bI u=some b->w.heap.size<=b)∧∀(i j:Nat) (u t:Value) (b:Nat),i≠j->us[i]?=some u->us[j]?=some t->bI u=some b->bI t≠some b)/\axb P f S.iter/\
 (∀(w:World) (ok:Nat->Prop) (ep:∀b,ok b->b<w.heap.size) (σ0:aw) (cX:List Value) (aHk:List AV) (vs:Array Value) (K:AV->aw->Prop),S.mu=true->ba (Z1 P w ok ep σ0 cX) σ0 cX w->
   d_ (Ok (Z1 P w ok ep σ0 cX) σ0 cX w) σ0 cX w aHk vs.toList->S.um aHk σ0 K->
   Enters P f/\Calls P f vs w λe w'=>∃v res σ1 fO,e=.returned v/\K res σ1/\ba (Z1 P w ok ep σ0 cX) σ1 fO w'/\RA (Ok (Z1 P w ok ep σ0 cX) σ1 fO w') σ1 fO w' res v)
def Sound(P:Program)(Γ:Ctx):Prop:=∀f,bM P f (Γ f)
section
variable {cx:Cx} {env:Env} {σ:aw} {vals:List Value} {a:Act} {w w':World} {o:Oper}
def mf{α:Type}(l m:List α)(j:Nat):(l++m)[j]?=if j<l.length then l[j]? else m[j-l.length]?:=by
 by_cases h:j<l.length
 ·rw[if_pos h,zar h]
 ·rw[if_neg h,zam aa]
def ba.SZ(hr:ba cx σ vals w)(M6:Below w.heap.size w w')(ss:List cu)(us:List Value)(hlen:us.length=ss.length)(fY:∀u∈us,u.oneCell'=true)(kp:∀u∈us,∀b,bI u=some b->w.heap.size<=b)
 (aaR:∀(i j:Nat) (u t:Value) (b:Nat),i≠j->us[i]?=some u->us[j]?=some t->bI u=some b->bI t≠some b)
 (hb:cm cx σ vals w (σ++ss) (vals++us) w'→∀(i:Nat) (s:cu) (u:Value),ss[i]?=some s->us[i]?=some u->RB cx (σ++ss) (vals++us) w' s u)
 (hnp:∀s∈ss,∀(v:Value) (b:Nat),s.bk v b->bI v=some b):
 ba cx (σ++ss) (vals++us) w'/\cm cx σ vals w (σ++ss) (vals++us) w':=by
 obtain⟨dp,mM⟩:=hr.grow M6;have EI:∀b,Av (σ++ss) (vals++us) b->Av σ vals b\/w.heap.size<=b:=by
  rintro b ⟨i,s,u,h1,h3,h4⟩;rw[mf]at h1 h3;rw[hr.len]at h3;split at h1
  ·rename_i he;rw[if_pos he]at h3;exact .inl ⟨i,s,u,h1,h3,h4⟩
  ·rename_i he;rw[if_neg he]at h3;exact .inr (kp u (zad h3) b (hnp s (zad h1) u b h4))
 have hk:cm cx σ vals w (σ++ss) (vals++us) w':=by
  refine⟨λi u h=>?_,ae,λb h=>⟨h.1,zag h.2.1 M6.size,λhm=>?_⟩,λb h=>M6.block b h.2.1,λi hi e sz ap ak h=>?_,λi hi s2 h mN=>?_⟩
  ·rw[mf,if_pos (zaa.1 h).1];exact h
  ·rcases EI b hm with hm|h2
   ·exact h.2.2 hm
   ·have:=h.2.1;omega
  ·rw[mf,if_pos hi]at h;exact⟨ap,ak,h⟩
  ·rw[mf,if_pos hi]at h;exact⟨s2,h,mN⟩
 have VE:Fr cx (σ++ss) (vals++us) w':=⟨dp.fr.size,dp.fr.same,λb hm vV=>by
  rcases EI b hm with hm|hm
  ·exact hr.fr.nB b hm vV
  ·have:=cx.hk b vV;have:=hr.fr.size;omega⟩
 refine⟨⟨dp.below,λu hu=>by rcases zax.1 hu with hu|hu;exact hr.one u hu;exact fY u hu,by simp[hr.len,hlen],λi t u h1 h2=>?_,λi j t1 t2 u1 u2 b iT h1 h2 h5 h6 h7 h8=>?_,VE,hr.pin.keep hk⟩,hk⟩
 ·rw[mf]at h1 h2;rw[hr.len]at h2;split at h1
  ·rename_i he;rw[if_pos he]at h2;exact hk.rb (hr.iU i t u h1 h2) (λb Hj=>M6.block b ((hr.iU i t u h1 h2).block Hj).2)
  ·rename_i he;rw[if_neg he]at h2;exact hb hk _ t u h1 h2
 ·rw[mf]at h1 h2 h5 h6;rw[hr.len]at h5 h6;split at h1
  ·rename_i hi;rw[if_pos hi]at h5;have g1:=((hr.iU i t1 u1 h1 h5).block h7).2;split at h2
   ·rename_i hj;rw[if_pos hj]at h6;exact hr.oP i j t1 t2 u1 u2 b iT h1 h2 h5 h6 h7 h8
   ·rename_i hj;rw[if_neg hj]at h6;have:=kp u2 (zad h6) b (hnp t2 (zad h2) u2 b h8);omega
  ·rename_i hi;rw[if_neg hi]at h5;have h7':=hnp t1 (zad h1) u1 b h7;have g1:=kp u1 (zad h5) b h7';split at h2
   ·rename_i hj;rw[if_pos hj]at h6;have:=((hr.iU j t2 u2 h2 h6).block h8).2;omega
   ·rename_i hj;rw[if_neg hj]at h6;exact aaR _ _ u1 u2 b aa h5 h6 h7' (hnp t2 (zad h2) u2 b h8)
mutual
def fm:RV->List cu
 | .pv _=>[]
 | .fresh e sz ak=>[.row e sz true ak]
 | .row e sz ak=>[.row e sz false ak]
 | .mp l=>[.mp l]
 | .agg rs=>tU rs
 | .tup rs=>tU rs
def tU:List RV->List cu
 |[]=>[]
 |r::rs=>fm r++tU rs
end
mutual
def FN:∀(r:RV),∀s∈fm r,∀(v:Value) (b:Nat),s.bk v b->bI v=some b
 | .pv _,s,hs,_,_,_=>by simp[fm]at hs
 | .fresh _ _ _,s,hs,_,_,h=>by simp[fm]at hs;subst hs;exact h
 | .row _ _ _,s,hs,_,_,h=>by simp[fm]at hs;subst hs;exact h
 | .mp _,s,hs,_,_,h=>by simp[fm]at hs;subst hs;cases h
 | .agg rs,s,hs,v,b,h=>by simp only[fm]at hs;exact Jn rs s hs v b h
 | .tup rs,s,hs,v,b,h=>by simp only[fm]at hs;exact Jn rs s hs v b h
def Jn:∀(rs:List RV),∀s∈tU rs,∀(v:Value) (b:Nat),s.bk v b->bI v=some b
 |[],s,hs,_,_,_=>by simp[tU]at hs
 |r::rs,s,hs,v,b,h=>by
  simp only[tU]at hs;rcases zax.1 hs with hs|hs
  ·exact FN r s hs v b h
  ·exact Jn rs s hs v b h
end
mutual
def GD:Nat->RV->AV
 |_,.pv x=>.pv x
 |n,.fresh _ _ _=>.own n
 |n,.row _ _ _=>.own n
 |n,.mp _=>.own n
 |n,.agg rs=>.agg (XD n rs)
 |n,.tup rs=>.tup (XD n rs)
def XD:Nat->List RV->List AV
 |_,[]=>[]
 |n,r::rs=>GD n r::XD (n+(fm r).length) rs
end
def QZ:(∀(r:RV) (σ:aw) (K:AV->aw->Prop),re r σ K->K (GD σ.length r) (σ++fm r)):=by
 intro r;refine RV.rec (motive_1:=λr=>∀(σ:aw) (K:AV->aw->Prop),re r σ K->K (GD σ.length r) (σ++fm r))
  (motive_2:=λrs=>∀(σ:aw) (K:List AV->aw->Prop),
    (RV.rec_1 (motive_1:=λ_=>aw->(AV->aw->Prop)->Prop) (motive_2:=λ_=>aw->(List AV->aw->Prop)->Prop)
      (λx σ K=>K (.pv x) σ) (λe sz ak σ K=>iW σ λn=>eo σ (.row e sz true ak) λσ=>K (.own n) σ) (λe sz ak σ K=>iW σ λn=>eo σ (.row e sz false ak) λσ=>K (.own n) σ)
      (λ_ ih σ K=>ih σ λl σ=>K (.agg l) σ) (λ_ ih σ K=>ih σ λl σ=>K (.tup l) σ) (λl σ K=>iW σ λn=>eo σ (.mp l) λσ=>K (.own n) σ) (λσ K=>K [] σ)
      (λ_ _ h t σ K=>h σ λa σ=>t σ λl σ=>K (a::l) σ) rs:aw->(List AV->aw->Prop)->Prop) σ K->K (XD σ.length rs) (σ++tU rs))
  ?_ ?_ ?_ ?_ ?_ ?_ ?_ ?_ r
 ·intro x σ K h;have h':K (.pv x) σ:=h;simpa[GD,fm]using h'
 ·intro e sz ak σ K h;exact bR _ _ _ (cW σ _ h)
 ·intro e sz ak σ K h;exact bR _ _ _ (cW σ _ h)
 ·intro rs ih σ K h;exact ih σ _ h
 ·intro rs ih σ K h;exact ih σ _ h
 ·intro l σ K h;exact bR _ _ _ (cW σ _ h)
 ·intro σ K h;have h':K [] σ:=h;simpa[XD,tU]using h'
 ·intro r rs ih1 ih2 σ K h;have h1:=ih1 σ _ h;have h2:=ih2 _ _ h1;simpa[XD,tU,zah]using h2
def af3(ok:Nat->Prop)(B:Nat->Prop)(w:World)(s:cu)(u:Value):Prop:=
 (∃e sz ap ak cells,s=.row e sz ap ak/\0<sz/\u9 w B e sz ap u ak.length cells/\(∀x∈ak,x.cells.length=sz)/\(∀c∈ak.flatMap PV.cells,c.one=true)/\cE ok w (ak.flatMap PV.cells) cells)∨∃l b es n,s=.mp l/\u=.map (some b)/\ok b/\w.heap[b]?=some (.map es n)/\KO es l
def RR.news{ok:Nat->Prop}{B:Nat->Prop}:(∀(r:RV) (v:Value) (us:List Value),RR ok B w r v us->us.length=(fm r).length∧∀(i:Nat) (s:cu) (u:Value),(fm r)[i]?=some s->us[i]?=some u->
 af3 ok B w s u):=by
 intro r;refine RV.rec (motive_1:=λr=>∀(v:Value) (us:List Value),RR ok B w r v us->us.length=(fm r).length∧∀(i:Nat) (s:cu) (u:Value),(fm r)[i]?=some s->us[i]?=some u->
  af3 ok B w s u)
  (motive_2:=λrs=>∀(vs:List Value) (us:List Value),XG ok B w rs vs us->us.length=(tU rs).length∧∀(i:Nat) (s:cu) (u:Value),(tU rs)[i]?=some s->us[i]?=some u->
    af3 ok B w s u)
  ?_ ?_ ?_ ?_ ?_ ?_ ?_ ?_ r
 ·intro x v us h;simp only[RR]at h;rw[h.2];exact⟨rfl,λi s u h=>by simp[fm]at h⟩
 ·intro e sz ak v us h;simp only[RR]at h;obtain⟨rfl,h0,cells,h1,h2,h3,h4⟩:=h;refine⟨rfl,λi s u g1 g2=>?_⟩;cases i with
  |zero=>simp[fm]at g1 g2;subst g1 g2;exact .inl ⟨e,sz,true,ak,cells,rfl,h0,h1,h2,h3,h4⟩
  |succ i=>simp[fm]at g1
 ·intro e sz ak v us h;simp only[RR]at h;obtain⟨rfl,h0,cells,h1,h2,h3,h4⟩:=h;refine⟨rfl,λi s u g1 g2=>?_⟩;cases i with
  |zero=>simp[fm]at g1 g2;subst g1 g2;exact .inl ⟨e,sz,false,ak,cells,rfl,h0,h1,h2,h3,h4⟩
  |succ i=>simp[fm]at g1
 ·intro rs ih v us h;simp only[RR]at h;obtain⟨vs,_,_,h⟩:=h;exact ih _ _ h
 ·intro rs ih v us h;simp only[RR]at h;obtain⟨vs,_,h⟩:=h;exact ih _ _ h
 ·intro l v us h;simp only[RR]at h;obtain⟨rfl,b,es,n,h1,h2,h3,h4⟩:=h;refine⟨rfl,λi s u g1 g2=>?_⟩;cases i with
  |zero=>simp[fm]at g1 g2;subst g1 g2;exact .inr ⟨l,b,es,n,rfl,h1,h2,h3,h4⟩
  |succ i=>simp[fm]at g1
 ·intro vs us h;simp only[XG]at h;rw[h.2];exact⟨rfl,λi s u h=>by simp[tU]at h⟩
 ·intro r rs ih1 ih2 vs us h;simp only[XG]at h;obtain⟨v,t,FT,Xj,rfl,rfl,h1,h2⟩:=h;obtain⟨l1,g1⟩:=ih1 _ _ h1;obtain⟨l2,g2⟩:=ih2 _ _ h2;refine⟨by simp[tU,l1,l2],λi s u f1 f2=>?_⟩;simp only[tU,mf]at f1 f2;rw[l1]at f2;split at f1
  ·rename_i hi;rw[if_pos hi]at f2;exact g1 i s u f1 f2
  ·rename_i hi;rw[if_neg hi]at f2;exact g2 _ s u f1 f2
def RR.ra{ok lT:Nat->Prop}{B:Nat->Prop}(ep:∀b,ok b->lT b)(σ':aw)(an:List Value):∀(r:RV) (v:Value) (us:List Value) (n:Nat),RR ok B w r v us->(∀(i:Nat) (u:Value),us[i]?=some u->an[n+i]?=some u)->RA lT σ' an w (GD n r) v:=by
 intro r;refine RV.rec (motive_1:=λr=>∀(v:Value) (us:List Value) (n:Nat),RR ok B w r v us->(∀(i:Nat) (u:Value),us[i]?=some u->an[n+i]?=some u)->RA lT σ' an w (GD n r) v)
  (motive_2:=λrs=>∀(vs:List Value) (us:List Value) (n:Nat),XG ok B w rs vs us->(∀(i:Nat) (u:Value),us[i]?=some u->an[n+i]?=some u)->d_ lT σ' an w (XD n rs) vs)
  ?_ ?_ ?_ ?_ ?_ ?_ ?_ ?_ r
 ·intro x v us n h _;simp only[RR]at h;simp only[GD,RA];exact Rd.mono ep (λ_ _ _=>rfl) x v h.1
 ·intro e sz ak v us n h hv;simp only[RR]at h;obtain⟨rfl,_⟩:=h;simp only[GD,RA];exact hv 0 v rfl
 ·intro e sz ak v us n h hv;simp only[RR]at h;obtain⟨rfl,_⟩:=h;simp only[GD,RA];exact hv 0 v rfl
 ·intro rs ih v us n h hv;simp only[RR]at h;obtain⟨vs,rfl,h1,h⟩:=h;simp only[GD,RA];refine⟨λc hc=>?_,vs,rfl,ih _ _ n h hv⟩;have:∀(rs:List RV) (n:Nat),(∀r∈rs,match r with| .pv x=>x.one=true| .fresh _ _ _=>True| .row _ _ _=>True|_=>False)→∀c∈XD n rs,c.one=true:=by
   intro rs
   induction rs with
   |nil=>intro n _ c hc;simp[XD]at hc
   |cons r rs ih=>
    intro n h c hc;simp only[XD]at hc;rcases zay.1 hc with rfl|hc
    ·have:=h r ae;cases r with
     |pv x=>exact this
     |fresh e sz ak=>rfl
     |row e sz ak=>rfl
     |_=>exact this.elim
    ·exact ih _ (λr hr=>h r (by simp[hr])) c hc
  exact this rs n h1 c hc
 ·intro rs ih v us n h hv;simp only[RR]at h;obtain⟨vs,rfl,h⟩:=h;simp only[GD,RA];exact⟨vs,rfl,ih _ _ n h hv⟩
 ·intro l v us n h hv;simp only[RR]at h;obtain⟨rfl,_⟩:=h;simp only[GD,RA];exact hv 0 v rfl
 ·intro vs us n h _;simp only[XG]at h;simp only[XD,d_];exact h.1
 ·intro r rs ih1 ih2 vs us n h hv;simp only[XG]at h;obtain⟨v,t,FT,Xj,rfl,rfl,h1,h2⟩:=h;simp only[XD,d_];have l1:=(RR.news r v FT h1).1;refine⟨v,t,rfl,ih1 v FT n h1 (λi u hi=>hv i u (by rw[mf,if_pos (zaa.1 hi).1];exact hi)),ih2 t Xj _ h2 (λi u hi=>?_)⟩;have:=hv (FT.length+i) u (by rw[mf,if_neg aa,zaw];exact hi);rwa[<-l1,zaJ]
def Xg{K:AV->aw->Prop}{Γ:Ctx}(hΓ:Sound cx.P Γ)(hr:Rel cx env σ vals a w)(f:FuncId)(aHk:List AV)(vs:Array Value)(Na:(execOp a.eval o).run cx.P w=(callFunc f vs).run cx.P w)(o_:d_ (Ok cx σ vals w) σ vals w aHk vs.toList)(L0:(Γ f).mu=false)
 (hK:bJ σ aHk λps=>match (Γ f).lone with
   |true=>(Γ f).run ps λr=>re r σ K
   |false=>dW aHk σ λσ=>(Γ f).run ps λr=>re r σ K):Out cx env a w o K:=by
 have main:∀(σ1:aw) (ok:Nat->Prop) (ps:List PV),Rel cx env σ1 vals a w->(∀b,ok b->b<w.heap.size)->((Γ f).lone=false→∀b,ok b->Ok cx σ1 vals w b)->cE ok w ps vs.toList->((Γ f).run ps λr=>re r σ1 K)->Out cx env a w o K:=by
  intro σ1 ok ps zY aCs Xq iY ec next Q KW
  obtain⟨sZ,aaS⟩:=(hΓ f).2.2.1 w ok ps vs _ L0 aCs iY ec;unfold Oper.wp;rw[Na,sZ,Oper.upon_enter];refine aaS.mono ?_;rintro e w' ⟨v,r,us,rfl,hK,M6,hrr,kp,aaR⟩;have hK:=QZ r σ1 K hK;obtain⟨hl,xG⟩:=RR.news r v us hrr;have fY:∀u∈us,u.oneCell'=true:=by
   intro u hu;obtain⟨i,hi⟩:=zaB.1 hu;have hin:i<(fm r).length:=by rw[<-hl];exact(zaa.1 hi).1
   rcases xG i _ u (zak hin) hi with⟨_,_,_,_,_,_,_,h,_⟩|⟨_,b,_,_,_,rfl,_⟩
   case inr=>rfl
   rcases h.2 with⟨rfl,_⟩|⟨_,_,_,_,rfl,_⟩<;>rfl
  have asf:∀b,XI ok (Γ f).lone w w' us b->Ok cx (σ1++fm r) (vals++us) w' b:=by
   rintro b ⟨h1,h2,h3⟩;refine⟨?_,h2,?_⟩
   ·rcases h1 with⟨h0,h1⟩|h1
    ·exact(Xq h0 b h1).1
    ·exact .inr (cx.dx _ (zat zY.s.below.size h1))
   ·rintro⟨i,s,u,g1,g3,g4⟩;rw[mf]at g1 g3;rw[zY.s.len]at g3;split at g1
    ·rename_i hi;rw[if_pos hi]at g3;rcases h1 with⟨h0,h1⟩|h1
     ·exact(Xq h0 b h1).2.2 ⟨i,s,u,g1,g3,g4⟩
     ·have:=((zY.s.iU i s u g1 g3).block g4).2;omega
    ·rename_i hi;rw[if_neg hi]at g3;exact h3 u (zad g3) (FN r _ (zad g1) u b g4)
  obtain⟨hs,vV⟩:=zY.s.SZ M6 (fm r) us hl fY kp aaR (λvV i s u g1 g2=>by
   rcases xG i s u g1 g2 with⟨e,sz,ap,ak,cells,rfl,h0,h1,h2,h3,h4⟩|⟨l,b,es,n,rfl,rfl,h2,h3,h4⟩
   case inr=>exact⟨b,es,n,rfl,asf b h2,h3,h4⟩
   refine⟨h0,cells,⟨h1.1,?_⟩,h2,h3,cE.mono asf (λ_ _ _=>rfl) _ _ h4⟩;rcases h1.2 with h|⟨g,cap,cur,fr,f1,f2,f3⟩
   ·exact .inl h
   ·exact .inr ⟨g,cap,cur,fr,f1,cx.dx _ (zat zY.s.below.size f2),f3⟩) (FN r)
  refine KW _ _ _ v w' hK (zY.keep hs vV) ?_;refine RR.ra asf _ _ r v us σ1.length hrr (λi u hi=>?_);rw[mf,if_neg (by rw[zY.s.len];omega),zY.s.len,zaw];exact hi
 obtain⟨ps,hk,iY,_,LY⟩:=nD hr.s _ _ _ o_ hK;cases Gu:(Γ f).lone with
 |true=>
  simp only[Gu]at hk;refine main σ (OkM cx σ vals w) ps hr (λb hb=>?_) (λh=>by rw[Gu]at h;cases h) iY hk;rcases hb with hb|⟨i,s,u,h1,h3,h4⟩
  ·exact hb.2.1
  ·exact((hr.s.iU i s u h1 h3).block h4).2
 |false=>
  simp only[Gu]at hk;obtain⟨xs,σ1,rfl,hk,_,lZ,ar_,iY,_⟩:=jN _ σ σ _ (λz=>z=ps) _ (Fz.refl σ) hr.s o_ (LY _ rfl) hk;exact main σ1 (Ok cx σ1 vals w) _ (hr.keep lZ ar_) (λb hb=>hb.2.1) (λ_ b hb=>hb) iY hk
end
end
end Go.Dv
namespace Go.Dv
open Go.RowKit
section
section
variable {cx:Cx} {env:Env} {σ:aw} {vals:List Value} {a:Act} {w w':World} {o:Oper}
def Kp:∀(l:List AV) (σ:aw) (vs:List Value) (K:List PV->aw->Prop),ba cx σ vals w->d_ (Ok cx σ vals w) σ vals w l vs->vZ l σ K->
 ∃xs σ',K xs σ'/\ba cx σ' vals w/\cm cx σ vals w σ' vals w/\cE (Ok cx σ' vals w) w xs vs:=by
 intro l
 induction l with
 |nil=>
  intro σ vs K hr h hK;simp only[d_]at h;exact⟨[],σ,hK,hr,cm.refl,by simp only[cE];exact h⟩
 |cons av l ih=>
  intro σ vs K hr h hK;simp only[d_]at h;obtain⟨v,t,rfl,hv,ht⟩:=h;have fin:∀(σ1:aw) (y:PV),ba cx σ1 vals w->cm cx σ vals w σ1 vals w->Rd (Ok cx σ1 vals w) w (.cptr y) v->(vZ l σ1 λxs σ=>K (.cptr y::xs) σ)->
   ∃xs σ',K xs σ'/\ba cx σ' vals w/\cm cx σ vals w σ' vals w/\cE (Ok cx σ' vals w) w xs (v::t):=by
   intro σ1 y zY hk1 iY hK1;obtain⟨xs,σ',h1,h2,h3,h4⟩:=ih σ1 t _ zY (hk1.T4 _ _ ht) hK1;exact⟨_,σ',h1,h2,hk1.trans h3,by simp only[cE];exact⟨v,t,rfl,h3.rd iY,h4⟩⟩
  cases av with
  |pv x=>
   cases x with
   |cptr y=>simp only[RA]at hv;exact fin σ y hr cm.refl hv hK
   |_=>exact dN
  |ref id idx off=>
   simp only[RA]at hv;obtain⟨aS,_,_,sM⟩:=hv;obtain⟨b,hb,hk⟩:=az _ _ _ (show dm σ id _ from hK);cases b with
   |box e cs=>
    cases off with
    |zero=>
     have hk:bJ σ cs λt=>jw t λx=>dW cs σ λσ=>iX σ id (.fz (.cptr x)) λσ=>vZ l σ λxs σ=>K (.cptr x::xs) σ:=hk
     obtain⟨u,hu,nQ⟩:=hr.val hb;obtain⟨u',g,Pf,M9,hv⟩:=sM _ hb rfl;rw[hu]at Pf;cases Pf;obtain⟨b,arr,e1,e2,e3,e4,e5⟩:=nQ;obtain⟨txs,kV,_,_,LY⟩:=nD hr cs _ _ e5 hk;have hbv:∃x,(∀(K:PV->Prop),jw txs K->K x)/\jw txs λy=>y=x:=by
      have:∀K:PV->Prop,jw txs K→∃x,(∀(K:PV->Prop),jw txs K->K x)/\jw txs λy=>y=x:=by
       intro K h;cases txs with
       |nil=>exact⟨_,λ_ h=>h,rfl⟩
       |cons c r=>cases r with
        |cons d r=>exact⟨_,λ_ h=>h,rfl⟩
        |nil=>cases c with
         |agg cs=>exact h.elim
         |_=>exact⟨_,λ_ h=>h,rfl⟩
      exact this _ kV
     obtain⟨x,Pb,s8⟩:=hbv;have hk3:=Pb _ kV;obtain⟨xs2,σ1,rfl,hk4,hfz,zY,hk1,aCt,fY⟩:=jN cs σ σ _ (λz=>z=txs) _ (Fz.refl σ) hr e5 (LY _ rfl) hk3;have vT:σ1[id]?=some (.box e cs):=by
      rcases hfz id with h|⟨_,_,_,_,h,_⟩
      ·rw[h];exact hb
      ·rw[hb]at h;cases h
     have aCu:id<σ1.length:=(zaa.1 vT).1;obtain⟨x',hx3,hx4⟩:=s_ (w:=w) s8 (fY e4);subst hx3;obtain⟨_,Hm⟩:=bu _ _ _ _ hk4;obtain⟨qH,aCw⟩:=zY.ED (x:=.cptr x') vT rfl (λlT v' AF _ ep Hj=>by
      rw[hu]at AF;cases AF;rw[e1];exact hx4 lT arr b _ _ e3 (cE.mono ep (λ_ _ _=>rfl) _ _ aCt) (Hj b (by rw[e1];rfl))) (λ_=>rfl)
     refine fin _ x' qH (hk1.trans aCw) ?_ Hm;have:=qH.iU id _ _ (by rw[List.getElem?_set_self aCu]) hu;have hvu:v=u:=by rw[hv,M9]
     rw[hvu];exact this
    |succ off=>exact fG
   |fz y=>
    cases off with
    |zero=>
     cases y with
     |cptr y=>
      obtain⟨u,hu,nQ⟩:=hr.val hb;obtain⟨u',g,Pf,M9,hv⟩:=sM _ hb rfl;rw[hu]at Pf;cases Pf;have hvu:v=u:=by rw[hv,M9]
      exact fin σ y hr cm.refl (by rw[hvu];exact nQ) hk
     |_=>exact fG
    |succ off=>exact fG
   |_=>cases off<;>exact fG
  |_=>exact dN
def abF{K:AV->aw->Prop}(hr:Rel cx env σ vals a w)(f:FuncId)(first gB:Array Operand)(ho:o.op=.makeFunc (.func f) first gB)(hf:first.toList=[])
 (hK:vZ (gB.toList.map (a_ env)) σ λxs σ=>K (.pv (.clo f xs)) σ):Out cx env a w o K:=by
 obtain⟨xs,σ',h1,h2,h3,h4⟩:=Kp _ σ _ _ hr.s (hr.evL gB.toList) hK;have hf':first= #[]:=Array.toList_eq_nil_iff.1 hf
 refine Out.run (v:=.func (.func f) #[] (gB.map a.eval)) (by simp[execOp,ho,Instr.makeFunc,hf']) (hr.keep h2 h3) (av:=.pv (.clo f xs)) ?_ h1;simp only[RA,Rd];exact⟨_,rfl,yA⟩
end
end
end Go.Dv
end
