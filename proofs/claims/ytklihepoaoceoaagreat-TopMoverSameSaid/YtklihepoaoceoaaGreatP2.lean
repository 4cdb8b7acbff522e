/- Own work: parts of the proof, shortened and laid together by a tool of our own. -/
import Derived.Test.YtklihepoaoceoaaGreatP1
import Derived.MapKept
import Derived.Orders
import Derived.TacticsIn
import Derived.OrdersIn
import Derived.RangeFuncCalls
import Derived.ControlIn
import Derived.OwnWalk
import Derived.RangeFuncLeaves
set_option linter.defProp false
set_option linter.unusedSimpArgs false
set_option linter.unusedVariables false
open List renaming getElem?_eq_some_iff→zaa, getElem?_eq_getElem→zah, getElem?_append_left→zar, mem_append→zaA, getElem?_append_right→zak, append_nil→zbg, mem_range→zbp, length_append→zad, getElem?_eq_none→zaM, flatMap_cons→zan, mem_of_getElem?→zag, eq_nil_of_length_eq_zero→zaf, mem_filter→zbq, map_cons→zau, append_assoc→zaj, all_eq_true→zbr, mem_append_right→zbs, mem_of_mem_take→za5, eq_of_mem_replicate→zbt, take_of_length_le→za1, mem_iff_getElem?→zaG, getD_eq_getElem?_getD→zbu, ext_getElem?→zbb, mem_append_left→zbw, mem_cons→zax, map_append→zaY, nodup_append→zbx, contains_iff_mem→zbz, mem_of_mem_drop→zbA, mem_flatMap→zbB, flatMap_append→zaz, getElem?_range→zbD, mem_map→zaX, getElem?_map→zaD, getElem?_set→zaR, length_take→zal, length_cons→zap, take_append_drop→zaF, map_congr_left→zbG, getElem?_drop→zaB, getElem?_inj→zbI, cons_append→zbe, getElem?_cons_succ→zbL, length_nil→zbh, length_set→za0, append_eq_nil_iff→zbN, getElem?_set_self→zbO, length_singleton→za2, getD_cons_zero→zbS, filter_eq_self→zbT, filter_append→zbV, getElem?_take→zaK, filter_congr→zbX, length_drop→zay, filter_cons→zbZ, nodup_range→zb0, take_left'→zaJ, nil_append→zaZ, length_map→zaw, range_add→zb2
open Array renaming getD_eq_getD_getElem?→zbo, getElem?_eq_some_iff→zao, getElem?_eq_getElem→zaI, getElem?_setIfInBounds_self_of_lt→zbC, getElem?_setIfInBounds→zbH, length_toList→zac
open Bool renaming and_eq_true→zaT, not_eq_true'→zbv, or_eq_true→zbF, not_false→zbP, and_eq_true_iff→zbR
open Nat renaming lt_of_lt_of_le→zae, eq_of_beq_eq_true→zab, le_of_ble_eq_true→za4, le_refl→zai, le_trans→zam, zero_add→zaU, lt_or_ge→zby, mul_le_mul_right→zaH, min_eq_left→zat, lt_trichotomy→zbJ, min_eq_right→zbK, not_lt_zero→zbM, ble_eq_true_of_le→zbQ, add_zero→zaW, beq_refl→zbU, lt_of_le_of_lt→zbW
open Option renaming getD_some→zbE, bind_some→zbY, map_some→zb1
set_option maxHeartbeats 16000000
noncomputable section
namespace Go.Dv
open Go.RowKit Go.Lib
section
section
variable {cx:Cx} {env:Env} {Z:ax} {vals:XS} {a:Act} {w w':World} {o:Oper}
def bW.over(P:Program)(J:bW cx Z vals w){id:Nat}{e:TypeId}{sz:Nat}{ap:Bool}{aw:CK}(I:Z[id]?=some (.row e sz ap aw)){g n0 c0:Nat}(hu:vals[id]?=some (.slice (some ⟨g,0,none⟩) n0 c0))(lo:Nat)(zs:CK)(us:XS)
 (hz:cz (Ok cx Z vals w) w (zs.flatMap PV.cells) us) (ff:∀c∈zs.flatMap PV.cells,c.one=true) (hl:∀x∈zs,x.cells.length=sz) (hle:lo+zs.length<=aw.length):
 ∃w',(storeCells ⟨g,lo*sz,none⟩ us).run P w=.ok () w'/\bW cx (Z.set id (.row e sz ap (aw.take lo++zs++aw.drop (lo+zs.length)))) vals w'/\de cx Z vals w (Z.set id (.row e sz ap (aw.take lo++zs++aw.drop (lo+zs.length)))) vals w':=by
 have lV:=J.lW id _ _ I hu;obtain⟨nP,cells,cj,hel,atJ,nO⟩:=lV;have hn0:n0=aw.length:=by
  rcases cj.2 with⟨U,_⟩|⟨_,_,_,_,U,_⟩
  ·cases U
  ·cases U;rfl
 subst hn0;rcases cj with⟨iX,⟨U,_⟩|⟨gg,cap,cur,fr,U,H,h3,h4,h5,h6,h7,h8⟩⟩
 ·cases U
 cases U;have atK:us.length=zs.length*sz:=Q8;have hT:((aw.take lo).flatMap PV.cells).length=lo*sz:=by
  rw[iS sz _ (λz hz=>hel z (za5 hz)),zal,zat V]
 have hM:(((aw.drop lo).take zs.length).flatMap PV.cells).length=zs.length*sz:=by
  rw[iS sz _ (λz hz=>hel z (zbA (za5 hz))),zal,zay,zat V]
 have axx:aw=aw.take lo++(aw.drop lo).take zs.length++aw.drop (lo+zs.length):=by
  rw[zaj,<-List.drop_drop,zaF,zaF]
 have hf1:aw.flatMap PV.cells=(aw.take lo).flatMap PV.cells++((aw.drop lo).take zs.length).flatMap PV.cells++(aw.drop (lo+zs.length)).flatMap PV.cells:=by
  conv=>lhs;rw[axx]
  rw[zaz,zaz]
 have hf2:(aw.take lo++zs++aw.drop (lo+zs.length)).flatMap PV.cells=(aw.take lo).flatMap PV.cells++zs.flatMap PV.cells++(aw.drop (lo+zs.length)).flatMap PV.cells:=by
  rw[zaz,zaz]
 have aJf:=nO;rw[hf1]at nO;obtain⟨c12,c3,tU,r12,r3⟩:=(di _ _ _).1 nO;obtain⟨c1,c2,rfl,r1,r2⟩:=(di _ _ _).1 r12;have ZW:c1.length=lo*sz:=by rw[r1.length,hT]
 have HO:c2.length=zs.length*sz:=by rw[r2.length,hM]
 have hmul:lo*sz+zs.length*sz<=aw.length*sz:=by rw[<-Nat.add_mul];exact zaH _ hle
 have aEv:aw.length*sz<=cur.size:=by rw[h6];exact zaH _ h4
 obtain⟨w',KG,f1,f2,f3,f4,f5,f6,f7,f8⟩:=Gy P g (lo*sz) e fr us 0 cur w h3 V (h8.imp (λh=>h) λh=>h.2) (cz.Ir hz ff);have T_:cur.toList=(c1++c2++c3)++cur.toList.drop (aw.length*sz):=by
  rw[<-tU,<-h7,zaF]
 have adZ:KG.toList=(c1++us++c3)++cur.toList.drop (aw.length*sz):=by
  rw[f3,zaW];have e1:cur.toList.take (lo*sz)=c1:=by
   rw[T_,zaj,zaj];exact zaJ ZW
  have e2:cur.toList.drop (lo*sz+us.length)=c3++cur.toList.drop (aw.length*sz):=by
   conv=>lhs;rw[T_]
   rw[zaj];exact List.drop_left' (by rw[zad,ZW,HO,atK])
  rw[e1,e2];simp[zaj]
 have hnl:(aw.take lo++zs++aw.drop (lo+zs.length)).length=aw.length:=aH;obtain⟨hs,nr⟩:=J.write (s':=.row e sz ap (aw.take lo++zs++aw.drop (lo+zs.length))) I rfl rfl ⟨rfl,rfl⟩ hu rfl f4 f5 f6 f7 f8 (λnr=>by
  have aqh:KG.size=cur.size:=by
   have e1:=congrArg List.length adZ;have e2:=congrArg List.length T_;simp only[zad,zac,atK,HO]at e1 e2;omega
  refine⟨nP,c1++us++c3,⟨?_,.inr ⟨g,c0,KG,fr,by rw[hnl],H,f2,by rw[hnl];exact h4,h5,by rw[aqh,h6],?_,by rw[aqh];exact h8⟩⟩,?_,?_,?_⟩
  ·rw[hnl,<-iX,tU];simp only[zad,atK,HO]
  ·rw[hnl,adZ];refine zaJ ?_;rw[<-iX,tU];simp only[zad,atK,HO]
  ·intro z hz;simp only[zaA]at hz;rcases hz with(hz|hz)|hz
   ·exact hel z (za5 hz)
   ·exact hl z hz
   ·exact hel z (zbA hz)
  ·intro c F;rw[hf2]at F;rw[hf1]at atJ;simp only[zaA]at F atJ;rcases F with(F|F)|F
   ·exact atJ c (.inl (.inl F))
   ·exact ff c F
   ·exact atJ c (.inr F)
  ·rw[hf2];exact(di _ _ _).2 ⟨_,_,rfl,(di _ _ _).2 ⟨_,_,rfl,nr.rdL r1,nr.rdL hz⟩,nr.rdL r3⟩)
 exact⟨w',f1,hs,nr⟩
def uE(sz:Nat)(ys:CK)(hl:∀y∈ys,y.cells.length=sz):∀n:Nat,(ys.take n).flatMap PV.cells=(ys.flatMap PV.cells).take (n*sz):=by
 induction ys with
 |nil=>simp
 |cons y ys ih=>
  intro n;cases n with
  |zero=>simp
  |succ n=>
   rw[List.take_succ_cons,zan,zan,Nat.add_mul]
   grind
def aa1{ok:Nat->Prop}(l:CK)(vs:XS)(n:Nat)(h:cz ok w l vs):cz ok w (l.take n) (vs.take n):=by
 obtain⟨U,H⟩:=(oN l vs).1 h;refine(oN _ _).2 ⟨by simp[U],λj c v F hv=>?_⟩
 grind
def Qv(J:Rel cx env Z vals a w)(sz:Nat)(x:Operand)(ys:CK)(us:XS)(hz:cz (Ok cx Z vals w) w (ys.flatMap PV.cells) us)(ff:∀c∈ys.flatMap PV.cells,c.one=true)(hl:∀y∈ys,y.cells.length=sz){K:Nat->ax->Prop}
 (Y:Nn Z sz (bD env x) ys K):∃ad len cap σ' w',a.eval x=.slice ad len cap/\K (min ys.length len) σ'/\Rel cx env σ' vals a w'/\
  ((min ys.length len=0/\w'=w)∨∃g,ad=some g/\(storeCells g (us.take (min ys.length len*sz))).run cx.P w=.ok () w'):=by
 have T:=J.ev x;cases th:bD env x with
 |pv p=>
  rw[th]at Y T;cases p with
  |nil s=>
   simp only[RA,Rd]at T;exact⟨none,0,0,Z,w,T,by simpa using(show K 0 Z from Y),J,.inl ⟨ab,rfl⟩⟩
  |_=>exact vJ
 |own id=>
  rw[th]at Y T;simp only[RA]at T;obtain⟨b,I,E⟩:=aK Z id _ Y;cases b with
  |row e s ap aw=>
   replace E:(match Nat.beq s sz with
    |true=>rJ Z id (.row e s ap (ys.take aw.length++aw.drop ys.length)) λZ=>K (min ys.length aw.length) Z
    |false=>False):=E
   cases hs:Nat.beq s sz with
   |false=>rw[hs]at E;exact E.elim
   |true=>
    rw[hs]at E;have:=zab hs;subst this;obtain⟨_,E⟩:=dW _ _ _ _ E;obtain⟨_,cells,⟨_,cj⟩,_⟩:=J.s.lW id _ _ I T;rcases cj with⟨HL,h0⟩|⟨g,cap,cur,fr,HL,_⟩
    ·have:aw=[]:=zaf h0;subst this;rw[show Z.set id (.row e s ap (ys.take ([]:CK).length++([]:CK).drop ys.length))=Z from by
      have aM:=(zaa.1 I)
      apply zbb;intro j;rw[kQ aM.1];split
      ·rename_i hj;subst hj;rw[I];simp
      ·rfl]at E
     exact⟨none,0,0,Z,w,HL,by simpa using E,J,.inl ⟨ab,rfl⟩⟩
    ·obtain⟨w',f1,f2,f3⟩:=J.s.over cx.P I (by rw[T,HL]) 0 (ys.take aw.length) (us.take (aw.length*s)) (by rw[uE _ _ hl];exact aa1 _ _ _ hz)
      (λc F=>ady) (λy hy=>hl y (za5 hy)) aH
     have e1:aw.take 0++ys.take aw.length++aw.drop (0+(ys.take aw.length).length)=ys.take aw.length++aw.drop ys.length:=by
      rw[List.take_zero,zaZ,zaU,zal];by_cases h:ys.length<=aw.length
      ·rw[zbK h]
      ·rw[zat V,List.drop_length,List.drop_eq_nil_of_le V]
     rw[e1]at f2 f3;refine⟨_,_,_,_,w',HL,E,J.keep f2 f3,.inr ⟨_,rfl,?_⟩⟩;rw[Nat.zero_mul]at f1;rw[<-f1];congr 2;have VF:us.length=ys.length*s:=Q8;by_cases h:ys.length<=aw.length
     ·rw[zat h,za1 V,za1 (by rw[VF];exact zaH _ h)]
     ·rw[zbK V]
  |_=>exact E.elim
 |sub id z lo n=>
  rw[th]at Y T;replace Y:(match Nat.beq z sz with
   |true=>eM Z id λb=>match b with
    | .row e s ap aw=>match Nat.beq s sz with
     |true=>lo+n<=aw.length/\rJ Z id (.row e s ap (aw.take lo++ys.take n++aw.drop (lo+min ys.length n))) λZ=>K (min ys.length n) Z
     |false=>False
    |_=>False
   |false=>False):=Y
  cases hs:Nat.beq z sz with
  |false=>rw[hs]at Y;exact Y.elim
  |true=>
   rw[hs]at Y;have:=zab hs;subst this;obtain⟨b,I,E⟩:=aK Z id _ Y;cases b with
   |row e s ap aw=>
    replace E:(match Nat.beq s z with
     |true=>lo+n<=aw.length/\rJ Z id (.row e s ap (aw.take lo++ys.take n++aw.drop (lo+min ys.length n))) λZ=>K (min ys.length n) Z
     |false=>False):=E
    cases hs:Nat.beq s z with
    |false=>rw[hs]at E;exact E.elim
    |true=>
     rw[hs]at E;have:=zab hs;subst this;obtain⟨hle,E⟩:=E;obtain⟨aM,E⟩:=dW _ _ _ _ E;simp only[RA]at T;obtain⟨_,ad,c,HL,hnc,HM,hor⟩:=T;rcases hor with h0|⟨g,n0,c0,f1,rfl⟩
     ·subst h0;rw[show Z.set id (.row e s ap (aw.take lo++ys.take 0++aw.drop (lo+min ys.length 0)))=Z from by
       apply zbb;intro j;rw[kQ aM];split
       ·rename_i hj;subst hj;rw[I];simp
       ·rfl]at E
      exact⟨ad,0,c,Z,w,HL,E,J,.inl ⟨ab,rfl⟩⟩
     ·obtain⟨w',f1,f2,f3⟩:=J.s.over cx.P I f1 lo (ys.take n) (us.take (n*s)) (by rw[uE _ _ hl];exact aa1 _ _ _ hz)
       (λc F=>ady) (λy hy=>hl y (za5 hy)) aH
      rw[zal,Nat.min_comm]at f2 f3;refine⟨_,_,_,_,w',HL,E,J.keep f2 f3,.inr ⟨_,rfl,?_⟩⟩;rw[<-f1];congr 2;have VF:us.length=ys.length*s:=Q8;by_cases h:ys.length<=n
      ·rw[zat h,za1 V,za1 (by rw[VF];exact zaH _ h)]
      ·rw[zbK V]
   |_=>exact E.elim
 |_=>rw[th]at Y;exact vJ
def ao4{K:AV->ax->Prop}(J:Rel cx env Z vals a w)(t:TypeId)(x:Operand)(ho:o.op=.makeInterface t x)(d:TypeDesc)(hd:cx.P.underlying t=some d)(hn:∀m,d≠.interface m)(Y:K .bad Z):Out cx env a w o K:=by
 refine Out.run (v:=.iface t (a.eval x)) ?_ J (av:=.bad) aD Y
  <;>first|exact absurd rfl (hn _)|simp[execOp,ho,Instr.makeInterface,run_underlying hd]
def ad3(l:P8)(n:Nat):((((⟨l.toArray⟩:ByteArray).extract 0 n).data.map λb=>Value.int .u8 b.toNat)).toList=(strCells ⟨l.toArray⟩).take n:=by
 simp[strCells,cut]
def apD{K:AV->ax->Prop}(J:Rel cx env Z vals a w)(t u e:TypeId)(ie:TypeInfo)(x y:Operand)(c:Call)(ho:o.op=.call c)(F:c.callee=.builtin .copy)(cI:c.args.toList=[x,y])(Ea:c.argTypes.toList=[t,u])
 (hu:cx.P.underlying t=some (.slice e)) (yg:cx.P.info? e=some ie) (nP:ie.size=1)
 (Y:match bD env y with
   | .pv y=>match y with
    | .str l=>Nn Z 1 (bD env x) (l.map aG) λn Z=>K (.pv (.int .i64 n)) Z
    |_=>False
   |_=>False):Out cx env a w o K:=by
 have iG:c.args= #[x,y]:=au;have agM:c.argTypes= #[t,u]:=au;have hy:=J.ev y
 revert Y hy
 cases bD env y with
 |pv p=>
  cases p with
  |str l=>
   intro Y hy;simp only[RA,Rd]at hy;obtain⟨ad,len,cap,σ',w',hv,E,eI,hw⟩:=Qv J 1 x (l.map aG) (strCells ⟨l.toArray⟩) (by rw[i_,y6];rfl)
    (by rw[i_];intro c F;rw[zaX]at F;obtain⟨b,_,rfl⟩:=F;rfl) (by intro y hy;rw[zaX]at hy;obtain⟨b,_,rfl⟩:=hy;rfl) Y
   rw[zaw]at E hw;refine Out.run (v:=.int .i64 (min l.length len:Nat)) (w':=w') ?_ eI (av:=.pv (.int .i64 (min l.length len:Nat))) dw E;have hs:(⟨l.toArray⟩:ByteArray).size=l.length:=rfl;rcases hw with⟨h0,rfl⟩|⟨g,rfl,hw⟩
   ·have hm:Nat.min l.length len=0:=h0;cases ad with
    |none=>simp[execOp,ho,resolve,F,invoke,builtin,iG,agM,hy,hv,Builtin.copy_,Builtin.lenOf,Builtin.firstCells,run_underlying hu,sizeOf,typeInfo,yg,hs,goInt,hm,h0]
    |some g=>
     have he:((⟨l.toArray⟩:ByteArray).extract 0 0).data.map (λb=>Value.int .u8 b.toNat)= #[]:=by
      simp
     simp[execOp,ho,resolve,F,invoke,builtin,iG,agM,hy,hv,Builtin.copy_,Builtin.lenOf,Builtin.firstCells,run_underlying hu,sizeOf,typeInfo,yg,hs,goInt,hm,h0,he,storeCells]
   ·have fu:=ad3 l (min l.length len);have hm:Nat.min l.length len=min l.length len:=rfl;simp[execOp,ho,resolve,F,invoke,builtin,iG,agM,hy,hv,Builtin.copy_,Builtin.lenOf,Builtin.firstCells,run_underlying hu,sizeOf,typeInfo,yg,hs,goInt,hm]
    simp_all
  |_=>simp
 |_=>simp
def ad6(zv:Array Value)(sz n:Nat)(hz:zv.size=sz):(Builtin.zeroCells zv n).toList=(List.replicate n zv.toList).flatten:=by
 apply zbb;intro j;by_cases hj:j<n*sz
 ·have h0:0<sz:=by grind
  have aEi:j%sz<zv.size:=by rw[hz];exact Nat.mod_lt _ h0
  have:((List.replicate n zv.toList).flatten)[j]?=zv.toList[j%sz]?:=by
   have hg:∀n j,j<n*zv.toList.length->((List.replicate n zv.toList).flatten)[j]?=zv.toList[j%zv.toList.length]?:=by
    intro n
    induction n with
    |zero=>omega
    |succ n ih=>
     intro j h;rw[List.replicate_succ,List.flatten_cons];by_cases hj:j<zv.toList.length
     ·rw[zar hj,Nat.mod_eq_of_lt hj]
     ·rw[zak V,ih _ au,<-Nat.mod_eq_sub_mod V]
   grind
  simp only[Builtin.zeroCells,hz]
  grind
 ·rw[zaM (by simp[Builtin.zeroCells,hz];omega),zaM (by simp_all)]
def asc{K:AV->ax->Prop}(J:Rel cx env Z vals a w)(t e:TypeId)(ie:TypeInfo)(z:PV)(x:Operand)(c:Call)(ho:o.op=.call c)(F:c.callee=.builtin .clear)(cI:c.args.toList=[x])(Ea:c.argTypes[0]?=some t)
 (hu:cx.P.underlying t=some (.slice e)) (yg:cx.P.info? e=some ie) (hz:zPV cx.P e=some z) (hzl:z.cells.length=ie.size)
 (Y:AL Z (bD env x) λ_ aw=>Nn Z ie.size (bD env x) (List.replicate aw.length z) λ_ Z=>K .bad Z):Out cx env a w o K:=by
 have iG:c.args= #[x]:=au;obtain⟨i,zv,W,hzv,U,H,h3⟩:=rW hz;rw[yg]at W;cases W;obtain⟨s,aw,⟨adx,cx2,hvx,_⟩,Y⟩:=Et J.s (J.ev x) Y;have Z4:zv.cells.size=ie.size:=HY;have adW:(List.replicate aw.length z).flatMap PV.cells=(List.replicate aw.length z.cells).flatten:=by
  rw[List.flatMap_def,List.map_replicate]
 have lf:cz (Ok cx Z vals w) w ((List.replicate aw.length z).flatMap PV.cells) (List.replicate aw.length zv.cells.toList).flatten:=by
  rw[adW];generalize aw.length=n
  induction n with
  |zero=>rfl
  |succ n ih=>exact(di _ _ _).2 ⟨_,_,rfl,H _ _,ih⟩
 obtain⟨ad,len,cap,σ',w',hv,E,eI,hw⟩:=Qv J ie.size x _ _ lf
  (λc F=>au)
  (λy hy=>au) Y
 rw[hvx]at hv;cases hv;rw[List.length_replicate,Nat.min_self]at hw;refine Out.run (v:=.tuple #[]) (w':=w') ?_ eI (av:=.bad) aD E;have hzc:=ad6 zv.cells ie.size aw.length Z4;have agP:a.eval x=.slice adx aw.length cx2:=hvx;rcases hw with⟨h0,rfl⟩|⟨g,rfl,hw⟩
 ·rw[h0]at agP;cases adx with
  |none=>simp[execOp,ho,resolve,F,invoke,builtin,iG,Ea,agP,Builtin.clear_,run_underlying hu]
  |some g=>simp[execOp,ho,resolve,F,invoke,builtin,iG,Ea,agP,Builtin.clear_,run_underlying hu]
 ·rw[za1 (by simp_all),<-hzc]at hw;cases hn:aw.length with
  |zero=>
   rw[hn]at hw agP;simp[Builtin.zeroCells,storeCells]at hw;subst hw;simp[execOp,ho,resolve,F,invoke,builtin,iG,Ea,agP,Builtin.clear_,run_underlying hu]
  |succ m=>
   rw[hn]at hw agP;simp[execOp,ho,resolve,F,invoke,builtin,iG,Ea,agP,Builtin.clear_,run_underlying hu,zeroValue,typeInfo,yg,hzv,hw]
def anz(J:bW cx Z vals w){id:Nat}{e:TypeId}{sz:Nat}{ap:Bool}{aw:CK}(I:Z[id]?=some (.row e sz ap aw)){v:Value}(hv:RA (Ok cx Z vals w) Z vals w (.ref id 0 0) v)(hn:0<aw.length):
 ∃g c,v=.pointer (some ⟨g,0,none⟩)/\vals[id]?=some (.slice (some ⟨g,0,none⟩) aw.length c)/\aw.length<=c/\c<=maxLen:=by
 obtain⟨_,_,jH,_⟩:=hv;obtain⟨u,g,hu,hg,rfl⟩:=jH _ _ _ _ I;obtain⟨_,cells,⟨_,cj⟩,_⟩:=J.lW id _ _ I hu;rcases cj with⟨_,h0⟩|⟨g',cap,cur,fr,HL,_,_,h4,h5,_⟩
 ·omega
 ·subst HL;cases hg
  grind
def ajp{K:AV->ax->Prop}(J:Rel cx env Z vals a w)(t:TypeId)(q:PV×Nat)(x ix:Operand)(ho:o.op=.indexAddr t x ix)(hq:EA cx.P t=some q)
 (Y:Dv.asInt (bD env ix) λ_ n=>Mg Z q.2 1 (bD env x) n λa=>K a Z):Out cx env a w o K:=by
 obtain⟨el,i,it,vs,hu,W,nP,hit,hz,axr,h8,hmx⟩:=Iy hq;have T:=J.ev x;have VG:=J.ev ix;cases ap7:bD env ix with
 |pv pi=>
  rw[ap7]at Y VG;cases pi with
  |int k n=>
   simp only[RA,Rd]at VG;cases th:bD env x with
   |ref id idx off=>
    rw[th]at Y T;cases idx with
    |succ idx=>trivial
    |zero=>
     cases off with
     |succ off=>trivial
     |zero=>
      obtain⟨b,I,E⟩:=aK Z id _ (show eM Z id _ from Y);cases b with
      |row e s ap aw=>
       replace E:(match Nat.beq s 1 with
        |true=>(aw.length=q.2/\0<=n/\n.toNat<q.2)/\K (.ref id n.toNat 0) Z
        |false=>False):=E
       cases hs:Nat.beq s 1 with
       |false=>grind
       |true=>
        have:=zab hs;subst this;obtain⟨⟨hl,h0,aM⟩,E⟩:=E;obtain⟨g,c,hv,MH,_,_⟩:=anz J.s I T V;refine Out.run (v:=.pointer (some ⟨g,n.toNat,none⟩)) ?_ J (av:=.ref id n.toNat 0) ?_ E
        ·have atL:n<(q.2:Int):=by omega
         simp[execOp,ho,hv,VG,Instr.indexAt,Instr.sureAddr,asIntOf,run_underlying hu,h0,atL,sizeOf,typeInfo,W,nP,ic]
        ·refine⟨(zaa.1 I).1,⟨_,rfl⟩,λe2 sz2 ap2 T6 h=>?_,λs2 h nj=>?_⟩
         ·rw[I]at h;cases h;exact⟨_,g,MH,rfl,ab⟩
         ·rw[I]at h;cases h;cases nj
      |_=>grind
   |_=>rw[th]at Y;trivial
  |_=>trivial
 |_=>rw[ap7]at Y;trivial
def anJ(P:Program)(t:TypeId)(x i:Operand)(q:Nat×Bool×Nat)(ho:o.op=.indexAddr t x i)(hq:C5 P t i=some q)(b n:Nat)(hv:a.eval x=.pointer (some ⟨b,n,none⟩)):
 (execOp a.eval o).run P w=.ok (.value (.pointer (some ⟨b,n+q.1,none⟩))) w:=by
 unfold C5 at hq;split at hq
 ·rename_i m e hu;split at hq
  ·split at hq
   ·rename_i kd k;obtain⟨s,hs,hq⟩:=yn hq;unfold k_ at hq;split at hq
    ·rename_i I;cases hq;simp only[zaT,decide_eq_true_eq]at I;obtain⟨j,hj,hjs⟩:=(zH hs).info;have th:a.eval (.const (.int kd k))=.int kd k:=rfl;have aM:k<(m:Int):=V;simp[execOp,ho,hv,th,Instr.indexAt,Instr.sureAddr,asIntOf,run_underlying hu,I.1.1,aM,sizeOf,typeInfo,hj,hjs,ic]
    grind
   grind
  grind
 grind
end
end
end Go.Dv
namespace Go.Dv
open Go.RowKit
section
section
variable {cx:Cx} {env:Env} {Z:ax} {vals:XS} {a:Act} {w w':World} {o:Oper}
def ad7{P:Program}(w:World)(d:Nat)(t e:TypeId)(ad:Option Addr)(n c:Nat)(ht:P.underlying t=some (.slice e)):(Op.equalIn (d+1) t (.slice ad n c) (.slice none 0 0)).run P w=.ok ad.isNone w:=by
 cases ad<;>simp[Op.equalIn,run_underlying ht]
def aiX{P:Program}(w:World)(neg:Bool)(t u:TypeId)(x y:Operand)(e:TypeId)(ad:Option Addr)(n c:Nat)(ht:P.underlying t=some (.slice e))(ρ:Operand->Value)(T:ρ x=.slice ad n c)(hy:ρ y=.slice none 0 0)(ho:o.op=.binOp (if neg then .neq else .eql) t x y u):
 (execOp ρ o).run P w=.ok (.value (.bool (xor ad.isNone neg))) w:=by
 have he:(Op.equalIn 10000 t (.slice ad n c) (.slice none 0 0)).run P w=.ok ad.isNone w:=ad7 w 9999 t e ad n c ht;cases neg with
 |false=>cases ad<;>simp[execOp,ho,T,hy,eqGuard,binOp,Op.equal,he,Op.maxDepth,Sem.run_bind,Sem.run_pure]
 |true=>cases ad<;>simp[execOp,ho,T,hy,eqGuard,binOp,Op.equal,he,Op.maxDepth,Sem.run_bind,Sem.run_pure]
def Xb{K:AV->ax->Prop}(J:Rel cx env Z vals a w)(neg:Bool)(t u e:TypeId)(x y:Operand)(ho:o.op=.binOp (if neg then .neq else .eql) t x y u)(ht:cx.P.underlying t=some (.slice e))(hy:Cu y=true)
 (Y:aAz Z (bD env x) λr=>K (.pv (.bool (xor r neg))) Z):Out cx env a w o K:=by
 have hyv:a.eval y=.slice none 0 0:=by
  unfold Cu at hy;split at hy
  ·rfl
  ·cases hy
 have T:=J.ev x;have fin:∀(ad:Option Addr) (n c:Nat) (r:Bool),a.eval x=.slice ad n c->r=ad.isNone->K (.pv (.bool (xor r neg))) Z->Out cx env a w o K:=by
  intro ad n c r hv eI E;subst eI;exact Out.run (v:=.bool (xor ad.isNone neg)) (aiX w neg t u x y e ad n c ht a.eval hv hyv ho) J (av:=.pv (.bool (xor ad.isNone neg))) fK E
 have sl:∀(aw:CK) (sz:Nat),Rd (Ok cx Z vals w) w (.sl sz aw) (a.eval x)->(∀r:Bool,(aw≠[]->r=false)->K (.pv (.bool (xor r neg))) Z)->Out cx env a w o K:=by
  intro aw sz h E;simp only[Rd]at h;obtain⟨ad,c,hv,_,_,h4⟩:=h;refine fin ad _ c _ hv rfl (E _ λca=>?_);rcases h4 with h4|⟨b,of,rfl,_⟩
  ·exact absurd h4 ca
  ·rfl
 revert Y T
 cases bD env x with
 |pv px=>
  intro Y T;simp only[RA]at T;cases px with
  |nil sz=>simp only[Rd]at T;exact fin none 0 0 true T rfl Y
  |sl sz aw=>exact sl aw sz T Y
  |_=>exact Y.elim
 |own id=>
  intro Y T;simp only[RA]at T;obtain⟨b,I,Y⟩:=aK Z id _ Y;cases b with
  |row e2 sz ap aw=>
   obtain⟨_,cells,⟨hl,ho'⟩,_⟩:=J.s.lW id _ _ I T;rcases ho' with⟨hv,h0⟩|⟨g,cap,cur,fr,hv,_⟩
   ·refine fin none 0 0 true hv rfl (Y _ λca=>?_);exact absurd (zaf h0) ca
   ·exact fin _ _ _ false hv rfl (Y _ λ_=>rfl)
  |fz z=>
   cases z with
   |sl sz aw=>exact sl aw sz (J.s.lW id _ _ I T) Y
   |_=>exact Y.elim
  |_=>exact Y.elim
 |_=>intro Y;exact Y.elim
def afo{K:AV->ax->Prop}(J:Rel cx env Z vals a w)(t e:TypeId)(m sz:Nat)(ag:Bool)(parts:Array (Nat×Operand))(cs:CK)(ho:o.op=.build t parts)(hu:cx.P.underlying t=some (.array m e))(hz:zPV cx.P t=some (.agg cs))(hs:Shape cx.P e ag sz)
 (Y:EG env (parts.toList.map λp=>(p.1*sz,sz,p.2)) λps=>Qn cs λz=>LK z ps λcs=>akJ cs λa=>K a Z):Out cx env a w o K:=by
 obtain⟨i,zv,W,hzv,U,H,h3⟩:=rW hz;have Y:=nY _ _ (Kk env _ _ Y);obtain⟨j,hj,hjs⟩:=hs.info;obtain⟨z',arr,g1,g2,g3,g4⟩:=ahM J (λx=>some (x*sz,sz)) parts.toList (parts.toList.map λp=>(p.1*sz,sz,p.2)) (cs.map .pv) zv.cells _ ab ((fm _ _).2 (H _ _)) (λc F=>aaF) Y;have agJ:cx.P.built t (parts.map λp=>(p.1,a.eval p.2)).toList=some arr:=by
  simp only[Program.built,W,hu,hzv,hj,Array.toList_map,hjs];rw[<-g2]
 have b9:(execOp a.eval o).run cx.P w=.ok (.value (.agg arr)) w:=by
  have:=run_build (P:=cx.P) w t (parts.map λp=>(p.1,a.eval p.2)) arr agJ;simp only[execOp,ho,Sem.run_bind,this,Result.andThen_ok,Sem.run_pure]
 rcases LX z' _ g1 with⟨l,rfl,E⟩|E
 ·refine Out.run b9 J (av:=.pv (.agg l)) ?_ E;simp only[RA,Rd];exact⟨λc F=>g4 (.pv c) uQ,arr,rfl,(fm _ _).1 g3⟩
 ·refine Out.run b9 J (av:=.agg z') ?_ E;simp only[RA];exact⟨g4,arr,rfl,g3⟩
end
end
end Go.Dv
namespace Go.Dv
open Go.RowKit
open Go.MapKept
section
section
variable {cx:Cx} {env:Env} {Z:ax} {vals:XS} {a:Act} {w w':World} {o:Oper}
def Hm:∀(l:List (Int×Bool)) (es:List MapEntry) (n:Int) (i:Nat),es.map (λe=>(e.key,e.val))=l.map (λp=>(Value.int .i64 p.1,Value.bool p.2))->
 ∃j,Instr.findNow (.int .i64) (.int .i64 n) es i=some ((PY l n).map λb=>(j,Value.bool b))
 |[],es,n,i,h=>by
  cases es with
  |nil=>exact⟨0,rfl⟩
  |cons e es=>simp at h
 |p::l,es,n,i,h=>by
  cases es with
  |nil=>simp at h
  |cons e es=>
   simp only[zau,List.cons.injEq,Prod.mk.injEq]at h;obtain⟨⟨U,H⟩,h3⟩:=h;have hl:PY (p::l) n=(match decide (n=p.1)with|true=>some p.2|false=>PY l n):=rfl;simp only[Instr.findNow,U,Instr.sameNow,if_true];rw[hl];by_cases hn:n=p.1
   ·subst hn;refine⟨i,?_⟩;simp[H]
   ·obtain⟨j,hj⟩:=Hm l es n (i+1) h3;refine⟨j,?_⟩;have I:(n==p.1)=false:=by simpa using hn
    simp[hn,hj,I]
def akU{P:Program}(w:World)(t kt et:TypeId)(c:Bool)(b:Nat)(es:Array MapEntry)(clk:Nat)(l:List (Int×Bool))(n:Int)(ht:P.underlying t=some (.map kt et))(E:P.underlying kt=some (.int .i64))(i:TypeInfo)(W:P.info? et=some i)(hz:i.zero=some (.bool false))
 (I:w.heap[b]?=some (.map es clk)) (hm:RM es l):
 (Instr.lookup t (.map (some b)) (.int .i64 n) c).run P w=.ok (if c then .tuple #[.bool ((PY l n).getD false),.bool (PY l n).isSome]else .bool ((PY l n).getD false)) w:=by
 obtain⟨j,hj⟩:=Hm l es.toList n 0 hm;have hf:=run_findKey (P:=P) (w:=w) E hj;have F:=run_checkKey (P:=P) (w:=w) (k:=.int .i64 n) E (by simp[IsKey]) es.isEmpty 9999;have hg:(getObj b).run P w=.ok (.map es clk) w:=MapKept.run_getObj_map I;have F:(Instr.checkKey es.isEmpty 10000 kt (.int .i64 n)).run P w=.ok () w:=F;unfold Instr.lookup;cases hl:PY l n with
 |none=>
  rw[hl]at hf;cases c<;>simp only[Sem.run_bind,run_underlying ht,Result.andThen_ok,hg,F,hf,Sem.run_pure]<;>simp[zeroValue,run_typeInfo w W,hz]
 |some v=>
  rw[hl]at hf;cases c<;>simp only[Sem.run_bind,run_underlying ht,Result.andThen_ok,hg,F,hf,Sem.run_pure]<;>simp
def am_{K:AV->ax->Prop}(J:Rel cx env Z vals a w)(c:Bool)(t kt et:TypeId)(x k:Operand)(i:TypeInfo)(ho:o.op=.lookup t x k c)(ht:cx.P.underlying t=some (.map kt et))(E:cx.P.underlying kt=some (.int .i64))(W:cx.P.info? et=some i)(hz:i.zero=some (.bool false))
 (Y:aim Z c (bD env x) (bD env k) λr=>K r Z):Out cx env a w o K:=by
 have T:=J.ev x;have hy:=J.ev k
 revert Y T hy
 cases bD env x with
 |own id=>
  intro Y T hy;obtain⟨b,U,H⟩:=aK _ _ _ Y;cases b with
  |mp l=>
   revert H hy
   cases bD env k with
   |pv y=>
    cases y with
    |int kd n=>
     cases kd with
     |i64=>
      intro hy H;simp only[RA]at T;simp only[RA,Rd]at hy;have hs:=J.s.lW id _ _ U T;obtain⟨b,es,clk,hv,_,I,hm⟩:=hs;have b9:=akU w t kt et c b es clk l n ht E i W hz I hm;cases c with
      |true=>
       refine Out.run (v:=.tuple #[.bool ((PY l n).getD false),.bool (PY l n).isSome]) ?_ J (av:=.tup [.pv (.bool ((PY l n).getD false)),.pv (.bool (PY l n).isSome)]) (by simp only[RA,eu,Rd];exact⟨_,rfl,_,_,rfl,rfl,_,_,rfl,rfl,rfl⟩) H;simp[execOp,ho,hv,hy,b9]
      |false=>
       refine Out.run (v:=.bool ((PY l n).getD false)) ?_ J (av:=.pv (.bool ((PY l n).getD false))) fK H;simp[execOp,ho,hv,hy,b9]
     |_=>intro _ H;exact H.elim
    |_=>intro _ H;exact H.elim
   |_=>intro _ H;exact H.elim
  |_=>exact H.elim
 |_=>intro Y;exact Y.elim
end
end
end Go.Dv
namespace Go.Dv
open Go.RowKit
section
section
variable {cx:Cx} {env:Env} {Z:ax} {vals:XS} {a:Act} {w w':World} {o:Oper}
def LM:ax->QK->Nat->QK
 |[],_,_=>[]
 |_::Z,a::r,L=>a::LM Z r L
 |_::Z,[],L=>L::LM Z [] (L+1)
def ajo(Z:ax):∀(r:QK) (L:Nat) (K:QK->Prop),aAu Z r L K->K (LM Z r L):=by
 induction Z with
 |nil=>intro r L K h;exact h
 |cons s Z ih=>
  intro r L K h;cases r with
  |nil=>exact ih [] (L+1) _ h
  |cons a r=>exact ih r L _ h
def amd(Z:ax):∀(r:QK) (L:Nat),(LM Z r L).length=Z.length:=by
 induction Z with
 |nil=>intro r L;rfl
 |cons s Z ih=>intro r L;cases r<;>simp[LM,ih]
def xD(Z:ax):∀(r:QK) (L j:Nat),j<r.length->j<Z.length->(LM Z r L)[j]?=r[j]?:=by
 induction Z with
 |nil=>simp
 |cons s Z ih=>
  intro r L j U H;cases r with
  |nil=>grind
  |cons a r=>
   cases j with
   |zero=>rfl
   |succ j=>simpa[LM]using ih r L j au au
def wS(Z:ax):∀(r:QK) (L j:Nat),r.length<=j->j<Z.length->(LM Z r L)[j]?=some (L+(j-r.length)):=by
 induction Z with
 |nil=>simp
 |cons s Z ih=>
  intro r L j U H;cases r with
  |nil=>
   cases j with
   |zero=>rfl
   |succ j=>
    have:=ih [] (L+1) j ab au;simp only[LM,zbL,this,zbh]
    grind
  |cons a r=>
   cases j with
   |zero=>grind
   |succ j=>
    have:=ih r L j au au;simp only[LM,zbL,this,zap];simp
def WI(ρ:QK):∀(x:AV) (K:AV->Prop),arK ρ x K→∃y,K y/\Ren ρ y x:=by
 intro x;refine AV.rec (motive_1:=λx=>∀K:AV->Prop,arK ρ x K→∃y,K y/\Ren ρ y x)
  (motive_2:=λxs=>∀K:XP->Prop,(AV.rec_1 (motive_1:=λ_=>(AV->Prop)->Prop) (motive_2:=λ_=>(XP->Prop)->Prop)
    (λK=>K .bad) (λx K=>K (.pv x)) (λid K=>eM ρ id λj=>K (.own j)) (λid i o K=>eM ρ id λj=>K (.ref j i o)) (λid s l n K=>eM ρ id λj=>K (.sub j s l n))
    (λ_ ih K=>ih λl=>K (.agg l)) (λ_ ih K=>ih λl=>K (.tup l)) (λf _ ih K=>ih λl=>K (.clo f l)) (λK=>K []) (λ_ _ h t K=>h λa=>t λl=>K (a::l)) xs:(XP->Prop)->Prop) K→∃ys,K ys/\gI ρ ys xs)
  ?_ ?_ ?_ ?_ ?_ ?_ ?_ ?_ ?_ ?_ x
 ·intro K h;exact⟨_,h,dw⟩
 ·intro x K h;exact⟨_,h,dw⟩
 ·intro id K h;obtain⟨j,U,H⟩:=aK _ _ _ h;exact⟨_,H,zF⟩
 ·intro id i o K h;obtain⟨j,U,H⟩:=aK _ _ _ h;exact⟨_,H,zF⟩
 ·intro id s l n K h;obtain⟨j,U,H⟩:=aK _ _ _ h;exact⟨_,H,zF⟩
 ·intro cs ih K h;obtain⟨bs,U,H⟩:=ih _ h;exact⟨_,U,zF⟩
 ·intro cs ih K h;obtain⟨bs,U,H⟩:=ih _ h;exact⟨_,U,zF⟩
 ·intro f cs ih K h;obtain⟨bs,U,H⟩:=ih _ h;exact⟨_,U,zF⟩
 ·intro K h;exact⟨[],h,dw⟩
 ·intro x xs U H K h;obtain⟨b,h3,h4⟩:=U _ h;obtain⟨bs,h5,h6⟩:=H _ h3;exact⟨_,h5,by simp only[gI];grind⟩
def aeE(ρ:QK)(xs:XP):∀(K:XP->Prop),auN ρ xs K→∃ys,K ys/\gI ρ ys xs:=by
 induction xs with
 |nil=>intro K h;exact⟨[],h,dw⟩
 |cons x xs ih=>
  intro K h;obtain⟨b,h3,h4⟩:=WI ρ x _ h;obtain⟨bs,h5,h6⟩:=ih _ h3;exact⟨_,h5,by simp only[gI];grind⟩
def Rf(ρ:QK)(s:cK)(K:cK->Prop)(h:au1 ρ s K):∃t,K t/\yG ρ t s:=by
 cases s with
 |box e cs=>
  obtain⟨ds,U,H⟩:=aeE ρ cs _ h;exact⟨_,U,cs,rfl,H⟩
 |_=>exact⟨_,h,rfl⟩
def aeX(ρ:QK)(σ1:ax):∀(r:QK) (Z:ax) (K:ax->Prop),aie ρ σ1 r Z K->r.Nodup->(∀i∈r,i<Z.length)->r.length<=σ1.length->
 ∃σ2,K σ2/\σ2.length=Z.length+(σ1.length-r.length)/\(∀(j:Nat) (s:cK),σ1[j]?=some s→∃i t,(LM σ1 r Z.length)[j]?=some i/\σ2[i]?=some t/\yG ρ t s)∧∀i,i<Z.length->i∉r->σ2[i]?=Z[i]?:=by
 induction σ1 with
 |nil=>
  intro r Z K h _ _ hl;have:r=[]:=zaf CD;subst this;exact⟨Z,h,ab,λj s hj=>by simp at hj,λi _ _=>rfl⟩
 |cons b σ1 ih=>
  intro r Z K h hn aM hl;cases r with
  |nil=>
   obtain⟨t,h,ht⟩:=Rf ρ b (λb=>fv Z b λZ=>aie ρ σ1 [] Z K) h;have h:=cS _ _ _ h;obtain⟨σ2,U,H,h3,h4⟩:=ih [] _ K h ab ab ab;simp only[zad,zap,zbh,Nat.sub_zero,zaU]at H h3 h4;refine⟨σ2,U,au,λj s hj=>?_,λi W hir=>?_⟩
   ·cases j with
    |zero=>
     simp at hj;subst hj;exact⟨Z.length,t,rfl,au,ht⟩
    |succ j=>exact h3 j s yZ
   grind
  |cons x r=>
   obtain⟨t,h,ht⟩:=Rf ρ b (λb=>rJ Z x b λZ=>aie ρ σ1 r Z K) h;obtain⟨T,h⟩:=dW _ _ _ _ h;rw[List.nodup_cons]at hn;obtain⟨σ2,U,H,h3,h4⟩:=ih r _ K h hn.2 (λi W=>au) CD;rw[za0]at H h3 h4;refine⟨σ2,U,by simp only[zap];omega,λj s hj=>?_,λi W hir=>?_⟩
   ·cases j with
    |zero=>
     simp at hj;subst hj;exact⟨x,t,rfl,by rw[h4 x T hn.1,kQ T,if_pos rfl],ht⟩
    |succ j=>exact h3 j s yZ
   grind
structure awb(ρ:QK)(σ1 σ2:ax)(fY eH:XS):Prop where
 lW:∀(j:Nat) (s:cK),σ1[j]?=some s→∃i t,ρ[j]?=some i/\σ2[i]?=some t/\yG ρ t s
 vals:∀(j i:Nat),ρ[j]?=some i->eH[i]?=fY[j]?
def yG.eqv{ρ:QK}{t s:cK}(h:yG ρ t s):(∀e sz ap aw,t=.row e sz ap aw->s=.row e sz ap aw)∧∀e cs,t=.box e cs→∃ds,s=.box e ds/\gI ρ cs ds:=by
 cases t with
 |box e cs=>
  obtain⟨ds,rfl,hd⟩:=h
  grind
 |row e sz ap aw=>exact⟨(λ_ _ _ _ e=>by rw[<-e];exact h),(λ_ _ h=>bc)⟩
 |dead=>simp
 |fz x=>simp
 |mp l=>simp
mutual
def Ren.back{ρ:QK}{σ1 σ2:ax}{fY eH:XS}(hB:awb ρ σ1 σ2 fY eH){ok qN:Nat->Prop}(b_:∀b,ok b->qN b):∀(y x:AV) (v:Value),Ren ρ y x->RA ok σ1 fY w x v->RA qN σ2 eH w y v
 | .bad,x,v,h,_=>by trivial
 | .pv y,x,v,h,hv=>by
  subst h;exact Rd.mono b_ (λ_ _ _=>rfl) y v hv
 | .own i,x,v,h,hv=>by
  obtain⟨j,hj,rfl⟩:=h;simp only[RA]at hv ⊢;rw[hB.vals j i hj];exact hv
 | .ref i k o,x,v,h,hv=>by
  obtain⟨j,hj,rfl⟩:=h;obtain⟨h0,hp,U,H⟩:=hv;obtain⟨i',t,PD,ht,fu⟩:=hB.lW j _ (zah h0);rw[hj]at PD;cases PD;refine⟨(zaa.1 ht).1,hp,λe sz ap aw he=>?_,λs2 he nj=>?_⟩
  ·rw[ht]at he;cases he;obtain⟨u,b,h3,h4⟩:=U e sz ap aw (by rw[zah h0,fu.eqv.1 _ _ _ _ rfl]);exact⟨u,b,by rw[hB.vals j i hj];exact h3,h4⟩
  ·rw[ht]at he;cases he;obtain⟨u,b,h3,h4⟩:=H _ (zah h0) (by rw[fu.Gz];exact nj);exact⟨u,b,by rw[hB.vals j i hj];exact h3,h4⟩
 | .sub i s l n,x,v,h,hv=>by
  obtain⟨j,hj,rfl⟩:=h;obtain⟨h0,hv⟩:=hv;obtain⟨i',t,PD,ht,fu⟩:=hB.lW j _ (zah h0);rw[hj]at PD;cases PD;refine⟨(zaa.1 ht).1,?_⟩;rw[hB.vals j i hj];exact hv
 | .agg cs,x,v,h,hv=>by
  obtain⟨ds,rfl,h⟩:=h;obtain⟨U,vs,rfl,H⟩:=hv;exact⟨h.ank U,vs,rfl,gI.back hB b_ cs ds _ h H⟩
 | .tup cs,x,v,h,hv=>by
  obtain⟨ds,rfl,h⟩:=h;obtain⟨vs,rfl,H⟩:=hv;exact⟨vs,rfl,gI.back hB b_ cs ds _ h H⟩
 | .clo f cs,x,v,h,hv=>by
  obtain⟨ds,rfl,h⟩:=h;obtain⟨vs,rfl,H⟩:=hv;exact⟨vs,rfl,gI.back hB b_ cs ds _ h H⟩
def gI.back{ρ:QK}{σ1 σ2:ax}{fY eH:XS}(hB:awb ρ σ1 σ2 fY eH){ok qN:Nat->Prop}(b_:∀b,ok b->qN b):∀(ys xs:XP) (vs:XS),gI ρ ys xs->eu ok σ1 fY w xs vs->eu qN σ2 eH w ys vs
 |[],xs,vs,h,hv=>by subst h;assumption
 |y::ys,xs,vs,h,hv=>by
  obtain⟨x,t,rfl,U,H⟩:=h;obtain⟨v,u,rfl,h3,h4⟩:=hv;exact⟨v,u,rfl,Ren.back hB b_ y x v U h3,gI.back hB b_ ys t u H h4⟩
end
def OO{α:Type}{l:List α}{i:Nat}{x:α}(h:l[i]?=some x):x∈l:=zag h
def ajY{K:AV->ax->Prop}{Γ:Ctx}(hΓ:Sound cx.P Γ)(J:Rel cx env Z vals a w)(f:FuncId)(aM1:XP)(vs:Array Value)(Xl:(execOp a.eval o).run cx.P w=(callFunc f vs).run cx.P w)(oF:eu (Ok cx Z vals w) Z vals w aM1 vs.toList)(hmu:(Γ f).mu=true)
 (Y:anY (Γ f).j0 aM1 Z K):Out cx env a w o K:=by
 intro next Q zS
 obtain⟨l,Y,hln,_⟩:=Du aM1 [] _ ab Y;obtain⟨r,Y,hrn,_⟩:=xf Z l l _ hln Y;obtain⟨as',Y,has⟩:=Co r aM1 _ Y;obtain⟨σ0,Y,hσ0l,hσ0⟩:=xF Z r r _ Y;obtain⟨cb,hA⟩:∃cb,akO r Z σ0 vals cb:=by
  refine⟨r.map λi=>(vals[i]?).getD undef,hrn,hσ0l,hσ0,ab,λj i hj=>?_⟩;obtain⟨s,t,hs,_⟩:=hσ0 j i hj;have:i<vals.length:=by rw[J.s.len];exact(zaa.1 hs).1
  rw[zaD,hj];simp only[zb1];rw[zah this];exact⟨rfl,_,rfl⟩
 have back:∀{j:Nat} {t:cK},σ0[j]?=some t→∃i s,r[j]?=some i/\Z[i]?=some s/\yG r s t:=by
  intro j t ht;have hj:j<r.length:=by rw[<-hσ0l];exact(zaa.1 ht).1
  obtain⟨s,t',hs,ht',fu⟩:=hσ0 j _ (zah hj);rw[ht]at ht';cases ht';exact⟨_,s,zah hj,hs,fu⟩
 have hm0:∀b,Fo σ0 cb b→∃(i:Nat) (s:cK) (v:Value),i∈r/\Z[i]?=some s/\s.live=true/\vals[i]?=some v/\bM v=some b:=by
  rintro b ⟨j,t,v,ht,hl,hv,I⟩;obtain⟨i,s,hj,hs,fu⟩:=back ht;exact⟨i,s,v,OO hj,hs,fu.live▸hl,by rw[<-(hA.vals j i hj).1];exact hv,I⟩
 have atM:∀b,Fo σ0 cb b->Fo Z vals b:=λb h=>by
  obtain⟨i,s,v,_,U,H,h3,h4⟩:=hm0 b h;exact⟨i,s,v,U,H,h3,h4⟩
 have atO:∀b,Ok cx Z vals w b->b<w.heap.size:=λb h=>h.2.1
 have aqm:∀b,Ok cx Z vals w b->Ok (mcx cx.P w (Ok cx Z vals w) atO σ0 cb) σ0 cb w b:=λb h=>⟨.inl h,h.2.1,λhm=>h.2.2 (atM b hm)⟩
 have aAN:bW (mcx cx.P w (Ok cx Z vals w) atO σ0 cb) σ0 cb w:=by
  refine⟨vH.refl _ _,λv hv=>?_,by rw[hA.asK,hσ0l],λj t v ht hv=>?_,λj k t1 t2 u v b hjk ht1 ht2 l1 l2 hu hv hbu hbv=>?_,⟨zai _,λb I=>I.elim,λ_ _ I=>I⟩,⟨λi v h=>h,zai _,λi _ e sz ap aw h=>⟨ap,aw,h⟩,λi _ s h I=>⟨s,h,I⟩⟩⟩
  ·obtain⟨j,hj⟩:=zaG.1 hv;have hjr:j<r.length:=abl;rw[(hA.vals j _ (zah hjr)).1]at hj;exact J.s.one v (zag hj)
  ·obtain⟨i,s,hj,hs,fu⟩:=back ht;have hv0:=hv;rw[(hA.vals j i hj).1]at hv;have:=J.s.lW i s v hs hv;cases s with
   |dead=>cases fu;trivial
   |fz x=>cases fu;exact Rd.mono aqm (λ_ _ _=>rfl) _ _ this
   |mp l=>cases fu;obtain⟨b,es,n,g1,g2,g3⟩:=this;exact⟨b,es,n,g1,aqm b g2,g3⟩
   |row e sz ap aw=>
    cases fu;obtain⟨h0,cells,g1,g2,g3,g4⟩:=this;refine⟨h0,cells,⟨g1.1,?_⟩,g2,g3,cz.mono aqm (λ_ _ _=>rfl) _ _ g4⟩;rcases g1.2 with h|⟨g,cap,cur,fr,e1,_,e2⟩
    ·exact .inl h
    ·exact .inr ⟨g,cap,cur,fr,e1,.inr ⟨j,_,v,ht,rfl,hv0,by rw[e1];rfl⟩,e2⟩
   |box e cs=>
    obtain⟨ds,rfl,hd⟩:=fu;obtain⟨b,arr,g1,g2,g3,g4,g5⟩:=this;exact⟨b,arr,g1,.inr ⟨j,_,v,ht,rfl,hv0,by rw[g1];rfl⟩,g3,hd.atf g4,hd.ra hA aqm _ _ _ g5⟩
  ·obtain⟨i1,s1,hj1,nk,alj⟩:=back ht1;obtain⟨i2,s2,Ed,PA,agR⟩:=back ht2;rw[(hA.vals _ _ hj1).1]at hu;rw[(hA.vals _ _ Ed).1]at hv;refine J.s.Cb i1 i2 s1 s2 u v b ?_ nk PA (alj.live▸l1) (agR.live▸l2) hu hv hbu hbv;intro e;subst e;exact hjk ((zbI (zaa.1 hj1).1 hrn).1 (hj1.trans Ed.symm))
 obtain⟨aqi,aqj⟩:=(hΓ f).2.2.2.2 w (Ok cx Z vals w) atO σ0 cb as' vs _ hmu aAN (gI.ra hA aqm _ _ _ has oF) Y;unfold Oper.wp;rw[Xl,aqi,Oper.upon_enter];refine aqj.mono ?_;rintro e w' ⟨v,res,σ1,fY,rfl,Y,nk,EV⟩;generalize Pz:mcx cx.P w (Ok cx Z vals w) atO σ0 cb=m at*;have Y:=ajo _ _ _ _ (dX Z _ Y);obtain⟨aJi,Y,Uc⟩:=WI _ _ _ Y;have atP:∀i∈r,i<Z.length:=λi W=>by
  obtain⟨j,hj⟩:=zaG.1 W;obtain⟨s,t,hs,_⟩:=hσ0 j i hj;exact(zaa.1 hs).1
 have ad4:m.wK=σ0:=C7;have aAO:m.NF=cb:=C7;have cj:∀b,m.own b↔w.heap.size<=b\/Fo σ0 cb b:=λb=>C7
 have aAP:∀b,m.Zi b↔Ok cx Z vals w b:=λb=>C7
 have hw0:m.w0=w:=C7;have hle:r.length<=σ1.length:=by have:=nk.pin.len;rw[ad4,hσ0l]at this;exact this
 obtain⟨σ2,Y,ad5,au9,aED⟩:=aeX _ σ1 r Z _ Y hrn atP hle
 let ρ:=LM σ1 r Z.length
 have hρ:ρ=LM σ1 r Z.length:=rfl;have hρlen:ρ.length=σ1.length:=amd _ _ _;have aiD:fY.length=σ1.length:=nk.len
 let eH:=vals++fY.drop r.length
 have aqn:∀i,i<Z.length->eH[i]?=vals[i]?:=λi W=>by
  show(vals++fY.drop r.length)[i]?=_;rw[zar (by rw[J.s.len];exact W)]
 have aAQ:∀i,Z.length<=i->eH[i]?=fY[i-Z.length+r.length]?:=λi W=>by
  show(vals++fY.drop r.length)[i]?=_;rw[zak (by rw[J.s.len];exact W),zaB,J.s.len,Nat.add_comm]
 have hB:awb ρ σ1 σ2 fY eH:=by
  refine⟨au9,λj i hj=>?_⟩;have xJ:j<σ1.length:=Tu;rcases zby j r.length with h|h
  ·rw[hρ,xD _ _ _ _ h xJ]at hj;rw[aqn i (atP i (OO hj))];have U:j<cb.length:=by rw[hA.asK];exact h
   have H:=nk.pin.vs j _ (by rw[aAO];exact zah U);rw[H,<-zah U,(hA.vals j i hj).1]
  ·rw[hρ,wS _ _ _ _ h xJ]at hj;cases hj;rw[aAQ _ V];congr 1;omega
 have ent:∀(i:Nat) (t:cK),σ2[i]?=some t->(i<Z.length/\i∉r/\Z[i]?=some t/\eH[i]?=vals[i]?)∨∃(j:Nat) (s:cK),ρ[j]?=some i/\σ1[j]?=some s/\yG ρ t s/\eH[i]?=fY[j]?:=by
  intro i t ht;have part:∀j:Nat,ρ[j]?=some i→∃(j:Nat) (s:cK),ρ[j]?=some i/\σ1[j]?=some s/\yG ρ t s/\eH[i]?=fY[j]?:=by
   intro j hj;have xJ:j<σ1.length:=Tu;obtain⟨i',t',PD,ht',fu⟩:=au9 j _ (zah xJ);rw[<-hρ,hj]at PD;cases PD;rw[ht]at ht';cases ht';exact⟨j,_,hj,zah xJ,fu,hB.vals j i hj⟩
  have hi2:i<Z.length+(σ1.length-r.length):=by rw[<-ad5];exact(zaa.1 ht).1
  rcases zby i Z.length with h|h
  ·by_cases hir:i∈r
   ·obtain⟨j,hj⟩:=zaG.1 hir;have hjr:j<r.length:=(zaa.1 hj).1;exact .inr (part j (by rw[hρ,xD _ _ _ _ hjr V];exact hj))
   ·exact .inl ⟨h,hir,by rw[<-aED i h hir];exact ht,aqn i h⟩
  ·exact .inr (part (i-Z.length+r.length) (by rw[hρ,wS _ _ _ _ V V];congr 1;omega))
 have ρinj:∀j k i:Nat,ρ[j]?=some i->ρ[k]?=some i->j=k:=by
  intro j k i hj E;have xJ:j<σ1.length:=Tu;have hkl:k<σ1.length:=by rw[<-hρlen];exact(zaa.1 E).1
  rcases zby j r.length with h|h<;>rcases zby k r.length with h'|h'
  ·rw[hρ,xD _ _ _ _ h xJ]at hj;rw[hρ,xD _ _ _ _ h' hkl]at E;exact(zbI h hrn).1 (hj.trans E.symm)
  ·rw[hρ,xD _ _ _ _ h xJ]at hj;rw[hρ,wS _ _ _ _ h' hkl]at E;cases E;have:=atP _ (OO hj);omega
  ·rw[hρ,wS _ _ _ _ h xJ]at hj;rw[hρ,xD _ _ _ _ h' hkl]at E;cases hj;have:=atP _ (OO E);omega
  ·rw[hρ,wS _ _ _ _ h xJ]at hj;rw[hρ,wS _ _ _ _ h' hkl]at E;cases hj;simp only[Option.some.injEq]at E;omega
 have atQ:∀b,m.own b->cx.own b:=by
  intro b I;rcases(cj b).1 I with h|h
  ·exact cx.cj _ (zam J.s.below.size h)
  ·obtain⟨i,s,v,_,U,H,h3,h4⟩:=hm0 b h;exact((J.s.lW i s v U h3).block H h4).1
 have atS:∀b,Fo σ1 fY b->m.own b/\b<w'.heap.size:=by
  rintro b ⟨j,s,v,U,H,h3,h4⟩;exact(nk.lW j s v U h3).block H h4
 have apart:∀(i:Nat) (s:cK) (v:Value) (b:Nat),i∉r->Z[i]?=some s->s.live=true->vals[i]?=some v->bM v=some b→¬m.own b:=by
  intro i s v b hir hs hl hv I ho;rcases(cj b).1 ho with h|h
  ·have:=((J.s.lW i s v hs hv).block hl I).2;omega
  ·obtain⟨i',s',v',h0,U,H,h3,h4⟩:=hm0 b h;exact J.s.Cb i i' s s' v v' b (λe=>hir (e▸h0)) hs U hl H hv h3 I h4
 have same:∀b,b<w.heap.size→¬m.own b->w'.heap[b]?=w.heap[b]?:=by
  intro b I ho;have:=nk.below.block b (by rw[hw0];exact I) ho;rw[hw0]at this;exact this
 have xH:w.heap.size<=w'.heap.size:=by have:=nk.below.size;rw[hw0]at this;exact this
 have axD:∀b,Fo σ2 eH b->(∃(i:Nat) (s:cK) (v:Value),i∉r/\Z[i]?=some s/\s.live=true/\vals[i]?=some v/\bM v=some b)\/Fo σ1 fY b:=by
  rintro b ⟨i,t,v,ht,hl,hv,I⟩;rcases ent i t ht with⟨_,hir,hs,hve⟩|⟨j,s,hj,hs,fu,hve⟩
  ·exact .inl ⟨i,t,v,hir,hs,hl,by rw[<-hve];exact hv,I⟩
  ·exact .inr ⟨j,s,v,hs,fu.live.trans hl,by rw[<-hve];exact hv,I⟩
 have okC:∀b,Ok cx Z vals w b→¬m.own b:=by
  intro b I ho;rcases(cj b).1 ho with h|h
  ·have:=I.2.1;omega
  ·exact I.2.2 (atM b h)
 have ad8:de cx Z vals w σ2 eH w':=by
  refine⟨λi v h=>?_,V,λb I=>⟨I.1,zae I.2.1 xH,λhm=>?_⟩,λb I=>same b I.2.1 (okC b I),λi W e sz ap aw h=>?_,λi W s2 h nj=>?_⟩
  ·rw[aqn i (by rw[<-J.s.len];exact(zaa.1 h).1)];exact h
  ·rcases axD b hm with⟨i,s,v,_,U,H,h3,h4⟩|h
   ·exact I.2.2 ⟨i,s,v,U,H,h3,h4⟩
   ·exact okC b I (atS b h).1
  ·rcases ent i _ h with⟨_,_,hs,_⟩|⟨j,s,hj,hs,fu,_⟩
   ·exact⟨ap,aw,hs⟩
   ·have xJ:j<σ1.length:=(zaa.1 hs).1;have hjr:j<r.length:=by
     rcases zby j r.length with h|h
     ·exact h
     ·rw[hρ,wS _ _ _ _ h xJ]at hj;cases hj;omega
    rw[hρ,xD _ _ _ _ hjr xJ]at hj;have:=fu.eqv.1 _ _ _ _ rfl;subst this;obtain⟨ap',els',h3⟩:=nk.pin.wG j (by rw[ad4,hσ0l];exact hjr) e sz ap aw hs;rw[ad4]at h3;obtain⟨i',s',PD,BF,aqp⟩:=back h3;rw[hj]at PD;cases PD;cases s' with
    |box e' cs'=>obtain⟨ds,hd,_⟩:=aqp;cases hd
    |row e' sz' ap2 T6=>cases aqp;exact⟨_,_,BF⟩
    |_=>cases aqp
  ·rcases ent i _ h with⟨_,_,hs,_⟩|⟨j,s,hj,hs,fu,_⟩
   ·exact⟨s2,hs,nj⟩
   ·have xJ:j<σ1.length:=(zaa.1 hs).1;have hjr:j<r.length:=by
     rcases zby j r.length with h|h
     ·exact h
     ·rw[hρ,wS _ _ _ _ h xJ]at hj;cases hj;omega
    rw[hρ,xD _ _ _ _ hjr xJ]at hj;obtain⟨s3,h3,Z5⟩:=nk.pin.wH j (by rw[ad4,hσ0l];exact hjr) s hs (by rw[fu.Gz];exact nj);rw[ad4]at h3;obtain⟨i',s',PD,BF,aqp⟩:=back h3;rw[hj]at PD;cases PD;exact⟨s',BF,by rw[<-aqp.Gz];exact Z5⟩
 have okB:∀b,Ok m σ1 fY w' b->Ok cx σ2 eH w' b:=by
  rintro b ⟨U,H,h3⟩;have ho:m.own b->(cx.Zi b\/cx.own b):=λh=>.inr (atQ b h)
  refine⟨?_,H,λhm=>?_⟩
  ·rcases U with U|U
   ·exact((aAP b).1 U).1
   ·exact ho U
  ·rcases axD b hm with⟨i,s,v,hir,g1,g2,g3,g4⟩|h
   ·rcases U with U|U
    ·exact((aAP b).1 U).2.2 ⟨i,s,v,g1,g2,g3,g4⟩
    ·exact apart i s v b hir g1 g2 g3 g4 U
   ·exact h3 h
 have PA:bW cx σ2 eH w':=by
  refine⟨⟨?_,?_,?_,zam J.s.below.size xH,λk E ho=>?_⟩,λv hv=>?_,?_,λi t v ht hv=>?_,λi j t1 t2 u1 u2 b sC U H l1 l2 g1 g2 g3 g4=>?_,⟨zam J.s.fr.size xH,λb I=>?_,λb hm I=>?_⟩,J.s.pin.keep ad8⟩
  ·have:=nk.below.os;rw[hw0]at this;exact this.trans J.s.below.os
  ·have:=nk.below.tape;rw[hw0]at this;exact this.trans J.s.below.tape
  ·have:=nk.below.output;rw[hw0]at this;exact this.trans J.s.below.output
  ·exact(same k (zae E J.s.below.size) (λh=>ho (atQ k h))).trans (J.s.below.block k E ho)
  ·rcases zaA.1 hv with hv|hv
   ·exact J.s.one v hv
   ·exact nk.one v (zbA hv)
  ·show(vals++fY.drop r.length).length=_;rw[zad,zay,J.s.len,aiD,ad5]
  ·rcases ent i t ht with⟨_,hir,hs,hve⟩|⟨j,s,hj,hs,fu,hve⟩
   ·rw[hve]at hv;have lV:=J.s.lW i t v hs hv;exact ad8.rb lV (λhl b I=>same b (lV.block hl I).2 (apart i t v b hir hs hl hv I))
   ·rw[hve]at hv;have lV:=nk.lW j s v hs hv;cases t with
    |dead=>trivial
    |fz x=>cases fu;exact Rd.mono okB (λ_ _ _=>rfl) _ _ lV
    |mp l=>cases fu;obtain⟨b,es,n,g1,g2,g3⟩:=lV;exact⟨b,es,n,g1,okB b g2,g3⟩
    |row e sz ap aw=>
     cases fu;obtain⟨h0,cells,f1,f2,f3,f4⟩:=lV;refine⟨h0,cells,⟨f1.1,?_⟩,f2,f3,cz.mono okB (λ_ _ _=>rfl) _ _ f4⟩;rcases f1.2 with h|⟨g,cap,cur,fr,e1,e2,e3⟩
     ·exact .inl h
     ·exact .inr ⟨g,cap,cur,fr,e1,atQ g e2,e3⟩
    |box e cs=>
     obtain⟨ds,rfl,hd⟩:=fu;obtain⟨b,arr,f1,f2,f3,f4,f5⟩:=lV;exact⟨b,arr,f1,atQ b f2,f3,hd.ank f4,gI.back hB okB _ _ _ hd f5⟩
  ·rcases ent i t1 U with⟨_,hir,hs,hve⟩|⟨j1,s1,hj1,aAR,alj,hve⟩
   ·rw[hve]at g1;rcases ent j t2 H with⟨_,hjr,hsj,hvj⟩|⟨j2,s2,Ed,axF,agR,hvj⟩
    ·rw[hvj]at g2;exact J.s.Cb i j t1 t2 u1 u2 b sC hs hsj l1 l2 g1 g2 g3 g4
    ·rw[hvj]at g2;exact apart i t1 u1 b hir hs l1 g1 g3 (atS b ⟨j2,s2,u2,axF,agR.live.trans l2,g2,g4⟩).1
   ·rw[hve]at g1;rcases ent j t2 H with⟨_,hjr,hsj,hvj⟩|⟨j2,s2,Ed,axF,agR,hvj⟩
    ·rw[hvj]at g2;exact apart j t2 u2 b hjr hsj l2 g2 g4 (atS b ⟨j1,s1,u1,aAR,alj.live.trans l1,g1,g3⟩).1
    ·rw[hvj]at g2;refine nk.Cb j1 j2 s1 s2 u1 u2 b (λe=>?_) aAR axF (alj.live.trans l1) (agR.live.trans l2) g1 g2 g3 g4;subst e;rw[hj1]at Ed;cases Ed;exact sC rfl
  ·refine(same b (zae (cx.E b I) J.s.fr.size) (λho=>?_)).trans (J.s.fr.same b I);rcases(cj b).1 ho with h|h
   ·have:=cx.E b I;have:=J.s.fr.size;omega
   ·exact J.s.fr.sy b (atM b h) I
  ·rcases axD b hm with⟨i,s,v,_,f1,f2,f3,f4⟩|h
   ·exact J.s.fr.sy b ⟨i,s,v,f1,f2,f3,f4⟩ I
   ·rcases(cj b).1 (atS b h).1 with h|h
    ·have:=cx.E b I;have:=J.s.fr.size;omega
    ·exact J.s.fr.sy b (atM b h) I
 exact zS _ _ _ v w' Y (J.keep PA ad8) (Ren.back hB okB _ _ _ Uc EV)
def V2{K:AV->ax->Prop}{Γ:Ctx}(hΓ:Sound cx.P Γ)(J:Rel cx env Z vals a w)(f:FuncId)(aM1:XP)(vs:Array Value)(Xl:(execOp a.eval o).run cx.P w=(callFunc f vs).run cx.P w)(oF:eu (Ok cx Z vals w) Z vals w aM1 vs.toList)
 (Y:F_ (Γ f) aM1 Z K):Out cx env a w o K:=by
 unfold F_ at Y;cases hmu:(Γ f).mu with
 |true=>rw[hmu]at Y;exact ajY hΓ J f aM1 vs Xl oF hmu Y
 |false=>rw[hmu]at Y;exact akz hΓ J f aM1 vs Xl oF hmu Y
def anZ{K:AV->ax->Prop}{Γ:Ctx}(hΓ:Sound cx.P Γ)(J:Rel cx env Z vals a w)(f:FuncId)(args:XU)(c:Call)(ho:o.op=.call c)(F:c.callee=.value (.func f))(cI:c.args.toList=args)
 (Y:F_ (Γ f) (args.map (bD env)) Z K):Out cx env a w o K:=by
 refine V2 hΓ J f _ (args.map a.eval).toArray ?_ (by simpa using J.evL args) Y;have iG:c.args=args.toArray:=by rw[<-cI]
 simp[execOp,ho,resolve,F,invoke,iG,Deferred.ofValue,Act.eval]
def TN(l m:XP):∀(K:XP->Prop),ao0 l m K->K (l++m):=by
 induction l with
 |nil=>intro K h;exact h
 |cons x l ih=>intro K h;exact ih _ h
def ajr{K:AV->ax->Prop}{Γ:Ctx}(hΓ:Sound cx.P Γ)(J:Rel cx env Z vals a w)(x:Operand)(args:XU)(c:Call)(ho:o.op=.call c)(F:c.callee=.value x)(cI:c.args.toList=args)
 (Y:RQ Γ (bD env x) (args.map (bD env)) Z K):Out cx env a w o K:=by
 have iG:c.args=args.toArray:=by rw[<-cI]
 have T:=J.ev x;have main:∀(g:FuncId) (cs:XP) (cv:Array Value),a.eval x=.func (.func g) #[] cv->eu (Ok cx Z vals w) Z vals w cs cv.toList->F_ (Γ g) (args.map (bD env)++cs) Z K->Out cx env a w o K:=by
  intro g cs cv hv oF Y;refine V2 hΓ J g _ ((args.map a.eval).toArray++cv) ?_ ?_ Y
  ·simp[execOp,ho,resolve,F,invoke,iG,Deferred.ofValue,hv]
  ·rw[ew];exact⟨_,_,ab,J.evL args,oF⟩
 cases th:bD env x with
 |pv p=>
  rw[th]at Y T;cases p with
  |clo g ep=>
   simp only[RA,Rd]at T;obtain⟨cv,hv,nO⟩:=T;exact main g _ cv hv ((fm _ _).2 nO) (TN _ _ _ (nY _ _ Y))
  |_=>exact vJ
 |clo g cs=>
  rw[th]at Y T;simp only[RA]at T;obtain⟨cv,hv,nO⟩:=T;exact main g cs cv hv nO (TN _ _ _ Y)
 |_=>rw[th]at Y;exact vJ
def aoD{K:AV->ax->Prop}{Γ:Ctx}(J:Rel cx env Z vals a w)(f:FuncId)(first ep:Array Operand)(ho:o.op=.makeFunc (.func f) first ep)(hf:first.toList=[])
 (Y:match (Γ f).mu with
   |true=>K (.clo f (ep.toList.map (bD env))) Z
   |false=>xX (ep.toList.map (bD env)) Z λxs Z=>K (.pv (.clo f xs)) Z):Out cx env a w o K:=by
 cases hmu:(Γ f).mu with
 |false=>rw[hmu]at Y;exact att J f first ep ho hf Y
 |true=>
  rw[hmu]at Y;have hf':first= #[]:=Array.toList_eq_nil_iff.1 hf
  refine Out.run (v:=.func (.func f) #[] (ep.map a.eval)) (by simp[execOp,ho,Instr.makeFunc,hf']) J (av:=.clo f (ep.toList.map (bD env))) ?_ Y;simp only[RA];exact⟨_,rfl,by simpa using J.evL ep.toList⟩
end
end
end Go.Dv
namespace Go.Dv
open Go.RowKit
section
section
variable {cx:Cx} {env:Env} {Z:ax} {vals:XS} {a:Act} {w w':World} {o:Oper}
def aR{α β:Type}{o:Option α}{f:α->Option β}{r:β}(h:opt o f=some r):∃x,o=some x/\f x=some r:=by
 unfold opt at h;cases o with
 |none=>cases h
 |some x=>exact⟨x,rfl,h⟩
def ef{α:Type}{b:Bool}{x:Option α}{r:α}(h:k_ b x=some r):b=true/\x=some r:=by
 unfold k_ at h;cases b with
 |true=>exact⟨rfl,h⟩
 |false=>cases h
def n7{P:Program}{t:TypeId}{i:TypeId×Nat×Nat}(h:xY P t=some i):∃ti,P.underlying t=some (.slice i.1)/\P.info? i.1=some ti/\ti.size=i.2.1/\ti.bytes=i.2.2:=by
 unfold xY at h;split at h
 ·rename_i e hu;obtain⟨ti,W,h⟩:=aR h;cases h;exact⟨ti,hu,W,rfl,rfl⟩
 ·cases h
def Bs{P:Program}{t:TypeId}{f:Nat}{q:Nat×Bool×Nat}(h:Dv.fieldPlace P t f=some q):∃fs fd,P.underlying t=some (.struct fs)/\fs[f]?=some fd/\q.1=fd.offset/\Shape P fd.type q.2.1 q.2.2/\0<q.2.2:=by
 unfold Dv.fieldPlace at h;split at h
 ·rename_i fs hu;obtain⟨fd,hf,h⟩:=aR h;obtain⟨s,hs,h⟩:=aR h;obtain⟨h0,h⟩:=ef h;cases h;exact⟨fs,fd,hu,hf,rfl,zH hs,by simpa using h0⟩
 ·cases h
def WC{x:Operand}(h:Cu x=true):x=.const (.slice none 0 0):=by
 unfold Cu at h;split at h
 ·rfl
 ·cases h
def abP{K:AV->ax->Prop}(J:Rel cx env Z vals a w)(e:TypeId)(sz:Nat)(hz:0<sz)(b9:(execOp a.eval o).run cx.P w=.ok (.value (.slice none 0 0)) w)(Y:K (.own Z.length) (Z++[.row e sz true []])):Out cx env a w o K:=by
 obtain⟨U,H⟩:=J.s.afX (Below.refl _ w) [.row e sz true []] [.slice none 0 0] rfl (by simp[Value.oneCell']) (by intro u hu b I;simp at hu;subst hu;cases I)
  (by intro i j u t b sC hu _ I;cases i with
      |zero=>simp at hu;subst hu;cases I
      |succ i=>simp at hu)
  (by intro _ i s u hs hu
      cases i with
      |zero=>simp at hs hu;subst hs hu;exact⟨hz,[],Iq _ _ _ _ _,ab,ab,by simp[cz]⟩
      |succ i=>simp at hs)
 refine Out.run b9 ⟨U,λp=>H.ra _ _ (J.env p),J.defers,λx v hq=>H.ra _ _ (J.gh x v hq),J.lo⟩ (av:=.own Z.length) ?_ Y;simp only[RA];rw[<-J.s.len];simp
def aoW{Γ:Ctx}(hΓ:Sound cx.P Γ)(J:Rel cx env Z vals a w){k:PK}{dr:Bool}(F:aio cx.P dr o=some k){K:AV->ax->Prop}(Y:kb Γ env Z k K):Out cx env a w o K:=by
 unfold aio at F;split at F
 ·
  rename_i x ho;split at F
  ·rename_i hn;obtain⟨i,_,F⟩:=aR F;have:=WC hn;subst this;cases dr with
   |true=>
    cases F;exact Kh
   |false=>
    cases hz:Nat.blt 0 i.2.1 with
    |true=>
     rw[hz]at F;cases F;exact abP J _ _ (za4 hz) SO (cS _ _ _ (dX Z _ Y))
    |false=>
     rw[hz]at F;cases F;exact Kh
  ·cases F;exact aam J x (.inl ho) (aN _ _ _ Y)
 ·
  rename_i x ho;split at F
  ·rename_i hn;obtain⟨i,_,F⟩:=aR F;have:=WC hn;subst this;cases dr with
   |true=>
    cases F;exact Kh
   |false=>
    cases hz:Nat.blt 0 i.2.1 with
    |true=>
     rw[hz]at F;cases F;exact abP J _ _ (za4 hz) SO (cS _ _ _ (dX Z _ Y))
    |false=>
     rw[hz]at F;cases F;exact Kh
  ·cases F;exact aam J x (.inr ho) (aN _ _ _ Y)
 ·
  rename_i c x y ho;cases F;refine an_ J c x y ho ?_;have h:=aN _ _ _ Y
  revert h
  cases bD env c with
  |pv p=>
   cases p with
   |bool b=>cases b with
    |true=>intro h;exact aN _ _ _ h
    |false=>intro h;exact aN _ _ _ h
   |_=>exact λh=>h
  |_=>exact λh=>h
 ·
  rename_i op t x y u ho;have bin:∀op,o.op=.binOp op t x y u->kb Γ env Z (.bin op x y) K->Out cx env a w o K:=λop ho Y=>asI J op t u x y ho (aN _ _ _ (aN _ _ _ Y))
  split at F
  ·split at F
   ·cases F;exact bin _ ho Y
   ·cases F;exact bin _ ho Y
   ·rename_i ht;cases F;exact ah8 J false t u x y (aN _ _ _ (aN _ _ _ Y)) ho ht
   ·rename_i e ht;obtain⟨hy,F⟩:=ef F;cases F;exact Xb J false t u e x y ho ht hy (aN _ _ _ Y)
   ·rename_i fs ht;obtain⟨ks,E,F⟩:=aR F;obtain⟨U,F⟩:=ef F;cases F;simp only[zaT,zbv]at U;exact ahQ J false ks t u x y (aN _ _ _ (aN _ _ _ Y)) ho fs ht E U.1 U.2
   ·cases F
  ·split at F
   ·cases F;exact bin _ ho Y
   ·cases F;exact bin _ ho Y
   ·rename_i ht;cases F;exact ah8 J true t u x y (aN _ _ _ (aN _ _ _ Y)) ho ht
   ·rename_i e ht;obtain⟨hy,F⟩:=ef F;cases F;exact Xb J true t u e x y ho ht hy (aN _ _ _ Y)
   ·rename_i fs ht;obtain⟨ks,E,F⟩:=aR F;obtain⟨U,F⟩:=ef F;cases F;simp only[zaT,zbv]at U;exact ahQ J true ks t u x y (aN _ _ _ (aN _ _ _ Y)) ho fs ht E U.1 U.2
   ·cases F
  ·cases F;exact bin _ ho Y
 ·
  rename_i op t x ho;cases F;exact avH J op t x ho (aN _ _ _ Y)
 ·
  rename_i t x k c ho;split at F
  ·rename_i kt et ht;split at F
   ·rename_i E;obtain⟨i,W,F⟩:=aR F;split at F
    ·rename_i hz;cases F;exact am_ J c t kt et x k i ho ht E W hz (aN _ _ _ (aN _ _ _ Y))
    ·cases F
   ·cases F
  ·cases F
 ·
  rename_i s d x ho;split at F
  ·rename_i k0 k hs hd;cases F;exact aiW J s d k k0 x ho hs hd (aN _ _ _ Y)
  ·rename_i hs hd;cases F;exact anE J s d x ho hs hd (aN _ _ _ Y)
  ·rename_i e hs hd;split at F
   ·rename_i he;cases F;exact arz J s d e x ho hs he hd (aN _ _ _ Y)
   ·cases F
  ·rename_i e hs hd;split at F
   ·rename_i he;cases F;exact atn J s d e x ho hs hd he (aN _ _ _ Y)
   ·cases F
  ·cases F
 ·
  rename_i t x ho;obtain⟨s,hs,F⟩:=aR F;have zy:=zH hs;split at F
  ·rename_i U;cases F;rw[U]at zy;exact ac3 J t x true _ ho ⟨_,zy,rfl⟩ (aN _ _ _ Y)
  ·rename_i U;cases F;rw[U]at zy;exact ac3 J t x false _ ho ⟨_,zy,rfl⟩ (aN _ _ _ Y)
 ·
  rename_i t x v ho;obtain⟨i,W,F⟩:=aR F;cases F;exact aiY J t i x v ho W (aN _ _ _ (aN _ _ _ Y))
 ·
  rename_i e ho;split at F
  ·rename_i q hq;cases F;exact akX J e q ho hq Y
  ·obtain⟨z,hz,F⟩:=aR F;cases F;exact ajt J e z ho hz Y
 ·
  rename_i e x ho;cases F;exact ats J e x ho (aN _ _ _ Y)
 ·
  rename_i t parts ho;split at F
  ·rename_i fs hu;obtain⟨z,hz,F⟩:=aR F;obtain⟨pl,qk,F⟩:=aR F;obtain⟨ps,VD,F⟩:=aR F;split at F
   ·cases F;exact ajd J t parts fs _ pl ps ho hu hz qk VD Y
   ·cases F
  ·rename_i m e hu;obtain⟨z,hz,F⟩:=aR F;obtain⟨s,hs,F⟩:=aR F;split at F
   ·cases F;exact afo J t e m s.2 s.1 parts _ ho hu hz (zH hs) Y
   ·cases F
  ·cases F
 ·
  rename_i t n parts ho;obtain⟨i,W,F⟩:=aR F;obtain⟨ps,VD,F⟩:=aR F;obtain⟨U,F⟩:=ef F;obtain⟨z,hz,F⟩:=aR F;cases F;obtain⟨ti,hu,yg,nP,_⟩:=n7 W;simp only[zaT,decide_eq_true_eq]at U;obtain⟨⟨U,H⟩,h3⟩:=U;rw[<-nP]at H h3 Y;exact afn J t i.1 ti n parts ps z ho hu yg VD (zab U) H (za4 h3) hz (JV _ _ _ Y)
 ·
  rename_i c ho;split at F
  ·rename_i b Ee;split at F
   ·rename_i x cI;obtain⟨t,ht,F⟩:=aR F;split at F
    ·rename_i hu;cases F;exact amY J x t c ho Ee cI ht hu (aN _ _ _ Y)
    ·rename_i e hu;cases F;exact anU J x t e c ho Ee cI ht hu (aN _ _ _ Y)
    ·cases F
   ·rename_i x y cI;split at F
    ·rename_i t u Ea;obtain⟨i,W,F⟩:=aR F;obtain⟨z,hz,F⟩:=aR F;obtain⟨U,F⟩:=ef F;obtain⟨ti,hu,yg,nP,hby⟩:=n7 W;simp only[zaT,decide_eq_true_eq]at U;obtain⟨U,H⟩:=U;have H:=zab H;split at F
     ·rename_i htu;cases F;have:=zab htu;subst this;rw[<-nP]at U H Y;rw[<-hby]at Y;exact arN J t i.1 ti z x y c ho Ee cI Ea hu yg hz H U (aN _ _ _ (aN _ _ _ Y))
     ·split at F
      ·rename_i Uq;split at F
       ·rename_i he;obtain⟨h3,F⟩:=ef F;have h3:=zab h3;cases F;rw[<-hby]at Y;exact apA J t u i.1 ti z x y c ho Ee cI Ea hu Uq yg hz (by rw[H,nP]) (by rw[nP,h3]) (aN _ _ _ (aN _ _ _ Y))
       ·cases F
      ·cases F
    ·cases F
   ·rename_i x y cI;split at F
    ·rename_i t u Ea;obtain⟨i,W,F⟩:=aR F;obtain⟨ti,hu,yg,nP,hby⟩:=n7 W;split at F
     ·rename_i Uq;split at F
      ·rename_i he;obtain⟨h3,F⟩:=ef F;have h3:=zab h3;cases F;exact apD J t u i.1 ti x y c ho Ee cI Ea hu yg (by rw[nP,h3]) (aN _ _ _ (aN _ _ _ Y))
      ·cases F
     ·cases F
    ·cases F
   ·rename_i x cI;obtain⟨t,ht,F⟩:=aR F;obtain⟨i,W,F⟩:=aR F;obtain⟨z,hz,F⟩:=aR F;obtain⟨U,F⟩:=ef F;obtain⟨ti,hu,yg,nP,hby⟩:=n7 W;cases F;simp only[zaT,decide_eq_true_eq]at U;rw[<-nP]at Y U;exact asc J t i.1 ti z x c ho Ee cI ht hu yg hz (zab U.2) (aN _ _ _ Y)
   ·rename_i x y cI;cases F;exact aoU J false x y (aN _ _ _ (aN _ _ _ Y)) c ho Ee cI
   ·rename_i x y cI;cases F;exact aoU J true x y (aN _ _ _ (aN _ _ _ Y)) c ho Ee cI
   ·cases F
  ·rename_i f Ee;split at F
   ·rename_i f;obtain⟨fn,hf,F⟩:=aR F;split at F
    ·rename_i bd hbd;obtain⟨U,F⟩:=ef F;cases F;exact anZ hΓ J f c.args.toList c ho Ee rfl (JV _ _ _ Y)
    ·cases F
   ·rename_i t;cases F;exact ajr hΓ J (.tmp t) c.args.toList c ho Ee rfl (JV env _ (λaM1=>RQ Γ (bD env (.tmp t)) aM1 Z K) (aN env (.tmp t) (λf=>evs env c.args.toList λaM1=>RQ Γ f aM1 Z K) Y))
   ·cases F
  ·cases F
 ·
  rename_i x i ho;cases F;exact arj J x i ho (aN _ _ _ Y)
 ·
  rename_i t x lo W mx ho;split at F
  ·split at F
   ·rename_i hu;cases F;exact amq J t x lo W ho hu (JH _ _ _ (JH _ _ _ (aN _ _ _ Y)))
   ·rename_i e hu;obtain⟨i,W,F⟩:=aR F;cases F;exact al_ J t e i x lo _ ho hu W (JH _ _ _ (JH _ _ _ (aN _ _ _ Y)))
   ·cases F
  ·cases F
 ·
  rename_i t x i ho;split at F
  ·rename_i hu;cases F;exact arR J t x i ho hu (aN _ _ _ (aN _ _ _ Y))
  ·rename_i m e hu;split at F
   ·rename_i q hq;unfold C5 at hq;rw[hu]at hq;simp only at hq;split at hq
    ·split at hq
     ·rename_i kd k;obtain⟨s,hs,hq⟩:=aR hq;obtain⟨I,hq⟩:=ef hq;cases hq;simp only[zaT,decide_eq_true_eq]at I;have zy:=zH hs;split at F
      ·rename_i Z6;cases F;have Z6:s.1=true:=Z6;rw[Z6]at zy;exact adt J t e x _ m kd k s.2 true s.2 ho hu rfl I.1 zy rfl (aN _ _ _ Y)
      ·rename_i Z6;cases F;have Z6:s.1=false:=Z6;rw[Z6]at zy;exact adt J t e x _ m kd k s.2 false 1 ho hu rfl I.1 zy rfl (aN _ _ _ Y)
     ·cases hq
    ·cases hq
   ·cases F
  ·cases F
 ·
  rename_i t x i ho;split at F
  ·rename_i m e hu;split at F
   ·rename_i q hq;cases F;exact ajp J t q x i ho hq (aN _ _ _ (aN _ _ _ Y))
   ·split at F
    ·rename_i q hq;cases F;exact acT J x q.1 (λb n hv=>anJ cx.P t x i q ho hq b n hv) (aN _ _ _ Y)
    ·cases F
  ·obtain⟨s,hs,F⟩:=aR F;cases F;obtain⟨ti,hu,yg,nP,_⟩:=n7 hs;rw[<-nP]at Y;exact amV J t s.1 ti x i ho hu yg (aN _ _ _ (aN _ _ _ Y))
 ·
  rename_i s x f ho;obtain⟨q,hq,F⟩:=aR F;cases F;obtain⟨fs,fd,hu,hf,U,H,h3⟩:=Bs hq;exact acT J x q.1 (λb n hv=>by rw[U];simp[execOp,ho,hv,acE cx.P s f fs fd _ _ hu hf H h3 b n]) (aN _ _ _ Y)
 ·
  rename_i s x f ho;obtain⟨q,hq,F⟩:=aR F;obtain⟨fs,fd,hu,hf,U,H,h3⟩:=Bs hq;split at F
  ·rename_i Z6;cases F;rw[Z6]at H;rw[U]at Y;exact ah7 J s x f fs fd true _ ho hu hf ⟨_,H,rfl⟩ (aN _ _ _ Y)
  ·rename_i Z6;cases F;rw[Z6]at H;rw[U]at Y;exact ah7 J s x f fs fd false _ ho hu hf ⟨_,H,rfl⟩ (aN _ _ _ Y)
 ·
  rename_i x ho;cases F;exact ak3 J x ho (aN _ _ _ Y)
 ·
  rename_i f first ep ho
  split at F
  ·rename_i f hf;cases F;exact aoD J _ first ep ho hf (JV _ _ _ Y)
  ·cases F
 ·
  rename_i t l c ho;obtain⟨i,W,F⟩:=aR F;obtain⟨z,hz,F⟩:=aR F;obtain⟨U,F⟩:=ef F;cases F;obtain⟨ti,hu,yg,nP,hby⟩:=n7 W;simp only[zaT,decide_eq_true_eq]at U;obtain⟨U,H⟩:=U;have H:=zab H;rw[<-nP]at U H Y;rw[<-hby]at Y;exact al1 J t i.1 ti z l c ho hu yg hz U H (aN _ _ _ (aN _ _ _ Y))
 ·cases F;exact vJ
 ·
  rename_i t x ho;split at F
  ·cases F
  ·rename_i d hn hd;cases F;exact ao4 J t x ho d hd (λm e=>hn m e) Y
  ·cases F
 ·cases F
def akw{Γ:Ctx}(hΓ:Sound cx.P Γ)(J:Rel cx env Z vals a w){k:PK}{dr:Bool}(F:ahv cx.P dr o=some k){K:AV->ax->Prop}(Y:kb Γ env Z k K):Out cx env a w o K:=by
 unfold ahv at F;split at F
 ·rename_i k' h;cases F;exact aoW hΓ J h Y
 ·split at F
  ·cases F;exact Y.elim
  ·cases F
end
end
end Go.Dv
namespace Go.Dv
open Go.RowKit
section
def ZD{a b:Nat}(h:a≠b):Nat.beq a b=false:=by
 cases I:Nat.beq a b with
 |false=>rfl
 |true=>simp_all
def look_eq(p:Nat)(K:AV->Prop)(e:Env):look p K e=K (aA p e):=by
 induction e with
 |nil=>rfl
 |cons hd e ih=>
  obtain⟨q,v⟩:=hd;show Bool.rec (look p K e) (K v) (Nat.beq q p)=K (bif Nat.beq q p then v else aA p e);cases Nat.beq q p with
  |true=>rfl
  |false=>exact ih
def eB(env:Env)(o:Operand)(K:AV->Prop):ev env o K=K (bD env o):=by
 cases o with
 |tmp t=>exact look_eq t K env
 |_=>rfl
def Lo(env:Env)(l:XU):∀(K:XP->Prop),evs env l K=K (l.map (bD env)):=by
 induction l with
 |nil=>intro K;rfl
 |cons o l ih=>
  intro K;show(ev env o λa=>evs env l λl=>K (a::l))=_;rw[eB,ih];rfl
def af9(env:Env)(o:Option Operand)(K:Option AV->Prop):evO env o K=K (o.map (bD env)):=by
 cases o with
 |none=>rfl
 |some x=>exact eB env x _
def S8(env:Env)(l:List (Nat×Nat×Operand)):∀(K:List (Nat×Nat×AV)->Prop),EG env l K=K (l.map λp=>(p.1,p.2.1,bD env p.2.2)):=by
 induction l with
 |nil=>intro K;rfl
 |cons o l ih=>
  intro K;show(ev env o.2.2 λa=>EG env l λl=>K ((o.1,o.2.1,a)::l))=_;rw[eB,ih];rfl
section
variable {Γ:Ctx} {Z:ax}
def EF{env aB:Env}{o:Operand}(h:∀t∈nL o,aA t aB=aA t env):bD aB o=bD env o:=by
 cases o with
 |tmp t=>exact h t (by simp[nL])
 |_=>rfl
def aec{env aB:Env}{l:XU}(h:∀t∈l.flatMap nL,aA t aB=aA t env):l.map (bD aB)=l.map (bD env):=
 zbG λo ho=>EF λt ht=>h t (zbB.2 ⟨o,ho,ht⟩)
def agn{env aB:Env}{o:Option Operand}(h:∀t∈rdO o,aA t aB=aA t env):o.map (bD aB)=o.map (bD env):=by
 cases o with
 |none=>rfl
 |some x=>exact congrArg some (EF h)
def L2{env aB:Env}{k:PK}{K:AV->ax->Prop}(h:∀t∈k.reads,aA t aB=aA t env):kb Γ aB Z k K=kb Γ env Z k K:=by
 have a:∀o,(∀t∈nL o,t∈k.reads)->bD aB o=bD env o:=λo ho=>EF λt ht=>h t (ho t ht)
 have b:∀l:XU,(∀t∈l.flatMap nL,t∈k.reads)->l.map (bD aB)=l.map (bD env):=λo ho=>aec λt ht=>h t (ho t ht)
 have c:∀q:Option Operand,(∀t∈rdO q,t∈k.reads)->q.map (bD aB)=q.map (bD env):=λo ho=>agn λt ht=>h t (ho t ht)
 clear h;cases k with
 |build z ps=>
  simp only[kb,S8];rw[zbG λp hp=>by rw[a p.2.2 λt ht=>zbB.2 ⟨p,hp,ht⟩]]
 |_=>
  simp only[PK.reads,zaA]at a b c;simp+contextual only[kb,eB,af9,Lo,a,b,c,true_or,or_true,implies_true]
def axd{a:AV}{hc G:IntKind->Int->Prop}(h:Dv.asInt a hc)(W:∀k n,hc k n->G k n):Dv.asInt a G:=by
 cases a with
 |pv x=>cases x with
  |int k n=>exact W k n h
  |_=>exact h
 |_=>exact h
def bN{β:Type}(G:(β->Prop)->Prop):Prop:=∀K,G K→∃r,K r∧∀K':β->Prop,K' r->G K'
def bN.ret{β:Type}(x:β):bN λK:β->Prop=>K x:=λ_ h=>⟨x,h,λ_ h=>h⟩
def bN.no{β:Type}:bN λ_:β->Prop=>False:=λ_ h=>h.elim
def bN.and{β:Type}{p:Prop}{G:(β->Prop)->Prop}(h:bN G):bN λK=>p/\G K:=λK E=>by
 obtain⟨r,U,H⟩:=h K E.2
 grind
def bN.ex{α β:Type}{G:α->(β->Prop)->Prop}(h:∀a,bN (G a)):bN λK=>∃a,G a K:=λK ⟨a,E⟩=>by
 obtain⟨r,U,H⟩:=h a K E;exact⟨r,U,λK' h=>⟨a,H K' h⟩⟩
def bN.num{β:Type}(f:Int->β)(n:Int):bN λK:β->Prop=>∀r:Int,r=n->K (f r):=λK h=>⟨f n,h n rfl,λK' h r J=>J▸h⟩
def bN.cmp{β:Type}(f:PV->β)(p:Prop):bN λK:β->Prop=>vN p λr=>K (f r):=λK h=>by
 classical
 exact⟨f (.bool (decide p)),h _ ab,λK' h r J=>by
  grind⟩
def bN.map{α β:Type}{G:(α->Prop)->Prop}(h:bN G)(f:α->β):bN λK=>G λa=>K (f a):=λK E=>by
 obtain⟨r,U,H⟩:=h _ E
 grind
def bN.bind{α β:Type}{G:(α->Prop)->Prop}{h2:α->(β->Prop)->Prop}(h:bN G)(h':∀a,bN (h2 a)):bN λK=>G λa=>h2 a K:=λK E=>by
 obtain⟨a,U,H⟩:=h _ E;obtain⟨r,h3,h4⟩:=h' a K U
 grind
def kA{α:Type}(l:List α):∀i,bN (eM l i):=by
 induction l with
 |nil=>intro i;exact bN.no
 |cons a l ih=>intro i;cases i with
  |zero=>exact bN.ret a
  |succ i=>exact ih i
def Mb{α:Type}(n:Nat):∀l:List α,bN (Nr n l):=by
 induction n with
 |zero=>intro l;exact dy
 |succ n ih=>intro l;cases l with
  |nil=>exact bN.no
  |cons a l=>exact(ih l).map (a:: ·)
def Ew{α:Type}(n:Nat):∀l:List α,bN (H_ n l):=by
 induction n with
 |zero=>intro l;exact dy
 |succ n ih=>intro l;cases l with
  |nil=>exact bN.no
  |cons a l=>exact ih l
def C9{α:Type}(new l:List α)(i:Nat):bN (A5 new l i):=by
 intro K h;obtain⟨pre,mid,post,U,H,h3,h4⟩:=ph new l i K h;refine⟨_,h4,λK' h'=>?_⟩;have over:∀(new l mid post:List α) (K:List α->Prop),l=mid++post->mid.length=new.length->K (new++post)->
  (List.rec (λl K=>K l) (λx _ ih l K=>match l with|[]=>False|_::r=>ih r λt=>K (x::t)) new l K):=by
  intro new
  induction new with
  |nil=>grind
  |cons x new ih=>
   intro l mid post K e hl E;cases mid with
   |nil=>grind
   |cons m mid=>
    grind
 clear h h4 K;subst U H
 induction pre generalizing K' with
 |nil=>
  cases hl:mid++post with
  |nil=>
   have hm:=(zbN.1 hl).1;have hp:=(zbN.1 hl).2;subst hm hp;have:=zaf h3.symm;subst this;exact h'
  |cons a r=>
   rw[zaZ,hl];exact over new (a::r) mid post K' hl.symm h3 au
 |cons a pre ih=>exact ih _ au
def Js(l:CK):bN (Qn l):=by
 induction l with
 |nil=>exact dy
 |cons x l ih=>exact ih.map (AV.pv x:: ·)
def agd{β:Type}(l:XP)(f:CK->β)(e:β):bN λK:β->Prop=>LI l (λt=>K (f t)) (K e):=by
 induction l generalizing f with
 |nil=>exact dy
 |cons a l ih=>
  cases a with
  |pv x=>exact ih λt=>f (x::t)
  |_=>exact bN.ret e
def adh(l:XP):bN (akJ l):=agd l (λt=>AV.pv (.agg t)) (AV.agg l)
def ac8(ag:Bool)(cs:CK):bN (Yi ag cs):=by
 cases ag with
 |true=>exact dy
 |false=>cases cs with
  |nil=>exact bN.no
  |cons c cs=>cases cs with
   |nil=>exact dy
   |cons _ _=>exact bN.no
def VT(ag:Bool)(cs:XP):bN (Qb ag cs):=by
 cases ag with
 |true=>exact adh cs
 |false=>cases cs with
  |nil=>exact bN.no
  |cons c cs=>cases cs with
   |nil=>exact dy
   |cons _ _=>exact bN.no
def EO(off:Nat)(ag:Bool)(n:Nat)(cs:CK):bN (IJ off ag n cs):=(Ew off cs).bind λr=>(Mb n r).bind λt=>ac8 ag t
def afv(a:AV):bN (Am a):=by
 cases a with
 |pv x=>cases x with
  |agg cs=>exact Js cs
  |tup _=>exact bN.no
  |_=>exact dy
 |agg cs=>exact dy
 |own id=>exact dy
 |ref id idx off=>exact dy
 |sub id sz lo n=>exact dy
 |clo f ep=>exact dy
 |_=>exact bN.no
def afu(ps:List (Nat×Nat×AV)):∀z,bN (LK z ps):=by
 induction ps with
 |nil=>intro z;exact bN.ret z
 |cons p ps ih=>intro z;exact(afv p.2.2).bind λvs=>bN.and ((C9 vs z p.1).bind λz=>ih z)
def acq{β:Type}(sz lo n:Nat)(b:cK)(f:CK->(β->Prop)->Prop)(h:∀l,bN (f l)):bN λK=>Sn sz lo n b λl=>f l K:=by
 have one:∀(s:Nat) (aw:CK),bN λK=>match Nat.beq s sz with
  |true=>lo+n<=aw.length/\f (cut lo (lo+n) aw) K
  |false=>False:=by
  intro s aw;cases Nat.beq s sz with
  |true=>exact bN.and (h _)
  |false=>exact bN.no
 cases b with
 |row e s ap aw=>exact one s aw
 |fz x=>cases x with
  |sl s aw=>exact one s aw
  |_=>exact bN.no
 |_=>exact bN.no
def HX{β:Type}(a:AV)(f:Nat->CK->(β->Prop)->Prop)(h:∀s l,bN (f s l)):bN λK=>AL Z a λs l=>f s l K:=by
 cases a with
 |pv x=>cases x with
  |sl sz aw=>exact h sz aw
  |nil sz=>exact h sz []
  |_=>exact bN.no
 |own id=>
  refine(kA Z id).bind λb=>?_
  cases b with
  |row e sz ap aw=>grind
  |fz x=>cases x with
   |sl sz aw=>grind
   |_=>exact bN.no
  |_=>exact bN.no
 |sub id sz lo n=>exact(kA Z id).bind λb=>acq sz lo n b _ λl=>h sz l
 |_=>exact bN.no
def ag_{β:Type}(n:Nat)(W:Option AV)(f:Nat->(β->Prop)->Prop)(h:∀k,bN (f k)):bN λK=>upK n W λk=>f k K:=by
 cases W with
 |none=>exact h n
 |some a=>cases a with
  |pv x=>cases x with
   |int k m=>exact bN.and (h _)
   |_=>exact bN.no
  |_=>exact bN.no
def Nf{β:Type}(n:Nat)(lo W:Option AV)(f:Nat->Nat->(β->Prop)->Prop)(h:∀l k,bN (f l k)):bN λK=>fX n lo W λl k=>f l k K:=by
 cases lo with
 |none=>exact ag_ n W _ λk=>h 0 k
 |some a=>cases a with
  |pv x=>cases x with
   |int k m=>exact ag_ n W (λu K=>(0<=m/\m<=(u:Int))/\f m.toNat u K) λu=>bN.and (h _ _)
   |_=>exact bN.no
  |_=>exact bN.no
def oi{β:Type}(a:AV)(f:IntKind->Int->(β->Prop)->Prop)(h:∀k n,bN (f k n)):bN λK=>Dv.asInt a λk n=>f k n K:=by
 cases a with
 |pv x=>cases x with
  |int k n=>exact h k n
  |_=>exact bN.no
 |_=>exact bN.no
def alZ{β:Type}(op:BinOp)(k:IntKind)(a b:Int)(f:PV->β):bN λK:β->Prop=>apw op k a b λr=>K (f r):=by
 cases op<;>first|exact bN.num (λr=>f (.int k r)) _|exact bN.cmp f _|exact bN.and (bN.num (λr=>f (.int k r)) _)
def anV{β:Type}(op:BinOp)(x y:PV)(f:PV->β):bN λK:β->Prop=>ash op x y λr=>K (f r):=by
 cases x with
 |int k a=>cases y with
  |int j b=>
   show bN λK:β->Prop=>match sameKind op k j with|true=>apw op k a b λr=>K (f r)|false=>False
   cases sameKind op k j with
   |true=>exact alZ op k a b f
   |false=>exact bN.no
  |_=>exact bN.no
 |str a=>cases y with
  |str b=>cases op<;>first|exact bN.no|exact bN.cmp f _|exact bN.and (bN.ret (f (.str (a++b))))
  |_=>exact bN.no
 |_=>exact bN.no
def Aw(a:AV):bN (gk Z a):=by
 refine AV.rec (motive_1:=λa=>bN (gk Z a)) (motive_2:=λl=>bN (bK Z l)) ?_ ?_ ?_ ?_ ?_ ?_ ?_ ?_ ?_ ?_ a
 ·exact bN.no
 ·intro x;exact bN.ret x
 ·intro id;refine(kA Z id).bind λb=>?_
  cases b with
  |row e sz ap aw=>exact dy
  |fz x=>exact dy
  |_=>exact bN.no
 ·intro id idx off;cases idx with
  |succ _=>exact bN.no
  |zero=>cases off with
   |succ _=>exact bN.no
   |zero=>exact(kA Z id).bind λb K h=>ag3 b h
 ·intro id sz lo n;exact(kA Z id).bind λb=>acq sz lo n b (λl K=>K (PV.sl sz l)) λl=>bN.ret _
 ·intro cs ih K h;obtain⟨r,U,H⟩:=ih.map PV.agg K (vw Z cs K h);exact⟨r,U,λK' h=>xm Z cs K' (H K' h)⟩
 ·intro cs ih K h;obtain⟨r,U,H⟩:=ih.map PV.tup K (AN Z cs K h);exact⟨r,U,λK' h=>D9 Z cs K' (H K' h)⟩
 ·intro _ _ _;exact bN.no
 ·exact dy
 ·intro a l U H;exact U.bind λx=>H.map (x:: ·)
def rQ(l:XP):bN (bK Z l):=by
 induction l with
 |nil=>exact dy
 |cons a l ih=>exact(Aw a).bind λx=>ih.map (x:: ·)
def jQ(Z:ax)(G:(AV->ax->Prop)->Prop):Prop:=∀K,G K→∃v,K v Z∧∀K':AV->ax->Prop,K' v Z->G K'
def bN.two{G:(AV->Prop)->Prop}(h:bN G):jQ Z λK=>G λa=>K a Z:=λK E=>by
 obtain⟨r,U,H⟩:=h _ E
 grind
def jQ.no:jQ Z λ_=>False:=λ_ h=>h.elim
def jQ.ret(a:AV):jQ Z λK=>K a Z:=λ_ h=>⟨a,h,λ_ h=>h⟩
def jQ.aAp{β:Type}{G:(β->Prop)->Prop}{h2:β->(AV->ax->Prop)->Prop}(h:bN G)(h':∀a,jQ Z (h2 a)):jQ Z λK=>G λa=>h2 a K:=λK E=>by
 obtain⟨a,U,H⟩:=h _ E;obtain⟨r,h3,h4⟩:=h' a K U
 grind
def akA(ag:Bool)(n:Nat)(a:AV):bN (FU Z ag n a):=by
 cases a with
 |pv x=>cases x with
  |cptr y=>exact(EO 0 ag n y.cells).map AV.pv
  |_=>exact bN.no
 |ref id idx off=>
  refine(kA Z id).bind λb=>?_
  cases b with
  |row e sz ap aw=>exact bN.ex λy=>bN.and ((EO off ag n y.cells).map AV.pv)
  |box e cs=>exact(Ew off cs).bind λr=>(Mb n r).bind λt=>VT ag t
  |fz x=>cases x with
   |cptr y=>exact(EO off ag n y.cells).map AV.pv
   |_=>exact bN.no
  |_=>exact bN.no
 |_=>exact bN.no
def ai2(sz:Nat)(a:AV)(i:Int):bN (MP Z sz a i):=by
 have one:∀(s:Nat) (aw:CK),bN λK:AV->Prop=>match Nat.beq s sz with
  |true=>∃y,(0<=i/\aw[i.toNat]?=some y)/\K (.pv (.cptr y))
  |false=>False:=by
  intro s aw;cases Nat.beq s sz with
  |true=>exact bN.ex λy=>bN.and (bN.ret (AV.pv (.cptr y)))
  |false=>exact bN.no
 cases a with
 |pv x=>cases x with
  |sl s aw=>exact one s aw
  |_=>exact bN.no
 |own id=>
  refine(kA Z id).bind λb=>?_
  cases b with
  |row e s ap aw=>
   show bN λK:AV->Prop=>match Nat.beq s sz with
    |true=>(0<=i/\i.toNat<aw.length)/\K (.ref id i.toNat 0)
    |false=>False
   cases Nat.beq s sz with
   |true=>exact bN.and (bN.ret (AV.ref id i.toNat 0))
   |false=>exact bN.no
  |fz x=>cases x with
   |sl s aw=>exact one s aw
   |_=>exact bN.no
  |_=>exact bN.no
 |sub id z lo n=>
  show bN λK:AV->Prop=>match Nat.beq z sz with
   |true=>eM Z id λb=>match b with
    | .row _ s _ aw=>match Nat.beq s sz with
     |true=>((0<=i/\i.toNat<n)/\lo+n<=aw.length)/\K (.ref id (lo+i.toNat) 0)
     |false=>False
    | .fz x=>match x with
     | .sl s aw=>match Nat.beq s sz with
      |true=>∃y,((0<=i/\i.toNat<n/\lo+n<=aw.length)/\aw[lo+i.toNat]?=some y)/\K (.pv (.cptr y))
      |false=>False
     |_=>False
    |_=>False
   |false=>False
  cases Nat.beq z sz with
  |false=>exact bN.no
  |true=>
   refine(kA Z id).bind λb=>?_
   cases b with
   |row e s ap aw=>
    show bN λK:AV->Prop=>match Nat.beq s sz with
     |true=>((0<=i/\i.toNat<n)/\lo+n<=aw.length)/\K (.ref id (lo+i.toNat) 0)
     |false=>False
    cases Nat.beq s sz with
    |true=>exact bN.and (bN.ret _)
    |false=>exact bN.no
   |fz x=>cases x with
    |sl s aw=>
     show bN λK:AV->Prop=>match Nat.beq s sz with
      |true=>∃y,((0<=i/\i.toNat<n/\lo+n<=aw.length)/\aw[lo+i.toNat]?=some y)/\K (.pv (.cptr y))
      |false=>False
     cases Nat.beq s sz with
     |true=>exact bN.ex λy=>bN.and (bN.ret (AV.pv (.cptr y)))
     |false=>exact bN.no
    |_=>exact bN.no
   |_=>exact bN.no
 |_=>exact bN.no
def af7(n sz:Nat)(a:AV)(i:Int):bN (Mg Z n sz a i):=by
 cases a with
 |ref id idx off=>
  cases idx with
  |succ idx=>exact bN.no
  |zero=>cases off with
   |succ off=>exact bN.no
   |zero=>
    refine(kA Z id).bind λb=>?_
    cases b with
    |row e s ap aw=>
     show bN λK:AV->Prop=>match Nat.beq s sz with
      |true=>(aw.length=n/\0<=i/\i.toNat<n)/\K (.ref id i.toNat 0)
      |false=>False
     cases Nat.beq s sz with
     |true=>exact bN.and (bN.ret _)
     |false=>exact bN.no
    |_=>exact bN.no
 |_=>exact bN.no
def Wn{β:Type}(id:Nat)(r:β):bN λK:β->Prop=>WE Z id (K r):=by
 refine(kA Z id).bind λb=>?_
 cases b with
 |row _ _ _ _=>exact bN.ret r
 |box _ _=>exact bN.ret r
 |fz x=>cases x with
  |cptr y=>exact bN.ret r
  |_=>exact bN.no
 |_=>exact bN.no
def aiZ(off:Nat)(a:AV):bN (acD Z off a):=by
 cases a with
 |pv x=>cases x with
  |cptr y=>exact(Ew off y.cells).map λr=>AV.pv (.cptr (.agg r))
  |_=>exact bN.no
 |ref id idx o=>exact Wn id (AV.ref id idx (Nat.add o off))
 |_=>exact bN.no
def Yq{P:Program}(hΓ:Sound P Γ)(env:Env){k:PK}(E:k.pure Γ=true):jQ Z (λK=>kb Γ env Z k K):=by
 cases k with
 |mv x=>simp only[kb,eB];exact oJ
 |nilS sz=>exact oJ
 |nilR e sz=>cases E
 |pick c a b=>
  simp only[kb,eB];cases bD env c with
  |pv c=>cases c with
   |bool c=>cases c with
    |true=>exact oJ
    |false=>exact oJ
   |_=>exact jQ.no
  |_=>exact jQ.no
 |bin op x y=>
  simp only[kb,eB];cases bD env x with
  |pv x=>cases bD env y with
   |pv y=>exact(anV op x y AV.pv).two
   |_=>exact jQ.no
  |_=>exact jQ.no
 |eqb neg x y=>
  simp only[kb,eB];cases bD env x with
  |pv x=>cases bD env y with
   |pv y=>cases x with
    |bool a=>cases y with
     |bool b=>cases neg with
      |false=>exact(bN.cmp AV.pv (a=b)).two
      |true=>exact(bN.cmp AV.pv (a≠b)).two
     |_=>exact jQ.no
    |_=>exact jQ.no
   |_=>exact jQ.no
  |_=>exact jQ.no
 |eqs neg n x y=>
  simp only[kb,eB];cases bD env x with
  |pv x=>cases bD env y with
   |pv y=>cases x with
    |agg a=>cases y with
     |agg b=>
      simp only;cases se n a b with
      |false=>exact jQ.no
      |true=>cases neg with
       |false=>exact(bN.cmp AV.pv (a=b)).two
       |true=>exact(bN.cmp AV.pv (a≠b)).two
     |_=>exact jQ.no
    |_=>exact jQ.no
   |_=>exact jQ.no
  |_=>exact jQ.no
 |un op x=>
  simp only[kb,eB];cases bD env x with
  |pv x=>cases op with
   |not=>cases x with
    |bool b=>exact(bN.cmp AV.pv (b=false)).two
    |_=>exact jQ.no
   |neg=>cases x with
    |int k n=>exact(bN.num (λr=>AV.pv (.int k r)) _).two
    |_=>exact jQ.no
   |_=>exact jQ.no
  |_=>exact jQ.no
 |conv c x=>
  simp only[kb,eB];cases c with
  |toInt k=>exact(oi (bD env x) (λ_ n K=>acQ k n λr=>K (AV.pv r)) λ_ n=>bN.num (λr=>AV.pv (.int k r)) _).two
  |same=>
   cases bD env x with
   |pv x=>cases x with
    |str l=>exact oJ
    |_=>exact jQ.no
   |_=>exact jQ.no
  |bts=>exact(HX (Z:=Z) (bD env x) (λ_ aw K=>∃l:P8,aw=l.map aG/\K (AV.pv (.str l))) λs aw=>bN.ex λl=>bN.and (bN.ret _)).two
  |stb e=>cases E
 |lenS x=>
  simp only[kb,eB];cases bD env x with
  |pv x=>cases x with
   |str l=>exact oJ
   |_=>exact jQ.no
  |_=>exact jQ.no
 |lenR x=>cases E
 |lenN x=>
  simp only[kb,eB];exact(HX (Z:=Z) (bD env x) (λ_ aw K=>K (AV.pv (.int .i64 aw.length))) λs aw=>bN.ret _).two
 |mm mx x y=>
  simp only[kb,eB];cases mx with
  |true=>exact(oi (bD env x) (λk a K=>Dv.asInt (bD env y) λ_ b=>∀r:Int,r=max a b->K (AV.pv (.int k r))) λk a=>oi (bD env y) (λ_ b K=>∀r:Int,r=max a b->K (AV.pv (.int k r))) λ_ b=>bN.num (λr=>AV.pv (.int k r)) _).two
  |false=>exact(oi (bD env x) (λk a K=>Dv.asInt (bD env y) λ_ b=>∀r:Int,r=min a b->K (AV.pv (.int k r))) λk a=>oi (bD env y) (λ_ b K=>∀r:Int,r=min a b->K (AV.pv (.int k r))) λ_ b=>bN.num (λr=>AV.pv (.int k r)) _).two
 |idx x y=>
  simp only[kb,eB];refine bN.two (G:=λK=>Dv.asInt (bD env y) λ_ i=>match bD env x with
   | .pv x=>match x with
    | .str l=>∃b,(0<=i/\l[i.toNat]?=some b)/\K (AV.pv (aG b))
    |_=>False
   |_=>False) ?_
  refine oi _ _ λ_ i=>?_
  cases bD env x with
  |pv x=>cases x with
   |str l=>exact bN.ex λb=>bN.and (bN.ret _)
   |_=>exact bN.no
  |_=>exact bN.no
 |slcS x lo W=>
  simp only[kb,eB,af9];cases bD env x with
  |pv x=>cases x with
   |str l=>exact(Nf l.length _ _ (λa b K=>K (AV.pv (.str (cut a b l)))) λa b=>bN.ret _).two
   |_=>exact jQ.no
  |_=>exact jQ.no
 |slcR sz x lo W=>cases E
 |idxA sz x y=>
  simp only[kb,eB];exact(oi (bD env y) (λ_ i K=>MP Z sz (bD env x) i K) λ_ i=>ai2 sz _ i).two
 |fldA off x=>simp only[kb,eB];exact(aiZ off _).two
 |fld off ag n x=>
  simp only[kb,eB];cases bD env x with
  |pv x=>cases x with
   |agg cs=>exact((EO off ag n cs).map AV.pv).two
   |_=>exact jQ.no
  |agg cs=>exact((Ew off cs).bind λr=>(Mb n r).bind λt=>VT ag t).two
  |_=>exact jQ.no
 |load ag n x=>simp only[kb,eB];exact(akA ag n _).two
 |store n x y=>cases E
 |alloc e z=>cases E
 |box e x=>cases E
 |build z ps=>
  simp only[kb,S8];exact((Js z).bind λz=>(afu _ z).bind λcs=>adh cs).two
 |bslice e sz l=>cases E
 |bslP e sz l=>cases E
 |app e sz b x y=>cases E
 |appS e b x y=>cases E
 |mksl e sz b z x y=>cases E
 |call f l=>
  have hf:(Γ f).fn=true:=E;obtain⟨U,H,_⟩:=hΓ f;simp only[kb,Lo,F_,(H hf).1,(H hf).2];refine jQ.aAp (rQ _) λps=>?_
  intro K Y;obtain⟨x,h3,h4⟩:=U hf ps _ Y;exact⟨.pv x,h3,λK' h=>h4 _ h⟩
 |ext x i=>
  simp only[kb,eB];cases bD env x with
  |tup l=>exact(kA l i).two
  |pv x=>cases x with
   |tup l=>exact((kA l i).map AV.pv).two
   |_=>exact jQ.no
  |_=>exact jQ.no
 |nilck x=>
  simp only[kb,eB];cases bD env x with
  |ref id idx off=>exact(Wn id (AV.ref id idx off)).two
  |pv x=>cases x with
   |cptr y=>exact oJ
   |clo f cs=>exact oJ
   |_=>exact jQ.no
  |clo f cs=>exact oJ
  |_=>exact jQ.no
 |mkf f l=>cases E
 |callv x l=>cases E
 |idxAr n sz x y=>
  simp only[kb,eB];exact(oi (bD env y) (λ_ i K=>Mg Z n sz (bD env x) i K) λ_ i=>af7 n sz _ i).two
 |fail=>cases E
 |junk=>cases E
 |cpyS x y=>cases E
 |clr sz z x=>cases E
 |mkarr e sz z n=>cases E
 |isnil neg x=>cases E
 |look c x y=>cases E
def ib(Γ:Ctx)(o:PO)(env:Env)(Z:ax)(K:Env->ax->Prop):Prop:=
 match o.g with
  |none=>kb Γ env Z o.k λv Z=>K (put o.dst v env) Z
  |some (g,want)=>match aA g env with
   | .pv x=>match x with
    | .bool b=>bif b==want then kb Γ env Z o.k λv Z=>K (put o.dst v env) Z else K (put o.dst (.pv (.tup [])) env) Z
    | .tup _=>K (put o.dst (.pv (.tup [])) env) Z
    |_=>False
   |_=>False
def lG(K:Env->ax->Prop)(o:PO)(l:Od)(env:Env):HV Γ K (o::l) env Z=ib Γ o env Z (HV Γ K l):=by
 obtain⟨d,g,k⟩:=o;cases g with
 |none=>rfl
 |some p=>
  obtain⟨g,want⟩:=p;unfold ib;refine Eq.trans (look_eq g (λgv=>match gv with
   | .pv x=>match x with
    | .bool b=>match b with
     |true=>(match want with
      |true=>kb Γ env Z k λv Z=>HV Γ K l (put d v env) Z
      |false=>HV Γ K l (put d (.pv (.tup [])) env) Z)
     |false=>(match want with
      |false=>kb Γ env Z k λv Z=>HV Γ K l (put d v env) Z
      |true=>HV Γ K l (put d (.pv (.tup [])) env) Z)
    | .tup _=>HV Γ K l (put d (.pv (.tup [])) env) Z
    |_=>False
   |_=>False) env) ?_
  grind
def Tt{P:Program}(hΓ:Sound P Γ){o:PO}(ho:o.k.pure Γ=true){env:Env}{K:Env->ax->Prop}(h:ib Γ o env Z K):
 ∃v,K (put o.dst v env) Z∧∀(aB:Env) (K':Env->ax->Prop),(∀t∈o.reads,aA t aB=aA t env)->K' (put o.dst v aB) Z->ib Γ o aB Z K':=by
 obtain⟨d,g,k⟩:=o;have run:∀{env:Env} {K:Env->ax->Prop},kb Γ env Z k (λv Z=>K (put d v env) Z)→∃v,K (put d v env) Z∧∀(aB:Env) (K':Env->ax->Prop),(∀t∈k.reads,aA t aB=aA t env)->K' (put d v aB) Z->kb Γ aB Z k (λv Z=>K' (put d v aB) Z):=by
  intro env K h;obtain⟨v,U,H⟩:=Yq hΓ env ho _ h;refine⟨v,U,λaB K' J E=>?_⟩;rw[L2 J]
  grind
 cases g with
 |none=>
  obtain⟨v,U,H⟩:=run (K:=K) h;exact⟨v,U,λaB K' J E=>H aB K' (λt ht=>J t az) E⟩
 |some p=>
  obtain⟨g,want⟩:=p;unfold ib at h;simp only at h;have hg:∀aB:Env,(∀t∈PO.reads ⟨d,some (g,want),k⟩,aA t aB=aA t env)->aA g aB=aA g env:=λaB J=>J g (by simp[PO.reads])
  cases hv:aA g env with
  |pv x=>
   rw[hv]at h;cases x with
   |bool b=>
    simp only at h;cases I:(b==want)with
    |true=>
     rw[I]at h;obtain⟨v,U,H⟩:=run (K:=K) h;refine⟨v,U,λaB K' J E=>?_⟩;unfold ib;simp only[hg aB J,hv,I];exact H aB K' (λt ht=>J t CJ) E
    |false=>
     unfold ib
     grind
   |tup l=>
    unfold ib
    grind
   |_=>grind
  |_=>grind
def tZ(K:Env->ax->Prop):Prop:=∀env aB Z,(∀p,aA p aB=aA p env)->K aB Z=K env Z
def Gi{d:Option Nat}{v:AV}{env aB:Env}(h:∀p,aA p aB=aA p env)(p:Nat):aA p (put d v aB)=aA p (put d v env):=by
 cases d with
 |none=>exact h p
 |some d=>rw[gU,gU,h p]
def AD{p o:PO}(h:Iw p o=false):(∀d,p.dst=some d->d∉o.reads/\o.dst≠some d)∧∀d,o.dst=some d->d∉p.reads:=by
 unfold Iw at h
 grind
def agu(y:PV)(cs:CK):bN (agA y cs):=by
 cases y<;>first|exact dy|(cases cs with
  |nil=>exact bN.no
  |cons x r=>cases r with
   |nil=>exact dy
   |cons _ _=>exact bN.no)
def aaC{P:Program}(hΓ:Sound P Γ){k:PK}(E:k.still=true){env:Env}(Z:ax){K:AV->ax->Prop}(h:kb Γ env Z k K):∃v,K v Z∧∀(σ':ax) (K':AV->ax->Prop),K' v σ'->kb Γ env σ' k K':=by
 have e:k.pure Γ=true∧∀σ' K',kb Γ env σ' k K'=kb Γ env Z k λv _=>K' v σ':=by
  cases k<;>first|cases E;done|exact⟨rfl,λ_ _=>rfl⟩|(cases ‹Cv› <;>first|cases E;done|exact⟨rfl,λ_ _=>rfl⟩)
 obtain⟨v,U,H⟩:=Yq hΓ env e.1 _ h;exact⟨v,U,λσ' K' h=>by rw[e.2];exact H _ h⟩
def WG{o p:PO}{v:AV}{env:Env}(h:∀d,p.dst=some d->d∉o.reads):∀t∈o.reads,aA t env=aA t (put p.dst v env):=by
 intro t ht;cases hd:p.dst with
 |none=>rfl
 |some d=>
  rw[gU];have:d≠t:=λe=>h d hd (e▸ht)
  rw[ZD this];rfl
def amO{p o:PO}{u v:AV}{env:Env}(c1:∀d,p.dst=some d->o.dst≠some d)(q:Nat):aA q (put p.dst v (put o.dst u env))=aA q (put o.dst u (put p.dst v env)):=by
 cases hd:p.dst with
 |none=>rfl
 |some d=>
  cases he:o.dst with
  |none=>rfl
  |some e=>
   have ca:e≠d:=λh=>c1 d hd (h▸he)
   simp only[gU];by_cases U:d=q
   ·have:=ZD ca
    grind
   ·have:=ZD U
    grind
mutual
def AV.On(P:Nat->Prop):AV->Prop
 | .own i=>P i
 | .ref i _ _=>P i
 | .sub i _ _ _=>P i
 | .agg cs=>AV.OnL P cs
 | .tup cs=>AV.OnL P cs
 |_=>True
def AV.OnL(P:Nat->Prop):XP->Prop
 |[]=>True
 |a::l=>AV.On P a/\AV.OnL P l
end
def Sub(P:Nat->Prop)(Z σ':ax):Prop:=∀(i:Nat) (b:cK),P i->Z[i]?=some b->σ'[i]?=some b
section
variable {P:Nat->Prop} {σ':ax}
def ahe(hs:Sub P Z σ'){i:Nat}(W:P i){K:cK->Prop}(h:eM Z i K):eM σ' i K:=by
 obtain⟨b,U,H⟩:=aK _ _ _ h;exact cy _ _ b _ (hs i b W U) H
def Yh(hs:Sub P Z σ'){a:AV}(ha:a.On P){K:Nat->CK->Prop}(h:AL Z a K):AL σ' a K:=by
 cases a with
 |own id=>exact oU
 |sub id sz lo n=>exact oU
 |_=>exact h
def acv(hs:Sub P Z σ'){i:Nat}(W:P i){p:Prop}(h:WE Z i p):WE σ' i p:=ahe hs W h
def apK(hs:Sub P Z σ'){off:Nat}{a:AV}(ha:a.On P){K:AV->Prop}(h:acD Z off a K):acD σ' off a K:=by
 cases a with
 |ref id idx o=>exact acv hs az h
 |_=>exact h
def amx(hs:Sub P Z σ'){ag:Bool}{n:Nat}{a:AV}(ha:a.On P){K:AV->Prop}(h:FU Z ag n a K):FU σ' ag n a K:=by
 cases a with
 |ref id idx o=>exact oU
 |_=>exact h
def amm(hs:Sub P Z σ'){sz:Nat}{a:AV}{i:Int}(ha:a.On P){K:AV->Prop}(h:MP Z sz a i K):MP σ' sz a i K:=by
 cases a with
 |own id=>exact oU
 |sub id z lo n=>
  simp only[MP]at h ⊢;cases hz:Nat.beq z sz with
  |true=>rw[hz]at h;exact oU
  |false=>grind
 |_=>exact h
def akG(hs:Sub P Z σ'){n sz:Nat}{a:AV}{i:Int}(ha:a.On P){K:AV->Prop}(h:Mg Z n sz a i K):Mg σ' n sz a i K:=by
 cases a with
 |ref id idx off=>
  cases idx with
  |zero=>cases off with
   |zero=>exact oU
   |succ _=>exact h
  |succ _=>exact h
 |_=>exact h
def Xh(hs:Sub P Z σ')(a:AV):∀{K:PV->Prop},a.On P->gk Z a K->gk σ' a K:=by
 refine AV.rec (motive_1:=λa=>∀{K:PV->Prop},a.On P->gk Z a K->gk σ' a K) (motive_2:=λl=>∀{K:CK->Prop},AV.OnL P l->bK Z l K->bK σ' l K) ?_ ?_ ?_ ?_ ?_ ?_ ?_ ?_ ?_ ?_ a
 ·intro K _ h;exact h
 ·intro x K _ h;exact h
 ·intro id K ha h;exact oU
 ·intro id idx off K ha h;cases idx with
  |succ _=>exact h
  |zero=>cases off with
   |succ _=>exact h
   |zero=>exact oU
 ·intro id sz lo n K ha h;exact oU
 ·intro cs ih K ha h;exact xm σ' cs K (ih az (vw Z cs K h))
 ·intro cs ih K ha h;exact D9 σ' cs K (ih az (AN Z cs K h))
 ·intro _ _ _ K _ h;exact h
 ·intro K _ h;exact h
 ·intro a l U H K ha h;obtain⟨x,h3,h4⟩:=Aw a _ h;refine U ha.1 (h4 _ ?_);exact H ha.2 h3
def SI(hs:Sub P Z σ')(l:XP){K:CK->Prop}(ha:AV.OnL P l)(h:bK Z l K):bK σ' l K:=by
 have:=Xh hs (.agg l) (K:=λx=>match x with| .agg cs=>K cs|_=>False) az (xm Z l _ h);exact vw σ' l _ this
def Ws{a:AV}{hc G:IntKind->Int->Prop}(h:Dv.asInt a hc)(W:∀k n,hc k n->G k n):Dv.asInt a G:=by
 cases a with
 |pv x=>cases x with
  |int k n=>exact W k n h
  |_=>exact h
 |_=>exact h
def aro{P':Program}(hΓ:Sound P' Γ)(hs:Sub P Z σ'){env:Env}{k:PK}(E:k.pure Γ=true)(ha:∀t∈k.reads,(aA t env).On P){K:AV->Prop}(h:kb Γ env Z k λv _=>K v):kb Γ env σ' k λv _=>K v:=by
 have one:∀{x:Operand},(∀t∈nL x,(aA t env).On P)->(bD env x).On P:=by
  intro x T;cases x with
  |tmp t=>exact T t (by simp[nL])
  |const v=>simp only[bD];cases v<;>simp[Aj,AV.On];(try split)<;>simp[AV.On]
  |global _=>trivial
  |func f=>trivial
 have st:k.still=true->kb Γ env σ' k λv _=>K v:=by
  intro fu;obtain⟨v,U,H⟩:=aaC hΓ fu Z h
  grind
 cases k with
 |conv c x=>
  cases c with
  |toInt k=>exact st rfl
  |same=>exact h
  |bts=>
   simp only[kb,eB]at h ⊢;exact Yh hs (one ha) h
  |stb e=>cases E
 |lenN x=>
  simp only[kb,eB]at h ⊢;exact Yh hs (one ha) h
 |idxA sz x y=>
  simp only[kb,eB]at h ⊢;exact Ws h λ_ i h=>amm hs (one λt ht=>ha t mY) h
 |idxAr n sz x y=>
  simp only[kb,eB]at h ⊢;exact Ws h λ_ i h=>akG hs (one λt ht=>ha t mY) h
 |fldA off x=>simp only[kb,eB]at h ⊢;exact apK hs (one ha) h
 |load ag n x=>simp only[kb,eB]at h ⊢;exact amx hs (one ha) h
 |nilck x=>
  simp only[kb,eB]at h ⊢;have:=one ha;cases T:bD env x with
  |ref id idx off=>
   rw[T]at h this;exact acv hs az h
  |_=>grind
 |call f l=>
  have hf:(Γ f).fn=true:=E;obtain⟨_,H,_⟩:=hΓ f;simp only[kb,Lo,F_,(H hf).1,(H hf).2]at h ⊢;have hl:AV.OnL P (l.map (bD env)):=by
   have:∀l:XU,(∀t∈l.flatMap nL,(aA t env).On P)->AV.OnL P (l.map (bD env)):=by
    intro l
    induction l with
    |nil=>intro _;trivial
    |cons x l ih=>
     intro hl;simp only[zau,AV.OnL]
     grind
   exact this l ha
  have hd:=rQ (Z:=Z) (l.map (bD env)) _ h;obtain⟨ps,h3,h4⟩:=hd;have h5:=h4 (λqs=>qs=ps) rfl;have h6:=SI hs _ hl h5;obtain⟨qs,rfl,h7⟩:=rQ (Z:=σ') (l.map (bD env)) _ h6;refine h7 _ ?_;obtain⟨x,h8,h9⟩:=(hΓ f).1 hf qs _ h3;exact h9 _ h8
 |idx x y=>exact h
 |slcS x lo W=>exact h
 |fld off ag n x=>exact h
 |build z ps=>exact h
 |mv x=>exact st rfl
 |nilS sz=>exact st rfl
 |pick c a b=>exact st rfl
 |bin op x y=>exact st rfl
 |eqb neg x y=>exact st rfl
 |eqs neg ks x y=>exact st rfl
 |un op x=>exact st rfl
 |lenS x=>exact st rfl
 |mm mx x y=>exact st rfl
 |ext x i=>exact st rfl
 |_=>cases E
end
def u6{α:Type}(l:List α)(x:α):∀(K:List α->Prop),K (l++[x])->fv l x K:=by
 induction l with
 |nil=>intro K h;exact h
 |cons a l ih=>intro K h;exact ih _ h
def AQ{α:Type}(l:List α):∀(K:Nat->Prop),K l.length->me l K:=by
 induction l with
 |nil=>intro K h;exact h
 |cons a l ih=>intro K h;exact ih _ h
def ajz{K:Env->ax->Prop}(Y:tZ K)(o:PO):tZ λenv Z=>ib Γ o env Z K:=by
 intro env aB Z hs;obtain⟨d,g,k⟩:=o;have E:kb Γ aB Z k (λv Z=>K (put d v aB) Z)=kb Γ env Z k (λv Z=>K (put d v env) Z):=by
  rw[L2 (env:=env) λt _=>hs t];congr 1;funext v Z;exact Y _ _ _ (Gi hs)
 unfold ib;cases g with
 |none=>exact E
 |some p=>
  obtain⟨g,want⟩:=p;simp only[hs g,E,Y _ _ Z (Gi (d:=d) (v:=.pv (.tup [])) hs)]
def aoh{K:Env->ax->Prop}(Y:tZ K)(l:Od):tZ (HV Γ K l):=by
 induction l with
 |nil=>exact Y
 |cons o l ih=>
  intro env aB Z hs;rw[lG,lG];exact ajz ih o env aB Z hs
def azB{P:Program}(hΓ:Sound P Γ){K:Env->ax->Prop}(Y:tZ K){p o:PO}(HB:TB Γ o p=true)(F:Iw p o=false){env:Env}
 (h:ib Γ p env Z λenv Z=>ib Γ o env Z K):ib Γ o env Z λenv Z=>ib Γ p env Z K:=by
 obtain⟨c1,c2⟩:=AD F;obtain⟨ho,hp⟩:=zbR.1 HB;obtain⟨v,U,H⟩:=Tt hΓ hp h;obtain⟨u,h3,h4⟩:=Tt hΓ ho U;exact h4 env _ (WG λd hd=>(c1 d hd).1) (H _ _ (λt ht=>(WG (v:=u) (λd hd=>c2 d hd) t ht).symm) ((Y _ _ _ λq=>amO (λd hd=>(c1 d hd).2) q).mpr h3))
def ai4{P:Program}(hΓ:Sound P Γ){K:Env->ax->Prop}(Y:tZ K)(l2:Od)(o:PO):∀(l1:Od) (env:Env) (Z:ax),(∀p∈l1,TB Γ o p=true/\Iw p o=false)->
 HV Γ K (l1++o::l2) env Z->HV Γ K (o::(l1++l2)) env Z:=by
 intro l1
 induction l1 with
 |nil=>intro env Z _ h;exact h
 |cons p l1 ih=>
  intro env Z hp h;obtain⟨FK,Xm⟩:=hp p ab;rw[zbe,lG]at h;obtain⟨v,U,H⟩:=Tt hΓ (zbR.1 FK).2 h;have h3:=ih _ _ (λq hq=>hp q iJ) U;rw[lG]at h3;have h5:=azB hΓ (aoh Y _) FK Xm (H env (λenv Z=>ib Γ o env Z (HV Γ K (l1++l2))) (λ_ _=>rfl) h3);rw[lG];have:(λenv Z=>ib Γ p env Z (HV Γ K (l1++l2)))=HV Γ K (p::(l1++l2)):=by
   funext env Z;rw[lG]
  rw[this]at h5;exact h5
end
end
end Go.Dv
namespace Go.Dv
open Go.RowKit
section
section
variable {cx:Cx} {env:Env} {Z:ax} {vals:XS} {a:Act} {w w':World} {n:Nat} {Γ:Ctx} {ops:Array Oper}
def getD_eq(t:Array Value)(d:Nat):t.getD d undef=(t[d]?).getD undef:=by
 simp[zbo]
def Xs{dst:Option Nat}{av:AV}{v:Value}(h:Rel cx env Z vals a w)(hv:RA (Ok cx Z vals w) Z vals w av v)(hd:∀d,dst=some d->d<a.tmps.size)(A6:∀d,dst=some d->cx.lo<=d):Rel cx (put dst av env) Z vals (a.put dst v) w:=by
 cases dst with
 |none=>exact h
 |some d=>
  refine⟨h.s,λp=>?_,h.defers,h.gh,λp hp=>?_⟩
  rotate_left
  ·have U:=h.lo p hp;have H:=A6 d rfl;rw[getD_eq]at U ⊢;show((a.tmps.setIfInBounds d v)[p]?).getD undef=_;rw[zbH,if_neg V];exact U
  rw[gU];show RA _ _ _ _ _ ((a.tmps.setIfInBounds d v).getD p undef);rw[getD_eq,zbH];by_cases hp:d=p
  ·subst hp;simp only[zbU,cond_true,if_true,hd d rfl,zbE];exact hv
  ·rw[ZD hp,if_neg hp];have:=h.env p;rw[getD_eq]at this;exact this
def ah0{dst:Option Nat}(h:Rel cx env Z vals a w)(hd:∀d,dst=some d->d<a.tmps.size)(A6:∀d,dst=some d->cx.lo<=d):Rel cx (put dst (.pv (.tup [])) env) Z vals (a.put dst undef) w:=
 Xs h (by simp only[RA,Rd];exact⟨#[],rfl,by simp[cz]⟩) hd A6
def vY(a:Act)(d:Option Nat)(v:Value):(a.put d v).tmps.size=a.tmps.size:=by cases d<;>simp[Act.put]
def apY(h:Rel cx env Z vals a w):Rel cx env Z vals a { w with drawn:=w.drawn+1 }:=by
 obtain⟨U,H⟩:=h.s.grow (w':=w.drew) ((Below.refl _ w).drew);exact⟨U,λp=>H.ra _ _ (h.env p),h.defers,λx v hq=>H.ra _ _ (h.gh x v hq),h.lo⟩
def apG{Γ:Ctx}{Z:ax}{env:Env}(k:PK)(K:AV->ax->Prop)(h:kb Γ env Z k.plain K):kb Γ env Z k K:=by
 cases k with
 |lenR x=>
  simp only[PK.plain,kb,eB]at h ⊢;cases hv:bD env x with
  |pv y=>
   rw[hv]at h;cases y with
   |sl s aw=>exact λ_=>h
   |nil s=>exact λ_=>h
   |_=>exact h.elim
  |own id=>
   rw[hv]at h;obtain⟨b,U,H⟩:=aK _ _ _ h;refine cy _ _ b _ U ?_;cases b with
   |row e s ap aw=>exact λ_=>H
   |fz x=>cases x with
    |sl s aw=>exact λ_=>H
    |_=>exact H.elim
   |_=>exact H.elim
  |sub id sz lo n=>
   rw[hv]at h;obtain⟨b,U,H⟩:=aK _ _ _ h;refine cy _ _ b _ U ?_;have one:∀(s:Nat) (aw:CK),(match Nat.beq s sz with
    |true=>lo+n<=aw.length/\K (.pv (.int .i64 (cut lo (lo+n) aw).length)) Z
    |false=>False)->(match Nat.beq s sz with
    |true=>lo+n<=aw.length/\((cut lo (lo+n) aw).length<=9223372036854775807->K (.pv (.int .i64 (cut lo (lo+n) aw).length)) Z)
    |false=>False):=by
    intro s aw h;cases hs:Nat.beq s sz with
    |true=>rw[hs]at h;exact⟨h.1,λ_=>h.2⟩
    |false=>rw[hs]at h;exact h.elim
   cases b with
   |row e s ap aw=>exact one s aw H
   |fz x=>cases x with
    |sl s aw=>exact one s aw H
    |_=>exact mQ
   |_=>exact mQ
  |_=>rw[hv]at h;exact h.elim
 |bslice e sz l=>exact h
 |_=>exact h
def Ta(hc:Fence):Prop:=hc=Fence.wide∨∃l,hc=Fence.wide.inRound l
def ahX{P:Program}{o:Oper}{next:Act->World->Prop}{Q:Exit->Act->World->Prop}{m:Nat}(ro:Option Nat)(hd:∀c,o.op≠.defer c)(h:o.wp P a w next Q):o.wpIn { Fence.wide with round:=ro } m P a w next Q:=by
 refine⟨λf _=>trivial,?_⟩;rw[Oper.semAt_eq _ _ _ hd];unfold Oper.wp at h;generalize (execOp a.eval o).run P w=r at*;cases r with
 |ok nx w'=>
  cases nx with
  |enter f args=>exact⟨λhs=>(by cases hs),(callsIn_wide (n:=m-1)).2 h⟩
  |row row args=>exact⟨λhs=>(by cases hs),λc cs _=>let ⟨v,w',r,s⟩:=h c cs;⟨v,w',r,stepsIn_wide.2 s⟩⟩
  |value v=>exact h
  |skip=>exact h
  |defer d=>exact h
  |_=>exact va
 |halt x w'=>cases x<;>first|exact h|exact va
def ahO{P:Program}{o:Oper}{next:Act->World->Prop}{Q:Exit->Act->World->Prop}{hc:Fence}{m:Nat}(hF:Ta hc)(hd:∀c,o.op≠.defer c)(h:o.wp P a w next Q):o.wpIn hc m P a w next Q:=by
 rcases hF with rfl|⟨l,rfl⟩
 ·exact ahX none hd h
 ·exact ahX (some l) hd h
def Ta.fn{hc:Fence}(hF:Ta hc)(f:FuncId):hc.fn f:=by
 rcases hF with rfl|⟨l,rfl⟩<;>trivial
def GP(P:Program)(dr:Bool)(ops:Array Oper)(n:Nat)(f:Nat->PO):Prop:=
 ∀i:Nat,i<ops.size→∃o po,ops[i]?=some o/\w_ P dr ops n o=some po/\(f i=po\/f i=po.plain)
def O4(hΓ:Sound cx.P Γ){f:Nat->PO}{dr:Bool}(F:GP cx.P dr ops n f){i:Nat}(W:i<ops.size)(hn:a.tmps.size=n)(J:Rel cx env Z vals a w){K:Env->ax->Prop}{next:Act->World->Prop}{Q:Exit->Act->World->Prop}{hc:Fence}{m:Nat}(hF:Ta hc)(hw:∀d,(f i).dst=some d->cx.lo<=d)
 (zS:∀aB σ' ay a' w',a'.tmps.size=n->Rel cx aB σ' ay a' w'->K aB σ'->next a' w') (h:ib Γ (f i) env Z K):wpOpIn hc m cx.P ops Q i next a w:=by
 obtain⟨o,po,ho,HB,hf⟩:=F i W;unfold w_ at HB;obtain⟨k,E,HB⟩:=aR HB;obtain⟨hd,HB⟩:=ef HB;have axG:∀d,o.dst=some d->d<a.tmps.size:=by
  intro d hd';rw[hd']at hd;rw[hn];exact za4 hd
 have hnd:∀c,o.op≠.defer c:=by
  intro c pQ;unfold ahv aio at E;rw[pQ]at E;cases E
 have A6:∀d,o.dst=some d->cx.lo<=d:=by
  intro d hd';refine hw d ?_;have:(f i).dst=po.dst:=Ck;rw[this,<-hd'];cases hg:o.guard with
  |none=>rw[hg]at HB;cases HB;rfl
  |some gw=>
   rw[hg]at HB;obtain⟨oj,_,HB⟩:=aR HB;obtain⟨dd,_,HB⟩:=aR HB;cases HB;rfl
 have run:kb Γ env Z k (λv Z=>K (put o.dst v env) Z)->o.wpIn hc m cx.P a w next Q:=by
  intro h;refine ahO hF hnd ?_;refine akw hΓ J E h next Q ?_
  intro av σ' ay v w' Y eI hv;exact zS _ _ _ _ _ ((vY ..).trans hn) (Xs eI hv axG A6) Y
 have run':kb Γ env Z (f i).k (λv Z=>K (put o.dst v env) Z)->(f i).k=k\/(f i).k=k.plain->o.wpIn hc m cx.P a w next Q:=by
  intro h he;rcases he with he|he
  ·rw[he]at h;exact run h
  ·rw[he]at h;exact run (apG _ _ h)
 unfold wpOpIn;simp only[ho];cases hg:o.guard with
 |none=>
  rw[hg]at HB;simp only at HB;cases HB;have:Region.wanted o (yielded ops a.tmps)=true:=J2;rw[if_pos this];unfold ib at h;have e1:(f i).g=none:=Ck;have e2:(f i).dst=o.dst:=Ck;have e3:(f i).k=k\/(f i).k=k.plain:=adA;rw[e1,e2]at h;exact run' h e3
 |some gw=>
  obtain⟨j,want⟩:=gw;rw[hg]at HB;simp only at HB;obtain⟨oj,hoj,HB⟩:=aR HB;obtain⟨d,hdj,HB⟩:=aR HB;cases HB;have e1:(f i).g=some (d,want):=Ck;have e2:(f i).dst=o.dst:=Ck;have e3:(f i).k=k\/(f i).k=k.plain:=adA;unfold ib at h;rw[e1,e2]at h;simp only at h;cases hv:aA d env with
  |pv x=>
   rw[hv]at h;cases x with
   |bool b=>
    simp only at h;have hy:yielded ops a.tmps j=some b:=by
     have U:=J.env d;rw[hv,getD_eq]at U;simp only[RA,Rd]at U;unfold yielded;simp only[hoj,zbY,hdj];cases ht:a.tmps[d]? with
     |none=>rw[ht]at U;cases U
     |some v=>rw[ht]at U;simp only[zbE]at U;rw[U]
    have hw:Region.wanted o (yielded ops a.tmps)=(b==want):=by
     simp only[Region.wanted,hg,hy];cases b<;>cases want<;>rfl
    rw[hw];cases I:(b==want)with
    |true=>rw[I]at h;exact run' h e3
    |false=>
     rw[I]at h;exact⟨λf _=>hF.fn f,zS _ _ _ _ _ ((vY ..).trans hn) (ah0 J axG A6) h⟩
   |tup l=>
    simp only at h;have hy:yielded ops a.tmps j=none:=by
     have U:=J.env d;rw[hv,getD_eq]at U;simp only[RA,Rd]at U;obtain⟨vs,U,_⟩:=U;unfold yielded;simp only[hoj,zbY,hdj];cases ht:a.tmps[d]? with
     |none=>rfl
     |some v=>rw[ht]at U;simp only[zbE]at U;rw[U]
    have hw:Region.wanted o (yielded ops a.tmps)=false:=by
     simp only[Region.wanted,hg,hy];cases want<;>rfl
    rw[hw];exact⟨λf _=>hF.fn f,zS _ _ _ _ _ ((vY ..).trans hn) (ah0 J axG A6) h⟩
   |_=>exact h.elim
  |_=>rw[hv]at h;exact h.elim
def WY(hΓ:Sound cx.P Γ){f:Nat->PO}{dr:Bool}(F:GP cx.P dr ops n f){K:Env->ax->Prop}{Q:Exit->Act->World->Prop}{hc:Fence}{m:Nat}(hF:Ta hc)(hw:∀i,i<ops.size→∀d,(f i).dst=some d->cx.lo<=d)
 (hQ:∀aB σ' ay a' w',a'.tmps.size=n->Rel cx aB σ' ay a' w'->K aB σ'->Q .normal a' w'):
 ∀(is:QK) (env:Env) (Z:ax) (vals:XS) (a:Act) (w:World),(∀i∈is,i<ops.size)->a.tmps.size=n->Rel cx env Z vals a w->HV Γ K (is.map f) env Z->wpOpsIn hc m cx.P ops Q is a w:=by
 intro is
 induction is with
 |nil=>intro env Z vals a w _ hn J h;exact hQ _ _ _ _ _ hn J h
 |cons i is ih=>
  intro env Z vals a w W hn J h;rw[zau,lG]at h;rw[wpOpsIn_cons];exact O4 hΓ F (W i ab) hn J hF (hw i (W i ab)) (λaB σ' ay a' w' HN eI Y=>ih aB σ' ay a' w' (λj hj=>W j (by simp[hj])) HN eI Y) h
structure auM(Γ:Ctx)(ops:Array Oper)(f:Nat->PO)(kh bs:Nat->QK):Prop where
 avX:∀(i:Nat) (o:Oper),ops[i]?=some o→∀j∈kh i,∃e∈o.after,Region.binds .any e=true/\e.on=j
 back:∀(i:Nat) (o:Oper),ops[i]?=some o→∀e∈o.after,Region.binds .any e=true->e.on∈kh i
 lt:∀i,i<ops.size→∀j∈kh i,j<i
 bef:∀i,i<ops.size→∀j∈bs i,j∈kh i∨∃e∈kh i,j∈bs e
 free:∀i j,i<ops.size->j<i->j∈bs i\/(TB Γ (f i) (f j)=true/\Iw (f j) (f i)=false)
def left(n:Nat)(aQ:Array Bool):QK:=(List.range n).filter λi=>!aQ.getD i true
def acW{n i:Nat}{aQ:Array Bool}(hs:aQ.size=n)(W:i<n)(hl:aQ.getD i true=false):
 ∃l1 l2,left n aQ=l1++i::l2/\left n (aQ.setIfInBounds i true)=l1++l2/\(∀j∈l1,j<i/\aQ.getD j true=false):=by
 have aqq:List.range n=List.range i++i::(List.range (n-i-1)).map (· +(i+1)):=by
  have U:n=i+(1+(n-i-1)):=V
  conv=>lhs;rw[U,zb2,zb2]
  simp only[zaY,List.map_map];congr 1;show(List.range 1).map (i+ ·)++_=_;simp only[List.range_one,zau,List.map_nil,zaW,List.singleton_append];congr 1;apply zbG;intro k _;simp only[Function.comp_apply];omega
 refine⟨(List.range i).filter λi=>!aQ.getD i true,((List.range (n-i-1)).map (· +(i+1))).filter λi=>!aQ.getD i true,?_,?_,?_⟩
 ·unfold left;rw[aqq,zbV,zbZ,if_pos (by simp only[hl,zbP])]
 ·unfold left;rw[aqq,zbV,zbZ];have e0:(aQ.setIfInBounds i true).getD i true=true:=by
   rw[zbo,zbC V];rfl
  rw[if_neg (by rw[e0];simp)];congr 1
  ·apply zbX;intro j hj;have:j<i:=zbp.1 hj;rw[getD_set_ne true V]
  ·apply zbX;intro j hj;obtain⟨k,_,rfl⟩:=zaX.1 hj;rw[getD_set_ne true V]
 ·intro j hj;obtain⟨U,H⟩:=zbq.1 hj;exact⟨zbp.1 U,nh⟩
def aeW(hΓ:Sound cx.P Γ){f:Nat->PO}{dr:Bool}(F:GP cx.P dr ops n f){kh bs:Nat->QK}(hD:auM Γ ops f kh bs){K:Env->ax->Prop}(Y:tZ K){Q:Exit->Act->World->Prop}{hc:Fence}{m:Nat}(hF:Ta hc)(hw:∀i,i<ops.size→∀d,(f i).dst=some d->cx.lo<=d)
 (hQ:∀aB σ' ay a' w',a'.tmps.size=n->Rel cx aB σ' ay a' w'->K aB σ'->Q .normal a' w'):
 ∀(fuel:Nat) (aQ:Array Bool) (env:Env) (Z:ax) (vals:XS) (a:Act) (w:World),aQ.size=ops.size->(left ops.size aQ).length<=fuel->
  (∀i,i<ops.size->aQ.getD i false=true→∀j∈bs i,aQ.getD j false=true)->
  a.tmps.size=n->Rel cx env Z vals a w->HV Γ K ((left ops.size aQ).map f) env Z->wpAnyIn hc m cx.P .any ops Q fuel aQ a w:=by
 have empty:∀(aQ:Array Bool),aQ.size=ops.size->Region.ready .any ops aQ=[]->left ops.size aQ=[]:=by
  intro aQ hs J;apply Decidable.byContradiction;intro ca;obtain⟨i,W,axH⟩:∃i,i∈left ops.size aQ∧∀j,j<i->j∉left ops.size aQ:=by
   have hex:∃i,i∈left ops.size aQ:=by
    cases hl:left ops.size aQ with
    |nil=>exact absurd hl ca
    |cons x xs=>exact⟨x,ab⟩
   obtain⟨i,W⟩:=hex
   induction i using Nat.strongRecOn with
   |_ i ih=>
    by_cases h:∃j,j<i/\j∈left ops.size aQ
    ·obtain⟨j,hj,hm⟩:=h;exact ih j hj hm
    ·exact⟨i,W,λj hj hm=>h ⟨j,hj,hm⟩⟩
  obtain⟨U,H⟩:=zbq.1 W;have U:=zbp.1 U;have Ud:i∈Region.ready .any ops aQ:=by
   refine mem_ready.2 ⟨nh,ops[i],zaI U,λe he I=>?_⟩;have hj:=hD.back i _ (zaI U) e he I;have aM:=hD.lt i U _ hj;have:=axH _ aM;cases hg:aQ.getD e.on true with
   |false=>exact absurd (zbq.2 ⟨zbp.2 V,Se⟩) this
   |true=>
    rw[zbo]at hg ⊢;rw[zaI V]at hg ⊢;exact hg
  rw[J]at Ud;cases Ud
 intro fuel
 induction fuel with
 |zero=>
  intro aQ env Z vals a w hs hl iX hn J h;have KI:left ops.size aQ=[]:=zaf V;refine⟨?_,?_⟩
  ·cases lf:Region.ready .any ops aQ with
   |nil=>rfl
   |cons i is=>
    exfalso;have W:i∈Region.ready .any ops aQ:=by rw[lf];simp
    obtain⟨U,o,H,_⟩:=mem_ready.1 W;have:i∈left ops.size aQ:=zbq.2 ⟨zbp.2 (zao.1 H).1,by simp only[U,zbP]⟩;rw[KI]at this;cases this
  ·rw[KI]at h;exact hQ _ _ _ _ _ hn J h
 |succ fuel ih=>
  intro aQ env Z vals a w hs hl iX hn J h;refine⟨λh0=>?_,λi W=>?_⟩
  ·rw[empty aQ hs h0]at h;exact hQ _ _ _ _ _ hn J h
  ·obtain⟨hun,o,ho,KF⟩:=mem_ready.1 W;have aM:i<ops.size:=(zao.1 ho).1;obtain⟨l1,l2,e1,e2,h3⟩:=acW hs aM hun;have aqr:∀j∈kh i,aQ.getD j false=true:=by
    intro j hj;obtain⟨e,he,I,rfl⟩:=hD.avX i o ho j hj;exact KF e he I
   have ZX:∀j∈bs i,aQ.getD j false=true:=by
    intro j hj;rcases hD.bef i aM j hj with h|⟨e,he,h⟩
    ·exact aqr j h
    ·exact iX e (Nat.lt_trans (hD.lt i aM e he) aM) (aqr e he) j h
   have KJ:∀j∈l1,TB Γ (f i) (f j)=true/\Iw (f j) (f i)=false:=by
    intro j hj;obtain⟨h4,h5⟩:=h3 j hj;rcases hD.free i j aM h4 with h|h
    ·have:=ZX j h;rw[zbo,zaI V]at h5 this;rw[zbE]at h5 this;rw[h5]at this;cases this
    ·exact h
   rw[e1,zaY,zau]at h;have aqs:=ai4 hΓ Y (l2.map f) (f i) (l1.map f) env Z
    (λp hp=>by obtain⟨j,hj,rfl⟩:=zaX.1 hp;exact KJ j hj) h
   rw[lG,<-zaY,<-e2]at aqs;refine O4 hΓ F aM hn J hF (hw i aM) (λaB σ' ay a' w' HN eI hK'=>?_) aqs;refine ih _ aB σ' ay a' w' (by simpa using hs) ?_ ?_ HN eI hK'
   ·rw[e2];rw[e1]at hl;simp at hl ⊢;omega
   ·intro k E hlk j hj;by_cases hik:i=k
    ·subst hik;exact getD_set_true (ZX j hj)
    ·rw[getD_set_ne false hik]at hlk;exact getD_set_true (iX k E hlk j hj)
end
end
end Go.Dv
namespace Go.Dv
open Go.RowKit
section
section
variable {cx:Cx} {env:Env} {Z:ax} {vals:XS} {a:Act} {w w':World}
def adM(pin:QK)(cx:Cx):Prop:=pin=List.range cx.wK.length/\cx.NF.length=cx.wK.length
def aat{r:QK}{σ':ax}(hp0:∀j,j<cx.wK.length\/j<cx.NF.length->r[j]?=some j)(hn:r.Nodup)(U:σ'.length=r.length)(H:∀(j i:Nat),r[j]?=some i→∃s t,Z[i]?=some s/\σ'[j]?=some t/\yG r s t)(hs:bW cx Z vals w):
 ∃ay,akO r Z σ' vals ay/\bW cx σ' ay w∧∀b,Ok cx Z vals w b->Ok cx σ' ay w b:=by
 obtain⟨ay,hA⟩:∃ay,akO r Z σ' vals ay:=by
  refine⟨r.map λi=>(vals[i]?).getD undef,hn,U,H,ab,λj i hj=>?_⟩;obtain⟨s,t,BF,_⟩:=H j i hj;have:i<vals.length:=by rw[hs.len];exact(zaa.1 BF).1
  rw[zaD,hj];simp only[zb1];rw[zah this];exact⟨rfl,_,rfl⟩
 have back:∀{j:Nat} {t:cK},σ'[j]?=some t→∃i s,r[j]?=some i/\Z[i]?=some s/\yG r s t:=by
  intro j t ht;have hj:j<r.length:=by rw[<-U];exact(zaa.1 ht).1
  obtain⟨s,t',BF,ht',fu⟩:=H j _ (zah hj);rw[ht]at ht';cases ht';exact⟨_,s,zah hj,BF,fu⟩
 have T8:∀b,Fo σ' ay b->Fo Z vals b:=by
  rintro b ⟨j,t,v,ht,hl,hv,I⟩;obtain⟨i,s,hj,BF,fu⟩:=back ht;exact⟨i,s,v,BF,fu.live▸hl,by rw[<-(hA.vals j i hj).1];exact hv,I⟩
 have b_:∀b,Ok cx Z vals w b->Ok cx σ' ay w b:=λb I=>⟨I.1,I.2.1,λhm=>I.2.2 (T8 b hm)⟩
 have aqt:∀j,j<cx.wK.length->r[j]?=some j:=λj hj=>hp0 j (.inl hj)
 have ET:Pin cx σ' ay:=by
  refine⟨λj v hv=>?_,?_,λj hj e sz ap aw ht=>?_,λj hj s2 ht nj=>?_⟩
  ·have hj:j<cx.NF.length:=(zaa.1 hv).1;rw[(hA.vals j j (hp0 j (.inr hj))).1];exact hs.pin.vs j v hv
  ·rw[U];rcases zby r.length cx.wK.length with aM|hge
   ·have:=(zaa.1 (aqt _ aM)).1;omega
   ·exact hge
  ·obtain⟨i,s,W,BF,fu⟩:=back ht;rw[aqt j hj]at W;cases W;cases s with
   |box e' cs'=>obtain⟨ds,hd,_⟩:=fu;cases hd
   |row e' sz' ap' els'=>cases fu;exact hs.pin.wG j hj _ _ _ _ BF
   |_=>cases fu
  ·obtain⟨i,s,W,BF,fu⟩:=back ht;rw[aqt j hj]at W;cases W;exact hs.pin.wH j hj _ BF (by rw[<-fu.Gz];exact nj)
 refine⟨ay,hA,⟨hs.below,λv hv=>?_,by rw[hA.asK,U],λj t v ht hv=>?_,λj k t1 t2 u v b hjk ht1 ht2 l1 l2 hu hv hbu hbv=>?_,⟨hs.fr.size,hs.fr.same,λb hm=>hs.fr.sy b (T8 b hm)⟩,ET⟩,b_⟩
 ·obtain⟨j,hj⟩:=zaG.1 hv;have hjr:j<r.length:=abl;rw[(hA.vals j _ (zah hjr)).1]at hj;exact hs.one v (zag hj)
 ·obtain⟨i,s,hj,BF,fu⟩:=back ht;rw[(hA.vals j i hj).1]at hv;have:=hs.lW i s v BF hv;cases s with
  |dead=>cases fu;trivial
  |fz x=>cases fu;exact Rd.mono b_ (λ_ _ _=>rfl) _ _ this
  |mp l=>cases fu;obtain⟨b,es,n,g1,g2,g3⟩:=this;exact⟨b,es,n,g1,b_ b g2,g3⟩
  |row e sz ap aw=>
   cases fu;obtain⟨h0,cells,g1,g2,g3,g4⟩:=this;exact⟨h0,cells,g1,g2,g3,cz.mono b_ (λ_ _ _=>rfl) _ _ g4⟩
  |box e cs=>
   obtain⟨ds,rfl,hd⟩:=fu;obtain⟨b,arr,g1,g2,g3,g4,g5⟩:=this;exact⟨b,arr,g1,g2,g3,hd.atf g4,hd.ra hA b_ _ _ _ g5⟩
 ·obtain⟨i1,s1,hj1,nk,alj⟩:=back ht1;obtain⟨i2,s2,Ed,PA,agR⟩:=back ht2;rw[(hA.vals _ _ hj1).1]at hu;rw[(hA.vals _ _ Ed).1]at hv;refine hs.Cb i1 i2 s1 s2 u v b ?_ nk PA (alj.live▸l1) (agR.live▸l2) hu hv hbu hbv;intro e;subst e;exact hjk ((zbI (zaa.1 hj1).1 hn).1 (hj1.trans Ed.symm))
def Yg{pin r:QK}{σ':ax}(HC:adM pin cx)(hpr:pin<+:r)(hn:r.Nodup)(U:σ'.length=r.length)(H:∀(j i:Nat),r[j]?=some i→∃s t,Z[i]?=some s/\σ'[j]?=some t/\yG r s t)(hs:bW cx Z vals w):
 ∃ay,akO r Z σ' vals ay/\bW cx σ' ay w∧∀b,Ok cx Z vals w b->Ok cx σ' ay w b:=by
 refine aat (λj hj=>?_) hn U H hs;have hj:j<cx.wK.length:=by rw[HC.2]at hj;exact hj.elim id id
 obtain⟨t,rfl⟩:=hpr;rw[zar (by rw[HC.1];simpa using hj),HC.1,zbD hj]
def ahV(hgh:∀x v,¬cx.gh x v){pin:QK}(HC:adM pin cx)(J:Rel cx env Z vals a w)(ps:QK){K:Env->ax->Prop}(h:gc pin env Z ps K):∃aB σ' ay,K aB σ'/\Rel cx aB σ' ay a w:=by
 have h:=Tw _ _ _ h;obtain⟨l,h,hl,FK⟩:=M4 _ _ _ (by rw[HC.1];exact zb0) h;obtain⟨r,h,hn,Xm⟩:=xf _ _ _ _ hl h;obtain⟨aB,h,he⟩:=Ni _ _ _ h;obtain⟨σ',h,U,H⟩:=xF _ _ _ _ h;obtain⟨ay,hA,BF,b_⟩:=Yg HC (FK.trans Xm) hn U H J.s;refine⟨aB,σ',ay,h,BF,λp=>?_,J.defers,λx v hq=>absurd hq (hgh x v),J.lo⟩;have F:aA p (ps.map λp=>(p,aA p env))=aA p env\/aA p (ps.map λp=>(p,aA p env))=.bad:=DZ env ps p;have hp:=he p;have hv:RA (Ok cx Z vals w) Z vals w (aA p (ps.map λp=>(p,aA p env))) (a.tmps.getD p undef):=by
  rcases F with F|F
  ·rw[F];exact J.env p
  ·rw[F];simp only[RA]
 exact Ren.ra hA b_ _ _ _ hp hv
end
end
end Go.Dv
namespace Go.Dv
open Go.RowKit
section
section
variable {cx:Cx} {env:Env} {Z:ax} {vals:XS} {a:Act} {w w':World} {n:Nat} {Γ:Ctx} {ops:Array Oper}
def KW(J:bW cx Z vals w){b:Nat}(hm:Fo Z vals b):∃cur e fr,w.heap[b]?=some (.cells cur e fr):=by
 obtain⟨i,s,v,U,H,h3,h4⟩:=hm;have hs:=J.lW i s v U h3;cases s with
 |dead=>cases H
 |fz x=>cases H
 |mp l=>cases H
 |row e sz ap aw=>
  obtain⟨_,cells,h5,_⟩:=hs;rcases h5.2 with⟨rfl,_⟩|⟨g,cap,cur,fr,rfl,_,h6,_⟩
  ·cases h4
  ·cases h4;grind
 |box e cs=>
  obtain⟨g,arr,rfl,_,h6,_⟩:=hs;cases h4;grind
mutual
def RA.e_{ok qN:Nat->Prop}(E:∀b,ok b->qN b)(F:∀b o u,ok b->w.cell? ⟨b,o,none⟩=some u->w'.cell? ⟨b,o,none⟩=some u):∀(x:AV) (v:Value),RA ok Z vals w x v->RA qN Z vals w' x v
 | .bad,_,_=>by assumption
 | .pv x,v,h=>by exact Rd.e_ E F x v h
 | .own i,v,h=>by assumption
 | .ref i k o,v,h=>by assumption
 | .sub i s l n,v,h=>by assumption
 | .agg cs,v,h=>by
  obtain⟨h0,vs,U,H⟩:=h;exact⟨h0,vs,U,eu.e_ E F cs _ H⟩
 | .tup cs,v,h=>by
  obtain⟨vs,U,H⟩:=h;exact⟨vs,U,eu.e_ E F cs _ H⟩
 | .clo f cs,v,h=>by
  obtain⟨vs,U,H⟩:=h;exact⟨vs,U,eu.e_ E F cs _ H⟩
def eu.e_{ok qN:Nat->Prop}(E:∀b,ok b->qN b)(F:∀b o u,ok b->w.cell? ⟨b,o,none⟩=some u->w'.cell? ⟨b,o,none⟩=some u):∀(l:XP) (vs:XS),eu ok Z vals w l vs->eu qN Z vals w' l vs
 |[],_,h=>by assumption
 |x::xs,vs,h=>by
  obtain⟨v,r,U,H,h3⟩:=h;exact⟨v,r,U,RA.e_ E F x v H,eu.e_ E F xs r h3⟩
end
def aaG:∀{Z:ax},U0 Z=true→∀(i:Nat) (l:List (Int×Bool)),Z[i]?≠some (cK.mp l)
 |[],_,i,l=>by simp
 |b::Z,h,i,l=>by
  cases b with
  |mp l=>cases h
  |_=>
   cases i with
   |zero=>simp
   |succ i=>exact aaG (Z:=Z) h i l
def bW.other(J:bW cx Z vals w){row:Option Nat}(hg:w.grownBy w' row)(jH:∀r,row=some r->cx.own r/\cx.w1.heap.size<=r∧∃o:Obj,w.heap[r]?=some o/\o.isCells=false)(rk:U0 Z=true∨∀r,row=some r→∀es n,w.heap[r]?≠some (.map es n)):
 bW cx Z vals w'∧∀x v,RA (Ok cx Z vals w) Z vals w x v->RA (Ok cx Z vals w') Z vals w' x v:=by
 have aqd:∀(b:Nat) (cur:Array Value) (e:TypeId) (fr:Nat×Nat),w.heap[b]?=some (.cells cur e fr)->w'.heap[b]?=some (.cells cur e fr):=by
  intro b cur e fr h;refine(hg.block b (zao.1 h).1 (λe'=>?_)).trans h;obtain⟨_,_,o,ho,F⟩:=jH b e'.symm;rw[h]at ho;cases ho;cases F
 have F:∀b o u,Ok cx Z vals w b->w.cell? ⟨b,o,none⟩=some u->w'.cell? ⟨b,o,none⟩=some u:=by
  intro b o u _ h;unfold World.cell? at h;cases I:w.heap[b]? with
  |none=>grind
  |some ob=>
   cases ob with
   |cells cur e fr=>simp[I]at h;simp[World.cell?,aqd b _ _ _ I,h]
   |_=>grind
 have E:∀b,Ok cx Z vals w b->Ok cx Z vals w' b:=λb h=>⟨h.1,zae h.2.1 hg.size,h.2.2⟩
 refine⟨⟨J.below.grown hg (λk e=>(jH k e).1),J.one,J.len,λi s v U H=>?_,J.Cb,
  ⟨zam J.fr.size hg.size,λb I=>(hg.block b (zae (cx.E b I) J.fr.size) (λe=>by have:=(jH b e.symm).2.1;have:=cx.E b I;omega)).trans (J.fr.same b I),J.fr.sy⟩,J.pin⟩,λx v h=>RA.e_ E F x v h⟩
 have hs:=J.lW i s v U H;cases s with
 |dead=>trivial
 |fz x=>exact Rd.e_ E F x v hs
 |mp l=>
  obtain⟨b,es,n,e1,e2,e3,e4⟩:=hs;refine⟨b,es,n,e1,E b e2,(hg.block b (zao.1 e3).1 (λe'=>?_)).trans e3,e4⟩;rcases rk with rk|rk
  ·exact aaG rk i l U
  grind
 |row e sz ap aw=>
  obtain⟨h0,cells,h3,h4,h5,h6⟩:=hs;refine⟨h0,cells,⟨h3.1,?_⟩,h4,h5,cz.e_ E F _ _ h6⟩;rcases h3.2 with h|⟨g,cap,cur,fr,e1,e2,e3,e4⟩
  ·grind
  ·exact .inr ⟨g,cap,cur,fr,e1,e2,aqd g _ _ _ e3,e4⟩
 |box e cs=>
  obtain⟨b,arr,e1,e2,e3,e4,e5⟩:=hs;exact⟨b,arr,e1,e2,aqd b _ _ _ e3,e4,eu.e_ E F _ _ e5⟩
def ER(J:Rel cx env Z vals a w){row:Option Nat}(hg:w.grownBy w' row)(jH:∀r,row=some r->cx.own r/\cx.w1.heap.size<=r∧∃o:Obj,w.heap[r]?=some o/\o.isCells=false)(rk:U0 Z=true∨∀r,row=some r→∀es n,w.heap[r]?≠some (.map es n)):Rel cx env Z vals a w':=by
 obtain⟨U,H⟩:=J.s.other hg jH rk;exact⟨U,λp=>H _ _ (J.env p),J.defers,λx v h=>H _ _ (J.gh x v h),J.lo⟩
def afW{o:Oper}{p:PO}(h:Xe n o=some p):∃d t,o.guard=none/\o.dst=some d/\d<n/\(o.op=.move (.tmp t)\/o.op=.assign (.tmp t))/\p=⟨some d,none,.mv (.tmp t)⟩:=by
 unfold Xe at h;split at h
 ·rename_i d x hg hd ho;cases x with
  |tmp t=>
   obtain⟨U,H⟩:=ef h
   simp_all
  |_=>cases h
 ·rename_i d x hg hd ho;cases x with
  |tmp t=>
   obtain⟨U,H⟩:=ef h
   simp_all
  |_=>cases h
 grind
def anD(A6:cx.lo=0)(K:Env->Prop):∀(ps:QK) (xs:CK) (us:XS) (env:Env) (t:Array Value) (ds:List Deferred),xs.length=ps.length->cz (Ok cx Z vals w) w xs us->(∀p∈ps,p<n)->t.size=n->Rel cx env Z vals ⟨t,ds⟩ w->apx ps xs env K->
 ∃aB,K aB/\Rel cx aB Z vals ⟨(ps.zip us).foldl (λt p=>t.setIfInBounds p.1 p.2) t,ds⟩ w/\((ps.zip us).foldl (λt p=>t.setIfInBounds p.1 p.2) t).size=n:=by
 intro ps
 induction ps with
 |nil=>
  intro xs us env t ds hl _ _ hn J h;cases xs with
  |nil=>exact⟨_,h,J,hn⟩
  |cons x xs=>grind
 |cons p ps ih=>
  intro xs us env t ds hl hp aM hn J h;cases xs with
  |nil=>grind
  |cons x xs=>
   obtain⟨v,r,rfl,hv,hp⟩:=hp;have tT:=Xs (dst:=some p) (av:=.pv x) (v:=v) J az (λd hd=>by simp_all) (λd' _=>V);obtain⟨aB,U,H,h3⟩:=ih xs r _ (t.setIfInBounds p v) ds au hp (λq hq=>aM q iJ) (by simp[hn]) tT h;exact⟨_,U,H,h3⟩
end
end
end Go.Dv
namespace Go.Dv
open Go.RowKit
section
mutual
def AV.Nm(P:Nat->Prop):AV->Prop
 | .own i=>P i
 | .ref i _ _=>P i
 | .sub i _ _ _=>P i
 | .agg cs=>AV.oD P cs
 | .tup cs=>AV.oD P cs
 | .clo _ cs=>AV.oD P cs
 | .bad=>True
 | .pv _=>True
def AV.oD(P:Nat->Prop):XP->Prop
 |[]=>True
 |a::l=>a.Nm P/\AV.oD P l
end
def cK.Nm(P:Nat->Prop):cK->Prop
 | .box _ cs=>AV.oD P cs
 |_=>True
section
variable {P Q:Nat->Prop}
mutual
def il(h:∀i,P i->Q i):∀a:AV,a.Nm P->a.Nm Q
 | .own i,T=>by simp only[AV.Nm]at T ⊢;exact h i T
 | .ref i _ _,T=>by simp only[AV.Nm]at T ⊢;exact h i T
 | .sub i _ _ _,T=>by simp only[AV.Nm]at T ⊢;exact h i T
 | .agg cs,T=>by simp only[AV.Nm]at T ⊢;exact rE h cs T
 | .tup cs,T=>by simp only[AV.Nm]at T ⊢;exact rE h cs T
 | .clo _ cs,T=>by simp only[AV.Nm]at T ⊢;exact rE h cs T
 | .bad,_=>by simp only[AV.Nm]
 | .pv _,_=>by simp only[AV.Nm]
def rE(h:∀i,P i->Q i):∀l:XP,AV.oD P l->AV.oD Q l
 |[],_=>by simp only[AV.oD]
 |a::l,T=>by simp only[AV.oD]at T ⊢;exact⟨il h a T.1,rE h l T.2⟩
end
def cK.il(h:∀i,P i->Q i)(b:cK)(I:b.Nm P):b.Nm Q:=by
 cases b with
 |box e cs=>exact rE h cs I
 |_=>trivial
mutual
def ahu:∀a:AV,a.Nm P->a.On P
 | .own i,T=>by simp only[AV.Nm]at T;simp only[AV.On];exact T
 | .ref i _ _,T=>by simp only[AV.Nm]at T;simp only[AV.On];exact T
 | .sub i _ _ _,T=>by simp only[AV.Nm]at T;simp only[AV.On];exact T
 | .agg cs,T=>by simp only[AV.Nm]at T;simp only[AV.On];exact Xv cs T
 | .tup cs,T=>by simp only[AV.Nm]at T;simp only[AV.On];exact Xv cs T
 | .clo _ cs,_=>by simp only[AV.On]
 | .bad,_=>by simp only[AV.On]
 | .pv _,_=>by simp only[AV.On]
def Xv:∀l:XP,AV.oD P l->AV.OnL P l
 |[],_=>by simp only[AV.OnL]
 |a::l,T=>by simp only[AV.oD]at T;simp only[AV.OnL];exact⟨ahu a T.1,Xv l T.2⟩
end
def OY(l m:XP):AV.oD P (l++m)↔AV.oD P l/\AV.oD P m:=by
 induction l with
 |nil=>simp[AV.oD]
 |cons a l ih=>simp only[zbe,AV.oD,ih,and_assoc]
def anG(l:CK):AV.oD P (l.map .pv):=by
 induction l with
 |nil=>simp[AV.oD]
 |cons a l ih=>simp only[zau,AV.oD,AV.Nm];exact⟨trivial,ih⟩
def Qk(cs:XP):(AV.rec_1 (motive_1:=λ_=>QK) (motive_2:=λ_=>QK) [] (λ_=>[]) (λid=>[id]) (λid _ _=>[id]) (λid _ _ _=>[id])
 (λ_ ih=>ih) (λ_ ih=>ih) (λ_ _ ih=>ih) [] (λ_ _ h t=>h++t) cs:QK)=XN cs:=by
 induction cs with
 |nil=>rfl
 |cons c cs ih=>exact congrArg (c.ids++ ·) ih
def V5(a:AV)(l:XP):XN (a::l)=a.ids++XN l:=rfl
def Ry(a:AV):a.Nm P↔∀i∈a.ids,P i:=by
 refine AV.rec (motive_1:=λa=>a.Nm P↔∀i∈a.ids,P i) (motive_2:=λl=>AV.oD P l↔∀i∈XN l,P i) ?_ ?_ ?_ ?_ ?_ ?_ ?_ ?_ ?_ ?_ a
 ·simp[AV.Nm,AV.ids]
 ·intro x;simp[AV.Nm,AV.ids]
 ·intro i;simp[AV.Nm,AV.ids]
 ·intro i k o;simp[AV.Nm,AV.ids]
 ·intro i s l n;simp[AV.Nm,AV.ids]
 ·intro cs ih;rw[AV.Nm,ih,<-Qk];rfl
 ·intro cs ih;rw[AV.Nm,ih,<-Qk];rfl
 ·intro f cs ih;rw[AV.Nm,ih,<-Qk];rfl
 ·simp[AV.oD,XN]
 ·intro a l U H;rw[AV.oD,U,H,V5];simp only[zaA];constructor
  ·rintro⟨h3,h4⟩ i (W|W)
   ·exact h3 i W
   ·exact h4 i W
  ·intro h;exact⟨λi W=>h i (.inl W),λi W=>h i (.inr W)⟩
def atd(l:XP):AV.oD P l↔∀i∈XN l,P i:=by
 induction l with
 |nil=>simp[AV.oD,XN]
 |cons a l ih=>
  rw[AV.oD,Ry,ih,V5];simp only[zaA];constructor
  ·rintro⟨h3,h4⟩ i (W|W)
   ·exact h3 i W
   ·exact h4 i W
  ·intro h;exact⟨λi W=>h i (.inl W),λi W=>h i (.inr W)⟩
end
mutual
def ap4{ok:Nat->Prop}{Z:ax}{vals:XS}{w:World}{P:Nat->Prop}(U:∀i,i<vals.length->P i)(H:∀i,i<Z.length->P i):∀(a:AV) (v:Value),RA ok Z vals w a v->a.Nm P
 | .own i,v,h=>by simp only[RA]at h;simp only[AV.Nm];exact U i (zaa.1 h).1
 | .ref i _ _,v,h=>by simp only[RA]at h;simp only[AV.Nm];exact H i h.1
 | .sub i _ _ _,v,h=>by simp only[RA]at h;simp only[AV.Nm];exact H i h.1
 | .agg cs,v,h=>by simp only[RA]at h;simp only[AV.Nm];obtain⟨_,vs,_,h⟩:=h;exact P_ U H cs _ h
 | .tup cs,v,h=>by simp only[RA]at h;simp only[AV.Nm];obtain⟨vs,_,h⟩:=h;exact P_ U H cs _ h
 | .clo _ cs,v,h=>by simp only[RA]at h;simp only[AV.Nm];obtain⟨vs,_,h⟩:=h;exact P_ U H cs _ h
 | .bad,_,_=>by simp only[AV.Nm]
 | .pv _,_,_=>by simp only[AV.Nm]
def P_{ok:Nat->Prop}{Z:ax}{vals:XS}{w:World}{P:Nat->Prop}(U:∀i,i<vals.length->P i)(H:∀i,i<Z.length->P i):∀(l:XP) (vs:XS),eu ok Z vals w l vs->AV.oD P l
 |[],_,_=>by simp only[AV.oD]
 |a::l,vs,h=>by simp only[eu]at h;simp only[AV.oD];obtain⟨v,r,_,h3,h4⟩:=h;exact⟨ap4 U H a v h3,P_ U H l r h4⟩
end
def ag9(p:Nat)(e:Env):aaW p e=aA p e:=by
 induction e with
 |nil=>rfl
 |cons x e ih=>
  obtain⟨q,v⟩:=x;show Bool.rec (aaW p e) v (Nat.beq q p)=bif Nat.beq q p then v else aA p e
  rw[ih];cases Nat.beq q p<;>rfl
def akZ(env:Env)(t:Nat)(l:QK):ae6 env (t::l)=(aaW t env).ids++ae6 env l:=rfl
def ahm{env:Env}{l:QK}{P:Nat->Prop}(h:∀i∈ae6 env l,P i):∀t∈l,(aA t env).Nm P:=by
 induction l with
 |nil=>intro t ht;cases ht
 |cons s l ih=>
  intro t ht;rw[akZ]at h;rcases zax.1 ht with rfl|ht
  ·rw[Ry,<-ag9];exact λi W=>h i (by simp[W])
  ·exact ih (λi W=>h i (by simp[W])) t ht
def ajK(Z:ax)(t:Nat)(l:QK):NZ Z (t::l)=(match Z[t]? with|some (.box _ cs)=>XN cs|_=>[])++NZ Z l:=rfl
def ar6{Z:ax}{l:QK}{P:Nat->Prop}(h:∀i∈NZ Z l,P i):∀t∈l,∀e cs,Z[t]?=some (.box e cs)->AV.oD P cs:=by
 induction l with
 |nil=>intro t ht;cases ht
 |cons s l ih=>
  intro t ht e cs nO;rw[ajK]at h;rcases zax.1 ht with rfl|ht
  ·rw[atd];exact λi W=>h i (by rw[nO];simp[W])
  ·exact ih (λi W=>h i (by simp[W])) t ht e cs nO
def pF(us:List (Nat×cK))(Z:ax):ax:=us.foldl (λZ u=>Z.set u.1 u.2) Z
def jn(us:List (Nat×cK)):∀Z:ax,(pF us Z).length=Z.length:=by
 induction us with
 |nil=>intro Z;rfl
 |cons u us ih=>intro Z;exact(ih _).trans (za0 ..)
def ahL(us:List (Nat×cK)):∀(Z τ:ax) (j:Nat),Z[j]?=τ[j]?->(pF us Z)[j]?=(pF us τ)[j]?:=by
 induction us with
 |nil=>intro Z τ j h;exact h
 |cons u us ih=>
  intro Z τ j h;refine ih _ _ j ?_;rw[zaR,zaR];by_cases hj:u.1=j
  ·subst hj;have:u.1<Z.length↔u.1<τ.length:=by
    constructor
    ·intro aM;have:=zah aM;rw[h]at this;exact(zaa.1 this).1
    ·intro aM;have:=zah aM;rw[<-h]at this;exact(zaa.1 this).1
   simp only[if_true];by_cases U:u.1<Z.length
   ·rw[if_pos U,if_pos (this.1 U)]
   ·rw[if_neg U,if_neg (λh=>U (this.2 h))]
  ·rw[if_neg hj,if_neg hj];exact h
def zN(us:List (Nat×cK)):∀(Z:ax) (j:Nat),(∀u∈us,u.1≠j)->(pF us Z)[j]?=Z[j]?:=by
 induction us with
 |nil=>intro Z j _;rfl
 |cons u us ih=>
  intro Z j h;refine(ih _ j λx T=>h x bP).trans ?_;rw[zaR,if_neg (h u ab)]
def ru(us vs:List (Nat×cK))(Z:ax):pF (us++vs) Z=pF vs (pF us Z):=List.foldl_append ..
def av2{P:Nat->Prop}(us:List (Nat×cK)):∀(Z:ax),(∀u∈us,u.2.Nm P)->(∀b∈Z,b.Nm P)→∀b∈pF us Z,b.Nm P:=by
 induction us with
 |nil=>intro Z _ h;exact h
 |cons u us ih=>
  intro Z U H;refine ih _ (λx T=>U x bP) λb I=>?_
  rcases List.mem_or_eq_of_mem_set I with I|rfl
  ·exact H b I
  ·exact U u ab
def Pm{P:Nat->Prop}{Z σ':ax}(hs:Sub P Z σ')(us:List (Nat×cK)):Sub P (pF us Z) (pF us σ'):=by
 intro i b W I;have aM:i<Z.length:=by rw[<-jn us];exact(zaa.1 I).1
 have U:=zah aM;rw[ahL us σ' Z i ((hs i _ W U).trans U.symm)];exact I
def Ad{α:Type}(l:List α):∀(i:Nat) (x:α) (K:List α->Prop),i<l.length->K (l.set i x)->rJ l i x K:=by
 induction l with
 |nil=>intro i x K h;simp at h
 |cons a l ih=>
  intro i x K h E;cases i with
  |zero=>exact E
  |succ i=>exact ih i x (λt=>K (a::t)) rB E
def Fzs(P:Nat->Prop)(Z:ax)(us:List (Nat×cK)):Prop:=∀u∈us,P u.1/\u.1<Z.length∧∃x,u.2=.fz x
def Fzs.app{P:Nat->Prop}{Z:ax}{us vs:List (Nat×cK)}(U:Fzs P Z us)(H:Fzs P (pF us Z) vs):Fzs P Z (us++vs):=by
 intro u hu;rcases zaA.1 hu with hu|hu
 ·exact U u hu
 ·obtain⟨h3,h4,h5⟩:=H u hu;rw[jn]at h4;exact⟨h3,h4,h5⟩
def FzE(P:Nat->Prop)(Z:ax)(G:ax->(ax->Prop)->Prop)(K:ax->Prop):Prop:=
 ∃us,K (pF us Z)/\Fzs P Z us∧∀(σ':ax) (K':ax->Prop),Sub P Z σ'->K' (pF us σ')->G σ' K'
def ahS{P:Nat->Prop}{Z:ax}{id:Nat}{K:ax->Prop}(W:P id)(h:eM Z id λb=>match b with
 | .row _ sz _ aw=>rJ Z id (.fz (.sl sz aw)) K
 | .fz _=>K Z
 |_=>False):FzE P Z (λZ K=>eM Z id λb=>match b with
 | .row _ sz _ aw=>rJ Z id (.fz (.sl sz aw)) K
 | .fz _=>K Z
 |_=>False) K:=by
 obtain⟨b,U,H⟩:=aK _ _ _ h;have aM:=(zaa.1 U).1;cases b with
 |row e sz ap aw=>
  have h3:=(dW _ _ _ _ H).2;refine⟨[(id,.fz (.sl sz aw))],h3,?_,λσ' K' hs E=>?_⟩
  ·intro u hu;simp at hu;subst hu;exact⟨W,aM,_,rfl⟩
  ·have h4:=hs id _ W U;exact cy _ _ _ _ h4 (Ad _ _ _ _ (zaa.1 h4).1 E)
 |fz x=>exact⟨[],H,λu hu=>lQ,λσ' K' hs E=>cy _ _ _ _ (hs id _ W U) E⟩
 |_=>exact H.elim
def ahj{P:Nat->Prop}:∀(a:AV) (Z:ax) (K:ax->Prop),a.Nm P->lH a Z K->FzE P Z (lH a) K:=by
 intro a;refine AV.rec (motive_1:=λa=>∀(Z:ax) (K:ax->Prop),a.Nm P->lH a Z K->FzE P Z (lH a) K)
  (motive_2:=λl=>∀(Z:ax) (K:ax->Prop),AV.oD P l->d_ l Z K->FzE P Z (d_ l) K) ?_ ?_ ?_ ?_ ?_ ?_ ?_ ?_ ?_ ?_ a
 ·intro Z K _ h;exact h.elim
 ·intro x Z K _ h;exact Su
 ·intro id Z K W h;exact ahS (by simpa only[AV.Nm]using W) h
 ·intro id i o Z K _ h;exact h.elim
 ·intro id s l n Z K W h;exact ahS (by simpa only[AV.Nm]using W) h
 ·intro cs ih Z K hn h;obtain⟨us,U,H,h3⟩:=ih Z K (by simpa only[AV.Nm]using hn) (JT _ _ _ h);exact⟨us,U,H,λσ' K' hs E=>acb⟩
 ·intro cs ih Z K hn h;obtain⟨us,U,H,h3⟩:=ih Z K (by simpa only[AV.Nm]using hn) (Ib _ _ _ h);exact⟨us,U,H,λσ' K' hs E=>acb⟩
 ·intro f cs _ Z K _ h;exact h.elim
 ·intro Z K _ h;exact Su
 ·intro a l U H Z K hn h;simp only[AV.oD]at hn;obtain⟨us,h3,h4,h5⟩:=U Z (λZ=>d_ l Z K) hn.1 h;obtain⟨vs,h6,h7,h8⟩:=H _ K hn.2 h3;refine⟨us++vs,by rw[ru];exact h6,h4.app h7,λσ' K' hs E=>?_⟩;exact h5 σ' _ hs (h8 _ K' (Pm hs us) (by rw[<-ru];exact E))
def Q3{P:Nat->Prop}(l:XP):∀(Z:ax) (K:ax->Prop),AV.oD P l->d_ l Z K->FzE P Z (d_ l) K:=by
 induction l with
 |nil=>intro Z K _ h;exact Su
 |cons a l ih=>
  intro Z K hn h;simp only[AV.oD]at hn;obtain⟨us,h3,h4,h5⟩:=ahj a Z (λZ=>d_ l Z K) hn.1 h;obtain⟨vs,h6,h7,h8⟩:=ih _ K hn.2 h3;refine⟨us++vs,by rw[ru];exact h6,h4.app h7,λσ' K' hs E=>?_⟩;exact h5 σ' _ hs (h8 _ K' (Pm hs us) (by rw[<-ru];exact E))
def shf(a b i:Nat):Nat:=if i<a then i else i-a+b
mutual
def Hj(a b:Nat):AV->AV
 | .own i=>.own (shf a b i)
 | .ref i k o=>.ref (shf a b i) k o
 | .sub i s l n=>.sub (shf a b i) s l n
 | .agg cs=>.agg (OB a b cs)
 | .tup cs=>.tup (OB a b cs)
 | .clo f cs=>.clo f (OB a b cs)
 | .bad=>.bad
 | .pv x=>.pv x
def OB(a b:Nat):XP->XP
 |[]=>[]
 |x::l=>Hj a b x::OB a b l
end
mutual
def ajQ{a b c d:Nat}:∀v:AV,v.Nm (λi=>shf a b i=shf c d i)->Hj a b v=Hj c d v
 | .own i,h=>by simp only[AV.Nm]at h;simp only[Hj,h]
 | .ref i _ _,h=>by simp only[AV.Nm]at h;simp only[Hj,h]
 | .sub i _ _ _,h=>by simp only[AV.Nm]at h;simp only[Hj,h]
 | .agg cs,h=>by simp only[AV.Nm]at h;simp only[Hj,uY cs h]
 | .tup cs,h=>by simp only[AV.Nm]at h;simp only[Hj,uY cs h]
 | .clo _ cs,h=>by simp only[AV.Nm]at h;simp only[Hj,uY cs h]
 | .bad,_=>rfl
 | .pv _,_=>rfl
def uY{a b c d:Nat}:∀l:XP,AV.oD (λi=>shf a b i=shf c d i) l->OB a b l=OB c d l
 |[],_=>rfl
 |x::l,h=>by simp only[AV.oD]at h;simp only[OB,ajQ x h.1,uY l h.2]
end
mutual
def aiq{r:QK}{a b:Nat}:∀v:AV,v.Nm (λi=>r[i]?=some (shf a b i))->Ren r (Hj a b v) v
 | .own i,h=>by simp only[AV.Nm]at h;simp only[Hj,Ren];exact zf
 | .ref i _ _,h=>by simp only[AV.Nm]at h;simp only[Hj,Ren];exact zf
 | .sub i _ _ _,h=>by simp only[AV.Nm]at h;simp only[Hj,Ren];exact zf
 | .agg cs,h=>by simp only[AV.Nm]at h;simp only[Hj,Ren];exact⟨cs,rfl,Il cs h⟩
 | .tup cs,h=>by simp only[AV.Nm]at h;simp only[Hj,Ren];exact⟨cs,rfl,Il cs h⟩
 | .clo _ cs,h=>by simp only[AV.Nm]at h;simp only[Hj,Ren];exact⟨cs,rfl,Il cs h⟩
 | .bad,_=>by simp only[Hj,Ren]
 | .pv _,_=>by simp only[Hj,Ren]
def Il{r:QK}{a b:Nat}:∀l:XP,AV.oD (λi=>r[i]?=some (shf a b i)) l->gI r (OB a b l) l
 |[],_=>by simp only[OB,gI]
 |x::l,h=>by simp only[AV.oD]at h;simp only[OB,gI];exact⟨x,l,rfl,aiq x h.1,Il l h.2⟩
end
mutual
def D7{r:QK}:∀v:AV,v.Nm (λi=>r[i]?=some i)->Ren r v v
 | .own i,h=>by simp only[AV.Nm]at h;simp only[Ren];exact zf
 | .ref i _ _,h=>by simp only[AV.Nm]at h;simp only[Ren];exact zf
 | .sub i _ _ _,h=>by simp only[AV.Nm]at h;simp only[Ren];exact zf
 | .agg cs,h=>by simp only[AV.Nm]at h;simp only[Ren];exact IT
 | .tup cs,h=>by simp only[AV.Nm]at h;simp only[Ren];exact IT
 | .clo _ cs,h=>by simp only[AV.Nm]at h;simp only[Ren];exact IT
 | .bad,_=>by simp only[Ren]
 | .pv _,_=>by simp only[Ren]
def Wx{r:QK}:∀l:XP,AV.oD (λi=>r[i]?=some i) l->gI r l l
 |[],_=>by simp only[gI]
 |x::l,h=>by simp only[AV.oD]at h;simp only[gI];exact⟨x,l,rfl,D7 x h.1,Wx l h.2⟩
end
def LV{r:QK}(b:cK)(h:b.Nm (λi=>r[i]?=some i)):yG r b b:=by
 cases b with
 |box e cs=>exact IT
 |_=>rfl
def TkE(Z:ax)(G:ax->(AV->ax->Prop)->Prop)(K:AV->ax->Prop):Prop:=
 ∃v ps,K v (Z++ps)/\(∀b∈ps,∀P,cK.Nm P b)/\v.Nm (λi=>Z.length<=i/\i<Z.length+ps.length)∧∀(σ':ax) (K':AV->ax->Prop),K' (Hj Z.length σ'.length v) (σ'++ps)->G σ' K'
def vA(a b:Nat):shf a b a=b:=by unfold shf;rw[if_neg (Nat.lt_irrefl a),Nat.sub_self,zaU]
def am3(Z:ax)(e:TypeId)(sz:Nat)(ap:Bool)(aw:CK){K:AV->ax->Prop}(h:me Z λn=>fv Z (.row e sz ap aw) λZ=>K (.own n) Z):
 TkE Z (λZ K=>me Z λn=>fv Z (.row e sz ap aw) λZ=>K (.own n) Z) K:=by
 have U:=cS _ _ _ (dX _ _ h);refine⟨_,[_],U,?_,?_,λσ' K' E=>AQ _ _ (u6 _ _ _ ?_)⟩
 ·intro b I P;simp at I;subst I;trivial
 ·simp only[AV.Nm,za2];omega
 ·simp only[Hj,vA]at E;exact E
def aAa(Z:ax)(l:List (Int×Bool)){K:AV->ax->Prop}(h:me Z λn=>fv Z (.mp l) λZ=>K (.own n) Z):
 TkE Z (λZ K=>me Z λn=>fv Z (.mp l) λZ=>K (.own n) Z) K:=by
 have U:=cS _ _ _ (dX _ _ h);refine⟨_,[_],U,?_,?_,λσ' K' E=>AQ _ _ (u6 _ _ _ ?_)⟩
 ·intro b I P;simp at I;subst I;trivial
 ·simp only[AV.Nm,za2];omega
 ·simp only[Hj,vA]at E;exact E
def anc(r:RV):∀(Z:ax) (K:AV->ax->Prop),vQ r Z K->TkE Z (vQ r) K:=by
 let G:Ux->ax->(XP->ax->Prop)->Prop:=λl=>RV.rec_1 (motive_1:=λ_=>ax->(AV->ax->Prop)->Prop) (motive_2:=λ_=>ax->(XP->ax->Prop)->Prop)
  (λx Z K=>K (.pv x) Z)
  (λe sz aw Z K=>me Z λn=>fv Z (.row e sz true aw) λZ=>K (.own n) Z)
  (λe sz aw Z K=>me Z λn=>fv Z (.row e sz false aw) λZ=>K (.own n) Z)
  (λ_ ih Z K=>ih Z λl Z=>K (.agg l) Z)
  (λ_ ih Z K=>ih Z λl Z=>K (.tup l) Z)
  (λl Z K=>me Z λn=>fv Z (.mp l) λZ=>K (.own n) Z)
  (λZ K=>K [] Z)
  (λ_ _ h t Z K=>h Z λa Z=>t Z λl Z=>K (a::l) Z) l
 refine RV.rec (motive_1:=λr=>∀(Z:ax) (K:AV->ax->Prop),vQ r Z K->TkE Z (vQ r) K)
  (motive_2:=λl=>∀(Z:ax) (K:XP->ax->Prop),G l Z K→∃v ps,K v (Z++ps)/\(∀b∈ps,∀P,cK.Nm P b)/\AV.oD (λi=>Z.length<=i/\i<Z.length+ps.length) v∧∀(σ':ax) (K':XP->ax->Prop),K' (OB Z.length σ'.length v) (σ'++ps)->G l σ' K')
  ?_ ?_ ?_ ?_ ?_ ?_ ?_ ?_ r
 ·intro x Z K h;exact⟨_,[],by rw[zbg];exact h,λb I=>nf,by simp only[AV.Nm],λσ' K' E=>y8⟩
 ·intro e sz aw Z K h;exact am3 Z e sz true aw h
 ·intro e sz aw Z K h;exact am3 Z e sz false aw h
 ·intro l ih Z K h;obtain⟨v,ps,U,H,h3,h4⟩:=ih Z _ h;exact⟨_,ps,U,H,by simp only[AV.Nm];exact h3,λσ' K' E=>h4 σ' _ (by simp only[Hj]at E;exact E)⟩
 ·intro l ih Z K h;obtain⟨v,ps,U,H,h3,h4⟩:=ih Z _ h;exact⟨_,ps,U,H,by simp only[AV.Nm];exact h3,λσ' K' E=>h4 σ' _ (by simp only[Hj]at E;exact E)⟩
 ·intro m Z K h;exact aAa Z m h
 ·intro Z K h;exact⟨[],[],by rw[zbg];exact h,λb I=>nf,by simp only[AV.oD],λσ' K' E=>y8⟩
 ·intro a l U H Z K h;obtain⟨v,ps,h3,h4,h5,h6⟩:=U Z (λa Z=>G l Z λt Z=>K (a::t) Z) h;obtain⟨u,qs,h7,h8,h9,VB⟩:=H _ _ h3;rw[zad]at h9;refine⟨v::u,ps++qs,by rw[<-zaj];exact h7,λb I=>?_,?_,λσ' K' E=>?_⟩
  ·rcases zaA.1 I with I|I
   ·exact h4 b I
   ·exact h8 b I
  ·simp only[AV.oD];rw[zad];exact⟨il (λi W=>V) _ h5,rE (λi W=>V) _ h9⟩
  ·refine h6 σ' (λa τ=>G l τ λt τ=>K' (a::t) τ) ?_;refine VB (σ'++ps) (λt τ=>K' (Hj Z.length σ'.length v::t) τ) ?_;rw[zaj];simp only[OB]at E;rw[uY (c:=Z.length) (d:=σ'.length) u (rE (λi W=>by
    simp only[zad];unfold shf;rw[if_neg V,if_neg V];omega) _ h9)]
   exact E
end
end Go.Dv
namespace Go.Dv
open Go.RowKit
section
def shv(sh:Bool)(a b:Nat)(v:AV):AV:=match sh with|true=>Hj a b v|false=>v
def Rr(A:Nat->Prop)(tn:Bool)(N:(Nat->Prop)->Prop)(Z:ax)(G:ax->(AV->ax->Prop)->Prop)(K:AV->ax->Prop):Prop:=
 ∃(v:AV) (sh:Bool) (us:List (Nat×cK)) (ps:List cK),(sh=false->ps=[])/\K v (pF us Z++ps)/\(∀u∈us,tn=true/\A u.1/\u.1<Z.length)/\
  (∀P:Nat->Prop,N P->(∀j b,A j->Z[j]?=some b->b.Nm P)->(∀u∈us,u.2.Nm P)∧∀b∈ps,b.Nm P)/\
  ∀(σ':ax) (K':AV->ax->Prop),Sub A Z σ'->K' (shv sh Z.length σ'.length v) (pF us σ'++ps)->G σ' K'
def RdE{β:Type}(A:Nat->Prop)(Z:ax)(G:ax->(β->Prop)->Prop)(K:β->Prop):Prop:=
 ∃x,K x∧∀(σ':ax) (K':β->Prop),Sub A Z σ'->K' x->G σ' K'
section
variable {A:Nat->Prop} {tn:Bool} {N:(Nat->Prop)->Prop} {Z:ax}
def Rr.quiet{G:ax->(AV->ax->Prop)->Prop}{K:AV->ax->Prop}{v:AV}(h:K v Z)(H:∀(σ':ax) (K':AV->ax->Prop),Sub A Z σ'->K' v σ'->G σ' K'):Rr A tn N Z G K:=
 ⟨v,false,[],[],λ_=>rfl,by rw[zbg];exact h,λu hu=>lQ,λP _ _=>⟨λu hu=>lQ,λb I=>nf⟩,λσ' K' hs E=>H σ' K' hs y8⟩
def Rr.push{G:ax->(AV->ax->Prop)->Prop}{K:AV->ax->Prop}{v:AV}{b:cK}(h:K v (Z++[b]))(hn:∀P,N P->b.Nm P)(H:∀(σ':ax) (K':AV->ax->Prop),K' (Hj Z.length σ'.length v) (σ'++[b])->G σ' K'):Rr A tn N Z G K:=
 ⟨v,true,[],[b],λh=>bc,h,λu hu=>lQ,λP hP _=>⟨λu hu=>lQ,λc F=>by simp at F;subst F;exact hn P hP⟩,λσ' K' _ E=>H σ' K' E⟩
def aaN(a:AV){K:XP->Prop}(h:Am a K):∃cs,K cs/\(∀P,a.Nm P->AV.oD P cs)∧∀K':XP->Prop,K' cs->Am a K':=by
 cases a with
 |pv x=>
  have one:∀y:PV,K [.pv y]→∃cs,K cs/\(∀P,(AV.pv x).Nm P->AV.oD P cs)∧∀K':XP->Prop,K' cs->K' [.pv y]:=λy h=>⟨_,h,λP _=>by simp[AV.oD,AV.Nm],λ_ h=>h⟩
  cases x with
  |agg cs=>
   have h:=nY _ _ h;refine⟨_,h,λP _=>anG cs,λK' E=>?_⟩;show Qn cs K';obtain⟨r,U,H⟩:=Js cs (λ_=>True) (by
    have:∀(l:CK) (K:XP->Prop),K (l.map .pv)->Qn l K:=by
     intro l
     induction l with
     |nil=>intro K h;exact h
     |cons y l ih=>intro K h;exact ih _ h
    exact this cs _ trivial)
   have:=nY _ _ (H (λt=>t=r) rfl);subst this;exact H K' E
  |tup l=>exact h.elim
  |_=>exact one _ h
 |agg cs=>exact⟨cs,h,λP hp=>by simpa only[AV.Nm]using hp,λ_ h=>h⟩
 |own id=>exact Je
 |ref id i o=>exact Je
 |sub id s l n=>exact Je
 |clo f cs=>exact Je
 |bad=>exact h.elim
 |tup l=>exact h.elim
def azz{a:AV}(ha:a.Nm A){K:PV->Prop}(h:gk Z a K):RdE A Z (λZ K=>gk Z a K) K:=by
 obtain⟨x,U,H⟩:=Aw a _ h;refine⟨x,U,λσ' K' hs E=>?_⟩;have h3:=Xh hs a (ahu a ha) (H (λy=>y=x) rfl);obtain⟨y,rfl,h5⟩:=Aw a _ h3;exact h5 K' E
def afl{l:XP}(ha:AV.oD A l){K:CK->Prop}(h:bK Z l K):RdE A Z (λZ K=>bK Z l K) K:=by
 obtain⟨x,U,H⟩:=rQ l _ h;refine⟨x,U,λσ' K' hs E=>?_⟩;have h3:=SI hs l (Xv l ha) (H (λy=>y=x) rfl);obtain⟨y,rfl,h5⟩:=rQ l _ h3;exact h5 K' E
def awd{a:AV}(ha:a.Nm A){K:Nat->CK->Prop}(h:AL Z a K):∃s aw,K s aw∧∀(σ':ax) (K':Nat->CK->Prop),Sub A Z σ'->K' s aw->AL σ' a K':=by
 have hd:bN λK:Nat×CK->Prop=>AL Z a λs l=>K (s,l):=HX a (λs l K=>K (s,l)) λs l=>bN.ret _
 obtain⟨⟨s,aw⟩,U,H⟩:=hd (λp=>K p.1 p.2) h;refine⟨s,aw,U,λσ' K' hs E=>?_⟩;have h3:=Yh hs (ahu a ha) (H (λp=>p=(s,aw)) rfl);have hd':bN λK:Nat×CK->Prop=>AL σ' a λs l=>K (s,l):=HX a (λs l K=>K (s,l)) λs l=>bN.ret _
 obtain⟨p,hp,h5⟩:=hd' (λp=>p=(s,aw)) h3;subst hp;exact h5 (λp=>K' p.1 p.2) E
def ai9{n:Nat}{a v:AV}(ha:a.Nm A)(hv:v.Nm A)(hN:∀P,N P->v.Nm P){K:AV->ax->Prop}(h:XZ Z n a v λZ=>K .bad Z):Rr A true N Z (λZ K=>XZ Z n a v λZ=>K .bad Z) K:=by
 cases a with
 |ref id idx off=>
  have W:A id:=by simpa only[AV.Nm]using ha
  obtain⟨b,U,H⟩:=aK _ _ _ h;have aM:=(zaa.1 U).1;cases b with
  |row e sz ap aw=>
   obtain⟨x,h3,h4⟩:=azz hv H;obtain⟨us,h5,h6,h7⟩:=ahj v Z _ hv h3;obtain⟨b,h8,h9⟩:=aK _ _ _ h5;cases b with
   |row e sz ap aw=>
    obtain⟨y,VB,h11,h12⟩:=h9;obtain⟨cs,h13,h14⟩:=C9 _ _ _ _ h12;obtain⟨y',h15,h16⟩:=agu _ _ _ h13;obtain⟨h17,h18⟩:=dW _ _ _ _ h15;refine⟨.bad,false,us++[(id,.row e sz ap (aw.set idx y'))],[],λ_=>rfl,?_,?_,?_,?_⟩
    ·rw[zbg,ru];exact h18
    ·intro u hu;rcases zaA.1 hu with hu|hu
     ·exact⟨rfl,(h6 u hu).1,(h6 u hu).2.1⟩
     ·simp at hu;subst hu;exact⟨rfl,W,aM⟩
    ·refine λP _ _=>⟨λu hu=>?_,λb I=>nf⟩
     rcases zaA.1 hu with hu|hu
     ·obtain⟨_,_,x,T⟩:=h6 u hu;rw[T];trivial
     ·simp at hu;subst hu;trivial
    ·intro σ' K' hs E;rw[zbg,ru]at E;refine cy _ _ _ _ (hs id _ W U) ?_;refine h4 σ' _ hs (h7 σ' _ hs ?_);have h19:=Pm hs us id _ W h8;refine cy _ _ _ _ h19 ⟨y,VB,h11,h14 _ (h16 _ (Ad _ _ _ _ (zaa.1 h19).1 E))⟩
   |_=>exact h9.elim
  |box e cs=>
   obtain⟨vs,h3,h4,h5⟩:=aaN v H;obtain⟨h6,h7⟩:=h3;obtain⟨ds,h8,h9⟩:=C9 _ _ _ _ h7;obtain⟨VB,h11⟩:=dW _ _ _ _ h8;obtain⟨pre,mid,post,h12,h13,h14,h15⟩:=ph _ _ _ _ (h9 (λt=>t=ds) rfl);refine⟨.bad,false,[(id,.box e ds)],[],λ_=>rfl,by rw[zbg];exact h11,?_,?_,?_⟩
   ·intro u hu;simp at hu;subst hu;exact⟨rfl,W,aM⟩
   ·refine λP hP F=>⟨λu hu=>?_,λb I=>nf⟩
    simp at hu;subst hu;have hold:AV.oD P cs:=F id _ W U;have A9:AV.oD P vs:=h4 P (hN P hP);show AV.oD P ds;rw[<-h15];rw[h12,OY,OY]at hold;rw[OY,OY];exact⟨⟨hold.1.1,A9⟩,hold.2⟩
   ·intro σ' K' hs E;rw[zbg]at E;have h19:=hs id _ W U;exact cy _ _ _ _ h19 (h5 _ ⟨h6,h9 _ (Ad _ _ _ _ (zaa.1 h19).1 E)⟩)
  |_=>exact H.elim
 |_=>exact h.elim
def asM{e sz bytes:Nat}{x:AV}{ys:CK}(T:x.Nm A){K:AV->ax->Prop}(h:aeJ Z e sz bytes x ys K):Rr A true N Z (λZ K=>aeJ Z e sz bytes x ys K) K:=by
 cases x with
 |pv p=>
  cases p with
  |nil s=>
   obtain⟨U,H⟩:=h;have h3:=cS _ _ _ (dX _ _ H);refine Rr.push h3 (λP _=>trivial) λσ' K' E=>⟨U,AQ _ _ (u6 _ _ _ ?_)⟩
   simp only[Hj,vA]at E;exact E
  |_=>exact h.elim
 |own id=>
  have W:A id:=DJ;obtain⟨b,U,H⟩:=aK _ _ _ h;have aM:=(zaa.1 U).1;cases b with
  |row e' s ap aw=>
   cases ap with
   |false=>exact H.elim
   |true=>
    cases nk:Nat.beq s sz with
    |false=>simp only[nk]at H
    |true=>
     cases he1:Nat.beq e' e with
     |false=>simp only[nk,he1]at H
     |true=>
      simp only[nk,he1]at H;obtain⟨h3,h4⟩:=H;obtain⟨_,h5⟩:=dW _ _ _ _ h4;have h6:=cS _ _ _ (dX _ _ h5);refine⟨_,true,[(id,.dead)],[_],λh=>bc,h6,?_,?_,?_⟩
      ·intro u hu;simp at hu;subst hu;exact⟨rfl,W,aM⟩
      ·refine λP _ _=>⟨λu hu=>?_,λb I=>?_⟩
       ·simp at hu;subst hu;trivial
       ·simp at I;subst I;trivial
      ·intro σ' K' hs E;have h19:=hs id _ W U;refine cy _ _ _ _ h19 ?_;simp only[nk,he1];refine⟨h3,Ad _ _ _ _ (zaa.1 h19).1 (AQ _ _ (u6 _ _ _ ?_))⟩;simp only[shv,Hj,za0,vA]at E ⊢;exact E
  |_=>exact H.elim
 |_=>exact h.elim
def re{n:Nat}{lo W:Option AV}{K:Nat->Nat->Prop}(h:fX n lo W K):∃l u,K l u∧∀K':Nat->Nat->Prop,K' l u->fX n lo W K':=by
 have hd:bN λK:Nat×Nat->Prop=>fX n lo W λl u=>K (l,u):=Nf n lo W (λl u K=>K (l,u)) λl u=>bN.ret _
 obtain⟨⟨l,u⟩,U,H⟩:=hd (λp=>K p.1 p.2) h;exact⟨l,u,U,λK' E=>H (λp=>K' p.1 p.2) E⟩
def aoA{sz:Nat}{x:AV}{ys:CK}(T:x.Nm A){K:AV->ax->Prop}(h:Nn Z sz x ys λn Z=>K (.pv (.int .i64 n)) Z):Rr A true N Z (λZ K=>Nn Z sz x ys λn Z=>K (.pv (.int .i64 n)) Z) K:=by
 have one:∀(id:Nat) (b:cK) (b':cK) (n:Nat) (W:A id) (U:Z[id]?=some b) (I:∀P:Nat->Prop,b'.Nm P) (h:rJ Z id b' λZ=>K (.pv (.int .i64 n)) Z),
  ∃us:List (Nat×cK),K (.pv (.int .i64 n)) (pF us Z)/\(∀u∈us,A u.1/\u.1<Z.length)/\(∀P:Nat->Prop,∀u∈us,u.2.Nm P)∧∀(σ':ax) (K':AV->ax->Prop),Sub A Z σ'->K' (.pv (.int .i64 n)) (pF us σ')->rJ σ' id b' λZ=>K' (.pv (.int .i64 n)) Z:=by
  intro id b b' n W U I h;refine⟨[(id,b')],(dW _ _ _ _ h).2,λu hu=>?_,λP u hu=>?_,λσ' K' hs E=>Ad _ _ _ _ (zaa.1 (hs id b W U)).1 E⟩
  ·simp at hu;subst hu;exact⟨W,(zaa.1 U).1⟩
  ·simp at hu;subst hu;exact I P
 cases x with
 |pv p=>
  cases p with
  |nil s=>exact Rr.quiet h λσ' K' _ E=>E
  |_=>exact h.elim
 |own id=>
  have W:A id:=DJ;obtain⟨b,U,H⟩:=aK _ _ _ h;cases b with
  |row e s ap aw=>
   simp only at H;cases hs:Nat.beq s sz with
   |false=>simp only[hs]at H
   |true=>
    simp only[hs]at H;obtain⟨us,g1,g2,g3,g4⟩:=one id _ (.row e s ap (ys.take aw.length++aw.drop ys.length)) _ W U (λ_=>trivial) H;refine⟨_,false,us,[],λ_=>rfl,by rw[zbg];exact g1,λu hu=>⟨rfl,g2 u hu⟩,λP _ _=>⟨g3 P,λb I=>nf⟩,λσ' K' BF E=>cy _ _ _ _ (BF id _ W U) ?_⟩;simp only[hs];exact g4 σ' K' BF y8
  |_=>exact H.elim
 |sub id s lo n=>
  have W:A id:=DJ;simp only[Nn]at h ⊢;cases hs0:Nat.beq s sz with
  |false=>simp only[hs0]at h
  |true=>
   simp only[hs0]at h ⊢;obtain⟨b,U,H⟩:=aK _ _ _ h;cases b with
   |row e s' ap aw=>
    simp only at H;cases hs:Nat.beq s' sz with
    |false=>simp only[hs]at H
    |true=>
     simp only[hs]at H;obtain⟨us,g1,g2,g3,g4⟩:=one id _ (.row e s' ap (aw.take lo++ys.take n++aw.drop (lo+min ys.length n))) _ W U (λ_=>trivial) H.2;refine⟨_,false,us,[],λ_=>rfl,by rw[zbg];exact g1,λu hu=>⟨rfl,g2 u hu⟩,λP _ _=>⟨g3 P,λb I=>nf⟩,λσ' K' BF E=>cy _ _ _ _ (BF id _ W U) ?_⟩;simp only[hs];exact⟨H.1,g4 σ' K' BF y8⟩
   |_=>exact H.elim
 |_=>exact h.elim
def amA{c:Bool}{x k:AV}(T:x.Nm A){K:AV->ax->Prop}(h:aim Z c x k λr=>K r Z):Rr A tn N Z (λZ K=>aim Z c x k λr=>K r Z) K:=by
 cases x with
 |own id=>
  have W:A id:=DJ;obtain⟨b,U,H⟩:=aK _ _ _ h;cases b with
  |mp l=>
   cases k with
   |pv y=>
    cases y with
    |int kd n=>
     cases kd with
     |i64=>
      cases c with
      |true=>exact Rr.quiet H λσ' K' hs E=>cy _ _ _ _ (hs id _ W U) E
      |false=>exact Rr.quiet H λσ' K' hs E=>cy _ _ _ _ (hs id _ W U) E
     |_=>exact H.elim
    |_=>exact H.elim
   |_=>exact H.elim
  |_=>exact H.elim
 |_=>exact h.elim
def as_{sz:Nat}{x:AV}{lo W:Option AV}(T:x.Nm A){K:AV->ax->Prop}(h:We Z sz x lo W K):Rr A true N Z (λZ K=>We Z sz x lo W K) K:=by
 cases x with
 |pv p=>
  cases p with
  |sl s aw=>
   simp only[We]at h ⊢;cases nk:Nat.beq s sz with
   |false=>simp only[nk]at h
   |true=>
    simp only[nk]at h ⊢;obtain⟨l,u,U,H⟩:=re h;exact Rr.quiet U λσ' K' _ E=>H _ E
  |nil s=>
   obtain⟨l,u,U,H⟩:=re (K:=λ_ _=>K (.pv (.nil s)) Z) h;exact Rr.quiet U λσ' K' _ E=>H (λ_ _=>K' (.pv (.nil s)) σ') E
  |_=>exact h.elim
 |own id=>
  have W:A id:=DJ;obtain⟨b,U,H⟩:=aK _ _ _ h;have aM:=(zaa.1 U).1;cases b with
  |row e s ap aw=>
   simp only at H;cases nk:Nat.beq s sz with
   |false=>simp only[nk]at H
   |true=>
    simp only[nk]at H;rcases H with H|H
    ·obtain⟨l,u,h3,h4⟩:=re H;obtain⟨_,h5⟩:=dW _ _ _ _ h3;refine⟨_,false,[(id,.fz (.sl sz aw))],[],λ_=>rfl,by rw[zbg];exact h5,?_,?_,?_⟩
     ·intro u hu;simp at hu;subst hu;exact⟨rfl,W,aM⟩
     ·refine λP _ _=>⟨λu hu=>?_,λb I=>nf⟩
      simp at hu;subst hu;trivial
     ·intro σ' K' hs E;rw[zbg]at E;have h19:=hs id _ W U;refine cy _ _ _ _ h19 ?_;simp only[nk];exact .inl (h4 _ (Ad _ _ _ _ (zaa.1 h19).1 E))
    ·obtain⟨l,u,h3,h4⟩:=re H;refine Rr.quiet h3 λσ' K' hs E=>cy _ _ _ _ (hs id _ W U) ?_
     simp only[nk];exact .inr (h4 _ E)
  |fz x=>
   cases x with
   |sl s aw=>
    simp only at H;cases nk:Nat.beq s sz with
    |false=>simp only[nk]at H
    |true=>
     simp only[nk]at H;obtain⟨l,u,h3,h4⟩:=re H;refine Rr.quiet h3 λσ' K' hs E=>cy _ _ _ _ (hs id _ W U) ?_
     simp only[nk];exact h4 _ E
   |_=>exact H.elim
  |_=>exact H.elim
 |sub id s lo0 n=>
  simp only[We]at h ⊢;cases nk:Nat.beq s sz with
  |false=>simp only[nk]at h
  |true=>
   simp only[nk]at h ⊢;obtain⟨l,u,U,H⟩:=re h;exact Rr.quiet U λσ' K' _ E=>H _ E
 |_=>exact h.elim
def afb(cs:CK):bN (lR cs):=by
 cases cs with
 |nil=>exact dy
 |cons c r=>cases r with
  |nil=>cases c<;>first|exact bN.no|exact dy
  |cons d r=>exact dy
end
end
end Go.Dv
namespace Go.Dv
open Go.RowKit
section
section
variable {Γ:Ctx} {env:Env} {Z:ax} {P:Program}
def xW{Q:Nat->Prop}{x:Operand}(T:∀t∈nL x,(aA t env).Nm Q):(bD env x).Nm Q:=by
 cases x with
 |tmp t=>exact T t (by simp[nL])
 |const v=>simp only[bD];cases v<;>simp[Aj,AV.Nm];(try split)<;>simp[AV.Nm]
 |global _=>simp[bD,AV.Nm]
 |func f=>simp[bD,AV.Nm]
def Yc{Q:Nat->Prop}{l:XU}(T:∀t∈l.flatMap nL,(aA t env).Nm Q):AV.oD Q (l.map (bD env)):=by
 induction l with
 |nil=>simp[AV.oD]
 |cons x l ih=>
  simp only[zau,AV.oD];exact⟨xW λt ht=>T t (by simp[ht]),ih λt ht=>T t (zbB.2 (by obtain⟨y,hy,hty⟩:=zbB.1 ht;exact⟨y,pr,hty⟩))⟩
def abv{k:PK}(E:(k.still||k.al)=false):∀t∈k.reads,(aA t env).Nm (· ∈k.reach env Z):=by
 refine ahm (P:=(· ∈k.reach env Z)) λi W=>?_
 unfold PK.reach;rw[E];cases k<;>first|exact W|exact zaA.2 (.inl W)
def av4(hΓ:Sound P Γ){k:PK}(E:k.dk Γ=true){K:AV->ax->Prop}(h:kb Γ env Z k K):
 Rr (· ∈k.reach env Z) (k.turns Γ) (λQ=>∀t∈k.reads,(aA t env).Nm Q) Z (λZ K=>kb Γ env Z k K) K:=by
 by_cases fu:k.still=true
 ·obtain⟨v,U,H⟩:=aaC hΓ fu Z h;exact Rr.quiet U λσ' K' _ E=>H σ' K' E
 by_cases hal:k.al=true
 ·cases k with
  |alloc e z=>
   simp only[kb]at h ⊢;obtain⟨cs,U,H⟩:=Js _ _ h;have nO:=nY _ _ (H (λt=>t=cs) rfl);have h3:=cS _ _ _ (dX _ _ U);refine Rr.push h3 (λQ _=>by rw[<-nO];exact anG _) λσ' K' E=>H _ (AQ _ _ (u6 _ _ _ ?_))
   simp only[Hj,vA]at E;exact E
  |box e x=>
   simp only[kb,eB]at h ⊢;obtain⟨cs,U,hn,H⟩:=aaN _ h;have h3:=cS _ _ _ (dX _ _ U);refine Rr.push h3 (λQ hQ=>hn Q (xW hQ)) λσ' K' E=>H _ (AQ _ _ (u6 _ _ _ ?_))
   simp only[Hj,vA]at E;exact E
  |_=>cases hal
 have hsa:(k.still||k.al)=false:=by
  cases U:k.still with
  |true=>exact absurd U fu
  |false=>cases H:k.al with
   |true=>exact absurd H hal
   |false=>rfl
 have J:=abv (env:=env) (Z:=Z) hsa;by_cases hp:k.pure Γ=true
 ·obtain⟨v,U,H⟩:=Yq hΓ env hp _ h;refine Rr.quiet U λσ' K' hs E=>?_
  have h3:=aro hΓ hs hp (λt ht=>ahu _ (J t ht)) (K:=λx=>x=v) (H (λx _=>x=v) rfl);obtain⟨v',rfl,h5⟩:=Yq hΓ env hp _ h3;exact h5 K' E
 simp only[PK.dk,hp,fu,hal,Bool.false_or,Bool.or_false]at E;cases k with
 |store n x v=>
  simp only[kb,eB]at h ⊢;exact ai9 (xW λt ht=>J t mY) (xW λt ht=>J t mY) (λQ hQ=>xW λt ht=>hQ t mY) h
 |app e sz bytes x y=>
  simp only[kb,eB]at h ⊢;obtain⟨s,ys,U,H⟩:=awd (A:=(· ∈(PK.app e sz bytes x y).reach env Z)) (xW λt ht=>J t mY) h;cases hs:Nat.beq s sz with
  |false=>simp only[hs]at U
  |true=>
   simp only[hs]at U;obtain⟨v,sh,us,ps,g0,g1,g2,g3,g4⟩:=asM (A:=(· ∈(PK.app e sz bytes x y).reach env Z)) (N:=λQ=>∀t∈(PK.app e sz bytes x y).reads,(aA t env).Nm Q) (xW λt ht=>J t mY) U;refine⟨v,sh,us,ps,g0,g1,g2,g3,λσ' K' BF E=>H σ' _ BF ?_⟩;simp only[hs];exact g4 σ' K' BF E
 |bslP e sz l=>
  have hl:AV.oD (· ∈(PK.bslP e sz l).reach env Z) (l.map (bD env)):=Yc λt ht=>J t ht
  simp only[kb,Lo]at h ⊢;obtain⟨xs,⟨h0,U⟩,H⟩:=afl hl h;obtain⟨us,e1,e2,e3⟩:=Q3 _ _ _ hl U;have h3:=cS _ _ _ (dX _ _ e1);rw[jn]at h3;refine⟨.own Z.length,true,us,[.row e sz true xs],λh=>bc,h3,λu hu=>⟨rfl,(e2 u hu).1,(e2 u hu).2.1⟩,λQ _ _=>⟨λu hu=>?_,λb I=>by simp at I;subst I;trivial⟩,λσ' K' hs E=>H σ' _ hs ⟨h0,?_⟩⟩
  ·obtain⟨_,_,x,T⟩:=e2 u hu;rw[T];trivial
  ·refine e3 σ' _ hs (AQ _ _ (u6 _ _ _ ?_));rw[jn];simp only[shv,Hj,vA]at E;exact E
 |look c x y=>
  simp only[kb,eB]at h ⊢;exact amA (xW λt ht=>J t mY) h
 |cpyS x y=>
  simp only[kb,eB]at h ⊢;cases hy:bD env y with
  |pv p=>
   rw[hy]at h;cases p with
   |str l=>
    simp only at h ⊢;exact aoA (xW λt ht=>J t mY) h
   |_=>exact h.elim
  |_=>rw[hy]at h;exact h.elim
 |slcR sz x lo W=>
  simp only[kb,eB,af9]at h ⊢;exact as_ (xW λt ht=>J t mY) h
 |mkf f ep=>
  simp only[zbv]at E;simp only[kb,Lo,E]at h ⊢
  let A0:=ae6 env (PK.mkf f ep).reads
  have Z7:AV.oD (· ∈A0) (ep.map (bD env)):=Yc λt ht=>ahm (P:=(· ∈A0)) (λi W=>W) t ht
  have axJ:(PK.mkf f ep).reach env Z=A0++NZ Z A0:=by unfold PK.reach;rw[hsa]
  have rj:∀(l:XP) (τ:ax) (K:CK->ax->Prop),AV.oD (· ∈A0) l->(∀j,j∈A0→∀e cs,τ[j]?=some (.box e cs)->AV.oD (· ∈A0++NZ Z A0) cs)->xX l τ K->
   ∃xs us,K xs (pF us τ)/\Fzs (· ∈A0++NZ Z A0) τ us∧∀(σ':ax) (K':CK->ax->Prop),Sub (· ∈A0++NZ Z A0) τ σ'->K' xs (pF us σ')->xX l σ' K':=by
   intro l
   induction l with
   |nil=>intro τ K _ _ h;exact⟨[],[],h,λu hu=>lQ,λ_ _ _ E=>E⟩
   |cons a l ih=>
    intro τ K hn F h;simp only[AV.oD]at hn;cases a with
    |ref id i off=>
     have W:id∈A0:=by simpa only[AV.Nm]using hn.1
     have PD:id∈A0++NZ Z A0:=zaA.2 (.inl W);obtain⟨b,U,H⟩:=aK _ _ _ h;have aM:=(zaa.1 U).1;cases b with
     |box e cs=>
      cases off with
      |succ o=>exact H.elim
      |zero=>
       have nO:=F id W e cs U;obtain⟨t,h3,h4⟩:=afl nO H;obtain⟨x,h5,h6⟩:=afb t _ h3;obtain⟨us,h7,h8,h9⟩:=Q3 cs τ _ nO h5;obtain⟨VB,h11⟩:=dW _ _ _ _ h7;have hz:Fzs (· ∈A0++NZ Z A0) τ (us++[(id,cK.fz (.cptr x))]):=h8.app λu hu=>by
        simp at hu;subst hu;exact⟨PD,VB,_,rfl⟩
       have KK:∀j,j∈A0→∀e cs,(pF (us++[(id,cK.fz (.cptr x))]) τ)[j]?=some (.box e cs)->AV.oD (· ∈A0++NZ Z A0) cs:=by
        intro j hj e' cs' I;by_cases MG:∃u∈us++[(id,cK.fz (.cptr x))],u.1=j
        ·exfalso;have:∀(us:List (Nat×cK)) (τ:ax),(∀u∈us,∃x,u.2=.fz x)->(∃u∈us,u.1=j)→∀e cs,(pF us τ)[j]?≠some (.box e cs):=by
          intro us
          induction us with
          |nil=>intro τ _ ⟨u,hu,_⟩;cases hu
          |cons u us ih=>
           intro τ hf hex e cs I;by_cases h':∃u∈us,u.1=j
           ·exact ih _ (λv hv=>hf v (by simp[hv])) h' e cs I
           ·have nN:(pF us (τ.set u.1 u.2))[j]?=some (.box e cs):=I;rw[zN us _ j λv hv e=>h' ⟨v,hv,e⟩]at nN;obtain⟨v,hv,rfl⟩:=hex;rcases zax.1 hv with rfl|hv
            ·rw[zaR]at nN;simp only[if_true]at nN;obtain⟨x,T⟩:=hf v ab;rw[T]at nN;split at nN<;>cases nN
            ·exact h' ⟨v,hv,rfl⟩
         exact this _ τ (λu hu=>(hz u hu).2.2) MG e' cs' I
        ·rw[zN _ _ _ λu hu e=>MG ⟨u,hu,e⟩]at I;exact F j hj e' cs' I
       rw[show(pF us τ).set id (.fz (.cptr x))=pF (us++[(id,cK.fz (.cptr x))]) τ from(ru us [(id,cK.fz (.cptr x))] τ).symm]at h11;obtain⟨xs,vs,h12,h13,h14⟩:=ih _ _ hn.2 KK h11;refine⟨_,(us++[(id,cK.fz (.cptr x))])++vs,by rw[ru];exact h12,hz.app h13,λσ' K' hs E=>?_⟩;have h19:=hs id _ PD U;refine cy _ _ _ _ h19 (h4 σ' _ hs (h6 _ (h9 σ' _ hs (Ad _ _ _ _ (by rw[jn];exact(zaa.1 h19).1) ?_))));rw[show(pF us σ').set id (.fz (.cptr x))=pF (us++[(id,cK.fz (.cptr x))]) σ' from(ru us [(id,cK.fz (.cptr x))] σ').symm];exact h14 _ _ (Pm hs _) (by rw[<-ru];exact E)
     |fz x=>
      cases off with
      |succ o=>exact H.elim
      |zero=>
       cases x with
       |cptr y=>
        obtain⟨xs,vs,h12,h13,h14⟩:=ih τ _ hn.2 F H;exact⟨_,vs,h12,h13,λσ' K' hs E=>cy _ _ _ _ (hs id _ PD U) (h14 σ' _ hs E)⟩
       |_=>exact H.elim
     |_=>exact H.elim
    |pv x=>
     cases x with
     |cptr y=>
      obtain⟨xs,vs,h12,h13,h14⟩:=ih τ _ hn.2 F h;exact⟨_,vs,h12,h13,λσ' K' hs E=>h14 σ' _ hs E⟩
     |_=>exact h.elim
    |_=>exact h.elim
  obtain⟨xs,us,g1,g2,g3⟩:=rj _ _ _ Z7 (λj hj e cs nO=>ar6 (P:=(· ∈A0++NZ Z A0)) (λi W=>zaA.2 (.inr W)) j hj e cs nO) h;rw[axJ];refine⟨.pv (.clo f xs),false,us,[],λ_=>rfl,by rw[zbg];exact g1,λu hu=>⟨rfl,(g2 u hu).1,(g2 u hu).2.1⟩,λQ _ _=>⟨λu hu=>?_,λb I=>nf⟩,λσ' K' hs E=>?_⟩
  ·obtain⟨_,_,x,T⟩:=g2 u hu;rw[T];trivial
  ·rw[zbg]at E;exact g3 σ' _ hs E
 |call f l=>
  have hdt:(Γ f).dt=true:=E;have hfn:(Γ f).fn=false:=by
   cases hf:(Γ f).fn with
   |true=>exact absurd (show(PK.call f l).pure Γ=true from hf) hp
   |false=>rfl
  obtain⟨hmu,VE⟩:=(Γ f).hdt hdt;have hl:AV.oD (· ∈(PK.call f l).reach env Z) (l.map (bD env)):=Yc λt ht=>J t ht
  simp only[kb,Lo,F_,hmu]at h ⊢;obtain⟨ps,U,H⟩:=afl hl h;cases A6:(Γ f).lone with
  |true=>
   simp only[A6]at U;obtain⟨r,h3,h4⟩:=VE _ _ U;obtain⟨v,bs,g1,g2,g3,g4⟩:=anc r Z K h3;refine⟨v,true,[],bs,λh=>bc,g1,λu hu=>lQ,λQ _ _=>⟨λu hu=>lQ,λb I=>g2 b I Q⟩,λσ' K' hs E=>H σ' _ hs ?_⟩;exact h4 _ (g4 σ' K' E)
  |false=>
   simp only[A6]at U;obtain⟨us,e1,e2,e3⟩:=Q3 _ _ _ hl U;obtain⟨r,h3,h4⟩:=VE _ _ e1;obtain⟨v,bs,g1,g2,g3,g4⟩:=anc r _ K h3;rw[jn]at g4;refine⟨v,true,us,bs,λh=>bc,g1,λu hu=>⟨by simp[PK.turns,hfn,A6],(e2 u hu).1,(e2 u hu).2.1⟩,λQ _ _=>⟨λu hu=>?_,λb I=>g2 b I Q⟩,λσ' K' hs E=>H σ' _ hs ?_⟩
   ·obtain⟨_,_,x,T⟩:=e2 u hu;rw[T];trivial
   ·exact e3 σ' _ hs (h4 _ (g4 _ K' (by rw[jn];exact E)))
 |_=>cases E
def anm(hΓ:Sound P Γ){o:PO}(E:o.k.dk Γ=true){K:Env->ax->Prop}(h:ib Γ o env Z K):
 ∃(v:AV) (sh:Bool) (us:List (Nat×cK)) (ps:List cK),(sh=false->ps=[])/\K (put o.dst v env) (pF us Z++ps)/\(∀u∈us,o.k.turns Γ=true/\u.1∈o.k.reach env Z/\u.1<Z.length)/\
  (∀Q:Nat->Prop,(∀t∈o.reads,(aA t env).Nm Q)->(∀j b,j∈o.k.reach env Z->Z[j]?=some b->b.Nm Q)->(∀u∈us,u.2.Nm Q)∧∀b∈ps,b.Nm Q)/\
  ∀(aB:Env) (σ':ax) (K':Env->ax->Prop),(∀t∈o.reads,aA t aB=aA t env)->Sub (· ∈o.k.reach env Z) Z σ'->K' (put o.dst (shv sh Z.length σ'.length v) aB) (pF us σ'++ps)->ib Γ o aB σ' K':=by
 obtain⟨d,g,k⟩:=o;have run:kb Γ env Z k (λv Z=>K (put d v env) Z)→∃(v:AV) (sh:Bool) (us:List (Nat×cK)) (ps:List cK),(sh=false->ps=[])/\K (put d v env) (pF us Z++ps)/\(∀u∈us,k.turns Γ=true/\u.1∈k.reach env Z/\u.1<Z.length)/\
  (∀Q:Nat->Prop,(∀t∈k.reads,(aA t env).Nm Q)->(∀j b,j∈k.reach env Z->Z[j]?=some b->b.Nm Q)->(∀u∈us,u.2.Nm Q)∧∀b∈ps,b.Nm Q)/\
  ∀(aB:Env) (σ':ax) (K':Env->ax->Prop),(∀t∈k.reads,aA t aB=aA t env)->Sub (· ∈k.reach env Z) Z σ'->K' (put d (shv sh Z.length σ'.length v) aB) (pF us σ'++ps)->kb Γ aB σ' k (λv Z=>K' (put d v aB) Z):=by
  intro h;obtain⟨v,sh,us,ps,h0,U,H,h3,h4⟩:=av4 hΓ E h;refine⟨v,sh,us,ps,h0,U,H,h3,λaB σ' K' J hs E=>?_⟩;rw[L2 J];exact h4 σ' _ hs E
 have off:K (put d (.pv (.tup [])) env) Z->(∀(aB:Env) (σ':ax) (K':Env->ax->Prop),(∀t∈PO.reads ⟨d,g,k⟩,aA t aB=aA t env)->K' (put d (.pv (.tup [])) aB) σ'->ib Γ ⟨d,g,k⟩ aB σ' K')->
  ∃(v:AV) (sh:Bool) (us:List (Nat×cK)) (ps:List cK),(sh=false->ps=[])/\K (put d v env) (pF us Z++ps)/\(∀u∈us,k.turns Γ=true/\u.1∈k.reach env Z/\u.1<Z.length)/\
  (∀Q:Nat->Prop,(∀t∈PO.reads ⟨d,g,k⟩,(aA t env).Nm Q)->(∀j b,j∈k.reach env Z->Z[j]?=some b->b.Nm Q)->(∀u∈us,u.2.Nm Q)∧∀b∈ps,b.Nm Q)/\
  ∀(aB:Env) (σ':ax) (K':Env->ax->Prop),(∀t∈PO.reads ⟨d,g,k⟩,aA t aB=aA t env)->Sub (· ∈k.reach env Z) Z σ'->K' (put d (shv sh Z.length σ'.length v) aB) (pF us σ'++ps)->ib Γ ⟨d,g,k⟩ aB σ' K':=by
  intro U H;exact⟨_,false,[],[],λ_=>rfl,by rw[zbg];exact U,λu hu=>lQ,λQ _ _=>⟨λu hu=>lQ,λb I=>nf⟩,λaB σ' K' J _ E=>H aB σ' K' J y8⟩
 cases g with
 |none=>
  obtain⟨v,sh,us,ps,h0,U,H,h3,h4⟩:=run h;exact⟨v,sh,us,ps,h0,U,H,λQ hQ=>h3 Q λt ht=>hQ t CJ,λaB σ' K' J hs E=>h4 aB σ' K' (λt ht=>J t CJ) hs E⟩
 |some p=>
  obtain⟨g,want⟩:=p;unfold ib at h;simp only at h;have hg:∀aB:Env,(∀t∈PO.reads ⟨d,some (g,want),k⟩,aA t aB=aA t env)->aA g aB=aA g env:=λaB J=>J g (by simp[PO.reads])
  cases hv:aA g env with
  |pv x=>
   rw[hv]at h;cases x with
   |bool b=>
    simp only at h;cases I:(b==want)with
    |true=>
     rw[I]at h;obtain⟨v,sh,us,ps,h0,U,H,h3,h4⟩:=run h;refine⟨v,sh,us,ps,h0,U,H,λQ hQ=>h3 Q λt ht=>hQ t CJ,λaB σ' K' J hs E=>?_⟩;unfold ib;simp only[hg aB J,hv,I];exact h4 aB σ' K' (λt ht=>J t CJ) hs E
    |false=>
     rw[I]at h;refine off h λaB σ' K' J E=>?_
     unfold ib;simp only[hg aB J,hv,I];exact E
   |tup l=>
    refine off h λaB σ' K' J E=>?_
    unfold ib;simp only[hg aB J,hv];exact E
   |_=>exact h.elim
  |_=>rw[hv]at h;exact h.elim
def api(o:PO)(K:Env->ax->Prop):auQ Γ o env Z K=ib Γ o env Z K:=by
 obtain⟨d,g,k⟩:=o;cases g with
 |none=>rfl
 |some p=>
  obtain⟨g,want⟩:=p;unfold ib;refine Eq.trans (look_eq g (λgv=>match gv with
   | .pv x=>match x with
    | .bool b=>match b with
     |true=>(match want with
      |true=>kb Γ env Z k λv Z=>K (put d v env) Z
      |false=>K (put d (.pv (.tup [])) env) Z)
     |false=>(match want with
      |false=>kb Γ env Z k λv Z=>K (put d v env) Z
      |true=>K (put d (.pv (.tup [])) env) Z)
    | .tup _=>K (put d (.pv (.tup [])) env) Z
    |_=>False
   |_=>False) env) ?_
  simp only;cases aA g env with
  |pv x=>cases x with
   |bool b=>cases b<;>cases want<;>rfl
   |_=>rfl
  |_=>rfl
structure Rc where
 v:AV
 sh:Bool
 us:List (Nat×cK)
 ps:List cK
structure Stp(Γ:Ctx)(o:PO)(env:Env)(Z:ax)(c:Rc)(aB:Env)(σ':ax):Prop where
 zy:c.sh=false->c.ps=[]
 he:aB=put o.dst c.v env
 hs:σ'=pF c.us Z++c.ps
 hu:∀u∈c.us,o.k.turns Γ=true/\u.1∈o.k.reach env Z/\u.1<Z.length
 nam:∀Q:Nat->Prop,(∀t∈o.reads,(aA t env).Nm Q)->(∀j b,j∈o.k.reach env Z->Z[j]?=some b->b.Nm Q)->(∀u∈c.us,u.2.Nm Q)∧∀b∈c.ps,b.Nm Q
 run:∀(aB:Env) (σ':ax) (K':Env->ax->Prop),(∀t∈o.reads,aA t aB=aA t env)->Sub (· ∈o.k.reach env Z) Z σ'->K' (put o.dst (shv c.sh Z.length σ'.length c.v) aB) (pF c.us σ'++c.ps)->ib Γ o aB σ' K'
def entry(o:PO)(env:Env)(Z:ax)(aB:Env)(σ':ax):Lg:=(σ'.length,o.k.reach env Z,(match o.dst with|some d=>(aaW d aB).ids|none=>[]))
def anQ(hΓ:Sound P Γ){K:List Lg->Env->ax->Prop}(d:PO):∀(ops:Od) (log:List Lg) (env:Env) (Z:ax),(∀o∈ops,o.k.dk Γ=true)->vcD Γ K ops log env Z->
 ∃(hk:Nat->Env) (S:Nat->ax) (R:Nat->Rc),hk 0=env/\S 0=Z/\K (((List.range ops.length).map λi=>entry (ops.getD i d) (hk i) (S i) (hk (i+1)) (S (i+1))).reverse++log) (hk ops.length) (S ops.length)/\
  ∀i,i<ops.length->Stp Γ (ops.getD i d) (hk i) (S i) (R i) (hk (i+1)) (S (i+1)):=by
 intro ops
 induction ops with
 |nil=>intro log env Z _ h;exact⟨λ_=>env,λ_=>Z,λ_=>⟨.bad,false,[],[]⟩,rfl,rfl,h,λi W=>uV⟩
 |cons o ops ih=>
  intro log env Z hd h;have h':ib Γ o env Z λaB σ'=>vcD Γ K ops ((σ'.length,o.k.reach env Z,(match o.dst with|some d=>(aaW d aB).ids|none=>[]))::log) aB σ':=by
   rw[<-api];exact h
  obtain⟨v,sh,us,ps,h0,U,H,h3,h4⟩:=anm hΓ (hd o ab) h';obtain⟨hk,S,R,e1,e2,e3,e4⟩:=ih _ _ _ (λx T=>hd x bP) U;refine⟨λi=>match i with|0=>env|i+1=>hk i,λi=>match i with|0=>Z|i+1=>S i,λi=>match i with|0=>⟨v,sh,us,ps⟩|i+1=>R i,rfl,rfl,?_,λi W=>?_⟩
  ·simp only[zap];rw[List.range_succ_eq_map,zau,List.map_map,List.reverse_cons,zaj];simp only[zbS,e1,e2];exact e3
  ·cases i with
   |zero=>simp only[zbS];exact⟨h0,e1,e2,H,h3,h4⟩
   |succ i=>simp only[List.getD_cons_succ];exact e4 i (by simpa using W)
end
end
end Go.Dv
namespace Go.Dv
open Go.RowKit
section
section
variable {cx:Cx} {env:Env} {Z:ax} {vals:XS} {a:Act} {w w':World} {n:Nat} {Γ:Ctx} {ops:Array Oper}
def aj0(J:Rel cx env Z vals a w)(k:Nat):∃ay,Rel cx env (Z++List.replicate k .dead) ay a w:=by
 obtain⟨U,H⟩:=J.s.afX (Below.refl _ w) (List.replicate k .dead) (List.replicate k (.bool false)) ab (by intro u hu;rw[zbt hu];rfl) (by intro u hu b I;rw[zbt hu]at I;cases I)
  (by intro i j u t b _ hu _ I;rw[zbt (zag hu)]at I;cases I)
  (by intro _ i s u hs hu;rw[zbt (zag hs)];trivial)
 exact⟨_,U,λp=>H.ra _ _ (J.env p),J.defers,λx v hq=>H.ra _ _ (J.gh x v hq),J.lo⟩
def y_(N b k:Nat):QK:=(List.range N).map λj=>if j<b then j else if j<b+k then N+(j-b)else j
def uL{N b k j:Nat}(h:j<N):(y_ N b k)[j]?=some (if j<b then j else if j<b+k then N+(j-b)else j):=by
 unfold y_;rw[zaD,zbD h];rfl
def WT(N b k:Nat):(y_ N b k).length=N:=by simp[y_]
def aaO{N b k:Nat}(h:b+k<=N):(y_ N b k).Nodup:=by
 unfold y_;unfold List.Nodup;rw[List.pairwise_map];refine List.Pairwise.imp_of_mem (λ{x y} T hy hxy=>?_) zb0;have T:=zbp.1 T;have hy:=zbp.1 hy;have hxy:x≠y:=hxy;show(if x<b then x else if x<b+k then N+(x-b)else x)≠(if y<b then y else if y<b+k then N+(y-b)else y)
 (repeat' split)<;>omega
def az1{ps:List cK}{D_:Env}{N b:Nat}(J:Rel cx env (Z++ps) vals a w)(hN:Z.length=N)(I:b+ps.length<=N)(hp:∀j,j<cx.wK.length\/j<cx.NF.length->j<b)
 (ad9:∀t,Ren (y_ N b ps.length) (aA t env) (aA t D_)) (hσ:∀s∈Z,s.Nm λi=>i<N∧¬(b<=i/\i<b+ps.length)) (VD:∀s∈ps,s.Nm λi=>i<N∧¬(b<=i/\i<b+ps.length))
 (hgh:∀x v,cx.gh x v->x.Nm λi=>i<N∧¬(b<=i/\i<b+ps.length)):
 ∃ay,Rel cx D_ (Z.take b++ps++Z.drop (b+ps.length)) ay a w:=by
 have aEG:(Z.take b++ps++Z.drop (b+ps.length)).length=N:=aH;have Ue:∀i,(i<N∧¬(b<=i/\i<b+ps.length))->(y_ N b ps.length)[i]?=some i:=by
  intro i W;rw[uL W.1];by_cases h:i<b
  ·rw[if_pos h]
  ·rw[if_neg h,if_neg V]
 have H:∀(j i:Nat),(y_ N b ps.length)[j]?=some i→∃s t,(Z++ps)[i]?=some s/\(Z.take b++ps++Z.drop (b+ps.length))[j]?=some t/\yG (y_ N b ps.length) s t:=by
  intro j i hj;have aM:j<N:=by rw[<-WT N b ps.length];exact(zaa.1 hj).1
  rw[uL aM]at hj;injection hj with hj
  by_cases h:j<b
  ·rw[if_pos h]at hj;subst hj;have U:Z[j]?=some Z[j]:=zah V;refine⟨Z[j],Z[j],by rw[zar V];exact U,?_,LV _ (cK.il Ue _ (hσ _ (zag U)))⟩;rw[zar aH,zar aH,zaK,if_pos h];exact U
  ·rw[if_neg h]at hj;by_cases h':j<b+ps.length
   ·rw[if_pos h']at hj;subst hj;have U:ps[j-b]?=some ps[j-b]:=zah V;refine⟨ps[j-b],ps[j-b],?_,?_,LV _ (cK.il Ue _ (VD _ (zag U)))⟩
    ·rw[zak V,show N+(j-b)-Z.length=j-b by omega];exact U
    ·rw[zar aH,zak aH];rw[show j-(Z.take b).length=j-b by simp;omega];exact U
   ·rw[if_neg h']at hj;subst hj;have U:Z[j]?=some Z[j]:=zah V;refine⟨Z[j],Z[j],by rw[zar V];exact U,?_,LV _ (cK.il Ue _ (hσ _ (zag U)))⟩;rw[zak aH,zaB];rw[show b+ps.length+(j-(Z.take b++ps).length)=j by simp;omega];exact U
 obtain⟨ay,hA,BF,b_⟩:=aat (r:=y_ N b ps.length) (λj hj=>by have:=hp j hj;rw[uL V,if_pos this]) (aaO I) (by rw[WT];exact aEG) H J.s;exact⟨ay,BF,λp=>Ren.ra hA b_ _ _ _ (ad9 p) (J.env p),J.defers,λx v hq=>Ren.ra hA b_ _ _ _ (D7 x (il Ue x (hgh x v hq))) (J.gh x v hq),J.lo⟩
structure za(Γ:Ctx)(ops:Array Oper)(f:Nat->PO)(kh bs:Nat->QK)(hk:Nat->Env)(S:Nat->ax)(R:Nat->Rc):Prop where
 avX:∀(i:Nat) (o:Oper),ops[i]?=some o→∀j∈kh i,∃e∈o.after,Region.binds .any e=true/\e.on=j
 back:∀(i:Nat) (o:Oper),ops[i]?=some o→∀e∈o.after,Region.binds .any e=true->e.on∈kh i
 lt:∀i,i<ops.size→∀j∈kh i,j<i
 bef:∀i,i<ops.size→∀j∈bs i,j∈kh i∨∃e∈kh i,j∈bs e
 stp:∀i,i<ops.size->Stp Γ (f i) (hk i) (S i) (R i) (hk (i+1)) (S (i+1))
 low:∀i,i<ops.size→∀d,(f i).dst=some d→∀x∈(R i).v.ids,x<(S (i+1)).length
 chk:∀i j,i<ops.size->j<i->j∈bs i\/(Iw (f j) (f i)=false/\
  (∀x∈(f i).k.reach (hk i) (S i),¬((f j).k.turns Γ=true/\x∈(f j).k.reach (hk j) (S j))∧¬((S j).length<=x/\x<(S (j+1)).length))/\
  (∀x∈(f j).k.reach (hk j) (S j),¬((f i).k.turns Γ=true/\x∈(f i).k.reach (hk i) (S i))∧¬((S i).length<=x/\x<(S (i+1)).length))/\
  ∀d,(f i).dst=some d→∀x∈(R i).v.ids,¬((S j).length<=x/\x<(S (j+1)).length))
section dyn
variable {f:Nat->PO} {kh bs:Nat->QK} {hk:Nat->Env} {S:Nat->ax} {R:Nat->Rc}
def za.av8(hD:za Γ ops f kh bs hk S R){i:Nat}(W:i<ops.size):(S (i+1)).length=(S i).length+(R i).ps.length:=by
 rw[(hD.stp i W).hs,zad,jn]
def za.V8(hD:za Γ ops f kh bs hk S R){i:Nat}:∀k,i+k<=ops.size->(S i).length<=(S (i+k)).length:=by
 intro k
 induction k with
 |zero=>intro _;exact zai _
 |succ k ih=>
  intro h;have:=hD.av8 (i:=i+k) V;have:=ih V;show _<=(S (i+k+1)).length;omega
def za.M(_:za Γ ops f kh bs hk S R)(i x:Nat):Prop:=((f i).k.turns Γ=true/\x∈(f i).k.reach (hk i) (S i))\/((S i).length<=x/\x<(S (i+1)).length)
def za.Wb(hD:za Γ ops f kh bs hk S R)(t:Nat){m:Nat}:∀k,m+k<=ops.size->(∀p,m<=p->p<m+k->(f p).dst≠some t)->aA t (hk (m+k))=aA t (hk m):=by
 intro k
 induction k with
 |zero=>intro _ _;rfl
 |succ k ih=>
  intro h hp;show aA t (hk (m+k+1))=_;rw[(hD.stp (m+k) V).he];have U:=hp (m+k) V V;rw[<-ih V λp H h3=>hp p H V];cases hd:(f (m+k)).dst with
  |none=>rfl
  |some d=>
   rw[gU,ZD (λe=>U (by rw[hd,e]))];rfl
def za.am0(hD:za Γ ops f kh bs hk S R){i j:Nat}(W:i<ops.size)(hj:¬hD.M i j):((S (i+1))[j]?).getD .dead=((S i)[j]?).getD .dead:=by
 have hl:=hD.av8 W;unfold za.M at hj;rw[(hD.stp i W).hs];by_cases h:j<(S i).length
 ·rw[zar (by rw[jn];exact h),zN];intro u hu e;obtain⟨U,H,_⟩:=(hD.stp i W).hu u hu;exact hj (.inl ⟨U,e▸H⟩)
 ·rw[zaM (by rw[zad,jn];omega),zaM V]
def za.Xd(hD:za Γ ops f kh bs hk S R)(j:Nat){m:Nat}:∀k,m+k<=ops.size->(∀p,m<=p->p<m+k→¬hD.M p j)->((S (m+k))[j]?).getD .dead=((S m)[j]?).getD .dead:=by
 intro k
 induction k with
 |zero=>intro _ _;rfl
 |succ k ih=>
  intro h hp;rw[<-ih V λp H h3=>hp p H V];exact hD.am0 (i:=m+k) V (hp _ V V)
structure Ivt(hD:za Γ ops f kh bs hk S R)(l:Nat->Bool)(env:Env)(Z:ax):Prop where
 len:Z.length=(S ops.size).length
 slot:∀t m,m<=ops.size->(∀p,p<ops.size->(f p).dst=some t->(p<m↔l p=true))->aA t env=aA t (hk m)
 ent:∀j m,j<(S ops.size).length->m<=ops.size->(∀p,p<ops.size->hD.M p j->(p<m↔l p=true))->Z[j]?=some (((S m)[j]?).getD .dead)
 nme:∀t,(aA t env).Nm λx=>x<(S ops.size).length∧∀p,p<ops.size->l p=false→¬((S p).length<=x/\x<(S (p+1)).length)
 nms:∀b∈Z,b.Nm λx=>x<(S ops.size).length∧∀p,p<ops.size->l p=false→¬((S p).length<=x/\x<(S (p+1)).length)
def Ivt.step{hD:za Γ ops f kh bs hk S R}{l l':Nat->Bool}(h:Ivt hD l env Z){i:Nat}(W:i<ops.size)(hli:l i=false)(ZX:∀j∈bs i,l j=true)(iX:∀p,p<ops.size->l p=true→∀j∈bs p,l j=true)
 (VH:l' i=true) (FL:∀p,p≠i->l' p=l p) (HC:∀j,j<cx.wK.length\/j<cx.NF.length->j<(S 0).length) (hgh:∀x v,cx.gh x v->x.Nm λi=>i<(S 0).length):
 (∀t∈(f i).reads,aA t env=aA t (hk i))/\Sub (· ∈(f i).k.reach (hk i) (S i)) (S i) Z/\
 ∀vals a w,Rel cx (put (f i).dst (shv (R i).sh (S i).length Z.length (R i).v) env) (pF (R i).us Z++(R i).ps) vals a w→∃aB σ' ay,Rel cx aB σ' ay a w/\Ivt hD l' aB σ':=by
 have fu:=hD.stp i W;have aiD:=hD.av8 W;have hm1:(S (i+1)).length<=(S ops.size).length:=by have:=hD.V8 (i:=i+1) (ops.size-(i+1)) V;rwa[show i+1+(ops.size-(i+1))=ops.size by omega]at this
 have hm0:(S 0).length<=(S i).length:=by have:=hD.V8 (i:=0) i V;rwa[zaU]at this
 have later:∀p,p<ops.size->i<p->l p=true->i∉bs p:=λp hp _ Ur I=>by have:=iX p hp Ur i I;rw[hli]at this;cases this
 have reads:∀t∈(f i).reads,aA t env=aA t (hk i):=by
  intro t ht;refine h.slot t i (Nat.le_of_lt W) λp hp hd=>⟨λaM=>?_,λUr=>?_⟩
  ·rcases hD.chk i p W aM with I|⟨F,_⟩
   ·exact ZX p I
   ·exact absurd ht ((AD F).1 t hd).1
  ·rcases zbJ p i with U|U|U
   ·exact U
   ·subst U;rw[hli]at Ur;cases Ur
   ·rcases hD.chk p i hp U with I|⟨F,_⟩
    ·exact absurd I (later p hp U Ur)
    ·exact absurd ht ((AD F).2 t hd)
 have aAV:∀j∈(f i).k.reach (hk i) (S i),j<(S ops.size).length->Z[j]?=some (((S i)[j]?).getD .dead):=by
  intro j hj hjN;refine h.ent j i hjN (Nat.le_of_lt W) λp hp hM=>⟨λaM=>?_,λUr=>?_⟩
  ·rcases hD.chk i p W aM with I|⟨_,F,_⟩
   ·exact ZX p I
   ·exact absurd hM ach
  ·rcases zbJ p i with U|U|U
   ·exact U
   ·subst U;rw[hli]at Ur;cases Ur
   ·rcases hD.chk p i hp U with I|⟨_,_,F,_⟩
    ·exact absurd I (later p hp U Ur)
    ·exact absurd hM ach
 have sub:Sub (· ∈(f i).k.reach (hk i) (S i)) (S i) Z:=by
  intro j b hj I;have aM:=(zaa.1 I).1;rw[aAV j hj V,I];rfl
 refine⟨reads,sub,λvals a w J=>?_⟩;rw[h.len]at J;have keep:∀x,(x<(S ops.size).length∧∀p,p<ops.size->l p=false→¬((S p).length<=x/\x<(S (p+1)).length))->x<(S ops.size).length∧¬((S i).length<=x/\x<(S i).length+(R i).ps.length):=λx T=>⟨T.1,by rw[<-aiD];exact T.2 i W hli⟩
 have axL:=fu.nam (λx=>x<(S ops.size).length∧∀p,p<ops.size->l p=false→¬((S p).length<=x/\x<(S (p+1)).length)) (λt ht=>by rw[<-reads t ht];exact h.nme t) (λj b hj I=>h.nms b (zag (sub j b hj I)));have axM:=av2 (R i).us Z axL.1 h.nms;have aEH:∀t,Ren (y_ (S ops.size).length (S i).length (R i).ps.length) (aA t (put (f i).dst (shv (R i).sh (S i).length (S ops.size).length (R i).v) env)) (aA t (put (f i).dst (R i).v env)):=by
  have Ue:∀x,(x<(S ops.size).length∧∀p,p<ops.size->l p=false→¬((S p).length<=x/\x<(S (p+1)).length))->(y_ (S ops.size).length (S i).length (R i).ps.length)[x]?=some x:=by
   intro x T;have T:=keep x T;rw[uL T.1];by_cases U:x<(S i).length
   ·rw[if_pos U]
   ·rw[if_neg U,if_neg V]
  intro t;cases hd:(f i).dst with
  |none=>exact D7 _ (il Ue _ (h.nme t))
  |some d=>
   rw[gU,gU];cases hdt:Nat.beq d t with
   |false=>exact D7 _ (il Ue _ (h.nme t))
   |true=>
    show Ren _ (shv _ _ _ _) _;have aAW:=hD.low i W d hd;cases zy:(R i).sh with
    |true=>
     refine aiq _ ((Ry _).2 λx T=>?_);have T:=aAW x T;rw[uL V];unfold shf;by_cases U:x<(S i).length
     ·rw[if_pos U,if_pos U]
     ·rw[if_neg U,if_neg U,if_pos V,Nat.add_comm]
    |false=>
     have VD:=fu.zy zy;refine D7 _ ((Ry _).2 λx T=>?_);have T:=aAW x T;rw[aiD,VD]at T;simp only[zbh,zaW]at T;rw[uL V,if_pos T]
 obtain⟨ay,eI⟩:=az1 (Z:=pF (R i).us Z) (N:=(S ops.size).length) (b:=(S i).length) J (by rw[jn,h.len]) V (λj hj=>by have:=HC j hj;omega) aEH
  (λs hs=>cK.il keep _ (axM s hs)) (λs hs=>cK.il keep _ (axL.2 s hs)) (λx v hq=>il (λy hy=>⟨V,V⟩) _ (hgh x v hq))
 refine⟨_,_,ay,eI,?_⟩;have VF:(pF (R i).us Z).length=(S ops.size).length:=by rw[jn,h.len]
 have aqu:∀x,(x<(S ops.size).length∧∀p,p<ops.size->l p=false→¬((S p).length<=x/\x<(S (p+1)).length))->x<(S ops.size).length∧∀p,p<ops.size->l' p=false→¬((S p).length<=x/\x<(S (p+1)).length):=by
  intro x T;refine⟨T.1,λp hp Ur=>T.2 p hp ?_⟩;by_cases hpi:p=i
  ·subst hpi;rw[VH]at Ur;cases Ur
  ·rw[<-FL p hpi];exact Ur
 have atT:∀j,(S i).length<=j->j<(S (i+1)).length->((pF (R i).us Z).take (S i).length++(R i).ps++(pF (R i).us Z).drop ((S i).length+(R i).ps.length))[j]?=(R i).ps[j-(S i).length]?:=by
  intro j U H;rw[zar aH,zak aH];congr 1;simp;omega
 have aiG:∀j,¬((S i).length<=j/\j<(S (i+1)).length)->((pF (R i).us Z).take (S i).length++(R i).ps++(pF (R i).us Z).drop ((S i).length+(R i).ps.length))[j]?=(pF (R i).us Z)[j]?:=by
  intro j U;by_cases H:j<(S i).length
  ·rw[zar aH,zar aH,zaK,if_pos H]
  ·rw[zak aH,zaB];congr 1;simp;omega
 refine⟨aH,λt m hm F=>?_,λj m hj hm F=>?_,λt=>?_,λb I=>?_⟩
 ·by_cases hd:(f i).dst=some t
  ·have him:i<m:=(F i W hd).2 VH;have e1:aA t (hk m)=aA t (hk (i+1)):=by
    have:=hD.Wb t (m:=i+1) (m-(i+1)) V λp U H hpd=>?_
    ·rwa[show i+1+(m-(i+1))=m by omega]at this
    ·have hp:p<ops.size:=by omega
     have Ur:l p=true:=by rw[<-FL p V];exact(F p hp hpd).1 V
     rcases hD.chk p i hp V with I|⟨aEJ,_⟩
     ·exact later p hp V Ur I
     ·exact((AD aEJ).1 t hd).2 hpd
   rw[e1,fu.he,hd,gU,gU];have:Nat.beq t t=true:=zbU t;rw[this];rfl
  ·have e1:aA t (put (f i).dst (R i).v env)=aA t env:=by
    cases hdd:(f i).dst with
    |none=>rfl
    |some d=>rw[gU,ZD (λe=>hd (by rw[hdd,e]))];rfl
   rw[e1];refine h.slot t m hm λp hp hpd=>?_
   rw[F p hp hpd,FL p (λe=>hd (e▸hpd))]
 ·by_cases hM:hD.M i j
  ·have him:i<m:=(F i W hM).2 VH;have e1:((S m)[j]?).getD .dead=((S (i+1))[j]?).getD .dead:=by
    have:=hD.Xd j (m:=i+1) (m-(i+1)) V λp U H hpM=>?_
    ·rwa[show i+1+(m-(i+1))=m by omega]at this
    ·have hp:p<ops.size:=by omega
     have Ur:l p=true:=by rw[<-FL p V];exact(F p hp hpM).1 V
     have hmp:(S (i+1)).length<=(S p).length:=by have:=hD.V8 (i:=i+1) (p-(i+1)) V;rwa[show i+1+(p-(i+1))=p by omega]at this
     rcases hD.chk p i hp V with I|⟨_,c1,c2,_⟩
     ·exact later p hp V Ur I
     ·unfold za.M at hM hpM;rcases hM with hM|hM
      ·rcases hpM with hpM|hpM
       ·exact(c2 j hM.2).1 hpM
       ·exact(c2 j hM.2).2 hpM
      ·rcases hpM with hpM|hpM
       ·exact(c1 j hpM.2).2 hM
       ·omega
   rw[e1];by_cases hnw:(S i).length<=j/\j<(S (i+1)).length
   ·rw[atT j hnw.1 hnw.2,fu.hs,zak (by rw[jn];omega),jn,zah V];rfl
   ·rw[aiG j hnw];have hjA:j∈(f i).k.reach (hk i) (S i):=by
     unfold za.M at hM;rcases hM with hM|hM
     ·exact hM.2
     ·exact absurd hM hnw
    have h0:=aAV j hjA hj;by_cases aM:j<(S i).length
    ·have U:(pF (R i).us Z)[j]?=(pF (R i).us (S i))[j]?:=ahL _ _ _ _ (by rw[h0,zah aM];rfl);rw[U,fu.hs,zar (by rw[jn];exact aM),zah (by rw[jn];exact aM)];rfl
    ·rw[zN _ _ _ λu hu e=>by have:=(fu.hu u hu).2.2;omega,h0,zaM V,zaM V]
  ·have hnw:¬((S i).length<=j/\j<(S (i+1)).length):=λh=>hM (.inr h)
   rw[aiG j hnw,zN _ _ _ λu hu e=>hM (.inl ⟨(fu.hu u hu).1,by rw[<-e];exact(fu.hu u hu).2.1⟩)];refine h.ent j m hj hm λp hp hpM=>?_
   rw[F p hp hpM,FL p (λe=>hM (e▸hpM))]
 ·cases hd:(f i).dst with
  |none=>exact il aqu _ (h.nme t)
  |some d=>
   rw[gU];cases hdt:Nat.beq d t with
   |false=>exact il aqu _ (h.nme t)
   |true=>
    show(R i).v.Nm _;refine(Ry _).2 λx T=>?_
    have aJq:=hD.low i W d hd x T;refine⟨V,λp hp Ur hnp=>?_⟩;rcases zbJ p i with U|U|U
    ·rcases hD.chk i p W U with I|⟨_,_,_,c3⟩
     ·have:=ZX p I;rw[FL p V,this]at Ur;cases Ur
     ·exact c3 d hd x T hnp
    ·subst U;rw[VH]at Ur;cases Ur
    ·have hmp:(S (i+1)).length<=(S p).length:=by have:=hD.V8 (i:=i+1) (p-(i+1)) V;rwa[show i+1+(p-(i+1))=p by omega]at this
     omega
 ·rcases zaA.1 I with I|I
  ·rcases zaA.1 I with I|I
   ·exact cK.il aqu _ (axM b (za5 I))
   ·exact cK.il aqu _ (axL.2 b I)
  ·exact cK.il aqu _ (axM b (zbA I))
def aks(hΓ:Sound cx.P Γ){dr:Bool}(F:GP cx.P dr ops n f)(hD:za Γ ops f kh bs hk S R){K:Env->ax->Prop}(Y:tZ K)(hKn:K (hk ops.size) (S ops.size))(HC:∀j,j<cx.wK.length\/j<cx.NF.length->j<(S 0).length)(hgh:∀x v,cx.gh x v->x.Nm λi=>i<(S 0).length)
 {Q:Exit->Act->World->Prop} {hc:Fence} {m:Nat} (hF:Ta hc) (hw:∀i,i<ops.size→∀d,(f i).dst=some d->cx.lo<=d)
 (hQ:∀aB σ' ay a' w',a'.tmps.size=n->Rel cx aB σ' ay a' w'->K aB σ'->Q .normal a' w'):
 ∀(fuel:Nat) (aQ:Array Bool) (env:Env) (Z:ax) (vals:XS) (a:Act) (w:World),aQ.size=ops.size->(left ops.size aQ).length<=fuel->
  (∀i,i<ops.size->aQ.getD i false=true→∀j∈bs i,aQ.getD j false=true)->
  a.tmps.size=n->Rel cx env Z vals a w->Ivt hD (λp=>aQ.getD p false) env Z->wpAnyIn hc m cx.P .any ops Q fuel aQ a w:=by
 have empty:∀(aQ:Array Bool),aQ.size=ops.size->Region.ready .any ops aQ=[]->left ops.size aQ=[]:=by
  intro aQ hs J;apply Decidable.byContradiction;intro ca;obtain⟨i,W,axH⟩:∃i,i∈left ops.size aQ∧∀j,j<i->j∉left ops.size aQ:=by
   have hex:∃i,i∈left ops.size aQ:=by
    cases hl:left ops.size aQ with
    |nil=>exact absurd hl ca
    |cons x xs=>exact⟨x,ab⟩
   obtain⟨i,W⟩:=hex
   induction i using Nat.strongRecOn with
   |_ i ih=>
    by_cases h:∃j,j<i/\j∈left ops.size aQ
    ·obtain⟨j,hj,hm⟩:=h;exact ih j hj hm
    ·exact⟨i,W,λj hj hm=>h ⟨j,hj,hm⟩⟩
  obtain⟨U,H⟩:=zbq.1 W;have U:=zbp.1 U;have Ud:i∈Region.ready .any ops aQ:=by
   refine mem_ready.2 ⟨nh,ops[i],zaI U,λe he I=>?_⟩;have hj:=hD.back i _ (zaI U) e he I;have aM:=hD.lt i U _ hj;have:=axH _ aM;cases hg:aQ.getD e.on true with
   |false=>exact absurd (zbq.2 ⟨zbp.2 V,Se⟩) this
   |true=>
    rw[zbo]at hg ⊢;rw[zaI V]at hg ⊢;exact hg
  rw[J]at Ud;cases Ud
 have fin:∀(aQ:Array Bool) (env:Env) (Z:ax) (vals:XS) (a:Act) (w:World),aQ.size=ops.size->left ops.size aQ=[]->a.tmps.size=n->Rel cx env Z vals a w->Ivt hD (λp=>aQ.getD p false) env Z->Q .normal a w:=by
  intro aQ env Z vals a w hs KI hn J hI;have all:∀p,p<ops.size->aQ.getD p false=true:=by
   intro p hp;cases hg:aQ.getD p true with
   |false=>
    have:p∈left ops.size aQ:=zbq.2 ⟨zbp.2 hp,Se⟩;rw[KI]at this;cases this
   |true=>
    rw[zbo]at hg ⊢;rw[zaI V]at hg ⊢;exact hg
  have hσ:Z=S ops.size:=by
   refine zbb λj=>?_
   by_cases hj:j<(S ops.size).length
   ·rw[hI.ent j ops.size hj (zai _) λp hp _=>⟨λ_=>all p hp,λ_=>hp⟩,zah hj];rfl
   ·rw[zaM (by rw[hI.len];omega),zaM V]
  refine hQ _ _ _ _ _ hn J ?_;rw[hσ,Y (hk ops.size) env _ λt=>hI.slot t ops.size (zai _) λp hp _=>⟨λ_=>all p hp,λ_=>hp⟩];exact hKn
 intro fuel
 induction fuel with
 |zero=>
  intro aQ env Z vals a w hs hl iX hn J hI;have KI:left ops.size aQ=[]:=zaf V;refine⟨?_,?_⟩
  ·cases lf:Region.ready .any ops aQ with
   |nil=>rfl
   |cons i is=>
    exfalso;have W:i∈Region.ready .any ops aQ:=by rw[lf];simp
    obtain⟨U,o,H,_⟩:=mem_ready.1 W;have:i∈left ops.size aQ:=zbq.2 ⟨zbp.2 (zao.1 H).1,by simp only[U,zbP]⟩;rw[KI]at this;cases this
  ·exact fin aQ env Z vals a w hs KI hn J hI
 |succ fuel ih=>
  intro aQ env Z vals a w hs hl iX hn J hI;refine⟨λh0=>fin aQ env Z vals a w hs (empty aQ hs h0) hn J hI,λi W=>?_⟩;obtain⟨hun,o,ho,KF⟩:=mem_ready.1 W;have aM:i<ops.size:=(zao.1 ho).1;obtain⟨l1,l2,e1,e2,_⟩:=acW hs aM hun;have aqr:∀j∈kh i,aQ.getD j false=true:=by
   intro j hj;obtain⟨e,he,I,rfl⟩:=hD.avX i o ho j hj;exact KF e he I
  have ZX:∀j∈bs i,aQ.getD j false=true:=by
   intro j hj;rcases hD.bef i aM j hj with h|⟨e,he,h⟩
   ·exact aqr j h
   ·exact iX e (Nat.lt_trans (hD.lt i aM e he) aM) (aqr e he) j h
  have hli:aQ.getD i false=false:=by
   rw[zbo]at hun ⊢;rw[zaI V]at hun ⊢;exact hun
  obtain⟨g1,g2,g3⟩:=hI.step (cx:=cx) (l':=λp=>(aQ.setIfInBounds i true).getD p false) aM hli ZX iX (by
   show(aQ.setIfInBounds i true).getD i false=true;rw[zbo,zbC V];rfl) (λp hp=>getD_set_ne false (λe=>hp e.symm)) HC hgh
  refine O4 hΓ F aM hn J hF (hw i aM) (K:=λaB σ'=>aB=put (f i).dst (shv (R i).sh (S i).length Z.length (R i).v) env/\σ'=pF (R i).us Z++(R i).ps) (λaB σ' ay a' w' HN eI hK'=>?_) ((hD.stp i aM).run env Z _ g1 g2 ⟨rfl,rfl⟩);obtain⟨rfl,rfl⟩:=hK';obtain⟨D_,σ2,eH,tT,hI2⟩:=g3 _ _ _ eI;refine ih _ D_ σ2 eH a' w' (by simpa using hs) ?_ ?_ HN tT hI2
  ·rw[e2];rw[e1]at hl;simp at hl ⊢;omega
  ·intro k E hlk j hj;by_cases hik:i=k
   ·subst hik;exact getD_set_true (ZX j hj)
   ·rw[getD_set_ne false hik]at hlk;exact getD_set_true (iX k E hlk j hj)
end dyn
end
end
end Go.Dv
namespace Go.Dv
open Go Go.RowKit
structure y7(b:Nat)(r:Loop)(hi:World):Prop where
 l:hi.heap[b+1]?=some (.loop r)
 d:hi.heap[b]?=some (.deferred (some []))
def y7.keeps{b:Nat}{r:Loop}{hi W':World}(h:y7 b r hi)(k:KeepsFrom b hi W'):y7 b r W':=
 ⟨k.same _ _ (Nat.le_succ _) h.l rfl,k.same _ _ (zai _) h.d rfl⟩
def y7.put{b:Nat}{r:Loop}{hi:World}(h:y7 b r hi)(r':Loop):y7 b r' (hi.putObj (b+1) (.loop r')):=
 ⟨World.putObj_heap_same (zao.1 h.l).1,(World.putObj_heap_other V).trans h.d⟩
def y7.grown{b:Nat}{r:Loop}{hi W':World}{row:Option Nat}(h:y7 b r hi)(hg:hi.grownBy W' row)(J:∀k,row=some k→∃o:Obj,hi.heap[k]?=some o/\o.isWalk=true):y7 b r W':=
 ⟨(grownBy_keeps hg J h.l rfl).trans h.l,(grownBy_keeps hg J h.d rfl).trans h.d⟩
def agi{n:Nat}{P:Program}{α:Type}{g:Operand}{ps:Array Tmp}{assign body:Code}{Q:Exit->Act->World->Prop}{a:Act}{w:World}
 (U:1<=n) {gf:Nat} {lb:Array Value} (hg:a.eval g=.func (.func gf) #[] lb) (eg:∀args w,(callFunc gf args).run P w=.ok (.enter gf args) w)
 {dV:Nat->Prop} {Ua:α->Array Value} {Nx:List α->α->Prop} {S Sp:List α->Prop} (axO:axg dV (n-1) P gf lb Ua Nx S Sp w) (VD:∀x,(Ua x).size=ps.size)
 (hb:List α->(Nat->Prop)->World->Prop) (Ix:Code->List α->World->Prop) (hI:∀X,OwnFrom w.heap.size λpre=>hb pre X) (hIx:∀c,OwnFrom w.heap.size (Ix c)) (hIX:∀pre X hi,hb pre X hi→∀b,X b->b<hi.heap.size)
 {X0:Nat->Prop} (hX0:∀b,dV b→¬X0 b) (h0:hb [] X0 w)
 (M:List α->(Nat->Prop)->α->Act->World->Prop) (hM:∀pre X x a' hi l r r',w.heap.size<=l->hi.heap[l]?=some (.loop r)->M pre X x a' hi->M pre X x a' (hi.putObj l (.loop r')))
 (atU:∀(l:Nat) (pre:List α) (X:Nat->Prop) (x:α) (hi:World),hb pre X hi->Nx pre x->assign.wpIn (Fence.wide.inRound l) (n-1-1) P (Exit.then (λa' W'=>KeepsFrom w.heap.size hi W'∧∃X',KpX w.heap.size X X' hi W'/\M pre X' x a' W') (λ_ _ _=>False)) { tmps:=(ps.zip (Ua x)).foldl (λt (p,v)=>t.setIfInBounds p v) a.tmps,defers:=[] } hi)
 (BG:∀(l:Nat) (pre:List α) (X:Nat->Prop) (x:α) (a':Act) (hi:World),M pre X x a' hi->body.wpIn (Fence.wide.inRound l) (n-1-1) P (λe _ W'=>KeepsFrom w.heap.size hi W'/\match e with
   | .normal=>∃X',KpX w.heap.size X X' hi W'/\hb (pre++[x]) X' W'
   | .ret=>Ix .ret (pre++[x]) W'
   | .exit id=>Ix (.exit id) (pre++[x]) W'
   | .goto t=>Ix (.goto t) (pre++[x]) W'
   |_=>False) a' hi)
 (aqv:∀(D:Nat) (xs:List α) (X:Nat->Prop) (hi:World),w.heap.size<=D->S xs->hb xs X hi->hi.heap[D]?=some (.deferred (some []))->Q .normal { a with defers:={ target:=.collected D,args:= #[] }::a.defers } hi)
 (aAX:∀(D:Nat) (c:Code) (pre:List α) (hi:World),w.heap.size<=D->Sp pre->Ix c pre hi->hi.heap[D]?=some (.deferred (some []))->c.wpIn Fence.wide n P Q { a with defers:={ target:=.collected D,args:= #[] }::a.defers } hi):
 (Code.rangeFunc g ps assign body).wpIn Fence.wide n P Q a w:=by
 refine wpIn_rangeFunc λfn hfn=>?_
 rw[show Fence.wide.round=none from rfl];obtain⟨rec,alk⟩:∃rec:Loop,rec={ state:=.ready,pending:=none,fn,tmps:=a.tmps,params:=ps,assign,body,defers:=w.heap.size }:=⟨_,rfl⟩
 have fu:rec.state=.ready:=by rw[alk]
 have b9:=run_enterLoop_outer (P:=P) (w:=w) fn a.tmps ps assign body;rw[<-alk]at b9;obtain⟨W1,hW1⟩:∃W1,(w.alloc (.deferred (some []))).alloc (.loop rec)=W1:=⟨_,rfl⟩
 have hB1:y7 w.heap.size rec W1:=by
  rw[<-hW1];refine⟨?_,(Below.heap_alloc _ _ _ ab).trans (World.alloc_heap_new w _)⟩;have:=World.alloc_heap_new (w.alloc (.deferred (some []))) (.loop rec);rwa[World.size_alloc]at this
 have nP:w.heap.size<=W1.heap.size:=by rw[<-hW1];simp;omega
 have hI1:hb [] X0 W1:=by rw[<-hW1];exact(hI X0).alloc _ ((hI X0).alloc _ h0)
 have xI:Below w.heap.size w W1:=by
  rw[<-hW1];exact((Below.refl _ w).alloc (zai _) _).alloc ab _
 rw[hW1]at b9;have Uc:(resolve a.eval (rangeCall g (w.heap.size+1)) 0).run P W1=.ok { target:=.fn (.func gf) lb,args:= #[.func (.yield (w.heap.size+1)) #[] #[]] } W1:=by
  simp only[resolve,hg];simp[go_sem]
 refine⟨_,_,W1,_,W1,gf,#[.func (.yield (w.heap.size+1)) #[] #[]]++lb,W1,b9,Uc,λf' hf'=>?_,by simp[invoke,go_sem,eg],λ_=>U,?_⟩
 ·trivial
 have nw:∀{A:World} {row:Option Nat},(∀r,row=some r->W1.heap.size<=r∧∃o:Obj,A.heap[r]?=some o/\o.isWalk=true)→∀r,row=some r->w.heap.size<=r∧∃o:Obj,A.heap[r]?=some o/\o.isCells=false:=
  λJ r e=>by obtain⟨hB,o,ho,hw⟩:=J r e;exact⟨V,o,ho,Obj.not_cells_of_walk hw⟩
 refine(axO (w.heap.size+1) (λpre X hi=>hb pre X hi/\y7 w.heap.size rec hi) (λpre hi=>∃c,Ix c pre hi/\y7 w.heap.size { rec with state:=.done,pending:=some c } hi) W1 xI
  (λX s A B row hs NC J=>⟨hI X s A B row hs.1 NC (nw J),hs.2.grown NC λk e=>(J k e).2⟩)
  (λs A B row ⟨c,F,E⟩ NC J=>⟨c,hIx c s A B row F NC (nw J),E.grown NC λk e=>(J k e).2⟩) (λpre X W1 h=>hIX pre X W1 h.1) ?_ X0 hX0 ⟨hI1,hB1⟩).mono ?_
 ·rintro pre x X hi ⟨W,hbk⟩ hlen;have hy:=run_yield (P:=P) (args:=Ua x) hbk.l (by rw[alk];exact VD x);have ht:rec.tmps=a.tmps/\rec.params=ps/\rec.assign=assign/\rec.body=body/\rec.fn=fn:=by rw[alk];simp
  obtain⟨e1,e2,e3,e4,e5⟩:=ht;rw[e1,e2,e3,e4,e5]at hy;refine⟨fn,_,assign,body,hy,roundIn_of_wpIn hfn (wpIn_mono (atU _ pre X x hi W hlen) ?_)⟩;intro e a' W' hp;cases e with
  |normal=>
   obtain⟨k1,X1,k2,hm⟩:=hp;have nN:=hbk.keeps k1;refine⟨_,run_beginRound nN.l fu,?_⟩;have nj:=nN.put { rec with state:=.busy };have kp2:KpX w.heap.size X1 X1 W' (W'.putObj (w.heap.size+1) (.loop { rec with state:=.busy })):=KpX.put _ V nN.l rfl;refine wpIn_mono (BG _ pre X1 x a' _ (hM _ _ _ _ _ _ _ _ V nN.l hm)) ?_;intro e a3 W3 hp;have stop:∀c:Code,KeepsFrom w.heap.size (W'.putObj (w.heap.size+1) (.loop { rec with state:=.busy })) W3->Ix c (pre++[x]) W3->
    (Instr.endRound (w.heap.size+1) (some c)).run P W3=.ok (.bool false) (W3.putObj (w.heap.size+1) (.loop { rec with state:=.done,pending:=some c }))/\
    ∃c',Ix c' (pre++[x]) (W3.putObj (w.heap.size+1) (.loop { rec with state:=.done,pending:=some c }))/\y7 w.heap.size { rec with state:=.done,pending:=some c' } (W3.putObj (w.heap.size+1) (.loop { rec with state:=.done,pending:=some c })):=by
    intro c k3 T;have Z5:=nj.keeps k3;have J:=run_endRound (P:=P) (some c) Z5.l;exact⟨J,c,(hIx c).putObj _ T V Z5.l rfl,Z5.put _⟩
   cases e with
   |normal=>
    obtain⟨k3,X3,kp3,hi3⟩:=hp;have Z5:=nj.keeps k3;have lf:=run_endRound (P:=P) none Z5.l;have hre:({ rec with state:=.ready,pending:=none }:Loop)=rec:=by rw[alk]
    have lf:(Instr.endRound (w.heap.size+1) none).run P W3=.ok (.bool true) (W3.putObj (w.heap.size+1) (.loop rec)):=by
     rw[lf];simp only[Option.isNone_none,if_true];rw[show({ rec with state:=LoopState.ready,pending:=none }:Loop)=rec from hre]
    exact⟨_,_,lf,.inl ⟨rfl,X3,⟨(hI X3).putObj _ hi3 V Z5.l rfl,Z5.put rec⟩,k2.trans ((kp2.trans kp3).trans (KpX.put _ V Z5.l rfl))⟩⟩
   |ret=>obtain⟨r1,r2⟩:=stop .ret hp.1 hp.2;exact SJ
   |exit id=>obtain⟨r1,r2⟩:=stop (.exit id) hp.1 hp.2;exact SJ
   |goto t=>obtain⟨r1,r2⟩:=stop (.goto t) hp.1 hp.2;exact SJ
   |panic ch=>exact hp.2.elim
   |outgrown=>exact hp.2.elim
  |_=>exact hp.elim
 ·rintro e W2 ⟨⟨v,rfl⟩,(⟨xs,X,hS,W,E⟩|⟨pre,hSp,c,W,E⟩)⟩
  ·have hp:rec.pending=none:=by rw[alk]
   have:=run_endLoop (P:=P) E.l (by rw[fu];simp);rw[hp]at this;exact⟨none,_,this,aqv _ xs X _ (zai _) hS ((hI X).putObj _ W V E.l rfl) (E.put _).d⟩
  ·exact⟨some c,_,run_endLoop (P:=P) E.l ab,aAX _ c pre _ (zai _) hSp ((hIx c).putObj _ W V E.l rfl) (E.put _).d⟩
end Go.Dv
namespace Go.Dv
open Go.RowKit
section
def Tf(env:Env)(ps:QK):∀(K:Env->Prop),canon env ps K=K (ps.map λp=>(p,aA p env)):=by
 induction ps with
 |nil=>intro K;rfl
 |cons p ps ih=>
  intro K;show look p (λv=>canon env ps λr=>K ((p,v)::r)) env=_;rw[look_eq,ih];rfl
def u_{env aB:Env}(h:∀p,aA p aB=aA p env)(ps:QK)(K:Env->Prop):canon aB ps K=canon env ps K:=by
 rw[Tf,Tf]
 grind
def OZ{pin:QK}{env aB:Env}(h:∀p,aA p aB=aA p env)(Z:ax)(ps:QK)(K:Env->ax->Prop):gc pin aB Z ps K=gc pin env Z ps K:=u_ h ps _
def EI{B:Env->ax->Prop}{Q:Ex->Env->ax->Prop}(hB:tZ B)(hQ:∀e,tZ (Q e)):∀e,tZ (arW B Q e)
 | .normal=>hB
 | .exit i=>hQ (.exit i)
 | .ret=>hQ .ret
def MR{id:Nat}{Q:Ex->Env->ax->Prop}(hQ:∀e,tZ (Q e)):∀e,tZ (agq id Q e)
 | .normal=>hQ .normal
 | .ret=>hQ .ret
 | .exit i=>by
  intro env aB Z h;show(match Nat.beq i id with|true=>Q .normal aB Z|false=>Q (.exit i) aB Z)=(match Nat.beq i id with|true=>Q .normal env Z|false=>Q (.exit i) env Z)
  cases Nat.beq i id with
  |true=>exact hQ .normal _ _ _ h
  |false=>exact hQ (.exit i) _ _ _ h
def amU{env aB:Env}(h:∀p,aA p aB=aA p env)(o:Operand):bD aB o=bD env o:=EF λt _=>h t
def atx(Γ:Ctx)(pin ps:QK):∀(c:PC) (Q:Ex->Env->ax->Prop),(∀e,tZ (Q e))->tZ (vc Γ pin ps c Q):=by
 intro c
 induction c with
 |skip=>intro Q hQ;exact hQ .normal
 |region ops=>intro Q _ env aB Z h;exact u_ h ps _
 |draw ops kh=>
  intro Q _ env aB Z h;show(LL Γ ops kh=true/\canon aB ps _)=(LL Γ ops kh=true/\canon env ps _)
  rw[u_ h]
 |drawD ops kh=>
  intro Q _ env aB Z h;show(WZ Γ ops kh=true/\canon aB ps _)=(WZ Γ ops kh=true/\canon env ps _)
  rw[u_ h]
 |seq a b iha ihb=>intro Q hQ;exact iha _ (EI (ihb Q hQ) hQ)
 |cond c t e iht ihe=>
  intro Q hQ env aB Z h;show ev aB c _=ev env c _;rw[eB,eB,amU h];cases bD env c with
  |pv x=>cases x with
   |bool b=>cases b with
    |true=>exact iht Q hQ _ _ _ h
    |false=>exact ihe Q hQ _ _ _ h
   |_=>rfl
  |_=>rfl
 |block id b ih=>intro Q hQ;exact ih _ (MR hQ)
 |loop live b ih=>
  intro Q _ env aB Z h;show(match isK live with|true=>(match dm b with|true=>ail live.tail _ Q (List.range Z.length) aB Z|false=>False)|false=>gc pin aB Z live _)=(match isK live with|true=>(match dm b with|true=>ail live.tail _ Q (List.range Z.length) env Z|false=>False)|false=>gc pin env Z live _)
  cases isK live with
  |true=>cases dm b with
   |true=>exact OZ h Z live.tail _
   |false=>rfl
  |false=>exact OZ h Z live _
 |rangeF f qs ap5 b ih=>
  intro Q _ env aB Z h;show(match dm b with|true=>canon aB ps _|false=>False)=(match dm b with|true=>canon env ps _|false=>False)
  cases dm b with
  |true=>exact u_ h ps _
  |false=>rfl
 |exit id=>intro Q hQ;exact hQ (.exit id)
 |ret=>intro Q hQ;exact hQ .ret
def ka{α:Type}(l:List α)(p:α×Nat->Bool)(h:l.zipIdx.all p=true)(i:Nat)(x:α)(W:l[i]?=some x):p (x,i)=true:=by
 grind
section
variable {cx:Cx} {env:Env} {Z:ax} {vals:XS} {a:Act} {w w':World} {n:Nat} {Γ:Ctx} {ps:QK}
def apj{ops:Array Oper}{l:Od}{kh:List (QK)}(hl:l.length=ops.size)(axQ:kh=ops.toList.map λo=>(o.after.toList.filter λe=>Region.binds .any e).map (·.on))
 (h:LL Γ l kh=true) (d:PO):auM Γ ops (λi=>l.getD i d) (λi=>kh.getD i []) (λi=>(aps kh).getD i []):=by
 unfold LL at h;simp only[zaT]at h;obtain⟨⟨h0,U⟩,H⟩:=h;have get:∀(i:Nat) (o:Oper),ops[i]?=some o->kh.getD i []=(o.after.toList.filter λe=>Region.binds .any e).map (·.on):=by
  grind
 have row:∀i,i<ops.size->kh[i]?=some (kh.getD i []):=by
  grind
 have alm:∀i,i<ops.size->l[i]?=some (l.getD i d):=by
  grind
 refine⟨λi o ho j hj=>?_,λi o ho e he I=>?_,λi W j hj=>?_,λi W j hj=>?_,λi j W hj=>?_⟩
 ·grind
 ·grind
 ·have:=ka kh _ U i _ (row i W);simp only[zaT,zbr]at this;exact za4 (this.1 j hj)
 ·have:=ka kh _ U i _ (row i W)
  grind
 ·have:=ka l _ (ka l _ H i _ (alm i W)) j _ (alm j V);simp only[zbF,zbv,zaT]at this;rcases this with(h3|h3)|h3
  ·have:Nat.blt j i=true:=zbQ hj
   grind
  ·grind
  grind
def akn(C:Cx->Prop)(n:Nat)(Q:Ex->Env->ax->Prop):Exit->Act->World->Prop
 | .normal,a,w=>∃cx env Z vals,C cx/\a.tmps.size=n/\Rel cx env Z vals a w/\Q .normal env Z
 | .exit i,a,w=>∃cx env Z vals,C cx/\a.tmps.size=n/\Rel cx env Z vals a w/\Q (.exit i) env Z
 | .ret,a,w=>∃cx env Z vals,C cx/\a.tmps.size=n/\Rel cx env Z vals a w/\Q .ret env Z
 |_,_,_=>False
def Cx.mark(cx:Cx)(w:World)(D:Nat)(hD:D<w.heap.size)(hs:cx.w1.heap.size<=w.heap.size):Cx:=
 { cx with
  w1:=w
  keep:=λb=>cx.keep b\/b=D
  E:=λb I=>by
   rcases I with I|rfl
   ·exact zae (cx.E b I) hs
   ·exact hD
  defers:={ target:=.collected D,args:= #[] }::cx.defers }
structure anB(P:Program)(pin:QK)(C:Cx->Prop):Prop where
 pin:∀cx,C cx->adM pin cx
 gh:∀cx,C cx→∀x v,¬cx.gh x v
 lo:∀cx,C cx->cx.lo=0
 keep:∀cx,C cx→∀b,cx.keep b→∃o:Obj,cx.w1.heap[b]?=some o/\o.isCells=false
 mark:∀(cx:Cx) (w:World) (D:Nat) (hD:D<w.heap.size) (hs:cx.w1.heap.size<=w.heap.size),C cx->(∀b,cx.keep b->w.heap[b]?=cx.w1.heap[b]?)->cx.w0.heap.size<=D->cx.w1.heap.size<=D->
  w.heap[D]?=some (.deferred (some []))->C (cx.mark w D hD hs)
def EJ(J:Rel cx env Z vals a w){K:Env->Prop}(h:canon env ps K):∃aB,K aB/\Rel cx aB Z vals a w:=by
 rw[Tf]at h;refine⟨_,h,J.s,λp=>?_,J.defers,J.gh,J.lo⟩;rcases DZ env ps p with F|F
 ·rw[F];exact J.env p
 ·rw[F];trivial
def apk{t:Nat}{K:Env->ax->Prop}(J:Rel cx env Z vals a w)(h:akc t K env Z):∃aB σ',K aB σ'/\Rel cx aB σ' vals a w:=by
 have h:=Ek _ _ _ h;split at h
 ·have EV:=J.env t;have oF:eu (Ok cx Z vals w) Z vals w [aA t env] [a.tmps.getD t undef]:=by simp only[eu];grind
  obtain⟨xs,σ',U,H,h3,h4⟩:=Sz _ Z _ _ J.s oF h;cases xs with
  |nil=>grind
  |cons x xs=>
   refine⟨_,_,U,?_⟩;have E:=J.keep H h3;refine⟨E.s,λp=>?_,E.defers,E.gh,E.lo⟩;by_cases hp:t=p
   ·subst hp;have e:aA t ((t,AV.pv x)::env)=.pv x:=by simp[aA]
    rw[e];obtain⟨v,r,e2,h5,_⟩:=h4;cases e2;assumption
   ·have e:aA p ((t,AV.pv x)::env)=aA p env:=by show(bif t.beq p then AV.pv x else aA p env)=_;rw[ZD hp];rfl
    rw[e];exact E.env p
 grind
def aa2{l:XU}:∀{K:Env->ax->Prop} {env:Env} {Z:ax},Rel cx env Z vals a w->Oj l K env Z→∃aB σ',K aB σ'/\Rel cx aB σ' vals a w:=by
 induction l with
 |nil=>intro K env Z J h;exact⟨_,Z,h,J⟩
 |cons o l ih=>
  intro K env Z J h;cases o with
  |tmp t=>
   obtain⟨aB,σ',U,H⟩:=apk J (show akc t (Oj l K) env Z from h)
   grind
  |_=>exact ih J h
def arn{l:Od}:∀{K:Env->ax->Prop} {env:Env} {Z:ax},Rel cx env Z vals a w->axj l K env Z→∃aB σ',K aB σ'/\Rel cx aB σ' vals a w:=by
 induction l with
 |nil=>intro K env Z J h;exact⟨_,Z,h,J⟩
 |cons o l ih=>
  intro K env Z J h;obtain⟨d,g,k⟩:=o;cases k with
  |mkf f ep=>
   obtain⟨aB,σ',U,H⟩:=aa2 J (show Oj ep (axj l K) env Z from h)
   grind
  |_=>exact ih J h
def uI{P:Program}{dr:Bool}{ops:Array Oper}{l:Od}(h:Ae (w_ P dr ops n) ops.toList=some l)(d:PO):l.length=ops.size/\GP P dr ops n (λi=>l.getD i d)/\GP P dr ops n (λi=>(l.map PO.plain).getD i d):=by
 have U:=(Me _ _ _ h).1;have hlen:l.length=ops.size:=by
  have:=congrArg List.length U
  grind
 have get:∀i,i<ops.size→∃o po,ops[i]?=some o/\w_ P dr ops n o=some po/\l[i]?=some po:=by
  intro i W;have:=congrArg (·[i]?) U
  grind
 refine⟨hlen,λi W=>?_,λi W=>?_⟩
 ·grind
 grind
def GO{α:Type}(l:List α)(d:α):(List.range l.length).map (λi=>l.getD i d)=l:=by
 apply zbb
 grind
open Classical in
def Si(p:Nat->Prop):Nat:=if h:∃n,p n∧∀m,p m->n<=m then Classical.choose h else 0
def wY{p:Nat->Prop}{n:Nat}(h:p n):p (Si p)∧∀m,p m->Si p<=m:=by
 have hex:∃n,p n∧∀m,p m->n<=m:=by
  induction n using Nat.strongRecOn with
  |_ n ih=>
   grind
 unfold Si
 grind
def afQ{pc:PC}(h:some PC.skip=some (strip pc)):pc=.skip:=by cases pc<;>first|rfl|cases h
def akI{pc:PC}(h:some PC.ret=some (strip pc)):pc=.ret:=by cases pc<;>first|rfl|cases h
def aeP{id:Nat}{pc:PC}(h:some (PC.exit id)=some (strip pc)):pc=.exit id:=by cases pc<;>first|(cases h;rfl)|cases h
def aee{l:Od}{pc:PC}(h:some (PC.region l)=some (strip pc)):pc=.region l:=by cases pc<;>first|(cases h;rfl)|cases h
def aeU{l:Od}{kh:List (QK)}{pc:PC}(h:some (PC.draw l kh)=some (strip pc)):pc=.draw l kh\/pc=.drawD l kh:=by cases pc<;>first|(cases h;exact .inl rfl)|(cases h;exact .inr rfl)|cases h
def ajq{a b pc:PC}(h:some (PC.seq a b)=some (strip pc)):∃a' b',pc=.seq a' b'/\a=strip a'/\b=strip b':=by
 cases pc<;>first|(cases h;exact⟨_,_,rfl,rfl,rfl⟩)|cases h
def aeZ{x:Operand}{a b pc:PC}(h:some (PC.cond x a b)=some (strip pc)):∃a' b',pc=.cond x a' b'/\a=strip a'/\b=strip b':=by
 cases pc<;>first|(cases h;exact⟨_,_,rfl,rfl,rfl⟩)|cases h
def acm{id:Nat}{b pc:PC}(h:some (PC.block id b)=some (strip pc)):∃b',pc=.block id b'/\b=strip b':=by
 cases pc<;>first|(cases h;exact⟨_,rfl,rfl⟩)|cases h
def afB{b pc:PC}(h:some (PC.loop [] b)=some (strip pc)):∃live b',pc=.loop live b'/\b=strip b':=by
 cases pc<;>first|(cases h;exact⟨_,_,rfl,rfl⟩)|cases h
def Ti{a b:PC}(h:dm (.seq a b)=true):dm a=true/\dm b=true:=by
 have h:(match dm a with|true=>dm b|false=>false)=true:=h
 grind
def MU{c:Operand}{a b:PC}(h:dm (.cond c a b)=true):dm a=true/\dm b=true:=by
 have h:(match dm a with|true=>dm b|false=>false)=true:=h
 grind
def awk{r:QK}{n:Nat}(J:∀j,j<n->r[j]?=some j):∀x:AV,x.Nm (λi=>i<n)->Ren r x x:=by
 intro x;refine AV.rec (motive_1:=λx=>x.Nm (λi=>i<n)->Ren r x x) (motive_2:=λl=>AV.oD (λi=>i<n) l->gI r l l) ?_ ?_ ?_ ?_ ?_ ?_ ?_ ?_ ?_ ?_ x
 ·intro _;rfl
 ·intro y _;rfl
 ·intro i h;simp only[AV.Nm]at h;simp only[Ren];grind
 ·intro i k o h;simp only[AV.Nm]at h;simp only[Ren];grind
 ·intro i a b c h;simp only[AV.Nm]at h;simp only[Ren];grind
 ·intro cs ih h;simp only[AV.Nm]at h;simp only[Ren];grind
 ·intro cs ih h;simp only[AV.Nm]at h;simp only[Ren];grind
 ·intro f cs ih h;simp only[AV.Nm]at h;simp only[Ren];grind
 ·intro _;rfl
 ·intro y ys U H h;simp only[AV.oD]at h;simp only[gI];grind
def QG(hgh:∀x v,cx.gh x v->x.Nm λi=>i<cx.wK.length){pin:QK}(HC:adM pin cx)(J:Rel cx env Z vals a w)(qs:QK){K:Env->ax->Prop}(h:gc pin env Z qs K):∃aB σ' ay,K aB σ'/\Rel cx aB σ' ay a w:=by
 have h:=Tw _ _ _ h;obtain⟨l,h,hl,FK⟩:=M4 _ _ _ (by rw[HC.1];grind) h;obtain⟨r,h,hn,Xm⟩:=xf _ _ _ _ hl h;obtain⟨aB,h,he⟩:=Ni _ _ _ h;obtain⟨σ',h,U,H⟩:=xF _ _ _ _ h;obtain⟨ay,hA,BF,b_⟩:=Yg HC (FK.trans Xm) hn U H J.s;have hid:∀j,j<cx.wK.length->r[j]?=some j:=λj hj=>by
  obtain⟨t,rfl⟩:=FK.trans Xm;rw[zar (by rw[HC.1];grind),HC.1,zbD hj]
 refine⟨_,_,_,h,BF,λp=>?_,J.defers,λx v hq=>Ren.ra hA b_ _ _ _ (awk hid x (hgh x v hq)) (J.gh x v hq),J.lo⟩;have F:=DZ env qs p;have hp:=he p;have hv:RA (Ok cx Z vals w) Z vals w (aA p (qs.map λp=>(p,aA p env))) (a.tmps.getD p undef):=by
  rcases F with F|F
  ·rw[F];exact J.env p
  ·rw[F];trivial
 exact Ren.ra hA b_ _ _ _ hp hv
def Cx.all(cx:Cx)(Z:ax)(vals:XS):Cx:={ cx with wK:=Z,NF:=vals }
def asJ(J:Rel cx env Z vals a w):Rel (cx.all Z vals) env Z vals a w:=
 ⟨⟨J.s.below,J.s.one,J.s.len,J.s.lW,J.s.Cb,⟨J.s.fr.size,J.s.fr.same,J.s.fr.sy⟩,⟨λ_ _ h=>h,zai _,λ_ _ _ _ _ _ h=>⟨_,_,h⟩,λ_ _ _ h H=>⟨_,h,H⟩⟩⟩,J.env,J.defers,J.gh,J.lo⟩
def akf{σ0:ax}{cb:XS}(h0:Pin cx σ0 cb)(J:Rel (cx.all σ0 cb) env Z vals a w):Rel cx env Z vals a w:=by
 refine⟨⟨J.s.below,J.s.one,J.s.len,J.s.lW,J.s.Cb,⟨J.s.fr.size,J.s.fr.same,J.s.fr.sy⟩,⟨λi v h=>J.s.pin.vs i v (h0.vs i v h),zam h0.len J.s.pin.len,λi W e sz ap aw h=>?_,λi W s h I=>?_⟩⟩,J.env,J.defers,J.gh,J.lo⟩
 ·obtain⟨ap',els',U⟩:=J.s.pin.wG i (zae W h0.len) e sz ap aw h;exact h0.wG i W e sz ap' els' U
 ·obtain⟨s',U,H⟩:=J.s.pin.wH i (zae W h0.len) s h I;exact h0.wH i W s' U H
def WD{cx:Cx}{env:Env}{Z:ax}{vals:XS}{a:Act}{w:World}(h:Rel cx env Z vals a w):Rel cx env Z vals a { w with drawn:=w.drawn+1 }:=apY h
section range
variable {P:Program}
def Cx.round(cx:Cx)(hi:World)(X:Nat->Prop)(gh:AV->Value->Prop):Cx:=
 { cx with
  w1:=hi
  keep:=λb=>b<hi.heap.size∧¬X b
  E:=λb I=>I.1
  defers:=[]
  gh:=gh }
def Cx.atC(cx:Cx)(w:World)(dV:Nat->Prop)(hI:∀b,dV b\/cx.keep b->b<w.heap.size):Cx:=
 { cx with w1:=w,keep:=λb=>dV b\/cx.keep b,E:=hI }
def aff{K:Env->ax->Prop}(l m:Od):HV Γ K (l++m)=HV Γ (HV Γ K m) l:=by
 induction l with
 |nil=>rfl
 |cons o l ih=>
  funext env Z;rw[zbe,lG,lG,ih]
def ajA(hΓ:Sound P Γ):∀(c:Code) (l:Od),WM P n c=some l→∀(hc:Fence) (m:Nat) (cx:Cx) (K:Env->ax->Prop) (env:Env) (Z:ax) (vals:XS) (a:Act) (w:World),Ta hc->cx.P=P->cx.lo=0->a.tmps.size=n->Rel cx env Z vals a w->HV Γ K l env Z->
 c.wpIn hc m P (λe a' w'=>e=.normal∧∃aB σ' ay,a'.tmps.size=n/\Rel cx aB σ' ay a' w'/\K aB σ') a w:=by
 intro c
 induction c with
 |region id ops draw=>
  intro l hl hc m cx K env Z vals a w hF hP A6 hn J h;subst hP;cases draw with
  |true=>cases hl
  |false=>
   obtain⟨hlen,U,_⟩:=uI (show Ae (w_ cx.P false ops n) ops.toList=some l from hl) ⟨none,none,.nilS 0⟩;refine wpIn_region (WY hΓ U (K:=K) hF (λi W d hd=>V) (λaB σ' ay a' w' HN eI Y=>⟨rfl,_,_,_,HN,eI,Y⟩) _ env Z vals a w (λi W=>zbp.1 W) hn J ?_);rw[<-hlen,GO];exact h
 |seq x y ihx ihy=>
  intro l hl hc m cx K env Z vals a w hF hP A6 hn J h;obtain⟨l1,e1,hl⟩:=aR (show opt (WM P n x) (λa=>opt (WM P n y) λb=>some (a++b))=some l from hl);obtain⟨l2,e2,hl⟩:=aR hl;cases hl;rw[aff]at h;refine wpIn_seq (wpIn_mono (ihx l1 e1 hc m cx _ env Z vals a w hF hP A6 hn J h) ?_);rintro e a' w' ⟨rfl,aB,σ',ay,HN,eI,h'⟩;exact ihy l2 e2 hc m cx K aB σ' ay a' w' hF hP A6 HN eI h'
 |_=>intro l hl;cases hl
def amc{cx1:Cx}{σ0:ax}{cb:XS}{Z:ax}{vals:XS}(h0:Pin cx σ0 cb)(h:Pin { cx1 with wK:=σ0,NF:=cb } Z vals):Pin cx Z vals:=by
 refine⟨λi v g=>h.vs i v (h0.vs i v g),zam h0.len h.len,λi W e sz ap aw g=>?_,λi W s g I=>?_⟩
 ·obtain⟨ap',els',U⟩:=h.wG i (zae W h0.len) e sz ap aw g;exact h0.wG i W e sz ap' els' U
 ·obtain⟨s',U,H⟩:=h.wH i (zae W h0.len) s g I;exact h0.wH i W s' U H
def aaR{pin:QK}{C:Cx->Prop}(hW:anB P pin C)(hΓ:Sound P Γ){m:Nat}(U:1<=m){cx:Cx}(hC:C cx)(hP:cx.P=P){f:Operand}{pa:Array Tmp}{asg body:Code}{l:Od}{pb:PC}(hl:WM P n asg=some l)(VD:∀p∈pa.toList,p<n){Q:Ex->Env->ax->Prop}
 (BG:∀(cx':Cx) (_:cx'.lo=0) (hc:Fence) (k:Nat) (Q:Ex->Env->ax->Prop) (env:Env) (Z:ax) (vals:XS) (a:Act) (w:World),Ta hc->cx'.P=P->a.tmps.size=n->Rel cx' env Z vals a w->(∀e,tZ (Q e))->vc Γ pin ps pb Q env Z->body.wpIn hc k P (akn (· =cx') n Q) a w)
 {env:Env} {Z:ax} {vals:XS} {a:Act} {w:World} (hn:a.tmps.size=n) (J:Rel cx env Z vals a w) (h:ZC Γ pin ps pa.toList l (vc Γ pin ps pb) Q (bD env f) env Z):
 (Code.rangeFunc f pa asg body).wpIn Fence.wide m P (akn C n Q) a w:=by
 have hf:=J.ev f
 revert hf h
 cases bD env f with
 |pv x=>
  cases x with
  |clo g ep=>
   rintro⟨L,hb,aA1,avc,hI0,ad_,aqv⟩ hf;simp only[RA,Rd]at hf;obtain⟨cv,hfv,aA2⟩:=hf;obtain⟨⟨α,yl,en,hye,axO⟩,eg⟩:=(hΓ g).2.2.2.1 (m-1) w (Ok cx Z vals w) ep cv L (λb I=>I.2.1) aA2 aA1;have hIb:∀b,Ok cx Z vals w b\/cx.keep b->b<w.heap.size:=λb I=>by
    rcases I with I|I
    ·exact I.2.1
    ·exact zae (cx.E b I) J.s.fr.size
   let cxL:=(cx.all Z vals).atC w (Ok cx Z vals w) hIb
   have atW:=hW.gh cx hC;have hrL:Rel cxL env Z vals a w:=by
    refine⟨⟨J.s.below,J.s.one,J.s.len,J.s.lW,J.s.Cb,⟨zai _,λ_ _=>rfl,λb hm I=>?_⟩,⟨λ_ _ h=>h,zai _,λ_ _ _ _ _ _ h=>⟨_,_,h⟩,λ_ _ _ h H=>⟨_,h,H⟩⟩⟩,J.env,J.defers,λx v hg=>absurd hg (atW x v),J.lo⟩;rcases I with I|I
    ·exact I.2.2 hm
    ·exact J.s.fr.sy b hm I
   let I':List α->(Nat->Prop)->World->Prop:=λpre X hi=>∃σ' ay,(U0 σ'=true/\hb (pre.map yl) σ')/\(∀b,X b↔Fo σ' ay b)/\Rel cxL env σ' ay a hi
   let Ix':Code->List α->World->Prop:=λc pre hi=>match c with
    | .ret=>∃σ' ay,(U0 σ'=true/\(pre.map yl<+:L->Q .ret env σ'))/\Rel cxL env σ' ay a hi
    | .exit i=>∃σ' ay,(U0 σ'=true/\(pre.map yl<+:L->Q (.exit i) env σ'))/\Rel cxL env σ' ay a hi
    |_=>False
   have jH:∀{A:World} {row:Option Nat},(∀r,row=some r->w.heap.size<=r∧∃o:Obj,A.heap[r]?=some o/\o.isCells=false)→∀r,row=some r->cxL.own r/\cxL.w1.heap.size<=r∧∃o:Obj,A.heap[r]?=some o/\o.isCells=false:=
    λeI r e=>⟨cx.cj _ (zam J.s.below.size (eI r e).1),(eI r e).1,(eI r e).2⟩
   have hI':∀X,OwnFrom w.heap.size λpre=>I' pre X:=by
    rintro X pre A B row ⟨σ',ay,H,hX,h3⟩ hg hrw;exact⟨σ',ay,H,hX,ER h3 hg (jH hrw) (.inl H.1)⟩
   have aEO:∀c,OwnFrom w.heap.size (Ix' c):=by
    intro c pre A B row hs hg hrw;cases c<;>first
     |exact hs.elim
     |(obtain⟨σ',ay,H,h3⟩:=hs;exact⟨σ',ay,H,ER h3 hg (jH hrw) (.inl H.1)⟩)
   have aEP:∀{c:Cx} {aB:Env} {σ':ax} {ay:XS} {a':Act} {hi:World},Rel c aB σ' ay a' hi→∀b,Fo σ' ay b->b<hi.heap.size:=λh b hm=>by
    obtain⟨cur,e,fr,F⟩:=KW h.s hm;exact(zao.1 F).1
   have marked:∀(D:Nat) (hi:World) (σ':ax) (ay:XS),w.heap.size<=D->hi.heap[D]?=some (.deferred (some []))->Rel cxL env σ' ay a hi->
    ∃cx2,C cx2/\Rel cx2 env σ' ay { a with defers:={ target:=.collected D,args:= #[] }::a.defers } hi:=by
    intro D hi σ' ay hD Y hR;have aA4:D<hi.heap.size:=(zao.1 Y).1;have hs:cx.w1.heap.size<=hi.heap.size:=zam J.s.fr.size hR.s.fr.size;have ET:Pin cx σ' ay:=amc (cx1:=cxL) J.s.pin hR.s.pin;have ad8:∀b,cx.keep b->hi.heap[b]?=cx.w1.heap[b]?:=λb I=>(hR.s.fr.same b (.inr I)).trans (J.s.fr.same b I)
    refine⟨cx.mark hi D aA4 hs,hW.mark cx hi D aA4 hs hC ad8 (zam J.s.below.size hD) (zam J.s.fr.size hD) Y,?_⟩;refine⟨⟨hR.s.below,hR.s.one,hR.s.len,hR.s.lW,hR.s.Cb,⟨zai _,λ_ _=>rfl,λb hm I=>?_⟩,⟨ET.vs,ET.len,ET.wG,ET.wH⟩⟩,hR.env,?_,λx v hg=>absurd hg (atW x v),hR.lo⟩
    ·rcases I with I|rfl
     ·exact hR.s.fr.sy b hm (.inr I)
     ·obtain⟨cur,e,fr,F⟩:=KW hR.s hm;rw[Y]at F;cases F
    ·show _::a.defers=_::cx.defers;rw[J.defers]
   let t₀:α->Act:=λx=>⟨(pa.toList.zip (en x).toList).foldl (λt p=>t.setIfInBounds p.1 p.2) a.tmps,[]⟩
   have aEQ:∀x:α,(pa.zip (en x)).foldl (λt (p,v)=>t.setIfInBounds p v) a.tmps=(t₀ x).tmps:=by
    intro x;show _=(pa.toList.zip (en x).toList).foldl (λt p=>t.setIfInBounds p.1 p.2) a.tmps;rw[<-Array.foldl_toList];simp
   let ghE:AV->Value->Prop:=λy v=>∃p,y=aA p env/\v=a.tmps.getD p undef
   let cxM:Cx:={ cxL with defers:=[],gh:=ghE }
   have avd:∀{X:Nat->Prop} {aB:Env} {σ':ax} {ay:XS} {a':Act} {hi:World},(∀b,X b↔Fo σ' ay b)->Rel cxM aB σ' ay a' hi->Rel ((cx.all Z vals).round hi X ghE) aB σ' ay a' hi:=by
    intro X aB σ' ay a' hi hX hR;exact⟨⟨hR.s.below,hR.s.one,hR.s.len,hR.s.lW,hR.s.Cb,⟨zai _,λ_ _=>rfl,λb hm I=>I.2 ((hX b).2 hm)⟩,⟨hR.s.pin.vs,hR.s.pin.len,hR.s.pin.wG,hR.s.pin.wH⟩⟩,hR.env,hR.defers,hR.gh,hR.lo⟩
   have aA6:∀{X:Nat->Prop} {σ0:ax} {cb:XS} {σ':ax} {ay:XS} {hi W3:World},(∀b,X b↔Fo σ0 cb b)->bW cxL σ0 cb hi->bW ((cx.all Z vals).round hi X ghE) σ' ay W3->
    KeepsFrom w.heap.size hi W3/\KpX w.heap.size X (Fo σ' ay) hi W3/\bW cxL σ' ay W3:=by
    intro X σ0 cb σ' ay hi W3 hX h0 h3;have aM:∀b,cxL.keep b->b<hi.heap.size:=λb I=>zae (hIb b I) h0.fr.size
    have hnx:∀b,cxL.keep b→¬X b:=λb I T=>h0.fr.sy b ((hX b).1 T) I
    refine⟨⟨h3.fr.size,λk o _ ho hoc=>(h3.fr.same k ⟨(zao.1 ho).1,λT=>?_⟩).trans ho⟩,⟨h3.fr.size,λb I T _=>h3.fr.same b ⟨I,T⟩,λb hm=>?_⟩,?_⟩
    ·obtain⟨cur,e,fr,F⟩:=KW h0 ((hX k).1 T);rw[ho]at F;cases F;cases hoc
    ·apply Classical.byContradiction;intro g;exact h3.fr.sy b hm ⟨V,λT=>g (.inl T)⟩
    ·exact⟨h3.below,h3.one,h3.len,h3.lW,h3.Cb,⟨zam h0.fr.size h3.fr.size,λb I=>(h3.fr.same b ⟨aM b I,hnx b I⟩).trans (h0.fr.same b I),λb hm I=>h3.fr.sy b hm ⟨aM b I,hnx b I⟩⟩,⟨h3.pin.vs,h3.pin.len,h3.pin.wG,h3.pin.wH⟩⟩
   have aER:∀{σ':ax} {ay:XS} {hi:World},bW cxM σ' ay hi->bW cxL σ' ay hi:=λh=>⟨h.below,h.one,h.len,h.lW,h.Cb,⟨h.fr.size,h.fr.same,h.fr.sy⟩,⟨h.pin.vs,h.pin.len,h.pin.wG,h.pin.wH⟩⟩
   have aES:∀{σ':ax} {ay:XS} {hi:World},bW cxL σ' ay hi->bW cxM σ' ay hi:=λh=>⟨h.below,h.one,h.len,h.lW,h.Cb,⟨h.fr.size,h.fr.same,h.fr.sy⟩,⟨h.pin.vs,h.pin.len,h.pin.wG,h.pin.wH⟩⟩
   let M:List α->(Nat->Prop)->α->Act->World->Prop:=λpre X x a' hi=>∃aB σ' ay,a'.tmps.size=n/\(∀b,X b↔Fo σ' ay b)/\Rel cxM aB σ' ay a' hi/\vc Γ pin ps pb (afk (List.range Z.length) ps Q env hb L (pre.map yl++[yl x])) aB σ'
   refine agi (n:=m) U (gf:=g) (lb:=cv) hfv (λargs w=>eg args w) axO (λx=>by
    have e1:=((oN _ _).1 (hye x).2).1;have e2:=avc _ (hye x).1;simp only[zac]at e1 e2;omega)
    I' Ix' hI' aEO (λpre X hi ⟨σ',ay,_,hX,h3⟩ b I=>aEP h3 b ((hX b).1 I)) (X0:=Fo Z vals) (λb I=>I.2.2) ⟨Z,vals,hI0,λ_=>Iff.rfl,hrL⟩ M ?keep ?assign ?body ?done ?stop
   case keep=>
    rintro pre X x a' hi j r r' hj hr0 ⟨aB,σ',ay,H,hX,h3,h4⟩;exact⟨aB,σ',ay,H,hX,ER h3 (grownBy_putObj' hi j (.loop r')) (λk e=>by cases e;exact⟨cx.cj _ (zam J.s.below.size hj),hj,_,hr0,rfl⟩) (.inr λk e es n h=>by cases e;rw[hr0]at h;cases h),h4⟩
   case assign=>
    rintro j pre X x hi ⟨σ',ay,⟨_,hI2⟩,hX,hR⟩ hlen;have hRM:Rel cxM env σ' ay ⟨a.tmps,[]⟩ hi:=by
     refine⟨⟨hR.s.below,hR.s.one,hR.s.len,hR.s.lW,hR.s.Cb,⟨hR.s.fr.size,hR.s.fr.same,hR.s.fr.sy⟩,⟨hR.s.pin.vs,hR.s.pin.len,hR.s.pin.wG,hR.s.pin.wH⟩⟩,hR.env,rfl,?_,hR.lo⟩;rintro y v ⟨p,rfl,rfl⟩;exact hR.env p
    have hR':=avd hX hRM;have lf:cz (Ok ((cx.all Z vals).round hi X ghE) σ' ay hi) hi (yl x) (en x).toList:=by
     refine cz.e_ (λb I=>⟨I.1,zae (hIb b (.inl I)) hR.s.fr.size,λhm=>hR.s.fr.sy b hm (.inl I)⟩) (λb o u I F=>?_) _ _ (hye x).2;unfold World.cell? at F ⊢;rw[hR.s.fr.same b (.inl I)];exact F
    obtain⟨VI,hv1,hR1,hn1⟩:=anD (cx:=(cx.all Z vals).round hi X ghE) (n:=n) (hW.lo cx hC) _ pa.toList (yl x) _ env a.tmps [] (avc _ (hye x).1) lf VD hn hR' (ad_ _ (yl x) σ' (hye x).1 (by rw[zaw];exact hlen) hI2);rw[aEQ x];refine wpIn_mono (ajA hΓ asg l hl _ _ ((cx.all Z vals).round hi X ghE) _ VI σ' ay (t₀ x) hi (.inr ⟨j,rfl⟩) hP (hW.lo cx hC) hn1 hR1 hv1) ?_;rintro e a2 W2 ⟨rfl,D_,σ2,eH,hn2,hR2,HL⟩;obtain⟨b1,b2,b3⟩:=aA6 hX hR.s hR2.s;exact⟨b1,_,b2,D_,σ2,eH,hn2,λ_=>Iff.rfl,⟨aES b3,hR2.env,hR2.defers,hR2.gh,hR2.lo⟩,HL⟩
   case body=>
    rintro j pre X x a2 hi ⟨D_,σ2,eH,hn2,hX,hRM,HL⟩;have hR2:=avd hX hRM;have xK:∀e,tZ (afk (List.range Z.length) ps Q env hb L (pre.map yl++[yl x]) e):=by
     intro e env aB Z _;cases e<;>rfl
    refine wpIn_mono (BG ((cx.all Z vals).round hi X ghE) (hW.lo cx hC) _ _ _ D_ σ2 eH a2 hi (.inr ⟨j,rfl⟩) hP hn2 hR2 xK HL) ?_
    let cxR:Cx:={ (cx.all Z vals).round hi X ghE with defers:=cx.defers,gh:=cx.gh }
    have back:∀(Uf:Env) (σ3:ax) (pO:XS) (a3:Act) (W3:World),Rel ((cx.all Z vals).round hi X ghE) Uf σ3 pO a3 W3->Rel cxR env σ3 pO a W3:=by
     intro Uf σ3 pO a3 W3 h3;exact⟨⟨h3.s.below,h3.s.one,h3.s.len,h3.s.lW,h3.s.Cb,⟨h3.s.fr.size,h3.s.fr.same,h3.s.fr.sy⟩,⟨h3.s.pin.vs,h3.s.pin.len,h3.s.pin.wG,h3.s.pin.wH⟩⟩,λp=>h3.gh _ _ ⟨p,rfl,rfl⟩,J.defers,λx v hg=>absurd hg (atW x v),J.lo⟩
    have out:∀(σ3:ax) (pO:XS) (W3:World),Rel cxR env σ3 pO a W3->KeepsFrom w.heap.size hi W3/\KpX w.heap.size X (Fo σ3 pO) hi W3/\Rel cxL env σ3 pO a W3:=by
     intro σ3 pO W3 h;obtain⟨b1,b2,b3⟩:=aA6 (W3:=W3) hX (aER hRM.s) ⟨h.s.below,h.s.one,h.s.len,h.s.lW,h.s.Cb,⟨h.s.fr.size,h.s.fr.same,h.s.fr.sy⟩,⟨h.s.pin.vs,h.s.pin.len,h.s.pin.wG,h.s.pin.wH⟩⟩;exact⟨b1,b2,b3,h.env,h.defers,h.gh,h.lo⟩
    intro e a3 W3 hp;cases e with
    |normal=>
     obtain⟨cx3,Uf,σ3,pO,rfl,_,h3,h4⟩:=hp;obtain⟨aEU,σ4,ave,⟨rfl,g1,g2⟩,g3⟩:=QG (cx:=cxR) (λx v hg=>absurd hg (atW x v)) (pin:=List.range Z.length) ⟨rfl,J.s.len⟩ (back _ _ _ _ _ h3) _ h4;obtain⟨b1,b2,b3⟩:=out _ _ _ g3;exact⟨b1,_,b2,σ4,ave,⟨g1,by rw[zaY];exact g2⟩,λ_=>Iff.rfl,b3⟩
    |exit i=>
     obtain⟨_,Uf,σ3,pO,rfl,_,h3,h4⟩:=hp;obtain⟨b1,_,b3⟩:=out _ _ _ (back _ _ _ _ _ h3);exact⟨b1,σ3,pO,by rw[zaY];exact h4,b3⟩
    |ret=>
     obtain⟨_,Uf,σ3,pO,rfl,_,h3,h4⟩:=hp;obtain⟨b1,_,b3⟩:=out _ _ _ (back _ _ _ _ _ h3);exact⟨b1,σ3,pO,by rw[zaY];exact h4,b3⟩
    |_=>exact hp.elim
   case done=>
    rintro D xs X hi hD hS ⟨σ',ay,⟨_,hI2⟩,_,hR⟩ Y;obtain⟨cx2,hC2,hR2⟩:=marked D hi σ' ay hD Y hR;rw[hS]at hI2;exact⟨cx2,env,σ',ay,hC2,hn,hR2,aqv σ' hI2⟩
   case stop=>
    intro D c pre hi hD hSp T Y;cases c with
    |ret=>
     obtain⟨σ',ay,hq,hR⟩:=T;obtain⟨cx2,hC2,hR2⟩:=marked D hi σ' ay hD Y hR;exact wpIn_ret ⟨cx2,env,σ',ay,hC2,hn,hR2,hq.2 hSp⟩
    |exit i=>
     obtain⟨σ',ay,hq,hR⟩:=T;obtain⟨cx2,hC2,hR2⟩:=marked D hi σ' ay hD Y hR;exact wpIn_exit ⟨cx2,env,σ',ay,hC2,hn,hR2,hq.2 hSp⟩
    |_=>exact T.elim
  |_=>intro h;exact h.elim
 |_=>intro h;exact h.elim
end range
def geO(lo:Nat)(o:PO):Bool:=match o.dst with|none=>true|some d=>Nat.ble lo d
def geL(lo:Nat)(l:Od):Bool:=List.rec true (λo _ ih=>match geO lo o with|true=>ih|false=>false) l
def geC(lo:Nat)(c:PC):Bool:=
 PC.rec true (λl=>geL lo l) (λl _=>geL lo l) (λl _=>geL lo l) (λ_ _ a b=>match a with|true=>b|false=>false) (λ_ _ _ a b=>match a with|true=>b|false=>false) (λ_ _ b=>b) (λ_ _ _=>false) (λ_ _ _ _ _=>false) (λ_=>true) true c
def aml{lo:Nat}{a b:PC}(h:geC lo (.seq a b)=true):geC lo a=true/\geC lo b=true:=by
 have h:(match geC lo a with|true=>geC lo b|false=>false)=true:=h
 grind
def ahd{lo:Nat}{c:Operand}{a b:PC}(h:geC lo (.cond c a b)=true):geC lo a=true/\geC lo b=true:=by
 have h:(match geC lo a with|true=>geC lo b|false=>false)=true:=h
 grind
def arC{lo:Nat}:∀{l:Od},geL lo l=true→∀o∈l,∀d,o.dst=some d->lo<=d:=by
 intro l
 induction l with
 |nil=>simp
 |cons p l ih=>
  intro h o ho d hd;have h:(match geO lo p with|true=>geL lo l|false=>false)=true:=h;cases hp:geO lo p with
  |false=>grind
  |true=>
   rcases zax.1 ho with rfl|ho
   ·unfold geO at hp
    simp_all
   grind
def afH{cx:Cx}{ops:Array Oper}{l:Od}(h:cx.lo=0∨∃lo,cx.lo<=lo/\geL lo l=true)(hl:l.length=ops.size):∀i,i<ops.size→∀d,(l.getD i ⟨none,none,.nilS 0⟩).dst=some d->cx.lo<=d:=by
 intro i W d hd;rcases h with h|⟨lo,U,H⟩
 ·omega
 ·refine zam U (arC H _ ?_ d hd)
  grind
def aef{f:Operand}{qs:QK}{l:Od}{b pc:PC}(h:some (PC.rangeF f qs l b)=some (strip pc)):∃b',pc=.rangeF f qs l b'/\b=strip b':=by
 cases pc<;>first|(cases h;exact⟨_,rfl,rfl⟩)|cases h
def arT{P:Program}(hΓ:Sound P Γ){ops:Array Oper}{l:Od}{kh:List (QK)}(hl:l.length=ops.size)(axQ:kh=ops.toList.map λo=>(o.after.toList.filter λe=>Region.binds .any e).map (·.on))
 (h:WZ Γ l kh=true) (d:PO) {env:Env} {Z:ax} {Q:Env->ax->Prop} (hv:vcD Γ (λlog aB σ'=>awN Γ l kh Z.length log=true/\Q aB σ') l [] env Z):
 ∃hk S R,hk 0=env/\S 0=Z/\Q (hk ops.size) (S ops.size)/\za Γ ops (λi=>l.getD i d) (λi=>kh.getD i []) (λi=>(aps kh).getD i []) hk S R:=by
 unfold WZ at h;simp only[zaT]at h;obtain⟨⟨h0,U⟩,H⟩:=h;obtain⟨hk,S,R,e1,e2,⟨e3,e4⟩,e5⟩:=anQ hΓ d l [] env Z (λo ho=>zbr.1 H o ho) hv;have hlen:kh.length=ops.size:=by rw[axQ];simp
 have get:∀(i:Nat) (o:Oper),ops[i]?=some o->kh.getD i []=(o.after.toList.filter λe=>Region.binds .any e).map (·.on):=by
  intro i o ho;rw[axQ];simp[zbu,ho]
 have row:∀i,i<ops.size->kh[i]?=some (kh.getD i []):=by
  intro i W;rw[zbu,zah V];rfl
 have alm:∀i,i<ops.size->l[i]?=some (l.getD i d):=by
  intro i W;rw[zbu,zah V];rfl
 unfold ahH at U;have lg:∀i,i<ops.size->((((List.range l.length).map λi=>entry (l.getD i d) (hk i) (S i) (hk (i+1)) (S (i+1))).reverse++[]).reverse).getD i (0,[],[])=entry (l.getD i d) (hk i) (S i) (hk (i+1)) (S (i+1)):=by
  intro i W;rw[zbg,List.reverse_reverse,zbu,zaD,zbD V];rfl
 unfold awN at e3;have ln:∀i,i<=ops.size->azl Z.length (((List.range l.length).map λi=>entry (l.getD i d) (hk i) (S i) (hk (i+1)) (S (i+1))).reverse++[]).reverse i=(S i).length:=by
  intro i W;cases i with
  |zero=>rw[e2];rfl
  |succ i=>exact congrArg Prod.fst (lg i V)
 have vi:∀i,i<ops.size→∀dd,(l.getD i d).dst=some dd->(entry (l.getD i d) (hk i) (S i) (hk (i+1)) (S (i+1))).2.2=(R i).v.ids:=by
  intro i W dd hd;show(match (l.getD i d).dst with|some d=>(aaW d (hk (i+1))).ids|none=>[])=_;rw[hd];simp only;rw[ag9,(e5 i V).he,hd,gU,zbU];rfl
 rw[hl]at e4;refine⟨hk,S,R,e1,e2,e4,λi o ho j hj=>?_,λi o ho e he I=>?_,λi W j hj=>?_,λi W j hj=>?_,λi W=>e5 i V,λi W dd hd x T=>?_,λi j W hj=>?_⟩
 ·rw[get i o ho]at hj;obtain⟨e,he,rfl⟩:=zaX.1 hj;obtain⟨h3,h4⟩:=zbq.1 he;exact⟨e,by simpa using h3,h4,rfl⟩
 ·rw[get i o ho];exact zaX.2 ⟨e,zbq.2 ⟨by simpa using he,I⟩,rfl⟩
 ·have:=ka kh _ U i _ (row i W);simp only[zaT,zbr]at this;exact za4 (this.1 j hj)
 ·have:=ka kh _ U i _ (row i W);simp only[zaT,zbr,zbF,List.any_eq_true]at this;rcases this.2 j hj with h3|⟨e,h3,h4⟩
  ·exact .inl (zbz.1 h3)
  ·exact .inr ⟨e,h3,zbz.1 h4⟩
 ·have:=ka l _ e3 i _ (alm i W);simp only[zaT]at this;have:=this.1;unfold azA at this;have:=zbr.1 this x (by rw[lg i W,vi i W dd hd];exact T);rw[ln (i+1) W]at this;exact za4 this
 ·have:=ka l _ e3 i _ (alm i W);simp only[zaT]at this;have:=ka l _ this.2 j _ (alm j V);simp only[zbF,zbv,zaT]at this;rcases this with(h3|h3)|h3
  ·exfalso;have:Nat.blt j i=true:=zbQ hj;rw[this]at h3;cases h3
  ·exact .inl (zbz.1 h3)
  ·obtain⟨⟨⟨⟨⟨c1,c2⟩,c3⟩,c4⟩,c5⟩,c6⟩:=h3;have hn:∀k,k<ops.size→∀m,ar_ (S k).length (S (k+1)).length m=true→∀x∈m,¬((S k).length<=x/\x<(S (k+1)).length):=by
    intro k _ m hm x T;have:=zbr.1 hm x T;simp only[zbF]at this;rcases this with h|h
    ·have:=za4 h;omega
    ·have:=za4 h;omega
   have hap:∀(o:PO) (m1 m2:QK),apart (match o.k.turns Γ with|true=>m1|false=>[]) m2=true→∀x∈m2,¬(o.k.turns Γ=true/\x∈m1):=by
    rintro o m1 m2 hm x T ⟨ht,sB⟩;rw[ht]at hm;have:=zbr.1 hm x sB;rw[zbv]at this;have H:=zbz.2 T;rw[H]at this;cases this
   rw[lg i W,lg j V]at c2 c4;rw[lg i W]at c3 c6;rw[lg j V]at c5;rw[ln j V,ln (j+1) V]at c3 c6;rw[ln i V,ln (i+1) V]at c5;refine .inr ⟨c1,λx T=>⟨hap _ _ _ c2 x T,hn j V _ c3 x T⟩,λx T=>⟨hap _ _ _ c4 x T,hn i W _ c5 x T⟩,λdd hd x T=>?_⟩;rw[vi i W dd hd]at c6;exact hn j V _ c6 x T
def Az{P:Program}{pin:QK}(hΓ:Sound P Γ)(hm:P.follows .mixedOrders=true):∀(c:Code) (pc:PC),eT P n c=some (strip pc)→∀(C:Cx->Prop) (hc:Fence) (m:Nat) (cx:Cx) (Q:Ex->Env->ax->Prop) (env:Env) (Z:ax) (vals:XS) (a:Act) (w:World),
 dm pc=true\/(hc=Fence.wide/\1<=m/\anB P pin C∧∀cx,C cx->cx.P=P)->((∀cx,C cx->cx.lo=0)∨∃lo,(∀cx,C cx->cx.lo<=lo)/\geC lo pc=true)->Ta hc->C cx->(∀cx,C cx->cx.P=P)->(∀e,tZ (Q e))->a.tmps.size=n->Rel cx env Z vals a w->vc Γ pin ps pc Q env Z->c.wpIn hc m P (akn C n Q) a w:=by
 intro c
 induction c with
 |skip=>
  intro pc F C hc m cx Q env Z vals a w _ _ _ hC hP _ hn J h;have F:=afQ F;subst F;exact wpIn_skip ⟨cx,env,Z,vals,hC,hn,J,h⟩
 |region id ops draw=>
  intro pc F C hc m cx Q env Z vals a w _ hG hF hC hP hQ hn J h;have hPc:=hP cx hC;subst hPc;cases draw with
  |false=>
   obtain⟨l,hl,F⟩:=aR (show opt (Ae (w_ cx.P false ops n) ops.toList) (λl=>some (PC.region l))=some (strip pc)from F);have F:=aee F;subst F;obtain⟨aB,h,eI⟩:=EJ J (show canon env ps _ from h);obtain⟨hlen,U,_⟩:=uI hl ⟨none,none,.nilS 0⟩;refine wpIn_region (WY hΓ U (K:=Q .normal) hF (afH (hG.imp (λh=>h cx hC) λ⟨lo,U,H⟩=>⟨lo,U cx hC,H⟩) hlen) (λaB σ' ay a' w' HN eI Y=>⟨cx,aB,σ',ay,hC,HN,eI,Y⟩) _ aB Z vals a w (λi W=>zbp.1 W) hn eI ?_);rw[<-hlen,GO];exact h
  |true=>
   obtain⟨l,hl,F⟩:=aR (show opt (Ae (w_ cx.P true ops n) ops.toList) (λl=>some (PC.draw (l.map PO.plain) (ops.toList.map λo=>(o.after.toList.filter λe=>Region.binds .any e).map (·.on))))=some (strip pc)from F);have F:=aeU F;have hz:∀i,i<ops.size->(Array.replicate ops.size false).getD i true=false:=by
    intro i W;rw[zbo];simp[W]
   have aiH:left ops.size (Array.replicate ops.size false)=List.range ops.size:=by
    unfold left;apply zbT.2;intro i W;rw[hz i (zbp.1 W)];rfl
   rcases F with F|F
   ·subst F;obtain⟨hD,h⟩:=(show LL Γ (l.map PO.plain) _=true/\canon env ps _ from h)
    obtain⟨aB,h,eI⟩:=EJ J h;obtain⟨hlen,_,U⟩:=uI hl ⟨none,none,.nilS 0⟩;have Gv:(l.map PO.plain).length=ops.size:=by simpa using hlen
    refine wpIn_region_any hm ?_;have hz:∀i,i<ops.size->(Array.replicate ops.size false).getD i true=false:=by
     intro i W;rw[zbo];simp[W]
    have aiH:left ops.size (Array.replicate ops.size false)=List.range ops.size:=by
     unfold left;apply zbT.2;intro i W;rw[hz i (zbp.1 W)];rfl
    refine aeW hΓ U (apj Gv rfl hD ⟨none,none,.nilS 0⟩) (hQ .normal) hF (afH (hG.imp (λh=>h cx hC) λ⟨lo,U,H⟩=>⟨lo,U cx hC,H⟩) Gv) (λaB σ' ay a' w' HN eI Y=>⟨cx,aB,σ',ay,hC,HN,eI,Y⟩) _ _ aB Z vals a _ ab ?_ ?_ hn (WD eI) ?_
    ·rw[aiH];simp
    ·intro i W T5;rw[zbo]at T5;simp[W]at T5
    ·rw[aiH,<-Gv,GO];exact h
   ·subst F;obtain⟨hD,h⟩:=(show WZ Γ (l.map PO.plain) _=true/\canon env ps _ from h)
    obtain⟨VI,h,wL⟩:=EJ J h;obtain⟨aB,σ2,h,eI⟩:=arn wL h;obtain⟨hlen,_,U⟩:=uI hl ⟨none,none,.nilS 0⟩;have Gv:(l.map PO.plain).length=ops.size:=by simpa using hlen
    obtain⟨hk,S,R,e1,e2,e3,hDy⟩:=arT hΓ Gv rfl hD ⟨none,none,.nilS 0⟩ h;refine wpIn_region_any hm ?_;have hS0:(S 0).length<=(S ops.size).length:=by have:=hDy.V8 (i:=0) ops.size V;rwa[zaU]at this
    obtain⟨eH,tT⟩:=aj0 (WD eI) ((S ops.size).length-σ2.length);rw[e2]at hS0;have rnm:∀(av:AV) (v:Value),RA (Ok cx σ2 vals w) σ2 vals w av v->av.Nm λi=>i<σ2.length:=λav v h=>ap4 (λi W=>by rw[<-eI.s.len];exact W) (λi W=>W) av v h
    refine aks hΓ U hDy (hQ .normal) e3 ?_ ?_ hF (afH (hG.imp (λh=>h cx hC) λ⟨lo,U,H⟩=>⟨lo,U cx hC,H⟩) Gv) (λaB σ' ay a' w' HN eI Y=>⟨cx,aB,σ',ay,hC,HN,eI,Y⟩) ops.size (Array.replicate ops.size false) aB (σ2++List.replicate ((S ops.size).length-σ2.length) .dead) eH a { w with drawn:=w.drawn+1 } ab (by rw[aiH];simp) ?_ hn tT ?_
    ·intro j hj;rw[e2];rcases hj with hj|hj
     ·exact zae hj eI.s.pin.len
     ·have:=eI.s.pin.vs j _ (zah hj);rw[<-eI.s.len];exact(zaa.1 this).1
    ·intro x v hq;rw[e2];exact rnm x v (eI.gh x v hq)
    ·intro i W T5;rw[zbo]at T5;simp[W]at T5
    ·have rk:∀p,(Array.replicate ops.size false).getD p false=false:=by
      intro p;rw[zbo];simp only[Array.getElem?_replicate];split<;>rfl
     have A9:∀x,x<σ2.length->x<(S ops.size).length∧∀p,p<ops.size->(Array.replicate ops.size false).getD p false=false→¬((S p).length<=x/\x<(S (p+1)).length):=by
      intro x T;refine⟨V,λp hp _ h=>?_⟩;have:=hDy.V8 (i:=0) p V;rw[zaU,e2]at this;omega
     refine⟨aH,λt m hm' F=>?_,λj m hj hm' F=>?_,λt=>il A9 _ (rnm _ _ (eI.env t)),λb I=>?_⟩
     ·have:=hDy.Wb t (m:=0) m V λp _ hp hpd=>by
       have:=(F p V hpd).1 V;rw[rk p]at this;cases this
      rw[zaU,e1]at this;exact this.symm
     ·have:=hDy.Xd j (m:=0) m V λp _ hp hpM=>by
       have:=(F p V hpM).1 V;rw[rk p]at this;cases this
      rw[zaU,e2]at this;rw[this];by_cases aM:j<σ2.length
      ·rw[zar aM,zah aM];rfl
      ·rw[zak V,zaM (l:=σ2) V,List.getElem?_replicate,if_pos V];rfl
     ·rcases zaA.1 I with I|I
      ·cases b with
       |box e cs=>
        obtain⟨j,hj⟩:=zaG.1 I;have xJ:j<vals.length:=by rw[eI.s.len];exact(zaa.1 hj).1
        obtain⟨_,arr,_,_,_,_,g5⟩:=eI.s.lW j _ _ hj (zah xJ);exact rE A9 _ (P_ (λi W=>by rw[<-eI.s.len];exact W) (λi W=>W) cs _ g5)
       |_=>trivial
      ·rw[zbt I];trivial
 |seq x y ihx ihy=>
  intro pc F C hc m cx Q env Z vals a w hS hG hF hC hP hQ hn J h;obtain⟨px,T,F⟩:=aR (show opt (eT P n x) (λa=>opt (eT P n y) λb=>some (PC.seq a b))=some (strip pc)from F);obtain⟨py,hy,F⟩:=aR F;obtain⟨px,py,rfl,rfl,rfl⟩:=ajq F;refine wpIn_seq (wpIn_mono (ihx px T C hc m cx (arW (vc Γ pin ps py Q) Q) env Z vals a w (hS.imp_left λh=>(Ti h).1) (hG.imp_right λ⟨lo,U,H⟩=>⟨lo,U,(aml H).1⟩) hF hC hP (EI (atx Γ pin ps py Q hQ) hQ) hn J h) ?_);intro e a' w' hp;cases e with
  |normal=>
   obtain⟨cx',aB,σ',ay,hC',HN,eI,h'⟩:=hp;exact ihy py hy C hc m cx' Q aB σ' ay a' w' (hS.imp_left λh=>(Ti h).2) (hG.imp_right λ⟨lo,U,H⟩=>⟨lo,U,(aml H).2⟩) hF hC' hP hQ HN eI h'
  |exit i=>exact hp
  |ret=>exact hp
  |_=>exact hp
 |cond c x y ihx ihy=>
  intro pc F C hc m cx Q env Z vals a w hS hG hF hC hP hQ hn J h;obtain⟨px,T,F⟩:=aR (show opt (eT P n x) (λa=>opt (eT P n y) λb=>some (PC.cond c a b))=some (strip pc)from F);obtain⟨py,hy,F⟩:=aR F;obtain⟨px,py,rfl,rfl,rfl⟩:=aeZ F;have h:=aN _ _ _ (show ev env c _ from h);have he:=J.ev c
  revert h he
  cases bD env c with
  |pv v=>cases v with
   |bool b=>
    intro h he;simp only[RA,Rd]at he;cases b with
    |true=>exact wpIn_cond_true he (ihx px T C hc m cx Q env Z vals a w (hS.imp_left λh=>(MU h).1) (hG.imp_right λ⟨lo,U,H⟩=>⟨lo,U,(ahd H).1⟩) hF hC hP hQ hn J h)
    |false=>exact wpIn_cond_false he (ihy py hy C hc m cx Q env Z vals a w (hS.imp_left λh=>(MU h).2) (hG.imp_right λ⟨lo,U,H⟩=>⟨lo,U,(ahd H).2⟩) hF hC hP hQ hn J h)
   |_=>intro h;exact h.elim
  |_=>intro h;exact h.elim
 |block id b ih=>
  intro pc F C hc m cx Q env Z vals a w hS hG hF hC hP hQ hn J h;obtain⟨pb,I,F⟩:=aR (show opt (eT P n b) (λb=>some (PC.block id b))=some (strip pc)from F);obtain⟨pb,rfl,rfl⟩:=acm F;refine wpIn_block (wpIn_mono (ih pb I C hc m cx (agq id Q) env Z vals a w hS hG hF hC hP (MR hQ) hn J h) ?_);intro e a' w' hp;cases e with
  |normal=>exact hp
  |exit i=>
   obtain⟨cx',aB,σ',ay,hC',HN,eI,h'⟩:=hp;have h':(match Nat.beq i id with|true=>Q .normal aB σ'|false=>Q (.exit i) aB σ'):=h';show(if i=id then akn C n Q .normal a' w' else akn C n Q (.exit i) a' w');cases I:Nat.beq i id with
   |true=>
    rw[I]at h';rw[if_pos (zab I)];exact⟨cx',aB,σ',ay,hC',HN,eI,h'⟩
   |false=>
    rw[I]at h';rw[if_neg (λe=>by subst e;simp at I)];exact⟨cx',aB,σ',ay,hC',HN,eI,h'⟩
  |ret=>exact hp
  |_=>exact hp
 |loop b ih=>
  intro pc F C hc m0 cx Q env Z vals a w hS hG hF hC hP hQ hn J h;obtain⟨pb,I,F⟩:=aR (show opt (eT P n b) (λb=>some (PC.loop [] b))=some (strip pc)from F);obtain⟨live,pb,rfl,rfl⟩:=afB F;have h:(match isK live with|true=>(match dm pb with|true=>ail live.tail (vc Γ pin ps pb) Q (List.range Z.length) env Z|false=>False)|false=>gc pin env Z live λenv Z=>YA pin live (vc Γ pin ps pb) Q env Z):=h;cases hkl:isK live with
  |true=>
   rw[hkl]at h;cases hsb:dm pb with
   |false=>rw[hsb]at h;exact h.elim
   |true=>
   rw[hsb]at h;have aEW:cx.lo=0:=by
    rcases hG with hG|⟨lo,_,H⟩
    ·exact hG cx hC
    ·cases H
   have avg:adM (List.range Z.length) (cx.all Z vals):=⟨rfl,J.s.len⟩
   have aA9:∀x v,(cx.all Z vals).gh x v->x.Nm λi=>i<(cx.all Z vals).wK.length:=λx v hq=>ap4 (λi W=>by show i<Z.length;rw[<-J.s.len];exact W) (λi W=>W) x v (J.gh x v hq)
   have ET:=J.s.pin;obtain⟨aB,σ',ay,h,eI⟩:=QG aA9 avg (asJ J) live.tail h;obtain⟨hb,m,hI,ad_⟩:=h;refine wpIn_mono (Q:=akn (· =cx.all Z vals) n Q) ?_ ?_
   ·let hr:Nat->Act->World->Prop:=λm a w=>∃env σ' ay,a.tmps.size=n/\Rel (cx.all Z vals) env σ' ay a w/\hb m env σ'
    refine wpIn_loop (λa w=>∃m,hr m a w) (λa w=>Si λm=>hr m a w) ⟨m,aB,σ',ay,hn,eI,hI⟩ ?_;rintro a1 w1 ⟨m1,hJ1⟩;obtain⟨⟨VI,σ1,fY,hn1,wL,hI1⟩,_⟩:=wY (p:=λm=>hr m a1 w1) hJ1;have xK:∀k,tZ λe σ'=>gc (List.range Z.length) e σ' live.tail λe' σ'=>∃m,m<k/\hb m e' σ':=λk env aB Z h=>OZ h Z live.tail _
    refine wpIn_mono (ih pb I (· =cx.all Z vals) hc m0 _ _ VI σ1 fY a1 w1 (.inl hsb) (.inl λc F=>F▸aEW) hF rfl (λc F=>F▸hP cx hC) (EI (xK _) hQ) hn1 wL (ad_ _ VI σ1 hI1)) ?_;intro e a' w' hp;cases e with
    |normal=>
     obtain⟨cx2,D_,σ2,eH,rfl,hn2,tT,H⟩:=hp;obtain⟨Uf,σ3,pO,⟨k,E,hI3⟩,hr3⟩:=QG aA9 avg tT live.tail H;have hJ3:hr k a' w':=⟨Uf,σ3,pO,hn2,hr3,hI3⟩
     exact⟨⟨k,hJ3⟩,zbW ((wY (p:=λm=>hr m a' w') hJ3).2 k hJ3) E⟩
    |exit i=>exact hp
    |ret=>exact hp
    |_=>exact hp
   ·intro e a' w' hp;cases e with
    |normal=>obtain⟨_,D_,σ2,eH,rfl,hn2,tT,H⟩:=hp;exact Sg
    |exit i=>obtain⟨_,D_,σ2,eH,rfl,hn2,tT,H⟩:=hp;exact Sg
    |ret=>obtain⟨_,D_,σ2,eH,rfl,hn2,tT,H⟩:=hp;exact Sg
    |_=>exact hp
  |false=>
  rw[hkl]at h;have hS':hc=Fence.wide/\1<=m0/\anB P pin C∧∀cx,C cx->cx.P=P:=by
   rcases hS with hS|hS
   ·have hS:(match isK live with|true=>dm pb|false=>false)=true:=hS;rw[hkl]at hS;cases hS
   ·exact hS
  obtain⟨aB,σ',ay,h,eI⟩:=ahV (hS'.2.2.1.gh cx hC) (hS'.2.2.1.pin cx hC) J live (show gc pin env Z live (λenv Z=>YA pin live (vc Γ pin ps pb) Q env Z)from h);obtain⟨hb,m,hI,ad_⟩:=h
  let hr:Nat->Act->World->Prop:=λm a w=>∃cx env Z vals,C cx/\a.tmps.size=n/\Rel cx env Z vals a w/\hb m env Z
  refine wpIn_loop (λa w=>∃m,hr m a w) (λa w=>Si λm=>hr m a w) ⟨m,cx,aB,σ',ay,hC,hn,eI,hI⟩ ?_;rintro a1 w1 ⟨m1,hJ1⟩;obtain⟨⟨cx1,VI,σ1,fY,hC1,hn1,wL,hI1⟩,_⟩:=wY (p:=λm=>hr m a1 w1) hJ1;have xK:∀k,tZ λe Z=>gc pin e Z live λe' σ'=>∃m,m<k/\hb m e' σ':=λk env aB Z h=>OZ h Z live _
  refine wpIn_mono (ih pb I C hc m0 cx1 _ VI σ1 fY a1 w1 (.inr hS') (.inl (hS'.2.2.1.lo)) hF hC1 hP (EI (xK _) hQ) hn1 wL (ad_ _ VI σ1 hI1)) ?_;intro e a' w' hp;cases e with
  |normal=>
   obtain⟨cx2,D_,σ2,eH,hC2,hn2,tT,H⟩:=hp;obtain⟨Uf,σ3,pO,⟨k,E,hI3⟩,hr3⟩:=ahV (hS'.2.2.1.gh cx2 hC2) (hS'.2.2.1.pin cx2 hC2) tT live H;have hJ3:hr k a' w':=⟨cx2,Uf,σ3,pO,hC2,hn2,hr3,hI3⟩
   exact⟨⟨k,hJ3⟩,zbW ((wY (p:=λm=>hr m a' w') hJ3).2 k hJ3) E⟩
  |exit i=>exact hp
  |ret=>exact hp
  |_=>exact hp
 |rangeFunc f pa asg b _ ih=>
  intro pc F C hc m cx Q env Z vals a w hS hG hF hC hP hQ hn J h;obtain⟨l,hl,F⟩:=aR (show opt (WM P n asg) (λl=>opt (eT P n b) λb=>k_ (pa.toList.all λp=>Nat.blt p n) (some (PC.rangeF f pa.toList l b)))=some (strip pc)from F);obtain⟨pb,I,F⟩:=aR F;obtain⟨hsp,F⟩:=ef F;obtain⟨pb,rfl,rfl⟩:=aef F;have hS':hc=Fence.wide/\1<=m/\anB P pin C∧∀cx,C cx->cx.P=P:=by
   rcases hS with hS|hS
   ·cases hS
   ·exact hS
  obtain⟨rfl,U,hW,_⟩:=hS';have h:(match dm pb with|true=>canon env ps λenv=>ev env f λf=>ZC Γ pin ps pa.toList l (vc Γ pin ps pb) Q f env Z|false=>False):=h;cases hsb:dm pb with
  |false=>rw[hsb]at h;exact h.elim
  |true=>
  rw[hsb]at h;obtain⟨aB,h,eI⟩:=EJ J h;have h:=aN _ _ _ h;exact aaR hW hΓ U hC (hP cx hC) hl (λp hp=>za4 (by have:=zbr.1 hsp p hp;exact this))
   (λcx' aEZ hc k Q env Z vals a w hF' hP' HN tT hQ' hv=>ih pb I (· =cx') hc k cx' Q env Z vals a w (.inl hsb) (.inl λc F=>F▸aEZ) hF' rfl (λc F=>F▸hP') hQ' HN tT hv) hn eI h
 |exit id=>
  intro pc F C hc m cx Q env Z vals a w _ _ _ hC hP _ hn J h;have F:=aeP F;subst F;exact wpIn_exit ⟨cx,env,Z,vals,hC,hn,J,h⟩
 |ret=>
  intro pc F C hc m cx Q env Z vals a w _ _ _ hC hP _ hn J h;have F:=akI F;subst F;exact wpIn_ret ⟨cx,env,Z,vals,hC,hn,J,h⟩
 |_=>intro pc F;cases F
end
end
end Go.Dv
namespace Go.Dv
open Go.RowKit
section
section
variable {P:Program} {Γ:Ctx} {N:Nat} {dV:Nat->Prop} {hi:World} {a:Act}
structure M0(N:Nat)(dV:Nat->Prop)(hi:World)(a:Act)(hk:List (Nat×PV)):Prop where
 size:a.tmps.size=N
 defs:a.defers=[]
 ok:∀b,dV b->b<hi.heap.size
 rd:∀q∈hk,Rd dV hi q.2 (a.tmps.getD q.1 undef)
def rT(hk:List (Nat×PV)):Env:=hk.map λq=>(q.1,.pv q.2)
def Vb(P:Program)(dV:Nat->Prop)(hi:World)(b_:∀b,dV b->b<hi.heap.size):Cx:=
 { P:=P,w0:=hi,Zi:=dV,hA:=b_,keep:=λb=>b<hi.heap.size,E:=λ_ h=>h }
def ajC(hk:List (Nat×PV))(p:Nat):aA p (rT hk)=.bad∨∃q∈hk,q.1=p/\aA p (rT hk)=.pv q.2:=by
 induction hk with
 |nil=>exact .inl rfl
 |cons q hk ih=>
  show(bif Nat.beq q.1 p then AV.pv q.2 else aA p (rT hk))=.bad∨∃q'∈q::hk,q'.1=p/\(bif Nat.beq q.1 p then AV.pv q.2 else aA p (rT hk))=.pv q'.2;cases h:Nat.beq q.1 p with
  |true=>simp_all
  |false=>
   grind
def M0.rel{hk:List (Nat×PV)}(hb:M0 N dV hi a hk):Rel (Vb P dV hi hb.ok) (rT hk) [] [] a hi:=by
 have b_:∀b,dV b->Ok (Vb P dV hi hb.ok) [] [] hi b:=λb I=>⟨.inl I,hb.ok b I,λ⟨i,s,v,W,_⟩=>au⟩
 refine⟨⟨vH.refl _ _,ab,rfl,λi s v W=>ab,λi j s t u v b _ W=>ab,⟨zai _,λ_ _=>rfl,λb hm=>?_⟩,⟨λi v h=>az,by simp[Vb],λi W=>ab,λi W=>ab⟩⟩,λp=>?_,hb.defs,λx v hg=>hg.elim,λp hp=>absurd hp (zbM p)⟩
 ·obtain⟨i,s,v,W,_⟩:=hm;grind
 ·rcases ajC hk p with h|⟨q,U,rfl,h3⟩
  ·rw[h];trivial
  ·rw[h3];exact Rd.mono b_ (λ_ _ _=>rfl) _ _ (hb.rd q U)
def iB(hk:List (Nat×PV))(env:Env):Prop:=List.rec True (λq _ ih=>aA q.1 env=.pv q.2/\ih) hk
def agv{hk:List (Nat×PV)}{env:Env}(h:iB hk env):∀q∈hk,aA q.1 env=.pv q.2:=by
 induction hk with
 |nil=>simp
 |cons q hk ih=>
  have h:aA q.1 env=.pv q.2/\iB hk env:=h
  grind
def abj{hk:List (Nat×PV)}{env aB:Env}(h:∀p,aA p aB=aA p env):iB hk aB=iB hk env:=by
 induction hk with
 |nil=>rfl
 |cons q hk ih=>
  show(aA q.1 aB=.pv q.2/\iB hk aB)=(aA q.1 env=.pv q.2/\iB hk env)
  grind
def M0.after{cx:Cx}{hk:List (Nat×PV)}{env:Env}{Z:ax}{vals:XS}{a':Act}{W':World}{b_:∀b,dV b->b<hi.heap.size}(F:cx=Vb P dV hi b_)(hs:a'.tmps.size=N)(J:Rel cx env Z vals a' W')(hE:iB hk env):
 ∃VJ,M0 N VJ W' a' hk/\hi.grownBy W' none∧∀b,VJ b->dV b\/hi.heap.size<=b:=by
 subst F;refine⟨Ok (Vb P dV hi b_) Z vals W',⟨hs,J.defers,λb I=>I.2.1,λq hq=>?_⟩,⟨J.s.below.os,J.s.below.tape,J.s.below.output,J.s.below.size,λk E _=>J.s.fr.same k E⟩,λb I=>I.1⟩;have:=J.env q.1;rw[agv hE q hq]at this;assumption
def itQ(l:XU)(hk:List (Nat×PV)):Ex->Env->ax->Prop:=λe env Z=>match e with
 | .normal=>Oj l (λenv _=>iB hk env) env Z
 |_=>False
def Ev(hk:List (Nat×PV)):∀(l:XU) {env aB:Env} (Z:ax),(∀p,aA p aB=aA p env)->Oj l (λenv _=>iB hk env) aB Z=Oj l (λenv _=>iB hk env) env Z
 |[],env,aB,Z,h=>abj h
 |o::l,env,aB,Z,h=>by
  cases o with
  |tmp t=>
   show akc t (Oj l λenv _=>iB hk env) aB Z=akc t (Oj l λenv _=>iB hk env) env Z;unfold akc;rw[look_eq,look_eq,h t];cases az6 Z (aA t env)with
   |false=>exact Ev hk l Z h
   |true=>
    have e:(λ(xs:CK) (σ':ax)=>(match xs with|[]=>False|x::_=>Oj l (λenv _=>iB hk env) ((t,AV.pv x)::aB) σ'))=λxs σ'=>match xs with|[]=>False|x::_=>Oj l (λenv _=>iB hk env) ((t,AV.pv x)::env) σ':=by
     funext xs σ';cases xs with
     |nil=>rfl
     |cons x xs=>
      refine Ev hk l σ' λp=>?_
      show(bif Nat.beq t p then AV.pv x else aA p aB)=(bif Nat.beq t p then AV.pv x else aA p env)
      rw[h]
    exact congrArg (xX [aA t env] Z) e
  |_=>exact Ev hk l Z h
def ao3(l:XU)(hk:List (Nat×PV)):∀e,tZ (itQ l hk e):=by
 intro e env aB Z h;cases e with
 |normal=>exact Ev hk l Z h
 |_=>rfl
def M0.piece(hΓ:Sound P Γ)(hmx:P.follows .mixedOrders=true){hk E':List (Nat×PV)}(hb:M0 N dV hi a hk){ps:QK}{c:Code}{pc:PC}(F:eT P N c=some (strip pc))(hs:dm pc=true)(l:XU)
 (hv:vc Γ [] ps pc (itQ l E') (rT hk) []) (m:Nat) {R:Exit->Act->World->Prop} (h:∀VJ a' W',M0 N VJ W' a' E'->hi.grownBy W' none->(∀b,VJ b->dV b\/hi.heap.size<=b)->R .normal a' W'):
 c.wpIn Fence.wide m P R a hi:=by
 have:=Az (P:=P) (ps:=ps) hΓ hmx c pc F (· =Vb P dV hi hb.ok) Fence.wide m _ (itQ l E') (rT hk) [] [] a hi (.inl hs) (.inl λcx h=>by rw[h];rfl) (.inl rfl) rfl (λcx h=>by rw[h];rfl) (ao3 l E') hb.size hb.rel hv;refine wpIn_mono this ?_;intro e a' W' hp;cases e with
 |normal=>
  obtain⟨cx,env,Z,vals,hcx,BF,eI,hq⟩:=hp;obtain⟨D_,σ2,H,tT⟩:=aa2 eI (show Oj l (λenv _=>iB E' env) env Z from hq);obtain⟨VJ,h3,h4,h5⟩:=M0.after hcx BF tT H
  grind
 |exit i=>obtain⟨_,_,_,_,_,_,_,hq⟩:=hp;trivial
 |ret=>obtain⟨_,_,_,_,_,_,_,hq⟩:=hp;trivial
 |_=>trivial
def agF{cx:Cx}{n:Nat}{ops:Array Oper}(hΓ:Sound cx.P Γ){f:Nat->PO}{dr:Bool}(F:GP cx.P dr ops n f){K:Env->ax->Prop}{Q:Exit->Act->World->Prop}{hc:Fence}{m:Nat}(hF:Ta hc)(A6:cx.lo=0)(js:QK)
 (hQ:∀aB σ' ay a' w',a'.tmps.size=n->Rel cx aB σ' ay a' w'->K aB σ'->wpOpsIn hc m cx.P ops Q js a' w'):
 ∀(is:QK) (env:Env) (Z:ax) (vals:XS) (a:Act) (w:World),(∀i∈is,i<ops.size)->a.tmps.size=n->Rel cx env Z vals a w->HV Γ K (is.map f) env Z->wpOpsIn hc m cx.P ops Q (is++js) a w:=by
 intro is
 induction is with
 |nil=>intro env Z vals a w _ hn J h;exact hQ _ _ _ _ _ hn J h
 |cons i is ih=>
  intro env Z vals a w W hn J h;rw[zau,lG]at h;exact O4 hΓ F (W i ab) hn J hF (λd _=>V) (λaB σ' ay a' w' HN eI Y=>ih aB σ' ay a' w' (λj hj=>W j (by simp[hj])) HN eI Y) h
def M0.ops(hΓ:Sound P Γ){hk E':List (Nat×PV)}(hb:M0 N dV hi a hk){ops:Array Oper}{l:Od}(hl:Ae (w_ P false ops N) ops.toList=some l){Q:Exit->Act->World->Prop}{m:Nat}(i k:Nat)(js:QK)(E:i+k<=l.length)
 (hv:HV Γ (λenv _=>iB E' env) ((l.drop i).take k) (rT hk) []) (h:∀VJ a' W',M0 N VJ W' a' E'->hi.grownBy W' none->(∀b,VJ b->dV b\/hi.heap.size<=b)->wpOpsIn Fence.wide m P ops Q js a' W'):
 wpOpsIn Fence.wide m P ops Q (List.range' i k++js) a hi:=by
 obtain⟨hlen,U,_⟩:=uI hl ⟨none,none,.nilS 0⟩;refine agF (cx:=Vb P dV hi hb.ok) hΓ U (K:=λenv _=>iB E' env) (.inl rfl) rfl js (λaB σ' ay a' w' HN eI Y=>?_) _ (rT hk) [] [] a hi (λj hj=>au) hb.size hb.rel ?_
 ·obtain⟨VJ,h3,h4,h5⟩:=M0.after rfl HN eI Y;exact h VJ a' w' h3 h4 h5
 ·have e:(List.range' i k).map (λj=>l.getD j ⟨none,none,.nilS 0⟩)=(l.drop i).take k:=by
   refine zbb λj=>?_
   grind
  grind
def M0.get{hk:List (Nat×PV)}(hb:M0 N dV hi a hk){p:Nat}{x:PV}(h:(p,x)∈hk):Rd dV hi x (a.tmps.getD p undef):=hb.rd _ h
def M0.sub{hk E':List (Nat×PV)}(hb:M0 N dV hi a hk)(h:∀q∈E',q∈hk):M0 N dV hi a E':=⟨hb.size,hb.defs,hb.ok,λq hq=>hb.rd q (h q hq)⟩
def M0.round{hk:List (Nat×PV)}(hb:M0 N dV hi a hk){n0:Nat}{X X':Nat->Prop}{W':World}(k:KpX n0 X X' hi W')(T:∀b,dV b→¬X b):M0 N dV W' a hk∧∀b,dV b→¬X' b:=by
 refine⟨⟨hb.size,hb.defs,λb I=>zae (hb.ok b I) k.size,λq hq=>?_⟩,λb I h=>?_⟩
 ·refine Rd.e_ (λ_ h=>h) (λb o u I F=>?_) _ _ (hb.rd q hq);have e:∃ob:Obj,hi.heap[b]?=some ob/\ob.isCells=true:=by
   unfold World.cell? at F;cases nj:hi.heap[b]? with
   |none=>grind
   |some ob=>cases ob<;>first|exact⟨_,rfl,rfl⟩|grind
  rw[World.cell?_of_block (k.same b (hb.ok b I) (T b I) (.inr e))];exact F
 ·rcases k.amE b h with g|g
  ·grind
  ·have:=hb.ok b I;omega
def M0.put{hk E':List (Nat×PV)}(hb:M0 N dV hi a hk){d:Nat}{v:Value}{x:PV}(hd:d<N)(T:Rd dV hi x v)(h:∀q∈E',q=(d,x)\/(q∈hk/\q.1≠d)):M0 N dV hi (a.put (some d) v) E':=by
 refine⟨(vY ..).trans hb.size,hb.defs,hb.ok,λq hq=>?_⟩;have e:∀p,(a.put (some d) v).tmps.getD p undef=if d=p then v else a.tmps.getD p undef:=λp=>by
  show(a.tmps.setIfInBounds d v).getD p undef=_;rw[getD_eq,getD_eq];by_cases h:d=p
  ·subst h;simp[hb.size,hd]
  grind
 rw[e];rcases h q hq with rfl|⟨U,H⟩
 ·grind
 ·rw[if_neg (Ne.symm H)];exact hb.rd q U
def ao6{ops:Array Oper}{Q:Exit->Act->World->Prop}{m i d f x l:Nat}{rest:QK}{o:Oper}{cc:Call}(ho:ops[i]?=some o)(hw:Region.wanted o (yielded ops a.tmps)=true)(hd:o.dst=some d)(pQ:o.op=.call cc)(Ee:cc.callee=.value (.tmp f))(aqw:cc.args= #[.tmp x])
 (hf:a.tmps.getD f undef=.func (.yield l) #[] #[]) (hY:YieldAt Fence.wide (m-1) P l #[a.tmps.getD x undef] hi λe W'=>∃v,e=.returned v/\wpOpsIn Fence.wide m P ops Q rest (a.put (some d) v) W'):wpOpsIn Fence.wide m P ops Q (i::rest) a hi:=by
 obtain⟨fn,tmps,assign,body,J,hR⟩:=hY;have b9:(execOp a.eval o).run P hi=.ok (.round l fn tmps assign body) hi:=by
  have hf':a.eval (.tmp f)=.func (.yield l) #[] #[]:=hf;rw[<-J];unfold execOp;rw[pQ];simp only[resolve,Ee,aqw,hf',List.map_toArray,zau,List.map_nil];rfl
 rw[wpOpsIn_cons];unfold wpOpIn;simp only[ho];rw[if_pos hw];refine⟨λf _=>trivial,?_⟩;rw[Oper.semAt_eq _ _ _ (λc F=>au),b9];refine⟨λh=>bc,hR.mono ?_⟩
 grind
def ake{ops:Array Oper}{o oj:Oper}{j g:Nat}{b:Bool}(hg:o.guard=some (j,b))(hj:ops[j]?=some oj)(hd:oj.dst=some g)(ht:a.tmps.getD g undef=.bool b):Region.wanted o (yielded ops a.tmps)=true:=by
 have hy:yielded ops a.tmps j=some b:=by
  unfold yielded;cases h:a.tmps[g]? with
  |none=>rw[getD_eq,h]at ht;cases ht
  |some v=>simp_all
 simp only[Region.wanted,hg,hy];simp
end
end
end Go.Dv
namespace Go.Dv
open Go.RowKit
section
def xA{env aB:Env}(h:∀p,aA p aB=aA p env)(Z:ax)(rs:List (Nat×Option (Bool×Nat))):∀K:XP->Prop,nA Z aB rs K=nA Z env rs K:=by
 induction rs with
 |nil=>intro K;rfl
 |cons p rs ih=>
  intro K;show look p.1 (λv=>match p.2 with
   |none=>nA Z aB rs λl=>K (v::l)
   |some q=>FU Z q.1 q.2 v λv=>nA Z aB rs λl=>K (v::l)) aB=look p.1 (λv=>match p.2 with
   |none=>nA Z env rs λl=>K (v::l)
   |some q=>FU Z q.1 q.2 v λv=>nA Z env rs λl=>K (v::l)) env
  rw[look_eq,look_eq]
  grind
def ai1(lone:Bool)(rs:List (Nat×Option (Bool×Nat)))(K:RV->Prop):∀e,tZ (axk lone rs K e):=by
 intro e env aB Z h;cases e with
 |normal=>exact xA h Z rs _
 |ret=>exact xA h Z rs _
 |exit i=>rfl
def ac5(l:CK):∀(n:Nat) (K:Env->Prop),aol l n K→∃env,K env∧∀p,aA p env=if n<=p then(match l[p-n]? with|some x=>.pv x|none=>.bad)else .bad:=by
 induction l with
 |nil=>intro n K h;exact⟨[],h,λp=>by simp[aA]⟩
 |cons x l ih=>
  intro n K h;obtain⟨env,U,H⟩:=ih (n+1) _ h;refine⟨_,U,λp=>?_⟩;show(bif Nat.beq n p then AV.pv x else aA p env)=_;by_cases hp:n=p
  ·simp_all
  ·rw[ZD hp]
   grind
section flat
variable {ok qN:Nat->Prop} {w:World}
def asj{x:PV}{v:Value}(T:x.an7)(h:Rd ok w x v):Rd qN w x v:=by
 cases x<;>first|exact T.elim|assumption
def Sx:∀(l:CK) (vs:XS),(∀c∈l,c.an7)->cz ok w l vs->cz qN w l vs
 |[],vs,_,h=>by assumption
 |x::xs,vs,T,h=>by
  obtain⟨v,t,U,H,h3⟩:=h;exact⟨v,t,U,asj (T x ab) H,Sx xs t (λc F=>T c lE) h3⟩
def ahG{x:PV}{v:Value}(T:x.flat)(h:Rd ok w x v):Rd qN w x v:=by
 cases x with
 |agg cs=>
  obtain⟨U,vs,H,h3⟩:=h;exact⟨U,vs,H,Sx cs _ T h3⟩
 |_=>first|exact T.elim|assumption
def aeA{x:PV}(h:x.flat):∀c∈x.cells,c.an7:=by
 cases x with
 |agg cs=>exact h
 |_=>first|exact h.elim|(intro c F;simp[PV.cells]at F;subst F;exact h)
end flat
section
variable {cx:Cx} {env:Env} {Z:ax} {vals:XS} {a:Act} {w':World}
def us0(r:RV)(v:Value):XS:=match r with| .fresh _ _ _=>[v]| .row _ _ _=>[v]|_=>[]
def usC:Ux->XS->XS
 |r::rs,v::vs=>us0 r v++usC rs vs
 |_,_=>[]
def Nd(r:RV)(v:Value):XS:=match r with
 | .agg rs=>match v with| .agg vs=>usC rs vs.toList|_=>[]
 |r=>us0 r v
def usL:Ux->XS->XS
 |r::rs,v::vs=>Nd r v++usL rs vs
 |_,_=>[]
def bt:AV->QK
 | .own id=>[id]
 | .ref id _ _=>[id]
 | .sub id _ _ _=>[id]
 |_=>[]
def oZ:AV->QK
 | .agg cs=>cs.flatMap bt
 |a=>bt a
def afi:∀(l:XP) (seen:QK) (K:QK->Bool),Wi l seen K=true→∃Ef,K Ef=true/\(l.flatMap bt).Nodup/\(∀i∈l.flatMap bt,i∉seen)∧∀i,i∈Ef↔i∈seen\/i∈l.flatMap bt:=by
 intro l
 induction l with
 |nil=>intro seen K h;exact⟨seen,h,ab,ab,ab⟩
 |cons a l ih=>
  intro seen K h;have main:∀id,bt a=[id]->Bool.rec (Wi l (id::seen) K) false (Xy id seen)=true→∃Ef,K Ef=true/\((a::l).flatMap bt).Nodup/\(∀i∈(a::l).flatMap bt,i∉seen)∧∀i,i∈Ef↔i∈seen\/i∈(a::l).flatMap bt:=by
   intro id hid h;cases hm:Xy id seen with
   |true=>simp_all
   |false=>
    rw[hm]at h;obtain⟨Ef,U,H,h3,h4⟩:=ih _ _ h;rw[zan,hid];refine⟨Ef,U,?_,λi W=>?_,λi=>?_⟩
    ·grind
    ·rcases zaA.1 W with W|W
     ·simp at W;subst W;exact VW _ _ hm
     grind
    grind
  have none:bt a=[]->Wi l seen K=true→∃Ef,K Ef=true/\((a::l).flatMap bt).Nodup/\(∀i∈(a::l).flatMap bt,i∉seen)∧∀i,i∈Ef↔i∈seen\/i∈(a::l).flatMap bt:=by
   grind
  cases a with
  |own id=>exact main id rfl h
  |ref id _ _=>exact main id rfl h
  |sub id _ _ _=>exact main id rfl h
  |_=>exact none rfl h
def uj:∀(l:XP) (seen:QK),O7 l seen=true->(l.flatMap oZ).Nodup∧∀i∈l.flatMap oZ,i∉seen:=by
 intro l
 induction l with
 |nil=>simp
 |cons a l ih=>
  intro seen h;have main:∀cs,cs.flatMap bt=oZ a->Wi cs seen (O7 l)=true->((a::l).flatMap oZ).Nodup∧∀i∈(a::l).flatMap oZ,i∉seen:=by
   intro cs nO h;obtain⟨Ef,U,H,h3,h4⟩:=afi cs seen _ h
   grind
  cases a with
  |agg cs=>exact main cs rfl h
  |bad=>exact main [.bad] rfl h
  |pv x=>exact main [.pv x] rfl h
  |own i=>exact main [.own i] rfl h
  |ref i j k=>exact main [.ref i j k] rfl h
  |sub i j k m=>exact main [.sub i j k m] rfl h
  |tup vs=>exact main [.tup vs] rfl h
  |clo f vs=>exact main [.clo f vs] rfl h
def Np(cx:Cx)(Z:ax)(vals:XS)(w:World)(av:AV)(r:RV)(v:Value):Prop:=
 match r with
 | .pv x=>Rd (Ok cx Z vals w) w x v/\(av.one=true->x.one=true)
 | .fresh e sz aw=>(v=.slice none 0 0/\aw=[]/\0<sz)∨∃id,id∈bt av/\Z[id]?=some (.row e sz true aw)/\vals[id]?=some v
 | .row e sz aw=>(v=.slice none 0 0/\aw=[]/\0<sz)∨∃id ap,id∈bt av/\Z[id]?=some (.row e sz ap aw)/\vals[id]?=some v
 |_=>False
def CW(cx:Cx)(Z:ax)(vals:XS)(w:World):XP->Ux->XS->Prop
 |[],rs,vs=>rs=[]/\vs=[]
 |a::aM1,rs,vs=>∃r ZY v Ug,rs=r::ZY/\vs=v::Ug/\Np cx Z vals w a r v/\CW cx Z vals w aM1 ZY Ug
def Item(cx:Cx)(Z:ax)(vals:XS)(w:World)(av:AV)(r:RV)(v:Value):Prop:=
 match r with
 | .agg rs=>∃cs vs,av=.agg cs/\v=.agg vs/\(∀c∈cs,c.one=true)/\CW cx Z vals w cs rs vs.toList
 | .pv x=>Rd (Ok cx Z vals w) w x v
 |r=>bt av=oZ av/\Np cx Z vals w av r v
def ahR(cx:Cx)(Z:ax)(vals:XS)(w:World):XP->Ux->XS->Prop
 |[],rs,vs=>rs=[]/\vs=[]
 |a::aM1,rs,vs=>∃r ZY v Ug,rs=r::ZY/\vs=v::Ug/\Item cx Z vals w a r v/\ahR cx Z vals w aM1 ZY Ug
def aeg{Z σ':ax}{c:AV}(F:c.one=true)(h:∀i∈bt c,σ'[i]?=Z[i]?){K:PV->Prop}(E:gk Z c K):gk σ' c K:=by
 cases c with
 |pv x=>exact E
 |own id=>obtain⟨b,U,H⟩:=aK _ _ _ E;exact Dq
 |sub id sz lo n=>obtain⟨b,U,H⟩:=aK _ _ _ E;exact Dq
 |ref id idx off=>
  cases idx with
  |succ _=>assumption
  |zero=>cases off with
   |succ _=>assumption
   |zero=>obtain⟨b,U,H⟩:=aK Z id (λb=>UJ b K) E;exact cy σ' id b (λb=>UJ b K) ((h id J5).trans U) H
 |clo _ _=>assumption
 |_=>cases F
def F0{Z σ':ax}:∀(cs:XP),(∀c∈cs,c.one=true)->(∀i∈cs.flatMap bt,σ'[i]?=Z[i]?)→∀{K:CK->Prop},bK Z cs K->bK σ' cs K:=by
 intro cs
 induction cs with
 |nil=>intro _ _ K h;exact h
 |cons c cs ih=>
  intro U h K E;have E:gk Z c λx=>bK Z cs λl=>K (x::l):=E
  have H:=aeg (U c ab) (λi W=>h i (zbw _ W)) E;show gk σ' c λx=>bK σ' cs λl=>K (x::l)
  cases c with
  |pv x=>exact ih (λd hd=>U d rM) (λi W=>h i (zbs _ W)) E
  |own id=>
   obtain⟨b,g1,g2⟩:=aK _ _ _ H;refine cy _ _ b _ g1 ?_
   grind
  |sub id sz lo n=>
   obtain⟨b,g1,g2⟩:=aK _ _ _ H;refine cy _ _ b _ g1 ?_;have one:∀(s:Nat) (aw:CK),(match Nat.beq s sz with
    |true=>lo+n<=aw.length/\bK Z cs (λl=>K (.sl sz (cut lo (lo+n) aw)::l))
    |false=>False)->(match Nat.beq s sz with
    |true=>lo+n<=aw.length/\bK σ' cs (λl=>K (.sl sz (cut lo (lo+n) aw)::l))
    |false=>False):=by
    grind
   cases b with
   |row e s ap aw=>exact one s aw g2
   |fz x=>cases x with
    |sl s aw=>exact one s aw g2
    |_=>assumption
   |_=>assumption
  |ref id idx off=>
   cases idx with
   |succ _=>assumption
   |zero=>cases off with
    |succ _=>assumption
    |zero=>
     obtain⟨b,g1,g2⟩:=aK σ' id (λb=>UJ b λx=>bK Z cs λl=>K (x::l)) H;obtain⟨x,g3,g4⟩:=ag3 b g2;exact cy σ' id b (λb=>UJ b λx=>bK σ' cs λl=>K (x::l)) g1 (g4 _ (ih (λd hd=>U d rM) (λi W=>h i (zbs _ W)) g3))
  |clo _ _=>assumption
  |_=>have:=U _ (List.mem_cons_self ..);cases this
def D0(J:bW cx Z vals w'){c:AV}{v:Value}(F:c.one=true)(hv:RA (Ok cx Z vals w') Z vals w' c v){K:PV->Prop}(E:gk Z c K):
 ∃x σ',K x/\bW cx σ' vals w'/\de cx Z vals w' σ' vals w'/\(∀i,i∉bt c->σ'[i]?=Z[i]?)/\Rd (Ok cx σ' vals w') w' x v/\x.one=true:=by
 have fz:∀id,bt c=[id]->(∃b,Z[id]?=some b/\((∃e sz ap aw,b=.row e sz ap aw)∨∃x,b=.fz x))->lH c Z (λσ'=>∀i,i∉bt c->σ'[i]?=Z[i]?)->
  ∃x σ',K x/\bW cx σ' vals w'/\de cx Z vals w' σ' vals w'/\(∀i,i∉bt c->σ'[i]?=Z[i]?)/\Rd (Ok cx σ' vals w') w' x v/\x.one=true:=by
  intro id hid _ hfz;obtain⟨x,σ',U,H,_,h4,h5,h6,h7⟩:=DC c Z Z v K _ (Fz.refl Z) J hv E hfz;exact⟨x,σ',U,h4,h5,H,h6,h7 F⟩
 have mk:∀id,bt c=[id]→∀b:cK,Z[id]?=some b->(match b with
  | .row _ sz _ aw=>rJ Z id (.fz (.sl sz aw)) (λσ'=>∀i,i∉bt c->σ'[i]?=Z[i]?)
  | .fz _=>∀i,i∉bt c->Z[i]?=Z[i]?
  |_=>False)\/((b=.dead∨∃l,b=.mp l)∨∃e cs,b=.box e cs):=by
  intro id hid b I;have aM:=(zaa.1 I).1;cases b with
  |row e sz ap aw=>
   left;have:∀(l:ax) (n:Nat) (y:cK) (K:ax->Prop),n<l.length->K (l.set n y)->rJ l n y K:=by
    intro l
    induction l with
    |nil=>intro n y K h;simp at h
    |cons z l ih=>
     intro n y K h E;cases n with
     |zero=>exact E
     |succ n=>exact ih n y (λt=>K (z::t)) rB E
   refine this _ _ _ _ aM λi W=>?_
   rw[kQ aM,if_neg (λe=>W (by rw[hid];simp[e]))]
  |fz x=>exact .inl λ_ _=>rfl
  |dead=>exact .inr (.inl (.inl rfl))
  |mp l=>exact .inr (.inl (.inr ⟨l,rfl⟩))
  |box e cs=>exact .inr (.inr ⟨e,cs,rfl⟩)
 cases c with
 |pv x=>exact⟨x,Z,E,J,de.refl,λ_ _=>rfl,RP,F⟩
 |own id=>
  obtain⟨b,U,H⟩:=aK _ _ _ E;rcases mk id rfl b U with h|(rfl|⟨l,rfl⟩)|⟨e,cs,rfl⟩
  ·refine fz id rfl ⟨b,U,?_⟩ (cy _ _ b _ U h);cases b with
   |row e sz ap aw=>exact .inl ⟨_,_,_,_,rfl⟩
   |fz x=>exact .inr ⟨_,rfl⟩
   |_=>exact mQ
  ·exact mQ
  ·exact mQ
  ·exact mQ
 |sub id sz lo n=>
  obtain⟨b,U,H⟩:=aK _ _ _ E;rcases mk id rfl b U with h|(rfl|⟨l,rfl⟩)|⟨e,cs,rfl⟩
  ·refine fz id rfl ⟨b,U,?_⟩ (cy _ _ b _ U h);cases b with
   |row e sz ap aw=>exact .inl ⟨_,_,_,_,rfl⟩
   |fz x=>exact .inr ⟨_,rfl⟩
   |_=>exact mQ
  ·exact mQ
  ·exact mQ
  ·exact mQ
 |ref id idx off=>
  cases idx with
  |succ _=>exact gY
  |zero=>cases off with
   |succ _=>exact gY
   |zero=>
    obtain⟨b,I,E⟩:=aK Z id (λb=>UJ b K) E;simp only[RA]at hv;obtain⟨aM,_,_,rj⟩:=hv;cases b with
    |box e cs=>
     rcases rD cs (λt=>lR t λx=>K (.cptr x)) False E with⟨tcs,rfl,xG⟩|xG
     ·obtain⟨u,hu,lV⟩:=J.val I;obtain⟨u',g,Z3,NC,hv⟩:=rj _ I rfl;have hg:bM u'=some g:=by rw[NC];rfl
      rw[hu]at Z3;cases Z3;have ff:∀c∈tcs,c.one=true:=by
       obtain⟨_,_,_,_,_,h4,_⟩:=lV;exact λc F=>h4 (.pv c) uQ
      obtain⟨x,sB,A7⟩:=ME tcs xG;obtain⟨x',rfl,T⟩:=xb (w:=w') (A7 (λy=>y=x) rfl) ff;obtain⟨wL,KH⟩:=J.Kx (x:=.cptr x') I rfl (λqN v' _ axS b_ A8=>by
       obtain⟨b',aqb,e1,_,e3,_,e5⟩:=axS;subst e1;rw[fm]at e5;exact T qN aqb b' _ _ e3 (cz.mono b_ (λ_ _ _=>rfl) _ _ e5) (A8 b' rfl)) (λ_=>rfl)
      refine⟨_,_,sB,wL,KH,λi W=>?_,?_,rfl⟩
      ·rw[kQ aM,if_neg (λe=>W (by simp[bt,e]))]
      ·have:=wL.lW id _ _ (by rw[zbO aM]) hu;have hvu:v=u:=by
        obtain⟨b,arr,U,_⟩:=lV;rw[U]at hg;cases hg;rw[hv,U]
       rw[hvu];exact this
     ·exact xG.elim
    |_=>exact gY
 |clo _ _=>exact gY
 |_=>cases F
def YF:∀(cs:XP) (Z:ax) (vs:XS) (K:CK->Prop),bW cx Z vals w'->(∀c∈cs,c.one=true)->eu (Ok cx Z vals w') Z vals w' cs vs->bK Z cs K->(cs.flatMap bt).Nodup->
 ∃xs σ',K xs/\bW cx σ' vals w'/\de cx Z vals w' σ' vals w'/\(∀i,i∉cs.flatMap bt->σ'[i]?=Z[i]?)/\cz (Ok cx σ' vals w') w' xs vs∧∀x∈xs,x.one=true:=by
 intro cs
 induction cs with
 |nil=>
  intro Z vs K J _ hv E _;simp only[eu]at hv;subst hv;exact⟨[],Z,E,J,de.refl,λ_ _=>rfl,by simp[cz],ab⟩
 |cons c cs ih=>
  intro Z vs K J U hv E hn;simp only[eu]at hv;obtain⟨v,r,rfl,hv1,HL⟩:=hv;rw[zan,zbx]at hn;obtain⟨n1,n2,n3⟩:=hn;obtain⟨x,σ1,k1,k2,k3,k4,k5,k6⟩:=D0 J (U c ab) hv1 (show gk Z c λx=>bK Z cs λl=>K (x::l)from E);have k1':bK σ1 cs λl=>K (x::l):=F0 cs (λd hd=>U d rM) (λi W=>k4 i λF=>n3 i F i W rfl) k1
  obtain⟨xs,σ2,g1,g2,g3,g4,g5,g6⟩:=ih σ1 r _ k2 (λd hd=>U d rM) (k3.raL _ _ HL) k1' n2;refine⟨x::xs,σ2,g1,g2,k3.trans g3,λi W=>?_,by simp only[cz];exact⟨v,r,rfl,g3.rd k5,g5⟩,λy hy=>?_⟩
  ·grind
  ·rcases zax.1 hy with rfl|hy
   ·exact k6
   ·exact g6 y hy
def Ar{Z σ':ax}{a:AV}{r:RV}(h:∀i∈bt a,σ'[i]?=Z[i]?)(E:abH Z a r):abH σ' a r:=by
 cases a with
 |pv x=>exact E
 |own id=>obtain⟨b,U,H⟩:=aK _ _ _ E;exact Dq
 |sub id sz lo n=>obtain⟨b,U,H⟩:=aK _ _ _ E;exact Dq
 |ref id idx off=>
  cases r with
  |pv y=>
   cases idx with
   |succ _=>assumption
   |zero=>cases off with
    |succ _=>assumption
    |zero=>obtain⟨b,U,H⟩:=aK _ _ _ (show eM Z id _ from E);exact Dq
  |_=>assumption
 |_=>assumption
def Ny{Z σ':ax}:∀(cs:XP) (rs:Ux),(∀i∈cs.flatMap bt,σ'[i]?=Z[i]?)->QZ Z cs rs->QZ σ' cs rs:=by
 intro cs
 induction cs with
 |nil=>intro rs _ h;exact h
 |cons c cs ih=>
  intro rs hs h;cases rs with
  |nil=>assumption
  |cons r rs=>
   obtain⟨g1,g2⟩:=(show abH Z c r/\QZ Z cs rs from h)
   exact⟨Ar (λi W=>hs i (zbw _ W)) g1,ih rs (λi W=>hs i (zbs _ W)) g2⟩
def abQ{Z σ':ax}{a:AV}{r:RV}{v:Value}{ok:Nat->Prop}{w:World}(hv:RA ok Z vals w a v)(h:∀i∈oZ a,σ'[i]?=Z[i]?)(E:Rt Z a r):Rt σ' a r:=by
 cases a with
 |agg cs=>
  cases r with
  |pv y=>exact F0 cs hv.1 h (show bK Z cs _ from E)
  |agg rs=>exact Ny cs rs h E
  |_=>assumption
 |bad=>assumption
 |pv x=>assumption
 |own id=>exact Ar (a:=.own id) (r:=r) h E
 |ref id i o=>exact Ar (a:=.ref id i o) (r:=r) h E
 |sub id s l n=>exact Ar (a:=.sub id s l n) (r:=r) h E
 |tup vs=>assumption
 |clo f cs=>assumption
def Qy(J:bW cx Z vals w'){a:AV}{r:RV}{v:Value}(hv:RA (Ok cx Z vals w') Z vals w' a v)(E:abH Z a r):
 ∃σ',bW cx σ' vals w'/\de cx Z vals w' σ' vals w'/\(∀i,i∉bt a->σ'[i]?=Z[i]?)/\Np cx σ' vals w' a r v:=by
 cases a with
 |pv x=>
  refine⟨Z,J,de.refl,λ_ _=>rfl,?_⟩;simp only[RA]at hv;have nil:∀s s' aw,x=.nil s'->(s=s'/\aw=([]:CK))/\0<s->v=.slice none 0 0/\aw=[]/\0<s:=by
   intro s s' aw T h;subst T;simp only[Rd]at hv
   grind
  cases r with
  |pv y=>
   show Rd (Ok cx Z vals w') w' y v/\_;cases x with
   |nil s=>
    simp only[Rd]at hv;rcases(show y=.nil s\/y=.sl s []from E)with rfl|rfl
    ·simp only[Rd];exact⟨hv,λ_=>rfl⟩
    ·simp only[Rd];exact⟨⟨none,0,V,ab,ai,.inl trivial⟩,λ_=>rfl⟩
   |_=>cases (show y=_ from E);exact⟨hv,λh=>h⟩
  |fresh e sz aw=>
   cases x with
   |nil s=>exact .inl (nil sz s aw rfl E)
   |_=>trivial
  |row e sz aw=>
   cases x with
   |nil s=>exact .inl (nil sz s aw rfl E)
   |_=>trivial
  |_=>assumption
 |own id=>
  have EU:=hv;simp only[RA]at EU;obtain⟨b,U,H⟩:=aK _ _ _ E;cases r with
  |pv y=>
   obtain⟨x,σ',k1,k2,k3,k4,k5,k6⟩:=D0 (K:=λx=>x=y) J rfl hv (cy _ _ b _ U (by
    grind))
   subst k1;exact⟨σ',k2,k3,k4,k5,λ_=>k6⟩
  |fresh e sz aw=>
   refine⟨Z,J,de.refl,λ_ _=>rfl,.inr ⟨id,J5,?_,EU⟩⟩
   grind
  |row e sz aw=>
   cases b with
   |row e' sz' ap els'=>
    obtain⟨rfl,rfl,rfl⟩:=(show e=e'/\sz=sz'/\aw=els' from H)
    exact⟨Z,J,de.refl,λ_ _=>rfl,.inr ⟨id,ap,J5,U,EU⟩⟩
   |_=>exact H.elim
  |_=>grind
 |sub id sz lo n=>
  cases r with
  |pv y=>
   obtain⟨b,U,H⟩:=aK _ _ _ E;have h3:gk Z (.sub id sz lo n) (λx=>x=y):=by
    refine cy _ _ b _ U ?_
    grind
   obtain⟨x,σ',k1,k2,k3,k4,k5,k6⟩:=D0 J rfl hv h3;subst k1;exact⟨σ',k2,k3,k4,k5,λ_=>k6⟩
  |_=>
   obtain⟨b,U,H⟩:=aK _ _ _ E;have:∀b:cK,Sn sz lo n b (λ_=>False)->False:=by
    intro b h;cases b with
    |row e s ap aw=>
     have h:(match Nat.beq s sz with|true=>lo+n<=aw.length/\False|false=>False):=h
     grind
    |fz x=>cases x with
     |sl s aw=>
      have h:(match Nat.beq s sz with|true=>lo+n<=aw.length/\False|false=>False):=h
      grind
     |_=>exact h
    |_=>exact h
   grind
 |ref id idx off=>
  cases r with
  |pv y=>
   cases idx with
   |succ _=>trivial
   |zero=>cases off with
    |succ _=>trivial
    |zero=>
     obtain⟨b,I,E⟩:=aK _ _ _ (show eM Z id _ from E);simp only[RA]at hv;obtain⟨aM,_,_,rj⟩:=hv;cases b with
     |box e cs=>
      rcases rD cs (λt=>lR t λx=>y=.cptr x) False E with⟨tcs,rfl,xG⟩|xG
      ·obtain⟨u,hu,lV⟩:=J.val I;obtain⟨u',g,Z3,NC,hv⟩:=rj _ I rfl;have hg:bM u'=some g:=by rw[NC];rfl
       rw[hu]at Z3;cases Z3;have ff:∀c∈tcs,c.one=true:=by
        obtain⟨_,_,_,_,_,h4,_⟩:=lV;exact λc F=>h4 (.pv c) au
       obtain⟨x,ql,T⟩:=xb (w:=w') xG ff;obtain⟨wL,KH⟩:=J.Kx (x:=.cptr x) I rfl (λqN v' _ axS b_ A8=>by
        obtain⟨b',aqb,e1,_,e3,_,e5⟩:=axS;subst e1;rw[fm]at e5;exact T qN aqb b' _ _ e3 (cz.mono b_ (λ_ _ _=>rfl) _ _ e5) (A8 b' rfl)) (λ_=>rfl)
       refine⟨_,wL,KH,λi W=>?_,?_,λ_=>by rw[ql];rfl⟩
       ·rw[kQ aM,if_neg (λe=>W (by simp[bt,e]))]
       ·show Rd _ w' y v;rw[ql];have:=wL.lW id _ _ (by rw[zbO aM]) hu;have hvu:v=u:=by
         grind
        rw[hvu];exact this
      grind
     |_=>grind
  |_=>trivial
 |_=>trivial
def Np.keep{σ':ax}{a:AV}{r:RV}{v:Value}(h:Np cx Z vals w' a r v)(E:de cx Z vals w' σ' vals w')(hs:∀i∈bt a,σ'[i]?=Z[i]?):Np cx σ' vals w' a r v:=by
 cases r with
 |pv x=>exact⟨E.rd h.1,h.2⟩
 |fresh e sz aw=>
  rcases(show _\/_ from h)with h|⟨id,U,H,h3⟩
  ·exact .inl h
  ·exact .inr ⟨id,U,(hs id U).trans H,h3⟩
 |row e sz aw=>
  rcases(show _\/_ from h)with h|⟨id,ap,U,H,h3⟩
  ·exact .inl h
  ·exact .inr ⟨id,ap,U,(hs id U).trans H,h3⟩
 |_=>assumption
def CW.keep{σ':ax}:∀{aM1:XP} {rs:Ux} {vs:XS},CW cx Z vals w' aM1 rs vs->de cx Z vals w' σ' vals w'->(∀i∈aM1.flatMap bt,σ'[i]?=Z[i]?)->CW cx σ' vals w' aM1 rs vs:=by
 intro aM1
 induction aM1 with
 |nil=>intro rs vs h _ _;exact h
 |cons a aM1 ih=>
  rintro rs vs ⟨r,ZY,v,Ug,rfl,rfl,U,H⟩ E hs;exact⟨r,_,v,_,rfl,rfl,U.keep E (λi W=>hs i (zbw _ W)),ih H E (λi W=>hs i (zbs _ W))⟩
def aci:∀(aM1:XP) (rs:Ux) (vs:XS) (Z:ax),bW cx Z vals w'->eu (Ok cx Z vals w') Z vals w' aM1 vs->QZ Z aM1 rs->(aM1.flatMap bt).Nodup->
 ∃σ',bW cx σ' vals w'/\de cx Z vals w' σ' vals w'/\(∀i,i∉aM1.flatMap bt->σ'[i]?=Z[i]?)/\CW cx σ' vals w' aM1 rs vs:=by
 intro aM1
 induction aM1 with
 |nil=>
  intro rs vs Z J hv E _;simp only[eu]at hv;cases rs with
  |nil=>exact⟨Z,J,de.refl,λ_ _=>rfl,rfl,hv⟩
  |cons r rs=>exact gY
 |cons a aM1 ih=>
  intro rs vs Z J hv E hn;cases rs with
  |nil=>exact gY
  |cons r rs=>
   obtain⟨U,H⟩:=(show abH Z a r/\QZ Z aM1 rs from E)
   simp only[eu]at hv;obtain⟨v,t,rfl,h3,h4⟩:=hv;rw[zan,zbx]at hn;obtain⟨n1,n2,n3⟩:=hn;obtain⟨σ1,k1,k2,k3,k4⟩:=Qy J h3 U;have h2':QZ σ1 aM1 rs:=Ny aM1 rs (λi W=>k3 i λF=>n3 i F i W rfl) H;obtain⟨σ2,g1,g2,g3,g4⟩:=ih rs t σ1 k1 (k2.raL _ _ h4) h2' n2;refine⟨σ2,g1,k2.trans g2,λi W=>?_,r,rs,v,t,rfl,rfl,k4.keep g2 (λi W=>g3 i λF=>n3 i W i F rfl),g4⟩;rw[zan,zaA]at W;rw[g3 i (λh=>W (.inr h)),k3 i (λh=>W (.inl h))]
def ajV(J:bW cx Z vals w'){a:AV}{r:RV}{v:Value}(hv:RA (Ok cx Z vals w') Z vals w' a v)(E:Rt Z a r)(hn:(oZ a).Nodup):
 ∃σ',bW cx σ' vals w'/\de cx Z vals w' σ' vals w'/\(∀i,i∉oZ a->σ'[i]?=Z[i]?)/\Item cx σ' vals w' a r v:=by
 have main:bt a=oZ a->abH Z a r→∃σ',bW cx σ' vals w'/\de cx Z vals w' σ' vals w'/\(∀i,i∉oZ a->σ'[i]?=Z[i]?)/\Item cx σ' vals w' a r v:=by
  intro he E;obtain⟨σ',U,H,h3,h4⟩:=Qy J hv E;refine⟨_,U,H,he▸h3,?_⟩;cases r with
  |pv x=>exact h4.1
  |fresh e sz aw=>trivial
  |row e sz aw=>trivial
  |_=>trivial
 cases a with
 |agg cs=>
  obtain⟨h0,vs,rfl,hl⟩:=hv;cases r with
  |pv y=>
   obtain⟨xs,σ',k1,k2,k3,k4,k5,k6⟩:=YF cs Z _ _ J h0 hl (show bK Z cs _ from E) hn;refine⟨_,k2,k3,k4,?_⟩;show Rd _ w' y _;rw[k1];simp only[Rd]
   grind
  |agg rs=>
   obtain⟨σ',k1,k2,k3,k4⟩:=aci cs rs _ Z J hl E hn;exact⟨_,k1,k2,k3,cs,vs,rfl,rfl,h0,k4⟩
  |_=>trivial
 |bad=>trivial
 |pv x=>exact main rfl E
 |own id=>exact main rfl E
 |ref id i o=>exact main rfl E
 |sub id s l n=>exact main rfl E
 |tup vs=>trivial
 |clo f cs=>trivial
def Item.keep{σ':ax}{a:AV}{r:RV}{v:Value}(h:Item cx Z vals w' a r v)(E:de cx Z vals w' σ' vals w')(hs:∀i∈oZ a,σ'[i]?=Z[i]?):Item cx σ' vals w' a r v:=by
 cases r with
 |pv x=>exact E.rd h
 |fresh e sz aw=>exact⟨h.1,h.2.keep E (by rw[h.1];exact hs)⟩
 |row e sz aw=>exact⟨h.1,h.2.keep E (by rw[h.1];exact hs)⟩
 |agg rs=>
  obtain⟨cs,vs,rfl,rfl,h0,U⟩:=h;exact⟨cs,vs,rfl,rfl,h0,U.keep E hs⟩
 |_=>assumption
def RT:∀(aM1:XP) (rs:Ux) (vs:XS) (Z:ax),bW cx Z vals w'->eu (Ok cx Z vals w') Z vals w' aM1 vs->M3 Z aM1 rs->(aM1.flatMap oZ).Nodup->
 ∃σ',bW cx σ' vals w'/\de cx Z vals w' σ' vals w'/\(∀i,i∉aM1.flatMap oZ->σ'[i]?=Z[i]?)/\ahR cx σ' vals w' aM1 rs vs:=by
 intro aM1
 induction aM1 with
 |nil=>
  intro rs vs Z J hv E _;simp only[eu]at hv;cases rs with
  |nil=>exact⟨Z,J,de.refl,λ_ _=>rfl,rfl,hv⟩
  |cons r rs=>exact gY
 |cons a aM1 ih=>
  intro rs vs Z J hv E hn;cases rs with
  |nil=>exact gY
  |cons r rs=>
   obtain⟨U,H⟩:=(show Rt Z a r/\M3 Z aM1 rs from E)
   simp only[eu]at hv;obtain⟨v,t,rfl,h3,h4⟩:=hv;rw[zan,zbx]at hn;obtain⟨n1,n2,n3⟩:=hn;obtain⟨σ1,k1,k2,k3,k4⟩:=ajV J h3 U n1;have h2':M3 σ1 aM1 rs:=by
    have:∀(aM1:XP) (rs:Ux) (vs:XS),eu (Ok cx Z vals w') Z vals w' aM1 vs->(∀i∈aM1.flatMap oZ,σ1[i]?=Z[i]?)->M3 Z aM1 rs->M3 σ1 aM1 rs:=by
     intro aM1
     induction aM1 with
     |nil=>intro rs vs _ _ h;exact h
     |cons a aM1 ih=>
      intro rs vs hv hs h;cases rs with
      |nil=>exact va
      |cons r rs=>
       obtain⟨g1,g2⟩:=(show Rt Z a r/\M3 Z aM1 rs from h)
       simp only[eu]at hv;obtain⟨v,t,rfl,h3,h4⟩:=hv;rw[zan]at hs;exact⟨abQ h3 (λi W=>hs i (zbw _ W)) g1,ih rs t h4 (λi W=>hs i (zbs _ W)) g2⟩
    exact this aM1 rs t h4 (λi W=>k3 i λF=>n3 i F i W rfl) H
   obtain⟨σ2,g1,g2,g3,g4⟩:=ih rs t σ1 k1 (k2.raL _ _ h4) h2' n2;refine⟨σ2,g1,k2.trans g2,λi W=>?_,r,rs,v,t,rfl,rfl,k4.keep g2 (λi W=>g3 i λF=>n3 i W i F rfl),g4⟩;rw[zan,zaA]at W;rw[g3 i (λh=>W (.inr h)),k3 i (λh=>W (.inl h))]
def Oa(Z:ax)(vals:XS)(ids:QK)(u:Value):Prop:=
 u=.slice none 0 0∨∃id s,id∈ids/\Z[id]?=some s/\s.live=true/\vals[id]?=some u
def DD.imp{M M':Nat->Prop}{w:World}{e:TypeId}{sz:Nat}{ap:Bool}{v:Value}{n:Nat}{xs:XS}(h:DD w M e sz ap v n xs)(hm:∀b,M b->M' b):DD w M' e sz ap v n xs:=by
 refine⟨h.1,?_⟩;rcases h.2 with H|⟨g,cap,cur,fr,U,H,h3⟩
 ·grind
 ·exact .inr ⟨g,_,_,fr,U,hm g H,h3⟩
def Ww(ho:∀b,cx.own b->cx.w0.heap.size<=b){lone:Bool}{ids:QK}{us:XS}(Uq:∀u∈us,Oa Z vals ids u)(hl:lone=false):∀b,Ok cx Z vals w' b->OkR cx.Zi lone cx.w0 w' us b:=by
 rintro b ⟨U,H,h3⟩;refine⟨U.imp (λh=>⟨hl,h⟩) (ho b),H,λu hu I=>h3 ?_⟩;rcases Uq u hu with rfl|⟨id,s,_,g1,g2,g3⟩
 ·cases I
 ·exact⟨id,s,u,g1,g2,g3,I⟩
def EE(ho:∀b,cx.own b->cx.w0.heap.size<=b)(J:bW cx Z vals w'){av:AV}{r:RV}{v:Value}(h:Np cx Z vals w' av r v){lone:Bool}(hl:lone=true->r.Ts){ids:QK}{us:XS}(Uq:∀u∈us,Oa Z vals ids u):
 RR (OkR cx.Zi lone cx.w0 w' us) (λb=>cx.w0.heap.size<=b) w' r v (us0 r v):=by
 have plain:∀x,(lone=true->x.flat)->Rd (Ok cx Z vals w') w' x v->Rd (OkR cx.Zi lone cx.w0 w' us) w' x v:=by
  intro x T h;cases ND:lone with
  |false=>exact Rd.mono (Ww ho Uq rfl) (λ_ _ _=>rfl) x v h
  |true=>exact ahG (T ND) h
 have aA_:∀(aw:CK) (cells:XS),(lone=true→∀x∈aw,x.flat)->cz (Ok cx Z vals w') w' (aw.flatMap PV.cells) cells->cz (OkR cx.Zi lone cx.w0 w' us) w' (aw.flatMap PV.cells) cells:=by
  intro aw cells T h;cases ND:lone with
  |false=>exact cz.mono (Ww ho Uq rfl) (λ_ _ _=>rfl) _ _ h
  |true=>
   refine Sx _ _ (λc F=>?_) h;obtain⟨x,hx',F⟩:=zbB.1 F;exact aeA (T ND x hx') c F
 cases r with
 |pv y=>exact⟨plain _ (λe=>hl e) h.1,rfl⟩
 |fresh e sz aw=>
  rcases(show _\/_ from h)with⟨rfl,rfl,h0⟩|⟨id,_,U,H⟩
  ·exact⟨rfl,h0,[],Iq _ _ _ _ _,ab,ab,dw⟩
  ·obtain⟨h0,cells,g1,g2,g3,g4⟩:=J.lW id _ v U H;exact⟨rfl,h0,_,g1.imp ho,g2,g3,aA_ aw cells (λe=>hl e) g4⟩
 |row e sz aw=>
  rcases(show _\/_ from h)with⟨rfl,rfl,h0⟩|⟨id,ap,_,U,H⟩
  ·exact⟨rfl,h0,[],Iq _ _ _ _ _,ab,ab,dw⟩
  ·obtain⟨h0,cells,g1,g2,g3,g4⟩:=J.lW id _ v U H;refine⟨rfl,h0,_,?_,g2,g3,aA_ aw cells (λe=>hl e) g4⟩;have g1:=g1.imp ho;refine⟨g1.1,g1.2.imp_right ?_⟩;rintro⟨g,cap,cur,fr,f1,f2,f3,f4,f5,f6,f7,f8⟩;exact⟨g,_,_,fr,f1,f2,f3,f4,f5,f6,f7,f8.imp_right λh=>⟨rfl,h.2⟩⟩
 |_=>trivial
def aac(ho:∀b,cx.own b->cx.w0.heap.size<=b)(J:bW cx Z vals w'){av:AV}{r:RV}{v:Value}(h:Item cx Z vals w' av r v){lone:Bool}(hl:lone=true->r.Ts){ids:QK}{us:XS}(Uq:∀u∈us,Oa Z vals ids u):
 RR (OkR cx.Zi lone cx.w0 w' us) (λb=>cx.w0.heap.size<=b) w' r v (Nd r v):=by
 cases r with
 |pv y=>exact EE (av:=.bad) ho J (r:=.pv y) ⟨h,λe=>bh⟩ hl Uq
 |fresh e sz aw=>exact EE ho J h.2 hl Uq
 |row e sz aw=>exact EE ho J h.2 hl Uq
 |agg rs=>
  obtain⟨cs,vs,rfl,rfl,h0,U⟩:=h;have ND:lone=false:=by
   cases lone with
   |false=>rfl
   |true=>trivial
  have main:∀(cs:XP) (rs:Ux) (vs:XS),(∀c∈cs,c.one=true)->CW cx Z vals w' cs rs vs->RRL (OkR cx.Zi lone cx.w0 w' us) (λb=>cx.w0.heap.size<=b) w' rs vs (usC rs vs)/\
   ∀r∈rs,match r with| .pv x=>x.one=true| .fresh _ _ _=>True| .row _ _ _=>True|_=>False:=by
   intro cs
   induction cs with
   |nil=>rintro rs vs _ ⟨rfl,rfl⟩;exact⟨aD,ab⟩
   |cons c cs ih=>
    rintro rs vs h0 ⟨r,ZY,v,Ug,rfl,rfl,U,H⟩;obtain⟨g1,g2⟩:=ih ZY Ug (λd hd=>h0 d rM) H;refine⟨?_,λq hq=>?_⟩
    ·exact⟨v,_,_,_,rfl,rfl,EE ho J U (λe=>au) Uq,g1⟩
    ·rcases zax.1 hq with rfl|hq
     ·cases q with
      |pv x=>exact U.2 (h0 c ab)
      |fresh _ _ _=>trivial
      |row _ _ _=>trivial
      |_=>assumption
     grind
  obtain⟨g1,g2⟩:=main cs rs _ h0 U;exact⟨vs,rfl,g2,g1⟩
 |_=>exact(show False from h.2).elim
def an2(ho:∀b,cx.own b->cx.w0.heap.size<=b)(J:bW cx Z vals w'){lone:Bool}{ids:QK}{us:XS}(Uq:∀u∈us,Oa Z vals ids u):
 ∀(aM1:XP) (rs:Ux) (vs:XS),ahR cx Z vals w' aM1 rs vs->(lone=true->ahx rs)->RRL (OkR cx.Zi lone cx.w0 w' us) (λb=>cx.w0.heap.size<=b) w' rs vs (usL rs vs):=by
 intro aM1
 induction aM1 with
 |nil=>
  rintro rs vs ⟨rfl,rfl⟩ _;trivial
 |cons av aM1 ih=>
  rintro rs vs ⟨r,ZY,v,Ug,rfl,rfl,U,H⟩ hl;exact⟨v,_,_,_,rfl,rfl,aac ho J U (λe=>(show r.Ts/\ahx ZY from hl e).1) Uq,ih ZY Ug H λe=>(show r.Ts/\ahx ZY from hl e).2⟩
def RG{av:AV}{r:RV}{v:Value}(h:Np cx Z vals w' av r v):∀u∈us0 r v,Oa Z vals (bt av) u:=by
 intro u hu;cases r with
 |fresh e sz aw=>
  simp[us0]at hu;subst hu;rcases(show _\/_ from h)with⟨h,_⟩|⟨id,U,H,h3⟩
  ·exact .inl h
  ·exact .inr ⟨id,_,U,H,rfl,h3⟩
 |row e sz aw=>
  simp[us0]at hu;subst hu;rcases(show _\/_ from h)with⟨h,_⟩|⟨id,ap,U,H,h3⟩
  ·exact .inl h
  ·exact .inr ⟨id,_,U,H,rfl,h3⟩
 |_=>trivial
def abh(J:bW cx Z vals w'){l m:XS}{i j:QK}(hl:∀u∈l,Oa Z vals i u)(hm:∀u∈m,Oa Z vals j u)(sC:∀a∈i,∀b∈j,a≠b)(U:l.Pairwise λu t=>∀b,bM u=some b->bM t≠some b)(H:m.Pairwise λu t=>∀b,bM u=some b->bM t≠some b):
 (∀u∈l++m,Oa Z vals (i++j) u)/\(l++m).Pairwise λu t=>∀b,bM u=some b->bM t≠some b:=by
 refine⟨λu hu=>?_,?_⟩
 ·rcases zaA.1 hu with hu|hu
  ·rcases hl u hu with h|⟨id,s,k1,k2⟩
   ·exact .inl h
   ·exact .inr ⟨id,s,zbw _ k1,k2⟩
  ·rcases hm u hu with h|⟨id,s,k1,k2⟩
   ·exact .inl h
   ·exact .inr ⟨id,s,zbs _ k1,k2⟩
 ·rw[List.pairwise_append];refine⟨U,H,λu hu x T b I hbx=>?_⟩;rcases hl u hu with rfl|⟨id,s,k1,k2,k3,k4⟩
  ·cases I
  ·rcases hm x T with rfl|⟨id2,s2,j1,j2,j3,j4⟩
   ·cases hbx
   ·exact J.Cb id id2 _ _ _ _ b (sC id k1 id2 j1) k2 j2 k3 j3 k4 j4 I hbx
def anf(J:bW cx Z vals w'){av:AV}{r:RV}{v:Value}(h:Item cx Z vals w' av r v)(hn:(oZ av).Nodup):(∀u∈Nd r v,Oa Z vals (oZ av) u)/\(Nd r v).Pairwise λu t=>∀b,bM u=some b->bM t≠some b:=by
 cases r with
 |pv x=>simp[Nd,us0]
 |fresh e sz aw=>exact⟨by rw[<-h.1];exact RG h.2,by simp[Nd,us0]⟩
 |row e sz aw=>exact⟨by rw[<-h.1];exact RG h.2,by simp[Nd,us0]⟩
 |agg rs=>
  obtain⟨cs,vs,rfl,rfl,_,U⟩:=h;have main:∀(cs:XP) (rs:Ux) (vs:XS),CW cx Z vals w' cs rs vs->(cs.flatMap bt).Nodup->(∀u∈usC rs vs,Oa Z vals (cs.flatMap bt) u)/\(usC rs vs).Pairwise λu t=>∀b,bM u=some b->bM t≠some b:=by
   intro cs
   induction cs with
   |nil=>rintro rs vs ⟨rfl,rfl⟩ _;simp[usC]
   |cons c cs ih=>
    rintro rs vs ⟨r,ZY,v,Ug,rfl,rfl,U,H⟩ hn;rw[zan,zbx]at hn;obtain⟨g1,g2⟩:=ih ZY Ug H hn.2.1;exact abh J (RG U) g1 hn.2.2 (by cases r<;>simp[us0]) g2
  exact main cs rs _ U hn
 |_=>exact(show False from h.2).elim
def adP(J:bW cx Z vals w'):∀(aM1:XP) (rs:Ux) (vs:XS),ahR cx Z vals w' aM1 rs vs->(aM1.flatMap oZ).Nodup->
 (∀u∈usL rs vs,Oa Z vals (aM1.flatMap oZ) u)/\(usL rs vs).Pairwise λu t=>∀b,bM u=some b->bM t≠some b:=by
 intro aM1
 induction aM1 with
 |nil=>
  rintro rs vs ⟨rfl,rfl⟩ _;simp[usL]
 |cons av aM1 ih=>
  rintro rs vs ⟨r,ZY,v,Ug,rfl,rfl,U,H⟩ hn;rw[zan,zbx]at hn;obtain⟨n1,n2,n3⟩:=hn;obtain⟨g1,g2⟩:=ih ZY Ug H n2;obtain⟨f1,f2⟩:=anf J U n1;exact abh J f1 g1 n3 f2 g2
def RU(ho:∀b,cx.own b->cx.w0.heap.size<=b)(J:bW cx Z vals w'){ids:QK}{u:Value}(h:Oa Z vals ids u):∀b,bM u=some b->cx.w0.heap.size<=b:=by
 intro b I;rcases h with rfl|⟨id,s,_,U,H,h3⟩
 ·cases I
 ·exact ho b ((J.lW id s u U h3).block H I).1
def Kf:XS->Value
 |[v]=>v
 |vs=>.tuple vs.toArray
def GZ(tmps:Array Value):ResultVar->Sem Value
 | .tmp t=>pure (tmps.getD t undef)
 | .cell a t=>do loadVar t (<-asAddr (tmps.getD a undef))
def M6{fn:Func}{l:List ResultVar}(h:fn.results=l.toArray)(hl:l.length<=4)(tmps:Array Value)(P:Program)(w:World)(vs:XS)(hlen:vs.length=l.length)
 (hv:∀(i:Nat) (r:ResultVar) (v:Value),l[i]?=some r->vs[i]?=some v->(GZ tmps r).run P w=.ok v w):
 (results fn tmps).run P w=.ok (Kf vs) w:=by
 have e:results fn tmps=(do
  let vs<-l.toArray.mapM (GZ tmps)
  pure (if h:vs.size=1 then vs[0]else .tuple vs)):=by
  unfold results;congr 2
 rw[e]
 match l,vs,hl,hlen,hv with
 |[],[],_,_,hv=>simp[Kf]
 |[a],[x],_,_,hv=>
  have h0:=hv 0 a x rfl rfl;simp[h0,Kf]
 |[a,b],[x,y],_,_,hv=>
  have h0:=hv 0 a x rfl rfl;have U:=hv 1 b y rfl rfl;simp[h0,U,Kf]
 |[a,b,c],[x,y,z],_,_,hv=>
  have h0:=hv 0 a x rfl rfl;have U:=hv 1 b y rfl rfl;have H:=hv 2 c z rfl rfl;simp[h0,U,H,Kf]
 |[a,b,c,d],[x,y,z,u],_,_,hv=>
  have h0:=hv 0 a x rfl rfl;have U:=hv 1 b y rfl rfl;have H:=hv 2 c z rfl rfl;have h3:=hv 3 d u rfl rfl;simp[h0,U,H,h3,Kf]
 |_::_::_::_::_::_,_,hl,_,_=>grind
def Tz(J:Rel cx env Z vals a w'):∀(l:List ResultVar) (rs:List (Nat×Option (Bool×Nat))) (K:XP->Prop),l.map (ads cx.P)=rs.map some->nA Z env rs K->
 ∃aM1 vs,K aM1/\eu (Ok cx Z vals w') Z vals w' aM1 vs/\vs.length=l.length∧∀(i:Nat) (r:ResultVar) (v:Value),l[i]?=some r->vs[i]?=some v->(GZ a.tmps r).run cx.P w'=.ok v w':=by
 intro l
 induction l with
 |nil=>
  intro rs K hm h;cases rs with
  |nil=>exact⟨[],[],h,dw,rfl,λi r v J=>ab⟩
  |cons p rs=>grind
 |cons r l ih=>
  intro rs K hm h;cases rs with
  |nil=>grind
  |cons p rs=>
   simp only[zau,List.cons.injEq]at hm;obtain⟨hp,hm⟩:=hm;have h:=Ek _ _ _ (show look p.1 (λv=>match p.2 with
    |none=>nA Z env rs λl=>K (v::l)
    |some q=>FU Z q.1 q.2 v λv=>nA Z env rs λl=>K (v::l)) env from h)
   have fin:∀(av:AV) (v:Value),RA (Ok cx Z vals w') Z vals w' av v->(GZ a.tmps r).run cx.P w'=.ok v w'->(nA Z env rs λl=>K (av::l))->
    ∃aM1 vs,K aM1/\eu (Ok cx Z vals w') Z vals w' aM1 vs/\vs.length=(r::l).length∧∀(i:Nat) (r':ResultVar) (v:Value),(r::l)[i]?=some r'->vs[i]?=some v->(GZ a.tmps r').run cx.P w'=.ok v w':=by
    intro av v hav b9 E;obtain⟨aM1,vs,U,H,h3,h4⟩:=ih rs _ hm E;refine⟨av::aM1,v::vs,U,by simp only[eu];grind,by simp[h3],λi r' v' W hv=>?_⟩
    grind
   cases r with
   |tmp t=>
    cases hp;exact fin _ _ (J.env t) dw h
   |cell s t=>
    obtain⟨sh,zy,hp⟩:=aR (show opt (U9 cx.P t) (λq=>match q.1 with
     |true=>some (s,some (true,q.2))
     |false=>some (s,some (false,1)))=some p from hp)
    have axT:=zH zy;obtain⟨ag,n⟩:=sh;have main:∀m,p=(s,some (ag,m))->m=(if ag then n else 1)→∃aM1 vs,K aM1/\eu (Ok cx Z vals w') Z vals w' aM1 vs/\vs.length=(ResultVar.cell s t::l).length∧∀(i:Nat) (r':ResultVar) (v:Value),(ResultVar.cell s t::l)[i]?=some r'->vs[i]?=some v->(GZ a.tmps r').run cx.P w'=.ok v w':=by
     intro m hpe hme;subst hpe;obtain⟨b,off,us,av,hv,hl,MF,EV,E⟩:=WN J.s ag m (J.env s) h;refine fin av _ EV ?_ E;have:=run_load axT b off us au MF;simp only[GZ,hv,asAddr,Sem.run_bind,Sem.run_pure,Result.andThen_ok,this]
    grind
def akT(cj:∀b,cx.own b->cx.w0.heap.size<=b)(J:Rel cx env Z vals a w'){aM1:XP}{vs:XS}(oF:eu (Ok cx Z vals w') Z vals w' aM1 vs){lone:Bool}{K:RV->Prop}(h:aou lone Z aM1 K):
 ∃r us,K r/\RR (OkR cx.Zi lone cx.w0 w' us) (λb=>cx.w0.heap.size<=b) w' r (Kf vs) us/\
  (∀u∈us,∀b,bM u=some b->cx.w0.heap.size<=b)∧∀(i j:Nat) (u t:Value) (b:Nat),i≠j->us[i]?=some u->us[j]?=some t->bM u=some b->bM t≠some b:=by
 have pw:∀us:XS,(us.Pairwise λu t=>∀b,bM u=some b->bM t≠some b)→∀(i j:Nat) (u t:Value) (b:Nat),i≠j->us[i]?=some u->us[j]?=some t->bM u=some b->bM t≠some b:=by
  intro us hp i j u t b sC hu ht I hbt;rw[List.pairwise_iff_getElem]at hp;obtain⟨W,rfl⟩:=zaa.1 hu;obtain⟨hj,rfl⟩:=zaa.1 ht;rcases Nat.lt_or_gt_of_ne sC with aM|aM
  ·exact hp i j W hj aM b I hbt
  ·exact hp j i hj W aM b hbt I
 unfold aou at h;cases ho:O7 aM1 []with
 |false=>simp only[ho]at h
 |true=>
  simp only[ho]at h;cases aM1 with
  |nil=>
   simp only[eu]at oF;subst oF;exact⟨_,[],h,by simp[RR,RRL,Kf],ab,ab⟩
  |cons av aM1=>
   simp only[eu]at oF;obtain⟨v,t,rfl,U,H⟩:=oF;cases aM1 with
   |nil=>
    simp only[eu]at H;subst H;obtain⟨r,h3,h4,h5⟩:=h;have h3':M3 Z [av] [r]:=⟨h3,trivial⟩
    have EU:eu (Ok cx Z vals w') Z vals w' [av] [v]:=by simp only[eu];exact⟨v,[],rfl,U,rfl⟩
    obtain⟨σ',k1,k2,k3,k4⟩:=RT _ _ _ Z J.s EU h3' (uj _ _ ho).1;obtain⟨g1,g2⟩:=adP k1 _ _ _ k4 (uj _ _ ho).1;have e:usL [r] [v]=Nd r v:=by simp[usL]
    rw[e]at g1 g2;obtain⟨_,_,_,_,e1,e2,k5,_⟩:=k4;cases e1;cases e2;exact⟨r,Nd r v,h5,aac cj k1 k5 (λel=>by subst el;exact h4) g1,λu hu=>RU cj k1 (g1 u hu),pw _ g2⟩
   |cons bv aM1=>
    obtain⟨ZY,h3,h4,h5⟩:=h;have EU:eu (Ok cx Z vals w') Z vals w' (av::bv::aM1) (v::t):=by simp only[eu]at H ⊢;exact⟨v,t,rfl,U,H⟩
    obtain⟨σ',k1,k2,k3,k4⟩:=RT _ _ _ Z J.s EU h3 (uj _ _ ho).1;obtain⟨g1,g2⟩:=adP k1 _ _ _ k4 (uj _ _ ho).1;simp only[eu]at H;obtain⟨v2,t2,rfl,_,_⟩:=H;refine⟨.tup ZY,usL ZY (v::v2::t2),h5,?_,λu hu=>RU cj k1 (g1 u hu),pw _ g2⟩;simp only[RR];exact⟨_,rfl,an2 cj k1 g1 _ _ _ k4 (λel=>by subst el;exact h4)⟩
def ao(l:List (Nat×Spec)):Ctx:=λf=>
 List.rec (AT false false λ_ _=>False) (λp _ ih=>Bool.rec ih p.2 (Nat.beq p.1 f)) l
def aiR{P:Program}:∀(l:List (Nat×Spec)),(∀p∈l,bQ P p.1 p.2)->Sound P (ao l):=by
 intro l
 induction l with
 |nil=>intro _ f;exact⟨(by intro h;cases h),(by intro h;cases h),(λ_ _ _ _ _ _ _ _ h=>(show False from h).elim),(λ_ _ _ _ _ _ _ _ h=>(show False from h).elim),λ_ _ _ _ _ _ _ _ h=>bc⟩
 |cons p l ih=>
  intro h f;show bQ P f (Bool.rec (ao l f) p.2 (Nat.beq p.1 f));cases I:Nat.beq p.1 f with
  |true=>
   simp_all
  |false=>exact ih (λq hq=>h q iJ) f
def ah(R:CK->PV->Prop):Spec:=AT true true λps K=>∃x,R ps x/\K (.pv x)
def abJ(S:Spec):Prop:=(S.fn=true->S.lone=true∧∀ps K,S.run ps K→∃x,K (.pv x)∧∀K':RV->Prop,K' (.pv x)->S.run ps K')/\(∀ps L,¬S.iter ps L)/\S.mu=false
def VS(R:CK->PV->Prop):abJ (ah R):=⟨λ_=>⟨rfl,λ_ _ ⟨x,U,H⟩=>⟨x,H,λ_ h=>⟨x,U,h⟩⟩⟩,λ_ _ h=>h,rfl⟩
def av9(lone:Bool)(run:CK->(RV->Prop)->Prop):abJ (AT lone false run):=⟨λe=>bh,λ_ _ h=>h,rfl⟩
def QD{P:Program}{f:FuncId}{fn:Func}{c:Code}(hf:P.funcs[f]?=some fn)(aea:(fn.name== "runtime.NumGoroutine")=false)(I:fn.body=some c):Enters P f:=by
 intro args w;simp[callFunc,hf,I]at aea ⊢;omega
structure CF(P:Program)(w0:World)(ok own:Nat->Prop)(pS:List cK)(pV:XS)(cx:Cx):Prop where
 hP:cx.P=P
 hw0:cx.w0=w0
 cj:cx.own=own
 hpS:cx.wK=pS
 hpV:cx.NF=pV
 b_:cx.Zi=ok
 gh:∀x v,¬cx.gh x v
 lo:cx.lo=0
 keep:∀b,cx.keep b→∃o:Obj,cx.w1.heap[b]?=some o/\o.isCells=false
 defers:∀d∈cx.defers,∃D,d={ target:=.collected D,args:= #[] }/\cx.keep D/\cx.w1.heap[D]?=some (.deferred (some []))/\w0.heap.size<=D
 once:cx.defers.Pairwise (λa b=>a≠b)
def ain(P:Program)(w0:World)(ok own:Nat->Prop)(pS:List cK)(pV:XS)(qk:pV.length=pS.length):anB P (List.range pS.length) (CF P w0 ok own pS pV):=by
 refine⟨λcx h=>⟨by rw[h.hpS],by rw[h.hpS,h.hpV];exact qk⟩,λcx h=>h.gh,λcx h=>h.lo,λcx h=>h.keep,λcx w D hD hs h E h0 U Y=>?_⟩;refine⟨h.hP,h.hw0,h.cj,h.hpS,h.hpV,h.b_,h.gh,h.lo,?_,?_,?_⟩
 ·rintro b (I|rfl)
  ·obtain⟨o,ho,F⟩:=h.keep b I;exact⟨o,(E b I).trans ho,F⟩
  ·exact⟨_,Y,rfl⟩
 ·intro d hd;rcases zax.1 hd with rfl|hd
  ·exact⟨D,rfl,.inr rfl,Y,by rw[<-h.hw0];exact h0⟩
  ·obtain⟨D',H,h3,h4,h5⟩:=h.defers d hd;exact⟨D',H,.inl h3,(E D' h3).trans h4,h5⟩
 ·refine List.Pairwise.cons (λd hd e=>?_) h.once;obtain⟨D',H,h3,_,_⟩:=h.defers d hd
  grind
def leaves{P:Program}{fn:Func}{m:Nat}{R:Ending->World->Prop}{env:Env}{Z:ax}{vals:XS}{tmps:Array Value}(fin:∀w,Rel cx env Z vals ⟨tmps,[]⟩ w→∃v,(results fn tmps).run P w=.ok v w/\R (.returned v) w)(E:∀b,¬cx.keep b)(hw1:cx.w1.heap.size<=cx.w0.heap.size):
 ∀(ds:List Deferred) (w:World),(∀d∈ds,∃D,d={ target:=.collected D,args:= #[] }/\w.heap[D]?=some (.deferred (some []))/\cx.w0.heap.size<=D)->ds.Pairwise (λa b=>a≠b)->Rel cx env Z vals ⟨tmps,[]⟩ w->LeavesInM Fence.wide m P fn tmps R ds .returning w:=by
 intro ds
 induction ds with
 |nil=>intro w _ _ J;exact fin w J
 |cons d ds ih=>
  intro w hd hp J;obtain⟨D,rfl,Y,h0⟩:=hd d ab;rw[List.pairwise_cons]at hp;refine⟨ab,.inl ⟨D,_,rfl,run_takeDeferred Y,ih _ (λd' hd'=>?_) hp.2 (ER J (grownBy_putObj' w D (.deferred none)) (λr e=>by cases e;exact⟨cx.cj _ h0,zam hw1 h0,_,Y,rfl⟩) (.inr λr e es n h=>au))⟩⟩;obtain⟨D',rfl,hK',h0'⟩:=hd d' au;refine⟨D',rfl,(World.putObj_heap_other (λe=>?_)).trans hK',h0'⟩
  grind
def abC{P:Program}{f:Nat}{fn:Func}{c:Code}{pc:PC}{Γ:Ctx}{ps:QK}{rs:List (Nat×Option (Bool×Nat))}{S:Spec}(hΓ:Sound P Γ)(hm:P.follows .mixedOrders=true)(hf:P.funcs[f]?=some fn)(aea:(fn.name== "runtime.NumGoroutine")=false)(I:fn.body=some c)
 (F:eT P fn.ntmps c=some (strip pc)) {l:List ResultVar} (Uc:fn.results=l.toArray) (fx:l.map (ads P)=rs.map some) (hl:l.length<=4) (hS:abJ S) (aeb:Nat) (hn:aeb<=fn.ntmps) (cI:∀args K,S.run args K->args.length=aeb) (h:ahF Γ ps pc rs S):bQ P f S:=by
 refine⟨λe=>(hS.1 e).2,λe=>⟨(hS.1 e).1,hS.2.2⟩,?_,λ_ _ _ _ _ _ _ _ h=>absurd h (hS.2.1 _ _),λ_ _ _ _ _ _ _ _ h=>by rw[hS.2.2]at h;cases h⟩;intro w ok args vs K _ b_ lf b9;refine⟨QD hf aea I,?_⟩;have hlen:vs.size=args.length:=by simpa using lf.length
 have hle:args.length<=fn.ntmps:=by rw[cI args K b9];exact hn
 obtain⟨env,ad9,aqx⟩:=ac5 args 0 _ (h args K b9)
 let cx:Cx:={ P:=P,w0:=w,Zi:=ok,hA:=b_ }
 let a:Act:={ tmps:=vs++Array.replicate (fn.ntmps-vs.size) undef,defers:=[] }
 have aE1:∀b,ok b->Ok cx [] [] w b:=λb I=>⟨.inl I,b_ b I,λ⟨i,s,v,W,_⟩=>uV⟩
 have J:Rel cx env [] [] a w:=by
  refine⟨⟨vH.refl _ _,ab,rfl,λi s v W=>uV,λi j s t u v b _ W=>uV,⟨zai _,λb I=>I.elim,λ_ _ I=>I⟩,⟨λi v h=>by simp[cx]at h,by simp[cx],λi W=>by simp[cx]at W,λi W=>by simp[cx]at W⟩⟩,λp=>?_,rfl,λx v hg=>hg.elim,λp hp=>absurd hp (zbM p)⟩;rw[aqx p];simp only[Nat.zero_le,if_true,Nat.sub_zero];cases T:args[p]? with
  |none=>simp only[RA]
  |some x=>
   simp only[RA];have hp:p<args.length:=(zaa.1 T).1;have MH:a.tmps.getD p undef=vs[p]'V:=by
    rw[getD_eq];show((vs++Array.replicate (fn.ntmps-vs.size) undef)[p]?).getD undef=_;rw[Array.getElem?_append_left V,zaI V];rfl
   rw[MH];exact Rd.mono aE1 (λ_ _ _=>rfl) x _ (((oN args _).1 lf).2 p x _ T (by simp[show p<vs.size from by omega]))
 have hC:CF P w ok (λb=>w.heap.size<=b) [] [] cx:=⟨rfl,rfl,rfl,rfl,rfl,rfl,λ_ _ h=>h,rfl,λb h=>h.elim,λd hd=>(by cases hd),List.Pairwise.nil⟩
 have hwp:=Az (ps:=ps) hΓ hm c pc F (CF P w ok (λb=>w.heap.size<=b) [] []) Fence.wide 1 cx (axk S.lone rs K) env [] [] a w (.inr ⟨rfl,zai _,ain P w ok _ [] [] rfl,λcx h=>h.hP⟩) (.inl λcx h=>h.lo) (.inl rfl) hC (λcx h=>h.hP) (ai1 _ _ _) (by simp[a];omega) J ad9;refine(callsIn_wide (n:=1)).1 (callsIn_of_wp_marks hf I trivial (wpIn_mono hwp ?_));have fin:∀a' w',(∃cx env Z vals,CF P w ok (λb=>w.heap.size<=b) [] [] cx/\a'.tmps.size=fn.ntmps/\Rel cx env Z vals a' w'/\nA Z env rs λaM1=>aou S.lone Z aM1 K)->LeavesInM Fence.wide 1 P fn a'.tmps (λe w'=>∃v' r us,e=.returned v'/\K r/\Below w.heap.size w w'/\RR (OkR ok S.lone w w' us) (λb=>w.heap.size<=b) w' r v' us/\
  (∀u∈us,∀b,bM u=some b->w.heap.size<=b)∧∀(i j:Nat) (u t:Value) (b:Nat),i≠j->us[i]?=some u->us[j]?=some t->bM u=some b->bM t≠some b) a'.defers .returning w':=by
  rintro a' w' ⟨cx',aB,σ',ay,hC',HN,eI,E⟩
  let cxE:Cx:={ P:=P,w0:=w,Zi:=ok,hA:=b_ }
  obtain⟨P',w0',qN,hA',w1',aBb,pP,at1,gh',lo',aBc,axU,adX,pS',pV'⟩:=cx';obtain⟨rfl,axV,agT,rfl,rfl,rfl,hgh,A6,nr,hdf,aqy⟩:=hC';have hw2:w0'=w:=axV;subst hw2;have aqz:axU=λb=>w0'.heap.size<=b:=agT
  subst aqz;have hrE:Rel cxE aB σ' ay ⟨a'.tmps,[]⟩ w':=⟨⟨eI.s.below,eI.s.one,eI.s.len,eI.s.lW,eI.s.Cb,⟨eI.s.below.size,λb I=>I.elim,λ_ _ I=>I⟩,⟨eI.s.pin.vs,eI.s.pin.len,eI.s.pin.wG,eI.s.pin.wH⟩⟩,eI.env,rfl,λx v hg=>hg.elim,λp hp=>absurd hp (zbM p)⟩
  refine leaves (cx:=cxE) ?_ (λ_ h=>h) (zai _) a'.defers w' ?_ ?_ hrE
  ·intro w2 tT;obtain⟨aM1,Ug,E,oF,Gv,aqA⟩:=Tz tT l rs _ fx E;obtain⟨r,us,U,H,h3,h4⟩:=akT (λ_ h=>h) tT oF E;exact⟨_,M6 Uc hl _ _ w2 Ug Gv aqA,_,r,us,rfl,U,tT.s.below.ann (λ_ h=>h),H,h3,h4⟩
  ·intro d hd;rw[eI.defers]at hd;obtain⟨D,H,h3,h4,h5⟩:=hdf d hd;exact⟨D,H,(eI.s.fr.same D h3).trans h4,h5⟩
  ·rw[eI.defers];exact aqy
 intro e a' w' hp;cases e with
 |normal=>exact fin a' w' hp
 |ret=>exact fin a' w' hp
 |exit i=>
  obtain⟨_,_,_,_,_,_,_,E⟩:=hp;exact gY
 |_=>exact hp.elim
end
end
end Go.Dv
end
