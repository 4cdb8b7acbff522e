/- Own work: parts of the proof, shortened and laid together by a tool of our own. -/
import Derived.Test.YtmdfbbcifbgdnaaGreatP1
import Derived.MapKept
import Derived.Orders
import Derived.TacticsIn
import Derived.OrdersIn
import Derived.RangeFuncCalls
import Derived.ControlIn
set_option linter.defProp false
set_option linter.unusedSimpArgs false
set_option linter.unusedVariables false
open List renaming getElem?_eq_some_iff→zaa, getElem?_eq_getElem→zah, getElem?_append_left→zar, mem_append→zaA, getElem?_append_right→zak, getElem?_eq_none→zaK, append_nil→zbf, mem_range→zbm, length_append→zad, mem_of_getElem?→zag, eq_nil_of_length_eq_zero→zaf, mem_filter→zbn, append_assoc→zaj, map_cons→zau, getD_eq_getElem?_getD→zbo, all_eq_true→zbp, mem_of_mem_take→zaL, eq_of_mem_replicate→zbq, take_of_length_le→za1, mem_iff_getElem?→zaE, ext_getElem?→zba, map_append→zbs, getElem?_map→za9, contains_iff_mem→zbv, mem_of_mem_drop→zbw, flatMap_append→zaz, getElem?_range→zbz, mem_map→zaX, getElem?_drop→zaB, getElem?_set→zaS, mem_cons→zax, length_take→zal, length_cons→zam, mem_flatMap→zbA, cons_append→zbd, take_append_drop→zaD, length_nil→zaY, map_congr_left→zbC, getElem?_inj→zbD, nodup_range→zbH, getElem?_cons_succ→zbI, length_set→za0, append_eq_nil_iff→zbK, length_singleton→zbM, getD_cons_zero→zbP, filter_eq_self→zbQ, filter_append→zbS, getElem?_take→zaI, flatMap_cons→zao, filter_congr→zbU, length_drop→zay, filter_cons→zbW, take_left'→zaH, nil_append→zaZ, length_map→zaw, range_add→zbX
open Array renaming getD_eq_getD_getElem?→zbl, getElem?_eq_some_iff→zap, getElem?_eq_getElem→zaG, getElem?_setIfInBounds→zbu, getElem?_setIfInBounds_self_of_lt→zby, length_toList→zac
open Nat renaming eq_of_beq_eq_true→zab, lt_of_lt_of_le→zae, le_of_ble_eq_true→za3, le_refl→zai, le_trans→zan, zero_add→zaV, lt_or_ge→zbt, mul_le_mul_right→zaF, min_eq_left→zat, lt_trichotomy→zbE, min_eq_right→zbF, ble_eq_true_of_le→zbN, add_zero→zaM, beq_refl→zbR, lt_of_le_of_lt→zbT, zero_le→zbV
open Bool renaming and_eq_true→zaU, not_eq_true'→zbr, or_eq_true→zbB, not_false→zbL, and_eq_true_iff→zbO
open Option renaming getD_some→zbx, bind_some→zbG, map_some→zbJ
namespace Go.Dv
open Go.RowKit Go.Lib
section
section
variable {cx:Cx} {env:Env} {σ:aF} {vals:List Value} {a:Act} {w w':World} {o:Oper}
def dH.over(P:Program)(hr:dH cx σ vals w){id:Nat}{e:TypeId}{sz:Nat}{ap:Bool}{aC:List PV}(hb:σ[id]?=some (.row e sz ap aC)){g n0 c0:Nat}(hu:vals[id]?=some (.slice (some ⟨g,0,none⟩) n0 c0))(lo:Nat)(zs:List PV)(us:List Value)
 (hz:bS (Ok cx σ vals w) w (zs.flatMap PV.cells) us) (kR:∀c∈zs.flatMap PV.cells,c.one=true) (hl:∀x∈zs,x.cells.length=sz) (hle:lo+zs.length<=aC.length):
 ∃w',(storeCells ⟨g,lo*sz,none⟩ us).run P w=.ok () w'/\dH cx (σ.set id (.row e sz ap (aC.take lo++zs++aC.drop (lo+zs.length)))) vals w'/\ct cx σ vals w (σ.set id (.row e sz ap (aC.take lo++zs++aC.drop (lo+zs.length)))) vals w':=by
 have tZ:=hr.sV id _ _ hb hu;obtain⟨mD,cells,eh,lj,ayk,sH⟩:=tZ;have x3:n0=aC.length:=by
  rcases eh.2 with⟨h1,_⟩|⟨_,_,_,_,h1,_⟩
  ·cases h1
  ·cases h1;rfl
 subst x3;rcases eh with⟨mE,⟨h1,_⟩|⟨gg,cap,cur,fr,h1,h2,h3,h4,h5,h6,h7,h8⟩⟩
 ·cases h1
 cases h1;have ayl:us.length=zs.length*sz:=aab;have hT:((aC.take lo).flatMap PV.cells).length=lo*sz:=by
  rw[fv sz _ (λz hz=>lj z (zaL hz)),zal,zat ab]
 have hM:(((aC.drop lo).take zs.length).flatMap PV.cells).length=zs.length*sz:=by
  rw[fv sz _ (λz hz=>lj z (zbw (zaL hz))),zal,zay,zat ab]
 have aCT:aC=aC.take lo++(aC.drop lo).take zs.length++aC.drop (lo+zs.length):=by
  rw[zaj,<-List.drop_drop,zaD,zaD]
 have qY:aC.flatMap PV.cells=(aC.take lo).flatMap PV.cells++((aC.drop lo).take zs.length).flatMap PV.cells++(aC.drop (lo+zs.length)).flatMap PV.cells:=by
  conv=>lhs;rw[aCT]
  rw[zaz,zaz]
 have Fy:(aC.take lo++zs++aC.drop (lo+zs.length)).flatMap PV.cells=(aC.take lo).flatMap PV.cells++zs.flatMap PV.cells++(aC.drop (lo+zs.length)).flatMap PV.cells:=by
  rw[zaz,zaz]
 have aOo:=sH;rw[qY]at sH;obtain⟨vq,c3,Gp,Pz,r3⟩:=(eG _ _ _).1 sH;obtain⟨c1,c2,rfl,r1,r2⟩:=(eG _ _ _).1 Pz;have Oi:c1.length=lo*sz:=by rw[r1.length,hT]
 have Cw:c2.length=zs.length*sz:=by rw[r2.length,hM]
 have hmul:lo*sz+zs.length*sz<=aC.length*sz:=by rw[<-Nat.add_mul];exact zaF _ hle
 have aJ6:aC.length*sz<=cur.size:=by rw[h6];exact zaF _ h4
 obtain⟨w',SG,f1,f2,f3,f4,f5,f6,f7,f8⟩:=Oz P g (lo*sz) e fr us 0 cur w h3 ab (h8.imp (λh=>h) λh=>h.2) (bS.Qx hz kR);have abW:cur.toList=(c1++c2++c3)++cur.toList.drop (aC.length*sz):=by
  rw[<-Gp,<-h7,zaD]
 have akq:SG.toList=(c1++us++c3)++cur.toList.drop (aC.length*sz):=by
  rw[f3,zaM];have e1:cur.toList.take (lo*sz)=c1:=by
   rw[abW,zaj,zaj];exact zaH Oi
  have e2:cur.toList.drop (lo*sz+us.length)=c3++cur.toList.drop (aC.length*sz):=by
   conv=>lhs;rw[abW]
   rw[zaj];exact List.drop_left' (by rw[zad,Oi,Cw,ayl])
  rw[e1,e2];simp[zaj]
 have eK:(aC.take lo++zs++aC.drop (lo+zs.length)).length=aC.length:=aH;obtain⟨hs,sQ⟩:=hr.write (s':=.row e sz ap (aC.take lo++zs++aC.drop (lo+zs.length))) hb rfl rfl ⟨rfl,rfl⟩ hu rfl f4 f5 f6 f7 f8 (λsQ=>by
  have avu:SG.size=cur.size:=by
   have e1:=congrArg List.length akq;have e2:=congrArg List.length abW;simp only[zad,zac,ayl,Cw]at e1 e2;omega
  refine⟨mD,c1++us++c3,⟨?_,.inr ⟨g,c0,SG,fr,by rw[eK],h2,f2,by rw[eK];exact h4,h5,by rw[avu,h6],?_,by rw[avu];exact h8⟩⟩,?_,?_,?_⟩
  ·rw[eK,<-mE,Gp];simp only[zad,ayl,Cw]
  ·rw[eK,akq];refine zaH ?_;rw[<-mE,Gp];simp only[zad,ayl,Cw]
  ·intro z hz;simp only[zaA]at hz;rcases hz with(hz|hz)|hz
   ·exact lj z (zaL hz)
   ·exact hl z hz
   ·exact lj z (zbw hz)
  ·intro c hc;rw[Fy]at hc;rw[qY]at ayk;simp only[zaA]at hc ayk;rcases hc with(hc|hc)|hc
   ·exact ayk c (.inl (.inl hc))
   ·exact kR c hc
   ·exact ayk c (.inr hc)
  ·rw[Fy];exact(eG _ _ _).2 ⟨_,_,rfl,(eG _ _ _).2 ⟨_,_,rfl,sQ.sI r1,sQ.sI hz⟩,sQ.sI r3⟩)
 exact⟨w',f1,hs,sQ⟩
def AH(sz:Nat)(ys:List PV)(hl:∀y∈ys,y.cells.length=sz):∀n:Nat,(ys.take n).flatMap PV.cells=(ys.flatMap PV.cells).take (n*sz):=by
 induction ys with
 |nil=>simp
 |cons y ys ih=>
  intro n;cases n with
  |zero=>simp
  |succ n=>
   rw[List.take_succ_cons,zao,zao,Nat.add_mul]
   grind
def aj4{ok:Nat->Prop}(l:List PV)(vs:List Value)(n:Nat)(h:bS ok w l vs):bS ok w (l.take n) (vs.take n):=by
 obtain⟨h1,h2⟩:=(uo l vs).1 h;refine(uo _ _).2 ⟨by simp[h1],λj c v hc hv=>?_⟩
 grind
def OZ(hr:Rel cx env σ vals a w)(sz:Nat)(x:Operand)(ys:List PV)(us:List Value)(hz:bS (Ok cx σ vals w) w (ys.flatMap PV.cells) us)(kR:∀c∈ys.flatMap PV.cells,c.one=true)(hl:∀y∈ys,y.cells.length=sz){K:Nat->aF->Prop}
 (hK:NR σ sz (bK env x) ys K):∃ad len cap σ' w',a.eval x=.slice ad len cap/\K (min ys.length len) σ'/\Rel cx env σ' vals a w'/\
  ((min ys.length len=0/\w'=w)∨∃g,ad=some g/\(storeCells g (us.take (min ys.length len*sz))).run cx.P w=.ok () w'):=by
 have hx:=hr.ev x;cases sO:bK env x with
 |pv p=>
  rw[sO]at hK hx;cases p with
  |nil s=>
   simp only[RA,Rd]at hx;exact⟨none,0,0,σ,w,hx,by simpa using(show K 0 σ from hK),hr,.inl ⟨aj,rfl⟩⟩
  |_=>exact Ba
 |own id=>
  rw[sO]at hK hx;simp only[RA]at hx;obtain⟨b,hb,hk⟩:=aS σ id _ hK;cases b with
  |row e s ap aC=>
   replace hk:(match Nat.beq s sz with
    |true=>wu σ id (.row e s ap (ys.take aC.length++aC.drop ys.length)) λσ=>K (min ys.length aC.length) σ
    |false=>False):=hk
   cases hs:Nat.beq s sz with
   |false=>rw[hs]at hk;exact hk.elim
   |true=>
    rw[hs]at hk;have:=zab hs;subst this;obtain⟨_,hk⟩:=fS _ _ _ _ hk;obtain⟨_,cells,⟨_,eh⟩,_⟩:=hr.s.sV id _ _ hb hx;rcases eh with⟨Oh,h0⟩|⟨g,cap,cur,fr,Oh,_⟩
    ·have:aC=[]:=zaf h0;subst this;rw[show σ.set id (.row e s ap (ys.take ([]:List PV).length++([]:List PV).drop ys.length))=σ from by
      have aU:=(zaa.1 hb)
      apply zba;intro j;rw[nZ aU.1];split
      ·rename_i hj;subst hj;rw[hb];simp
      ·rfl]at hk
     exact⟨none,0,0,σ,w,Oh,by simpa using hk,hr,.inl ⟨aj,rfl⟩⟩
    ·obtain⟨w',f1,f2,f3⟩:=hr.s.over cx.P hb (by rw[hx,Oh]) 0 (ys.take aC.length) (us.take (aC.length*s)) (by rw[AH _ _ hl];exact aj4 _ _ _ hz)
      (λc hc=>ahP) (λy hy=>hl y (zaL hy)) aH
     have e1:aC.take 0++ys.take aC.length++aC.drop (0+(ys.take aC.length).length)=ys.take aC.length++aC.drop ys.length:=by
      rw[List.take_zero,zaZ,zaV,zal];by_cases h:ys.length<=aC.length
      ·rw[zbF h]
      ·rw[zat ab,List.drop_length,List.drop_eq_nil_of_le ab]
     rw[e1]at f2 f3;refine⟨_,_,_,_,w',Oh,hk,hr.keep f2 f3,.inr ⟨_,rfl,?_⟩⟩;rw[Nat.zero_mul]at f1;rw[<-f1];congr 2;have Vr:us.length=ys.length*s:=aab;by_cases h:ys.length<=aC.length
     ·rw[zat h,za1 ab,za1 (by rw[Vr];exact zaF _ h)]
     ·rw[zbF ab]
  |_=>exact hk.elim
 |sub id z lo n=>
  rw[sO]at hK hx;replace hK:(match Nat.beq z sz with
   |true=>g_ σ id λb=>match b with
    | .row e s ap aC=>match Nat.beq s sz with
     |true=>lo+n<=aC.length/\wu σ id (.row e s ap (aC.take lo++ys.take n++aC.drop (lo+min ys.length n))) λσ=>K (min ys.length n) σ
     |false=>False
    |_=>False
   |false=>False):=hK
  cases hs:Nat.beq z sz with
  |false=>rw[hs]at hK;exact hK.elim
  |true=>
   rw[hs]at hK;have:=zab hs;subst this;obtain⟨b,hb,hk⟩:=aS σ id _ hK;cases b with
   |row e s ap aC=>
    replace hk:(match Nat.beq s z with
     |true=>lo+n<=aC.length/\wu σ id (.row e s ap (aC.take lo++ys.take n++aC.drop (lo+min ys.length n))) λσ=>K (min ys.length n) σ
     |false=>False):=hk
    cases hs:Nat.beq s z with
    |false=>rw[hs]at hk;exact hk.elim
    |true=>
     rw[hs]at hk;have:=zab hs;subst this;obtain⟨hle,hk⟩:=hk;obtain⟨aU,hk⟩:=fS _ _ _ _ hk;simp only[RA]at hx;obtain⟨_,ad,c,Oh,mO,AQ,ld⟩:=hx;rcases ld with h0|⟨g,n0,c0,f1,rfl⟩
     ·subst h0;rw[show σ.set id (.row e s ap (aC.take lo++ys.take 0++aC.drop (lo+min ys.length 0)))=σ from by
       apply zba;intro j;rw[nZ aU];split
       ·rename_i hj;subst hj;rw[hb];simp
       ·rfl]at hk
      exact⟨ad,0,c,σ,w,Oh,hk,hr,.inl ⟨aj,rfl⟩⟩
     ·obtain⟨w',f1,f2,f3⟩:=hr.s.over cx.P hb f1 lo (ys.take n) (us.take (n*s)) (by rw[AH _ _ hl];exact aj4 _ _ _ hz)
       (λc hc=>ahP) (λy hy=>hl y (zaL hy)) aH
      rw[zal,Nat.min_comm]at f2 f3;refine⟨_,_,_,_,w',Oh,hk,hr.keep f2 f3,.inr ⟨_,rfl,?_⟩⟩;rw[<-f1];congr 2;have Vr:us.length=ys.length*s:=aab;by_cases h:ys.length<=n
      ·rw[zat h,za1 ab,za1 (by rw[Vr];exact zaF _ h)]
      ·rw[zbF ab]
   |_=>exact hk.elim
 |_=>rw[sO]at hK;exact Ba
def asG{K:AV->aF->Prop}(hr:Rel cx env σ vals a w)(t:TypeId)(x:Operand)(ho:o.op=.makeInterface t x)(d:TypeDesc)(hd:cx.P.underlying t=some d)(hn:∀m,d≠.interface m)(hK:K .bad σ):Out cx env a w o K:=by
 refine Out.run (v:=.iface t (a.eval x)) ?_ hr (av:=.bad) (by trivial) hK
  <;>first|exact absurd rfl (hn _)|simp[execOp,ho,Instr.makeInterface,run_underlying hd]
def ado(l:List UInt8)(n:Nat):((((⟨l.toArray⟩:ByteArray).extract 0 n).data.map λb=>Value.int .u8 b.toNat)).toList=(strCells ⟨l.toArray⟩).take n:=by
 simp[strCells,cut]
def asd{K:AV->aF->Prop}(hr:Rel cx env σ vals a w)(t u e:TypeId)(ie:TypeInfo)(x y:Operand)(c:Call)(ho:o.op=.call c)(hc:c.callee=.builtin .copy)(cP:c.args.toList=[x,y])(IF:c.argTypes.toList=[t,u])
 (hu:cx.P.underlying t=some (.slice e)) (Ct:cx.P.info? e=some ie) (mD:ie.size=1)
 (hK:match bK env y with
   | .pv y=>match y with
    | .str l=>NR σ 1 (bK env x) (l.map aL) λn σ=>K (.pv (.int .i64 n)) σ
    |_=>False
   |_=>False):Out cx env a w o K:=by
 have je:c.args= #[x,y]:=bf;have abV:c.argTypes= #[t,u]:=bf;have hy:=hr.ev y
 revert hK hy
 cases bK env y with
 |pv p=>
  cases p with
  |str l=>
   intro hK hy;simp only[RA,Rd]at hy;obtain⟨ad,len,cap,σ',w',hv,hk,ic,hw⟩:=OZ hr 1 x (l.map aL) (strCells ⟨l.toArray⟩) (by rw[l_,EJ];rfl)
    (by rw[l_];intro c hc;rw[zaX]at hc;obtain⟨b,_,rfl⟩:=hc;rfl) (by intro y hy;rw[zaX]at hy;obtain⟨b,_,rfl⟩:=hy;rfl) hK
   rw[zaw]at hk hw;refine Out.run (v:=.int .i64 (min l.length len:Nat)) (w':=w') ?_ ic (av:=.pv (.int .i64 (min l.length len:Nat))) (by rfl) hk;have hs:(⟨l.toArray⟩:ByteArray).size=l.length:=rfl;rcases hw with⟨h0,rfl⟩|⟨g,rfl,hw⟩
   ·have hm:Nat.min l.length len=0:=h0;cases ad with
    |none=>simp[execOp,ho,resolve,hc,invoke,builtin,je,abV,hy,hv,Builtin.copy_,Builtin.lenOf,Builtin.firstCells,run_underlying hu,sizeOf,typeInfo,Ct,hs,goInt,hm,h0]
    |some g=>
     have he:((⟨l.toArray⟩:ByteArray).extract 0 0).data.map (λb=>Value.int .u8 b.toNat)= #[]:=by
      simp
     simp[execOp,ho,resolve,hc,invoke,builtin,je,abV,hy,hv,Builtin.copy_,Builtin.lenOf,Builtin.firstCells,run_underlying hu,sizeOf,typeInfo,Ct,hs,goInt,hm,h0,he,storeCells]
   ·have fM:=ado l (min l.length len);have hm:Nat.min l.length len=min l.length len:=rfl;simp[execOp,ho,resolve,hc,invoke,builtin,je,abV,hy,hv,Builtin.copy_,Builtin.lenOf,Builtin.firstCells,run_underlying hu,sizeOf,typeInfo,Ct,hs,goInt,hm]
    simp_all
  |_=>simp
 |_=>simp
def axf{K:AV->aF->Prop}(hr:Rel cx env σ vals a w)(t u e:TypeId)(ie:TypeInfo)(x y:Operand)(c:Call)(ho:o.op=.call c)(hc:c.callee=.builtin .copy)(cP:c.args.toList=[x,y])(IF:c.argTypes.toList=[t,u])
 (hu:cx.P.underlying t=some (.slice e)) (Ct:cx.P.info? e=some ie)
 (hK:Ef σ (bK env y) λs ys=>match Nat.beq s ie.size with
   |true=>NR σ ie.size (bK env x) ys λn σ=>K (.pv (.int .i64 n)) σ
   |false=>False):Out cx env a w o K:=by
 have je:c.args= #[x,y]:=bf;have abV:c.argTypes= #[t,u]:=bf;obtain⟨s,ys,⟨E5,cy,vF,aOq,_,ly⟩,hK⟩:=FT hr.s (hr.ev y) hK;cases hs:Nat.beq s ie.size with
 |false=>grind
 |true=>
  rw[hs]at hK;have:=zab hs;subst this;obtain⟨news,eK,sH,h1,hl,IG⟩:∃news:List Value,news.length=ys.length*ie.size/\bS (Ok cx σ vals w) w (ys.flatMap PV.cells) news/\(∀c∈ys.flatMap PV.cells,c.one=true)/\(∀y∈ys,y.cells.length=ie.size)/\
   (ys.length=0∨∃a,E5=some a∧∀(j:Nat) (u:Value),news[j]?=some u->w.cell? (a.add j)=some u):=by
   rcases ly with rfl|⟨b,o',rfl,ly⟩
   ·exact⟨[],aj,Fo,aj,aj,.inl rfl⟩
   ·obtain⟨g1,g2⟩:=(tq b _ ys o').1 ly;obtain⟨g3,us,g4,g5⟩:=(ER b _ o').1 g2;exact⟨us,by rw[g4.length,fv _ _ g1],g4,g3,g1,.inr ⟨_,rfl,λj u hj=>by rw[ik];grind⟩⟩
  obtain⟨ad,len,cap,σ',w',hv,hk,ic,hw⟩:=OZ hr ie.size x ys news sH h1 hl hK;have wM:∃arr:Array Value,arr.toList=news.take (min ys.length len*ie.size)/\(Builtin.firstCells ie.size (min ys.length len) (.slice E5 ys.length cy)).run cx.P w=.ok arr w:=by
   rcases IG with h0|⟨g,rfl,hn⟩
   ·have vH:min ys.length len=0:=by omega
    rw[vH];cases E5 with
    |none=>exact⟨#[],aj,by rfl⟩
    |some g=>exact⟨#[],aj,by
     have:=run_loadCells_list (P:=cx.P) w g [] aj;simp only[zaY]at this;simp[Builtin.firstCells,this]⟩
   ·have:=run_loadCells_list (P:=cx.P) w g (news.take (min ys.length len*ie.size)) (λj v hj=>by
     grind)
    have hlen:(news.take (min ys.length len*ie.size)).length=min ys.length len*ie.size:=by
     simp_all
    rw[hlen]at this;exact⟨(news.take (min ys.length len*ie.size)).toArray,aj,aA⟩
  obtain⟨arr,UE,wM⟩:=wM;refine Out.run (v:=.int .i64 (min ys.length len:Nat)) (w':=w') ?_ ic (av:=.pv (.int .i64 (min ys.length len:Nat))) (by rfl) hk;have aCZ:a.eval y=.slice E5 ys.length cy:=vF;have hm:Nat.min ys.length len=min ys.length len:=rfl;rcases hw with⟨h0,rfl⟩|⟨g,rfl,hw⟩
  ·have ha:arr= #[]:=by simp_all
   subst ha;cases ad with
   |none=>simp[execOp,ho,resolve,hc,invoke,builtin,je,abV,aCZ,hv,Builtin.copy_,Builtin.lenOf,run_underlying hu,sizeOf,typeInfo,Ct,hm,wM,goInt]
   |some g=>simp[execOp,ho,resolve,hc,invoke,builtin,je,abV,aCZ,hv,Builtin.copy_,Builtin.lenOf,run_underlying hu,sizeOf,typeInfo,Ct,hm,wM,goInt,storeCells]
  ·rw[<-UE]at hw;simp[execOp,ho,resolve,hc,invoke,builtin,je,abV,aCZ,hv,Builtin.copy_,Builtin.lenOf,run_underlying hu,sizeOf,typeInfo,Ct,hm,wM,goInt,hw]
def Z8(zv:Array Value)(sz n:Nat)(hz:zv.size=sz):(Builtin.zeroCells zv n).toList=(List.replicate n zv.toList).flatten:=by
 apply zba;intro j;by_cases hj:j<n*sz
 ·have h0:0<sz:=by grind
  have aJV:j%sz<zv.size:=by rw[hz];exact Nat.mod_lt _ h0
  have:((List.replicate n zv.toList).flatten)[j]?=zv.toList[j%sz]?:=by
   have hg:∀n j,j<n*zv.toList.length->((List.replicate n zv.toList).flatten)[j]?=zv.toList[j%zv.toList.length]?:=by
    intro n
    induction n with
    |zero=>omega
    |succ n ih=>
     intro j h;rw[List.replicate_succ,List.flatten_cons];by_cases hj:j<zv.toList.length
     ·rw[zar hj,Nat.mod_eq_of_lt hj]
     ·rw[zak ab,ih _ bf,<-Nat.mod_eq_sub_mod ab]
   grind
  simp only[Builtin.zeroCells,hz]
  grind
 ·rw[zaK (by simp[Builtin.zeroCells,hz];omega),zaK nq]
def axw{K:AV->aF->Prop}(hr:Rel cx env σ vals a w)(t e:TypeId)(ie:TypeInfo)(z:PV)(x:Operand)(c:Call)(ho:o.op=.call c)(hc:c.callee=.builtin .clear)(cP:c.args.toList=[x])(IF:c.argTypes[0]?=some t)
 (hu:cx.P.underlying t=some (.slice e)) (Ct:cx.P.info? e=some ie) (hz:gQ cx.P e=some z) (Jd:z.cells.length=ie.size)
 (hK:Ef σ (bK env x) λ_ aC=>NR σ ie.size (bK env x) (List.replicate aC.length z) λ_ σ=>K .bad σ):Out cx env a w o K:=by
 have je:c.args= #[x]:=bf;obtain⟨i,zv,hi,gX,h1,h2,h3⟩:=yc hz;rw[Ct]at hi;cases hi;obtain⟨s,aC,⟨oD,lB,Ut,_⟩,hK⟩:=FT hr.s (hr.ev x) hK;have gH:zv.cells.size=ie.size:=QW;have akn:(List.replicate aC.length z).flatMap PV.cells=(List.replicate aC.length z.cells).flatten:=by
  rw[List.flatMap_def,List.map_replicate]
 have rT:bS (Ok cx σ vals w) w ((List.replicate aC.length z).flatMap PV.cells) (List.replicate aC.length zv.cells.toList).flatten:=by
  rw[akn];generalize aC.length=n
  induction n with
  |zero=>rfl
  |succ n ih=>exact(eG _ _ _).2 ⟨_,_,rfl,h2 _ _,ih⟩
 obtain⟨ad,len,cap,σ',w',hv,hk,ic,hw⟩:=OZ hr ie.size x _ _ rT
  (λc hc=>bf)
  (λy hy=>bf) hK
 rw[Ut]at hv;cases hv;rw[List.length_replicate,Nat.min_self]at hw;refine Out.run (v:=.tuple #[]) (w':=w') ?_ ic (av:=.bad) (by trivial) hk;have vK:=Z8 zv.cells ie.size aC.length gH;have amR:a.eval x=.slice oD aC.length lB:=Ut;rcases hw with⟨h0,rfl⟩|⟨g,rfl,hw⟩
 ·rw[h0]at amR;cases oD with
  |none=>simp[execOp,ho,resolve,hc,invoke,builtin,je,IF,amR,Builtin.clear_,run_underlying hu]
  |some g=>simp[execOp,ho,resolve,hc,invoke,builtin,je,IF,amR,Builtin.clear_,run_underlying hu]
 ·rw[za1 nq,<-vK]at hw;cases hn:aC.length with
  |zero=>
   rw[hn]at hw amR;simp[Builtin.zeroCells,storeCells]at hw;subst hw;simp[execOp,ho,resolve,hc,invoke,builtin,je,IF,amR,Builtin.clear_,run_underlying hu]
  |succ m=>
   rw[hn]at hw amR;simp[execOp,ho,resolve,hc,invoke,builtin,je,IF,amR,Builtin.clear_,run_underlying hu,zeroValue,typeInfo,Ct,gX,hw]
def ajU(hr:dH cx σ vals w){id:Nat}{e:TypeId}{sz:Nat}{ap:Bool}{aC:List PV}(hb:σ[id]?=some (.row e sz ap aC)){v:Value}(hv:RA (Ok cx σ vals w) σ vals w (.ref id 0 0) v)(hn:0<aC.length):
 ∃g c,v=.pointer (some ⟨g,0,none⟩)/\vals[id]?=some (.slice (some ⟨g,0,none⟩) aC.length c)/\aC.length<=c/\c<=maxLen:=by
 obtain⟨_,_,ly,_⟩:=hv;obtain⟨u,g,hu,hg,rfl⟩:=ly _ _ _ _ hb;obtain⟨_,cells,⟨_,eh⟩,_⟩:=hr.sV id _ _ hb hu;rcases eh with⟨_,h0⟩|⟨g',cap,cur,fr,Oh,_,_,h4,h5,_⟩
 ·omega
 ·subst Oh;cases hg
  grind
def aoM{K:AV->aF->Prop}(hr:Rel cx env σ vals a w)(t:TypeId)(q:PV×Nat)(x ix:Operand)(ho:o.op=.indexAddr t x ix)(hq:C_ cx.P t=some q)
 (hK:Dv.asInt (bK env ix) λ_ n=>SO σ q.2 1 (bK env x) n λa=>K a σ):Out cx env a w o K:=by
 obtain⟨el,i,it,vs,hu,hi,mD,kW,hz,ayh,h8,kj⟩:=Hb hq;have hx:=hr.ev x;have XM:=hr.ev ix;cases avg:bK env ix with
 |pv pi=>
  rw[avg]at hK XM;cases pi with
  |int k n=>
   simp only[RA,Rd]at XM;cases sO:bK env x with
   |ref id idx off=>
    rw[sO]at hK hx;cases idx with
    |succ idx=>trivial
    |zero=>
     cases off with
     |succ off=>trivial
     |zero=>
      obtain⟨b,hb,hk⟩:=aS σ id _ (show g_ σ id _ from hK);cases b with
      |row e s ap aC=>
       replace hk:(match Nat.beq s 1 with
        |true=>(aC.length=q.2/\0<=n/\n.toNat<q.2)/\K (.ref id n.toNat 0) σ
        |false=>False):=hk
       cases hs:Nat.beq s 1 with
       |false=>grind
       |true=>
        have:=zab hs;subst this;obtain⟨⟨hl,h0,aU⟩,hk⟩:=hk;obtain⟨g,c,hv,rS,_,_⟩:=ajU hr.s hb hx ab;refine Out.run (v:=.pointer (some ⟨g,n.toNat,none⟩)) ?_ hr (av:=.ref id n.toNat 0) ?_ hk
        ·have aym:n<(q.2:Int):=by omega
         simp[execOp,ho,hv,XM,Instr.indexAt,Instr.sureAddr,asIntOf,run_underlying hu,h0,aym,sizeOf,typeInfo,hi,mD,ik]
        ·refine⟨(zaa.1 hb).1,⟨_,rfl⟩,λe2 y8 tc abR h=>?_,λs2 h t_=>?_⟩
         ·rw[hb]at h;cases h;exact⟨_,g,rS,rfl,aj⟩
         ·rw[hb]at h;cases h;cases t_
      |_=>grind
   |_=>rw[sO]at hK;trivial
  |_=>trivial
 |_=>rw[avg]at hK;trivial
def auo{K:AV->aF->Prop}(hr:Rel cx env σ vals a w)(t:TypeId)(q:PV×Nat)(x:Operand)(lo hi:Option Operand)(ho:o.op=.slice t x lo hi none)(hq:C_ cx.P t=some q)
 (hK:ay8 σ q.2 1 (bK env x) (lo.map (bK env)) (hi.map (bK env)) K):Out cx env a w o K:=by
 obtain⟨el,i,it,vs,hu,Vp,mD,kW,hz,ayh,h8,kj⟩:=Hb hq;have hx:=hr.ev x;cases sO:bK env x with
 |ref id idx off=>
  rw[sO]at hK hx;cases idx with
  |succ idx=>trivial
  |zero=>
   cases off with
   |succ off=>trivial
   |zero=>
    obtain⟨b,hb,hk⟩:=aS σ id _ (show g_ σ id _ from hK);cases b with
    |row e s ap aC=>
     cases hs:Nat.beq s 1 with
     |false=>grind
     |true=>
      have:=zab hs;subst this;obtain⟨hl,hk⟩:=hk;obtain⟨g,c,hv,rS,Oi,Cw⟩:=ajU hr.s hb hx ab;obtain⟨l,u,h1,h2,h3,h4⟩:=tJ hr lo hi false q.2 q.2 (zai _) _ hk;refine Out.run (v:=.slice (some (if q.2=l then⟨g,0,none⟩else(⟨g,0,none⟩:Addr).add (l*1))) (u-l) (q.2-l)) ?_ hr (av:=.sub id 1 l (u-l)) ?_ h3
      ·simp[execOp,ho,hv,Instr.sliceAt,Instr.sureAddr,run_underlying hu,h4,sizeOf,typeInfo,Vp,mD]
      ·refine⟨(zaa.1 hb).1,_,_,rfl,ab,ab,?_⟩;by_cases E2:u-l=0
       ·omega
       ·refine .inr ⟨g,_,c,rS,?_⟩;rw[if_neg ab,ik];simp
    |_=>grind
 |_=>rw[sO]at hK;trivial
def as6(P:Program)(t:TypeId)(x i:Operand)(q:Nat×Bool×Nat)(ho:o.op=.indexAddr t x i)(hq:Kj P t i=some q)(b n:Nat)(hv:a.eval x=.pointer (some ⟨b,n,none⟩)):
 (execOp a.eval o).run P w=.ok (.value (.pointer (some ⟨b,n+q.1,none⟩))) w:=by
 unfold Kj at hq;split at hq
 ·rename_i m e hu;split at hq
  ·split at hq
   ·rename_i kd k;obtain⟨s,hs,hq⟩:=Gf hq;unfold oV at hq;split at hq
    ·rename_i hb;cases hq;simp only[zaU,decide_eq_true_eq]at hb;obtain⟨j,hj,wK⟩:=(xU hs).info;have sO:a.eval (.const (.int kd k))=.int kd k:=rfl;have aU:k<(m:Int):=ab;simp[execOp,ho,hv,sO,Instr.indexAt,Instr.sureAddr,asIntOf,run_underlying hu,hb.1.1,aU,sizeOf,typeInfo,hj,wK,ik]
    grind
   grind
  grind
 grind
end
end
end Go.Dv
namespace Go.Dv
open Go.RowKit
section
section
variable {cx:Cx} {env:Env} {σ:aF} {vals:List Value} {a:Act} {w w':World} {o:Oper}
def af7{P:Program}(w:World)(d:Nat)(t e:TypeId)(ad:Option Addr)(n c:Nat)(ht:P.underlying t=some (.slice e)):(Op.equalIn (d+1) t (.slice ad n c) (.slice none 0 0)).run P w=.ok ad.isNone w:=by
 cases ad<;>simp[Op.equalIn,run_underlying ht]
def aqz{P:Program}(w:World)(neg:Bool)(t u:TypeId)(x y:Operand)(e:TypeId)(ad:Option Addr)(n c:Nat)(ht:P.underlying t=some (.slice e))(ρ:Operand->Value)(hx:ρ x=.slice ad n c)(hy:ρ y=.slice none 0 0)(ho:o.op=.binOp (if neg then .neq else .eql) t x y u):
 (execOp ρ o).run P w=.ok (.value (.bool (xor ad.isNone neg))) w:=by
 have he:(Op.equalIn 10000 t (.slice ad n c) (.slice none 0 0)).run P w=.ok ad.isNone w:=af7 w 9999 t e ad n c ht;cases neg with
 |false=>cases ad<;>simp[execOp,ho,hx,hy,eqGuard,binOp,Op.equal,he,Op.maxDepth,Sem.run_bind,Sem.run_pure]
 |true=>cases ad<;>simp[execOp,ho,hx,hy,eqGuard,binOp,Op.equal,he,Op.maxDepth,Sem.run_bind,Sem.run_pure]
def aeG{K:AV->aF->Prop}(hr:Rel cx env σ vals a w)(neg:Bool)(t u e:TypeId)(x y:Operand)(ho:o.op=.binOp (if neg then .neq else .eql) t x y u)(ht:cx.P.underlying t=some (.slice e))(hy:JK y=true)
 (hK:aGg σ (bK env x) λr=>K (.pv (.bool (xor r neg))) σ):Out cx env a w o K:=by
 have vO:a.eval y=.slice none 0 0:=by
  unfold JK at hy;split at hy
  ·rfl
  ·cases hy
 have hx:=hr.ev x;have fin:∀(ad:Option Addr) (n c:Nat) (r:Bool),a.eval x=.slice ad n c->r=ad.isNone->K (.pv (.bool (xor r neg))) σ->Out cx env a w o K:=by
  intro ad n c r hv ic hk;subst ic;exact Out.run (v:=.bool (xor ad.isNone neg)) (aqz w neg t u x y e ad n c ht a.eval hv vO ho) hr (av:=.pv (.bool (xor ad.isNone neg))) jc hk
 have sl:∀(aC:List PV) (sz:Nat),Rd (Ok cx σ vals w) w (.sl sz aC) (a.eval x)->(∀r:Bool,(aC≠[]->r=false)->K (.pv (.bool (xor r neg))) σ)->Out cx env a w o K:=by
  intro aC sz h hk;simp only[Rd]at h;obtain⟨ad,c,hv,_,_,h4⟩:=h;refine fin ad _ c _ hv rfl (hk _ λdI=>?_);rcases h4 with h4|⟨b,of,rfl,_⟩
  ·exact absurd h4 dI
  ·rfl
 revert hK hx
 cases bK env x with
 |pv px=>
  intro hK hx;simp only[RA]at hx;cases px with
  |nil sz=>simp only[Rd]at hx;exact fin none 0 0 true hx rfl hK
  |sl sz aC=>exact sl aC sz hx hK
  |_=>exact hK.elim
 |own id=>
  intro hK hx;simp only[RA]at hx;obtain⟨b,hb,hK⟩:=aS σ id _ hK;cases b with
  |row e2 sz ap aC=>
   obtain⟨_,cells,⟨hl,OT⟩,_⟩:=hr.s.sV id _ _ hb hx;rcases OT with⟨hv,h0⟩|⟨g,cap,cur,fr,hv,_⟩
   ·refine fin none 0 0 true hv rfl (hK _ λdI=>?_);exact absurd (zaf h0) dI
   ·exact fin _ _ _ false hv rfl (hK _ λ_=>rfl)
  |fz z=>
   cases z with
   |sl sz aC=>exact sl aC sz (hr.s.sV id _ _ hb hx) hK
   |_=>exact hK.elim
  |_=>exact hK.elim
 |_=>intro hK;exact hK.elim
def ah8{K:AV->aF->Prop}(hr:Rel cx env σ vals a w)(t e:TypeId)(x i:Operand)(m sz:Nat)(ag:Bool)(n:Nat)(ho:o.op=.index t x i)(hu:cx.P.underlying t=some (.array m e))(hs:Shape cx.P e ag sz)(hn:n=if ag then sz else 1)
 (hK:Dv.asInt (bK env i) λ_ k=>(0<=k/\k.toNat<m)/\match bK env x with
   | .pv x=>match x with
    | .agg cs=>HX (Nat.mul k.toNat sz) ag n cs λr=>K (.pv r) σ
    |_=>False
   | .agg cs=>Ii (Nat.mul k.toNat sz) cs λr=>J7 n r λt=>Nz ag t λa=>K a σ
   |_=>False):Out cx env a w o K:=by
 have hi:=hr.ev i
 revert hK hi
 cases bK env i with
 |pv pi=>
  cases pi with
  |int kd k=>
   intro hK hi;simp only[RA,Rd]at hi;obtain⟨hk,hK⟩:=hK;obtain⟨j,hj,wK⟩:=hs.info;refine Yx hr x e (k.toNat*sz) ag n (λarr v hv hp=>?_) ⟨_,hs,hn⟩ hK;have aU:k<(m:Int):=ab;simp[execOp,ho,hv,hi,Instr.index,asIntOf,run_underlying hu,hk.1,aU,sizeOf,typeInfo,hj,wK,hp]
  |_=>intro hK;exact hK.elim
 |_=>intro hK;exact hK.elim
def asM{K:AV->aF->Prop}(hr:Rel cx env σ vals a w)(t e:TypeId)(x i:Operand)(m sz:Nat)(ag:Bool)(ho:o.op=.indexAddr t x i)(hu:cx.P.underlying t=some (.array m e))(hs:Shape cx.P e ag sz)
 (hK:Dv.asInt (bK env i) λ_ k=>(0<=k/\k.toNat<m)/\UU σ (Nat.mul k.toNat sz) (bK env x) λa=>K a σ):Out cx env a w o K:=by
 have hi:=hr.ev i
 revert hK hi
 cases bK env i with
 |pv pi=>
  cases pi with
  |int kd k=>
   intro hK hi;simp only[RA,Rd]at hi;obtain⟨hk,hK⟩:=hK;obtain⟨j,hj,wK⟩:=hs.info;refine aaI hr x (k.toNat*sz) (λb n hv=>?_) hK;have aU:k<(m:Int):=ab;simp[execOp,ho,hv,hi,Instr.indexAt,Instr.sureAddr,asIntOf,run_underlying hu,hk.1,aU,sizeOf,typeInfo,hj,wK,ik]
  |_=>intro hK;exact hK.elim
 |_=>intro hK;exact hK.elim
def amA{K:AV->aF->Prop}(hr:Rel cx env σ vals a w)(t e:TypeId)(m sz:Nat)(ag:Bool)(parts:Array (Nat×Operand))(cs:List PV)(ho:o.op=.build t parts)(hu:cx.P.underlying t=some (.array m e))(hz:gQ cx.P t=some (.agg cs))(hs:Shape cx.P e ag sz)
 (hK:Me env (parts.toList.map λp=>(p.1*sz,sz,p.2)) λps=>abh cs λz=>SS z ps λcs=>aqx cs λa=>K a σ):Out cx env a w o K:=by
 obtain⟨i,zv,hi,gX,h1,h2,h3⟩:=yc hz;have hK:=tR _ _ (Qr env _ _ hK);obtain⟨j,hj,wK⟩:=hs.info;obtain⟨z',arr,g1,g2,g3,g4⟩:=aog hr (λx=>some (x*sz,sz)) parts.toList (parts.toList.map λp=>(p.1*sz,sz,p.2)) (cs.map .pv) zv.cells _ aj ((iw _ _).2 (h2 _ _)) (λc hc=>ajx) hK;have amP:cx.P.built t (parts.map λp=>(p.1,a.eval p.2)).toList=some arr:=by
  simp only[Program.built,hi,hu,gX,hj,Array.toList_map,wK];rw[<-g2]
 have cL:(execOp a.eval o).run cx.P w=.ok (.value (.agg arr)) w:=by
  have:=run_build (P:=cx.P) w t (parts.map λp=>(p.1,a.eval p.2)) arr amP;simp only[execOp,ho,Sem.run_bind,this,Result.andThen_ok,Sem.run_pure]
 rcases TP z' _ g1 with⟨l,rfl,hk⟩|hk
 ·refine Out.run cL hr (av:=.pv (.agg l)) ?_ hk;simp only[RA,Rd];exact⟨λc hc=>g4 (.pv c) BH,arr,rfl,(iw _ _).1 g3⟩
 ·refine Out.run cL hr (av:=.agg z') ?_ hk;simp only[RA];exact⟨g4,arr,rfl,g3⟩
end
end
end Go.Dv
namespace Go.Dv
open Go.RowKit
open Go.MapKept
section
section
variable {cx:Cx} {env:Env} {σ:aF} {vals:List Value} {a:Act} {w w':World} {o:Oper}
def Md:∀(l:List (Int×Bool)) (es:List MapEntry) (n:Int) (i:Nat),es.map (λe=>(e.key,e.val))=l.map (λp=>(Value.int .i64 p.1,Value.bool p.2))->
 ∃j,Instr.findNow (.int .i64) (.int .i64 n) es i=some ((aP l n).map λb=>(j,Value.bool b))
 |[],es,n,i,h=>by
  cases es with
  |nil=>exact⟨0,rfl⟩
  |cons e es=>simp at h
 |p::l,es,n,i,h=>by
  cases es with
  |nil=>simp at h
  |cons e es=>
   simp only[zau,List.cons.injEq,Prod.mk.injEq]at h;obtain⟨⟨h1,h2⟩,h3⟩:=h;have hl:aP (p::l) n=(match decide (n=p.1)with|true=>some p.2|false=>aP l n):=rfl;simp only[Instr.findNow,h1,Instr.sameNow,if_true];rw[hl];by_cases hn:n=p.1
   ·subst hn;refine⟨i,?_⟩;simp[h2]
   ·obtain⟨j,hj⟩:=Md l es n (i+1) h3;refine⟨j,?_⟩;have hb:(n==p.1)=false:=by simpa using hn
    simp[hn,hj,hb]
def aqf{P:Program}(w:World)(t kt et:TypeId)(c:Bool)(b:Nat)(es:Array MapEntry)(FV:Nat)(l:List (Int×Bool))(n:Int)(ht:P.underlying t=some (.map kt et))(hk:P.underlying kt=some (.int .i64))(i:TypeInfo)(hi:P.info? et=some i)(hz:i.zero=some (.bool false))
 (hb:w.heap[b]?=some (.map es FV)) (hm:Zj es l):
 (Instr.lookup t (.map (some b)) (.int .i64 n) c).run P w=.ok (if c then .tuple #[.bool ((aP l n).getD false),.bool (aP l n).isSome]else .bool ((aP l n).getD false)) w:=by
 obtain⟨j,hj⟩:=Md l es.toList n 0 hm;have hf:=run_findKey (P:=P) (w:=w) hk hj;have hc:=run_checkKey (P:=P) (w:=w) (k:=.int .i64 n) hk (by simp[IsKey]) es.isEmpty 9999;have hg:(getObj b).run P w=.ok (.map es FV) w:=MapKept.run_getObj_map hb;have hc:(Instr.checkKey es.isEmpty 10000 kt (.int .i64 n)).run P w=.ok () w:=hc;unfold Instr.lookup;cases hl:aP l n with
 |none=>
  rw[hl]at hf;cases c<;>simp only[Sem.run_bind,run_underlying ht,Result.andThen_ok,hg,hc,hf,Sem.run_pure]<;>simp[zeroValue,run_typeInfo w hi,hz]
 |some v=>
  rw[hl]at hf;cases c<;>simp only[Sem.run_bind,run_underlying ht,Result.andThen_ok,hg,hc,hf,Sem.run_pure]<;>simp
def asx{K:AV->aF->Prop}(hr:Rel cx env σ vals a w)(c:Bool)(t kt et:TypeId)(x k:Operand)(i:TypeInfo)(ho:o.op=.lookup t x k c)(ht:cx.P.underlying t=some (.map kt et))(hk:cx.P.underlying kt=some (.int .i64))(hi:cx.P.info? et=some i)(hz:i.zero=some (.bool false))
 (hK:aor σ c (bK env x) (bK env k) λr=>K r σ):Out cx env a w o K:=by
 have hx:=hr.ev x;have hy:=hr.ev k
 revert hK hx hy
 cases bK env x with
 |own id=>
  intro hK hx hy;obtain⟨b,h1,h2⟩:=aS _ _ _ hK;cases b with
  |mp l=>
   revert h2 hy
   cases bK env k with
   |pv y=>
    cases y with
    |int kd n=>
     cases kd with
     |i64=>
      intro hy h2;simp only[RA]at hx;simp only[RA,Rd]at hy;have hs:=hr.s.sV id _ _ h1 hx;obtain⟨b,es,FV,hv,_,hb,hm⟩:=hs;have cL:=aqf w t kt et c b es FV l n ht hk i hi hz hb hm;cases c with
      |true=>
       refine Out.run (v:=.tuple #[.bool ((aP l n).getD false),.bool (aP l n).isSome]) ?_ hr (av:=.tup [.pv (.bool ((aP l n).getD false)),.pv (.bool (aP l n).isSome)]) (by simp only[RA,fY,Rd];exact⟨_,rfl,_,_,rfl,rfl,_,_,rfl,rfl,rfl⟩) h2;simp[execOp,ho,hv,hy,cL]
      |false=>
       refine Out.run (v:=.bool ((aP l n).getD false)) ?_ hr (av:=.pv (.bool ((aP l n).getD false))) jc h2;simp[execOp,ho,hv,hy,cL]
     |_=>intro _ h2;exact h2.elim
    |_=>intro _ h2;exact h2.elim
   |_=>intro _ h2;exact h2.elim
  |_=>exact h2.elim
 |_=>intro hK;exact hK.elim
end
end
end Go.Dv
namespace Go.Dv
open Go.RowKit
section
section
variable {cx:Cx} {env:Env} {σ:aF} {vals:List Value} {a:Act} {w w':World} {o:Oper}
def Tc:aF->List Nat->Nat->List Nat
 |[],_,_=>[]
 |_::σ,a::r,L=>a::Tc σ r L
 |_::σ,[],L=>L::Tc σ [] (L+1)
def aoU(σ:aF):∀(r:List Nat) (L:Nat) (K:List Nat->Prop),aEQ σ r L K->K (Tc σ r L):=by
 induction σ with
 |nil=>intro r L K h;exact h
 |cons s σ ih=>
  intro r L K h;cases r with
  |nil=>exact ih [] (L+1) _ h
  |cons a r=>exact ih r L _ h
def atz(σ:aF):∀(r:List Nat) (L:Nat),(Tc σ r L).length=σ.length:=by
 induction σ with
 |nil=>intro r L;rfl
 |cons s σ ih=>intro r L;cases r<;>simp[Tc,ih]
def Dt(σ:aF):∀(r:List Nat) (L j:Nat),j<r.length->j<σ.length->(Tc σ r L)[j]?=r[j]?:=by
 induction σ with
 |nil=>simp
 |cons s σ ih=>
  intro r L j h1 h2;cases r with
  |nil=>grind
  |cons a r=>
   cases j with
   |zero=>rfl
   |succ j=>simpa[Tc]using ih r L j bf bf
def Da(σ:aF):∀(r:List Nat) (L j:Nat),r.length<=j->j<σ.length->(Tc σ r L)[j]?=some (L+(j-r.length)):=by
 induction σ with
 |nil=>simp
 |cons s σ ih=>
  intro r L j h1 h2;cases r with
  |nil=>
   cases j with
   |zero=>rfl
   |succ j=>
    have:=ih [] (L+1) j aj bf;simp only[Tc,zbI,this,zaY]
    grind
  |cons a r=>
   cases j with
   |zero=>grind
   |succ j=>
    have:=ih r L j bf bf;simp only[Tc,zbI,this,zam];simp
def aeb(ρ:List Nat):∀(x:AV) (K:AV->Prop),ax_ ρ x K→∃y,K y/\Ren ρ y x:=by
 intro x;refine AV.rec (motive_1:=λx=>∀K:AV->Prop,ax_ ρ x K→∃y,K y/\Ren ρ y x)
  (motive_2:=λxs=>∀K:List AV->Prop,(AV.rec_1 (motive_1:=λ_=>(AV->Prop)->Prop) (motive_2:=λ_=>(List AV->Prop)->Prop)
    (λK=>K .bad) (λx K=>K (.pv x)) (λid K=>g_ ρ id λj=>K (.own j)) (λid i o K=>g_ ρ id λj=>K (.ref j i o)) (λid s l n K=>g_ ρ id λj=>K (.sub j s l n))
    (λ_ ih K=>ih λl=>K (.agg l)) (λ_ ih K=>ih λl=>K (.tup l)) (λf _ ih K=>ih λl=>K (.clo f l)) (λK=>K []) (λ_ _ h t K=>h λa=>t λl=>K (a::l)) xs:(List AV->Prop)->Prop) K→∃ys,K ys/\kC ρ ys xs)
  ?_ ?_ ?_ ?_ ?_ ?_ ?_ ?_ ?_ ?_ x
 ·intro K h;exact⟨_,h,by rfl⟩
 ·intro x K h;exact⟨_,h,by rfl⟩
 ·intro id K h;obtain⟨j,h1,h2⟩:=aS _ _ _ h;exact⟨_,h2,n6⟩
 ·intro id i o K h;obtain⟨j,h1,h2⟩:=aS _ _ _ h;exact⟨_,h2,n6⟩
 ·intro id s l n K h;obtain⟨j,h1,h2⟩:=aS _ _ _ h;exact⟨_,h2,n6⟩
 ·intro cs ih K h;obtain⟨bs,h1,h2⟩:=ih _ h;exact⟨_,h1,n6⟩
 ·intro cs ih K h;obtain⟨bs,h1,h2⟩:=ih _ h;exact⟨_,h1,n6⟩
 ·intro f cs ih K h;obtain⟨bs,h1,h2⟩:=ih _ h;exact⟨_,h1,n6⟩
 ·intro K h;exact⟨[],h,by rfl⟩
 ·intro x xs h1 h2 K h;obtain⟨b,h3,h4⟩:=h1 _ h;obtain⟨bs,h5,h6⟩:=h2 _ h3;exact⟨_,h5,by simp only[kC];grind⟩
def alG(ρ:List Nat)(xs:List AV):∀(K:List AV->Prop),ayT ρ xs K→∃ys,K ys/\kC ρ ys xs:=by
 induction xs with
 |nil=>intro K h;exact⟨[],h,by rfl⟩
 |cons x xs ih=>
  intro K h;obtain⟨b,h3,h4⟩:=aeb ρ x _ h;obtain⟨bs,h5,h6⟩:=ih _ h3;exact⟨_,h5,by simp only[kC];grind⟩
def Ya(ρ:List Nat)(s:dC)(K:dC->Prop)(h:azi ρ s K):∃t,K t/\Gj ρ t s:=by
 cases s with
 |box e cs=>
  obtain⟨ds,h1,h2⟩:=alG ρ cs _ h;exact⟨_,h1,cs,rfl,h2⟩
 |_=>exact⟨_,h,rfl⟩
def ama(ρ:List Nat)(σ1:aF):∀(r:List Nat) (σ:aF) (K:aF->Prop),anJ ρ σ1 r σ K->r.Nodup->(∀i∈r,i<σ.length)->r.length<=σ1.length->
 ∃σ2,K σ2/\σ2.length=σ.length+(σ1.length-r.length)/\(∀(j:Nat) (s:dC),σ1[j]?=some s→∃i t,(Tc σ1 r σ.length)[j]?=some i/\σ2[i]?=some t/\Gj ρ t s)∧∀i,i<σ.length->i∉r->σ2[i]?=σ[i]?:=by
 induction σ1 with
 |nil=>
  intro r σ K h _ _ hl;have:r=[]:=zaf Lu;subst this;exact⟨σ,h,aj,λj s hj=>by simp at hj,λi _ _=>rfl⟩
 |cons b σ1 ih=>
  intro r σ K h hn aU hl;cases r with
  |nil=>
   obtain⟨t,h,ht⟩:=Ya ρ b (λb=>gD σ b λσ=>anJ ρ σ1 [] σ K) h;have h:=cN _ _ _ h;obtain⟨σ2,h1,h2,h3,h4⟩:=ih [] _ K h aj aj aj;simp only[zad,zam,zaY,Nat.sub_zero,zaV]at h2 h3 h4;refine⟨σ2,h1,bf,λj s hj=>?_,λi hi im=>?_⟩
   ·cases j with
    |zero=>
     simp at hj;subst hj;exact⟨σ.length,t,rfl,bf,ht⟩
    |succ j=>exact h3 j s Gk
   grind
  |cons x r=>
   obtain⟨t,h,ht⟩:=Ya ρ b (λb=>wu σ x b λσ=>anJ ρ σ1 r σ K) h;obtain⟨hx,h⟩:=fS _ _ _ _ h;rw[List.nodup_cons]at hn;obtain⟨σ2,h1,h2,h3,h4⟩:=ih r _ K h hn.2 (λi hi=>bf) Lu;rw[za0]at h2 h3 h4;refine⟨σ2,h1,by simp only[zam];omega,λj s hj=>?_,λi hi im=>?_⟩
   ·cases j with
    |zero=>
     simp at hj;subst hj;exact⟨x,t,rfl,by rw[h4 x hx hn.1,nZ hx,if_pos rfl],ht⟩
    |succ j=>exact h3 j s Gk
   grind
structure aCD(ρ:List Nat)(σ1 σ2:aF)(kh lh:List Value):Prop where
 sV:∀(j:Nat) (s:dC),σ1[j]?=some s→∃i t,ρ[j]?=some i/\σ2[i]?=some t/\Gj ρ t s
 vals:∀(j i:Nat),ρ[j]?=some i->lh[i]?=kh[j]?
def Gj.eqv{ρ:List Nat}{t s:dC}(h:Gj ρ t s):(∀e sz ap aC,t=.row e sz ap aC->s=.row e sz ap aC)∧∀e cs,t=.box e cs→∃ds,s=.box e ds/\kC ρ cs ds:=by
 cases t with
 |box e cs=>
  obtain⟨ds,rfl,hd⟩:=h
  grind
 |row e sz ap aC=>exact⟨(λ_ _ _ _ e=>by rw[<-e];exact h),(λ_ _ h=>bV)⟩
 |dead=>simp
 |fz x=>simp
 |mp l=>simp
mutual
def Ren.back{ρ:List Nat}{σ1 σ2:aF}{kh lh:List Value}(hB:aCD ρ σ1 σ2 kh lh){ok wj:Nat->Prop}(di:∀b,ok b->wj b):∀(y x:AV) (v:Value),Ren ρ y x->RA ok σ1 kh w x v->RA wj σ2 lh w y v
 | .bad,x,v,h,_=>by trivial
 | .pv y,x,v,h,hv=>by
  subst h;exact Rd.mono di (λ_ _ _=>rfl) y v hv
 | .own i,x,v,h,hv=>by
  obtain⟨j,hj,rfl⟩:=h;simp only[RA]at hv ⊢;rw[hB.vals j i hj];exact hv
 | .ref i k o,x,v,h,hv=>by
  obtain⟨j,hj,rfl⟩:=h;obtain⟨h0,hp,h1,h2⟩:=hv;obtain⟨i',t,Vp,ht,fM⟩:=hB.sV j _ (zah h0);rw[hj]at Vp;cases Vp;refine⟨(zaa.1 ht).1,hp,λe sz ap aC he=>?_,λs2 he t_=>?_⟩
  ·rw[ht]at he;cases he;obtain⟨u,b,h3,h4⟩:=h1 e sz ap aC (by rw[zah h0,fM.eqv.1 _ _ _ _ rfl]);exact⟨u,b,by rw[hB.vals j i hj];exact h3,h4⟩
  ·rw[ht]at he;cases he;obtain⟨u,b,h3,h4⟩:=h2 _ (zah h0) (by rw[fM.OV];exact t_);exact⟨u,b,by rw[hB.vals j i hj];exact h3,h4⟩
 | .sub i s l n,x,v,h,hv=>by
  obtain⟨j,hj,rfl⟩:=h;obtain⟨h0,hv⟩:=hv;obtain⟨i',t,Vp,ht,fM⟩:=hB.sV j _ (zah h0);rw[hj]at Vp;cases Vp;refine⟨(zaa.1 ht).1,?_⟩;rw[hB.vals j i hj];exact hv
 | .agg cs,x,v,h,hv=>by
  obtain⟨ds,rfl,h⟩:=h;obtain⟨h1,vs,rfl,h2⟩:=hv;exact⟨h.atD h1,vs,rfl,kC.back hB di cs ds _ h h2⟩
 | .tup cs,x,v,h,hv=>by
  obtain⟨ds,rfl,h⟩:=h;obtain⟨vs,rfl,h2⟩:=hv;exact⟨vs,rfl,kC.back hB di cs ds _ h h2⟩
 | .clo f cs,x,v,h,hv=>by
  obtain⟨ds,rfl,h⟩:=h;obtain⟨vs,rfl,h2⟩:=hv;exact⟨vs,rfl,kC.back hB di cs ds _ h h2⟩
def kC.back{ρ:List Nat}{σ1 σ2:aF}{kh lh:List Value}(hB:aCD ρ σ1 σ2 kh lh){ok wj:Nat->Prop}(di:∀b,ok b->wj b):∀(ys xs:List AV) (vs:List Value),kC ρ ys xs->fY ok σ1 kh w xs vs->fY wj σ2 lh w ys vs
 |[],xs,vs,h,hv=>by subst h;assumption
 |y::ys,xs,vs,h,hv=>by
  obtain⟨x,t,rfl,h1,h2⟩:=h;obtain⟨v,u,rfl,h3,h4⟩:=hv;exact⟨v,u,rfl,Ren.back hB di y x v h1 h3,kC.back hB di ys t u h2 h4⟩
end
def Xq{α:Type}{l:List α}{i:Nat}{x:α}(h:l[i]?=some x):x∈l:=zag h
def apk{K:AV->aF->Prop}{Γ:Ctx}(hΓ:Sound cx.P Γ)(hr:Rel cx env σ vals a w)(f:FuncId)(aLq:List AV)(vs:Array Value)(aeQ:(execOp a.eval o).run cx.P w=(callFunc f vs).run cx.P w)(l9:fY (Ok cx σ vals w) σ vals w aLq vs.toList)(Um:(Γ f).mu=true)
 (hK:auN (Γ f).qS aLq σ K):Out cx env a w o K:=by
 intro next Q Gs
 obtain⟨l,hK,Ee,_⟩:=Kx aLq [] _ aj hK;obtain⟨r,hK,lF,_⟩:=LN σ l l _ Ee hK;obtain⟨D7,hK,has⟩:=LG r aLq _ hK;obtain⟨σ0,hK,hσ0l,hσ0⟩:=KB σ r r _ hK;obtain⟨db,hA⟩:∃db,ap5 r σ σ0 vals db:=by
  refine⟨r.map λi=>(vals[i]?).getD undef,lF,hσ0l,hσ0,aj,λj i hj=>?_⟩;obtain⟨s,t,hs,_⟩:=hσ0 j i hj;have:i<vals.length:=by rw[hr.s.len];exact(zaa.1 hs).1
  rw[za9,hj];simp only[zbJ];rw[zah this];exact⟨rfl,_,rfl⟩
 have back:∀{j:Nat} {t:dC},σ0[j]?=some t→∃i s,r[j]?=some i/\σ[i]?=some s/\Gj r s t:=by
  intro j t ht;have hj:j<r.length:=by rw[<-hσ0l];exact(zaa.1 ht).1
  obtain⟨s,t',hs,oE,fM⟩:=hσ0 j _ (zah hj);rw[ht]at oE;cases oE;exact⟨_,s,zah hj,hs,fM⟩
 have oB:∀b,WB σ0 db b→∃(i:Nat) (s:dC) (v:Value),i∈r/\σ[i]?=some s/\s.live=true/\vals[i]?=some v/\bl v=some b:=by
  rintro b ⟨j,t,v,ht,hl,hv,hb⟩;obtain⟨i,s,hj,hs,fM⟩:=back ht;exact⟨i,s,v,Xq hj,hs,fM.live▸hl,by rw[<-(hA.vals j i hj).1];exact hv,hb⟩
 have ayn:∀b,WB σ0 db b->WB σ vals b:=λb h=>by
  obtain⟨i,s,v,_,h1,h2,h3,h4⟩:=oB b h;exact⟨i,s,v,h1,h2,h3,h4⟩
 have ayo:∀b,Ok cx σ vals w b->b<w.heap.size:=λb h=>h.2.1
 have avx:∀b,Ok cx σ vals w b->Ok (nY cx.P w (Ok cx σ vals w) ayo σ0 db) σ0 db w b:=λb h=>⟨.inl h,h.2.1,λhm=>h.2.2 (ayn b hm)⟩
 have aGC:dH (nY cx.P w (Ok cx σ vals w) ayo σ0 db) σ0 db w:=by
  refine⟨Cg.refl _ _,λv hv=>?_,by rw[hA.axW,hσ0l],λj t v ht hv=>?_,λj k t1 t2 u v b se PY P9 l1 l2 hu hv Qd y_=>?_,⟨zai _,λb hb=>hb.elim,λ_ _ hb=>hb⟩,⟨λi v h=>h,zai _,λi _ e sz ap aC h=>⟨ap,aC,h⟩,λi _ s h hb=>⟨s,h,hb⟩⟩⟩
  ·obtain⟨j,hj⟩:=zaE.1 hv;have lH:j<r.length:=aiT;rw[(hA.vals j _ (zah lH)).1]at hj;exact hr.s.one v (zag hj)
  ·obtain⟨i,s,hj,hs,fM⟩:=back ht;have Ej:=hv;rw[(hA.vals j i hj).1]at hv;have:=hr.s.sV i s v hs hv;cases s with
   |dead=>cases fM;trivial
   |fz x=>cases fM;exact Rd.mono avx (λ_ _ _=>rfl) _ _ this
   |mp l=>cases fM;obtain⟨b,es,n,g1,g2,g3⟩:=this;exact⟨b,es,n,g1,avx b g2,g3⟩
   |row e sz ap aC=>
    cases fM;obtain⟨h0,cells,g1,g2,g3,g4⟩:=this;refine⟨h0,cells,⟨g1.1,?_⟩,g2,g3,bS.mono avx (λ_ _ _=>rfl) _ _ g4⟩;rcases g1.2 with h|⟨g,cap,cur,fr,e1,_,e2⟩
    ·exact .inl h
    ·exact .inr ⟨g,cap,cur,fr,e1,.inr ⟨j,_,v,ht,rfl,Ej,by rw[e1];rfl⟩,e2⟩
   |box e cs=>
    obtain⟨ds,rfl,hd⟩:=fM;obtain⟨b,arr,g1,g2,g3,g4,g5⟩:=this;exact⟨b,arr,g1,.inr ⟨j,_,v,ht,rfl,Ej,by rw[g1];rfl⟩,g3,hd.awx g4,hd.ra hA avx _ _ _ g5⟩
  ·obtain⟨i1,s1,oX,lX,aq4⟩:=back PY;obtain⟨i2,s2,Gx,ZI,amS⟩:=back P9;rw[(hA.vals _ _ oX).1]at hu;rw[(hA.vals _ _ Gx).1]at hv;refine hr.s.Xl i1 i2 s1 s2 u v b ?_ lX ZI (aq4.live▸l1) (amS.live▸l2) hu hv Qd y_;intro e;subst e;exact se ((zbD (zaa.1 oX).1 lF).1 (oX.trans Gx.symm))
 obtain⟨avv,avw⟩:=(hΓ f).2.2.2.2 w (Ok cx σ vals w) ayo σ0 db D7 vs _ Um aGC (kC.ra hA avx _ _ _ has l9) hK;unfold Oper.wp;rw[aeQ,avv,Oper.upon_enter];refine avw.mono ?_;rintro e w' ⟨v,res,σ1,kh,rfl,hK,lX,Ql⟩;generalize PA:nY cx.P w (Ok cx σ vals w) ayo σ0 db=m at*;have hK:=aoU _ _ _ _ (gV σ _ hK);obtain⟨aOu,hK,zl⟩:=aeb _ _ _ hK;have ayp:∀i∈r,i<σ.length:=λi hi=>by
  obtain⟨j,hj⟩:=zaE.1 hi;obtain⟨s,t,hs,_⟩:=hσ0 j i hj;exact(zaa.1 hs).1
 have aks:m.Le=σ0:=JO;have aGE:m.acm=db:=JO;have eh:∀b,m.own b↔w.heap.size<=b\/WB σ0 db b:=λb=>JO
 have aGF:∀b,m.eC b↔Ok cx σ vals w b:=λb=>JO
 have uX:m.w0=w:=JO;have hle:r.length<=σ1.length:=by have:=lX.pin.len;rw[aks,hσ0l]at this;exact this
 obtain⟨σ2,hK,azt,azu,aKd⟩:=ama _ σ1 r σ _ hK lF ayp hle
 let ρ:=Tc σ1 r σ.length
 have hρ:ρ=Tc σ1 r σ.length:=rfl;have hρlen:ρ.length=σ1.length:=atz _ _ _;have aoz:kh.length=σ1.length:=lX.len
 let lh:=vals++kh.drop r.length
 have avy:∀i,i<σ.length->lh[i]?=vals[i]?:=λi hi=>by
  show(vals++kh.drop r.length)[i]?=_;rw[zar (by rw[hr.s.len];exact hi)]
 have aGG:∀i,σ.length<=i->lh[i]?=kh[i-σ.length+r.length]?:=λi hi=>by
  show(vals++kh.drop r.length)[i]?=_;rw[zak (by rw[hr.s.len];exact hi),zaB,hr.s.len,Nat.add_comm]
 have hB:aCD ρ σ1 σ2 kh lh:=by
  refine⟨azu,λj i hj=>?_⟩;have HQ:j<σ1.length:=abc;rcases zbt j r.length with h|h
  ·rw[hρ,Dt _ _ _ _ h HQ]at hj;rw[avy i (ayp i (Xq hj))];have h1:j<db.length:=by rw[hA.axW];exact h
   have h2:=lX.pin.vs j _ (by rw[aGE];exact zah h1);rw[h2,<-zah h1,(hA.vals j i hj).1]
  ·rw[hρ,Da _ _ _ _ h HQ]at hj;cases hj;rw[aGG _ ab];congr 1;omega
 have qe:∀(i:Nat) (t:dC),σ2[i]?=some t->(i<σ.length/\i∉r/\σ[i]?=some t/\lh[i]?=vals[i]?)∨∃(j:Nat) (s:dC),ρ[j]?=some i/\σ1[j]?=some s/\Gj ρ t s/\lh[i]?=kh[j]?:=by
  intro i t ht;have part:∀j:Nat,ρ[j]?=some i→∃(j:Nat) (s:dC),ρ[j]?=some i/\σ1[j]?=some s/\Gj ρ t s/\lh[i]?=kh[j]?:=by
   intro j hj;have HQ:j<σ1.length:=abc;obtain⟨i',t',Vp,oE,fM⟩:=azu j _ (zah HQ);rw[<-hρ,hj]at Vp;cases Vp;rw[ht]at oE;cases oE;exact⟨j,_,hj,zah HQ,fM,hB.vals j i hj⟩
  have j9:i<σ.length+(σ1.length-r.length):=by rw[<-azt];exact(zaa.1 ht).1
  rcases zbt i σ.length with h|h
  ·by_cases im:i∈r
   ·obtain⟨j,hj⟩:=zaE.1 im;have lH:j<r.length:=(zaa.1 hj).1;exact .inr (part j (by rw[hρ,Dt _ _ _ _ lH ab];exact hj))
   ·exact .inl ⟨h,im,by rw[<-aKd i h im];exact ht,avy i h⟩
  ·exact .inr (part (i-σ.length+r.length) (by rw[hρ,Da _ _ _ _ ab ab];congr 1;omega))
 have ρinj:∀j k i:Nat,ρ[j]?=some i->ρ[k]?=some i->j=k:=by
  intro j k i hj hk;have HQ:j<σ1.length:=abc;have Eo:k<σ1.length:=by rw[<-hρlen];exact(zaa.1 hk).1
  rcases zbt j r.length with h|h<;>rcases zbt k r.length with h'|h'
  ·rw[hρ,Dt _ _ _ _ h HQ]at hj;rw[hρ,Dt _ _ _ _ h' Eo]at hk;exact(zbD h lF).1 (hj.trans hk.symm)
  ·rw[hρ,Dt _ _ _ _ h HQ]at hj;rw[hρ,Da _ _ _ _ h' Eo]at hk;cases hk;have:=ayp _ (Xq hj);omega
  ·rw[hρ,Da _ _ _ _ h HQ]at hj;rw[hρ,Dt _ _ _ _ h' Eo]at hk;cases hj;have:=ayp _ (Xq hk);omega
  ·rw[hρ,Da _ _ _ _ h HQ]at hj;rw[hρ,Da _ _ _ _ h' Eo]at hk;cases hj;simp only[Option.some.injEq]at hk;omega
 have ayq:∀b,m.own b->cx.own b:=by
  intro b hb;rcases(eh b).1 hb with h|h
  ·exact cx.eh _ (zan hr.s.below.size h)
  ·obtain⟨i,s,v,_,h1,h2,h3,h4⟩:=oB b h;exact((hr.s.sV i s v h1 h3).block h2 h4).1
 have ayr:∀b,WB σ1 kh b->m.own b/\b<w'.heap.size:=by
  rintro b ⟨j,s,v,h1,h2,h3,h4⟩;exact(lX.sV j s v h1 h3).block h2 h4
 have apart:∀(i:Nat) (s:dC) (v:Value) (b:Nat),i∉r->σ[i]?=some s->s.live=true->vals[i]?=some v->bl v=some b→¬m.own b:=by
  intro i s v b im hs hl hv hb ho;rcases(eh b).1 ho with h|h
  ·have:=((hr.s.sV i s v hs hv).block hl hb).2;omega
  ·obtain⟨i',s',v',h0,h1,h2,h3,h4⟩:=oB b h;exact hr.s.Xl i i' s s' v v' b (λe=>im (e▸h0)) hs h1 hl h2 hv h3 hb h4
 have same:∀b,b<w.heap.size→¬m.own b->w'.heap[b]?=w.heap[b]?:=by
  intro b hb ho;have:=lX.below.block b (by rw[uX];exact hb) ho;rw[uX]at this;exact this
 have DI:w.heap.size<=w'.heap.size:=by have:=lX.below.size;rw[uX]at this;exact this
 have aC4:∀b,WB σ2 lh b->(∃(i:Nat) (s:dC) (v:Value),i∉r/\σ[i]?=some s/\s.live=true/\vals[i]?=some v/\bl v=some b)\/WB σ1 kh b:=by
  rintro b ⟨i,t,v,ht,hl,hv,hb⟩;rcases qe i t ht with⟨_,im,hs,re⟩|⟨j,s,hj,hs,fM,re⟩
  ·exact .inl ⟨i,t,v,im,hs,hl,by rw[<-re];exact hv,hb⟩
  ·exact .inr ⟨j,s,v,hs,fM.live.trans hl,by rw[<-re];exact hv,hb⟩
 have oJ:∀b,Ok cx σ vals w b→¬m.own b:=by
  intro b hb ho;rcases(eh b).1 ho with h|h
  ·have:=hb.2.1;omega
  ·exact hb.2.2 (ayn b h)
 have akt:ct cx σ vals w σ2 lh w':=by
  refine⟨λi v h=>?_,ab,λb hb=>⟨hb.1,zae hb.2.1 DI,λhm=>?_⟩,λb hb=>same b hb.2.1 (oJ b hb),λi hi e sz ap aC h=>?_,λi hi s2 h t_=>?_⟩
  ·rw[avy i (by rw[<-hr.s.len];exact(zaa.1 h).1)];exact h
  ·rcases aC4 b hm with⟨i,s,v,_,h1,h2,h3,h4⟩|h
   ·exact hb.2.2 ⟨i,s,v,h1,h2,h3,h4⟩
   ·exact oJ b hb (ayr b h).1
  ·rcases qe i _ h with⟨_,_,hs,_⟩|⟨j,s,hj,hs,fM,_⟩
   ·exact⟨ap,aC,hs⟩
   ·have HQ:j<σ1.length:=(zaa.1 hs).1;have lH:j<r.length:=by
     rcases zbt j r.length with h|h
     ·exact h
     ·rw[hρ,Da _ _ _ _ h HQ]at hj;cases hj;omega
    rw[hρ,Dt _ _ _ _ lH HQ]at hj;have:=fM.eqv.1 _ _ _ _ rfl;subst this;obtain⟨mN,els',h3⟩:=lX.pin.Rj j (by rw[aks,hσ0l];exact lH) e sz ap aC hs;rw[aks]at h3;obtain⟨i',s',Vp,Et,avA⟩:=back h3;rw[hj]at Vp;cases Vp;cases s' with
    |box e' Ea=>obtain⟨ds,hd,_⟩:=avA;cases hd
    |row e' mM tc abR=>cases avA;exact⟨_,_,Et⟩
    |_=>cases avA
  ·rcases qe i _ h with⟨_,_,hs,_⟩|⟨j,s,hj,hs,fM,_⟩
   ·exact⟨s2,hs,t_⟩
   ·have HQ:j<σ1.length:=(zaa.1 hs).1;have lH:j<r.length:=by
     rcases zbt j r.length with h|h
     ·exact h
     ·rw[hρ,Da _ _ _ _ h HQ]at hj;cases hj;omega
    rw[hρ,Dt _ _ _ _ lH HQ]at hj;obtain⟨s3,h3,rv⟩:=lX.pin.Qz j (by rw[aks,hσ0l];exact lH) s hs (by rw[fM.OV];exact t_);rw[aks]at h3;obtain⟨i',s',Vp,Et,avA⟩:=back h3;rw[hj]at Vp;cases Vp;exact⟨s',Et,by rw[<-avA.OV];exact rv⟩
 have okB:∀b,Ok m σ1 kh w' b->Ok cx σ2 lh w' b:=by
  rintro b ⟨h1,h2,h3⟩;have ho:m.own b->(cx.eC b\/cx.own b):=λh=>.inr (ayq b h)
  refine⟨?_,h2,λhm=>?_⟩
  ·rcases h1 with h1|h1
   ·exact((aGF b).1 h1).1
   ·exact ho h1
  ·rcases aC4 b hm with⟨i,s,v,im,g1,g2,g3,g4⟩|h
   ·rcases h1 with h1|h1
    ·exact((aGF b).1 h1).2.2 ⟨i,s,v,g1,g2,g3,g4⟩
    ·exact apart i s v b im g1 g2 g3 g4 h1
   ·exact h3 h
 have ZI:dH cx σ2 lh w':=by
  refine⟨⟨?_,?_,?_,zan hr.s.below.size DI,λk hk ho=>?_⟩,λv hv=>?_,?_,λi t v ht hv=>?_,λi j t1 t2 u1 u2 b zk h1 h2 l1 l2 g1 g2 g3 g4=>?_,⟨zan hr.s.fr.size DI,λb hb=>?_,λb hm hb=>?_⟩,hr.s.pin.keep akt⟩
  ·have:=lX.below.os;rw[uX]at this;exact this.trans hr.s.below.os
  ·have:=lX.below.tape;rw[uX]at this;exact this.trans hr.s.below.tape
  ·have:=lX.below.output;rw[uX]at this;exact this.trans hr.s.below.output
  ·exact(same k (zae hk hr.s.below.size) (λh=>ho (ayq k h))).trans (hr.s.below.block k hk ho)
  ·rcases zaA.1 hv with hv|hv
   ·exact hr.s.one v hv
   ·exact lX.one v (zbw hv)
  ·show(vals++kh.drop r.length).length=_;rw[zad,zay,hr.s.len,aoz,azt]
  ·rcases qe i t ht with⟨_,im,hs,re⟩|⟨j,s,hj,hs,fM,re⟩
   ·rw[re]at hv;have tZ:=hr.s.sV i t v hs hv;exact akt.rb tZ (λhl b hb=>same b (tZ.block hl hb).2 (apart i t v b im hs hl hv hb))
   ·rw[re]at hv;have tZ:=lX.sV j s v hs hv;cases t with
    |dead=>trivial
    |fz x=>cases fM;exact Rd.mono okB (λ_ _ _=>rfl) _ _ tZ
    |mp l=>cases fM;obtain⟨b,es,n,g1,g2,g3⟩:=tZ;exact⟨b,es,n,g1,okB b g2,g3⟩
    |row e sz ap aC=>
     cases fM;obtain⟨h0,cells,f1,f2,f3,f4⟩:=tZ;refine⟨h0,cells,⟨f1.1,?_⟩,f2,f3,bS.mono okB (λ_ _ _=>rfl) _ _ f4⟩;rcases f1.2 with h|⟨g,cap,cur,fr,e1,e2,e3⟩
     ·exact .inl h
     ·exact .inr ⟨g,cap,cur,fr,e1,ayq g e2,e3⟩
    |box e cs=>
     obtain⟨ds,rfl,hd⟩:=fM;obtain⟨b,arr,f1,f2,f3,f4,f5⟩:=tZ;exact⟨b,arr,f1,ayq b f2,f3,hd.atD f4,kC.back hB okB _ _ _ hd f5⟩
  ·rcases qe i t1 h1 with⟨_,im,hs,re⟩|⟨j1,s1,oX,aGH,aq4,re⟩
   ·rw[re]at g1;rcases qe j t2 h2 with⟨_,lH,QC,HE⟩|⟨j2,s2,Gx,aC6,amS,HE⟩
    ·rw[HE]at g2;exact hr.s.Xl i j t1 t2 u1 u2 b zk hs QC l1 l2 g1 g2 g3 g4
    ·rw[HE]at g2;exact apart i t1 u1 b im hs l1 g1 g3 (ayr b ⟨j2,s2,u2,aC6,amS.live.trans l2,g2,g4⟩).1
   ·rw[re]at g1;rcases qe j t2 h2 with⟨_,lH,QC,HE⟩|⟨j2,s2,Gx,aC6,amS,HE⟩
    ·rw[HE]at g2;exact apart j t2 u2 b lH QC l2 g2 g4 (ayr b ⟨j1,s1,u1,aGH,aq4.live.trans l1,g1,g3⟩).1
    ·rw[HE]at g2;refine lX.Xl j1 j2 s1 s2 u1 u2 b (λe=>?_) aGH aC6 (aq4.live.trans l1) (amS.live.trans l2) g1 g2 g3 g4;subst e;rw[oX]at Gx;cases Gx;exact zk rfl
  ·refine(same b (zae (cx.hk b hb) hr.s.fr.size) (λho=>?_)).trans (hr.s.fr.same b hb);rcases(eh b).1 ho with h|h
   ·have:=cx.hk b hb;have:=hr.s.fr.size;omega
   ·exact hr.s.fr.I1 b (ayn b h) hb
  ·rcases aC4 b hm with⟨i,s,v,_,f1,f2,f3,f4⟩|h
   ·exact hr.s.fr.I1 b ⟨i,s,v,f1,f2,f3,f4⟩ hb
   ·rcases(eh b).1 (ayr b h).1 with h|h
    ·have:=cx.hk b hb;have:=hr.s.fr.size;omega
    ·exact hr.s.fr.I1 b (ayn b h) hb
 exact Gs _ _ _ v w' hK (hr.keep ZI akt) (Ren.back hB okB _ _ _ zl Ql)
def aep{K:AV->aF->Prop}{Γ:Ctx}(hΓ:Sound cx.P Γ)(hr:Rel cx env σ vals a w)(f:FuncId)(aLq:List AV)(vs:Array Value)(aeQ:(execOp a.eval o).run cx.P w=(callFunc f vs).run cx.P w)(l9:fY (Ok cx σ vals w) σ vals w aLq vs.toList)
 (hK:J1 (Γ f) aLq σ K):Out cx env a w o K:=by
 unfold J1 at hK;cases Um:(Γ f).mu with
 |true=>rw[Um]at hK;exact apk hΓ hr f aLq vs aeQ l9 Um hK
 |false=>rw[Um]at hK;exact apA hΓ hr f aLq vs aeQ l9 Um hK
def asL{K:AV->aF->Prop}{Γ:Ctx}(hΓ:Sound cx.P Γ)(hr:Rel cx env σ vals a w)(f:FuncId)(args:List Operand)(c:Call)(ho:o.op=.call c)(hc:c.callee=.value (.func f))(cP:c.args.toList=args)
 (hK:J1 (Γ f) (args.map (bK env)) σ K):Out cx env a w o K:=by
 refine aep hΓ hr f _ (args.map a.eval).toArray ?_ (by simpa using hr.cd args) hK;have je:c.args=args.toArray:=by rw[<-cP]
 simp[execOp,ho,resolve,hc,invoke,je,Deferred.ofValue,Act.eval]
def aaR(l m:List AV):∀(K:List AV->Prop),asj l m K->K (l++m):=by
 induction l with
 |nil=>intro K h;exact h
 |cons x l ih=>intro K h;exact ih _ h
def aqu{K:AV->aF->Prop}{Γ:Ctx}(hΓ:Sound cx.P Γ)(hr:Rel cx env σ vals a w)(x:Operand)(args:List Operand)(c:Call)(ho:o.op=.call c)(hc:c.callee=.value x)(cP:c.args.toList=args)
 (hK:abB Γ (bK env x) (args.map (bK env)) σ K):Out cx env a w o K:=by
 have je:c.args=args.toArray:=by rw[<-cP]
 have hx:=hr.ev x;have main:∀(g:FuncId) (cs:List AV) (cv:Array Value),a.eval x=.func (.func g) #[] cv->fY (Ok cx σ vals w) σ vals w cs cv.toList->J1 (Γ g) (args.map (bK env)++cs) σ K->Out cx env a w o K:=by
  intro g cs cv hv l9 hK;refine aep hΓ hr g _ ((args.map a.eval).toArray++cv) ?_ ?_ hK
  ·simp[execOp,ho,resolve,hc,invoke,je,Deferred.ofValue,hv]
  ·rw[gE];exact⟨_,_,aj,hr.cd args,l9⟩
 cases sO:bK env x with
 |pv p=>
  rw[sO]at hK hx;cases p with
  |clo g jh=>
   simp only[RA,Rd]at hx;obtain⟨cv,hv,sH⟩:=hx;exact main g _ cv hv ((iw _ _).2 sH) (aaR _ _ _ (tR _ _ hK))
  |_=>exact Ba
 |clo g cs=>
  rw[sO]at hK hx;simp only[RA]at hx;obtain⟨cv,hv,sH⟩:=hx;exact main g cs cv hv sH (aaR _ _ _ hK)
 |_=>rw[sO]at hK;exact Ba
def auY{K:AV->aF->Prop}{Γ:Ctx}(hr:Rel cx env σ vals a w)(f:FuncId)(first jh:Array Operand)(ho:o.op=.makeFunc (.func f) first jh)(hf:first.toList=[])
 (hK:match (Γ f).mu with
   |true=>K (.clo f (jh.toList.map (bK env))) σ
   |false=>Ho (jh.toList.map (bK env)) σ λxs σ=>K (.pv (.clo f xs)) σ):Out cx env a w o K:=by
 cases Um:(Γ f).mu with
 |false=>rw[Um]at hK;exact axX hr f first jh ho hf hK
 |true=>
  rw[Um]at hK;have D0:first= #[]:=Array.toList_eq_nil_iff.1 hf
  refine Out.run (v:=.func (.func f) #[] (jh.map a.eval)) (by simp[execOp,ho,Instr.makeFunc,D0]) hr (av:=.clo f (jh.toList.map (bK env))) ?_ hK;simp only[RA];exact⟨_,rfl,by simpa using hr.cd jh.toList⟩
end
end
end Go.Dv
namespace Go.Dv
open Go.RowKit
section
section
variable {cx:Cx} {env:Env} {σ:aF} {vals:List Value} {a:Act} {w w':World} {o:Oper}
def aX{α β:Type}{o:Option α}{f:α->Option β}{r:β}(h:opt o f=some r):∃x,o=some x/\f x=some r:=by
 unfold opt at h;cases o with
 |none=>cases h
 |some x=>exact⟨x,rfl,h⟩
def eB{α:Type}{b:Bool}{x:Option α}{r:α}(h:oV b x=some r):b=true/\x=some r:=by
 unfold oV at h;cases b with
 |true=>exact⟨rfl,h⟩
 |false=>cases h
def tv{P:Program}{t:TypeId}{i:TypeId×Nat×Nat}(h:DN P t=some i):∃ti,P.underlying t=some (.slice i.1)/\P.info? i.1=some ti/\ti.size=i.2.1/\ti.bytes=i.2.2:=by
 unfold DN at h;split at h
 ·rename_i e hu;obtain⟨ti,hi,h⟩:=aX h;cases h;exact⟨ti,hu,hi,rfl,rfl⟩
 ·cases h
def IB{P:Program}{t:TypeId}{f:Nat}{q:Nat×Bool×Nat}(h:Dv.fieldPlace P t f=some q):∃fs fd,P.underlying t=some (.struct fs)/\fs[f]?=some fd/\q.1=fd.offset/\Shape P fd.type q.2.1 q.2.2/\0<q.2.2:=by
 unfold Dv.fieldPlace at h;split at h
 ·rename_i fs hu;obtain⟨fd,hf,h⟩:=aX h;obtain⟨s,hs,h⟩:=aX h;obtain⟨h0,h⟩:=eB h;cases h;exact⟨fs,fd,hu,hf,rfl,xU hs,by simpa using h0⟩
 ·cases h
def aeJ{x:Operand}(h:JK x=true):x=.const (.slice none 0 0):=by
 unfold JK at h;split at h
 ·rfl
 ·cases h
def ajJ{K:AV->aF->Prop}(hr:Rel cx env σ vals a w)(e:TypeId)(sz:Nat)(hz:0<sz)(cL:(execOp a.eval o).run cx.P w=.ok (.value (.slice none 0 0)) w)(hK:K (.own σ.length) (σ++[.row e sz true []])):Out cx env a w o K:=by
 obtain⟨h1,h2⟩:=hr.s.amy (Below.refl _ w) [.row e sz true []] [.slice none 0 0] rfl (by simp[Value.oneCell']) (by intro u hu b hb;simp at hu;subst hu;cases hb)
  (by intro i j u t b zk hu _ hb;cases i with
      |zero=>simp at hu;subst hu;cases hb
      |succ i=>simp at hu)
  (by intro _ i s u hs hu
      cases i with
      |zero=>simp at hs hu;subst hs hu;exact⟨hz,[],QE _ _ _ _ _,aj,aj,Fo⟩
      |succ i=>simp at hs)
 refine Out.run cL ⟨h1,λp=>h2.ra _ _ (hr.env p),hr.defers,λx v hq=>h2.ra _ _ (hr.gh x v hq),hr.lo⟩ (av:=.own σ.length) ?_ hK;simp only[RA];rw[<-hr.s.len];simp
def atI{Γ:Ctx}(hΓ:Sound cx.P Γ)(hr:Rel cx env σ vals a w){k:PK}{dr:Bool}(hc:ant cx.P dr o=some k){K:AV->aF->Prop}(hK:sn Γ env σ k K):Out cx env a w o K:=by
 unfold ant at hc;split at hc
 ·
  rename_i x ho;split at hc
  ·rename_i hn;obtain⟨i,_,hc⟩:=aX hc;have:=aeJ hn;subst this;cases dr with
   |true=>
    cases hc;exact QK
   |false=>
    cases hz:Nat.blt 0 i.2.1 with
    |true=>
     rw[hz]at hc;cases hc;exact ajJ hr _ _ (za3 hz) aav (cN _ _ _ (gV σ _ hK))
    |false=>
     rw[hz]at hc;cases hc;exact QK
  ·cases hc;exact ahE hr x (.inl ho) (aR _ _ _ hK)
 ·
  rename_i x ho;split at hc
  ·rename_i hn;obtain⟨i,_,hc⟩:=aX hc;have:=aeJ hn;subst this;cases dr with
   |true=>
    cases hc;exact QK
   |false=>
    cases hz:Nat.blt 0 i.2.1 with
    |true=>
     rw[hz]at hc;cases hc;exact ajJ hr _ _ (za3 hz) aav (cN _ _ _ (gV σ _ hK))
    |false=>
     rw[hz]at hc;cases hc;exact QK
  ·cases hc;exact ahE hr x (.inr ho) (aR _ _ _ hK)
 ·
  rename_i c x y ho;cases hc;refine as5 hr c x y ho ?_;have h:=aR _ _ _ hK
  revert h
  cases bK env c with
  |pv p=>
   cases p with
   |bool b=>cases b with
    |true=>intro h;exact aR _ _ _ h
    |false=>intro h;exact aR _ _ _ h
   |_=>exact λh=>h
  |_=>exact λh=>h
 ·
  rename_i op t x y u ho;have bin:∀op,o.op=.binOp op t x y u->sn Γ env σ (.bin op x y) K->Out cx env a w o K:=λop ho hK=>awN hr op t u x y ho (aR _ _ _ (aR _ _ _ hK))
  split at hc
  ·split at hc
   ·cases hc;exact bin _ ho hK
   ·cases hc;exact bin _ ho hK
   ·rename_i ht;cases hc;exact am5 hr false t u x y (aR _ _ _ (aR _ _ _ hK)) ho ht
   ·rename_i e ht;obtain⟨hy,hc⟩:=eB hc;cases hc;exact aeG hr false t u e x y ho ht hy (aR _ _ _ hK)
   ·rename_i fs ht;obtain⟨ks,hk,hc⟩:=aX hc;obtain⟨h1,hc⟩:=eB hc;cases hc;simp only[zaU,zbr]at h1;exact anP hr false ks t u x y (aR _ _ _ (aR _ _ _ hK)) ho fs ht hk h1.1 h1.2
   ·cases hc
  ·split at hc
   ·cases hc;exact bin _ ho hK
   ·cases hc;exact bin _ ho hK
   ·rename_i ht;cases hc;exact am5 hr true t u x y (aR _ _ _ (aR _ _ _ hK)) ho ht
   ·rename_i e ht;obtain⟨hy,hc⟩:=eB hc;cases hc;exact aeG hr true t u e x y ho ht hy (aR _ _ _ hK)
   ·rename_i fs ht;obtain⟨ks,hk,hc⟩:=aX hc;obtain⟨h1,hc⟩:=eB hc;cases hc;simp only[zaU,zbr]at h1;exact anP hr true ks t u x y (aR _ _ _ (aR _ _ _ hK)) ho fs ht hk h1.1 h1.2
   ·cases hc
  ·cases hc;exact bin _ ho hK
 ·
  rename_i op t x ho;cases hc;exact aCJ hr op t x ho (aR _ _ _ hK)
 ·
  rename_i t x k c ho;split at hc
  ·rename_i kt et ht;split at hc
   ·rename_i hk;obtain⟨i,hi,hc⟩:=aX hc;split at hc
    ·rename_i hz;cases hc;exact asx hr c t kt et x k i ho ht hk hi hz (aR _ _ _ (aR _ _ _ hK))
    ·cases hc
   ·cases hc
  ·cases hc
 ·
  rename_i s d x ho;split at hc
  ·rename_i k0 k hs hd;cases hc;exact aoQ hr s d k k0 x ho hs hd (aR _ _ _ hK)
  ·rename_i hs hd;cases hc;exact auj hr s d x ho hs hd (aR _ _ _ hK)
  ·rename_i e hs hd;split at hc
   ·rename_i he;cases hc;exact axj hr s d e x ho hs he hd (aR _ _ _ hK)
   ·cases hc
  ·rename_i e hs hd;split at hc
   ·rename_i he;cases hc;exact axE hr s d e x ho hs hd he (aR _ _ _ hK)
   ·cases hc
  ·cases hc
 ·
  rename_i t x ho;obtain⟨s,hs,hc⟩:=aX hc;have yB:=xU hs;split at hc
  ·rename_i h1;cases hc;rw[h1]at yB;exact aiV hr t x true _ ho ⟨_,yB,rfl⟩ (aR _ _ _ hK)
  ·rename_i h1;cases hc;rw[h1]at yB;exact aiV hr t x false _ ho ⟨_,yB,rfl⟩ (aR _ _ _ hK)
 ·
  rename_i t x v ho;obtain⟨i,hi,hc⟩:=aX hc;cases hc;exact aqU hr t i x v ho hi (aR _ _ _ (aR _ _ _ hK))
 ·
  rename_i e ho;split at hc
  ·rename_i q hq;cases hc;exact aoY hr e q ho hq hK
  ·obtain⟨z,hz,hc⟩:=aX hc;cases hc;exact apX hr e z ho hz hK
 ·
  rename_i e x ho;cases hc;exact awB hr e x ho (aR _ _ _ hK)
 ·
  rename_i t parts ho;split at hc
  ·rename_i fs hu;obtain⟨z,hz,hc⟩:=aX hc;obtain⟨pl,qG,hc⟩:=aX hc;obtain⟨ps,fp,hc⟩:=aX hc;split at hc
   ·cases hc;exact aoZ hr t parts fs _ pl ps ho hu hz qG fp hK
   ·cases hc
  ·rename_i m e hu;obtain⟨z,hz,hc⟩:=aX hc;obtain⟨s,hs,hc⟩:=aX hc;split at hc
   ·cases hc;exact amA hr t e m s.2 s.1 parts _ ho hu hz (xU hs) hK
   ·cases hc
  ·cases hc
 ·
  rename_i t n parts ho;obtain⟨i,hi,hc⟩:=aX hc;obtain⟨ps,fp,hc⟩:=aX hc;obtain⟨h1,hc⟩:=eB hc;obtain⟨z,hz,hc⟩:=aX hc;cases hc;obtain⟨ti,hu,Ct,mD,_⟩:=tv hi;simp only[zaU,decide_eq_true_eq]at h1;obtain⟨⟨h1,h2⟩,h3⟩:=h1;rw[<-mD]at h2 h3 hK;exact alg hr t i.1 ti n parts ps z ho hu Ct fp (zab h1) h2 (za3 h3) hz (Rv _ _ _ hK)
 ·
  rename_i c ho;split at hc
  ·rename_i b Nu;split at hc
   ·rename_i x cP;obtain⟨t,ht,hc⟩:=aX hc;split at hc
    ·rename_i hu;cases hc;exact asu hr x t c ho Nu cP ht hu (aR _ _ _ hK)
    ·rename_i e hu;cases hc;exact auL hr x t e c ho Nu cP ht hu (aR _ _ _ hK)
    ·cases hc
   ·rename_i x y cP;split at hc
    ·rename_i t u IF;obtain⟨i,hi,hc⟩:=aX hc;obtain⟨z,hz,hc⟩:=aX hc;obtain⟨h1,hc⟩:=eB hc;obtain⟨ti,hu,Ct,mD,mW⟩:=tv hi;simp only[zaU,decide_eq_true_eq]at h1;obtain⟨h1,h2⟩:=h1;have h2:=zab h2;split at hc
     ·rename_i QH;cases hc;have:=zab QH;subst this;rw[<-mD]at h1 h2 hK;rw[<-mW]at hK;exact axl hr t i.1 ti z x y c ho Nu cP IF hu Ct hz h2 h1 (aR _ _ _ (aR _ _ _ hK))
     ·split at hc
      ·rename_i gx;split at hc
       ·rename_i he;obtain⟨h3,hc⟩:=eB hc;have h3:=zab h3;cases hc;rw[<-mW]at hK;exact aub hr t u i.1 ti z x y c ho Nu cP IF hu gx Ct hz (by rw[h2,mD]) (by rw[mD,h3]) (aR _ _ _ (aR _ _ _ hK))
       ·cases hc
      ·cases hc
    ·cases hc
   ·rename_i x y cP;split at hc
    ·rename_i t u IF;obtain⟨i,hi,hc⟩:=aX hc;obtain⟨ti,hu,Ct,mD,mW⟩:=tv hi;split at hc
     ·rename_i gx;split at hc
      ·rename_i he;obtain⟨h3,hc⟩:=eB hc;have h3:=zab h3;cases hc;exact asd hr t u i.1 ti x y c ho Nu cP IF hu Ct (by rw[mD,h3]) (aR _ _ _ (aR _ _ _ hK))
      ·cases hc
     ·obtain⟨h3,hc⟩:=eB hc;cases hc;rw[<-mD]at hK;exact axf hr t u i.1 ti x y c ho Nu cP IF hu Ct (aR _ _ _ (aR _ _ _ hK))
     ·cases hc
    ·cases hc
   ·rename_i x cP;obtain⟨t,ht,hc⟩:=aX hc;obtain⟨i,hi,hc⟩:=aX hc;obtain⟨z,hz,hc⟩:=aX hc;obtain⟨h1,hc⟩:=eB hc;obtain⟨ti,hu,Ct,mD,mW⟩:=tv hi;cases hc;simp only[zaU,decide_eq_true_eq]at h1;rw[<-mD]at hK h1;exact axw hr t i.1 ti z x c ho Nu cP ht hu Ct hz (zab h1.2) (aR _ _ _ hK)
   ·rename_i x y cP;cases hc;exact asE hr false x y (aR _ _ _ (aR _ _ _ hK)) c ho Nu cP
   ·rename_i x y cP;cases hc;exact asE hr true x y (aR _ _ _ (aR _ _ _ hK)) c ho Nu cP
   ·cases hc
  ·rename_i f Nu;split at hc
   ·rename_i f;obtain⟨fn,hf,hc⟩:=aX hc;split at hc
    ·rename_i bd o_;obtain⟨h1,hc⟩:=eB hc;cases hc;exact asL hΓ hr f c.args.toList c ho Nu rfl (Rv _ _ _ hK)
    ·cases hc
   ·rename_i t;cases hc;exact aqu hΓ hr (.tmp t) c.args.toList c ho Nu rfl (Rv env _ (λaLq=>abB Γ (bK env (.tmp t)) aLq σ K) (aR env (.tmp t) (λf=>uT env c.args.toList λaLq=>abB Γ f aLq σ K) hK))
   ·cases hc
  ·cases hc
 ·
  rename_i x i ho;cases hc;exact axZ hr x i ho (aR _ _ _ hK)
 ·
  rename_i t x lo hi mx ho;split at hc
  ·split at hc
   ·rename_i hu;cases hc;exact at3 hr t x lo hi ho hu (Gd _ _ _ (Gd _ _ _ (aR _ _ _ hK)))
   ·rename_i e hu;obtain⟨i,hi,hc⟩:=aX hc;cases hc;exact arZ hr t e i x lo _ ho hu hi (Gd _ _ _ (Gd _ _ _ (aR _ _ _ hK)))
   ·obtain⟨q,hq,hc⟩:=aX hc;cases hc;exact auo hr t q x lo _ ho hq (Gd _ _ _ (Gd _ _ _ (aR _ _ _ hK)))
   ·cases hc
  ·cases hc
 ·
  rename_i t x i ho;split at hc
  ·rename_i hu;cases hc;exact aw2 hr t x i ho hu (aR _ _ _ (aR _ _ _ hK))
  ·rename_i m e hu;split at hc
   ·rename_i q hq;unfold Kj at hq;rw[hu]at hq;simp only at hq;split at hq
    ·split at hq
     ·rename_i kd k;obtain⟨s,hs,hq⟩:=aX hq;obtain⟨hb,hq⟩:=eB hq;cases hq;simp only[zaU,decide_eq_true_eq]at hb;have yB:=xU hs;split at hc
      ·rename_i Vs;cases hc;have Vs:s.1=true:=Vs;rw[Vs]at yB;exact aiy hr t e x _ m kd k s.2 true s.2 ho hu rfl hb.1 yB rfl (aR _ _ _ hK)
      ·rename_i Vs;cases hc;have Vs:s.1=false:=Vs;rw[Vs]at yB;exact aiy hr t e x _ m kd k s.2 false 1 ho hu rfl hb.1 yB rfl (aR _ _ _ hK)
     ·cases hq
    ·cases hq
   ·obtain⟨s,hs,hc⟩:=aX hc;obtain⟨hb,hc⟩:=eB hc;have yB:=xU hs;split at hc
    ·rename_i Vs;cases hc;have Vs:s.1=true:=Vs;rw[Vs]at yB;exact ah8 hr t e x i m s.2 true s.2 ho hu yB rfl (aR _ _ _ (aR _ _ _ hK))
    ·rename_i Vs;cases hc;have Vs:s.1=false:=Vs;rw[Vs]at yB;exact ah8 hr t e x i m s.2 false 1 ho hu yB rfl (aR _ _ _ (aR _ _ _ hK))
  ·cases hc
 ·
  rename_i t x i ho;split at hc
  ·rename_i m e hu;split at hc
   ·rename_i q hq;cases hc;exact aoM hr t q x i ho hq (aR _ _ _ (aR _ _ _ hK))
   ·split at hc
    ·rename_i q hq;cases hc;exact aaI hr x q.1 (λb n hv=>as6 cx.P t x i q ho hq b n hv) (aR _ _ _ hK)
    ·obtain⟨s,hs,hc⟩:=aX hc;obtain⟨hb,hc⟩:=eB hc;cases hc;exact asM hr t e x i m s.2 s.1 ho hu (xU hs) (aR _ _ _ (aR _ _ _ hK))
  ·obtain⟨s,hs,hc⟩:=aX hc;cases hc;obtain⟨ti,hu,Ct,mD,_⟩:=tv hs;rw[<-mD]at hK;exact auC hr t s.1 ti x i ho hu Ct (aR _ _ _ (aR _ _ _ hK))
 ·
  rename_i s x f ho;obtain⟨q,hq,hc⟩:=aX hc;cases hc;obtain⟨fs,fd,hu,hf,h1,h2,h3⟩:=IB hq;exact aaI hr x q.1 (λb n hv=>by rw[h1];simp[execOp,ho,hv,ahD cx.P s f fs fd _ _ hu hf h2 h3 b n]) (aR _ _ _ hK)
 ·
  rename_i s x f ho;obtain⟨q,hq,hc⟩:=aX hc;obtain⟨fs,fd,hu,hf,h1,h2,h3⟩:=IB hq;split at hc
  ·rename_i Vs;cases hc;rw[Vs]at h2;rw[h1]at hK;exact anu hr s x f fs fd true _ ho hu hf ⟨_,h2,rfl⟩ (aR _ _ _ hK)
  ·rename_i Vs;cases hc;rw[Vs]at h2;rw[h1]at hK;exact anu hr s x f fs fd false _ ho hu hf ⟨_,h2,rfl⟩ (aR _ _ _ hK)
 ·
  rename_i x ho;cases hc;exact apu hr x ho (aR _ _ _ hK)
 ·
  rename_i f first jh ho
  split at hc
  ·rename_i f hf;cases hc;exact auY hr _ first jh ho hf (Rv _ _ _ hK)
  ·cases hc
 ·
  rename_i t l c ho;obtain⟨i,hi,hc⟩:=aX hc;obtain⟨z,hz,hc⟩:=aX hc;obtain⟨h1,hc⟩:=eB hc;cases hc;obtain⟨ti,hu,Ct,mD,mW⟩:=tv hi;simp only[zaU,decide_eq_true_eq]at h1;obtain⟨h1,h2⟩:=h1;have h2:=zab h2;rw[<-mD]at h1 h2 hK;rw[<-mW]at hK;exact asa hr t i.1 ti z l c ho hu Ct hz h1 h2 (aR _ _ _ (aR _ _ _ hK))
 ·cases hc;exact Ba
 ·
  rename_i t x ho;split at hc
  ·cases hc
  ·rename_i d hn hd;cases hc;exact asG hr t x ho d hd (λm e=>hn m e) hK
  ·cases hc
 ·cases hc
def aqb{Γ:Ctx}(hΓ:Sound cx.P Γ)(hr:Rel cx env σ vals a w){k:PK}{dr:Bool}(hc:anw cx.P dr o=some k){K:AV->aF->Prop}(hK:sn Γ env σ k K):Out cx env a w o K:=by
 unfold anw at hc;split at hc
 ·rename_i k' h;cases hc;exact atI hΓ hr h hK
 ·split at hc
  ·cases hc;exact hK.elim
  ·cases hc
end
end
end Go.Dv
namespace Go.Dv
open Go.RowKit
section
def VI{a b:Nat}(h:a≠b):Nat.beq a b=false:=by
 cases hb:Nat.beq a b with
 |false=>rfl
 |true=>simp_all
def look_eq(p:Nat)(K:AV->Prop)(e:Env):look p K e=K (aE p e):=by
 induction e with
 |nil=>rfl
 |cons hd e ih=>
  obtain⟨q,v⟩:=hd;show Bool.rec (look p K e) (K v) (Nat.beq q p)=K (bif Nat.beq q p then v else aE p e);cases Nat.beq q p with
  |true=>rfl
  |false=>exact ih
def bg(env:Env)(o:Operand)(K:AV->Prop):ev env o K=K (bK env o):=by
 cases o with
 |tmp t=>exact look_eq t K env
 |_=>rfl
def wE(env:Env)(l:List Operand):∀(K:List AV->Prop),uT env l K=K (l.map (bK env)):=by
 induction l with
 |nil=>intro K;rfl
 |cons o l ih=>
  intro K;show(ev env o λa=>uT env l λl=>K (a::l))=_;rw[bg,ih];rfl
def aa0(env:Env)(o:Option Operand)(K:Option AV->Prop):yI env o K=K (o.map (bK env)):=by
 cases o with
 |none=>rfl
 |some x=>exact bg env x _
def XX(env:Env)(l:List (Nat×Nat×Operand)):∀(K:List (Nat×Nat×AV)->Prop),Me env l K=K (l.map λp=>(p.1,p.2.1,bK env p.2.2)):=by
 induction l with
 |nil=>intro K;rfl
 |cons o l ih=>
  intro K;show(ev env o.2.2 λa=>Me env l λl=>K ((o.1,o.2.1,a)::l))=_;rw[bg,ih];rfl
section
variable {Γ:Ctx} {σ:aF}
def aM{env aal:Env}{o:Operand}(h:∀t∈q_ o,aE t aal=aE t env):bK aal o=bK env o:=by
 cases o with
 |tmp t=>exact h t (by simp[q_])
 |_=>rfl
def sA{env aal:Env}{l:List Operand}(h:∀t∈l.flatMap q_,aE t aal=aE t env):l.map (bK aal)=l.map (bK env):=
 zbC λo ho=>aM λt ht=>h t (zbA.2 ⟨o,ho,ht⟩)
def wQ{env aal:Env}{o:Option Operand}(h:∀t∈oe o,aE t aal=aE t env):o.map (bK aal)=o.map (bK env):=by
 cases o with
 |none=>rfl
 |some x=>exact congrArg some (aM h)
def AL{env aal:Env}{k:PK}{K:AV->aF->Prop}(h:∀t∈k.reads,aE t aal=aE t env):sn Γ aal σ k K=sn Γ env σ k K:=by
 have a:∀o,(∀t∈q_ o,t∈k.reads)->bK aal o=bK env o:=λo ho=>aM λt ht=>h t (ho t ht)
 have b:∀l:List Operand,(∀t∈l.flatMap q_,t∈k.reads)->l.map (bK aal)=l.map (bK env):=λo ho=>sA λt ht=>h t (ho t ht)
 have c:∀q:Option Operand,(∀t∈oe q,t∈k.reads)->q.map (bK aal)=q.map (bK env):=λo ho=>wQ λt ht=>h t (ho t ht)
 clear h;cases k with
 |build z ps=>
  simp only[sn,XX];rw[zbC λp hp=>by rw[a p.2.2 λt ht=>zbA.2 ⟨p,hp,ht⟩]]
 |_=>
  simp only[PK.reads,zaA]at a b c;simp+contextual only[sn,bg,aa0,wE,a,b,c,true_or,or_true,implies_true]
def Zx{a:AV}{F G:IntKind->Int->Prop}(h:Dv.asInt a F)(hi:∀k n,F k n->G k n):Dv.asInt a G:=by
 cases a with
 |pv x=>cases x with
  |int k n=>exact hi k n h
  |_=>exact h
 |_=>exact h
def bN{β:Type}(G:(β->Prop)->Prop):Prop:=∀K,G K→∃r,K r∧∀K':β->Prop,K' r->G K'
def bN.ret{β:Type}(x:β):bN λK:β->Prop=>K x:=λ_ h=>⟨x,h,λ_ h=>h⟩
def bN.no{β:Type}:bN λ_:β->Prop=>False:=λ_ h=>h.elim
def bN.and{β:Type}{p:Prop}{G:(β->Prop)->Prop}(h:bN G):bN λK=>p/\G K:=λK hk=>by
 obtain⟨r,h1,h2⟩:=h K hk.2
 grind
def bN.ex{α β:Type}{G:α->(β->Prop)->Prop}(h:∀a,bN (G a)):bN λK=>∃a,G a K:=λK ⟨a,hk⟩=>by
 obtain⟨r,h1,h2⟩:=h a K hk;exact⟨r,h1,λK' h=>⟨a,h2 K' h⟩⟩
def bN.num{β:Type}(f:Int->β)(n:Int):bN λK:β->Prop=>∀r:Int,r=n->K (f r):=λK h=>⟨f n,h n rfl,λK' h r hr=>hr▸h⟩
def bN.cmp{β:Type}(f:PV->β)(p:Prop):bN λK:β->Prop=>Bg p λr=>K (f r):=λK h=>by
 classical
 exact⟨f (.bool (decide p)),h _ aj,λK' h r hr=>by
  grind⟩
def bN.map{α β:Type}{G:(α->Prop)->Prop}(h:bN G)(f:α->β):bN λK=>G λa=>K (f a):=λK hk=>by
 obtain⟨r,h1,h2⟩:=h _ hk
 grind
def bN.bind{α β:Type}{G:(α->Prop)->Prop}{H:α->(β->Prop)->Prop}(h:bN G)(h':∀a,bN (H a)):bN λK=>G λa=>H a K:=λK hk=>by
 obtain⟨a,h1,h2⟩:=h _ hk;obtain⟨r,h3,h4⟩:=h' a K h1
 grind
def il{α:Type}(l:List α):∀i,bN (g_ l i):=by
 induction l with
 |nil=>intro i;exact bN.no
 |cons a l ih=>intro i;cases i with
  |zero=>exact bN.ret a
  |succ i=>exact ih i
def Mj{α:Type}(n:Nat):∀l:List α,bN (J7 n l):=by
 induction n with
 |zero=>intro l;exact eM
 |succ n ih=>intro l;cases l with
  |nil=>exact bN.no
  |cons a l=>exact(ih l).map (a:: ·)
def F_{α:Type}(n:Nat):∀l:List α,bN (Ii n l):=by
 induction n with
 |zero=>intro l;exact eM
 |succ n ih=>intro l;cases l with
  |nil=>exact bN.no
  |cons a l=>exact ih l
def xR{α:Type}(new l:List α)(i:Nat):bN (GR new l i):=by
 intro K h;obtain⟨pre,mid,post,h1,h2,h3,h4⟩:=uD new l i K h;refine⟨_,h4,λK' h'=>?_⟩;have over:∀(new l mid post:List α) (K:List α->Prop),l=mid++post->mid.length=new.length->K (new++post)->
  (List.rec (λl K=>K l) (λx _ ih l K=>match l with|[]=>False|_::r=>ih r λt=>K (x::t)) new l K):=by
  intro new
  induction new with
  |nil=>grind
  |cons x new ih=>
   intro l mid post K e hl hk;cases mid with
   |nil=>grind
   |cons m mid=>
    grind
 clear h h4 K;subst h1 h2
 induction pre generalizing K' with
 |nil=>
  cases hl:mid++post with
  |nil=>
   have hm:=(zbK.1 hl).1;have hp:=(zbK.1 hl).2;subst hm hp;have:=zaf h3.symm;subst this;exact h'
  |cons a r=>
   rw[zaZ,hl];exact over new (a::r) mid post K' hl.symm h3 bf
 |cons a pre ih=>exact ih _ bf
def Lx(l:List PV):bN (abh l):=by
 induction l with
 |nil=>exact eM
 |cons x l ih=>exact ih.map (AV.pv x:: ·)
def amw{β:Type}(l:List AV)(f:List PV->β)(e:β):bN λK:β->Prop=>G_ l (λt=>K (f t)) (K e):=by
 induction l generalizing f with
 |nil=>exact eM
 |cons a l ih=>
  cases a with
  |pv x=>exact ih λt=>f (x::t)
  |_=>exact bN.ret e
def air(l:List AV):bN (aqx l):=amw l (λt=>AV.pv (.agg t)) (AV.agg l)
def ajF(ag:Bool)(cs:List PV):bN (afE ag cs):=by
 cases ag with
 |true=>exact eM
 |false=>cases cs with
  |nil=>exact bN.no
  |cons c cs=>cases cs with
   |nil=>exact eM
   |cons _ _=>exact bN.no
def Tx(ag:Bool)(cs:List AV):bN (Nz ag cs):=by
 cases ag with
 |true=>exact air cs
 |false=>cases cs with
  |nil=>exact bN.no
  |cons c cs=>cases cs with
   |nil=>exact eM
   |cons _ _=>exact bN.no
def F8(off:Nat)(ag:Bool)(n:Nat)(cs:List PV):bN (HX off ag n cs):=(F_ off cs).bind λr=>(Mj n r).bind λt=>ajF ag t
def Oy(a:AV):bN (GN a):=by
 cases a with
 |pv x=>cases x with
  |agg cs=>exact Lx cs
  |tup _=>exact bN.no
  |_=>exact eM
 |agg cs=>exact eM
 |own id=>exact eM
 |ref id idx off=>exact eM
 |sub id sz lo n=>exact eM
 |clo f jh=>exact eM
 |_=>exact bN.no
def al9(ps:List (Nat×Nat×AV)):∀z,bN (SS z ps):=by
 induction ps with
 |nil=>intro z;exact bN.ret z
 |cons p ps ih=>intro z;exact(Oy p.2.2).bind λvs=>bN.and ((xR vs z p.1).bind λz=>ih z)
def aiW{β:Type}(sz lo n:Nat)(b:dC)(f:List PV->(β->Prop)->Prop)(h:∀l,bN (f l)):bN λK=>YG sz lo n b λl=>f l K:=by
 have one:∀(s:Nat) (aC:List PV),bN λK=>match Nat.beq s sz with
  |true=>lo+n<=aC.length/\f (cut lo (lo+n) aC) K
  |false=>False:=by
  intro s aC;cases Nat.beq s sz with
  |true=>exact bN.and (h _)
  |false=>exact bN.no
 cases b with
 |row e s ap aC=>exact one s aC
 |fz x=>cases x with
  |sl s aC=>exact one s aC
  |_=>exact bN.no
 |_=>exact bN.no
def QN{β:Type}(a:AV)(f:Nat->List PV->(β->Prop)->Prop)(h:∀s l,bN (f s l)):bN λK=>Ef σ a λs l=>f s l K:=by
 cases a with
 |pv x=>cases x with
  |sl sz aC=>exact h sz aC
  |nil sz=>exact h sz []
  |_=>exact bN.no
 |own id=>
  refine(il σ id).bind λb=>?_
  cases b with
  |row e sz ap aC=>grind
  |fz x=>cases x with
   |sl sz aC=>grind
   |_=>exact bN.no
  |_=>exact bN.no
 |sub id sz lo n=>exact(il σ id).bind λb=>aiW sz lo n b _ λl=>h sz l
 |_=>exact bN.no
def ann{β:Type}(n:Nat)(hi:Option AV)(f:Nat->(β->Prop)->Prop)(h:∀k,bN (f k)):bN λK=>CK n hi λk=>f k K:=by
 cases hi with
 |none=>exact h n
 |some a=>cases a with
  |pv x=>cases x with
   |int k m=>exact bN.and (h _)
   |_=>exact bN.no
  |_=>exact bN.no
def UN{β:Type}(n:Nat)(lo hi:Option AV)(f:Nat->Nat->(β->Prop)->Prop)(h:∀l k,bN (f l k)):bN λK=>iJ n lo hi λl k=>f l k K:=by
 cases lo with
 |none=>exact ann n hi _ λk=>h 0 k
 |some a=>cases a with
  |pv x=>cases x with
   |int k m=>exact ann n hi (λu K=>(0<=m/\m<=(u:Int))/\f m.toNat u K) λu=>bN.and (h _ _)
   |_=>exact bN.no
  |_=>exact bN.no
def km{β:Type}(a:AV)(f:IntKind->Int->(β->Prop)->Prop)(h:∀k n,bN (f k n)):bN λK=>Dv.asInt a λk n=>f k n K:=by
 cases a with
 |pv x=>cases x with
  |int k n=>exact h k n
  |_=>exact bN.no
 |_=>exact bN.no
def auX{β:Type}(op:BinOp)(k:IntKind)(a b:Int)(f:PV->β):bN λK:β->Prop=>atB op k a b λr=>K (f r):=by
 cases op<;>first|exact bN.num (λr=>f (.int k r)) _|exact bN.cmp f _|exact bN.and (bN.num (λr=>f (.int k r)) _)
def aik{β:Type}(op:BinOp)(x y:PV)(f:PV->β):bN λK:β->Prop=>ax6 op x y λr=>K (f r):=by
 cases x with
 |int k a=>cases y with
  |int j b=>
   show bN λK:β->Prop=>match sameKind op k j with|true=>atB op k a b λr=>K (f r)|false=>False
   cases sameKind op k j with
   |true=>exact auX op k a b f
   |false=>exact bN.no
  |_=>exact bN.no
 |str a=>cases y with
  |str b=>cases op<;>first|exact bN.no|exact bN.cmp f _|exact bN.and (bN.ret (f (.str (a++b))))
  |_=>exact bN.no
 |_=>exact bN.no
def BO(a:AV):bN (jD σ a):=by
 refine AV.rec (motive_1:=λa=>bN (jD σ a)) (motive_2:=λl=>bN (aQ σ l)) ?_ ?_ ?_ ?_ ?_ ?_ ?_ ?_ ?_ ?_ a
 ·exact bN.no
 ·intro x;exact bN.ret x
 ·intro id;refine(il σ id).bind λb=>?_
  cases b with
  |row e sz ap aC=>exact eM
  |fz x=>exact eM
  |_=>exact bN.no
 ·intro id idx off;cases idx with
  |succ _=>exact bN.no
  |zero=>cases off with
   |succ _=>exact bN.no
   |zero=>exact(il σ id).bind λb K h=>an3 b h
 ·intro id sz lo n;exact(il σ id).bind λb=>aiW sz lo n b (λl K=>K (PV.sl sz l)) λl=>bN.ret _
 ·intro cs ih K h;obtain⟨r,h1,h2⟩:=ih.map PV.agg K (BM σ cs K h);exact⟨r,h1,λK' h=>Dh σ cs K' (h2 K' h)⟩
 ·intro cs ih K h;obtain⟨r,h1,h2⟩:=ih.map PV.tup K (Hh σ cs K h);exact⟨r,h1,λK' h=>J4 σ cs K' (h2 K' h)⟩
 ·intro _ _ _;exact bN.no
 ·exact eM
 ·intro a l h1 h2;exact h1.bind λx=>h2.map (x:: ·)
def tF(l:List AV):bN (aQ σ l):=by
 induction l with
 |nil=>exact eM
 |cons a l ih=>exact(BO a).bind λx=>ih.map (x:: ·)
def nI(σ:aF)(G:(AV->aF->Prop)->Prop):Prop:=∀K,G K→∃v,K v σ∧∀K':AV->aF->Prop,K' v σ->G K'
def bN.two{G:(AV->Prop)->Prop}(h:bN G):nI σ λK=>G λa=>K a σ:=λK hk=>by
 obtain⟨r,h1,h2⟩:=h _ hk
 grind
def nI.no:nI σ λ_=>False:=λ_ h=>h.elim
def nI.ret(a:AV):nI σ λK=>K a σ:=λ_ h=>⟨a,h,λ_ h=>h⟩
def nI.aFI{β:Type}{G:(β->Prop)->Prop}{H:β->(AV->aF->Prop)->Prop}(h:bN G)(h':∀a,nI σ (H a)):nI σ λK=>G λa=>H a K:=λK hk=>by
 obtain⟨a,h1,h2⟩:=h _ hk;obtain⟨r,h3,h4⟩:=h' a K h1
 grind
def apZ(ag:Bool)(n:Nat)(a:AV):bN (Nw σ ag n a):=by
 cases a with
 |pv x=>cases x with
  |cptr y=>exact(F8 0 ag n y.cells).map AV.pv
  |_=>exact bN.no
 |ref id idx off=>
  refine(il σ id).bind λb=>?_
  cases b with
  |row e sz ap aC=>exact bN.ex λy=>bN.and ((F8 off ag n y.cells).map AV.pv)
  |box e cs=>exact(F_ off cs).bind λr=>(Mj n r).bind λt=>Tx ag t
  |fz x=>cases x with
   |cptr y=>exact(F8 off ag n y.cells).map AV.pv
   |_=>exact bN.no
  |_=>exact bN.no
 |_=>exact bN.no
def aoS(sz:Nat)(a:AV)(i:Int):bN (Vc σ sz a i):=by
 have one:∀(s:Nat) (aC:List PV),bN λK:AV->Prop=>match Nat.beq s sz with
  |true=>∃y,(0<=i/\aC[i.toNat]?=some y)/\K (.pv (.cptr y))
  |false=>False:=by
  intro s aC;cases Nat.beq s sz with
  |true=>exact bN.ex λy=>bN.and (bN.ret (AV.pv (.cptr y)))
  |false=>exact bN.no
 cases a with
 |pv x=>cases x with
  |sl s aC=>exact one s aC
  |_=>exact bN.no
 |own id=>
  refine(il σ id).bind λb=>?_
  cases b with
  |row e s ap aC=>
   show bN λK:AV->Prop=>match Nat.beq s sz with
    |true=>(0<=i/\i.toNat<aC.length)/\K (.ref id i.toNat 0)
    |false=>False
   cases Nat.beq s sz with
   |true=>exact bN.and (bN.ret (AV.ref id i.toNat 0))
   |false=>exact bN.no
  |fz x=>cases x with
   |sl s aC=>exact one s aC
   |_=>exact bN.no
  |_=>exact bN.no
 |sub id z lo n=>
  show bN λK:AV->Prop=>match Nat.beq z sz with
   |true=>g_ σ id λb=>match b with
    | .row _ s _ aC=>match Nat.beq s sz with
     |true=>((0<=i/\i.toNat<n)/\lo+n<=aC.length)/\K (.ref id (lo+i.toNat) 0)
     |false=>False
    | .fz x=>match x with
     | .sl s aC=>match Nat.beq s sz with
      |true=>∃y,((0<=i/\i.toNat<n/\lo+n<=aC.length)/\aC[lo+i.toNat]?=some y)/\K (.pv (.cptr y))
      |false=>False
     |_=>False
    |_=>False
   |false=>False
  cases Nat.beq z sz with
  |false=>exact bN.no
  |true=>
   refine(il σ id).bind λb=>?_
   cases b with
   |row e s ap aC=>
    show bN λK:AV->Prop=>match Nat.beq s sz with
     |true=>((0<=i/\i.toNat<n)/\lo+n<=aC.length)/\K (.ref id (lo+i.toNat) 0)
     |false=>False
    cases Nat.beq s sz with
    |true=>exact bN.and (bN.ret _)
    |false=>exact bN.no
   |fz x=>cases x with
    |sl s aC=>
     show bN λK:AV->Prop=>match Nat.beq s sz with
      |true=>∃y,((0<=i/\i.toNat<n/\lo+n<=aC.length)/\aC[lo+i.toNat]?=some y)/\K (.pv (.cptr y))
      |false=>False
     cases Nat.beq s sz with
     |true=>exact bN.ex λy=>bN.and (bN.ret (AV.pv (.cptr y)))
     |false=>exact bN.no
    |_=>exact bN.no
   |_=>exact bN.no
 |_=>exact bN.no
def amc(n sz:Nat)(a:AV)(i:Int):bN (SO σ n sz a i):=by
 cases a with
 |ref id idx off=>
  cases idx with
  |succ idx=>exact bN.no
  |zero=>cases off with
   |succ off=>exact bN.no
   |zero=>
    refine(il σ id).bind λb=>?_
    cases b with
    |row e s ap aC=>
     show bN λK:AV->Prop=>match Nat.beq s sz with
      |true=>(aC.length=n/\0<=i/\i.toNat<n)/\K (.ref id i.toNat 0)
      |false=>False
     cases Nat.beq s sz with
     |true=>exact bN.and (bN.ret _)
     |false=>exact bN.no
    |_=>exact bN.no
 |_=>exact bN.no
def aez{β:Type}(id:Nat)(r:β):bN λK:β->Prop=>aed σ id (K r):=by
 refine(il σ id).bind λb=>?_
 cases b with
 |row _ _ _ _=>exact bN.ret r
 |box _ _=>exact bN.ret r
 |fz x=>cases x with
  |cptr y=>exact bN.ret r
  |_=>exact bN.no
 |_=>exact bN.no
def aeK(off:Nat)(a:AV):bN (UU σ off a):=by
 cases a with
 |pv x=>cases x with
  |cptr y=>exact(F_ off y.cells).map λr=>AV.pv (.cptr (.agg r))
  |_=>exact bN.no
 |ref id idx o=>exact aez id (AV.ref id idx (Nat.add o off))
 |_=>exact bN.no
def Yr{P:Program}(hΓ:Sound P Γ)(env:Env){k:PK}(hk:k.pure Γ=true):nI σ (λK=>sn Γ env σ k K):=by
 cases k with
 |mv x=>simp only[sn,bg];exact uZ
 |nilS sz=>exact uZ
 |nilR e sz=>cases hk
 |pick c a b=>
  simp only[sn,bg];cases bK env c with
  |pv c=>cases c with
   |bool c=>cases c with
    |true=>exact uZ
    |false=>exact uZ
   |_=>exact nI.no
  |_=>exact nI.no
 |bin op x y=>
  simp only[sn,bg];cases bK env x with
  |pv x=>cases bK env y with
   |pv y=>exact(aik op x y AV.pv).two
   |_=>exact nI.no
  |_=>exact nI.no
 |eqb neg x y=>
  simp only[sn,bg];cases bK env x with
  |pv x=>cases bK env y with
   |pv y=>cases x with
    |bool a=>cases y with
     |bool b=>cases neg with
      |false=>exact(bN.cmp AV.pv (a=b)).two
      |true=>exact(bN.cmp AV.pv (a≠b)).two
     |_=>exact nI.no
    |_=>exact nI.no
   |_=>exact nI.no
  |_=>exact nI.no
 |eqs neg n x y=>
  simp only[sn,bg];cases bK env x with
  |pv x=>cases bK env y with
   |pv y=>cases x with
    |agg a=>cases y with
     |agg b=>
      simp only;cases v_ n a b with
      |false=>exact nI.no
      |true=>cases neg with
       |false=>exact(bN.cmp AV.pv (a=b)).two
       |true=>exact(bN.cmp AV.pv (a≠b)).two
     |_=>exact nI.no
    |_=>exact nI.no
   |_=>exact nI.no
  |_=>exact nI.no
 |un op x=>
  simp only[sn,bg];cases bK env x with
  |pv x=>cases op with
   |not=>cases x with
    |bool b=>exact(bN.cmp AV.pv (b=false)).two
    |_=>exact nI.no
   |neg=>cases x with
    |int k n=>exact(bN.num (λr=>AV.pv (.int k r)) _).two
    |_=>exact nI.no
   |_=>exact nI.no
  |_=>exact nI.no
 |conv c x=>
  simp only[sn,bg];cases c with
  |toInt k=>exact(km (bK env x) (λ_ n K=>agQ k n λr=>K (AV.pv r)) λ_ n=>bN.num (λr=>AV.pv (.int k r)) _).two
  |same=>
   cases bK env x with
   |pv x=>cases x with
    |str l=>exact uZ
    |_=>exact nI.no
   |_=>exact nI.no
  |bts=>exact(QN (σ:=σ) (bK env x) (λ_ aC K=>∃l:List UInt8,aC=l.map aL/\K (AV.pv (.str l))) λs aC=>bN.ex λl=>bN.and (bN.ret _)).two
  |stb e=>cases hk
 |lenS x=>
  simp only[sn,bg];cases bK env x with
  |pv x=>cases x with
   |str l=>exact uZ
   |_=>exact nI.no
  |_=>exact nI.no
 |lenR x=>cases hk
 |lenN x=>
  simp only[sn,bg];exact(QN (σ:=σ) (bK env x) (λ_ aC K=>K (AV.pv (.int .i64 aC.length))) λs aC=>bN.ret _).two
 |mm mx x y=>
  simp only[sn,bg];cases mx with
  |true=>exact(km (bK env x) (λk a K=>Dv.asInt (bK env y) λ_ b=>∀r:Int,r=max a b->K (AV.pv (.int k r))) λk a=>km (bK env y) (λ_ b K=>∀r:Int,r=max a b->K (AV.pv (.int k r))) λ_ b=>bN.num (λr=>AV.pv (.int k r)) _).two
  |false=>exact(km (bK env x) (λk a K=>Dv.asInt (bK env y) λ_ b=>∀r:Int,r=min a b->K (AV.pv (.int k r))) λk a=>km (bK env y) (λ_ b K=>∀r:Int,r=min a b->K (AV.pv (.int k r))) λ_ b=>bN.num (λr=>AV.pv (.int k r)) _).two
 |idx x y=>
  simp only[sn,bg];refine bN.two (G:=λK=>Dv.asInt (bK env y) λ_ i=>match bK env x with
   | .pv x=>match x with
    | .str l=>∃b,(0<=i/\l[i.toNat]?=some b)/\K (AV.pv (aL b))
    |_=>False
   |_=>False) ?_
  refine km _ _ λ_ i=>?_
  cases bK env x with
  |pv x=>cases x with
   |str l=>exact bN.ex λb=>bN.and (bN.ret _)
   |_=>exact bN.no
  |_=>exact bN.no
 |slcS x lo hi=>
  simp only[sn,bg,aa0];cases bK env x with
  |pv x=>cases x with
   |str l=>exact(UN l.length _ _ (λa b K=>K (AV.pv (.str (cut a b l)))) λa b=>bN.ret _).two
   |_=>exact nI.no
  |_=>exact nI.no
 |slcR sz x lo hi=>cases hk
 |idxA sz x y=>
  simp only[sn,bg];exact(km (bK env y) (λ_ i K=>Vc σ sz (bK env x) i K) λ_ i=>aoS sz _ i).two
 |fldA off x=>simp only[sn,bg];exact(aeK off _).two
 |fld off ag n x=>
  simp only[sn,bg];cases bK env x with
  |pv x=>cases x with
   |agg cs=>exact((F8 off ag n cs).map AV.pv).two
   |_=>exact nI.no
  |agg cs=>exact((F_ off cs).bind λr=>(Mj n r).bind λt=>Tx ag t).two
  |_=>exact nI.no
 |load ag n x=>simp only[sn,bg];exact(apZ ag n _).two
 |store n x y=>cases hk
 |alloc e z=>cases hk
 |box e x=>cases hk
 |build z ps=>
  simp only[sn,XX];exact((Lx z).bind λz=>(al9 _ z).bind λcs=>air cs).two
 |bslice e sz l=>cases hk
 |bslP e sz l=>cases hk
 |app e sz b x y=>cases hk
 |appS e b x y=>cases hk
 |mksl e sz b z x y=>cases hk
 |call f l=>
  have hf:(Γ f).fn=true:=hk;obtain⟨h1,h2,_⟩:=hΓ f;simp only[sn,wE,J1,(h2 hf).1,(h2 hf).2];refine nI.aFI (tF _) λps=>?_
  intro K hK;obtain⟨x,h3,h4⟩:=h1 hf ps _ hK;exact⟨.pv x,h3,λK' h=>h4 _ h⟩
 |ext x i=>
  simp only[sn,bg];cases bK env x with
  |tup l=>exact(il l i).two
  |pv x=>cases x with
   |tup l=>exact((il l i).map AV.pv).two
   |_=>exact nI.no
  |_=>exact nI.no
 |nilck x=>
  simp only[sn,bg];cases bK env x with
  |ref id idx off=>exact(aez id (AV.ref id idx off)).two
  |pv x=>cases x with
   |cptr y=>exact uZ
   |clo f cs=>exact uZ
   |_=>exact nI.no
  |clo f cs=>exact uZ
  |_=>exact nI.no
 |mkf f l=>cases hk
 |callv x l=>cases hk
 |idxAr n sz x y=>
  simp only[sn,bg];exact(km (bK env y) (λ_ i K=>SO σ n sz (bK env x) i K) λ_ i=>amc n sz _ i).two
 |fail=>cases hk
 |junk=>cases hk
 |cpy sz x y=>cases hk
 |cpyS x y=>cases hk
 |clr sz z x=>cases hk
 |mkarr e sz z n=>cases hk
 |slcA n sz x lo hi=>cases hk
 |isnil neg x=>cases hk
 |look c x y=>cases hk
 |idxV m sz ag n x y=>
  simp only[sn,bg];have hd:bN λK:AV->Prop=>Dv.asInt (bK env y) λ_ i=>(0<=i/\i.toNat<m)/\match bK env x with
   | .pv x=>match x with
    | .agg cs=>HX (Nat.mul i.toNat sz) ag n cs λr=>K (AV.pv r)
    |_=>False
   | .agg cs=>Ii (Nat.mul i.toNat sz) cs λr=>J7 n r λt=>Nz ag t K
   |_=>False:=by
   refine km _ (λ_ i K=>_) λ_ i=>bN.and ?_
   cases bK env x with
   |pv x=>cases x with
    |agg cs=>exact(F8 _ ag n cs).map AV.pv
    |_=>exact bN.no
   |agg cs=>exact(F_ _ cs).bind λr=>(Mj n r).bind λt=>Tx ag t
   |_=>exact bN.no
  intro K hk;obtain⟨v,h1,h2⟩:=hd (λa=>K a σ) (Zx hk λ_ i ⟨h0,h⟩=>⟨h0,ab⟩);exact⟨v,h1,λK' h'=>Zx (h2 (λa=>K' a σ) h') λ_ i ⟨h0,h⟩=>⟨h0,ab⟩⟩
 |fldV m sz x y=>
  simp only[sn,bg];exact(km (bK env y) (λ_ i K=>(0<=i/\i.toNat<m)/\UU σ (Nat.mul i.toNat sz) (bK env x) K) λ_ i=>bN.and (aeK _ _)).two
noncomputable def dg(Γ:Ctx)(o:PO)(env:Env)(σ:aF)(K:Env->aF->Prop):Prop:=
 match o.g with
  |none=>sn Γ env σ o.k λv σ=>K (put o.dst v env) σ
  |some (g,want)=>match aE g env with
   | .pv x=>match x with
    | .bool b=>bif b==want then sn Γ env σ o.k λv σ=>K (put o.dst v env) σ else K (put o.dst (.pv (.tup [])) env) σ
    | .tup _=>K (put o.dst (.pv (.tup [])) env) σ
    |_=>False
   |_=>False
def vh(K:Env->aF->Prop)(o:PO)(l:List PO)(env:Env):X5 Γ K (o::l) env σ=dg Γ o env σ (X5 Γ K l):=by
 obtain⟨d,g,k⟩:=o;cases g with
 |none=>rfl
 |some p=>
  obtain⟨g,want⟩:=p;unfold dg;refine Eq.trans (look_eq g (λgv=>match gv with
   | .pv x=>match x with
    | .bool b=>match b with
     |true=>(match want with
      |true=>sn Γ env σ k λv σ=>X5 Γ K l (put d v env) σ
      |false=>X5 Γ K l (put d (.pv (.tup [])) env) σ)
     |false=>(match want with
      |false=>sn Γ env σ k λv σ=>X5 Γ K l (put d v env) σ
      |true=>X5 Γ K l (put d (.pv (.tup [])) env) σ)
    | .tup _=>X5 Γ K l (put d (.pv (.tup [])) env) σ
    |_=>False
   |_=>False) env) ?_
  grind
def SB{P:Program}(hΓ:Sound P Γ){o:PO}(ho:o.k.pure Γ=true){env:Env}{K:Env->aF->Prop}(h:dg Γ o env σ K):
 ∃v,K (put o.dst v env) σ∧∀(aal:Env) (K':Env->aF->Prop),(∀t∈o.reads,aE t aal=aE t env)->K' (put o.dst v aal) σ->dg Γ o aal σ K':=by
 obtain⟨d,g,k⟩:=o;have run:∀{env:Env} {K:Env->aF->Prop},sn Γ env σ k (λv σ=>K (put d v env) σ)→∃v,K (put d v env) σ∧∀(aal:Env) (K':Env->aF->Prop),(∀t∈k.reads,aE t aal=aE t env)->K' (put d v aal) σ->sn Γ aal σ k (λv σ=>K' (put d v aal) σ):=by
  intro env K h;obtain⟨v,h1,h2⟩:=Yr hΓ env ho _ h;refine⟨v,h1,λaal K' hr hk=>?_⟩;rw[AL hr]
  grind
 cases g with
 |none=>
  obtain⟨v,h1,h2⟩:=run (K:=K) h;exact⟨v,h1,λaal K' hr hk=>h2 aal K' (λt ht=>hr t aA) hk⟩
 |some p=>
  obtain⟨g,want⟩:=p;unfold dg at h;simp only at h;have hg:∀aal:Env,(∀t∈PO.reads ⟨d,some (g,want),k⟩,aE t aal=aE t env)->aE g aal=aE g env:=λaal hr=>hr g (by simp[PO.reads])
  cases hv:aE g env with
  |pv x=>
   rw[hv]at h;cases x with
   |bool b=>
    simp only at h;cases hb:(b==want)with
    |true=>
     rw[hb]at h;obtain⟨v,h1,h2⟩:=run (K:=K) h;refine⟨v,h1,λaal K' hr hk=>?_⟩;unfold dg;simp only[hg aal hr,hv,hb];exact h2 aal K' (λt ht=>hr t BG) hk
    |false=>
     unfold dg
     grind
   |tup l=>
    unfold dg
    grind
   |_=>grind
  |_=>grind
def BP(K:Env->aF->Prop):Prop:=∀env aal σ,(∀p,aE p aal=aE p env)->K aal σ=K env σ
def N9{d:Option Nat}{v:AV}{env aal:Env}(h:∀p,aE p aal=aE p env)(p:Nat):aE p (put d v aal)=aE p (put d v env):=by
 cases d with
 |none=>exact h p
 |some d=>rw[kq,kq,h p]
def BS{p o:PO}(h:NC p o=false):(∀d,p.dst=some d->d∉o.reads/\o.dst≠some d)∧∀d,o.dst=some d->d∉p.reads:=by
 unfold NC at h
 grind
def aaW(y:PV)(cs:List PV):bN (akT y cs):=by
 cases y<;>first|exact eM|(cases cs with
  |nil=>exact bN.no
  |cons x r=>cases r with
   |nil=>exact eM
   |cons _ _=>exact bN.no)
def ZW{P:Program}(hΓ:Sound P Γ){k:PK}(hk:k.still=true){env:Env}(σ:aF){K:AV->aF->Prop}(h:sn Γ env σ k K):∃v,K v σ∧∀(σ':aF) (K':AV->aF->Prop),K' v σ'->sn Γ env σ' k K':=by
 have e:k.pure Γ=true∧∀σ' K',sn Γ env σ' k K'=sn Γ env σ k λv _=>K' v σ':=by
  cases k<;>first|cases hk;done|exact⟨rfl,λ_ _=>rfl⟩|(cases ‹Cv› <;>first|cases hk;done|exact⟨rfl,λ_ _=>rfl⟩)
 obtain⟨v,h1,h2⟩:=Yr hΓ env e.1 _ h;exact⟨v,h1,λσ' K' h=>by rw[e.2];exact h2 _ h⟩
def S7{o p:PO}{v:AV}{env:Env}(h:∀d,p.dst=some d->d∉o.reads):∀t∈o.reads,aE t env=aE t (put p.dst v env):=by
 intro t ht;cases hd:p.dst with
 |none=>rfl
 |some d=>
  rw[kq];have:d≠t:=λe=>h d hd (e▸ht)
  rw[VI this];rfl
def asi{p o:PO}{u v:AV}{env:Env}(c1:∀d,p.dst=some d->o.dst≠some d)(q:Nat):aE q (put p.dst v (put o.dst u env))=aE q (put o.dst u (put p.dst v env)):=by
 cases hd:p.dst with
 |none=>rfl
 |some d=>
  cases he:o.dst with
  |none=>rfl
  |some e=>
   have dI:e≠d:=λh=>c1 d hd (h▸he)
   simp only[kq];by_cases h1:d=q
   ·have:=VI dI
    grind
   ·have:=VI h1
    grind
mutual
def AV.On(P:Nat->Prop):AV->Prop
 | .own i=>P i
 | .ref i _ _=>P i
 | .sub i _ _ _=>P i
 | .agg cs=>AV.jY P cs
 | .tup cs=>AV.jY P cs
 |_=>True
def AV.jY(P:Nat->Prop):List AV->Prop
 |[]=>True
 |a::l=>AV.On P a/\AV.jY P l
end
def Sub(P:Nat->Prop)(σ σ':aF):Prop:=∀(i:Nat) (b:dC),P i->σ[i]?=some b->σ'[i]?=some b
section
variable {P:Nat->Prop} {σ':aF}
def anO(hs:Sub P σ σ'){i:Nat}(hi:P i){K:dC->Prop}(h:g_ σ i K):g_ σ' i K:=by
 obtain⟨b,h1,h2⟩:=aS _ _ _ h;exact dP _ _ b _ (hs i b hi h1) h2
def agv(hs:Sub P σ σ'){a:AV}(ha:a.On P){K:Nat->List PV->Prop}(h:Ef σ a K):Ef σ' a K:=by
 cases a with
 |own id=>exact ux
 |sub id sz lo n=>exact ux
 |_=>exact h
def ajg(hs:Sub P σ σ'){i:Nat}(hi:P i){p:Prop}(h:aed σ i p):aed σ' i p:=anO hs hi h
def ajY(hs:Sub P σ σ'){off:Nat}{a:AV}(ha:a.On P){K:AV->Prop}(h:UU σ off a K):UU σ' off a K:=by
 cases a with
 |ref id idx o=>exact ajg hs aA h
 |_=>exact h
def ato(hs:Sub P σ σ'){ag:Bool}{n:Nat}{a:AV}(ha:a.On P){K:AV->Prop}(h:Nw σ ag n a K):Nw σ' ag n a K:=by
 cases a with
 |ref id idx o=>exact ux
 |_=>exact h
def atU(hs:Sub P σ σ'){sz:Nat}{a:AV}{i:Int}(ha:a.On P){K:AV->Prop}(h:Vc σ sz a i K):Vc σ' sz a i K:=by
 cases a with
 |own id=>exact ux
 |sub id z lo n=>
  simp only[Vc]at h ⊢;cases hz:Nat.beq z sz with
  |true=>rw[hz]at h;exact ux
  |false=>grind
 |_=>exact h
def apF(hs:Sub P σ σ'){n sz:Nat}{a:AV}{i:Int}(ha:a.On P){K:AV->Prop}(h:SO σ n sz a i K):SO σ' n sz a i K:=by
 cases a with
 |ref id idx off=>
  cases idx with
  |zero=>cases off with
   |zero=>exact ux
   |succ _=>exact h
  |succ _=>exact h
 |_=>exact h
def aem(hs:Sub P σ σ')(a:AV):∀{K:PV->Prop},a.On P->jD σ a K->jD σ' a K:=by
 refine AV.rec (motive_1:=λa=>∀{K:PV->Prop},a.On P->jD σ a K->jD σ' a K) (motive_2:=λl=>∀{K:List PV->Prop},AV.jY P l->aQ σ l K->aQ σ' l K) ?_ ?_ ?_ ?_ ?_ ?_ ?_ ?_ ?_ ?_ a
 ·intro K _ h;exact h
 ·intro x K _ h;exact h
 ·intro id K ha h;exact ux
 ·intro id idx off K ha h;cases idx with
  |succ _=>exact h
  |zero=>cases off with
   |succ _=>exact h
   |zero=>exact ux
 ·intro id sz lo n K ha h;exact ux
 ·intro cs ih K ha h;exact Dh σ' cs K (ih aA (BM σ cs K h))
 ·intro cs ih K ha h;exact J4 σ' cs K (ih aA (Hh σ cs K h))
 ·intro _ _ _ K _ h;exact h
 ·intro K _ h;exact h
 ·intro a l h1 h2 K ha h;obtain⟨x,h3,h4⟩:=BO a _ h;refine h1 ha.1 (h4 _ ?_);exact h2 ha.2 h3
def Zy(hs:Sub P σ σ')(l:List AV){K:List PV->Prop}(ha:AV.jY P l)(h:aQ σ l K):aQ σ' l K:=by
 have:=aem hs (.agg l) (K:=λx=>match x with| .agg cs=>K cs|_=>False) aA (Dh σ l _ h);exact BM σ' l _ this
def Tw{a:AV}{F G:IntKind->Int->Prop}(h:Dv.asInt a F)(hi:∀k n,F k n->G k n):Dv.asInt a G:=by
 cases a with
 |pv x=>cases x with
  |int k n=>exact hi k n h
  |_=>exact h
 |_=>exact h
def aod{P':Program}(hΓ:Sound P' Γ)(hs:Sub P σ σ'){env:Env}{k:PK}(hk:k.pure Γ=true)(ha:∀t∈k.reads,(aE t env).On P){K:AV->Prop}(h:sn Γ env σ k λv _=>K v):sn Γ env σ' k λv _=>K v:=by
 have one:∀{x:Operand},(∀t∈q_ x,(aE t env).On P)->(bK env x).On P:=by
  intro x hx;cases x with
  |tmp t=>exact hx t (by simp[q_])
  |const v=>simp only[bK];cases v<;>simp[GO,AV.On];(try split)<;>simp[AV.On]
  |global _=>trivial
  |func f=>trivial
 have st:k.still=true->sn Γ env σ' k λv _=>K v:=by
  intro fM;obtain⟨v,h1,h2⟩:=ZW hΓ fM σ h
  grind
 cases k with
 |conv c x=>
  cases c with
  |toInt k=>exact st rfl
  |same=>exact h
  |bts=>
   simp only[sn,bg]at h ⊢;exact agv hs (one ha) h
  |stb e=>cases hk
 |lenN x=>
  simp only[sn,bg]at h ⊢;exact agv hs (one ha) h
 |idxA sz x y=>
  simp only[sn,bg]at h ⊢;exact Tw h λ_ i h=>atU hs (one λt ht=>ha t aT) h
 |idxAr n sz x y=>
  simp only[sn,bg]at h ⊢;exact Tw h λ_ i h=>apF hs (one λt ht=>ha t aT) h
 |fldA off x=>simp only[sn,bg]at h ⊢;exact ajY hs (one ha) h
 |idxV m sz ag n x y=>exact h
 |fldV m sz x y=>
  simp only[sn,bg]at h ⊢;exact Tw h λ_ i h=>⟨h.1,ajY hs (one λt ht=>ha t aT) h.2⟩
 |load ag n x=>simp only[sn,bg]at h ⊢;exact ato hs (one ha) h
 |nilck x=>
  simp only[sn,bg]at h ⊢;have:=one ha;cases hx:bK env x with
  |ref id idx off=>
   rw[hx]at h this;exact ajg hs aA h
  |_=>grind
 |call f l=>
  have hf:(Γ f).fn=true:=hk;obtain⟨_,h2,_⟩:=hΓ f;simp only[sn,wE,J1,(h2 hf).1,(h2 hf).2]at h ⊢;have hl:AV.jY P (l.map (bK env)):=by
   have:∀l:List Operand,(∀t∈l.flatMap q_,(aE t env).On P)->AV.jY P (l.map (bK env)):=by
    intro l
    induction l with
    |nil=>intro _;trivial
    |cons x l ih=>
     intro hl;simp only[zau,AV.jY]
     grind
   exact this l ha
  have hd:=tF (σ:=σ) (l.map (bK env)) _ h;obtain⟨ps,h3,h4⟩:=hd;have h5:=h4 (λqs=>qs=ps) rfl;have h6:=Zy hs _ hl h5;obtain⟨qs,rfl,h7⟩:=tF (σ:=σ') (l.map (bK env)) _ h6;refine h7 _ ?_;obtain⟨x,h8,h9⟩:=(hΓ f).1 hf qs _ h3;exact h9 _ h8
 |idx x y=>exact h
 |slcS x lo hi=>exact h
 |fld off ag n x=>exact h
 |build z ps=>exact h
 |mv x=>exact st rfl
 |nilS sz=>exact st rfl
 |pick c a b=>exact st rfl
 |bin op x y=>exact st rfl
 |eqb neg x y=>exact st rfl
 |eqs neg ks x y=>exact st rfl
 |un op x=>exact st rfl
 |lenS x=>exact st rfl
 |mm mx x y=>exact st rfl
 |ext x i=>exact st rfl
 |_=>cases hk
end
def pX{α:Type}(l:List α)(x:α):∀(K:List α->Prop),K (l++[x])->gD l x K:=by
 induction l with
 |nil=>intro K h;exact h
 |cons a l ih=>intro K h;exact ih _ h
def vn{α:Type}(l:List α):∀(K:Nat->Prop),K l.length->pf l K:=by
 induction l with
 |nil=>intro K h;exact h
 |cons a l ih=>intro K h;exact ih _ h
def apn{K:Env->aF->Prop}(hK:BP K)(o:PO):BP λenv σ=>dg Γ o env σ K:=by
 intro env aal σ hs;obtain⟨d,g,k⟩:=o;have hk:sn Γ aal σ k (λv σ=>K (put d v aal) σ)=sn Γ env σ k (λv σ=>K (put d v env) σ):=by
  rw[AL (env:=env) λt _=>hs t];congr 1;funext v σ;exact hK _ _ _ (N9 hs)
 unfold dg;cases g with
 |none=>exact hk
 |some p=>
  obtain⟨g,want⟩:=p;simp only[hs g,hk,hK _ _ σ (N9 (d:=d) (v:=.pv (.tup [])) hs)]
def asr{K:Env->aF->Prop}(hK:BP K)(l:List PO):BP (X5 Γ K l):=by
 induction l with
 |nil=>exact hK
 |cons o l ih=>
  intro env aal σ hs;rw[vh,vh];exact apn ih o env aal σ hs
def aEV{P:Program}(hΓ:Sound P Γ){K:Env->aF->Prop}(hK:BP K){p o:PO}(LQ:Pk Γ o p=true)(hc:NC p o=false){env:Env}
 (h:dg Γ p env σ λenv σ=>dg Γ o env σ K):dg Γ o env σ λenv σ=>dg Γ p env σ K:=by
 obtain⟨c1,c2⟩:=BS hc;obtain⟨ho,hp⟩:=zbO.1 LQ;obtain⟨v,h1,h2⟩:=SB hΓ hp h;obtain⟨u,h3,h4⟩:=SB hΓ ho h1;exact h4 env _ (S7 λd hd=>(c1 d hd).1) (h2 _ _ (λt ht=>(S7 (v:=u) (λd hd=>c2 d hd) t ht).symm) ((hK _ _ _ λq=>asi (λd hd=>(c1 d hd).2) q).mpr h3))
def apb{P:Program}(hΓ:Sound P Γ){K:Env->aF->Prop}(hK:BP K)(l2:List PO)(o:PO):∀(l1:List PO) (env:Env) (σ:aF),(∀p∈l1,Pk Γ o p=true/\NC p o=false)->
 X5 Γ K (l1++o::l2) env σ->X5 Γ K (o::(l1++l2)) env σ:=by
 intro l1
 induction l1 with
 |nil=>intro env σ _ h;exact h
 |cons p l1 ih=>
  intro env σ hp h;obtain⟨XN,eQ⟩:=hp p aj;rw[zbd,vh]at h;obtain⟨v,h1,h2⟩:=SB hΓ (zbO.1 XN).2 h;have h3:=ih _ _ (λq hq=>hp q kF) h1;rw[vh]at h3;have h5:=aEV hΓ (asr hK _) XN eQ (h2 env (λenv σ=>dg Γ o env σ (X5 Γ K (l1++l2))) (λ_ _=>rfl) h3);rw[vh];have:(λenv σ=>dg Γ p env σ (X5 Γ K (l1++l2)))=X5 Γ K (p::(l1++l2)):=by
   funext env σ;rw[vh]
  rw[this]at h5;exact h5
end
end
end Go.Dv
namespace Go.Dv
open Go.RowKit
section
section
variable {cx:Cx} {env:Env} {σ:aF} {vals:List Value} {a:Act} {w w':World} {n:Nat} {Γ:Ctx} {ops:Array Oper}
def getD_eq(t:Array Value)(d:Nat):t.getD d undef=(t[d]?).getD undef:=by
 simp[zbl]
def W0{dst:Option Nat}{av:AV}{v:Value}(h:Rel cx env σ vals a w)(hv:RA (Ok cx σ vals w) σ vals w av v)(hd:∀d,dst=some d->d<a.tmps.size)(UC:∀d,dst=some d->cx.lo<=d):Rel cx (put dst av env) σ vals (a.put dst v) w:=by
 cases dst with
 |none=>exact h
 |some d=>
  refine⟨h.s,λp=>?_,h.defers,h.gh,λp hp=>?_⟩
  rotate_left
  ·have h1:=h.lo p hp;have h2:=UC d rfl;rw[getD_eq]at h1 ⊢;show((a.tmps.setIfInBounds d v)[p]?).getD undef=_;rw[zbu,if_neg ab];exact h1
  rw[kq];show RA _ _ _ _ _ ((a.tmps.setIfInBounds d v).getD p undef);rw[getD_eq,zbu];by_cases hp:d=p
  ·subst hp;simp only[zbR,cond_true,if_true,hd d rfl,zbx];exact hv
  ·rw[VI hp,if_neg hp];have:=h.env p;rw[getD_eq]at this;exact this
def anA{dst:Option Nat}(h:Rel cx env σ vals a w)(hd:∀d,dst=some d->d<a.tmps.size)(UC:∀d,dst=some d->cx.lo<=d):Rel cx (put dst (.pv (.tup [])) env) σ vals (a.put dst undef) w:=
 W0 h (by simp only[RA,Rd];exact⟨#[],rfl,Fo⟩) hd UC
def xL(a:Act)(d:Option Nat)(v:Value):(a.put d v).tmps.size=a.tmps.size:=by cases d<;>simp[Act.put]
def atE(h:Rel cx env σ vals a w):Rel cx env σ vals a { w with drawn:=w.drawn+1 }:=by
 obtain⟨h1,h2⟩:=h.s.grow (w':=w.drew) ((Below.refl _ w).drew);exact⟨h1,λp=>h2.ra _ _ (h.env p),h.defers,λx v hq=>h2.ra _ _ (h.gh x v hq),h.lo⟩
def ass{Γ:Ctx}{σ:aF}{env:Env}(k:PK)(K:AV->aF->Prop)(h:sn Γ env σ k.plain K):sn Γ env σ k K:=by
 cases k with
 |lenR x=>
  simp only[PK.plain,sn,bg]at h ⊢;cases hv:bK env x with
  |pv y=>
   rw[hv]at h;cases y with
   |sl s aC=>exact λ_=>h
   |nil s=>exact λ_=>h
   |_=>exact h.elim
  |own id=>
   rw[hv]at h;obtain⟨b,h1,h2⟩:=aS _ _ _ h;refine dP _ _ b _ h1 ?_;cases b with
   |row e s ap aC=>exact λ_=>h2
   |fz x=>cases x with
    |sl s aC=>exact λ_=>h2
    |_=>exact h2.elim
   |_=>exact h2.elim
  |sub id sz lo n=>
   rw[hv]at h;obtain⟨b,h1,h2⟩:=aS _ _ _ h;refine dP _ _ b _ h1 ?_;have one:∀(s:Nat) (aC:List PV),(match Nat.beq s sz with
    |true=>lo+n<=aC.length/\K (.pv (.int .i64 (cut lo (lo+n) aC).length)) σ
    |false=>False)->(match Nat.beq s sz with
    |true=>lo+n<=aC.length/\((cut lo (lo+n) aC).length<=9223372036854775807->K (.pv (.int .i64 (cut lo (lo+n) aC).length)) σ)
    |false=>False):=by
    intro s aC h;cases hs:Nat.beq s sz with
    |true=>rw[hs]at h;exact⟨h.1,λ_=>h.2⟩
    |false=>rw[hs]at h;exact h.elim
   cases b with
   |row e s ap aC=>exact one s aC h2
   |fz x=>cases x with
    |sl s aC=>exact one s aC h2
    |_=>exact gn
   |_=>exact gn
  |_=>rw[hv]at h;exact h.elim
 |bslice e sz l=>exact h
 |_=>exact h
def aaf(F:Fence):Prop:=F=Fence.wide∨∃l,F=Fence.wide.inRound l
def anD{P:Program}{o:Oper}{next:Act->World->Prop}{Q:Exit->Act->World->Prop}{m:Nat}(ro:Option Nat)(hd:∀c,o.op≠.defer c)(h:o.wp P a w next Q):o.wpIn { Fence.wide with round:=ro } m P a w next Q:=by
 refine⟨λf _=>trivial,?_⟩;rw[Oper.semAt_eq _ _ _ hd];unfold Oper.wp at h;generalize (execOp a.eval o).run P w=r at*;cases r with
 |ok nx w'=>
  cases nx with
  |enter f args=>exact⟨λhs=>(by cases hs),(callsIn_wide (n:=m-1)).2 h⟩
  |row row args=>exact⟨λhs=>(by cases hs),λc cs _=>let ⟨v,w',r,s⟩:=h c cs;⟨v,w',r,stepsIn_wide.2 s⟩⟩
  |value v=>exact h
  |skip=>exact h
  |defer d=>exact h
  |_=>exact B4
 |halt x w'=>cases x<;>first|exact h|exact B4
def Qy{P:Program}{o:Oper}{next:Act->World->Prop}{Q:Exit->Act->World->Prop}{F:Fence}{m:Nat}(hF:aaf F)(hd:∀c,o.op≠.defer c)(h:o.wp P a w next Q):o.wpIn F m P a w next Q:=by
 rcases hF with rfl|⟨l,rfl⟩
 ·exact anD none hd h
 ·exact anD (some l) hd h
def aaf.fn{F:Fence}(hF:aaf F)(f:FuncId):F.fn f:=by
 rcases hF with rfl|⟨l,rfl⟩<;>trivial
def Ux(P:Program)(dr:Bool)(ops:Array Oper)(n:Nat)(f:Nat->PO):Prop:=
 ∀i:Nat,i<ops.size→∃o po,ops[i]?=some o/\UR P dr ops n o=some po/\(f i=po\/f i=po.plain)
def afj(hΓ:Sound cx.P Γ){f:Nat->PO}{dr:Bool}(hc:Ux cx.P dr ops n f){i:Nat}(hi:i<ops.size)(hn:a.tmps.size=n)(hr:Rel cx env σ vals a w){K:Env->aF->Prop}{next:Act->World->Prop}{Q:Exit->Act->World->Prop}{F:Fence}{m:Nat}(hF:aaf F)(hw:∀d,(f i).dst=some d->cx.lo<=d)
 (Gs:∀aal σ' aO a' w',a'.tmps.size=n->Rel cx aal σ' aO a' w'->K aal σ'->next a' w') (h:dg Γ (f i) env σ K):wpOpIn F m cx.P ops Q i next a w:=by
 obtain⟨o,po,ho,LQ,hf⟩:=hc i hi;unfold UR at LQ;obtain⟨k,hk,LQ⟩:=aX LQ;obtain⟨hd,LQ⟩:=eB LQ;have aC8:∀d,o.dst=some d->d<a.tmps.size:=by
  intro d zc;rw[zc]at hd;rw[hn];exact za3 hd
 have uj:∀c,o.op≠.defer c:=by
  intro c sM;unfold anw ant at hk;rw[sM]at hk;cases hk
 have UC:∀d,o.dst=some d->cx.lo<=d:=by
  intro d zc;refine hw d ?_;have:(f i).dst=po.dst:=Ll;rw[this,<-zc];cases hg:o.guard with
  |none=>rw[hg]at LQ;cases LQ;rfl
  |some gw=>
   rw[hg]at LQ;obtain⟨oj,_,LQ⟩:=aX LQ;obtain⟨dd,_,LQ⟩:=aX LQ;cases LQ;rfl
 have run:sn Γ env σ k (λv σ=>K (put o.dst v env) σ)->o.wpIn F m cx.P a w next Q:=by
  intro h;refine Qy hF uj ?_;refine aqb hΓ hr hk h next Q ?_
  intro av σ' aO v w' hK ic hv;exact Gs _ _ _ _ _ ((xL ..).trans hn) (W0 ic hv aC8 UC) hK
 have run':sn Γ env σ (f i).k (λv σ=>K (put o.dst v env) σ)->(f i).k=k\/(f i).k=k.plain->o.wpIn F m cx.P a w next Q:=by
  intro h he;rcases he with he|he
  ·rw[he]at h;exact run h
  ·rw[he]at h;exact run (ass _ _ h)
 unfold wpOpIn;simp only[ho];cases hg:o.guard with
 |none=>
  rw[hg]at LQ;simp only at LQ;cases LQ;have:Region.wanted o (yielded ops a.tmps)=true:=BT;rw[if_pos this];unfold dg at h;have e1:(f i).g=none:=Ll;have e2:(f i).dst=o.dst:=Ll;have e3:(f i).k=k\/(f i).k=k.plain:=akh;rw[e1,e2]at h;exact run' h e3
 |some gw=>
  obtain⟨j,want⟩:=gw;rw[hg]at LQ;simp only at LQ;obtain⟨oj,oL,LQ⟩:=aX LQ;obtain⟨d,fu,LQ⟩:=aX LQ;cases LQ;have e1:(f i).g=some (d,want):=Ll;have e2:(f i).dst=o.dst:=Ll;have e3:(f i).k=k\/(f i).k=k.plain:=akh;unfold dg at h;rw[e1,e2]at h;simp only at h;cases hv:aE d env with
  |pv x=>
   rw[hv]at h;cases x with
   |bool b=>
    simp only at h;have hy:yielded ops a.tmps j=some b:=by
     have h1:=hr.env d;rw[hv,getD_eq]at h1;simp only[RA,Rd]at h1;unfold yielded;simp only[oL,zbG,fu];cases ht:a.tmps[d]? with
     |none=>rw[ht]at h1;cases h1
     |some v=>rw[ht]at h1;simp only[zbx]at h1;rw[h1]
    have hw:Region.wanted o (yielded ops a.tmps)=(b==want):=by
     simp only[Region.wanted,hg,hy];cases b<;>cases want<;>rfl
    rw[hw];cases hb:(b==want)with
    |true=>rw[hb]at h;exact run' h e3
    |false=>
     rw[hb]at h;exact⟨λf _=>hF.fn f,Gs _ _ _ _ _ ((xL ..).trans hn) (anA hr aC8 UC) h⟩
   |tup l=>
    simp only at h;have hy:yielded ops a.tmps j=none:=by
     have h1:=hr.env d;rw[hv,getD_eq]at h1;simp only[RA,Rd]at h1;obtain⟨vs,h1,_⟩:=h1;unfold yielded;simp only[oL,zbG,fu];cases ht:a.tmps[d]? with
     |none=>rfl
     |some v=>rw[ht]at h1;simp only[zbx]at h1;rw[h1]
    have hw:Region.wanted o (yielded ops a.tmps)=false:=by
     simp only[Region.wanted,hg,hy];cases want<;>rfl
    rw[hw];exact⟨λf _=>hF.fn f,Gs _ _ _ _ _ ((xL ..).trans hn) (anA hr aC8 UC) h⟩
   |_=>exact h.elim
  |_=>rw[hv]at h;exact h.elim
def apc(hΓ:Sound cx.P Γ){f:Nat->PO}{dr:Bool}(hc:Ux cx.P dr ops n f){K:Env->aF->Prop}{Q:Exit->Act->World->Prop}{F:Fence}{m:Nat}(hF:aaf F)(hw:∀i,i<ops.size→∀d,(f i).dst=some d->cx.lo<=d)
 (hQ:∀aal σ' aO a' w',a'.tmps.size=n->Rel cx aal σ' aO a' w'->K aal σ'->Q .normal a' w'):
 ∀(is:List Nat) (env:Env) (σ:aF) (vals:List Value) (a:Act) (w:World),(∀i∈is,i<ops.size)->a.tmps.size=n->Rel cx env σ vals a w->X5 Γ K (is.map f) env σ->wpOpsIn F m cx.P ops Q is a w:=by
 intro is
 induction is with
 |nil=>intro env σ vals a w _ hn hr h;exact hQ _ _ _ _ _ hn hr h
 |cons i is ih=>
  intro env σ vals a w hi hn hr h;rw[zau,vh]at h;rw[wpOpsIn_cons];exact afj hΓ hc (hi i aj) hn hr hF (hw i (hi i aj)) (λaal σ' aO a' w' ba ic hK=>ih aal σ' aO a' w' (λj hj=>hi j (by simp[hj])) ba ic hK) h
structure azd(Γ:Ctx)(ops:Array Oper)(f:Nat->PO)(nL bs:Nat->List Nat):Prop where
 az5:∀(i:Nat) (o:Oper),ops[i]?=some o→∀j∈nL i,∃e∈o.after,Region.binds .any e=true/\e.on=j
 back:∀(i:Nat) (o:Oper),ops[i]?=some o→∀e∈o.after,Region.binds .any e=true->e.on∈nL i
 lt:∀i,i<ops.size→∀j∈nL i,j<i
 N5:∀i,i<ops.size→∀j∈bs i,j∈nL i∨∃e∈nL i,j∈bs e
 free:∀i j,i<ops.size->j<i->j∈bs i\/(Pk Γ (f i) (f j)=true/\NC (f j) (f i)=false)
def left(n:Nat)(aZ:Array Bool):List Nat:=(List.range n).filter λi=>!aZ.getD i true
def aiE{n i:Nat}{aZ:Array Bool}(hs:aZ.size=n)(hi:i<n)(hl:aZ.getD i true=false):
 ∃l1 l2,left n aZ=l1++i::l2/\left n (aZ.setIfInBounds i true)=l1++l2/\(∀j∈l1,j<i/\aZ.getD j true=false):=by
 have avC:List.range n=List.range i++i::(List.range (n-i-1)).map (· +(i+1)):=by
  have h1:n=i+(1+(n-i-1)):=ab
  conv=>lhs;rw[h1,zbX,zbX]
  simp only[zbs,List.map_map];congr 1;show(List.range 1).map (i+ ·)++_=_;simp only[List.range_one,zau,List.map_nil,zaM,List.singleton_append];congr 1;apply zbC;intro k _;simp only[Function.comp_apply];omega
 refine⟨(List.range i).filter λi=>!aZ.getD i true,((List.range (n-i-1)).map (· +(i+1))).filter λi=>!aZ.getD i true,?_,?_,?_⟩
 ·unfold left;rw[avC,zbS,zbW,if_pos (by simp only[hl,zbL])]
 ·unfold left;rw[avC,zbS,zbW];have e0:(aZ.setIfInBounds i true).getD i true=true:=by
   rw[zbl,zby ab];rfl
  rw[if_neg (by rw[e0];simp)];congr 1
  ·apply zbU;intro j hj;have:j<i:=zbm.1 hj;rw[getD_set_ne true ab]
  ·apply zbU;intro j hj;obtain⟨k,_,rfl⟩:=zaX.1 hj;rw[getD_set_ne true ab]
 ·intro j hj;obtain⟨h1,h2⟩:=zbn.1 hj;exact⟨zbm.1 h1,iT⟩
def akZ(hΓ:Sound cx.P Γ){f:Nat->PO}{dr:Bool}(hc:Ux cx.P dr ops n f){nL bs:Nat->List Nat}(hD:azd Γ ops f nL bs){K:Env->aF->Prop}(hK:BP K){Q:Exit->Act->World->Prop}{F:Fence}{m:Nat}(hF:aaf F)(hw:∀i,i<ops.size→∀d,(f i).dst=some d->cx.lo<=d)
 (hQ:∀aal σ' aO a' w',a'.tmps.size=n->Rel cx aal σ' aO a' w'->K aal σ'->Q .normal a' w'):
 ∀(fuel:Nat) (aZ:Array Bool) (env:Env) (σ:aF) (vals:List Value) (a:Act) (w:World),aZ.size=ops.size->(left ops.size aZ).length<=fuel->
  (∀i,i<ops.size->aZ.getD i false=true→∀j∈bs i,aZ.getD j false=true)->
  a.tmps.size=n->Rel cx env σ vals a w->X5 Γ K ((left ops.size aZ).map f) env σ->wpAnyIn F m cx.P .any ops Q fuel aZ a w:=by
 have empty:∀(aZ:Array Bool),aZ.size=ops.size->Region.ready .any ops aZ=[]->left ops.size aZ=[]:=by
  intro aZ hs hr;apply Decidable.byContradiction;intro dI;obtain⟨i,hi,aC9⟩:∃i,i∈left ops.size aZ∧∀j,j<i->j∉left ops.size aZ:=by
   have hex:∃i,i∈left ops.size aZ:=by
    cases hl:left ops.size aZ with
    |nil=>exact absurd hl dI
    |cons x xs=>exact⟨x,aj⟩
   obtain⟨i,hi⟩:=hex
   induction i using Nat.strongRecOn with
   |_ i ih=>
    by_cases h:∃j,j<i/\j∈left ops.size aZ
    ·obtain⟨j,hj,hm⟩:=h;exact ih j hj hm
    ·exact⟨i,hi,λj hj hm=>h ⟨j,hj,hm⟩⟩
  obtain⟨h1,h2⟩:=zbn.1 hi;have h1:=zbm.1 h1;have abY:i∈Region.ready .any ops aZ:=by
   refine mem_ready.2 ⟨iT,ops[i],zaG h1,λe he hb=>?_⟩;have hj:=hD.back i _ (zaG h1) e he hb;have aU:=hD.lt i h1 _ hj;have:=aC9 _ aU;cases hg:aZ.getD e.on true with
   |false=>exact absurd (zbn.2 ⟨zbm.2 ab,Z4⟩) this
   |true=>
    rw[zbl]at hg ⊢;rw[zaG ab]at hg ⊢;exact hg
  rw[hr]at abY;cases abY
 intro fuel
 induction fuel with
 |zero=>
  intro aZ env σ vals a w hs hl mE hn hr h;have Nv:left ops.size aZ=[]:=zaf ab;refine⟨?_,?_⟩
  ·cases rT:Region.ready .any ops aZ with
   |nil=>rfl
   |cons i is=>
    exfalso;have hi:i∈Region.ready .any ops aZ:=by rw[rT];simp
    obtain⟨h1,o,h2,_⟩:=mem_ready.1 hi;have:i∈left ops.size aZ:=zbn.2 ⟨zbm.2 (zap.1 h2).1,by simp only[h1,zbL]⟩;rw[Nv]at this;cases this
  ·rw[Nv]at h;exact hQ _ _ _ _ _ hn hr h
 |succ fuel ih=>
  intro aZ env σ vals a w hs hl mE hn hr h;refine⟨λh0=>?_,λi hi=>?_⟩
  ·rw[empty aZ hs h0]at h;exact hQ _ _ _ _ _ hn hr h
  ·obtain⟨pd,o,ho,nK⟩:=mem_ready.1 hi;have aU:i<ops.size:=(zap.1 ho).1;obtain⟨l1,l2,e1,e2,h3⟩:=aiE hs aU pd;have avD:∀j∈nL i,aZ.getD j false=true:=by
    intro j hj;obtain⟨e,he,hb,rfl⟩:=hD.az5 i o ho j hj;exact nK e he hb
   have aha:∀j∈bs i,aZ.getD j false=true:=by
    intro j hj;rcases hD.N5 i aU j hj with h|⟨e,he,h⟩
    ·exact avD j h
    ·exact mE e (Nat.lt_trans (hD.lt i aU e he) aU) (avD e he) j h
   have aoA:∀j∈l1,Pk Γ (f i) (f j)=true/\NC (f j) (f i)=false:=by
    intro j hj;obtain⟨h4,h5⟩:=h3 j hj;rcases hD.free i j aU h4 with h|h
    ·have:=aha j h;rw[zbl,zaG ab]at h5 this;rw[zbx]at h5 this;rw[h5]at this;cases this
    ·exact h
   rw[e1,zbs,zau]at h;have avE:=apb hΓ hK (l2.map f) (f i) (l1.map f) env σ
    (λp hp=>by obtain⟨j,hj,rfl⟩:=zaX.1 hp;exact aoA j hj) h
   rw[vh,<-zbs,<-e2]at avE;refine afj hΓ hc aU hn hr hF (hw i aU) (λaal σ' aO a' w' ba ic gR=>?_) avE;refine ih _ aal σ' aO a' w' (by simpa using hs) ?_ ?_ ba ic gR
   ·rw[e2];rw[e1]at hl;simp at hl ⊢;omega
   ·intro k hk HJ j hj;by_cases gP:i=k
    ·subst gP;exact getD_set_true (aha j hj)
    ·rw[getD_set_ne false gP]at HJ;exact getD_set_true (mE k hk HJ j hj)
end
end
end Go.Dv
namespace Go.Dv
open Go.RowKit
section
section
variable {cx:Cx} {env:Env} {σ:aF} {vals:List Value} {a:Act} {w w':World}
def aud(pin:List Nat)(cx:Cx):Prop:=pin=List.range cx.Le.length/\cx.acm.length=cx.Le.length
def ajt{r:List Nat}{σ':aF}(F0:∀j,j<cx.Le.length\/j<cx.acm.length->r[j]?=some j)(hn:r.Nodup)(h1:σ'.length=r.length)(h2:∀(j i:Nat),r[j]?=some i→∃s t,σ[i]?=some s/\σ'[j]?=some t/\Gj r s t)(hs:dH cx σ vals w):
 ∃aO,ap5 r σ σ' vals aO/\dH cx σ' aO w∧∀b,Ok cx σ vals w b->Ok cx σ' aO w b:=by
 obtain⟨aO,hA⟩:∃aO,ap5 r σ σ' vals aO:=by
  refine⟨r.map λi=>(vals[i]?).getD undef,hn,h1,h2,aj,λj i hj=>?_⟩;obtain⟨s,t,Et,_⟩:=h2 j i hj;have:i<vals.length:=by rw[hs.len];exact(zaa.1 Et).1
  rw[za9,hj];simp only[zbJ];rw[zah this];exact⟨rfl,_,rfl⟩
 have back:∀{j:Nat} {t:dC},σ'[j]?=some t→∃i s,r[j]?=some i/\σ[i]?=some s/\Gj r s t:=by
  intro j t ht;have hj:j<r.length:=by rw[<-h1];exact(zaa.1 ht).1
  obtain⟨s,t',Et,oE,fM⟩:=h2 j _ (zah hj);rw[ht]at oE;cases oE;exact⟨_,s,zah hj,Et,fM⟩
 have abU:∀b,WB σ' aO b->WB σ vals b:=by
  rintro b ⟨j,t,v,ht,hl,hv,hb⟩;obtain⟨i,s,hj,Et,fM⟩:=back ht;exact⟨i,s,v,Et,fM.live▸hl,by rw[<-(hA.vals j i hj).1];exact hv,hb⟩
 have di:∀b,Ok cx σ vals w b->Ok cx σ' aO w b:=λb hb=>⟨hb.1,hb.2.1,λhm=>hb.2.2 (abU b hm)⟩
 have avF:∀j,j<cx.Le.length->r[j]?=some j:=λj hj=>F0 j (.inl hj)
 have IH:qz cx σ' aO:=by
  refine⟨λj v hv=>?_,?_,λj hj e sz ap aC ht=>?_,λj hj s2 ht t_=>?_⟩
  ·have hj:j<cx.acm.length:=(zaa.1 hv).1;rw[(hA.vals j j (F0 j (.inr hj))).1];exact hs.pin.vs j v hv
  ·rw[h1];rcases zbt r.length cx.Le.length with aU|lA
   ·have:=(zaa.1 (avF _ aU)).1;omega
   ·exact lA
  ·obtain⟨i,s,hi,Et,fM⟩:=back ht;rw[avF j hj]at hi;cases hi;cases s with
   |box e' Ea=>obtain⟨ds,hd,_⟩:=fM;cases hd
   |row e' mM mN els'=>cases fM;exact hs.pin.Rj j hj _ _ _ _ Et
   |_=>cases fM
  ·obtain⟨i,s,hi,Et,fM⟩:=back ht;rw[avF j hj]at hi;cases hi;exact hs.pin.Qz j hj _ Et (by rw[<-fM.OV];exact t_)
 refine⟨aO,hA,⟨hs.below,λv hv=>?_,by rw[hA.axW,h1],λj t v ht hv=>?_,λj k t1 t2 u v b se PY P9 l1 l2 hu hv Qd y_=>?_,⟨hs.fr.size,hs.fr.same,λb hm=>hs.fr.I1 b (abU b hm)⟩,IH⟩,di⟩
 ·obtain⟨j,hj⟩:=zaE.1 hv;have lH:j<r.length:=aiT;rw[(hA.vals j _ (zah lH)).1]at hj;exact hs.one v (zag hj)
 ·obtain⟨i,s,hj,Et,fM⟩:=back ht;rw[(hA.vals j i hj).1]at hv;have:=hs.sV i s v Et hv;cases s with
  |dead=>cases fM;trivial
  |fz x=>cases fM;exact Rd.mono di (λ_ _ _=>rfl) _ _ this
  |mp l=>cases fM;obtain⟨b,es,n,g1,g2,g3⟩:=this;exact⟨b,es,n,g1,di b g2,g3⟩
  |row e sz ap aC=>
   cases fM;obtain⟨h0,cells,g1,g2,g3,g4⟩:=this;exact⟨h0,cells,g1,g2,g3,bS.mono di (λ_ _ _=>rfl) _ _ g4⟩
  |box e cs=>
   obtain⟨ds,rfl,hd⟩:=fM;obtain⟨b,arr,g1,g2,g3,g4,g5⟩:=this;exact⟨b,arr,g1,g2,g3,hd.awx g4,hd.ra hA di _ _ _ g5⟩
 ·obtain⟨i1,s1,oX,lX,aq4⟩:=back PY;obtain⟨i2,s2,Gx,ZI,amS⟩:=back P9;rw[(hA.vals _ _ oX).1]at hu;rw[(hA.vals _ _ Gx).1]at hv;refine hs.Xl i1 i2 s1 s2 u v b ?_ lX ZI (aq4.live▸l1) (amS.live▸l2) hu hv Qd y_;intro e;subst e;exact se ((zbD (zaa.1 oX).1 hn).1 (oX.trans Gx.symm))
def anG{pin r:List Nat}{σ':aF}(adI:aud pin cx)(vP:pin<+:r)(hn:r.Nodup)(h1:σ'.length=r.length)(h2:∀(j i:Nat),r[j]?=some i→∃s t,σ[i]?=some s/\σ'[j]?=some t/\Gj r s t)(hs:dH cx σ vals w):
 ∃aO,ap5 r σ σ' vals aO/\dH cx σ' aO w∧∀b,Ok cx σ vals w b->Ok cx σ' aO w b:=by
 refine ajt (λj hj=>?_) hn h1 h2 hs;have hj:j<cx.Le.length:=by rw[adI.2]at hj;exact hj.elim id id
 obtain⟨t,rfl⟩:=vP;rw[zar (by rw[adI.1];simpa using hj),adI.1,zbz hj]
def afZ(mX:∀x v,¬cx.gh x v){pin:List Nat}(adI:aud pin cx)(hr:Rel cx env σ vals a w)(ps:List Nat){K:Env->aF->Prop}(h:gc pin env σ ps K):∃aal σ' aO,K aal σ'/\Rel cx aal σ' aO a w:=by
 have h:=alZ _ _ _ h;obtain⟨l,h,hl,XN⟩:=ai3 _ _ _ (by rw[adI.1];exact zbH) h;obtain⟨r,h,hn,eQ⟩:=LN _ _ _ _ hl h;obtain⟨aal,h,he⟩:=aiw _ _ _ h;obtain⟨σ',h,h1,h2⟩:=KB _ _ _ _ h;obtain⟨aO,hA,Et,di⟩:=anG adI (XN.trans eQ) hn h1 h2 hr.s;refine⟨aal,σ',aO,h,Et,λp=>?_,hr.defers,λx v hq=>absurd hq (mX x v),hr.lo⟩;have hc:aE p (ps.map λp=>(p,aE p env))=aE p env\/aE p (ps.map λp=>(p,aE p env))=.bad:=Vb env ps p;have hp:=he p;have hv:RA (Ok cx σ vals w) σ vals w (aE p (ps.map λp=>(p,aE p env))) (a.tmps.getD p undef):=by
  rcases hc with hc|hc
  ·rw[hc];exact hr.env p
  ·rw[hc];simp only[RA]
 exact Ren.ra hA di _ _ _ hp hv
end
end
end Go.Dv
namespace Go.Dv
open Go.RowKit
section
section
variable {cx:Cx} {env:Env} {σ:aF} {vals:List Value} {a:Act} {w w':World} {n:Nat} {Γ:Ctx} {ops:Array Oper}
def aeh(hr:dH cx σ vals w){b:Nat}(hm:WB σ vals b):∃cur e fr,w.heap[b]?=some (.cells cur e fr):=by
 obtain⟨i,s,v,h1,h2,h3,h4⟩:=hm;have hs:=hr.sV i s v h1 h3;cases s with
 |dead=>cases h2
 |fz x=>cases h2
 |mp l=>cases h2
 |row e sz ap aC=>
  obtain⟨_,cells,h5,_⟩:=hs;rcases h5.2 with⟨rfl,_⟩|⟨g,cap,cur,fr,rfl,_,h6,_⟩
  ·cases h4
  ·cases h4;exact⟨_,_,_,h6⟩
 |box e cs=>
  obtain⟨g,arr,rfl,_,h6,_⟩:=hs;cases h4;exact⟨_,_,_,h6⟩
mutual
def RA.iF{ok wj:Nat->Prop}(hk:∀b,ok b->wj b)(hc:∀b o u,ok b->w.cell? ⟨b,o,none⟩=some u->w'.cell? ⟨b,o,none⟩=some u):∀(x:AV) (v:Value),RA ok σ vals w x v->RA wj σ vals w' x v
 | .bad,_,_=>by simp only[RA]
 | .pv x,v,h=>by simp only[RA]at h ⊢;exact Rd.iF hk hc x v h
 | .own i,v,h=>by simpa only[RA]using h
 | .ref i k o,v,h=>by simpa only[RA]using h
 | .sub i s l n,v,h=>by simpa only[RA]using h
 | .agg cs,v,h=>by
  simp only[RA]at h ⊢;obtain⟨h0,vs,h1,h2⟩:=h;exact⟨h0,vs,h1,fY.iF hk hc cs _ h2⟩
 | .tup cs,v,h=>by
  simp only[RA]at h ⊢;obtain⟨vs,h1,h2⟩:=h;exact⟨vs,h1,fY.iF hk hc cs _ h2⟩
 | .clo f cs,v,h=>by
  simp only[RA]at h ⊢;obtain⟨vs,h1,h2⟩:=h;exact⟨vs,h1,fY.iF hk hc cs _ h2⟩
def fY.iF{ok wj:Nat->Prop}(hk:∀b,ok b->wj b)(hc:∀b o u,ok b->w.cell? ⟨b,o,none⟩=some u->w'.cell? ⟨b,o,none⟩=some u):∀(l:List AV) (vs:List Value),fY ok σ vals w l vs->fY wj σ vals w' l vs
 |[],_,h=>by simpa only[fY]using h
 |x::xs,vs,h=>by
  simp only[fY]at h ⊢;obtain⟨v,r,h1,h2,h3⟩:=h;exact⟨v,r,h1,RA.iF hk hc x v h2,fY.iF hk hc xs r h3⟩
end
def ajS:∀{σ:aF},adC σ=true→∀(i:Nat) (l:List (Int×Bool)),σ[i]?≠some (dC.mp l)
 |[],_,i,l=>by simp
 |b::σ,h,i,l=>by
  cases b with
  |mp l=>cases h
  |_=>
   cases i with
   |zero=>simp
   |succ i=>exact ajS (σ:=σ) h i l
def dH.other(hr:dH cx σ vals w){row:Option Nat}(hg:w.grownBy w' row)(ly:∀r,row=some r->cx.own r/\cx.w1.heap.size<=r∧∃o:Obj,w.heap[r]?=some o/\o.isCells=false)(tT:adC σ=true∨∀r,row=some r→∀es n,w.heap[r]?≠some (.map es n)):
 dH cx σ vals w'∧∀x v,RA (Ok cx σ vals w) σ vals w x v->RA (Ok cx σ vals w') σ vals w' x v:=by
 have avp:∀(b:Nat) (cur:Array Value) (e:TypeId) (fr:Nat×Nat),w.heap[b]?=some (.cells cur e fr)->w'.heap[b]?=some (.cells cur e fr):=by
  intro b cur e fr h;refine(hg.block b (zap.1 h).1 (λe'=>?_)).trans h;obtain⟨_,_,o,ho,hc⟩:=ly b e'.symm;rw[h]at ho;cases ho;cases hc
 have hc:∀b o u,Ok cx σ vals w b->w.cell? ⟨b,o,none⟩=some u->w'.cell? ⟨b,o,none⟩=some u:=by
  intro b o u _ h;unfold World.cell? at h;cases hb:w.heap[b]? with
  |none=>simp[hb]at h
  |some ob=>
   cases ob with
   |cells cur e fr=>simp[hb]at h;simp[World.cell?,avp b _ _ _ hb,h]
   |_=>simp[hb]at h
 have hk:∀b,Ok cx σ vals w b->Ok cx σ vals w' b:=λb h=>⟨h.1,zae h.2.1 hg.size,h.2.2⟩
 refine⟨⟨hr.below.grown hg (λk e=>(ly k e).1),hr.one,hr.len,λi s v h1 h2=>?_,hr.Xl,
  ⟨zan hr.fr.size hg.size,λb hb=>(hg.block b (zae (cx.hk b hb) hr.fr.size) (λe=>by have:=(ly b e.symm).2.1;have:=cx.hk b hb;omega)).trans (hr.fr.same b hb),hr.fr.I1⟩,hr.pin⟩,λx v h=>RA.iF hk hc x v h⟩
 have hs:=hr.sV i s v h1 h2;cases s with
 |dead=>trivial
 |fz x=>exact Rd.iF hk hc x v hs
 |mp l=>
  obtain⟨b,es,n,e1,e2,e3,e4⟩:=hs;refine⟨b,es,n,e1,hk b e2,(hg.block b (zap.1 e3).1 (λe'=>?_)).trans e3,e4⟩;rcases tT with tT|tT
  ·exact ajS tT i l h1
  ·exact tT b e'.symm es n e3
 |row e sz ap aC=>
  obtain⟨h0,cells,h3,h4,h5,h6⟩:=hs;refine⟨h0,cells,⟨h3.1,?_⟩,h4,h5,bS.iF hk hc _ _ h6⟩;rcases h3.2 with h|⟨g,cap,cur,fr,e1,e2,e3,e4⟩
  ·exact .inl h
  ·exact .inr ⟨g,cap,cur,fr,e1,e2,avp g _ _ _ e3,e4⟩
 |box e cs=>
  obtain⟨b,arr,e1,e2,e3,e4,e5⟩:=hs;exact⟨b,arr,e1,e2,avp b _ _ _ e3,e4,fY.iF hk hc _ _ e5⟩
def TD(hr:Rel cx env σ vals a w){row:Option Nat}(hg:w.grownBy w' row)(ly:∀r,row=some r->cx.own r/\cx.w1.heap.size<=r∧∃o:Obj,w.heap[r]?=some o/\o.isCells=false)(tT:adC σ=true∨∀r,row=some r→∀es n,w.heap[r]?≠some (.map es n)):Rel cx env σ vals a w':=by
 obtain⟨h1,h2⟩:=hr.s.other hg ly tT;exact⟨h1,λp=>h2 _ _ (hr.env p),hr.defers,λx v h=>h2 _ _ (hr.gh x v h),hr.lo⟩
def ast(UC:cx.lo=0)(K:Env->Prop):∀(ps:List Nat) (xs:List PV) (us:List Value) (env:Env) (t:Array Value) (ds:List Deferred),xs.length=ps.length->bS (Ok cx σ vals w) w xs us->(∀p∈ps,p<n)->t.size=n->Rel cx env σ vals ⟨t,ds⟩ w->atS ps xs env K->
 ∃aal,K aal/\Rel cx aal σ vals ⟨(ps.zip us).foldl (λt p=>t.setIfInBounds p.1 p.2) t,ds⟩ w/\((ps.zip us).foldl (λt p=>t.setIfInBounds p.1 p.2) t).size=n:=by
 intro ps
 induction ps with
 |nil=>
  intro xs us env t ds hl _ _ hn hr h;cases xs with
  |nil=>exact⟨env,h,hr,hn⟩
  |cons x xs=>simp at hl
 |cons p ps ih=>
  intro xs us env t ds hl hp aU hn hr h;cases xs with
  |nil=>simp at hl
  |cons x xs=>
   simp only[bS]at hp;obtain⟨v,r,rfl,hv,hp⟩:=hp;have h:atS ps xs ((p,.pv x)::env) K:=h;have CW:=W0 (dst:=some p) (av:=.pv x) (v:=v) hr (by simp only[RA];exact hv) (λd hd=>by cases hd;show p<t.size;rw[hn];exact aU p aj) (λd' _=>by rw[UC];exact zbV _);obtain⟨aal,h1,h2,h3⟩:=ih xs r _ (t.setIfInBounds p v) ds Lu hp (λq hq=>aU q kF) (by simp[hn]) CW h;exact⟨aal,h1,h2,h3⟩
end
end
end Go.Dv
namespace Go.Dv
open Go.RowKit
section
mutual
def AV.Nm(P:Nat->Prop):AV->Prop
 | .own i=>P i
 | .ref i _ _=>P i
 | .sub i _ _ _=>P i
 | .agg cs=>AV.vz P cs
 | .tup cs=>AV.vz P cs
 | .clo _ cs=>AV.vz P cs
 | .bad=>True
 | .pv _=>True
def AV.vz(P:Nat->Prop):List AV->Prop
 |[]=>True
 |a::l=>a.Nm P/\AV.vz P l
end
def dC.Nm(P:Nat->Prop):dC->Prop
 | .box _ cs=>AV.vz P cs
 |_=>True
section
variable {P Q:Nat->Prop}
mutual
def kV(h:∀i,P i->Q i):∀a:AV,a.Nm P->a.Nm Q
 | .own i,hx=>by simp only[AV.Nm]at hx ⊢;exact h i hx
 | .ref i _ _,hx=>by simp only[AV.Nm]at hx ⊢;exact h i hx
 | .sub i _ _ _,hx=>by simp only[AV.Nm]at hx ⊢;exact h i hx
 | .agg cs,hx=>by simp only[AV.Nm]at hx ⊢;exact x6 h cs hx
 | .tup cs,hx=>by simp only[AV.Nm]at hx ⊢;exact x6 h cs hx
 | .clo _ cs,hx=>by simp only[AV.Nm]at hx ⊢;exact x6 h cs hx
 | .bad,_=>by simp only[AV.Nm]
 | .pv _,_=>by simp only[AV.Nm]
def x6(h:∀i,P i->Q i):∀l:List AV,AV.vz P l->AV.vz Q l
 |[],_=>by simp only[AV.vz]
 |a::l,hx=>by simp only[AV.vz]at hx ⊢;exact⟨kV h a hx.1,x6 h l hx.2⟩
end
def dC.kV(h:∀i,P i->Q i)(b:dC)(hb:b.Nm P):b.Nm Q:=by
 cases b with
 |box e cs=>exact x6 h cs hb
 |_=>trivial
mutual
def ang:∀a:AV,a.Nm P->a.On P
 | .own i,hx=>by simp only[AV.Nm]at hx;simp only[AV.On];exact hx
 | .ref i _ _,hx=>by simp only[AV.Nm]at hx;simp only[AV.On];exact hx
 | .sub i _ _ _,hx=>by simp only[AV.Nm]at hx;simp only[AV.On];exact hx
 | .agg cs,hx=>by simp only[AV.Nm]at hx;simp only[AV.On];exact afH cs hx
 | .tup cs,hx=>by simp only[AV.Nm]at hx;simp only[AV.On];exact afH cs hx
 | .clo _ cs,_=>by simp only[AV.On]
 | .bad,_=>by simp only[AV.On]
 | .pv _,_=>by simp only[AV.On]
def afH:∀l:List AV,AV.vz P l->AV.jY P l
 |[],_=>by simp only[AV.jY]
 |a::l,hx=>by simp only[AV.vz]at hx;simp only[AV.jY];exact⟨ang a hx.1,afH l hx.2⟩
end
def XA(l m:List AV):AV.vz P (l++m)↔AV.vz P l/\AV.vz P m:=by
 induction l with
 |nil=>simp[AV.vz]
 |cons a l ih=>simp only[zbd,AV.vz,ih,and_assoc]
def att(l:List PV):AV.vz P (l.map .pv):=by
 induction l with
 |nil=>simp[AV.vz]
 |cons a l ih=>simp only[zau,AV.vz,AV.Nm];exact⟨trivial,ih⟩
def Zu(cs:List AV):(AV.rec_1 (motive_1:=λ_=>List Nat) (motive_2:=λ_=>List Nat) [] (λ_=>[]) (λid=>[id]) (λid _ _=>[id]) (λid _ _ _=>[id])
 (λ_ ih=>ih) (λ_ ih=>ih) (λ_ _ ih=>ih) [] (λ_ _ h t=>h++t) cs:List Nat)=agO cs:=by
 induction cs with
 |nil=>rfl
 |cons c cs ih=>exact congrArg (c.ids++ ·) ih
def adR(a:AV)(l:List AV):agO (a::l)=a.ids++agO l:=rfl
def YL(a:AV):a.Nm P↔∀i∈a.ids,P i:=by
 refine AV.rec (motive_1:=λa=>a.Nm P↔∀i∈a.ids,P i) (motive_2:=λl=>AV.vz P l↔∀i∈agO l,P i) ?_ ?_ ?_ ?_ ?_ ?_ ?_ ?_ ?_ ?_ a
 ·simp[AV.Nm,AV.ids]
 ·intro x;simp[AV.Nm,AV.ids]
 ·intro i;simp[AV.Nm,AV.ids]
 ·intro i k o;simp[AV.Nm,AV.ids]
 ·intro i s l n;simp[AV.Nm,AV.ids]
 ·intro cs ih;rw[AV.Nm,ih,<-Zu];rfl
 ·intro cs ih;rw[AV.Nm,ih,<-Zu];rfl
 ·intro f cs ih;rw[AV.Nm,ih,<-Zu];rfl
 ·simp[AV.vz,agO]
 ·intro a l h1 h2;rw[AV.vz,h1,h2,adR];simp only[zaA];constructor
  ·rintro⟨h3,h4⟩ i (hi|hi)
   ·exact h3 i hi
   ·exact h4 i hi
  ·intro h;exact⟨λi hi=>h i (.inl hi),λi hi=>h i (.inr hi)⟩
def axM(l:List AV):AV.vz P l↔∀i∈agO l,P i:=by
 induction l with
 |nil=>simp[AV.vz,agO]
 |cons a l ih=>
  rw[AV.vz,YL,ih,adR];simp only[zaA];constructor
  ·rintro⟨h3,h4⟩ i (hi|hi)
   ·exact h3 i hi
   ·exact h4 i hi
  ·intro h;exact⟨λi hi=>h i (.inl hi),λi hi=>h i (.inr hi)⟩
end
mutual
def ay3{ok:Nat->Prop}{σ:aF}{vals:List Value}{w:World}{P:Nat->Prop}(h1:∀i,i<vals.length->P i)(h2:∀i,i<σ.length->P i):∀(a:AV) (v:Value),RA ok σ vals w a v->a.Nm P
 | .own i,v,h=>by simp only[RA]at h;simp only[AV.Nm];exact h1 i (zaa.1 h).1
 | .ref i _ _,v,h=>by simp only[RA]at h;simp only[AV.Nm];exact h2 i h.1
 | .sub i _ _ _,v,h=>by simp only[RA]at h;simp only[AV.Nm];exact h2 i h.1
 | .agg cs,v,h=>by simp only[RA]at h;simp only[AV.Nm];obtain⟨_,vs,_,h⟩:=h;exact aa5 h1 h2 cs _ h
 | .tup cs,v,h=>by simp only[RA]at h;simp only[AV.Nm];obtain⟨vs,_,h⟩:=h;exact aa5 h1 h2 cs _ h
 | .clo _ cs,v,h=>by simp only[RA]at h;simp only[AV.Nm];obtain⟨vs,_,h⟩:=h;exact aa5 h1 h2 cs _ h
 | .bad,_,_=>by simp only[AV.Nm]
 | .pv _,_,_=>by simp only[AV.Nm]
def aa5{ok:Nat->Prop}{σ:aF}{vals:List Value}{w:World}{P:Nat->Prop}(h1:∀i,i<vals.length->P i)(h2:∀i,i<σ.length->P i):∀(l:List AV) (vs:List Value),fY ok σ vals w l vs->AV.vz P l
 |[],_,_=>by simp only[AV.vz]
 |a::l,vs,h=>by simp only[fY]at h;simp only[AV.vz];obtain⟨v,r,_,h3,h4⟩:=h;exact⟨ay3 h1 h2 a v h3,aa5 h1 h2 l r h4⟩
end
def an7(p:Nat)(e:Env):aiv p e=aE p e:=by
 induction e with
 |nil=>rfl
 |cons x e ih=>
  obtain⟨q,v⟩:=x;show Bool.rec (aiv p e) v (Nat.beq q p)=bif Nat.beq q p then v else aE p e
  rw[ih];cases Nat.beq q p<;>rfl
def apY(env:Env)(t:Nat)(l:List Nat):ak6 env (t::l)=(aiv t env).ids++ak6 env l:=rfl
def aof{env:Env}{l:List Nat}{P:Nat->Prop}(h:∀i∈ak6 env l,P i):∀t∈l,(aE t env).Nm P:=by
 induction l with
 |nil=>intro t ht;cases ht
 |cons s l ih=>
  intro t ht;rw[apY]at h;rcases zax.1 ht with rfl|ht
  ·rw[YL,<-an7];exact λi hi=>h i (by simp[hi])
  ·exact ih (λi hi=>h i (by simp[hi])) t ht
def aqg(σ:aF)(t:Nat)(l:List Nat):V9 σ (t::l)=(match σ[t]? with|some (.box _ cs)=>agO cs|_=>[])++V9 σ l:=rfl
def axG{σ:aF}{l:List Nat}{P:Nat->Prop}(h:∀i∈V9 σ l,P i):∀t∈l,∀e cs,σ[t]?=some (.box e cs)->AV.vz P cs:=by
 induction l with
 |nil=>intro t ht;cases ht
 |cons s l ih=>
  intro t ht e cs sH;rw[aqg]at h;rcases zax.1 ht with rfl|ht
  ·rw[axM];exact λi hi=>h i (by rw[sH];simp[hi])
  ·exact ih (λi hi=>h i (by simp[hi])) t ht e cs sH
def CN(us:List (Nat×dC))(σ:aF):aF:=us.foldl (λσ u=>σ.set u.1 u.2) σ
def pM(us:List (Nat×dC)):∀σ:aF,(CN us σ).length=σ.length:=by
 induction us with
 |nil=>intro σ;rfl
 |cons u us ih=>intro σ;exact(ih _).trans (za0 ..)
def anz(us:List (Nat×dC)):∀(σ τ:aF) (j:Nat),σ[j]?=τ[j]?->(CN us σ)[j]?=(CN us τ)[j]?:=by
 induction us with
 |nil=>intro σ τ j h;exact h
 |cons u us ih=>
  intro σ τ j h;refine ih _ _ j ?_;rw[zaS,zaS];by_cases hj:u.1=j
  ·subst hj;have:u.1<σ.length↔u.1<τ.length:=by
    constructor
    ·intro aU;have:=zah aU;rw[h]at this;exact(zaa.1 this).1
    ·intro aU;have:=zah aU;rw[<-h]at this;exact(zaa.1 this).1
   simp only[if_true];by_cases h1:u.1<σ.length
   ·rw[if_pos h1,if_pos (this.1 h1)]
   ·rw[if_neg h1,if_neg (λh=>h1 (this.2 h))]
  ·rw[if_neg hj,if_neg hj];exact h
def Ew(us:List (Nat×dC)):∀(σ:aF) (j:Nat),(∀u∈us,u.1≠j)->(CN us σ)[j]?=σ[j]?:=by
 induction us with
 |nil=>intro σ j _;rfl
 |cons u us ih=>
  intro σ j h;refine(ih _ j λx hx=>h x iP).trans ?_;rw[zaS,if_neg (h u aj)]
def xo(us vs:List (Nat×dC))(σ:aF):CN (us++vs) σ=CN vs (CN us σ):=List.foldl_append ..
def azY{P:Nat->Prop}(us:List (Nat×dC)):∀(σ:aF),(∀u∈us,u.2.Nm P)->(∀b∈σ,b.Nm P)→∀b∈CN us σ,b.Nm P:=by
 induction us with
 |nil=>intro σ _ h;exact h
 |cons u us ih=>
  intro σ h1 h2;refine ih _ (λx hx=>h1 x iP) λb hb=>?_
  rcases List.mem_or_eq_of_mem_set hb with hb|rfl
  ·exact h2 b hb
  ·exact h1 u aj
def WY{P:Nat->Prop}{σ σ':aF}(hs:Sub P σ σ')(us:List (Nat×dC)):Sub P (CN us σ) (CN us σ'):=by
 intro i b hi hb;have aU:i<σ.length:=by rw[<-pM us];exact(zaa.1 hb).1
 have h1:=zah aU;rw[anz us σ' σ i ((hs i _ hi h1).trans h1.symm)];exact hb
def Gz{α:Type}(l:List α):∀(i:Nat) (x:α) (K:List α->Prop),i<l.length->K (l.set i x)->wu l i x K:=by
 induction l with
 |nil=>intro i x K h;simp at h
 |cons a l ih=>
  intro i x K h hk;cases i with
  |zero=>exact hk
  |succ i=>exact ih i x (λt=>K (a::t)) ky hk
def BD(P:Nat->Prop)(σ:aF)(us:List (Nat×dC)):Prop:=∀u∈us,P u.1/\u.1<σ.length∧∃x,u.2=.fz x
def BD.app{P:Nat->Prop}{σ:aF}{us vs:List (Nat×dC)}(h1:BD P σ us)(h2:BD P (CN us σ) vs):BD P σ (us++vs):=by
 intro u hu;rcases zaA.1 hu with hu|hu
 ·exact h1 u hu
 ·obtain⟨h3,h4,h5⟩:=h2 u hu;rw[pM]at h4;exact⟨h3,h4,h5⟩
def pJ(P:Nat->Prop)(σ:aF)(G:aF->(aF->Prop)->Prop)(K:aF->Prop):Prop:=
 ∃us,K (CN us σ)/\BD P σ us∧∀(σ':aF) (K':aF->Prop),Sub P σ σ'->K' (CN us σ')->G σ' K'
def anE{P:Nat->Prop}{σ:aF}{id:Nat}{K:aF->Prop}(hi:P id)(h:g_ σ id λb=>match b with
 | .row _ sz _ aC=>wu σ id (.fz (.sl sz aC)) K
 | .fz _=>K σ
 |_=>False):pJ P σ (λσ K=>g_ σ id λb=>match b with
 | .row _ sz _ aC=>wu σ id (.fz (.sl sz aC)) K
 | .fz _=>K σ
 |_=>False) K:=by
 obtain⟨b,h1,h2⟩:=aS _ _ _ h;have aU:=(zaa.1 h1).1;cases b with
 |row e sz ap aC=>
  have h3:=(fS _ _ _ _ h2).2;refine⟨[(id,.fz (.sl sz aC))],h3,?_,λσ' K' hs hk=>?_⟩
  ·intro u hu;simp at hu;subst hu;exact⟨hi,aU,_,rfl⟩
  ·have h4:=hs id _ hi h1;exact dP _ _ _ _ h4 (Gz _ _ _ _ (zaa.1 h4).1 hk)
 |fz x=>exact⟨[],h2,λu hu=>qu,λσ' K' hs hk=>dP _ _ _ _ (hs id _ hi h1) hk⟩
 |_=>exact h2.elim
def an5{P:Nat->Prop}:∀(a:AV) (σ:aF) (K:aF->Prop),a.Nm P->lP a σ K->pJ P σ (lP a) K:=by
 intro a;refine AV.rec (motive_1:=λa=>∀(σ:aF) (K:aF->Prop),a.Nm P->lP a σ K->pJ P σ (lP a) K)
  (motive_2:=λl=>∀(σ:aF) (K:aF->Prop),AV.vz P l->fX l σ K->pJ P σ (fX l) K) ?_ ?_ ?_ ?_ ?_ ?_ ?_ ?_ ?_ ?_ a
 ·intro σ K _ h;exact h.elim
 ·intro x σ K _ h;exact Yz
 ·intro id σ K hi h;exact anE (by simpa only[AV.Nm]using hi) h
 ·intro id i o σ K _ h;exact h.elim
 ·intro id s l n σ K hi h;exact anE (by simpa only[AV.Nm]using hi) h
 ·intro cs ih σ K hn h;obtain⟨us,h1,h2,h3⟩:=ih σ K (by simpa only[AV.Nm]using hn) (Ry _ _ _ h);exact⟨us,h1,h2,λσ' K' hs hk=>aj5⟩
 ·intro cs ih σ K hn h;obtain⟨us,h1,h2,h3⟩:=ih σ K (by simpa only[AV.Nm]using hn) (QB _ _ _ h);exact⟨us,h1,h2,λσ' K' hs hk=>aj5⟩
 ·intro f cs _ σ K _ h;exact h.elim
 ·intro σ K _ h;exact Yz
 ·intro a l h1 h2 σ K hn h;simp only[AV.vz]at hn;obtain⟨us,h3,h4,h5⟩:=h1 σ (λσ=>fX l σ K) hn.1 h;obtain⟨vs,h6,h7,h8⟩:=h2 _ K hn.2 h3;refine⟨us++vs,by rw[xo];exact h6,h4.app h7,λσ' K' hs hk=>?_⟩;exact h5 σ' _ hs (h8 _ K' (WY hs us) (by rw[<-xo];exact hk))
def aj7{P:Nat->Prop}(l:List AV):∀(σ:aF) (K:aF->Prop),AV.vz P l->fX l σ K->pJ P σ (fX l) K:=by
 induction l with
 |nil=>intro σ K _ h;exact Yz
 |cons a l ih=>
  intro σ K hn h;simp only[AV.vz]at hn;obtain⟨us,h3,h4,h5⟩:=an5 a σ (λσ=>fX l σ K) hn.1 h;obtain⟨vs,h6,h7,h8⟩:=ih _ K hn.2 h3;refine⟨us++vs,by rw[xo];exact h6,h4.app h7,λσ' K' hs hk=>?_⟩;exact h5 σ' _ hs (h8 _ K' (WY hs us) (by rw[<-xo];exact hk))
def lU(a b i:Nat):Nat:=if i<a then i else i-a+b
mutual
def OU(a b:Nat):AV->AV
 | .own i=>.own (lU a b i)
 | .ref i k o=>.ref (lU a b i) k o
 | .sub i s l n=>.sub (lU a b i) s l n
 | .agg cs=>.agg (Ww a b cs)
 | .tup cs=>.tup (Ww a b cs)
 | .clo f cs=>.clo f (Ww a b cs)
 | .bad=>.bad
 | .pv x=>.pv x
def Ww(a b:Nat):List AV->List AV
 |[]=>[]
 |x::l=>OU a b x::Ww a b l
end
mutual
def apO{a b c d:Nat}:∀v:AV,v.Nm (λi=>lU a b i=lU c d i)->OU a b v=OU c d v
 | .own i,h=>by simp only[AV.Nm]at h;simp only[OU,h]
 | .ref i _ _,h=>by simp only[AV.Nm]at h;simp only[OU,h]
 | .sub i _ _ _,h=>by simp only[AV.Nm]at h;simp only[OU,h]
 | .agg cs,h=>by simp only[AV.Nm]at h;simp only[OU,A_ cs h]
 | .tup cs,h=>by simp only[AV.Nm]at h;simp only[OU,A_ cs h]
 | .clo _ cs,h=>by simp only[AV.Nm]at h;simp only[OU,A_ cs h]
 | .bad,_=>rfl
 | .pv _,_=>rfl
def A_{a b c d:Nat}:∀l:List AV,AV.vz (λi=>lU a b i=lU c d i) l->Ww a b l=Ww c d l
 |[],_=>rfl
 |x::l,h=>by simp only[AV.vz]at h;simp only[Ww,apO x h.1,A_ l h.2]
end
mutual
def anC{r:List Nat}{a b:Nat}:∀v:AV,v.Nm (λi=>r[i]?=some (lU a b i))->Ren r (OU a b v) v
 | .own i,h=>by simp only[AV.Nm]at h;simp only[OU,Ren];exact Fw
 | .ref i _ _,h=>by simp only[AV.Nm]at h;simp only[OU,Ren];exact Fw
 | .sub i _ _ _,h=>by simp only[AV.Nm]at h;simp only[OU,Ren];exact Fw
 | .agg cs,h=>by simp only[AV.Nm]at h;simp only[OU,Ren];exact⟨cs,rfl,QJ cs h⟩
 | .tup cs,h=>by simp only[AV.Nm]at h;simp only[OU,Ren];exact⟨cs,rfl,QJ cs h⟩
 | .clo _ cs,h=>by simp only[AV.Nm]at h;simp only[OU,Ren];exact⟨cs,rfl,QJ cs h⟩
 | .bad,_=>by simp only[OU,Ren]
 | .pv _,_=>by simp only[OU,Ren]
def QJ{r:List Nat}{a b:Nat}:∀l:List AV,AV.vz (λi=>r[i]?=some (lU a b i)) l->kC r (Ww a b l) l
 |[],_=>by simp only[Ww,kC]
 |x::l,h=>by simp only[AV.vz]at h;simp only[Ww,kC];exact⟨x,l,rfl,anC x h.1,QJ l h.2⟩
end
mutual
def Kf{r:List Nat}:∀v:AV,v.Nm (λi=>r[i]?=some i)->Ren r v v
 | .own i,h=>by simp only[AV.Nm]at h;simp only[Ren];exact Fw
 | .ref i _ _,h=>by simp only[AV.Nm]at h;simp only[Ren];exact Fw
 | .sub i _ _ _,h=>by simp only[AV.Nm]at h;simp only[Ren];exact Fw
 | .agg cs,h=>by simp only[AV.Nm]at h;simp only[Ren];exact RX
 | .tup cs,h=>by simp only[AV.Nm]at h;simp only[Ren];exact RX
 | .clo _ cs,h=>by simp only[AV.Nm]at h;simp only[Ren];exact RX
 | .bad,_=>by simp only[Ren]
 | .pv _,_=>by simp only[Ren]
def aeL{r:List Nat}:∀l:List AV,AV.vz (λi=>r[i]?=some i) l->kC r l l
 |[],_=>by simp only[kC]
 |x::l,h=>by simp only[AV.vz]at h;simp only[kC];exact⟨x,l,rfl,Kf x h.1,aeL l h.2⟩
end
def Uh{r:List Nat}(b:dC)(h:b.Nm (λi=>r[i]?=some i)):Gj r b b:=by
 cases b with
 |box e cs=>exact RX
 |_=>rfl
def D5(σ:aF)(G:aF->(AV->aF->Prop)->Prop)(K:AV->aF->Prop):Prop:=
 ∃v ps,K v (σ++ps)/\(∀b∈ps,∀P,dC.Nm P b)/\v.Nm (λi=>σ.length<=i/\i<σ.length+ps.length)∧∀(σ':aF) (K':AV->aF->Prop),K' (OU σ.length σ'.length v) (σ'++ps)->G σ' K'
def Bw(a b:Nat):lU a b a=b:=by unfold lU;rw[if_neg (Nat.lt_irrefl a),Nat.sub_self,zaV]
def asF(σ:aF)(e:TypeId)(sz:Nat)(ap:Bool)(aC:List PV){K:AV->aF->Prop}(h:pf σ λn=>gD σ (.row e sz ap aC) λσ=>K (.own n) σ):
 D5 σ (λσ K=>pf σ λn=>gD σ (.row e sz ap aC) λσ=>K (.own n) σ) K:=by
 have h1:=cN _ _ _ (gV _ _ h);refine⟨_,[_],h1,?_,?_,λσ' K' hk=>vn _ _ (pX _ _ _ ?_)⟩
 ·intro b hb P;simp at hb;subst hb;trivial
 ·simp only[AV.Nm,zbM];omega
 ·simp only[OU,Bw]at hk;exact hk
def aFC(σ:aF)(l:List (Int×Bool)){K:AV->aF->Prop}(h:pf σ λn=>gD σ (.mp l) λσ=>K (.own n) σ):
 D5 σ (λσ K=>pf σ λn=>gD σ (.mp l) λσ=>K (.own n) σ) K:=by
 have h1:=cN _ _ _ (gV _ _ h);refine⟨_,[_],h1,?_,?_,λσ' K' hk=>vn _ _ (pX _ _ _ ?_)⟩
 ·intro b hb P;simp at hb;subst hb;trivial
 ·simp only[AV.Nm,zbM];omega
 ·simp only[OU,Bw]at hk;exact hk
def auc(r:RV):∀(σ:aF) (K:AV->aF->Prop),sW r σ K->D5 σ (sW r) K:=by
 let G:List RV->aF->(List AV->aF->Prop)->Prop:=λl=>RV.rec_1 (motive_1:=λ_=>aF->(AV->aF->Prop)->Prop) (motive_2:=λ_=>aF->(List AV->aF->Prop)->Prop)
  (λx σ K=>K (.pv x) σ)
  (λe sz aC σ K=>pf σ λn=>gD σ (.row e sz true aC) λσ=>K (.own n) σ)
  (λe sz aC σ K=>pf σ λn=>gD σ (.row e sz false aC) λσ=>K (.own n) σ)
  (λ_ ih σ K=>ih σ λl σ=>K (.agg l) σ)
  (λ_ ih σ K=>ih σ λl σ=>K (.tup l) σ)
  (λl σ K=>pf σ λn=>gD σ (.mp l) λσ=>K (.own n) σ)
  (λσ K=>K [] σ)
  (λ_ _ h t σ K=>h σ λa σ=>t σ λl σ=>K (a::l) σ) l
 refine RV.rec (motive_1:=λr=>∀(σ:aF) (K:AV->aF->Prop),sW r σ K->D5 σ (sW r) K)
  (motive_2:=λl=>∀(σ:aF) (K:List AV->aF->Prop),G l σ K→∃v ps,K v (σ++ps)/\(∀b∈ps,∀P,dC.Nm P b)/\AV.vz (λi=>σ.length<=i/\i<σ.length+ps.length) v∧∀(σ':aF) (K':List AV->aF->Prop),K' (Ww σ.length σ'.length v) (σ'++ps)->G l σ' K')
  ?_ ?_ ?_ ?_ ?_ ?_ ?_ ?_ r
 ·intro x σ K h;exact⟨_,[],by rw[zbf];exact h,λb hb=>sc,by simp only[AV.Nm],λσ' K' hk=>EP⟩
 ·intro e sz aC σ K h;exact asF σ e sz true aC h
 ·intro e sz aC σ K h;exact asF σ e sz false aC h
 ·intro l ih σ K h;obtain⟨v,ps,h1,h2,h3,h4⟩:=ih σ _ h;exact⟨_,ps,h1,h2,by simp only[AV.Nm];exact h3,λσ' K' hk=>h4 σ' _ (by simp only[OU]at hk;exact hk)⟩
 ·intro l ih σ K h;obtain⟨v,ps,h1,h2,h3,h4⟩:=ih σ _ h;exact⟨_,ps,h1,h2,by simp only[AV.Nm];exact h3,λσ' K' hk=>h4 σ' _ (by simp only[OU]at hk;exact hk)⟩
 ·intro m σ K h;exact aFC σ m h
 ·intro σ K h;exact⟨[],[],by rw[zbf];exact h,λb hb=>sc,by simp only[AV.vz],λσ' K' hk=>EP⟩
 ·intro a l h1 h2 σ K h;obtain⟨v,ps,h3,h4,h5,h6⟩:=h1 σ (λa σ=>G l σ λt σ=>K (a::t) σ) h;obtain⟨u,qs,h7,h8,h9,XK⟩:=h2 _ _ h3;rw[zad]at h9;refine⟨v::u,ps++qs,by rw[<-zaj];exact h7,λb hb=>?_,?_,λσ' K' hk=>?_⟩
  ·rcases zaA.1 hb with hb|hb
   ·exact h4 b hb
   ·exact h8 b hb
  ·simp only[AV.vz];rw[zad];exact⟨kV (λi hi=>ab) _ h5,x6 (λi hi=>ab) _ h9⟩
  ·refine h6 σ' (λa τ=>G l τ λt τ=>K' (a::t) τ) ?_;refine XK (σ'++ps) (λt τ=>K' (OU σ.length σ'.length v::t) τ) ?_;rw[zaj];simp only[Ww]at hk;rw[A_ (c:=σ.length) (d:=σ'.length) u (x6 (λi hi=>by
    simp only[zad];unfold lU;rw[if_neg ab,if_neg ab];omega) _ h9)]
   exact hk
end
end Go.Dv
namespace Go.Dv
open Go.RowKit
section
def Yu(sh:Bool)(a b:Nat)(v:AV):AV:=match sh with|true=>OU a b v|false=>v
def Xf(A:Nat->Prop)(tn:Bool)(N:(Nat->Prop)->Prop)(σ:aF)(G:aF->(AV->aF->Prop)->Prop)(K:AV->aF->Prop):Prop:=
 ∃(v:AV) (sh:Bool) (us:List (Nat×dC)) (ps:List dC),(sh=false->ps=[])/\K v (CN us σ++ps)/\(∀u∈us,tn=true/\A u.1/\u.1<σ.length)/\
  (∀P:Nat->Prop,N P->(∀j b,A j->σ[j]?=some b->b.Nm P)->(∀u∈us,u.2.Nm P)∧∀b∈ps,b.Nm P)/\
  ∀(σ':aF) (K':AV->aF->Prop),Sub A σ σ'->K' (Yu sh σ.length σ'.length v) (CN us σ'++ps)->G σ' K'
def mg{β:Type}(A:Nat->Prop)(σ:aF)(G:aF->(β->Prop)->Prop)(K:β->Prop):Prop:=
 ∃x,K x∧∀(σ':aF) (K':β->Prop),Sub A σ σ'->K' x->G σ' K'
section
variable {A:Nat->Prop} {tn:Bool} {N:(Nat->Prop)->Prop} {σ:aF}
def Xf.quiet{G:aF->(AV->aF->Prop)->Prop}{K:AV->aF->Prop}{v:AV}(h:K v σ)(h2:∀(σ':aF) (K':AV->aF->Prop),Sub A σ σ'->K' v σ'->G σ' K'):Xf A tn N σ G K:=
 ⟨v,false,[],[],λ_=>rfl,by rw[zbf];exact h,λu hu=>qu,λP _ _=>⟨λu hu=>qu,λb hb=>sc⟩,λσ' K' hs hk=>h2 σ' K' hs EP⟩
def Xf.push{G:aF->(AV->aF->Prop)->Prop}{K:AV->aF->Prop}{v:AV}{b:dC}(h:K v (σ++[b]))(hn:∀P,N P->b.Nm P)(h2:∀(σ':aF) (K':AV->aF->Prop),K' (OU σ.length σ'.length v) (σ'++[b])->G σ' K'):Xf A tn N σ G K:=
 ⟨v,true,[],[b],λh=>bV,h,λu hu=>qu,λP hP _=>⟨λu hu=>qu,λc hc=>by simp at hc;subst hc;exact hn P hP⟩,λσ' K' _ hk=>h2 σ' K' hk⟩
def aj0(a:AV){K:List AV->Prop}(h:GN a K):∃cs,K cs/\(∀P,a.Nm P->AV.vz P cs)∧∀K':List AV->Prop,K' cs->GN a K':=by
 cases a with
 |pv x=>
  have one:∀y:PV,K [.pv y]→∃cs,K cs/\(∀P,(AV.pv x).Nm P->AV.vz P cs)∧∀K':List AV->Prop,K' cs->K' [.pv y]:=λy h=>⟨_,h,λP _=>by simp[AV.vz,AV.Nm],λ_ h=>h⟩
  cases x with
  |agg cs=>
   have h:=tR _ _ h;refine⟨_,h,λP _=>att cs,λK' hk=>?_⟩;show abh cs K';obtain⟨r,h1,h2⟩:=Lx cs (λ_=>True) (by
    have:∀(l:List PV) (K:List AV->Prop),K (l.map .pv)->abh l K:=by
     intro l
     induction l with
     |nil=>intro K h;exact h
     |cons y l ih=>intro K h;exact ih _ h
    exact this cs _ trivial)
   have:=tR _ _ (h2 (λt=>t=r) rfl);subst this;exact h2 K' hk
  |tup l=>exact h.elim
  |_=>exact one _ h
 |agg cs=>exact⟨cs,h,λP hp=>by simpa only[AV.Nm]using hp,λ_ h=>h⟩
 |own id=>exact aat
 |ref id i o=>exact aat
 |sub id s l n=>exact aat
 |clo f cs=>exact aat
 |bad=>exact h.elim
 |tup l=>exact h.elim
def aFP{a:AV}(ha:a.Nm A){K:PV->Prop}(h:jD σ a K):mg A σ (λσ K=>jD σ a K) K:=by
 obtain⟨x,h1,h2⟩:=BO a _ h;refine⟨x,h1,λσ' K' hs hk=>?_⟩;have h3:=aem hs a (ang a ha) (h2 (λy=>y=x) rfl);obtain⟨y,rfl,h5⟩:=BO a _ h3;exact h5 K' hk
def atH{l:List AV}(ha:AV.vz A l){K:List PV->Prop}(h:aQ σ l K):mg A σ (λσ K=>aQ σ l K) K:=by
 obtain⟨x,h1,h2⟩:=tF l _ h;refine⟨x,h1,λσ' K' hs hk=>?_⟩;have h3:=Zy hs l (afH l ha) (h2 (λy=>y=x) rfl);obtain⟨y,rfl,h5⟩:=tF l _ h3;exact h5 K' hk
def arW{a:AV}(ha:a.Nm A){K:Nat->List PV->Prop}(h:Ef σ a K):∃s aC,K s aC∧∀(σ':aF) (K':Nat->List PV->Prop),Sub A σ σ'->K' s aC->Ef σ' a K':=by
 have hd:bN λK:Nat×List PV->Prop=>Ef σ a λs l=>K (s,l):=QN a (λs l K=>K (s,l)) λs l=>bN.ret _
 obtain⟨⟨s,aC⟩,h1,h2⟩:=hd (λp=>K p.1 p.2) h;refine⟨s,aC,h1,λσ' K' hs hk=>?_⟩;have h3:=agv hs (ang a ha) (h2 (λp=>p=(s,aC)) rfl);have zc:bN λK:Nat×List PV->Prop=>Ef σ' a λs l=>K (s,l):=QN a (λs l K=>K (s,l)) λs l=>bN.ret _
 obtain⟨p,hp,h5⟩:=zc (λp=>p=(s,aC)) h3;subst hp;exact h5 (λp=>K' p.1 p.2) hk
def aoX{n:Nat}{a v:AV}(ha:a.Nm A)(hv:v.Nm A)(hN:∀P,N P->v.Nm P){K:AV->aF->Prop}(h:aaL σ n a v λσ=>K .bad σ):Xf A true N σ (λσ K=>aaL σ n a v λσ=>K .bad σ) K:=by
 cases a with
 |ref id idx off=>
  have hi:A id:=by simpa only[AV.Nm]using ha
  obtain⟨b,h1,h2⟩:=aS _ _ _ h;have aU:=(zaa.1 h1).1;cases b with
  |row e sz ap aC=>
   obtain⟨x,h3,h4⟩:=aFP hv h2;obtain⟨us,h5,h6,h7⟩:=an5 v σ _ hv h3;obtain⟨b,h8,h9⟩:=aS _ _ _ h5;cases b with
   |row e sz ap aC=>
    obtain⟨y,XK,gT,ph⟩:=h9;obtain⟨cs,zf,dV⟩:=xR _ _ _ _ ph;obtain⟨y',zg,vT⟩:=aaW _ _ _ zf;obtain⟨A6,vX⟩:=fS _ _ _ _ zg;refine⟨.bad,false,us++[(id,.row e sz ap (aC.set idx y'))],[],λ_=>rfl,?_,?_,?_,?_⟩
    ·rw[zbf,xo];exact vX
    ·intro u hu;rcases zaA.1 hu with hu|hu
     ·exact⟨rfl,(h6 u hu).1,(h6 u hu).2.1⟩
     ·simp at hu;subst hu;exact⟨rfl,hi,aU⟩
    ·refine λP _ _=>⟨λu hu=>?_,λb hb=>sc⟩
     rcases zaA.1 hu with hu|hu
     ·obtain⟨_,_,x,hx⟩:=h6 u hu;rw[hx];trivial
     ·simp at hu;subst hu;trivial
    ·intro σ' K' hs hk;rw[zbf,xo]at hk;refine dP _ _ _ _ (hs id _ hi h1) ?_;refine h4 σ' _ hs (h7 σ' _ hs ?_);have lI:=WY hs us id _ hi h8;refine dP _ _ _ _ lI ⟨y,XK,gT,dV _ (vT _ (Gz _ _ _ _ (zaa.1 lI).1 hk))⟩
   |_=>exact h9.elim
  |box e cs=>
   obtain⟨vs,h3,h4,h5⟩:=aj0 v h2;obtain⟨h6,h7⟩:=h3;obtain⟨ds,h8,h9⟩:=xR _ _ _ _ h7;obtain⟨XK,gT⟩:=fS _ _ _ _ h8;obtain⟨pre,mid,post,ph,zf,dV,zg⟩:=uD _ _ _ _ (h9 (λt=>t=ds) rfl);refine⟨.bad,false,[(id,.box e ds)],[],λ_=>rfl,by rw[zbf];exact gT,?_,?_,?_⟩
   ·intro u hu;simp at hu;subst hu;exact⟨rfl,hi,aU⟩
   ·refine λP hP hc=>⟨λu hu=>?_,λb hb=>sc⟩
    simp at hu;subst hu;have hold:AV.vz P cs:=hc id _ hi h1;have PB:AV.vz P vs:=h4 P (hN P hP);show AV.vz P ds;rw[<-zg];rw[ph,XA,XA]at hold;rw[XA,XA];exact⟨⟨hold.1.1,PB⟩,hold.2⟩
   ·intro σ' K' hs hk;rw[zbf]at hk;have lI:=hs id _ hi h1;exact dP _ _ _ _ lI (h5 _ ⟨h6,h9 _ (Gz _ _ _ _ (zaa.1 lI).1 hk)⟩)
  |_=>exact h2.elim
 |_=>exact h.elim
def axt{e sz bytes:Nat}{x:AV}{ys:List PV}(hx:x.Nm A){K:AV->aF->Prop}(h:alB σ e sz bytes x ys K):Xf A true N σ (λσ K=>alB σ e sz bytes x ys K) K:=by
 cases x with
 |pv p=>
  cases p with
  |nil s=>
   obtain⟨h1,h2⟩:=h;have h3:=cN _ _ _ (gV _ _ h2);refine Xf.push h3 (λP _=>trivial) λσ' K' hk=>⟨h1,vn _ _ (pX _ _ _ ?_)⟩
   simp only[OU,Bw]at hk;exact hk
  |_=>exact h.elim
 |own id=>
  have hi:A id:=KQ;obtain⟨b,h1,h2⟩:=aS _ _ _ h;have aU:=(zaa.1 h1).1;cases b with
  |row e' s ap aC=>
   cases ap with
   |false=>exact h2.elim
   |true=>
    cases lX:Nat.beq s sz with
    |false=>simp only[lX]at h2
    |true=>
     cases HL:Nat.beq e' e with
     |false=>simp only[lX,HL]at h2
     |true=>
      simp only[lX,HL]at h2;obtain⟨h3,h4⟩:=h2;obtain⟨_,h5⟩:=fS _ _ _ _ h4;have h6:=cN _ _ _ (gV _ _ h5);refine⟨_,true,[(id,.dead)],[_],λh=>bV,h6,?_,?_,?_⟩
      ·intro u hu;simp at hu;subst hu;exact⟨rfl,hi,aU⟩
      ·refine λP _ _=>⟨λu hu=>?_,λb hb=>?_⟩
       ·simp at hu;subst hu;trivial
       ·simp at hb;subst hb;trivial
      ·intro σ' K' hs hk;have lI:=hs id _ hi h1;refine dP _ _ _ _ lI ?_;simp only[lX,HL];refine⟨h3,Gz _ _ _ _ (zaa.1 lI).1 (vn _ _ (pX _ _ _ ?_))⟩;simp only[Yu,OU,za0,Bw]at hk ⊢;exact hk
  |_=>exact h2.elim
 |_=>exact h.elim
def wy{n:Nat}{lo hi:Option AV}{K:Nat->Nat->Prop}(h:iJ n lo hi K):∃l u,K l u∧∀K':Nat->Nat->Prop,K' l u->iJ n lo hi K':=by
 have hd:bN λK:Nat×Nat->Prop=>iJ n lo hi λl u=>K (l,u):=UN n lo hi (λl u K=>K (l,u)) λl u=>bN.ret _
 obtain⟨⟨l,u⟩,h1,h2⟩:=hd (λp=>K p.1 p.2) h;exact⟨l,u,h1,λK' hk=>h2 (λp=>K' p.1 p.2) hk⟩
def ahq{sz:Nat}{x:AV}{ys:List PV}(hx:x.Nm A){K:AV->aF->Prop}(h:NR σ sz x ys λn σ=>K (.pv (.int .i64 n)) σ):Xf A true N σ (λσ K=>NR σ sz x ys λn σ=>K (.pv (.int .i64 n)) σ) K:=by
 have one:∀(id:Nat) (b:dC) (b':dC) (n:Nat) (hi:A id) (h1:σ[id]?=some b) (hb:∀P:Nat->Prop,b'.Nm P) (h:wu σ id b' λσ=>K (.pv (.int .i64 n)) σ),
  ∃us:List (Nat×dC),K (.pv (.int .i64 n)) (CN us σ)/\(∀u∈us,A u.1/\u.1<σ.length)/\(∀P:Nat->Prop,∀u∈us,u.2.Nm P)∧∀(σ':aF) (K':AV->aF->Prop),Sub A σ σ'->K' (.pv (.int .i64 n)) (CN us σ')->wu σ' id b' λσ=>K' (.pv (.int .i64 n)) σ:=by
  intro id b b' n hi h1 hb h;refine⟨[(id,b')],(fS _ _ _ _ h).2,λu hu=>?_,λP u hu=>?_,λσ' K' hs hk=>Gz _ _ _ _ (zaa.1 (hs id b hi h1)).1 hk⟩
  ·simp at hu;subst hu;exact⟨hi,(zaa.1 h1).1⟩
  ·simp at hu;subst hu;exact hb P
 cases x with
 |pv p=>
  cases p with
  |nil s=>exact Xf.quiet h λσ' K' _ hk=>hk
  |_=>exact h.elim
 |own id=>
  have hi:A id:=KQ;obtain⟨b,h1,h2⟩:=aS _ _ _ h;cases b with
  |row e s ap aC=>
   simp only at h2;cases hs:Nat.beq s sz with
   |false=>simp only[hs]at h2
   |true=>
    simp only[hs]at h2;obtain⟨us,g1,g2,g3,g4⟩:=one id _ (.row e s ap (ys.take aC.length++aC.drop ys.length)) _ hi h1 (λ_=>trivial) h2;refine⟨_,false,us,[],λ_=>rfl,by rw[zbf];exact g1,λu hu=>⟨rfl,g2 u hu⟩,λP _ _=>⟨g3 P,λb hb=>sc⟩,λσ' K' Et hk=>dP _ _ _ _ (Et id _ hi h1) ?_⟩;simp only[hs];exact g4 σ' K' Et EP
  |_=>exact h2.elim
 |sub id s lo n=>
  have hi:A id:=KQ;simp only[NR]at h ⊢;cases lK:Nat.beq s sz with
  |false=>simp only[lK]at h
  |true=>
   simp only[lK]at h ⊢;obtain⟨b,h1,h2⟩:=aS _ _ _ h;cases b with
   |row e s' ap aC=>
    simp only at h2;cases hs:Nat.beq s' sz with
    |false=>simp only[hs]at h2
    |true=>
     simp only[hs]at h2;obtain⟨us,g1,g2,g3,g4⟩:=one id _ (.row e s' ap (aC.take lo++ys.take n++aC.drop (lo+min ys.length n))) _ hi h1 (λ_=>trivial) h2.2;refine⟨_,false,us,[],λ_=>rfl,by rw[zbf];exact g1,λu hu=>⟨rfl,g2 u hu⟩,λP _ _=>⟨g3 P,λb hb=>sc⟩,λσ' K' Et hk=>dP _ _ _ _ (Et id _ hi h1) ?_⟩;simp only[hs];exact⟨h2.1,g4 σ' K' Et EP⟩
   |_=>exact h2.elim
 |_=>exact h.elim
def auu{c:Bool}{x k:AV}(hx:x.Nm A){K:AV->aF->Prop}(h:aor σ c x k λr=>K r σ):Xf A tn N σ (λσ K=>aor σ c x k λr=>K r σ) K:=by
 cases x with
 |own id=>
  have hi:A id:=KQ;obtain⟨b,h1,h2⟩:=aS _ _ _ h;cases b with
  |mp l=>
   cases k with
   |pv y=>
    cases y with
    |int kd n=>
     cases kd with
     |i64=>
      cases c with
      |true=>exact Xf.quiet h2 λσ' K' hs hk=>dP _ _ _ _ (hs id _ hi h1) hk
      |false=>exact Xf.quiet h2 λσ' K' hs hk=>dP _ _ _ _ (hs id _ hi h1) hk
     |_=>exact h2.elim
    |_=>exact h2.elim
   |_=>exact h2.elim
  |_=>exact h2.elim
 |_=>exact h.elim
def aw9{sz:Nat}{x:AV}{lo hi:Option AV}(hx:x.Nm A){K:AV->aF->Prop}(h:aes σ sz x lo hi K):Xf A true N σ (λσ K=>aes σ sz x lo hi K) K:=by
 cases x with
 |pv p=>
  cases p with
  |sl s aC=>
   simp only[aes]at h ⊢;cases lX:Nat.beq s sz with
   |false=>simp only[lX]at h
   |true=>
    simp only[lX]at h ⊢;obtain⟨l,u,h1,h2⟩:=wy h;exact Xf.quiet h1 λσ' K' _ hk=>h2 _ hk
  |nil s=>
   obtain⟨l,u,h1,h2⟩:=wy (K:=λ_ _=>K (.pv (.nil s)) σ) h;exact Xf.quiet h1 λσ' K' _ hk=>h2 (λ_ _=>K' (.pv (.nil s)) σ') hk
  |_=>exact h.elim
 |own id=>
  have hi:A id:=KQ;obtain⟨b,h1,h2⟩:=aS _ _ _ h;have aU:=(zaa.1 h1).1;cases b with
  |row e s ap aC=>
   simp only at h2;cases lX:Nat.beq s sz with
   |false=>simp only[lX]at h2
   |true=>
    simp only[lX]at h2;rcases h2 with h2|h2
    ·obtain⟨l,u,h3,h4⟩:=wy h2;obtain⟨_,h5⟩:=fS _ _ _ _ h3;refine⟨_,false,[(id,.fz (.sl sz aC))],[],λ_=>rfl,by rw[zbf];exact h5,?_,?_,?_⟩
     ·intro u hu;simp at hu;subst hu;exact⟨rfl,hi,aU⟩
     ·refine λP _ _=>⟨λu hu=>?_,λb hb=>sc⟩
      simp at hu;subst hu;trivial
     ·intro σ' K' hs hk;rw[zbf]at hk;have lI:=hs id _ hi h1;refine dP _ _ _ _ lI ?_;simp only[lX];exact .inl (h4 _ (Gz _ _ _ _ (zaa.1 lI).1 hk))
    ·obtain⟨l,u,h3,h4⟩:=wy h2;refine Xf.quiet h3 λσ' K' hs hk=>dP _ _ _ _ (hs id _ hi h1) ?_
     simp only[lX];exact .inr (h4 _ hk)
  |fz x=>
   cases x with
   |sl s aC=>
    simp only at h2;cases lX:Nat.beq s sz with
    |false=>simp only[lX]at h2
    |true=>
     simp only[lX]at h2;obtain⟨l,u,h3,h4⟩:=wy h2;refine Xf.quiet h3 λσ' K' hs hk=>dP _ _ _ _ (hs id _ hi h1) ?_
     simp only[lX];exact h4 _ hk
   |_=>exact h2.elim
  |_=>exact h2.elim
 |sub id s lo0 n=>
  simp only[aes]at h ⊢;cases lX:Nat.beq s sz with
  |false=>simp only[lX]at h
  |true=>
   simp only[lX]at h ⊢;obtain⟨l,u,h1,h2⟩:=wy h;exact Xf.quiet h1 λσ' K' _ hk=>h2 _ hk
 |_=>exact h.elim
def alx(cs:List PV):bN (qm cs):=by
 cases cs with
 |nil=>exact eM
 |cons c r=>cases r with
  |nil=>cases c<;>first|exact bN.no|exact eM
  |cons d r=>exact eM
end
end
end Go.Dv
namespace Go.Dv
open Go.RowKit
section
section
variable {Γ:Ctx} {env:Env} {σ:aF} {P:Program}
def zd{Q:Nat->Prop}{x:Operand}(hx:∀t∈q_ x,(aE t env).Nm Q):(bK env x).Nm Q:=by
 cases x with
 |tmp t=>exact hx t (by simp[q_])
 |const v=>simp only[bK];cases v<;>simp[GO,AV.Nm];(try split)<;>simp[AV.Nm]
 |global _=>simp[bK,AV.Nm]
 |func f=>simp[bK,AV.Nm]
def aoa{Q:Nat->Prop}{l:List Operand}(hx:∀t∈l.flatMap q_,(aE t env).Nm Q):AV.vz Q (l.map (bK env)):=by
 induction l with
 |nil=>simp[AV.vz]
 |cons x l ih=>
  simp only[zau,AV.vz];exact⟨zd λt ht=>hx t (by simp[ht]),ih λt ht=>hx t (zbA.2 (by obtain⟨y,hy,vY⟩:=zbA.1 ht;exact⟨y,pT,vY⟩))⟩
def ajD{k:PK}(hk:(k.still||k.al)=false):∀t∈k.reads,(aE t env).Nm (· ∈k.reach env σ):=by
 refine aof (P:=(· ∈k.reach env σ)) λi hi=>?_
 unfold PK.reach;rw[hk];cases k<;>first|exact hi|exact zaA.2 (.inl hi)
def aB8(hΓ:Sound P Γ){k:PK}(hk:k.dk Γ=true){K:AV->aF->Prop}(h:sn Γ env σ k K):
 Xf (· ∈k.reach env σ) (k.turns Γ) (λQ=>∀t∈k.reads,(aE t env).Nm Q) σ (λσ K=>sn Γ env σ k K) K:=by
 by_cases fM:k.still=true
 ·obtain⟨v,h1,h2⟩:=ZW hΓ fM σ h;exact Xf.quiet h1 λσ' K' _ hk=>h2 σ' K' hk
 by_cases kf:k.al=true
 ·cases k with
  |alloc e z=>
   simp only[sn]at h ⊢;obtain⟨cs,h1,h2⟩:=Lx _ _ h;have sH:=tR _ _ (h2 (λt=>t=cs) rfl);have h3:=cN _ _ _ (gV _ _ h1);refine Xf.push h3 (λQ _=>by rw[<-sH];exact att _) λσ' K' hk=>h2 _ (vn _ _ (pX _ _ _ ?_))
   simp only[OU,Bw]at hk;exact hk
  |box e x=>
   simp only[sn,bg]at h ⊢;obtain⟨cs,h1,hn,h2⟩:=aj0 _ h;have h3:=cN _ _ _ (gV _ _ h1);refine Xf.push h3 (λQ hQ=>hn Q (zd hQ)) λσ' K' hk=>h2 _ (vn _ _ (pX _ _ _ ?_))
   simp only[OU,Bw]at hk;exact hk
  |_=>cases kf
 have HO:(k.still||k.al)=false:=by
  cases h1:k.still with
  |true=>exact absurd h1 fM
  |false=>cases h2:k.al with
   |true=>exact absurd h2 kf
   |false=>rfl
 have hr:=ajD (env:=env) (σ:=σ) HO;by_cases hp:k.pure Γ=true
 ·obtain⟨v,h1,h2⟩:=Yr hΓ env hp _ h;refine Xf.quiet h1 λσ' K' hs hk=>?_
  have h3:=aod hΓ hs hp (λt ht=>ang _ (hr t ht)) (K:=λx=>x=v) (h2 (λx _=>x=v) rfl);obtain⟨v',rfl,h5⟩:=Yr hΓ env hp _ h3;exact h5 K' hk
 simp only[PK.dk,hp,fM,kf,Bool.false_or,Bool.or_false]at hk;cases k with
 |store n x v=>
  simp only[sn,bg]at h ⊢;exact aoX (zd λt ht=>hr t aT) (zd λt ht=>hr t aT) (λQ hQ=>zd λt ht=>hQ t aT) h
 |app e sz bytes x y=>
  simp only[sn,bg]at h ⊢;obtain⟨s,ys,h1,h2⟩:=arW (A:=(· ∈(PK.app e sz bytes x y).reach env σ)) (zd λt ht=>hr t aT) h;cases hs:Nat.beq s sz with
  |false=>simp only[hs]at h1
  |true=>
   simp only[hs]at h1;obtain⟨v,sh,us,ps,g0,g1,g2,g3,g4⟩:=axt (A:=(· ∈(PK.app e sz bytes x y).reach env σ)) (N:=λQ=>∀t∈(PK.app e sz bytes x y).reads,(aE t env).Nm Q) (zd λt ht=>hr t aT) h1;refine⟨v,sh,us,ps,g0,g1,g2,g3,λσ' K' Et hk=>h2 σ' _ Et ?_⟩;simp only[hs];exact g4 σ' K' Et hk
 |bslP e sz l=>
  have hl:AV.vz (· ∈(PK.bslP e sz l).reach env σ) (l.map (bK env)):=aoa λt ht=>hr t ht
  simp only[sn,wE]at h ⊢;obtain⟨xs,⟨h0,h1⟩,h2⟩:=atH hl h;obtain⟨us,e1,e2,e3⟩:=aj7 _ _ _ hl h1;have h3:=cN _ _ _ (gV _ _ e1);rw[pM]at h3;refine⟨.own σ.length,true,us,[.row e sz true xs],λh=>bV,h3,λu hu=>⟨rfl,(e2 u hu).1,(e2 u hu).2.1⟩,λQ _ _=>⟨λu hu=>?_,λb hb=>by simp at hb;subst hb;trivial⟩,λσ' K' hs hk=>h2 σ' _ hs ⟨h0,?_⟩⟩
  ·obtain⟨_,_,x,hx⟩:=e2 u hu;rw[hx];trivial
  ·refine e3 σ' _ hs (vn _ _ (pX _ _ _ ?_));rw[pM];simp only[Yu,OU,Bw]at hk;exact hk
 |look c x y=>
  simp only[sn,bg]at h ⊢;exact auu (zd λt ht=>hr t aT) h
 |cpy sz x y=>
  simp only[sn,bg]at h ⊢;obtain⟨s,ys,h1,h2⟩:=arW (A:=(· ∈(PK.cpy sz x y).reach env σ)) (zd λt ht=>hr t aT) h;cases hs:Nat.beq s sz with
  |false=>simp only[hs]at h1
  |true=>
   simp only[hs]at h1;obtain⟨v,sh,us,ps,g0,g1,g2,g3,g4⟩:=ahq (A:=(· ∈(PK.cpy sz x y).reach env σ)) (N:=λQ=>∀t∈(PK.cpy sz x y).reads,(aE t env).Nm Q) (zd λt ht=>hr t aT) h1;refine⟨v,sh,us,ps,g0,g1,g2,g3,λσ' K' Et hk=>h2 σ' _ Et ?_⟩;simp only[hs];exact g4 σ' K' Et hk
 |cpyS x y=>
  simp only[sn,bg]at h ⊢;cases hy:bK env y with
  |pv p=>
   rw[hy]at h;cases p with
   |str l=>
    simp only at h ⊢;exact ahq (zd λt ht=>hr t aT) h
   |_=>exact h.elim
  |_=>rw[hy]at h;exact h.elim
 |slcR sz x lo hi=>
  simp only[sn,bg,aa0]at h ⊢;exact aw9 (zd λt ht=>hr t aT) h
 |mkf f jh=>
  simp only[zbr]at hk;simp only[sn,wE,hk]at h ⊢
  let A0:=ak6 env (PK.mkf f jh).reads
  have PG:AV.vz (· ∈A0) (jh.map (bK env)):=aoa λt ht=>aof (P:=(· ∈A0)) (λi hi=>hi) t ht
  have aDc:(PK.mkf f jh).reach env σ=A0++V9 σ A0:=by unfold PK.reach;rw[HO]
  have xe:∀(l:List AV) (τ:aF) (K:List PV->aF->Prop),AV.vz (· ∈A0) l->(∀j,j∈A0→∀e cs,τ[j]?=some (.box e cs)->AV.vz (· ∈A0++V9 σ A0) cs)->Ho l τ K->
   ∃xs us,K xs (CN us τ)/\BD (· ∈A0++V9 σ A0) τ us∧∀(σ':aF) (K':List PV->aF->Prop),Sub (· ∈A0++V9 σ A0) τ σ'->K' xs (CN us σ')->Ho l σ' K':=by
   intro l
   induction l with
   |nil=>intro τ K _ _ h;exact⟨[],[],h,λu hu=>qu,λ_ _ _ hk=>hk⟩
   |cons a l ih=>
    intro τ K hn hc h;simp only[AV.vz]at hn;cases a with
    |ref id i off=>
     have hi:id∈A0:=by simpa only[AV.Nm]using hn.1
     have Vp:id∈A0++V9 σ A0:=zaA.2 (.inl hi);obtain⟨b,h1,h2⟩:=aS _ _ _ h;have aU:=(zaa.1 h1).1;cases b with
     |box e cs=>
      cases off with
      |succ o=>exact h2.elim
      |zero=>
       have sH:=hc id hi e cs h1;obtain⟨t,h3,h4⟩:=atH sH h2;obtain⟨x,h5,h6⟩:=alx t _ h3;obtain⟨us,h7,h8,h9⟩:=aj7 cs τ _ sH h5;obtain⟨XK,gT⟩:=fS _ _ _ _ h7;have hz:BD (· ∈A0++V9 σ A0) τ (us++[(id,dC.fz (.cptr x))]):=h8.app λu hu=>by
        simp at hu;subst hu;exact⟨Vp,XK,_,rfl⟩
       have WS:∀j,j∈A0→∀e cs,(CN (us++[(id,dC.fz (.cptr x))]) τ)[j]?=some (.box e cs)->AV.vz (· ∈A0++V9 σ A0) cs:=by
        intro j hj e' Ea hb;by_cases jB:∃u∈us++[(id,dC.fz (.cptr x))],u.1=j
        ·exfalso;have:∀(us:List (Nat×dC)) (τ:aF),(∀u∈us,∃x,u.2=.fz x)->(∃u∈us,u.1=j)→∀e cs,(CN us τ)[j]?≠some (.box e cs):=by
          intro us
          induction us with
          |nil=>intro τ _ ⟨u,hu,_⟩;cases hu
          |cons u us ih=>
           intro τ hf hex e cs hb;by_cases h':∃u∈us,u.1=j
           ·exact ih _ (λv hv=>hf v (by simp[hv])) h' e cs hb
           ·have Cs:(CN us (τ.set u.1 u.2))[j]?=some (.box e cs):=hb;rw[Ew us _ j λv hv e=>h' ⟨v,hv,e⟩]at Cs;obtain⟨v,hv,rfl⟩:=hex;rcases zax.1 hv with rfl|hv
            ·rw[zaS]at Cs;simp only[if_true]at Cs;obtain⟨x,hx⟩:=hf v aj;rw[hx]at Cs;split at Cs<;>cases Cs
            ·exact h' ⟨v,hv,rfl⟩
         exact this _ τ (λu hu=>(hz u hu).2.2) jB e' Ea hb
        ·rw[Ew _ _ _ λu hu e=>jB ⟨u,hu,e⟩]at hb;exact hc j hj e' Ea hb
       rw[show(CN us τ).set id (.fz (.cptr x))=CN (us++[(id,dC.fz (.cptr x))]) τ from(xo us [(id,dC.fz (.cptr x))] τ).symm]at gT;obtain⟨xs,vs,ph,zf,dV⟩:=ih _ _ hn.2 WS gT;refine⟨_,(us++[(id,dC.fz (.cptr x))])++vs,by rw[xo];exact ph,hz.app zf,λσ' K' hs hk=>?_⟩;have lI:=hs id _ Vp h1;refine dP _ _ _ _ lI (h4 σ' _ hs (h6 _ (h9 σ' _ hs (Gz _ _ _ _ (by rw[pM];exact(zaa.1 lI).1) ?_))));rw[show(CN us σ').set id (.fz (.cptr x))=CN (us++[(id,dC.fz (.cptr x))]) σ' from(xo us [(id,dC.fz (.cptr x))] σ').symm];exact dV _ _ (WY hs _) (by rw[<-xo];exact hk)
     |fz x=>
      cases off with
      |succ o=>exact h2.elim
      |zero=>
       cases x with
       |cptr y=>
        obtain⟨xs,vs,ph,zf,dV⟩:=ih τ _ hn.2 hc h2;exact⟨_,vs,ph,zf,λσ' K' hs hk=>dP _ _ _ _ (hs id _ Vp h1) (dV σ' _ hs hk)⟩
       |_=>exact h2.elim
     |_=>exact h2.elim
    |pv x=>
     cases x with
     |cptr y=>
      obtain⟨xs,vs,ph,zf,dV⟩:=ih τ _ hn.2 hc h;exact⟨_,vs,ph,zf,λσ' K' hs hk=>dV σ' _ hs hk⟩
     |_=>exact h.elim
    |_=>exact h.elim
  obtain⟨xs,us,g1,g2,g3⟩:=xe _ _ _ PG (λj hj e cs sH=>axG (P:=(· ∈A0++V9 σ A0)) (λi hi=>zaA.2 (.inr hi)) j hj e cs sH) h;rw[aDc];refine⟨.pv (.clo f xs),false,us,[],λ_=>rfl,by rw[zbf];exact g1,λu hu=>⟨rfl,(g2 u hu).1,(g2 u hu).2.1⟩,λQ _ _=>⟨λu hu=>?_,λb hb=>sc⟩,λσ' K' hs hk=>?_⟩
  ·obtain⟨_,_,x,hx⟩:=g2 u hu;rw[hx];trivial
  ·rw[zbf]at hk;exact g3 σ' _ hs hk
 |call f l=>
  have XH:(Γ f).dt=true:=hk;have sD:(Γ f).fn=false:=by
   cases hf:(Γ f).fn with
   |true=>exact absurd (show(PK.call f l).pure Γ=true from hf) hp
   |false=>rfl
  obtain⟨Um,WR⟩:=(Γ f).XH XH;have hl:AV.vz (· ∈(PK.call f l).reach env σ) (l.map (bK env)):=aoa λt ht=>hr t ht
  simp only[sn,wE,J1,Um]at h ⊢;obtain⟨ps,h1,h2⟩:=atH hl h;cases UC:(Γ f).lone with
  |true=>
   simp only[UC]at h1;obtain⟨r,h3,h4⟩:=WR _ _ h1;obtain⟨v,bs,g1,g2,g3,g4⟩:=auc r σ K h3;refine⟨v,true,[],bs,λh=>bV,g1,λu hu=>qu,λQ _ _=>⟨λu hu=>qu,λb hb=>g2 b hb Q⟩,λσ' K' hs hk=>h2 σ' _ hs ?_⟩;exact h4 _ (g4 σ' K' hk)
  |false=>
   simp only[UC]at h1;obtain⟨us,e1,e2,e3⟩:=aj7 _ _ _ hl h1;obtain⟨r,h3,h4⟩:=WR _ _ e1;obtain⟨v,bs,g1,g2,g3,g4⟩:=auc r _ K h3;rw[pM]at g4;refine⟨v,true,us,bs,λh=>bV,g1,λu hu=>⟨by simp[PK.turns,sD,UC],(e2 u hu).1,(e2 u hu).2.1⟩,λQ _ _=>⟨λu hu=>?_,λb hb=>g2 b hb Q⟩,λσ' K' hs hk=>h2 σ' _ hs ?_⟩
   ·obtain⟨_,_,x,hx⟩:=e2 u hu;rw[hx];trivial
   ·exact e3 σ' _ hs (h4 _ (g4 _ K' (by rw[pM];exact hk)))
 |_=>cases hk
def asY(hΓ:Sound P Γ){o:PO}(hk:o.k.dk Γ=true){K:Env->aF->Prop}(h:dg Γ o env σ K):
 ∃(v:AV) (sh:Bool) (us:List (Nat×dC)) (ps:List dC),(sh=false->ps=[])/\K (put o.dst v env) (CN us σ++ps)/\(∀u∈us,o.k.turns Γ=true/\u.1∈o.k.reach env σ/\u.1<σ.length)/\
  (∀Q:Nat->Prop,(∀t∈o.reads,(aE t env).Nm Q)->(∀j b,j∈o.k.reach env σ->σ[j]?=some b->b.Nm Q)->(∀u∈us,u.2.Nm Q)∧∀b∈ps,b.Nm Q)/\
  ∀(aal:Env) (σ':aF) (K':Env->aF->Prop),(∀t∈o.reads,aE t aal=aE t env)->Sub (· ∈o.k.reach env σ) σ σ'->K' (put o.dst (Yu sh σ.length σ'.length v) aal) (CN us σ'++ps)->dg Γ o aal σ' K':=by
 obtain⟨d,g,k⟩:=o;have run:sn Γ env σ k (λv σ=>K (put d v env) σ)→∃(v:AV) (sh:Bool) (us:List (Nat×dC)) (ps:List dC),(sh=false->ps=[])/\K (put d v env) (CN us σ++ps)/\(∀u∈us,k.turns Γ=true/\u.1∈k.reach env σ/\u.1<σ.length)/\
  (∀Q:Nat->Prop,(∀t∈k.reads,(aE t env).Nm Q)->(∀j b,j∈k.reach env σ->σ[j]?=some b->b.Nm Q)->(∀u∈us,u.2.Nm Q)∧∀b∈ps,b.Nm Q)/\
  ∀(aal:Env) (σ':aF) (K':Env->aF->Prop),(∀t∈k.reads,aE t aal=aE t env)->Sub (· ∈k.reach env σ) σ σ'->K' (put d (Yu sh σ.length σ'.length v) aal) (CN us σ'++ps)->sn Γ aal σ' k (λv σ=>K' (put d v aal) σ):=by
  intro h;obtain⟨v,sh,us,ps,h0,h1,h2,h3,h4⟩:=aB8 hΓ hk h;refine⟨v,sh,us,ps,h0,h1,h2,h3,λaal σ' K' hr hs hk=>?_⟩;rw[AL hr];exact h4 σ' _ hs hk
 have off:K (put d (.pv (.tup [])) env) σ->(∀(aal:Env) (σ':aF) (K':Env->aF->Prop),(∀t∈PO.reads ⟨d,g,k⟩,aE t aal=aE t env)->K' (put d (.pv (.tup [])) aal) σ'->dg Γ ⟨d,g,k⟩ aal σ' K')->
  ∃(v:AV) (sh:Bool) (us:List (Nat×dC)) (ps:List dC),(sh=false->ps=[])/\K (put d v env) (CN us σ++ps)/\(∀u∈us,k.turns Γ=true/\u.1∈k.reach env σ/\u.1<σ.length)/\
  (∀Q:Nat->Prop,(∀t∈PO.reads ⟨d,g,k⟩,(aE t env).Nm Q)->(∀j b,j∈k.reach env σ->σ[j]?=some b->b.Nm Q)->(∀u∈us,u.2.Nm Q)∧∀b∈ps,b.Nm Q)/\
  ∀(aal:Env) (σ':aF) (K':Env->aF->Prop),(∀t∈PO.reads ⟨d,g,k⟩,aE t aal=aE t env)->Sub (· ∈k.reach env σ) σ σ'->K' (put d (Yu sh σ.length σ'.length v) aal) (CN us σ'++ps)->dg Γ ⟨d,g,k⟩ aal σ' K':=by
  intro h1 h2;exact⟨_,false,[],[],λ_=>rfl,by rw[zbf];exact h1,λu hu=>qu,λQ _ _=>⟨λu hu=>qu,λb hb=>sc⟩,λaal σ' K' hr _ hk=>h2 aal σ' K' hr EP⟩
 cases g with
 |none=>
  obtain⟨v,sh,us,ps,h0,h1,h2,h3,h4⟩:=run h;exact⟨v,sh,us,ps,h0,h1,h2,λQ hQ=>h3 Q λt ht=>hQ t BG,λaal σ' K' hr hs hk=>h4 aal σ' K' (λt ht=>hr t BG) hs hk⟩
 |some p=>
  obtain⟨g,want⟩:=p;unfold dg at h;simp only at h;have hg:∀aal:Env,(∀t∈PO.reads ⟨d,some (g,want),k⟩,aE t aal=aE t env)->aE g aal=aE g env:=λaal hr=>hr g (by simp[PO.reads])
  cases hv:aE g env with
  |pv x=>
   rw[hv]at h;cases x with
   |bool b=>
    simp only at h;cases hb:(b==want)with
    |true=>
     rw[hb]at h;obtain⟨v,sh,us,ps,h0,h1,h2,h3,h4⟩:=run h;refine⟨v,sh,us,ps,h0,h1,h2,λQ hQ=>h3 Q λt ht=>hQ t BG,λaal σ' K' hr hs hk=>?_⟩;unfold dg;simp only[hg aal hr,hv,hb];exact h4 aal σ' K' (λt ht=>hr t BG) hs hk
    |false=>
     rw[hb]at h;refine off h λaal σ' K' hr hk=>?_
     unfold dg;simp only[hg aal hr,hv,hb];exact hk
   |tup l=>
    refine off h λaal σ' K' hr hk=>?_
    unfold dg;simp only[hg aal hr,hv];exact hk
   |_=>exact h.elim
  |_=>rw[hv]at h;exact h.elim
def auK(o:PO)(K:Env->aF->Prop):ay5 Γ o env σ K=dg Γ o env σ K:=by
 obtain⟨d,g,k⟩:=o;cases g with
 |none=>rfl
 |some p=>
  obtain⟨g,want⟩:=p;unfold dg;refine Eq.trans (look_eq g (λgv=>match gv with
   | .pv x=>match x with
    | .bool b=>match b with
     |true=>(match want with
      |true=>sn Γ env σ k λv σ=>K (put d v env) σ
      |false=>K (put d (.pv (.tup [])) env) σ)
     |false=>(match want with
      |false=>sn Γ env σ k λv σ=>K (put d v env) σ
      |true=>K (put d (.pv (.tup [])) env) σ)
    | .tup _=>K (put d (.pv (.tup [])) env) σ
    |_=>False
   |_=>False) env) ?_
  simp only;cases aE g env with
  |pv x=>cases x with
   |bool b=>cases b<;>cases want<;>rfl
   |_=>rfl
  |_=>rfl
structure Rc where
 v:AV
 sh:Bool
 us:List (Nat×dC)
 ps:List dC
structure mR(Γ:Ctx)(o:PO)(env:Env)(σ:aF)(c:Rc)(aal:Env)(σ':aF):Prop where
 yB:c.sh=false->c.ps=[]
 he:aal=put o.dst c.v env
 hs:σ'=CN c.us σ++c.ps
 hu:∀u∈c.us,o.k.turns Γ=true/\u.1∈o.k.reach env σ/\u.1<σ.length
 tA:∀Q:Nat->Prop,(∀t∈o.reads,(aE t env).Nm Q)->(∀j b,j∈o.k.reach env σ->σ[j]?=some b->b.Nm Q)->(∀u∈c.us,u.2.Nm Q)∧∀b∈c.ps,b.Nm Q
 run:∀(aal:Env) (σ':aF) (K':Env->aF->Prop),(∀t∈o.reads,aE t aal=aE t env)->Sub (· ∈o.k.reach env σ) σ σ'->K' (put o.dst (Yu c.sh σ.length σ'.length c.v) aal) (CN c.us σ'++c.ps)->dg Γ o aal σ' K'
noncomputable def entry(o:PO)(env:Env)(σ:aF)(aal:Env)(σ':aF):Lg:=(σ'.length,o.k.reach env σ,(match o.dst with|some d=>(aiv d aal).ids|none=>[]))
def ar6(hΓ:Sound P Γ){K:List Lg->Env->aF->Prop}(d:PO):∀(ops:List PO) (log:List Lg) (env:Env) (σ:aF),(∀o∈ops,o.k.dk Γ=true)->A5 Γ K ops log env σ->
 ∃(E:Nat->Env) (S:Nat->aF) (R:Nat->Rc),E 0=env/\S 0=σ/\K (((List.range ops.length).map λi=>entry (ops.getD i d) (E i) (S i) (E (i+1)) (S (i+1))).reverse++log) (E ops.length) (S ops.length)/\
  ∀i,i<ops.length->mR Γ (ops.getD i d) (E i) (S i) (R i) (E (i+1)) (S (i+1)):=by
 intro ops
 induction ops with
 |nil=>intro log env σ _ h;exact⟨λ_=>env,λ_=>σ,λ_=>⟨.bad,false,[],[]⟩,rfl,rfl,h,λi hi=>r_⟩
 |cons o ops ih=>
  intro log env σ hd h;have h':dg Γ o env σ λaal σ'=>A5 Γ K ops ((σ'.length,o.k.reach env σ,(match o.dst with|some d=>(aiv d aal).ids|none=>[]))::log) aal σ':=by
   rw[<-auK];exact h
  obtain⟨v,sh,us,ps,h0,h1,h2,h3,h4⟩:=asY hΓ (hd o aj) h';obtain⟨E,S,R,e1,e2,e3,e4⟩:=ih _ _ _ (λx hx=>hd x iP) h1;refine⟨λi=>match i with|0=>env|i+1=>E i,λi=>match i with|0=>σ|i+1=>S i,λi=>match i with|0=>⟨v,sh,us,ps⟩|i+1=>R i,rfl,rfl,?_,λi hi=>?_⟩
  ·simp only[zam];rw[List.range_succ_eq_map,zau,List.map_map,List.reverse_cons,zaj];simp only[zbP,e1,e2];exact e3
  ·cases i with
   |zero=>simp only[zbP];exact⟨h0,e1,e2,h2,h3,h4⟩
   |succ i=>simp only[List.getD_cons_succ];exact e4 i (by simpa using hi)
end
end
end Go.Dv
namespace Go.Dv
open Go.RowKit
section
section
variable {cx:Cx} {env:Env} {σ:aF} {vals:List Value} {a:Act} {w w':World} {n:Nat} {Γ:Ctx} {ops:Array Oper}
def aoO(hr:Rel cx env σ vals a w)(k:Nat):∃aO,Rel cx env (σ++List.replicate k .dead) aO a w:=by
 obtain⟨h1,h2⟩:=hr.s.amy (Below.refl _ w) (List.replicate k .dead) (List.replicate k (.bool false)) aj (by intro u hu;rw[zbq hu];rfl) (by intro u hu b hb;rw[zbq hu]at hb;cases hb)
  (by intro i j u t b _ hu _ hb;rw[zbq (zag hu)]at hb;cases hb)
  (by intro _ i s u hs hu;rw[zbq (zag hs)];trivial)
 exact⟨_,h1,λp=>h2.ra _ _ (hr.env p),hr.defers,λx v hq=>h2.ra _ _ (hr.gh x v hq),hr.lo⟩
def Fb(N b k:Nat):List Nat:=(List.range N).map λj=>if j<b then j else if j<b+k then N+(j-b)else j
def AK{N b k j:Nat}(h:j<N):(Fb N b k)[j]?=some (if j<b then j else if j<b+k then N+(j-b)else j):=by
 unfold Fb;rw[za9,zbz h];rfl
def ad5(N b k:Nat):(Fb N b k).length=N:=by simp[Fb]
def ahZ{N b k:Nat}(h:b+k<=N):(Fb N b k).Nodup:=by
 unfold Fb;unfold List.Nodup;rw[List.pairwise_map];refine List.Pairwise.imp_of_mem (λ{x y} hx hy zn=>?_) zbH;have hx:=zbm.1 hx;have hy:=zbm.1 hy;have zn:x≠y:=zn;show(if x<b then x else if x<b+k then N+(x-b)else x)≠(if y<b then y else if y<b+k then N+(y-b)else y)
 (repeat' split)<;>omega
def aE7{ps:List dC}{ahb:Env}{N b:Nat}(hr:Rel cx env (σ++ps) vals a w)(hN:σ.length=N)(hb:b+ps.length<=N)(hp:∀j,j<cx.Le.length\/j<cx.acm.length->j<b)
 (aku:∀t,Ren (Fb N b ps.length) (aE t env) (aE t ahb)) (hσ:∀s∈σ,s.Nm λi=>i<N∧¬(b<=i/\i<b+ps.length)) (fp:∀s∈ps,s.Nm λi=>i<N∧¬(b<=i/\i<b+ps.length))
 (mX:∀x v,cx.gh x v->x.Nm λi=>i<N∧¬(b<=i/\i<b+ps.length)):
 ∃aO,Rel cx ahb (σ.take b++ps++σ.drop (b+ps.length)) aO a w:=by
 have aKi:(σ.take b++ps++σ.drop (b+ps.length)).length=N:=aH;have abZ:∀i,(i<N∧¬(b<=i/\i<b+ps.length))->(Fb N b ps.length)[i]?=some i:=by
  intro i hi;rw[AK hi.1];by_cases h:i<b
  ·rw[if_pos h]
  ·rw[if_neg h,if_neg ab]
 have h2:∀(j i:Nat),(Fb N b ps.length)[j]?=some i→∃s t,(σ++ps)[i]?=some s/\(σ.take b++ps++σ.drop (b+ps.length))[j]?=some t/\Gj (Fb N b ps.length) s t:=by
  intro j i hj;have aU:j<N:=by rw[<-ad5 N b ps.length];exact(zaa.1 hj).1
  rw[AK aU]at hj;injection hj with hj
  by_cases h:j<b
  ·rw[if_pos h]at hj;subst hj;have h1:σ[j]?=some σ[j]:=zah ab;refine⟨σ[j],σ[j],by rw[zar ab];exact h1,?_,Uh _ (dC.kV abZ _ (hσ _ (zag h1)))⟩;rw[zar aH,zar aH,zaI,if_pos h];exact h1
  ·rw[if_neg h]at hj;by_cases h':j<b+ps.length
   ·rw[if_pos h']at hj;subst hj;have h1:ps[j-b]?=some ps[j-b]:=zah ab;refine⟨ps[j-b],ps[j-b],?_,?_,Uh _ (dC.kV abZ _ (fp _ (zag h1)))⟩
    ·rw[zak ab,show N+(j-b)-σ.length=j-b by omega];exact h1
    ·rw[zar aH,zak aH];rw[show j-(σ.take b).length=j-b by simp;omega];exact h1
   ·rw[if_neg h']at hj;subst hj;have h1:σ[j]?=some σ[j]:=zah ab;refine⟨σ[j],σ[j],by rw[zar ab];exact h1,?_,Uh _ (dC.kV abZ _ (hσ _ (zag h1)))⟩;rw[zak aH,zaB];rw[show b+ps.length+(j-(σ.take b++ps).length)=j by simp;omega];exact h1
 obtain⟨aO,hA,Et,di⟩:=ajt (r:=Fb N b ps.length) (λj hj=>by have:=hp j hj;rw[AK ab,if_pos this]) (ahZ hb) (by rw[ad5];exact aKi) h2 hr.s;exact⟨aO,Et,λp=>Ren.ra hA di _ _ _ (aku p) (hr.env p),hr.defers,λx v hq=>Ren.ra hA di _ _ _ (Kf x (kV abZ x (mX x v hq))) (hr.gh x v hq),hr.lo⟩
structure FR(Γ:Ctx)(ops:Array Oper)(f:Nat->PO)(nL bs:Nat->List Nat)(E:Nat->Env)(S:Nat->aF)(R:Nat->Rc):Prop where
 az5:∀(i:Nat) (o:Oper),ops[i]?=some o→∀j∈nL i,∃e∈o.after,Region.binds .any e=true/\e.on=j
 back:∀(i:Nat) (o:Oper),ops[i]?=some o→∀e∈o.after,Region.binds .any e=true->e.on∈nL i
 lt:∀i,i<ops.size→∀j∈nL i,j<i
 N5:∀i,i<ops.size→∀j∈bs i,j∈nL i∨∃e∈nL i,j∈bs e
 Za:∀i,i<ops.size->mR Γ (f i) (E i) (S i) (R i) (E (i+1)) (S (i+1))
 low:∀i,i<ops.size→∀d,(f i).dst=some d→∀x∈(R i).v.ids,x<(S (i+1)).length
 Bk:∀i j,i<ops.size->j<i->j∈bs i\/(NC (f j) (f i)=false/\
  (∀x∈(f i).k.reach (E i) (S i),¬((f j).k.turns Γ=true/\x∈(f j).k.reach (E j) (S j))∧¬((S j).length<=x/\x<(S (j+1)).length))/\
  (∀x∈(f j).k.reach (E j) (S j),¬((f i).k.turns Γ=true/\x∈(f i).k.reach (E i) (S i))∧¬((S i).length<=x/\x<(S (i+1)).length))/\
  ∀d,(f i).dst=some d→∀x∈(R i).v.ids,¬((S j).length<=x/\x<(S (j+1)).length))
section dyn
variable {f:Nat->PO} {nL bs:Nat->List Nat} {E:Nat->Env} {S:Nat->aF} {R:Nat->Rc}
def FR.aAp(hD:FR Γ ops f nL bs E S R){i:Nat}(hi:i<ops.size):(S (i+1)).length=(S i).length+(R i).ps.length:=by
 rw[(hD.Za i hi).hs,zad,pM]
def FR.aex(hD:FR Γ ops f nL bs E S R){i:Nat}:∀k,i+k<=ops.size->(S i).length<=(S (i+k)).length:=by
 intro k
 induction k with
 |zero=>intro _;exact zai _
 |succ k ih=>
  intro h;have:=hD.aAp (i:=i+k) ab;have:=ih ab;show _<=(S (i+k+1)).length;omega
def FR.M(_:FR Γ ops f nL bs E S R)(i x:Nat):Prop:=((f i).k.turns Γ=true/\x∈(f i).k.reach (E i) (S i))\/((S i).length<=x/\x<(S (i+1)).length)
def FR.aeu(hD:FR Γ ops f nL bs E S R)(t:Nat){m:Nat}:∀k,m+k<=ops.size->(∀p,m<=p->p<m+k->(f p).dst≠some t)->aE t (E (m+k))=aE t (E m):=by
 intro k
 induction k with
 |zero=>intro _ _;rfl
 |succ k ih=>
  intro h hp;show aE t (E (m+k+1))=_;rw[(hD.Za (m+k) ab).he];have h1:=hp (m+k) ab ab;rw[<-ih ab λp h2 h3=>hp p h2 ab];cases hd:(f (m+k)).dst with
  |none=>rfl
  |some d=>
   rw[kq,VI (λe=>h1 (by rw[hd,e]))];rfl
def FR.auG(hD:FR Γ ops f nL bs E S R){i j:Nat}(hi:i<ops.size)(hj:¬hD.M i j):((S (i+1))[j]?).getD .dead=((S i)[j]?).getD .dead:=by
 have hl:=hD.aAp hi;unfold FR.M at hj;rw[(hD.Za i hi).hs];by_cases h:j<(S i).length
 ·rw[zar (by rw[pM];exact h),Ew];intro u hu e;obtain⟨h1,h2,_⟩:=(hD.Za i hi).hu u hu;exact hj (.inl ⟨h1,e▸h2⟩)
 ·rw[zaK (by rw[zad,pM];omega),zaK ab]
def FR.aer(hD:FR Γ ops f nL bs E S R)(j:Nat){m:Nat}:∀k,m+k<=ops.size->(∀p,m<=p->p<m+k→¬hD.M p j)->((S (m+k))[j]?).getD .dead=((S m)[j]?).getD .dead:=by
 intro k
 induction k with
 |zero=>intro _ _;rfl
 |succ k ih=>
  intro h hp;rw[<-ih ab λp h2 h3=>hp p h2 ab];exact hD.auG (i:=m+k) ab (hp _ ab ab)
structure oz(hD:FR Γ ops f nL bs E S R)(l:Nat->Bool)(env:Env)(σ:aF):Prop where
 len:σ.length=(S ops.size).length
 slot:∀t m,m<=ops.size->(∀p,p<ops.size->(f p).dst=some t->(p<m↔l p=true))->aE t env=aE t (E m)
 qe:∀j m,j<(S ops.size).length->m<=ops.size->(∀p,p<ops.size->hD.M p j->(p<m↔l p=true))->σ[j]?=some (((S m)[j]?).getD .dead)
 mf:∀t,(aE t env).Nm λx=>x<(S ops.size).length∧∀p,p<ops.size->l p=false→¬((S p).length<=x/\x<(S (p+1)).length)
 nk:∀b∈σ,b.Nm λx=>x<(S ops.size).length∧∀p,p<ops.size->l p=false→¬((S p).length<=x/\x<(S (p+1)).length)
def oz.step{hD:FR Γ ops f nL bs E S R}{l l':Nat->Bool}(h:oz hD l env σ){i:Nat}(hi:i<ops.size)(hli:l i=false)(aha:∀j∈bs i,l j=true)(mE:∀p,p<ops.size->l p=true→∀j∈bs p,l j=true)
 (pj:l' i=true) (LA:∀p,p≠i->l' p=l p) (adI:∀j,j<cx.Le.length\/j<cx.acm.length->j<(S 0).length) (mX:∀x v,cx.gh x v->x.Nm λi=>i<(S 0).length):
 (∀t∈(f i).reads,aE t env=aE t (E i))/\Sub (· ∈(f i).k.reach (E i) (S i)) (S i) σ/\
 ∀vals a w,Rel cx (put (f i).dst (Yu (R i).sh (S i).length σ.length (R i).v) env) (CN (R i).us σ++(R i).ps) vals a w→∃aal σ' aO,Rel cx aal σ' aO a w/\oz hD l' aal σ':=by
 have fM:=hD.Za i hi;have aoz:=hD.aAp hi;have mY:(S (i+1)).length<=(S ops.size).length:=by have:=hD.aex (i:=i+1) (ops.size-(i+1)) ab;rwa[show i+1+(ops.size-(i+1))=ops.size by omega]at this
 have oB:(S 0).length<=(S i).length:=by have:=hD.aex (i:=0) i ab;rwa[zaV]at this
 have later:∀p,p<ops.size->i<p->l p=true->i∉bs p:=λp hp _ bz hb=>by have:=mE p hp bz i hb;rw[hli]at this;cases this
 have reads:∀t∈(f i).reads,aE t env=aE t (E i):=by
  intro t ht;refine h.slot t i (Nat.le_of_lt hi) λp hp hd=>⟨λaU=>?_,λbz=>?_⟩
  ·rcases hD.Bk i p hi aU with hb|⟨hc,_⟩
   ·exact aha p hb
   ·exact absurd ht ((BS hc).1 t hd).1
  ·rcases zbE p i with h1|h1|h1
   ·exact h1
   ·subst h1;rw[hli]at bz;cases bz
   ·rcases hD.Bk p i hp h1 with hb|⟨hc,_⟩
    ·exact absurd hb (later p hp h1 bz)
    ·exact absurd ht ((BS hc).2 t hd)
 have aGL:∀j∈(f i).k.reach (E i) (S i),j<(S ops.size).length->σ[j]?=some (((S i)[j]?).getD .dead):=by
  intro j hj vZ;refine h.qe j i vZ (Nat.le_of_lt hi) λp hp hM=>⟨λaU=>?_,λbz=>?_⟩
  ·rcases hD.Bk i p hi aU with hb|⟨_,hc,_⟩
   ·exact aha p hb
   ·exact absurd hM ahV
  ·rcases zbE p i with h1|h1|h1
   ·exact h1
   ·subst h1;rw[hli]at bz;cases bz
   ·rcases hD.Bk p i hp h1 with hb|⟨_,_,hc,_⟩
    ·exact absurd hb (later p hp h1 bz)
    ·exact absurd hM ahV
 have sub:Sub (· ∈(f i).k.reach (E i) (S i)) (S i) σ:=by
  intro j b hj hb;have aU:=(zaa.1 hb).1;rw[aGL j hj ab,hb];rfl
 refine⟨reads,sub,λvals a w hr=>?_⟩;rw[h.len]at hr;have keep:∀x,(x<(S ops.size).length∧∀p,p<ops.size->l p=false→¬((S p).length<=x/\x<(S (p+1)).length))->x<(S ops.size).length∧¬((S i).length<=x/\x<(S i).length+(R i).ps.length):=λx hx=>⟨hx.1,by rw[<-aoz];exact hx.2 i hi hli⟩
 have aDd:=fM.tA (λx=>x<(S ops.size).length∧∀p,p<ops.size->l p=false→¬((S p).length<=x/\x<(S (p+1)).length)) (λt ht=>by rw[<-reads t ht];exact h.mf t) (λj b hj hb=>h.nk b (zag (sub j b hj hb)));have aDe:=azY (R i).us σ aDd.1 h.nk;have aKj:∀t,Ren (Fb (S ops.size).length (S i).length (R i).ps.length) (aE t (put (f i).dst (Yu (R i).sh (S i).length (S ops.size).length (R i).v) env)) (aE t (put (f i).dst (R i).v env)):=by
  have abZ:∀x,(x<(S ops.size).length∧∀p,p<ops.size->l p=false→¬((S p).length<=x/\x<(S (p+1)).length))->(Fb (S ops.size).length (S i).length (R i).ps.length)[x]?=some x:=by
   intro x hx;have hx:=keep x hx;rw[AK hx.1];by_cases h1:x<(S i).length
   ·rw[if_pos h1]
   ·rw[if_neg h1,if_neg ab]
  intro t;cases hd:(f i).dst with
  |none=>exact Kf _ (kV abZ _ (h.mf t))
  |some d=>
   rw[kq,kq];cases XH:Nat.beq d t with
   |false=>exact Kf _ (kV abZ _ (h.mf t))
   |true=>
    show Ren _ (Yu _ _ _ _) _;have aGM:=hD.low i hi d hd;cases yB:(R i).sh with
    |true=>
     refine anC _ ((YL _).2 λx hx=>?_);have hx:=aGM x hx;rw[AK ab];unfold lU;by_cases h1:x<(S i).length
     ·rw[if_pos h1,if_pos h1]
     ·rw[if_neg h1,if_neg h1,if_pos ab,Nat.add_comm]
    |false=>
     have fp:=fM.yB yB;refine Kf _ ((YL _).2 λx hx=>?_);have hx:=aGM x hx;rw[aoz,fp]at hx;simp only[zaY,zaM]at hx;rw[AK ab,if_pos hx]
 obtain⟨aO,ic⟩:=aE7 (σ:=CN (R i).us σ) (N:=(S ops.size).length) (b:=(S i).length) hr (by rw[pM,h.len]) ab (λj hj=>by have:=adI j hj;omega) aKj
  (λs hs=>dC.kV keep _ (aDe s hs)) (λs hs=>dC.kV keep _ (aDd.2 s hs)) (λx v hq=>kV (λy hy=>⟨ab,ab⟩) _ (mX x v hq))
 refine⟨_,_,aO,ic,?_⟩;have Vr:(CN (R i).us σ).length=(S ops.size).length:=by rw[pM,h.len]
 have avG:∀x,(x<(S ops.size).length∧∀p,p<ops.size->l p=false→¬((S p).length<=x/\x<(S (p+1)).length))->x<(S ops.size).length∧∀p,p<ops.size->l' p=false→¬((S p).length<=x/\x<(S (p+1)).length):=by
  intro x hx;refine⟨hx.1,λp hp bz=>hx.2 p hp ?_⟩;by_cases oM:p=i
  ·subst oM;rw[pj]at bz;cases bz
  ·rw[<-LA p oM];exact bz
 have ays:∀j,(S i).length<=j->j<(S (i+1)).length->((CN (R i).us σ).take (S i).length++(R i).ps++(CN (R i).us σ).drop ((S i).length+(R i).ps.length))[j]?=(R i).ps[j-(S i).length]?:=by
  intro j h1 h2;rw[zar aH,zak aH];congr 1;simp;omega
 have aoD:∀j,¬((S i).length<=j/\j<(S (i+1)).length)->((CN (R i).us σ).take (S i).length++(R i).ps++(CN (R i).us σ).drop ((S i).length+(R i).ps.length))[j]?=(CN (R i).us σ)[j]?:=by
  intro j h1;by_cases h2:j<(S i).length
  ·rw[zar aH,zar aH,zaI,if_pos h2]
  ·rw[zak aH,zaB];congr 1;simp;omega
 refine⟨aH,λt m hm hc=>?_,λj m hj hm hc=>?_,λt=>?_,λb hb=>?_⟩
 ·by_cases hd:(f i).dst=some t
  ·have Ra:i<m:=(hc i hi hd).2 pj;have e1:aE t (E m)=aE t (E (i+1)):=by
    have:=hD.aeu t (m:=i+1) (m-(i+1)) ab λp h1 h2 Kb=>?_
    ·rwa[show i+1+(m-(i+1))=m by omega]at this
    ·have hp:p<ops.size:=by omega
     have bz:l p=true:=by rw[<-LA p ab];exact(hc p hp Kb).1 ab
     rcases hD.Bk p i hp ab with hb|⟨aKl,_⟩
     ·exact later p hp ab bz hb
     ·exact((BS aKl).1 t hd).2 Kb
   rw[e1,fM.he,hd,kq,kq];have:Nat.beq t t=true:=zbR t;rw[this];rfl
  ·have e1:aE t (put (f i).dst (R i).v env)=aE t env:=by
    cases G3:(f i).dst with
    |none=>rfl
    |some d=>rw[kq,VI (λe=>hd (by rw[G3,e]))];rfl
   rw[e1];refine h.slot t m hm λp hp Kb=>?_
   rw[hc p hp Kb,LA p (λe=>hd (e▸Kb))]
 ·by_cases hM:hD.M i j
  ·have Ra:i<m:=(hc i hi hM).2 pj;have e1:((S m)[j]?).getD .dead=((S (i+1))[j]?).getD .dead:=by
    have:=hD.aer j (m:=i+1) (m-(i+1)) ab λp h1 h2 jC=>?_
    ·rwa[show i+1+(m-(i+1))=m by omega]at this
    ·have hp:p<ops.size:=by omega
     have bz:l p=true:=by rw[<-LA p ab];exact(hc p hp jC).1 ab
     have Rf:(S (i+1)).length<=(S p).length:=by have:=hD.aex (i:=i+1) (p-(i+1)) ab;rwa[show i+1+(p-(i+1))=p by omega]at this
     rcases hD.Bk p i hp ab with hb|⟨_,c1,c2,_⟩
     ·exact later p hp ab bz hb
     ·unfold FR.M at hM jC;rcases hM with hM|hM
      ·rcases jC with jC|jC
       ·exact(c2 j hM.2).1 jC
       ·exact(c2 j hM.2).2 jC
      ·rcases jC with jC|jC
       ·exact(c1 j jC.2).2 hM
       ·omega
   rw[e1];by_cases zG:(S i).length<=j/\j<(S (i+1)).length
   ·rw[ays j zG.1 zG.2,fM.hs,zak (by rw[pM];omega),pM,zah ab];rfl
   ·rw[aoD j zG];have v8:j∈(f i).k.reach (E i) (S i):=by
     unfold FR.M at hM;rcases hM with hM|hM
     ·exact hM.2
     ·exact absurd hM zG
    have h0:=aGL j v8 hj;by_cases aU:j<(S i).length
    ·have h1:(CN (R i).us σ)[j]?=(CN (R i).us (S i))[j]?:=anz _ _ _ _ (by rw[h0,zah aU];rfl);rw[h1,fM.hs,zar (by rw[pM];exact aU),zah (by rw[pM];exact aU)];rfl
    ·rw[Ew _ _ _ λu hu e=>by have:=(fM.hu u hu).2.2;omega,h0,zaK ab,zaK ab]
  ·have zG:¬((S i).length<=j/\j<(S (i+1)).length):=λh=>hM (.inr h)
   rw[aoD j zG,Ew _ _ _ λu hu e=>hM (.inl ⟨(fM.hu u hu).1,by rw[<-e];exact(fM.hu u hu).2.1⟩)];refine h.qe j m hj hm λp hp jC=>?_
   rw[hc p hp jC,LA p (λe=>hM (e▸jC))]
 ·cases hd:(f i).dst with
  |none=>exact kV avG _ (h.mf t)
  |some d=>
   rw[kq];cases XH:Nat.beq d t with
   |false=>exact kV avG _ (h.mf t)
   |true=>
    show(R i).v.Nm _;refine(YL _).2 λx hx=>?_
    have aOz:=hD.low i hi d hd x hx;refine⟨ab,λp hp bz Hg=>?_⟩;rcases zbE p i with h1|h1|h1
    ·rcases hD.Bk i p hi h1 with hb|⟨_,_,_,c3⟩
     ·have:=aha p hb;rw[LA p ab,this]at bz;cases bz
     ·exact c3 d hd x hx Hg
    ·subst h1;rw[pj]at bz;cases bz
    ·have Rf:(S (i+1)).length<=(S p).length:=by have:=hD.aex (i:=i+1) (p-(i+1)) ab;rwa[show i+1+(p-(i+1))=p by omega]at this
     omega
 ·rcases zaA.1 hb with hb|hb
  ·rcases zaA.1 hb with hb|hb
   ·exact dC.kV avG _ (aDe b (zaL hb))
   ·exact dC.kV avG _ (aDd.2 b hb)
  ·exact dC.kV avG _ (aDe b (zbw hb))
def aqq(hΓ:Sound cx.P Γ){dr:Bool}(hc:Ux cx.P dr ops n f)(hD:FR Γ ops f nL bs E S R){K:Env->aF->Prop}(hK:BP K)(wa:K (E ops.size) (S ops.size))(adI:∀j,j<cx.Le.length\/j<cx.acm.length->j<(S 0).length)(mX:∀x v,cx.gh x v->x.Nm λi=>i<(S 0).length)
 {Q:Exit->Act->World->Prop} {F:Fence} {m:Nat} (hF:aaf F) (hw:∀i,i<ops.size→∀d,(f i).dst=some d->cx.lo<=d)
 (hQ:∀aal σ' aO a' w',a'.tmps.size=n->Rel cx aal σ' aO a' w'->K aal σ'->Q .normal a' w'):
 ∀(fuel:Nat) (aZ:Array Bool) (env:Env) (σ:aF) (vals:List Value) (a:Act) (w:World),aZ.size=ops.size->(left ops.size aZ).length<=fuel->
  (∀i,i<ops.size->aZ.getD i false=true→∀j∈bs i,aZ.getD j false=true)->
  a.tmps.size=n->Rel cx env σ vals a w->oz hD (λp=>aZ.getD p false) env σ->wpAnyIn F m cx.P .any ops Q fuel aZ a w:=by
 have empty:∀(aZ:Array Bool),aZ.size=ops.size->Region.ready .any ops aZ=[]->left ops.size aZ=[]:=by
  intro aZ hs hr;apply Decidable.byContradiction;intro dI;obtain⟨i,hi,aC9⟩:∃i,i∈left ops.size aZ∧∀j,j<i->j∉left ops.size aZ:=by
   have hex:∃i,i∈left ops.size aZ:=by
    cases hl:left ops.size aZ with
    |nil=>exact absurd hl dI
    |cons x xs=>exact⟨x,aj⟩
   obtain⟨i,hi⟩:=hex
   induction i using Nat.strongRecOn with
   |_ i ih=>
    by_cases h:∃j,j<i/\j∈left ops.size aZ
    ·obtain⟨j,hj,hm⟩:=h;exact ih j hj hm
    ·exact⟨i,hi,λj hj hm=>h ⟨j,hj,hm⟩⟩
  obtain⟨h1,h2⟩:=zbn.1 hi;have h1:=zbm.1 h1;have abY:i∈Region.ready .any ops aZ:=by
   refine mem_ready.2 ⟨iT,ops[i],zaG h1,λe he hb=>?_⟩;have hj:=hD.back i _ (zaG h1) e he hb;have aU:=hD.lt i h1 _ hj;have:=aC9 _ aU;cases hg:aZ.getD e.on true with
   |false=>exact absurd (zbn.2 ⟨zbm.2 ab,Z4⟩) this
   |true=>
    rw[zbl]at hg ⊢;rw[zaG ab]at hg ⊢;exact hg
  rw[hr]at abY;cases abY
 have fin:∀(aZ:Array Bool) (env:Env) (σ:aF) (vals:List Value) (a:Act) (w:World),aZ.size=ops.size->left ops.size aZ=[]->a.tmps.size=n->Rel cx env σ vals a w->oz hD (λp=>aZ.getD p false) env σ->Q .normal a w:=by
  intro aZ env σ vals a w hs Nv hn hr hI;have all:∀p,p<ops.size->aZ.getD p false=true:=by
   intro p hp;cases hg:aZ.getD p true with
   |false=>
    have:p∈left ops.size aZ:=zbn.2 ⟨zbm.2 hp,Z4⟩;rw[Nv]at this;cases this
   |true=>
    rw[zbl]at hg ⊢;rw[zaG ab]at hg ⊢;exact hg
  have hσ:σ=S ops.size:=by
   refine zba λj=>?_
   by_cases hj:j<(S ops.size).length
   ·rw[hI.qe j ops.size hj (zai _) λp hp _=>⟨λ_=>all p hp,λ_=>hp⟩,zah hj];rfl
   ·rw[zaK (by rw[hI.len];omega),zaK ab]
  refine hQ _ _ _ _ _ hn hr ?_;rw[hσ,hK (E ops.size) env _ λt=>hI.slot t ops.size (zai _) λp hp _=>⟨λ_=>all p hp,λ_=>hp⟩];exact wa
 intro fuel
 induction fuel with
 |zero=>
  intro aZ env σ vals a w hs hl mE hn hr hI;have Nv:left ops.size aZ=[]:=zaf ab;refine⟨?_,?_⟩
  ·cases rT:Region.ready .any ops aZ with
   |nil=>rfl
   |cons i is=>
    exfalso;have hi:i∈Region.ready .any ops aZ:=by rw[rT];simp
    obtain⟨h1,o,h2,_⟩:=mem_ready.1 hi;have:i∈left ops.size aZ:=zbn.2 ⟨zbm.2 (zap.1 h2).1,by simp only[h1,zbL]⟩;rw[Nv]at this;cases this
  ·exact fin aZ env σ vals a w hs Nv hn hr hI
 |succ fuel ih=>
  intro aZ env σ vals a w hs hl mE hn hr hI;refine⟨λh0=>fin aZ env σ vals a w hs (empty aZ hs h0) hn hr hI,λi hi=>?_⟩;obtain⟨pd,o,ho,nK⟩:=mem_ready.1 hi;have aU:i<ops.size:=(zap.1 ho).1;obtain⟨l1,l2,e1,e2,_⟩:=aiE hs aU pd;have avD:∀j∈nL i,aZ.getD j false=true:=by
   intro j hj;obtain⟨e,he,hb,rfl⟩:=hD.az5 i o ho j hj;exact nK e he hb
  have aha:∀j∈bs i,aZ.getD j false=true:=by
   intro j hj;rcases hD.N5 i aU j hj with h|⟨e,he,h⟩
   ·exact avD j h
   ·exact mE e (Nat.lt_trans (hD.lt i aU e he) aU) (avD e he) j h
  have hli:aZ.getD i false=false:=by
   rw[zbl]at pd ⊢;rw[zaG ab]at pd ⊢;exact pd
  obtain⟨g1,g2,g3⟩:=hI.step (cx:=cx) (l':=λp=>(aZ.setIfInBounds i true).getD p false) aU hli aha mE (by
   show(aZ.setIfInBounds i true).getD i false=true;rw[zbl,zby ab];rfl) (λp hp=>getD_set_ne false (λe=>hp e.symm)) adI mX
  refine afj hΓ hc aU hn hr hF (hw i aU) (K:=λaal σ'=>aal=put (f i).dst (Yu (R i).sh (S i).length σ.length (R i).v) env/\σ'=CN (R i).us σ++(R i).ps) (λaal σ' aO a' w' ba ic gR=>?_) ((hD.Za i aU).run env σ _ g1 g2 ⟨rfl,rfl⟩);obtain⟨rfl,rfl⟩:=gR;obtain⟨ahb,σ2,lh,CW,iC⟩:=g3 _ _ _ ic;refine ih _ ahb σ2 lh a' w' (by simpa using hs) ?_ ?_ ba CW iC
  ·rw[e2];rw[e1]at hl;simp at hl ⊢;omega
  ·intro k hk HJ j hj;by_cases gP:i=k
   ·subst gP;exact getD_set_true (aha j hj)
   ·rw[getD_set_ne false gP]at HJ;exact getD_set_true (mE k hk HJ j hj)
end dyn
end
end
end Go.Dv
namespace Go.Dv
open Go Go.RowKit
structure Iw(b:Nat)(r:Loop)(W:World):Prop where
 l:W.heap[b+1]?=some (.loop r)
 d:W.heap[b]?=some (.deferred (some []))
def Iw.keeps{b:Nat}{r:Loop}{W W':World}(h:Iw b r W)(k:KeepsFrom b W W'):Iw b r W':=
 ⟨k.same _ _ (Nat.le_succ _) h.l rfl,k.same _ _ (zai _) h.d rfl⟩
def Iw.put{b:Nat}{r:Loop}{W:World}(h:Iw b r W)(r':Loop):Iw b r' (W.putObj (b+1) (.loop r')):=
 ⟨World.putObj_heap_same (zap.1 h.l).1,(World.putObj_heap_other ab).trans h.d⟩
def Iw.grown{b:Nat}{r:Loop}{W W':World}{row:Option Nat}(h:Iw b r W)(hg:W.grownBy W' row)(hr:∀k,row=some k→∃o:Obj,W.heap[k]?=some o/\o.isWalk=true):Iw b r W':=
 ⟨(grownBy_keeps hg hr h.l rfl).trans h.l,(grownBy_keeps hg hr h.d rfl).trans h.d⟩
def UM{n:Nat}{P:Program}{α:Type}{g:Operand}{ps:Array Tmp}{assign body:Code}{Q:Exit->Act->World->Prop}{a:Act}{w:World}
 (h1:1<=n) {gf:Nat} {lb:Array Value} (hg:a.eval g=.func (.func gf) #[] lb) (eg:∀args w,(callFunc gf args).run P w=.ok (.enter gf args) w)
 {jN:Nat->Prop} {PM:α->Array Value} {Nx:List α->α->Prop} {S Sp:List α->Prop} (aKo:aen jN (n-1) P gf lb PM Nx S Sp w) (fp:∀x,(PM x).size=ps.size)
 (I:List α->(Nat->Prop)->World->Prop) (Ix:Code->List α->World->Prop) (hI:∀X,OwnFrom w.heap.size λpre=>I pre X) (hIx:∀c,OwnFrom w.heap.size (Ix c)) (hIX:∀pre X W,I pre X W→∀b,X b->b<W.heap.size)
 {X0:Nat->Prop} (hX0:∀b,jN b→¬X0 b) (h0:I [] X0 w)
 (M:List α->(Nat->Prop)->α->Act->World->Prop) (hM:∀pre X x a' W l r r',w.heap.size<=l->W.heap[l]?=some (.loop r)->M pre X x a' W->M pre X x a' (W.putObj l (.loop r')))
 (ach:∀(l:Nat) (pre:List α) (X:Nat->Prop) (x:α) (W:World),I pre X W->Nx pre x->assign.wpIn (Fence.wide.inRound l) (n-1-1) P (Exit.then (λa' W'=>KeepsFrom w.heap.size W W'∧∃X',U6 w.heap.size X X' W W'/\M pre X' x a' W') (λ_ _ _=>False)) { tmps:=(ps.zip (PM x)).foldl (λt (p,v)=>t.setIfInBounds p v) a.tmps,defers:=[] } W)
 (ab0:∀(l:Nat) (pre:List α) (X:Nat->Prop) (x:α) (a':Act) (W:World),M pre X x a' W->body.wpIn (Fence.wide.inRound l) (n-1-1) P (λe _ W'=>KeepsFrom w.heap.size W W'/\match e with
   | .normal=>∃X',U6 w.heap.size X X' W W'/\I (pre++[x]) X' W'
   | .ret=>Ix .ret (pre++[x]) W'
   | .exit id=>Ix (.exit id) (pre++[x]) W'
   | .goto t=>Ix (.goto t) (pre++[x]) W'
   |_=>False) a' W)
 (aGP:∀(D:Nat) (xs:List α) (X:Nat->Prop) (W:World),w.heap.size<=D->S xs->I xs X W->W.heap[D]?=some (.deferred (some []))->Q .normal { a with defers:={ target:=.collected D,args:= #[] }::a.defers } W)
 (agk:∀(D:Nat) (c:Code) (pre:List α) (W:World),w.heap.size<=D->Sp pre->Ix c pre W->W.heap[D]?=some (.deferred (some []))->c.wpIn Fence.wide n P Q { a with defers:={ target:=.collected D,args:= #[] }::a.defers } W):
 (Code.rangeFunc g ps assign body).wpIn Fence.wide n P Q a w:=by
 refine wpIn_rangeFunc λfn sD=>?_
 rw[show Fence.wide.round=none from rfl];obtain⟨rec,XO⟩:∃rec:Loop,rec={ state:=.ready,pending:=none,fn,tmps:=a.tmps,params:=ps,assign,body,defers:=w.heap.size }:=⟨_,rfl⟩
 have fM:rec.state=.ready:=by rw[XO]
 have cL:=run_enterLoop_outer (P:=P) (w:=w) fn a.tmps ps assign body;rw[<-XO]at cL;obtain⟨W1,yq⟩:∃W1,(w.alloc (.deferred (some []))).alloc (.loop rec)=W1:=⟨_,rfl⟩
 have J9:Iw w.heap.size rec W1:=by
  rw[<-yq];refine⟨?_,(Below.heap_alloc _ _ _ aj).trans (World.alloc_heap_new w _)⟩;have:=World.alloc_heap_new (w.alloc (.deferred (some []))) (.loop rec);rwa[World.size_alloc]at this
 have mD:w.heap.size<=W1.heap.size:=by rw[<-yq];simp;omega
 have xi:I [] X0 W1:=by rw[<-yq];exact(hI X0).alloc _ ((hI X0).alloc _ h0)
 have G1:Below w.heap.size w W1:=by
  rw[<-yq];exact((Below.refl _ w).alloc (zai _) _).alloc aj _
 rw[yq]at cL;have zl:(resolve a.eval (rangeCall g (w.heap.size+1)) 0).run P W1=.ok { target:=.fn (.func gf) lb,args:= #[.func (.yield (w.heap.size+1)) #[] #[]] } W1:=by
  simp only[resolve,hg];simp[go_sem]
 refine⟨_,_,W1,_,W1,gf,#[.func (.yield (w.heap.size+1)) #[] #[]]++lb,W1,cL,zl,λf' D0=>?_,by simp[invoke,go_sem,eg],λ_=>h1,?_⟩
 ·trivial
 have nw:∀{A:World} {row:Option Nat},(∀r,row=some r->W1.heap.size<=r∧∃o:Obj,A.heap[r]?=some o/\o.isWalk=true)→∀r,row=some r->w.heap.size<=r∧∃o:Obj,A.heap[r]?=some o/\o.isCells=false:=
  λhr r e=>by obtain⟨hB,o,ho,hw⟩:=hr r e;exact⟨ab,o,ho,Obj.not_cells_of_walk hw⟩
 refine(aKo (w.heap.size+1) (λpre X W=>I pre X W/\Iw w.heap.size rec W) (λpre W=>∃c,Ix c pre W/\Iw w.heap.size { rec with state:=.done,pending:=some c } W) W1 G1
  (λX s A B row hs jA hr=>⟨hI X s A B row hs.1 jA (nw hr),hs.2.grown jA λk e=>(hr k e).2⟩)
  (λs A B row ⟨c,hc,hk⟩ jA hr=>⟨c,hIx c s A B row hc jA (nw hr),hk.grown jA λk e=>(hr k e).2⟩) (λpre X W1 h=>hIX pre X W1 h.1) ?_ X0 hX0 ⟨xi,J9⟩).mono ?_
 ·rintro pre x X W ⟨hi,Ue⟩ hlen;have hy:=run_yield (P:=P) (args:=PM x) Ue.l (by rw[XO];exact fp x);have ht:rec.tmps=a.tmps/\rec.params=ps/\rec.assign=assign/\rec.body=body/\rec.fn=fn:=by rw[XO];simp
  obtain⟨e1,e2,e3,e4,e5⟩:=ht;rw[e1,e2,e3,e4,e5]at hy;refine⟨fn,_,assign,body,hy,roundIn_of_wpIn sD (wpIn_mono (ach _ pre X x W hi hlen) ?_)⟩;intro e a' W' hp;cases e with
  |normal=>
   obtain⟨k1,X1,k2,hm⟩:=hp;have Cs:=Ue.keeps k1;refine⟨_,run_beginRound Cs.l fM,?_⟩;have t_:=Cs.put { rec with state:=.busy };have kp2:U6 w.heap.size X1 X1 W' (W'.putObj (w.heap.size+1) (.loop { rec with state:=.busy })):=U6.put _ ab Cs.l rfl;refine wpIn_mono (ab0 _ pre X1 x a' _ (hM _ _ _ _ _ _ _ _ ab Cs.l hm)) ?_;intro e a3 W3 hp;have stop:∀c:Code,KeepsFrom w.heap.size (W'.putObj (w.heap.size+1) (.loop { rec with state:=.busy })) W3->Ix c (pre++[x]) W3->
    (Instr.endRound (w.heap.size+1) (some c)).run P W3=.ok (.bool false) (W3.putObj (w.heap.size+1) (.loop { rec with state:=.done,pending:=some c }))/\
    ∃c',Ix c' (pre++[x]) (W3.putObj (w.heap.size+1) (.loop { rec with state:=.done,pending:=some c }))/\Iw w.heap.size { rec with state:=.done,pending:=some c' } (W3.putObj (w.heap.size+1) (.loop { rec with state:=.done,pending:=some c })):=by
    intro c k3 hx;have rv:=t_.keeps k3;have hr:=run_endRound (P:=P) (some c) rv.l;exact⟨hr,c,(hIx c).putObj _ hx ab rv.l rfl,rv.put _⟩
   cases e with
   |normal=>
    obtain⟨k3,X3,kp3,hi3⟩:=hp;have rv:=t_.keeps k3;have rT:=run_endRound (P:=P) none rv.l;have hre:({ rec with state:=.ready,pending:=none }:Loop)=rec:=by rw[XO]
    have rT:(Instr.endRound (w.heap.size+1) none).run P W3=.ok (.bool true) (W3.putObj (w.heap.size+1) (.loop rec)):=by
     rw[rT];simp only[Option.isNone_none,if_true];rw[show({ rec with state:=LoopState.ready,pending:=none }:Loop)=rec from hre]
    exact⟨_,_,rT,.inl ⟨rfl,X3,⟨(hI X3).putObj _ hi3 ab rv.l rfl,rv.put rec⟩,k2.trans ((kp2.trans kp3).trans (U6.put _ ab rv.l rfl))⟩⟩
   |ret=>obtain⟨r1,r2⟩:=stop .ret hp.1 hp.2;exact⟨_,_,r1,.inr ⟨rfl,r2⟩⟩
   |exit id=>obtain⟨r1,r2⟩:=stop (.exit id) hp.1 hp.2;exact⟨_,_,r1,.inr ⟨rfl,r2⟩⟩
   |goto t=>obtain⟨r1,r2⟩:=stop (.goto t) hp.1 hp.2;exact⟨_,_,r1,.inr ⟨rfl,r2⟩⟩
   |panic ch=>exact hp.2.elim
   |outgrown=>exact hp.2.elim
  |_=>exact hp.elim
 ·rintro e W2 ⟨⟨v,rfl⟩,(⟨xs,X,hS,hi,hk⟩|⟨pre,pn,c,hi,hk⟩)⟩
  ·have hp:rec.pending=none:=by rw[XO]
   have:=run_endLoop (P:=P) hk.l (by rw[fM];simp);rw[hp]at this;exact⟨none,_,this,aGP _ xs X _ (zai _) hS ((hI X).putObj _ hi ab hk.l rfl) (hk.put _).d⟩
  ·exact⟨some c,_,run_endLoop (P:=P) hk.l aj,agk _ c pre _ (zai _) pn ((hIx c).putObj _ hi ab hk.l rfl) (hk.put _).d⟩
end Go.Dv
namespace Go.Dv
open Go.RowKit
section
def XQ(env:Env)(ps:List Nat):∀(K:Env->Prop),canon env ps K=K (ps.map λp=>(p,aE p env)):=by
 induction ps with
 |nil=>intro K;rfl
 |cons p ps ih=>
  intro K;show look p (λv=>canon env ps λr=>K ((p,v)::r)) env=_;rw[look_eq,ih];rfl
def BC{env aal:Env}(h:∀p,aE p aal=aE p env)(ps:List Nat)(K:Env->Prop):canon aal ps K=canon env ps K:=by
 rw[XQ,XQ]
 grind
def ana{pin:List Nat}{env aal:Env}(h:∀p,aE p aal=aE p env)(σ:aF)(ps:List Nat)(K:Env->aF->Prop):gc pin aal σ ps K=gc pin env σ ps K:=BC h ps _
def S_{B:Env->aF->Prop}{Q:Ex->Env->aF->Prop}(hB:BP B)(hQ:∀e,BP (Q e)):∀e,BP (axs B Q e)
 | .normal=>hB
 | .exit i=>hQ (.exit i)
 | .ret=>hQ .ret
def UX{id:Nat}{Q:Ex->Env->aF->Prop}(hQ:∀e,BP (Q e)):∀e,BP (alD id Q e)
 | .normal=>hQ .normal
 | .ret=>hQ .ret
 | .exit i=>by
  intro env aal σ h;show(match Nat.beq i id with|true=>Q .normal aal σ|false=>Q (.exit i) aal σ)=(match Nat.beq i id with|true=>Q .normal env σ|false=>Q (.exit i) env σ)
  cases Nat.beq i id with
  |true=>exact hQ .normal _ _ _ h
  |false=>exact hQ (.exit i) _ _ _ h
def asK{env aal:Env}(h:∀p,aE p aal=aE p env)(o:Operand):bK aal o=bK env o:=aM λt _=>h t
def awz(Γ:Ctx)(pin ps:List Nat):∀(c:PC) (Q:Ex->Env->aF->Prop),(∀e,BP (Q e))->BP (vc Γ pin ps c Q):=by
 intro c
 induction c with
 |skip=>intro Q hQ;exact hQ .normal
 |region ops=>intro Q _ env aal σ h;exact BC h ps _
 |draw ops nL=>
  intro Q _ env aal σ h;show(Tt Γ ops nL=true/\canon aal ps _)=(Tt Γ ops nL=true/\canon env ps _)
  rw[BC h]
 |drawD ops nL=>
  intro Q _ env aal σ h;show(aei Γ ops nL=true/\canon aal ps _)=(aei Γ ops nL=true/\canon env ps _)
  rw[BC h]
 |seq a b Rq Rz=>intro Q hQ;exact Rq _ (S_ (Rz Q hQ) hQ)
 |cond c t e wc wh=>
  intro Q hQ env aal σ h;show ev aal c _=ev env c _;rw[bg,bg,asK h];cases bK env c with
  |pv x=>cases x with
   |bool b=>cases b with
    |true=>exact wc Q hQ _ _ _ h
    |false=>exact wh Q hQ _ _ _ h
   |_=>rfl
  |_=>rfl
 |block id b ih=>intro Q hQ;exact ih _ (UX hQ)
 |loop live b ih=>
  intro Q _ env aal σ h;show(match isK live with|true=>(match fw b with|true=>Ws live.tail _ Q (List.range σ.length) aal σ|false=>False)|false=>gc pin aal σ live _)=(match isK live with|true=>(match fw b with|true=>Ws live.tail _ Q (List.range σ.length) env σ|false=>False)|false=>gc pin env σ live _)
  cases isK live with
  |true=>cases fw b with
   |true=>exact ana h σ live.tail _
   |false=>rfl
  |false=>exact ana h σ live _
 |rangeF f qs avc b ih=>
  intro Q _ env aal σ h;show(match fw b with|true=>canon aal ps _|false=>False)=(match fw b with|true=>canon env ps _|false=>False)
  cases fw b with
  |true=>exact BC h ps _
  |false=>rfl
 |exit id=>intro Q hQ;exact hQ (.exit id)
 |ret=>intro Q hQ;exact hQ .ret
def ff{α:Type}(l:List α)(p:α×Nat->Bool)(h:l.zipIdx.all p=true)(i:Nat)(x:α)(hi:l[i]?=some x):p (x,i)=true:=by
 grind
section
variable {cx:Cx} {env:Env} {σ:aF} {vals:List Value} {a:Act} {w w':World} {n:Nat} {Γ:Ctx} {ps:List Nat}
def ar2{ops:Array Oper}{l:List PO}{nL:List (List Nat)}(hl:l.length=ops.size)(aDg:nL=ops.toList.map λo=>(o.after.toList.filter λe=>Region.binds .any e).map (·.on))
 (h:Tt Γ l nL=true) (d:PO):azd Γ ops (λi=>l.getD i d) (λi=>nL.getD i []) (λi=>(atu nL).getD i []):=by
 unfold Tt at h;simp only[zaU]at h;obtain⟨⟨h0,h1⟩,h2⟩:=h;have hlen:nL.length=ops.size:=bf;have get:∀(i:Nat) (o:Oper),ops[i]?=some o->nL.getD i []=(o.after.toList.filter λe=>Region.binds .any e).map (·.on):=by
  grind
 have row:∀i,i<ops.size->nL[i]?=some (nL.getD i []):=by
  grind
 have aq8:∀i,i<ops.size->l[i]?=some (l.getD i d):=by
  grind
 unfold an2 at h1;refine⟨λi o ho j hj=>?_,λi o ho e he hb=>?_,λi hi j hj=>?_,λi hi j hj=>?_,λi j hi hj=>?_⟩
 ·grind
 ·grind
 ·have:=ff nL _ h1 i _ (row i hi);simp only[zaU,zbp]at this;exact za3 (this.1 j hj)
 ·have:=ff nL _ h1 i _ (row i hi)
  grind
 ·have:=ff l _ (ff l _ h2 i _ (aq8 i hi)) j _ (aq8 j ab);simp only[zbB,zbr,zaU]at this;rcases this with(h3|h3)|h3
  ·exfalso;have:Nat.blt j i=true:=zbN hj
   grind
  ·grind
  grind
def arS(C:Cx->Prop)(n:Nat)(Q:Ex->Env->aF->Prop):Exit->Act->World->Prop
 | .normal,a,w=>∃cx env σ vals,C cx/\a.tmps.size=n/\Rel cx env σ vals a w/\Q .normal env σ
 | .exit i,a,w=>∃cx env σ vals,C cx/\a.tmps.size=n/\Rel cx env σ vals a w/\Q (.exit i) env σ
 | .ret,a,w=>∃cx env σ vals,C cx/\a.tmps.size=n/\Rel cx env σ vals a w/\Q .ret env σ
 |_,_,_=>False
def Cx.mark(cx:Cx)(w:World)(D:Nat)(hD:D<w.heap.size)(hs:cx.w1.heap.size<=w.heap.size):Cx:=
 { cx with
  w1:=w
  keep:=λb=>cx.keep b\/b=D
  hk:=λb hb=>by
   rcases hb with hb|rfl
   ·exact zae (cx.hk b hb) hs
   ·exact hD
  defers:={ target:=.collected D,args:= #[] }::cx.defers }
structure au0(P:Program)(pin:List Nat)(C:Cx->Prop):Prop where
 pin:∀cx,C cx->aud pin cx
 gh:∀cx,C cx→∀x v,¬cx.gh x v
 lo:∀cx,C cx->cx.lo=0
 keep:∀cx,C cx→∀b,cx.keep b→∃o:Obj,cx.w1.heap[b]?=some o/\o.isCells=false
 mark:∀(cx:Cx) (w:World) (D:Nat) (hD:D<w.heap.size) (hs:cx.w1.heap.size<=w.heap.size),C cx->(∀b,cx.keep b->w.heap[b]?=cx.w1.heap[b]?)->cx.w0.heap.size<=D->cx.w1.heap.size<=D->
  w.heap[D]?=some (.deferred (some []))->C (cx.mark w D hD hs)
def L6(hr:Rel cx env σ vals a w){K:Env->Prop}(h:canon env ps K):∃aal,K aal/\Rel cx aal σ vals a w:=by
 rw[XQ]at h;refine⟨_,h,hr.s,λp=>?_,hr.defers,hr.gh,hr.lo⟩;rcases Vb env ps p with hc|hc
 ·rw[hc];exact hr.env p
 ·rw[hc];trivial
def auA{t:Nat}{K:Env->aF->Prop}(hr:Rel cx env σ vals a w)(h:aBG t K env σ):∃aal σ',K aal σ'/\Rel cx aal σ' vals a w:=by
 have h:=Mh _ _ _ h;split at h
 ·have Ql:=hr.env t;have l9:fY (Ok cx σ vals w) σ vals w [aE t env] [a.tmps.getD t undef]:=by simp only[fY];grind
  obtain⟨xs,σ',h1,h2,h3,h4⟩:=Zr _ σ _ _ hr.s l9 h;cases xs with
  |nil=>grind
  |cons x xs=>
   refine⟨_,_,h1,?_⟩;have hk:=hr.keep h2 h3;refine⟨hk.s,λp=>?_,hk.defers,hk.gh,hk.lo⟩;by_cases hp:t=p
   ·subst hp;have e:aE t ((t,AV.pv x)::env)=.pv x:=by simp[aE]
    rw[e];obtain⟨v,r,e2,h5,_⟩:=h4;cases e2;assumption
   ·have e:aE p ((t,AV.pv x)::env)=aE p env:=by show(bif t.beq p then AV.pv x else aE p env)=_;rw[VI hp];rfl
    rw[e];exact hk.env p
 grind
def auB{l:List Operand}:∀{K:Env->aF->Prop} {env:Env} {σ:aF},Rel cx env σ vals a w->aye l K env σ→∃aal σ',K aal σ'/\Rel cx aal σ' vals a w:=by
 induction l with
 |nil=>intro K env σ hr h;exact⟨_,σ,h,hr⟩
 |cons o l ih=>
  intro K env σ hr h;cases o with
  |tmp t=>
   obtain⟨aal,σ',h1,h2⟩:=auA hr (show aBG t (aye l K) env σ from h)
   grind
  |_=>exact ih hr h
def ax4{l:List PO}:∀{K:Env->aF->Prop} {env:Env} {σ:aF},Rel cx env σ vals a w->aAk l K env σ→∃aal σ',K aal σ'/\Rel cx aal σ' vals a w:=by
 induction l with
 |nil=>intro K env σ hr h;exact⟨_,σ,h,hr⟩
 |cons o l ih=>
  intro K env σ hr h;obtain⟨d,g,k⟩:=o;cases k with
  |mkf f jh=>
   obtain⟨aal,σ',h1,h2⟩:=auB hr (show aye jh (aAk l K) env σ from h)
   grind
  |_=>exact ih hr h
def Tn{P:Program}{dr:Bool}{ops:Array Oper}{l:List PO}(h:Ol (UR P dr ops n) ops.toList=some l)(d:PO):l.length=ops.size/\Ux P dr ops n (λi=>l.getD i d)/\Ux P dr ops n (λi=>(l.map PO.plain).getD i d):=by
 have h1:=(E_ _ _ _ h).1;have hlen:l.length=ops.size:=by
  have:=congrArg List.length h1
  grind
 have get:∀i,i<ops.size→∃o po,ops[i]?=some o/\UR P dr ops n o=some po/\l[i]?=some po:=by
  intro i hi;have:=congrArg (·[i]?) h1
  grind
 refine⟨hlen,λi hi=>?_,λi hi=>?_⟩
 ·grind
 grind
def Z5{α:Type}(l:List α)(d:α):(List.range l.length).map (λi=>l.getD i d)=l:=by
 apply zba
 grind
open Classical in
noncomputable def afg(p:Nat->Prop):Nat:=if h:∃n,p n∧∀m,p m->n<=m then Classical.choose h else 0
def Vf{p:Nat->Prop}{n:Nat}(h:p n):p (afg p)∧∀m,p m->afg p<=m:=by
 have hex:∃n,p n∧∀m,p m->n<=m:=by
  induction n using Nat.strongRecOn with
  |_ n ih=>
   grind
 unfold afg
 grind
def alh{pc:PC}(h:some PC.skip=some (strip pc)):pc=.skip:=by cases pc<;>first|rfl|cases h
def apy{pc:PC}(h:some PC.ret=some (strip pc)):pc=.ret:=by cases pc<;>first|rfl|cases h
def alO{id:Nat}{pc:PC}(h:some (PC.exit id)=some (strip pc)):pc=.exit id:=by cases pc<;>first|(cases h;rfl)|cases h
def afp{l:List PO}{pc:PC}(h:some (PC.region l)=some (strip pc)):pc=.region l:=by cases pc<;>first|(cases h;rfl)|cases h
def alS{l:List PO}{nL:List (List Nat)}{pc:PC}(h:some (PC.draw l nL)=some (strip pc)):pc=.draw l nL\/pc=.drawD l nL:=by cases pc<;>first|(cases h;exact .inl rfl)|(cases h;exact .inr rfl)|cases h
def apx{a b pc:PC}(h:some (PC.seq a b)=some (strip pc)):∃a' b',pc=.seq a' b'/\a=strip a'/\b=strip b':=by
 cases pc<;>first|(cases h;exact⟨_,_,rfl,rfl,rfl⟩)|cases h
def alY{x:Operand}{a b pc:PC}(h:some (PC.cond x a b)=some (strip pc)):∃a' b',pc=.cond x a' b'/\a=strip a'/\b=strip b':=by
 cases pc<;>first|(cases h;exact⟨_,_,rfl,rfl,rfl⟩)|cases h
def ajQ{id:Nat}{b pc:PC}(h:some (PC.block id b)=some (strip pc)):∃b',pc=.block id b'/\b=strip b':=by
 cases pc<;>first|(cases h;exact⟨_,rfl,rfl⟩)|cases h
def alM{b pc:PC}(h:some (PC.loop [] b)=some (strip pc)):∃live b',pc=.loop live b'/\b=strip b':=by
 cases pc<;>first|(cases h;exact⟨_,_,rfl,rfl⟩)|cases h
def YJ{a b:PC}(h:fw (.seq a b)=true):fw a=true/\fw b=true:=by
 have h:(match fw a with|true=>fw b|false=>false)=true:=h
 grind
def UY{c:Operand}{a b:PC}(h:fw (.cond c a b)=true):fw a=true/\fw b=true:=by
 have h:(match fw a with|true=>fw b|false=>false)=true:=h
 grind
def aeD{r:List Nat}{n:Nat}(hr:∀j,j<n->r[j]?=some j):∀x:AV,x.Nm (λi=>i<n)->Ren r x x:=by
 intro x;refine AV.rec (motive_1:=λx=>x.Nm (λi=>i<n)->Ren r x x) (motive_2:=λl=>AV.vz (λi=>i<n) l->kC r l l) ?_ ?_ ?_ ?_ ?_ ?_ ?_ ?_ ?_ ?_ x
 ·intro _;simp only[Ren]
 ·intro y _;simp only[Ren]
 ·intro i h;simp only[AV.Nm]at h;simp only[Ren];exact⟨i,hr i h,rfl⟩
 ·intro i k o h;simp only[AV.Nm]at h;simp only[Ren];exact⟨i,hr i h,rfl⟩
 ·intro i a b c h;simp only[AV.Nm]at h;simp only[Ren];exact⟨i,hr i h,rfl⟩
 ·intro cs ih h;simp only[AV.Nm]at h;simp only[Ren];exact⟨_,rfl,ih h⟩
 ·intro cs ih h;simp only[AV.Nm]at h;simp only[Ren];exact⟨_,rfl,ih h⟩
 ·intro f cs ih h;simp only[AV.Nm]at h;simp only[Ren];exact⟨_,rfl,ih h⟩
 ·intro _;simp only[kC]
 ·intro y ys h1 h2 h;simp only[AV.vz]at h;simp only[kC];exact⟨_,_,rfl,h1 h.1,h2 h.2⟩
def Pm(mX:∀x v,cx.gh x v->x.Nm λi=>i<cx.Le.length){pin:List Nat}(adI:aud pin cx)(hr:Rel cx env σ vals a w)(qs:List Nat){K:Env->aF->Prop}(h:gc pin env σ qs K):∃aal σ' aO,K aal σ'/\Rel cx aal σ' aO a w:=by
 have h:=alZ _ _ _ h;obtain⟨l,h,hl,XN⟩:=ai3 _ _ _ (by rw[adI.1];exact zbH) h;obtain⟨r,h,hn,eQ⟩:=LN _ _ _ _ hl h;obtain⟨aal,h,he⟩:=aiw _ _ _ h;obtain⟨σ',h,h1,h2⟩:=KB _ _ _ _ h;obtain⟨aO,hA,Et,di⟩:=anG adI (XN.trans eQ) hn h1 h2 hr.s;have hid:∀j,j<cx.Le.length->r[j]?=some j:=λj hj=>by
  obtain⟨t,rfl⟩:=XN.trans eQ;rw[zar (by rw[adI.1];simpa using hj),adI.1,zbz hj]
 refine⟨aal,σ',aO,h,Et,λp=>?_,hr.defers,λx v hq=>Ren.ra hA di _ _ _ (aeD hid x (mX x v hq)) (hr.gh x v hq),hr.lo⟩;have hc:aE p (qs.map λp=>(p,aE p env))=aE p env\/aE p (qs.map λp=>(p,aE p env))=.bad:=Vb env qs p;have hp:=he p;have hv:RA (Ok cx σ vals w) σ vals w (aE p (qs.map λp=>(p,aE p env))) (a.tmps.getD p undef):=by
  rcases hc with hc|hc
  ·rw[hc];exact hr.env p
  ·rw[hc];simp only[RA]
 exact Ren.ra hA di _ _ _ hp hv
def Cx.all(cx:Cx)(σ:aF)(vals:List Value):Cx:={ cx with Le:=σ,acm:=vals }
def aaU(hr:Rel cx env σ vals a w):Rel (cx.all σ vals) env σ vals a w:=
 ⟨⟨hr.s.below,hr.s.one,hr.s.len,hr.s.sV,hr.s.Xl,⟨hr.s.fr.size,hr.s.fr.same,hr.s.fr.I1⟩,⟨λ_ _ h=>h,zai _,λ_ _ _ _ _ _ h=>⟨_,_,h⟩,λ_ _ _ h h2=>⟨_,h,h2⟩⟩⟩,hr.env,hr.defers,hr.gh,hr.lo⟩
def Nr{σ0:aF}{db:List Value}(h0:qz cx σ0 db)(hr:Rel (cx.all σ0 db) env σ vals a w):Rel cx env σ vals a w:=by
 refine⟨⟨hr.s.below,hr.s.one,hr.s.len,hr.s.sV,hr.s.Xl,⟨hr.s.fr.size,hr.s.fr.same,hr.s.fr.I1⟩,⟨λi v h=>hr.s.pin.vs i v (h0.vs i v h),zan h0.len hr.s.pin.len,λi hi e sz ap aC h=>?_,λi hi s h hb=>?_⟩⟩,hr.env,hr.defers,hr.gh,hr.lo⟩
 ·obtain⟨mN,els',h1⟩:=hr.s.pin.Rj i (zae hi h0.len) e sz ap aC h;exact h0.Rj i hi e sz mN els' h1
 ·obtain⟨s',h1,h2⟩:=hr.s.pin.Qz i (zae hi h0.len) s h hb;exact h0.Qz i hi s' h1 h2
def aeC{cx:Cx}{env:Env}{σ:aF}{vals:List Value}{a:Act}{w:World}(h:Rel cx env σ vals a w):Rel cx env σ vals a { w with drawn:=w.drawn+1 }:=atE h
section range
variable {P:Program}
def Cx.round(cx:Cx)(W:World)(X:Nat->Prop)(gh:AV->Value->Prop):Cx:=
 { cx with
  w1:=W
  keep:=λb=>b<W.heap.size∧¬X b
  hk:=λb hb=>hb.1
  defers:=[]
  gh:=gh }
def Cx.axT(cx:Cx)(w:World)(jN:Nat->Prop)(hI:∀b,jN b\/cx.keep b->b<w.heap.size):Cx:=
 { cx with w1:=w,keep:=λb=>jN b\/cx.keep b,hk:=hI }
def U5{K:Env->aF->Prop}(l m:List PO):X5 Γ K (l++m)=X5 Γ (X5 Γ K m) l:=by
 induction l with
 |nil=>rfl
 |cons o l ih=>
  funext env σ;rw[zbd,vh,vh,ih]
def Xa(hΓ:Sound P Γ):∀(c:Code) (l:List PO),adX P n c=some l→∀(F:Fence) (m:Nat) (cx:Cx) (K:Env->aF->Prop) (env:Env) (σ:aF) (vals:List Value) (a:Act) (w:World),aaf F->cx.P=P->cx.lo=0->a.tmps.size=n->Rel cx env σ vals a w->X5 Γ K l env σ->
 c.wpIn F m P (λe a' w'=>e=.normal∧∃aal σ' aO,a'.tmps.size=n/\Rel cx aal σ' aO a' w'/\K aal σ') a w:=by
 intro c
 induction c with
 |region id ops draw=>
  intro l hl F m cx K env σ vals a w hF hP UC hn hr h;subst hP;cases draw with
  |true=>cases hl
  |false=>
   obtain⟨hlen,h1,_⟩:=Tn (show Ol (UR cx.P false ops n) ops.toList=some l from hl) ⟨none,none,.nilS 0⟩;refine wpIn_region (apc hΓ h1 (K:=K) hF (λi hi d hd=>by rw[UC];exact zbV _) (λaal σ' aO a' w' ba ic hK=>⟨rfl,aal,σ',aO,ba,ic,hK⟩) _ env σ vals a w (λi hi=>zbm.1 hi) hn hr ?_);rw[<-hlen,Z5];exact h
 |seq x y iL sg=>
  intro l hl F m cx K env σ vals a w hF hP UC hn hr h;obtain⟨l1,e1,hl⟩:=aX (show opt (adX P n x) (λa=>opt (adX P n y) λb=>some (a++b))=some l from hl);obtain⟨l2,e2,hl⟩:=aX hl;cases hl;rw[U5]at h;refine wpIn_seq (wpIn_mono (iL l1 e1 F m cx _ env σ vals a w hF hP UC hn hr h) ?_);rintro e a' w' ⟨rfl,aal,σ',aO,ba,ic,h'⟩;exact sg l2 e2 F m cx K aal σ' aO a' w' hF hP UC ba ic h'
 |_=>intro l hl;cases hl
def Y4{cx1:Cx}{σ0:aF}{db:List Value}{σ:aF}{vals:List Value}(h0:qz cx σ0 db)(h:qz { cx1 with Le:=σ0,acm:=db } σ vals):qz cx σ vals:=by
 refine⟨λi v g=>h.vs i v (h0.vs i v g),zan h0.len h.len,λi hi e sz ap aC g=>?_,λi hi s g hb=>?_⟩
 ·obtain⟨mN,els',h1⟩:=h.Rj i (zae hi h0.len) e sz ap aC g;exact h0.Rj i hi e sz mN els' h1
 ·obtain⟨s',h1,h2⟩:=h.Qz i (zae hi h0.len) s g hb;exact h0.Qz i hi s' h1 h2
def akc{pin:List Nat}{C:Cx->Prop}(hW:au0 P pin C)(hΓ:Sound P Γ){m:Nat}(h1:1<=m){cx:Cx}(hC:C cx)(hP:cx.P=P){f:Operand}{pa:Array Tmp}{qJ body:Code}{l:List PO}{pb:PC}(hl:adX P n qJ=some l)(fp:∀p∈pa.toList,p<n){Q:Ex->Env->aF->Prop}
 (ab0:∀(ET:Cx) (_:ET.lo=0) (F:Fence) (k:Nat) (Q:Ex->Env->aF->Prop) (env:Env) (σ:aF) (vals:List Value) (a:Act) (w:World),aaf F->ET.P=P->a.tmps.size=n->Rel ET env σ vals a w->(∀e,BP (Q e))->vc Γ pin ps pb Q env σ->body.wpIn F k P (arS (· =ET) n Q) a w)
 {env:Env} {σ:aF} {vals:List Value} {a:Act} {w:World} (hn:a.tmps.size=n) (hr:Rel cx env σ vals a w) (h:an4 Γ pin ps pa.toList l (vc Γ pin ps pb) Q (bK env f) env σ):
 (Code.rangeFunc f pa qJ body).wpIn Fence.wide m P (arS C n Q) a w:=by
 have hf:=hr.ev f
 revert hf h
 cases bK env f with
 |pv x=>
  cases x with
  |clo g jh=>
   rintro⟨L,I,aGO,azA,wi,avH,aGP⟩ hf;simp only[RA,Rd]at hf;obtain⟨cv,wv,aGQ⟩:=hf;obtain⟨⟨α,yl,en,tj,aKo⟩,eg⟩:=(hΓ g).2.2.2.1 (m-1) w (Ok cx σ vals w) jh cv L (λb hb=>hb.2.1) aGQ aGO;have oN:∀b,Ok cx σ vals w b\/cx.keep b->b<w.heap.size:=λb hb=>by
    rcases hb with hb|hb
    ·exact hb.2.1
    ·exact zae (cx.hk b hb) hr.s.fr.size
   let wW:=(cx.all σ vals).axT w (Ok cx σ vals w) oN
   have ayu:=hW.gh cx hC;have wA:Rel wW env σ vals a w:=by
    refine⟨⟨hr.s.below,hr.s.one,hr.s.len,hr.s.sV,hr.s.Xl,⟨zai _,λ_ _=>rfl,λb hm hb=>?_⟩,⟨λ_ _ h=>h,zai _,λ_ _ _ _ _ _ h=>⟨_,_,h⟩,λ_ _ _ h h2=>⟨_,h,h2⟩⟩⟩,hr.env,hr.defers,λx v hg=>absurd hg (ayu x v),hr.lo⟩;rcases hb with hb|hb
    ·exact hb.2.2 hm
    ·exact hr.s.fr.I1 b hm hb
   let I':List α->(Nat->Prop)->World->Prop:=λpre X W=>∃σ' aO,(adC σ'=true/\I (pre.map yl) σ')/\(∀b,X b↔WB σ' aO b)/\Rel wW env σ' aO a W
   let oY:Code->List α->World->Prop:=λc pre W=>match c with
    | .ret=>∃σ' aO,(adC σ'=true/\(pre.map yl<+:L->Q .ret env σ'))/\Rel wW env σ' aO a W
    | .exit i=>∃σ' aO,(adC σ'=true/\(pre.map yl<+:L->Q (.exit i) env σ'))/\Rel wW env σ' aO a W
    |_=>False
   have ly:∀{A:World} {row:Option Nat},(∀r,row=some r->w.heap.size<=r∧∃o:Obj,A.heap[r]?=some o/\o.isCells=false)→∀r,row=some r->wW.own r/\wW.w1.heap.size<=r∧∃o:Obj,A.heap[r]?=some o/\o.isCells=false:=
    λic r e=>⟨cx.eh _ (zan hr.s.below.size (ic r e).1),(ic r e).1,(ic r e).2⟩
   have wC:∀X,OwnFrom w.heap.size λpre=>I' pre X:=by
    rintro X pre A B row ⟨σ',aO,h2,hX,h3⟩ hg RE;exact⟨σ',aO,h2,hX,TD h3 hg (ly RE) (.inl h2.1)⟩
   have aKq:∀c,OwnFrom w.heap.size (oY c):=by
    intro c pre A B row hs hg RE;cases c<;>first
     |exact hs.elim
     |(obtain⟨σ',aO,h2,h3⟩:=hs;exact⟨σ',aO,h2,TD h3 hg (ly RE) (.inl h2.1)⟩)
   have ajj:∀{c:Cx} {aal:Env} {σ':aF} {aO:List Value} {a':Act} {W:World},Rel c aal σ' aO a' W→∀b,WB σ' aO b->b<W.heap.size:=λh b hm=>by
    obtain⟨cur,e,fr,hc⟩:=aeh h.s hm;exact(zap.1 hc).1
   have marked:∀(D:Nat) (W:World) (σ':aF) (aO:List Value),w.heap.size<=D->W.heap[D]?=some (.deferred (some []))->Rel wW env σ' aO a W->
    ∃lB,C lB/\Rel lB env σ' aO { a with defers:={ target:=.collected D,args:= #[] }::a.defers } W:=by
    intro D W σ' aO hD hK hR;have aGS:D<W.heap.size:=(zap.1 hK).1;have hs:cx.w1.heap.size<=W.heap.size:=zan hr.s.fr.size hR.s.fr.size;have IH:qz cx σ' aO:=Y4 (cx1:=wW) hr.s.pin hR.s.pin;have akt:∀b,cx.keep b->W.heap[b]?=cx.w1.heap[b]?:=λb hb=>(hR.s.fr.same b (.inr hb)).trans (hr.s.fr.same b hb)
    refine⟨cx.mark W D aGS hs,hW.mark cx W D aGS hs hC akt (zan hr.s.below.size hD) (zan hr.s.fr.size hD) hK,?_⟩;refine⟨⟨hR.s.below,hR.s.one,hR.s.len,hR.s.sV,hR.s.Xl,⟨zai _,λ_ _=>rfl,λb hm hb=>?_⟩,⟨IH.vs,IH.len,IH.Rj,IH.Qz⟩⟩,hR.env,?_,λx v hg=>absurd hg (ayu x v),hR.lo⟩
    ·rcases hb with hb|rfl
     ·exact hR.s.fr.I1 b hm (.inr hb)
     ·obtain⟨cur,e,fr,hc⟩:=aeh hR.s hm;rw[hK]at hc;cases hc
    ·show _::a.defers=_::cx.defers;rw[hr.defers]
   let t₀:α->Act:=λx=>⟨(pa.toList.zip (en x).toList).foldl (λt p=>t.setIfInBounds p.1 p.2) a.tmps,[]⟩
   have aKs:∀x:α,(pa.zip (en x)).foldl (λt (p,v)=>t.setIfInBounds p v) a.tmps=(t₀ x).tmps:=by
    intro x;show _=(pa.toList.zip (en x).toList).foldl (λt p=>t.setIfInBounds p.1 p.2) a.tmps;rw[<-Array.foldl_toList];simp
   let ghE:AV->Value->Prop:=λy v=>∃p,y=aE p env/\v=a.tmps.getD p undef
   let cxM:Cx:={ wW with defers:=[],gh:=ghE }
   have adO:∀{X:Nat->Prop} {aal:Env} {σ':aF} {aO:List Value} {a':Act} {W:World},(∀b,X b↔WB σ' aO b)->Rel cxM aal σ' aO a' W->Rel ((cx.all σ vals).round W X ghE) aal σ' aO a' W:=by
    intro X aal σ' aO a' W hX hR;exact⟨⟨hR.s.below,hR.s.one,hR.s.len,hR.s.sV,hR.s.Xl,⟨zai _,λ_ _=>rfl,λb hm hb=>hb.2 ((hX b).2 hm)⟩,⟨hR.s.pin.vs,hR.s.pin.len,hR.s.pin.Rj,hR.s.pin.Qz⟩⟩,hR.env,hR.defers,hR.gh,hR.lo⟩
   have agp:∀{X:Nat->Prop} {σ0:aF} {db:List Value} {σ':aF} {aO:List Value} {W W3:World},(∀b,X b↔WB σ0 db b)->dH wW σ0 db W->dH ((cx.all σ vals).round W X ghE) σ' aO W3->
    KeepsFrom w.heap.size W W3/\U6 w.heap.size X (WB σ' aO) W W3/\dH wW σ' aO W3:=by
    intro X σ0 db σ' aO W W3 hX h0 h3;have aU:∀b,wW.keep b->b<W.heap.size:=λb hb=>zae (oN b hb) h0.fr.size
    have hnx:∀b,wW.keep b→¬X b:=λb hb hx=>h0.fr.I1 b ((hX b).1 hx) hb
    refine⟨⟨h3.fr.size,λk o _ ho GV=>(h3.fr.same k ⟨(zap.1 ho).1,λhx=>?_⟩).trans ho⟩,⟨h3.fr.size,λb hb hx _=>h3.fr.same b ⟨hb,hx⟩,λb hm=>?_⟩,?_⟩
    ·obtain⟨cur,e,fr,hc⟩:=aeh h0 ((hX k).1 hx);rw[ho]at hc;cases hc;cases GV
    ·apply Classical.byContradiction;intro g;exact h3.fr.I1 b hm ⟨ab,λhx=>g (.inl hx)⟩
    ·exact⟨h3.below,h3.one,h3.len,h3.sV,h3.Xl,⟨zan h0.fr.size h3.fr.size,λb hb=>(h3.fr.same b ⟨aU b hb,hnx b hb⟩).trans (h0.fr.same b hb),λb hm hb=>h3.fr.I1 b hm ⟨aU b hb,hnx b hb⟩⟩,⟨h3.pin.vs,h3.pin.len,h3.pin.Rj,h3.pin.Qz⟩⟩
   have ajl:∀{σ':aF} {aO:List Value} {W:World},dH cxM σ' aO W->dH wW σ' aO W:=λh=>⟨h.below,h.one,h.len,h.sV,h.Xl,⟨h.fr.size,h.fr.same,h.fr.I1⟩,⟨h.pin.vs,h.pin.len,h.pin.Rj,h.pin.Qz⟩⟩
   have ajm:∀{σ':aF} {aO:List Value} {W:World},dH wW σ' aO W->dH cxM σ' aO W:=λh=>⟨h.below,h.one,h.len,h.sV,h.Xl,⟨h.fr.size,h.fr.same,h.fr.I1⟩,⟨h.pin.vs,h.pin.len,h.pin.Rj,h.pin.Qz⟩⟩
   let M:List α->(Nat->Prop)->α->Act->World->Prop:=λpre X x a' W=>∃aal σ' aO,a'.tmps.size=n/\(∀b,X b↔WB σ' aO b)/\Rel cxM aal σ' aO a' W/\vc Γ pin ps pb (at1 (List.range σ.length) ps Q env I L (pre.map yl++[yl x])) aal σ'
   refine UM (n:=m) h1 (gf:=g) (lb:=cv) wv (λargs w=>eg args w) aKo (λx=>by
    have e1:=((uo _ _).1 (tj x).2).1;have e2:=azA _ (tj x).1;simp only[zac]at e1 e2;omega)
    I' oY wC aKq (λpre X W ⟨σ',aO,_,hX,h3⟩ b hb=>ajj h3 b ((hX b).1 hb)) (X0:=WB σ vals) (λb hb=>hb.2.2) ⟨σ,vals,wi,λ_=>Iff.rfl,wA⟩ M ?keep ?assign ?body ?done ?stop
   case keep=>
    rintro pre X x a' W j r r' hj hr0 ⟨aal,σ',aO,h2,hX,h3,h4⟩;exact⟨aal,σ',aO,h2,hX,TD h3 (grownBy_putObj' W j (.loop r')) (λk e=>by cases e;exact⟨cx.eh _ (zan hr.s.below.size hj),hj,_,hr0,rfl⟩) (.inr λk e es n h=>by cases e;rw[hr0]at h;cases h),h4⟩
   case assign=>
    rintro j pre X x W ⟨σ',aO,⟨_,iC⟩,hX,hR⟩ hlen;have hRM:Rel cxM env σ' aO ⟨a.tmps,[]⟩ W:=by
     refine⟨⟨hR.s.below,hR.s.one,hR.s.len,hR.s.sV,hR.s.Xl,⟨hR.s.fr.size,hR.s.fr.same,hR.s.fr.I1⟩,⟨hR.s.pin.vs,hR.s.pin.len,hR.s.pin.Rj,hR.s.pin.Qz⟩⟩,hR.env,rfl,?_,hR.lo⟩;rintro y v ⟨p,rfl,rfl⟩;exact hR.env p
    have wD:=adO hX hRM;have rT:bS (Ok ((cx.all σ vals).round W X ghE) σ' aO W) W (yl x) (en x).toList:=by
     refine bS.iF (λb hb=>⟨hb.1,zae (oN b (.inl hb)) hR.s.fr.size,λhm=>hR.s.fr.I1 b hm (.inl hb)⟩) (λb o u hb hc=>?_) _ _ (tj x).2;unfold World.cell? at hc ⊢;rw[hR.s.fr.same b (.inl hb)];exact hc
    obtain⟨amV,qR,wG,Kt⟩:=ast (cx:=(cx.all σ vals).round W X ghE) (n:=n) (hW.lo cx hC) _ pa.toList (yl x) _ env a.tmps [] (azA _ (tj x).1) rT fp hn wD (avH _ (yl x) σ' (tj x).1 (by rw[zaw];exact hlen) iC);rw[aKs x];refine wpIn_mono (Xa hΓ qJ l hl _ _ ((cx.all σ vals).round W X ghE) _ amV σ' aO (t₀ x) W (.inr ⟨j,rfl⟩) hP (hW.lo cx hC) Kt wG qR) ?_;rintro e a2 W2 ⟨rfl,ahb,σ2,lh,LD,Kw,Oh⟩;obtain⟨b1,b2,b3⟩:=agp hX hR.s Kw.s;exact⟨b1,_,b2,ahb,σ2,lh,LD,λ_=>Iff.rfl,⟨ajm b3,Kw.env,Kw.defers,Kw.gh,Kw.lo⟩,Oh⟩
   case body=>
    rintro j pre X x a2 W ⟨ahb,σ2,lh,LD,hX,hRM,Oh⟩;have Kw:=adO hX hRM;have zZ:∀e,BP (at1 (List.range σ.length) ps Q env I L (pre.map yl++[yl x]) e):=by
     intro e env aal σ _;cases e<;>rfl
    refine wpIn_mono (ab0 ((cx.all σ vals).round W X ghE) (hW.lo cx hC) _ _ _ ahb σ2 lh a2 W (.inr ⟨j,rfl⟩) hP LD Kw zZ Oh) ?_
    let cxR:Cx:={ (cx.all σ vals).round W X ghE with defers:=cx.defers,gh:=cx.gh }
    have back:∀(ahc:Env) (σ3:aF) (II:List Value) (a3:Act) (W3:World),Rel ((cx.all σ vals).round W X ghE) ahc σ3 II a3 W3->Rel cxR env σ3 II a W3:=by
     intro ahc σ3 II a3 W3 h3;exact⟨⟨h3.s.below,h3.s.one,h3.s.len,h3.s.sV,h3.s.Xl,⟨h3.s.fr.size,h3.s.fr.same,h3.s.fr.I1⟩,⟨h3.s.pin.vs,h3.s.pin.len,h3.s.pin.Rj,h3.s.pin.Qz⟩⟩,λp=>h3.gh _ _ ⟨p,rfl,rfl⟩,hr.defers,λx v hg=>absurd hg (ayu x v),hr.lo⟩
    have out:∀(σ3:aF) (II:List Value) (W3:World),Rel cxR env σ3 II a W3->KeepsFrom w.heap.size W W3/\U6 w.heap.size X (WB σ3 II) W W3/\Rel wW env σ3 II a W3:=by
     intro σ3 II W3 h;obtain⟨b1,b2,b3⟩:=agp (W3:=W3) hX (ajl hRM.s) ⟨h.s.below,h.s.one,h.s.len,h.s.sV,h.s.Xl,⟨h.s.fr.size,h.s.fr.same,h.s.fr.I1⟩,⟨h.s.pin.vs,h.s.pin.len,h.s.pin.Rj,h.s.pin.Qz⟩⟩;exact⟨b1,b2,b3,h.env,h.defers,h.gh,h.lo⟩
    intro e a3 W3 hp;cases e with
    |normal=>
     obtain⟨pk,ahc,σ3,II,rfl,_,h3,h4⟩:=hp;obtain⟨aKu,σ4,azB,⟨rfl,g1,g2⟩,g3⟩:=Pm (cx:=cxR) (λx v hg=>absurd hg (ayu x v)) (pin:=List.range σ.length) ⟨rfl,hr.s.len⟩ (back _ _ _ _ _ h3) _ h4;obtain⟨b1,b2,b3⟩:=out _ _ _ g3;exact⟨b1,_,b2,σ4,azB,⟨g1,by rw[zbs];exact g2⟩,λ_=>Iff.rfl,b3⟩
    |exit i=>
     obtain⟨_,ahc,σ3,II,rfl,_,h3,h4⟩:=hp;obtain⟨b1,_,b3⟩:=out _ _ _ (back _ _ _ _ _ h3);exact⟨b1,σ3,II,by rw[zbs];exact h4,b3⟩
    |ret=>
     obtain⟨_,ahc,σ3,II,rfl,_,h3,h4⟩:=hp;obtain⟨b1,_,b3⟩:=out _ _ _ (back _ _ _ _ _ h3);exact⟨b1,σ3,II,by rw[zbs];exact h4,b3⟩
    |_=>exact hp.elim
   case done=>
    rintro D xs X W hD hS ⟨σ',aO,⟨_,iC⟩,_,hR⟩ hK;obtain⟨lB,wZ,Kw⟩:=marked D W σ' aO hD hK hR;rw[hS]at iC;exact⟨lB,env,σ',aO,wZ,hn,Kw,aGP σ' iC⟩
   case stop=>
    intro D c pre W hD pn hx hK;cases c with
    |ret=>
     obtain⟨σ',aO,hq,hR⟩:=hx;obtain⟨lB,wZ,Kw⟩:=marked D W σ' aO hD hK hR;exact wpIn_ret ⟨lB,env,σ',aO,wZ,hn,Kw,hq.2 pn⟩
    |exit i=>
     obtain⟨σ',aO,hq,hR⟩:=hx;obtain⟨lB,wZ,Kw⟩:=marked D W σ' aO hD hK hR;exact wpIn_exit ⟨lB,env,σ',aO,wZ,hn,Kw,hq.2 pn⟩
    |_=>exact hx.elim
  |_=>intro h;exact h.elim
 |_=>intro h;exact h.elim
end range
def Ca(lo:Nat)(o:PO):Bool:=match o.dst with|none=>true|some d=>Nat.ble lo d
noncomputable def YW(lo:Nat)(l:List PO):Bool:=List.rec true (λo _ ih=>match Ca lo o with|true=>ih|false=>false) l
noncomputable def P6(lo:Nat)(c:PC):Bool:=
 PC.rec true (λl=>YW lo l) (λl _=>YW lo l) (λl _=>YW lo l) (λ_ _ a b=>match a with|true=>b|false=>false) (λ_ _ _ a b=>match a with|true=>b|false=>false) (λ_ _ b=>b) (λ_ _ _=>false) (λ_ _ _ _ _=>false) (λ_=>true) true c
def arL{lo:Nat}{a b:PC}(h:P6 lo (.seq a b)=true):P6 lo a=true/\P6 lo b=true:=by
 have h:(match P6 lo a with|true=>P6 lo b|false=>false)=true:=h
 grind
def aol{lo:Nat}{c:Operand}{a b:PC}(h:P6 lo (.cond c a b)=true):P6 lo a=true/\P6 lo b=true:=by
 have h:(match P6 lo a with|true=>P6 lo b|false=>false)=true:=h
 grind
def axx{lo:Nat}:∀{l:List PO},YW lo l=true→∀o∈l,∀d,o.dst=some d->lo<=d:=by
 intro l
 induction l with
 |nil=>simp
 |cons p l ih=>
  intro h o ho d hd;have h:(match Ca lo p with|true=>YW lo l|false=>false)=true:=h;cases hp:Ca lo p with
  |false=>grind
  |true=>
   rcases zax.1 ho with rfl|ho
   ·unfold Ca at hp
    simp_all
   grind
def alz{cx:Cx}{ops:Array Oper}{l:List PO}(h:cx.lo=0∨∃lo,cx.lo<=lo/\YW lo l=true)(hl:l.length=ops.size):∀i,i<ops.size→∀d,(l.getD i ⟨none,none,.nilS 0⟩).dst=some d->cx.lo<=d:=by
 intro i hi d hd;rcases h with h|⟨lo,h1,h2⟩
 ·omega
 ·refine zan h1 (axx h2 _ ?_ d hd)
  grind
def agG{f:Operand}{qs:List Nat}{l:List PO}{b pc:PC}(h:some (PC.rangeF f qs l b)=some (strip pc)):∃b',pc=.rangeF f qs l b'/\b=strip b':=by
 cases pc<;>first|(cases h;exact⟨_,rfl,rfl⟩)|cases h
def axN{P:Program}(hΓ:Sound P Γ){ops:Array Oper}{l:List PO}{nL:List (List Nat)}(hl:l.length=ops.size)(aDg:nL=ops.toList.map λo=>(o.after.toList.filter λe=>Region.binds .any e).map (·.on))
 (h:aei Γ l nL=true) (d:PO) {env:Env} {σ:aF} {Q:Env->aF->Prop} (hv:A5 Γ (λlog aal σ'=>aBd Γ l nL σ.length log=true/\Q aal σ') l [] env σ):
 ∃E S R,E 0=env/\S 0=σ/\Q (E ops.size) (S ops.size)/\FR Γ ops (λi=>l.getD i d) (λi=>nL.getD i []) (λi=>(atu nL).getD i []) E S R:=by
 unfold aei at h;simp only[zaU]at h;obtain⟨⟨h0,h1⟩,h2⟩:=h;obtain⟨E,S,R,e1,e2,⟨e3,e4⟩,e5⟩:=ar6 hΓ d l [] env σ (λo ho=>zbp.1 h2 o ho) hv;have hlen:nL.length=ops.size:=by rw[aDg];simp
 have get:∀(i:Nat) (o:Oper),ops[i]?=some o->nL.getD i []=(o.after.toList.filter λe=>Region.binds .any e).map (·.on):=by
  intro i o ho;rw[aDg];simp[zbo,ho]
 have row:∀i,i<ops.size->nL[i]?=some (nL.getD i []):=by
  intro i hi;rw[zbo,zah ab];rfl
 have aq8:∀i,i<ops.size->l[i]?=some (l.getD i d):=by
  intro i hi;rw[zbo,zah ab];rfl
 unfold an2 at h1;have lg:∀i,i<ops.size->((((List.range l.length).map λi=>entry (l.getD i d) (E i) (S i) (E (i+1)) (S (i+1))).reverse++[]).reverse).getD i (0,[],[])=entry (l.getD i d) (E i) (S i) (E (i+1)) (S (i+1)):=by
  intro i hi;rw[zbf,List.reverse_reverse,zbo,za9,zbz ab];rfl
 unfold aBd at e3;have ln:∀i,i<=ops.size->aF_ σ.length (((List.range l.length).map λi=>entry (l.getD i d) (E i) (S i) (E (i+1)) (S (i+1))).reverse++[]).reverse i=(S i).length:=by
  intro i hi;cases i with
  |zero=>rw[e2];rfl
  |succ i=>exact congrArg Prod.fst (lg i ab)
 have vi:∀i,i<ops.size→∀dd,(l.getD i d).dst=some dd->(entry (l.getD i d) (E i) (S i) (E (i+1)) (S (i+1))).2.2=(R i).v.ids:=by
  intro i hi dd hd;show(match (l.getD i d).dst with|some d=>(aiv d (E (i+1))).ids|none=>[])=_;rw[hd];simp only;rw[an7,(e5 i ab).he,hd,kq,zbR];rfl
 rw[hl]at e4;refine⟨E,S,R,e1,e2,e4,λi o ho j hj=>?_,λi o ho e he hb=>?_,λi hi j hj=>?_,λi hi j hj=>?_,λi hi=>e5 i ab,λi hi dd hd x hx=>?_,λi j hi hj=>?_⟩
 ·rw[get i o ho]at hj;obtain⟨e,he,rfl⟩:=zaX.1 hj;obtain⟨h3,h4⟩:=zbn.1 he;exact⟨e,Fe,h4,rfl⟩
 ·rw[get i o ho];exact zaX.2 ⟨e,zbn.2 ⟨by simpa using he,hb⟩,rfl⟩
 ·have:=ff nL _ h1 i _ (row i hi);simp only[zaU,zbp]at this;exact za3 (this.1 j hj)
 ·have:=ff nL _ h1 i _ (row i hi);simp only[zaU,zbp,zbB,List.any_eq_true]at this;rcases this.2 j hj with h3|⟨e,h3,h4⟩
  ·exact .inl (zbv.1 h3)
  ·exact .inr ⟨e,h3,zbv.1 h4⟩
 ·have:=ff l _ e3 i _ (aq8 i hi);simp only[zaU]at this;have:=this.1;unfold aE3 at this;have:=zbp.1 this x (by rw[lg i hi,vi i hi dd hd];exact hx);rw[ln (i+1) hi]at this;exact za3 this
 ·have:=ff l _ e3 i _ (aq8 i hi);simp only[zaU]at this;have:=ff l _ this.2 j _ (aq8 j ab);simp only[zbB,zbr,zaU]at this;rcases this with(h3|h3)|h3
  ·exfalso;have:Nat.blt j i=true:=zbN hj;rw[this]at h3;cases h3
  ·exact .inl (zbv.1 h3)
  ·obtain⟨⟨⟨⟨⟨c1,c2⟩,c3⟩,c4⟩,c5⟩,c6⟩:=h3;have hn:∀k,k<ops.size→∀m,ax5 (S k).length (S (k+1)).length m=true→∀x∈m,¬((S k).length<=x/\x<(S (k+1)).length):=by
    intro k _ m hm x hx;have:=zbp.1 hm x hx;simp only[zbB]at this;rcases this with h|h
    ·have:=za3 h;omega
    ·have:=za3 h;omega
   have HF:∀(o:PO) (m1 m2:List Nat),apart (match o.k.turns Γ with|true=>m1|false=>[]) m2=true→∀x∈m2,¬(o.k.turns Γ=true/\x∈m1):=by
    rintro o m1 m2 hm x hx ⟨ht,I_⟩;rw[ht]at hm;have:=zbp.1 hm x I_;rw[zbr]at this;have h2:=zbv.2 hx;rw[h2]at this;cases this
   rw[lg i hi,lg j ab]at c2 c4;rw[lg i hi]at c3 c6;rw[lg j ab]at c5;rw[ln j ab,ln (j+1) ab]at c3 c6;rw[ln i ab,ln (i+1) ab]at c5;refine .inr ⟨c1,λx hx=>⟨HF _ _ _ c2 x hx,hn j ab _ c3 x hx⟩,λx hx=>⟨HF _ _ _ c4 x hx,hn i hi _ c5 x hx⟩,λdd hd x hx=>?_⟩;rw[vi i hi dd hd]at c6;exact hn j ab _ c6 x hx
def GH{P:Program}{pin:List Nat}(hΓ:Sound P Γ)(hm:P.follows .mixedOrders=true):∀(c:Code) (pc:PC),nR P n c=some (strip pc)→∀(C:Cx->Prop) (F:Fence) (m:Nat) (cx:Cx) (Q:Ex->Env->aF->Prop) (env:Env) (σ:aF) (vals:List Value) (a:Act) (w:World),
 fw pc=true\/(F=Fence.wide/\1<=m/\au0 P pin C∧∀cx,C cx->cx.P=P)->((∀cx,C cx->cx.lo=0)∨∃lo,(∀cx,C cx->cx.lo<=lo)/\P6 lo pc=true)->aaf F->C cx->(∀cx,C cx->cx.P=P)->(∀e,BP (Q e))->a.tmps.size=n->Rel cx env σ vals a w->vc Γ pin ps pc Q env σ->c.wpIn F m P (arS C n Q) a w:=by
 intro c
 induction c with
 |skip=>
  intro pc hc C F m cx Q env σ vals a w _ _ _ hC hP _ hn hr h;have hc:=alh hc;subst hc;exact wpIn_skip ⟨cx,env,σ,vals,hC,hn,hr,h⟩
 |region id ops draw=>
  intro pc hc C F m cx Q env σ vals a w _ hG hF hC hP hQ hn hr h;have wO:=hP cx hC;subst wO;cases draw with
  |false=>
   obtain⟨l,hl,hc⟩:=aX (show opt (Ol (UR cx.P false ops n) ops.toList) (λl=>some (PC.region l))=some (strip pc)from hc);have hc:=afp hc;subst hc;obtain⟨aal,h,ic⟩:=L6 hr (show canon env ps _ from h);obtain⟨hlen,h1,_⟩:=Tn hl ⟨none,none,.nilS 0⟩;refine wpIn_region (apc hΓ h1 (K:=Q .normal) hF (alz (hG.imp (λh=>h cx hC) λ⟨lo,h1,h2⟩=>⟨lo,h1 cx hC,h2⟩) hlen) (λaal σ' aO a' w' ba ic hK=>⟨cx,aal,σ',aO,hC,ba,ic,hK⟩) _ aal σ vals a w (λi hi=>zbm.1 hi) hn ic ?_);rw[<-hlen,Z5];exact h
  |true=>
   obtain⟨l,hl,hc⟩:=aX (show opt (Ol (UR cx.P true ops n) ops.toList) (λl=>some (PC.draw (l.map PO.plain) (ops.toList.map λo=>(o.after.toList.filter λe=>Region.binds .any e).map (·.on))))=some (strip pc)from hc);have hc:=alS hc;have hz:∀i,i<ops.size->(Array.replicate ops.size false).getD i true=false:=by
    intro i hi;rw[zbl];simp[hi]
   have akv:left ops.size (Array.replicate ops.size false)=List.range ops.size:=by
    unfold left;apply zbQ.2;intro i hi;rw[hz i (zbm.1 hi)];rfl
   rcases hc with hc|hc
   ·subst hc;obtain⟨hD,h⟩:=(show Tt Γ (l.map PO.plain) _=true/\canon env ps _ from h)
    obtain⟨aal,h,ic⟩:=L6 hr h;obtain⟨hlen,_,h1⟩:=Tn hl ⟨none,none,.nilS 0⟩;have Oj:(l.map PO.plain).length=ops.size:=by simpa using hlen
    refine wpIn_region_any hm ?_;have hz:∀i,i<ops.size->(Array.replicate ops.size false).getD i true=false:=by
     intro i hi;rw[zbl];simp[hi]
    have akv:left ops.size (Array.replicate ops.size false)=List.range ops.size:=by
     unfold left;apply zbQ.2;intro i hi;rw[hz i (zbm.1 hi)];rfl
    refine akZ hΓ h1 (ar2 Oj rfl hD ⟨none,none,.nilS 0⟩) (hQ .normal) hF (alz (hG.imp (λh=>h cx hC) λ⟨lo,h1,h2⟩=>⟨lo,h1 cx hC,h2⟩) Oj) (λaal σ' aO a' w' ba ic hK=>⟨cx,aal,σ',aO,hC,ba,ic,hK⟩) _ _ aal σ vals a _ aj ?_ ?_ hn (aeC ic) ?_
    ·rw[akv];simp
    ·intro i hi cK;rw[zbl]at cK;simp[hi]at cK
    ·rw[akv,<-Oj,Z5];exact h
   ·subst hc;obtain⟨hD,h⟩:=(show aei Γ (l.map PO.plain) _=true/\canon env ps _ from h)
    obtain⟨amV,h,Gw⟩:=L6 hr h;obtain⟨aal,σ2,h,ic⟩:=ax4 Gw h;obtain⟨hlen,_,h1⟩:=Tn hl ⟨none,none,.nilS 0⟩;have Oj:(l.map PO.plain).length=ops.size:=by simpa using hlen
    obtain⟨E,S,R,e1,e2,e3,tG⟩:=axN hΓ Oj rfl hD ⟨none,none,.nilS 0⟩ h;refine wpIn_region_any hm ?_;have wR:(S 0).length<=(S ops.size).length:=by have:=tG.aex (i:=0) ops.size ab;rwa[zaV]at this
    obtain⟨lh,CW⟩:=aoO (aeC ic) ((S ops.size).length-σ2.length);rw[e2]at wR;have pA:∀(av:AV) (v:Value),RA (Ok cx σ2 vals w) σ2 vals w av v->av.Nm λi=>i<σ2.length:=λav v h=>ay3 (λi hi=>by rw[<-ic.s.len];exact hi) (λi hi=>hi) av v h
    refine aqq hΓ h1 tG (hQ .normal) e3 ?_ ?_ hF (alz (hG.imp (λh=>h cx hC) λ⟨lo,h1,h2⟩=>⟨lo,h1 cx hC,h2⟩) Oj) (λaal σ' aO a' w' ba ic hK=>⟨cx,aal,σ',aO,hC,ba,ic,hK⟩) ops.size (Array.replicate ops.size false) aal (σ2++List.replicate ((S ops.size).length-σ2.length) .dead) lh a { w with drawn:=w.drawn+1 } aj (by rw[akv];simp) ?_ hn CW ?_
    ·intro j hj;rw[e2];rcases hj with hj|hj
     ·exact zae hj ic.s.pin.len
     ·have:=ic.s.pin.vs j _ (zah hj);rw[<-ic.s.len];exact(zaa.1 this).1
    ·intro x v hq;rw[e2];exact pA x v (ic.gh x v hq)
    ·intro i hi cK;rw[zbl]at cK;simp[hi]at cK
    ·have tT:∀p,(Array.replicate ops.size false).getD p false=false:=by
      intro p;rw[zbl];simp only[Array.getElem?_replicate];split<;>rfl
     have PB:∀x,x<σ2.length->x<(S ops.size).length∧∀p,p<ops.size->(Array.replicate ops.size false).getD p false=false→¬((S p).length<=x/\x<(S (p+1)).length):=by
      intro x hx;refine⟨ab,λp hp _ h=>?_⟩;have:=tG.aex (i:=0) p ab;rw[zaV,e2]at this;omega
     refine⟨aH,λt m R4 hc=>?_,λj m hj R4 hc=>?_,λt=>kV PB _ (pA _ _ (ic.env t)),λb hb=>?_⟩
     ·have:=tG.aeu t (m:=0) m ab λp _ hp Kb=>by
       have:=(hc p ab Kb).1 ab;rw[tT p]at this;cases this
      rw[zaV,e1]at this;exact this.symm
     ·have:=tG.aer j (m:=0) m ab λp _ hp jC=>by
       have:=(hc p ab jC).1 ab;rw[tT p]at this;cases this
      rw[zaV,e2]at this;rw[this];by_cases aU:j<σ2.length
      ·rw[zar aU,zah aU];rfl
      ·rw[zak ab,zaK (l:=σ2) ab,List.getElem?_replicate,if_pos ab];rfl
     ·rcases zaA.1 hb with hb|hb
      ·cases b with
       |box e cs=>
        obtain⟨j,hj⟩:=zaE.1 hb;have HQ:j<vals.length:=by rw[ic.s.len];exact(zaa.1 hj).1
        obtain⟨_,arr,_,_,_,_,g5⟩:=ic.s.sV j _ _ hj (zah HQ);exact x6 PB _ (aa5 (λi hi=>by rw[<-ic.s.len];exact hi) (λi hi=>hi) cs _ g5)
       |_=>trivial
      ·rw[zbq hb];trivial
 |seq x y iL sg=>
  intro pc hc C F m cx Q env σ vals a w hS hG hF hC hP hQ hn hr h;obtain⟨px,hx,hc⟩:=aX (show opt (nR P n x) (λa=>opt (nR P n y) λb=>some (PC.seq a b))=some (strip pc)from hc);obtain⟨py,hy,hc⟩:=aX hc;obtain⟨px,py,rfl,rfl,rfl⟩:=apx hc;refine wpIn_seq (wpIn_mono (iL px hx C F m cx (axs (vc Γ pin ps py Q) Q) env σ vals a w (hS.imp_left λh=>(YJ h).1) (hG.imp_right λ⟨lo,h1,h2⟩=>⟨lo,h1,(arL h2).1⟩) hF hC hP (S_ (awz Γ pin ps py Q hQ) hQ) hn hr h) ?_);intro e a' w' hp;cases e with
  |normal=>
   obtain⟨ET,aal,σ',aO,zK,ba,ic,h'⟩:=hp;exact sg py hy C F m ET Q aal σ' aO a' w' (hS.imp_left λh=>(YJ h).2) (hG.imp_right λ⟨lo,h1,h2⟩=>⟨lo,h1,(arL h2).2⟩) hF zK hP hQ ba ic h'
  |exit i=>exact hp
  |ret=>exact hp
  |_=>exact hp
 |cond c x y iL sg=>
  intro pc hc C F m cx Q env σ vals a w hS hG hF hC hP hQ hn hr h;obtain⟨px,hx,hc⟩:=aX (show opt (nR P n x) (λa=>opt (nR P n y) λb=>some (PC.cond c a b))=some (strip pc)from hc);obtain⟨py,hy,hc⟩:=aX hc;obtain⟨px,py,rfl,rfl,rfl⟩:=alY hc;have h:=aR _ _ _ (show ev env c _ from h);have he:=hr.ev c
  revert h he
  cases bK env c with
  |pv v=>cases v with
   |bool b=>
    intro h he;simp only[RA,Rd]at he;cases b with
    |true=>exact wpIn_cond_true he (iL px hx C F m cx Q env σ vals a w (hS.imp_left λh=>(UY h).1) (hG.imp_right λ⟨lo,h1,h2⟩=>⟨lo,h1,(aol h2).1⟩) hF hC hP hQ hn hr h)
    |false=>exact wpIn_cond_false he (sg py hy C F m cx Q env σ vals a w (hS.imp_left λh=>(UY h).2) (hG.imp_right λ⟨lo,h1,h2⟩=>⟨lo,h1,(aol h2).2⟩) hF hC hP hQ hn hr h)
   |_=>intro h;exact h.elim
  |_=>intro h;exact h.elim
 |block id b ih=>
  intro pc hc C F m cx Q env σ vals a w hS hG hF hC hP hQ hn hr h;obtain⟨pb,hb,hc⟩:=aX (show opt (nR P n b) (λb=>some (PC.block id b))=some (strip pc)from hc);obtain⟨pb,rfl,rfl⟩:=ajQ hc;refine wpIn_block (wpIn_mono (ih pb hb C F m cx (alD id Q) env σ vals a w hS hG hF hC hP (UX hQ) hn hr h) ?_);intro e a' w' hp;cases e with
  |normal=>exact hp
  |exit i=>
   obtain⟨ET,aal,σ',aO,zK,ba,ic,h'⟩:=hp;have h':(match Nat.beq i id with|true=>Q .normal aal σ'|false=>Q (.exit i) aal σ'):=h';show(if i=id then arS C n Q .normal a' w' else arS C n Q (.exit i) a' w');cases hb:Nat.beq i id with
   |true=>
    rw[hb]at h';rw[if_pos (zab hb)];exact⟨ET,aal,σ',aO,zK,ba,ic,h'⟩
   |false=>
    rw[hb]at h';rw[if_neg (λe=>by subst e;simp at hb)];exact⟨ET,aal,σ',aO,zK,ba,ic,h'⟩
  |ret=>exact hp
  |_=>exact hp
 |loop b ih=>
  intro pc hc C F m0 cx Q env σ vals a w hS hG hF hC hP hQ hn hr h;obtain⟨pb,hb,hc⟩:=aX (show opt (nR P n b) (λb=>some (PC.loop [] b))=some (strip pc)from hc);obtain⟨live,pb,rfl,rfl⟩:=alM hc;have h:(match isK live with|true=>(match fw pb with|true=>Ws live.tail (vc Γ pin ps pb) Q (List.range σ.length) env σ|false=>False)|false=>gc pin env σ live λenv σ=>auQ pin live (vc Γ pin ps pb) Q env σ):=h;cases Eo:isK live with
  |true=>
   rw[Eo]at h;cases ko:fw pb with
   |false=>rw[ko]at h;exact h.elim
   |true=>
   rw[ko]at h;have ajT:cx.lo=0:=by
    rcases hG with hG|⟨lo,_,h2⟩
    ·exact hG cx hC
    ·cases h2
   have adQ:aud (List.range σ.length) (cx.all σ vals):=⟨rfl,hr.s.len⟩
   have ags:∀x v,(cx.all σ vals).gh x v->x.Nm λi=>i<(cx.all σ vals).Le.length:=λx v hq=>ay3 (λi hi=>by show i<σ.length;rw[<-hr.s.len];exact hi) (λi hi=>hi) x v (hr.gh x v hq)
   have IH:=hr.s.pin;obtain⟨aal,σ',aO,h,ic⟩:=Pm ags adQ (aaU hr) live.tail h;obtain⟨I,m,hI,avH⟩:=h;refine wpIn_mono (Q:=arS (· =cx.all σ vals) n Q) ?_ ?_
   ·let J:Nat->Act->World->Prop:=λm a w=>∃env σ' aO,a.tmps.size=n/\Rel (cx.all σ vals) env σ' aO a w/\I m env σ'
    refine wpIn_loop (λa w=>∃m,J m a w) (λa w=>afg λm=>J m a w) ⟨m,aal,σ',aO,hn,ic,hI⟩ ?_;rintro a1 w1 ⟨m1,G4⟩;obtain⟨⟨amV,σ1,kh,Kt,Gw,xi⟩,_⟩:=Vf (p:=λm=>J m a1 w1) G4;have zZ:∀k,BP λe σ'=>gc (List.range σ.length) e σ' live.tail λe' σ'=>∃m,m<k/\I m e' σ':=λk env aal σ h=>ana h σ live.tail _
    refine wpIn_mono (ih pb hb (· =cx.all σ vals) F m0 _ _ amV σ1 kh a1 w1 (.inl ko) (.inl λc hc=>hc▸ajT) hF rfl (λc hc=>hc▸hP cx hC) (S_ (zZ _) hQ) Kt Gw (avH _ amV σ1 xi)) ?_;intro e a' w' hp;cases e with
    |normal=>
     obtain⟨lB,ahb,σ2,lh,rfl,LD,CW,h2⟩:=hp;obtain⟨ahc,σ3,II,⟨k,hk,xk⟩,pq⟩:=Pm ags adQ CW live.tail h2;have R9:J k a' w':=⟨ahc,σ3,II,LD,pq,xk⟩
     exact⟨⟨k,R9⟩,zbT ((Vf (p:=λm=>J m a' w') R9).2 k R9) hk⟩
    |exit i=>exact hp
    |ret=>exact hp
    |_=>exact hp
   ·intro e a' w' hp;cases e with
    |normal=>obtain⟨_,ahb,σ2,lh,rfl,LD,CW,h2⟩:=hp;exact⟨cx,ahb,σ2,lh,hC,LD,Nr IH CW,h2⟩
    |exit i=>obtain⟨_,ahb,σ2,lh,rfl,LD,CW,h2⟩:=hp;exact⟨cx,ahb,σ2,lh,hC,LD,Nr IH CW,h2⟩
    |ret=>obtain⟨_,ahb,σ2,lh,rfl,LD,CW,h2⟩:=hp;exact⟨cx,ahb,σ2,lh,hC,LD,Nr IH CW,h2⟩
    |_=>exact hp
  |false=>
  rw[Eo]at h;have zS:F=Fence.wide/\1<=m0/\au0 P pin C∧∀cx,C cx->cx.P=P:=by
   rcases hS with hS|hS
   ·have hS:(match isK live with|true=>fw pb|false=>false)=true:=hS;rw[Eo]at hS;cases hS
   ·exact hS
  obtain⟨aal,σ',aO,h,ic⟩:=afZ (zS.2.2.1.gh cx hC) (zS.2.2.1.pin cx hC) hr live (show gc pin env σ live (λenv σ=>auQ pin live (vc Γ pin ps pb) Q env σ)from h);obtain⟨I,m,hI,avH⟩:=h
  let J:Nat->Act->World->Prop:=λm a w=>∃cx env σ vals,C cx/\a.tmps.size=n/\Rel cx env σ vals a w/\I m env σ
  refine wpIn_loop (λa w=>∃m,J m a w) (λa w=>afg λm=>J m a w) ⟨m,cx,aal,σ',aO,hC,hn,ic,hI⟩ ?_;rintro a1 w1 ⟨m1,G4⟩;obtain⟨⟨cx1,amV,σ1,kh,w_,Kt,Gw,xi⟩,_⟩:=Vf (p:=λm=>J m a1 w1) G4;have zZ:∀k,BP λe σ=>gc pin e σ live λe' σ'=>∃m,m<k/\I m e' σ':=λk env aal σ h=>ana h σ live _
  refine wpIn_mono (ih pb hb C F m0 cx1 _ amV σ1 kh a1 w1 (.inr zS) (.inl (zS.2.2.1.lo)) hF w_ hP (S_ (zZ _) hQ) Kt Gw (avH _ amV σ1 xi)) ?_;intro e a' w' hp;cases e with
  |normal=>
   obtain⟨lB,ahb,σ2,lh,wZ,LD,CW,h2⟩:=hp;obtain⟨ahc,σ3,II,⟨k,hk,xk⟩,pq⟩:=afZ (zS.2.2.1.gh lB wZ) (zS.2.2.1.pin lB wZ) CW live h2;have R9:J k a' w':=⟨lB,ahc,σ3,II,wZ,LD,pq,xk⟩
   exact⟨⟨k,R9⟩,zbT ((Vf (p:=λm=>J m a' w') R9).2 k R9) hk⟩
  |exit i=>exact hp
  |ret=>exact hp
  |_=>exact hp
 |rangeFunc f pa qJ b _ ih=>
  intro pc hc C F m cx Q env σ vals a w hS hG hF hC hP hQ hn hr h;obtain⟨l,hl,hc⟩:=aX (show opt (adX P n qJ) (λl=>opt (nR P n b) λb=>oV (pa.toList.all λp=>Nat.blt p n) (some (PC.rangeF f pa.toList l b)))=some (strip pc)from hc);obtain⟨pb,hb,hc⟩:=aX hc;obtain⟨lk,hc⟩:=eB hc;obtain⟨pb,rfl,rfl⟩:=agG hc;have zS:F=Fence.wide/\1<=m/\au0 P pin C∧∀cx,C cx->cx.P=P:=by
   rcases hS with hS|hS
   ·cases hS
   ·exact hS
  obtain⟨rfl,h1,hW,_⟩:=zS;have h:(match fw pb with|true=>canon env ps λenv=>ev env f λf=>an4 Γ pin ps pa.toList l (vc Γ pin ps pb) Q f env σ|false=>False):=h;cases ko:fw pb with
  |false=>rw[ko]at h;exact h.elim
  |true=>
  rw[ko]at h;obtain⟨aal,h,ic⟩:=L6 hr h;have h:=aR _ _ _ h;exact akc hW hΓ h1 hC (hP cx hC) hl (λp hp=>za3 (by have:=zbp.1 lk p hp;exact this))
   (λET aKx F k Q env σ vals a w xm xp ba CW xq hv=>ih pb hb (· =ET) F k ET Q env σ vals a w (.inl ko) (.inl λc hc=>hc▸aKx) xm rfl (λc hc=>hc▸xp) xq ba CW hv) hn ic h
 |exit id=>
  intro pc hc C F m cx Q env σ vals a w _ _ _ hC hP _ hn hr h;have hc:=alO hc;subst hc;exact wpIn_exit ⟨cx,env,σ,vals,hC,hn,hr,h⟩
 |ret=>
  intro pc hc C F m cx Q env σ vals a w _ _ _ hC hP _ hn hr h;have hc:=apy hc;subst hc;exact wpIn_ret ⟨cx,env,σ,vals,hC,hn,hr,h⟩
 |_=>intro pc hc;cases hc
end
end
end Go.Dv
namespace Go.Dv
open Go.RowKit
section
section
variable {P:Program} {Γ:Ctx} {N:Nat} {jN:Nat->Prop} {W:World} {a:Act}
structure NF(N:Nat)(jN:Nat->Prop)(W:World)(a:Act)(E:List (Nat×PV)):Prop where
 size:a.tmps.size=N
 defs:a.defers=[]
 ok:∀b,jN b->b<W.heap.size
 rd:∀q∈E,Rd jN W q.2 (a.tmps.getD q.1 undef)
def mh(E:List (Nat×PV)):Env:=E.map λq=>(q.1,.pv q.2)
def Y8(P:Program)(jN:Nat->Prop)(W:World)(di:∀b,jN b->b<W.heap.size):Cx:=
 { P:=P,w0:=W,eC:=jN,hA:=di,keep:=λb=>b<W.heap.size,hk:=λ_ h=>h }
def Xr(E:List (Nat×PV))(p:Nat):aE p (mh E)=.bad∨∃q∈E,q.1=p/\aE p (mh E)=.pv q.2:=by
 induction E with
 |nil=>exact .inl rfl
 |cons q E ih=>
  show(bif Nat.beq q.1 p then AV.pv q.2 else aE p (mh E))=.bad∨∃q'∈q::E,q'.1=p/\(bif Nat.beq q.1 p then AV.pv q.2 else aE p (mh E))=.pv q'.2;cases h:Nat.beq q.1 p with
  |true=>exact .inr ⟨q,aj,zab h,rfl⟩
  |false=>
   rcases ih with h|⟨q',h1,h2,h3⟩
   ·exact .inl h
   ·exact .inr ⟨q',by simp[h1],h2,h3⟩
def NF.rel{E:List (Nat×PV)}(I:NF N jN W a E):Rel (Y8 P jN W I.ok) (mh E) [] [] a W:=by
 have di:∀b,jN b->Ok (Y8 P jN W I.ok) [] [] W b:=λb hb=>⟨.inl hb,I.ok b hb,λ⟨i,s,v,hi,_⟩=>r_⟩
 refine⟨⟨Cg.refl _ _,aj,rfl,λi s v hi=>r_,λi j s t u v b _ hi=>r_,⟨zai _,λ_ _=>rfl,λb hm=>?_⟩,⟨λi v h=>by simp[Y8]at h,by simp[Y8],λi hi=>by simp[Y8]at hi,λi hi=>by simp[Y8]at hi⟩⟩,λp=>?_,I.defs,λx v hg=>hg.elim,λp hp=>absurd hp (Nat.not_lt_zero p)⟩
 ·obtain⟨i,s,v,hi,_⟩:=hm;simp at hi
 ·rcases Xr E p with h|⟨q,h1,rfl,h3⟩
  ·rw[h];simp only[RA]
  ·rw[h3];simp only[RA];exact Rd.mono di (λ_ _ _=>rfl) _ _ (I.rd q h1)
noncomputable def fB(E:List (Nat×PV))(env:Env):Prop:=List.rec True (λq _ ih=>aE q.1 env=.pv q.2/\ih) E
def Vy{E:List (Nat×PV)}{env:Env}(h:fB E env):∀q∈E,aE q.1 env=.pv q.2:=by
 induction E with
 |nil=>simp
 |cons q E ih=>
  have h:aE q.1 env=.pv q.2/\fB E env:=h;intro x hx;rcases zax.1 hx with rfl|hx
  ·exact h.1
  ·exact ih h.2 x hx
def TA{E:List (Nat×PV)}{env aal:Env}(h:∀p,aE p aal=aE p env):fB E aal=fB E env:=by
 induction E with
 |nil=>rfl
 |cons q E ih=>
  show(aE q.1 aal=.pv q.2/\fB E aal)=(aE q.1 env=.pv q.2/\fB E env)
  rw[h,ih]
def NF.after{cx:Cx}{E:List (Nat×PV)}{env:Env}{σ:aF}{vals:List Value}{a':Act}{W':World}{di:∀b,jN b->b<W.heap.size}(hc:cx=Y8 P jN W di)(hs:a'.tmps.size=N)(hr:Rel cx env σ vals a' W')(hE:fB E env):
 ∃Qg,NF N Qg W' a' E/\W.grownBy W' none∧∀b,Qg b->jN b\/W.heap.size<=b:=by
 subst hc;refine⟨Ok (Y8 P jN W di) σ vals W',⟨hs,hr.defers,λb hb=>hb.2.1,λq hq=>?_⟩,⟨hr.s.below.os,hr.s.below.tape,hr.s.below.output,hr.s.below.size,λk hk _=>hr.s.fr.same k hk⟩,λb hb=>hb.1⟩;have:=hr.env q.1;rw[Vy hE q hq]at this;simpa only[RA]using this
noncomputable def Uz(l:List Operand)(E:List (Nat×PV)):Ex->Env->aF->Prop:=λe env σ=>match e with
 | .normal=>aye l (λenv _=>fB E env) env σ
 |_=>False
def Lv(E:List (Nat×PV)):∀(l:List Operand) {env aal:Env} (σ:aF),(∀p,aE p aal=aE p env)->aye l (λenv _=>fB E env) aal σ=aye l (λenv _=>fB E env) env σ
 |[],env,aal,σ,h=>TA h
 |o::l,env,aal,σ,h=>by
  cases o with
  |tmp t=>
   show aBG t (aye l λenv _=>fB E env) aal σ=aBG t (aye l λenv _=>fB E env) env σ;unfold aBG;rw[look_eq,look_eq,h t];cases aJJ σ (aE t env)with
   |false=>exact Lv E l σ h
   |true=>
    have e:(λ(xs:List PV) (σ':aF)=>(match xs with|[]=>False|x::_=>aye l (λenv _=>fB E env) ((t,AV.pv x)::aal) σ'))=λxs σ'=>match xs with|[]=>False|x::_=>aye l (λenv _=>fB E env) ((t,AV.pv x)::env) σ':=by
     funext xs σ';cases xs with
     |nil=>rfl
     |cons x xs=>
      refine Lv E l σ' λp=>?_
      show(bif Nat.beq t p then AV.pv x else aE p aal)=(bif Nat.beq t p then AV.pv x else aE p env)
      rw[h]
    exact congrArg (Ho [aE t env] σ) e
  |_=>exact Lv E l σ h
def Y3(l:List Operand)(E:List (Nat×PV)):∀e,BP (Uz l E e):=by
 intro e env aal σ h;cases e with
 |normal=>exact Lv E l σ h
 |_=>rfl
def NF.piece(hΓ:Sound P Γ)(kj:P.follows .mixedOrders=true){E E':List (Nat×PV)}(I:NF N jN W a E){ps:List Nat}{c:Code}{pc:PC}(hc:nR P N c=some (strip pc))(hs:fw pc=true)(l:List Operand)
 (hv:vc Γ [] ps pc (Uz l E') (mh E) []) (m:Nat) {R:Exit->Act->World->Prop} (h:∀Qg a' W',NF N Qg W' a' E'->W.grownBy W' none->(∀b,Qg b->jN b\/W.heap.size<=b)->R .normal a' W'):
 c.wpIn Fence.wide m P R a W:=by
 have:=GH (P:=P) (ps:=ps) hΓ kj c pc hc (· =Y8 P jN W I.ok) Fence.wide m _ (Uz l E') (mh E) [] [] a W (.inl hs) (.inl λcx h=>by rw[h];rfl) (.inl rfl) rfl (λcx h=>by rw[h];rfl) (Y3 l E') I.size I.rel hv;refine wpIn_mono this ?_;intro e a' W' hp;cases e with
 |normal=>
  obtain⟨cx,env,σ,vals,uu,Et,ic,hq⟩:=hp;obtain⟨ahb,σ2,h2,CW⟩:=auB ic (show aye l (λenv _=>fB E' env) env σ from hq);obtain⟨Qg,h3,h4,h5⟩:=NF.after uu Et CW h2;exact h Qg a' W' h3 h4 h5
 |exit i=>obtain⟨_,_,_,_,_,_,_,hq⟩:=hp;exact(show False from hq).elim
 |ret=>obtain⟨_,_,_,_,_,_,_,hq⟩:=hp;exact(show False from hq).elim
 |_=>exact hp.elim
def Vl{cx:Cx}{n:Nat}{ops:Array Oper}(hΓ:Sound cx.P Γ){f:Nat->PO}{dr:Bool}(hc:Ux cx.P dr ops n f){K:Env->aF->Prop}{Q:Exit->Act->World->Prop}{F:Fence}{m:Nat}(hF:aaf F)(UC:cx.lo=0)(js:List Nat)
 (hQ:∀aal σ' aO a' w',a'.tmps.size=n->Rel cx aal σ' aO a' w'->K aal σ'->wpOpsIn F m cx.P ops Q js a' w'):
 ∀(is:List Nat) (env:Env) (σ:aF) (vals:List Value) (a:Act) (w:World),(∀i∈is,i<ops.size)->a.tmps.size=n->Rel cx env σ vals a w->X5 Γ K (is.map f) env σ->wpOpsIn F m cx.P ops Q (is++js) a w:=by
 intro is
 induction is with
 |nil=>intro env σ vals a w _ hn hr h;exact hQ _ _ _ _ _ hn hr h
 |cons i is ih=>
  intro env σ vals a w hi hn hr h;rw[zau,vh]at h;rw[zbd,wpOpsIn_cons];exact afj hΓ hc (hi i aj) hn hr hF (λd _=>by rw[UC];exact zbV _) (λaal σ' aO a' w' ba ic hK=>ih aal σ' aO a' w' (λj hj=>hi j (by simp[hj])) ba ic hK) h
def NF.ops(hΓ:Sound P Γ){E E':List (Nat×PV)}(I:NF N jN W a E){ops:Array Oper}{l:List PO}(hl:Ol (UR P false ops N) ops.toList=some l){Q:Exit->Act->World->Prop}{m:Nat}(i k:Nat)(js:List Nat)(hk:i+k<=l.length)
 (hv:X5 Γ (λenv _=>fB E' env) ((l.drop i).take k) (mh E) []) (h:∀Qg a' W',NF N Qg W' a' E'->W.grownBy W' none->(∀b,Qg b->jN b\/W.heap.size<=b)->wpOpsIn Fence.wide m P ops Q js a' W'):
 wpOpsIn Fence.wide m P ops Q (List.range' i k++js) a W:=by
 obtain⟨hlen,h1,_⟩:=Tn hl ⟨none,none,.nilS 0⟩;refine Vl (cx:=Y8 P jN W I.ok) hΓ h1 (K:=λenv _=>fB E' env) (.inl rfl) rfl js (λaal σ' aO a' w' ba ic hK=>?_) _ (mh E) [] [] a W (λj hj=>by rw[List.mem_range'_1]at hj;omega) I.size I.rel ?_
 ·obtain⟨Qg,h3,h4,h5⟩:=NF.after rfl ba ic hK;exact h Qg a' w' h3 h4 h5
 ·have e:(List.range' i k).map (λj=>l.getD j ⟨none,none,.nilS 0⟩)=(l.drop i).take k:=by
   refine zba λj=>?_
   rw[za9];by_cases hj:j<k
   ·rw[List.getElem?_take_of_lt hj,zaB,List.getElem?_range' hj,zbJ,zbo,Nat.one_mul,zah ab];rfl
   ·rw[zaK aH,zaK aH];rfl
  rw[e];exact hv
def NF.get{E:List (Nat×PV)}(I:NF N jN W a E){p:Nat}{x:PV}(h:(p,x)∈E):Rd jN W x (a.tmps.getD p undef):=I.rd _ h
def NF.sub{E E':List (Nat×PV)}(I:NF N jN W a E)(h:∀q∈E',q∈E):NF N jN W a E':=⟨I.size,I.defs,I.ok,λq hq=>I.rd q (h q hq)⟩
def NF.round{E:List (Nat×PV)}(I:NF N jN W a E){n0:Nat}{X X':Nat->Prop}{W':World}(k:U6 n0 X X' W W')(hx:∀b,jN b→¬X b):NF N jN W' a E∧∀b,jN b→¬X' b:=by
 refine⟨⟨I.size,I.defs,λb hb=>zae (I.ok b hb) k.size,λq hq=>?_⟩,λb hb h=>?_⟩
 ·refine Rd.iF (λ_ h=>h) (λb o u hb hc=>?_) _ _ (I.rd q hq);have e:∃ob:Obj,W.heap[b]?=some ob/\ob.isCells=true:=by
   unfold World.cell? at hc;cases t_:W.heap[b]? with
   |none=>simp[t_]at hc
   |some ob=>cases ob<;>first|exact⟨_,rfl,rfl⟩|(simp[t_]at hc)
  rw[World.cell?_of_block (k.same b (I.ok b hb) (hx b hb) (.inr e))];exact hc
 ·rcases k.YE b h with g|g
  ·exact hx b hb g
  ·have:=I.ok b hb;omega
def NF.put{E E':List (Nat×PV)}(I:NF N jN W a E){d:Nat}{v:Value}{x:PV}(hd:d<N)(hx:Rd jN W x v)(h:∀q∈E',q=(d,x)\/(q∈E/\q.1≠d)):NF N jN W (a.put (some d) v) E':=by
 refine⟨(xL ..).trans I.size,I.defs,I.ok,λq hq=>?_⟩;have e:∀p,(a.put (some d) v).tmps.getD p undef=if d=p then v else a.tmps.getD p undef:=λp=>by
  show(a.tmps.setIfInBounds d v).getD p undef=_;rw[getD_eq,getD_eq,zbu];by_cases h:d=p
  ·subst h;simp[I.size,hd]
  ·simp[h]
 rw[e];rcases h q hq with rfl|⟨h1,h2⟩
 ·rw[if_pos rfl];exact hx
 ·rw[if_neg (Ne.symm h2)];exact I.rd q h1
def YK{ops:Array Oper}{Q:Exit->Act->World->Prop}{m i d f x l:Nat}{rest:List Nat}{o:Oper}{cc:Call}(ho:ops[i]?=some o)(hw:Region.wanted o (yielded ops a.tmps)=true)(hd:o.dst=some d)(sM:o.op=.call cc)(Nu:cc.callee=.value (.tmp f))(aDq:cc.args= #[.tmp x])
 (hf:a.tmps.getD f undef=.func (.yield l) #[] #[]) (hY:YieldAt Fence.wide (m-1) P l #[a.tmps.getD x undef] W λe W'=>∃v,e=.returned v/\wpOpsIn Fence.wide m P ops Q rest (a.put (some d) v) W'):wpOpsIn Fence.wide m P ops Q (i::rest) a W:=by
 obtain⟨fn,tmps,assign,body,hr,hR⟩:=hY;have cL:(execOp a.eval o).run P W=.ok (.round l fn tmps assign body) W:=by
  have D0:a.eval (.tmp f)=.func (.yield l) #[] #[]:=hf;rw[<-hr];unfold execOp;rw[sM];simp only[resolve,Nu,aDq,D0,List.map_toArray,zau,List.map_nil];rfl
 rw[wpOpsIn_cons];unfold wpOpIn;simp only[ho];rw[if_pos hw];refine⟨λf _=>trivial,?_⟩;rw[Oper.semAt_eq _ _ _ (λc hc=>by rw[sM]at hc;cases hc),cL,Oper.uponIn_round,hd];refine⟨λh=>bV,hR.mono ?_⟩;rintro e w' ⟨v,rfl,h⟩;exact h
def Xd{ops:Array Oper}{o oj:Oper}{j g:Nat}{b:Bool}(hg:o.guard=some (j,b))(hj:ops[j]?=some oj)(hd:oj.dst=some g)(ht:a.tmps.getD g undef=.bool b):Region.wanted o (yielded ops a.tmps)=true:=by
 have hy:yielded ops a.tmps j=some b:=by
  unfold yielded;simp only[hj,zbG,hd];cases h:a.tmps[g]? with
  |none=>rw[getD_eq,h]at ht;cases ht
  |some v=>rw[getD_eq,h]at ht;simp only[zbx]at ht;rw[ht]
 simp only[Region.wanted,hg,hy];cases b<;>rfl
end
end
end Go.Dv
