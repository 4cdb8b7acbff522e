/- Own work: parts of the proof, shortened and laid together by a tool of our own. -/
import Derived.Test.YtgcbmecmjnfleaaGreatP1
import Derived.MapKept
import Derived.Orders
import Derived.TacticsIn
import Derived.OrdersIn
import Derived.RangeFuncCalls
import Derived.ControlIn
set_option linter.defProp false
set_option linter.unusedSimpArgs false
set_option linter.unusedVariables false
open List renaming getElem?_eq_some_iff→zaa, getElem?_eq_getElem→zak, getElem?_append_left→zar, mem_of_getElem?→zad, mem_append→zax, eq_nil_of_length_eq_zero→zaf, append_nil→zaY, getElem?_eq_none→zaK, getElem?_append_right→zam, length_append→zae, mem_range→zbo, mem_filter→zbp, length_set→zaL, append_assoc→zah, mem_of_mem_take→za4, eq_of_mem_replicate→zbr, mem_cons→zay, take_of_length_le→za1, mem_iff_getElem?→zaB, map_cons→zav, mem_singleton→zbs, ext_getElem?→zbb, getElem?_set→zaR, mem_of_mem_drop→zbu, length_cons→zap, flatMap_append→zaz, length_nil→zaZ, pairwise_iff_getElem→zbv, flatMap_cons→zao, length_take→zal, mem_flatMap→zbx, take_append_drop→zaA, map_congr_left→zbA, getElem?_drop→zaH, getElem?_map→zbC, getElem?_inj→zbD, mem_or_eq_of_mem_set→zbF, mem_map→zaX, getElem?_cons_succ→zbH, map_append→zaD, append_eq_nil_iff→zbI, contains_iff_mem→zbJ, length_singleton→zbK, getElem?_range→zbM, getD_cons_zero→zbN, filter_append→zbO, getElem?_take→zaI, filter_congr→zbP, length_drop→zbf, getElem_set→zbQ, cons_append→zbe, filter_cons→zbS, nodup_range→zbT, take_left'→zaF, nil_append→za0, range_add→zbV
open Array renaming getD_eq_getD_getElem?→zbn, getElem?_eq_getElem→zaE, getElem?_eq_some_iff→zai, getElem?_setIfInBounds_self_of_lt→zbq, getElem?_setIfInBounds→zbB
open Nat renaming eq_of_beq_eq_true→zab, le_refl→zaj, lt_of_lt_of_le→zag, lt_or_ge→zbt, le_of_ble_eq_true→za3, mul_le_mul_right→zaC, min_eq_left→zau, beq_refl→zbz, lt_trichotomy→zbE, zero_add→zaU, min_eq_right→zbG, le_trans→zat, add_zero→zaW
open Bool renaming and_eq_true→zaT, not_eq_true'→zbw, and_eq_true_iff→zbL, not_false→zbi
open Option renaming getD_some→zby, bind_some→zbR, map_some→zbU
set_option maxHeartbeats 16000000
noncomputable section
namespace Go.Dv
open Go.RowKit Go.Lib
section
section
variable {cx:Cx} {env:Env} {σ:aw} {vals:List Value} {a:Act} {w w':World} {o:Oper}
def ba.over(P:Program)(hr:ba cx σ vals w){id:Nat}{e:TypeId}{sz:Nat}{ap:Bool}{ak:List PV}(hb:σ[id]?=some (.row e sz ap ak)){g n0 c0:Nat}(hu:vals[id]?=some (.slice (some ⟨g,0,none⟩) n0 c0))(lo:Nat)(zs:List PV)(us:List Value)
 (hz:cE (Ok cx σ vals w) w (zs.flatMap PV.cells) us) (fY:∀c∈zs.flatMap PV.cells,c.one=true) (hl:∀x∈zs,x.cells.length=sz) (hle:lo+zs.length<=ak.length):
 ∃w',(storeCells ⟨g,lo*sz,none⟩ us).run P w=.ok () w'/\ba cx (σ.set id (.row e sz ap (ak.take lo++zs++ak.drop (lo+zs.length)))) vals w'/\cm cx σ vals w (σ.set id (.row e sz ap (ak.take lo++zs++ak.drop (lo+zs.length)))) vals w':=by
 have nQ:=hr.iU id _ _ hb hu;obtain⟨kq,cells,dx,Xk,aeE,pH⟩:=nQ;have KX:n0=ak.length:=by
  rcases dx.2 with⟨h1,_⟩|⟨_,_,_,_,h1,_⟩
  ·cases h1
  ·cases h1;rfl
 subst KX;rcases dx with⟨KT,⟨h1,_⟩|⟨gg,cap,cur,fr,h1,h2,h3,h4,h5,h6,h7,h8⟩⟩
 ·cases h1
 cases h1;have aeF:us.length=zs.length*sz:=KG;have hT:((ak.take lo).flatMap PV.cells).length=lo*sz:=by
  rw[gb sz _ (λz hz=>Xk z (za4 hz)),zal,zau aa]
 have hM:(((ak.drop lo).take zs.length).flatMap PV.cells).length=zs.length*sz:=by
  rw[gb sz _ (λz hz=>Xk z (zbu (za4 hz))),zal,zbf,zau aa]
 have asa:ak=ak.take lo++(ak.drop lo).take zs.length++ak.drop (lo+zs.length):=by
  rw[zah,<-List.drop_drop,zaA,zaA]
 have hf1:ak.flatMap PV.cells=(ak.take lo).flatMap PV.cells++((ak.drop lo).take zs.length).flatMap PV.cells++(ak.drop (lo+zs.length)).flatMap PV.cells:=by
  conv=>lhs;rw[asa]
  rw[zaz,zaz]
 have hf2:(ak.take lo++zs++ak.drop (lo+zs.length)).flatMap PV.cells=(ak.take lo).flatMap PV.cells++zs.flatMap PV.cells++(ak.drop (lo+zs.length)).flatMap PV.cells:=by
  rw[zaz,zaz]
 have aE2:=pH;rw[hf1]at pH;obtain⟨c12,c3,zX,r12,r3⟩:=(c8 _ _ _).1 pH;obtain⟨c1,c2,rfl,r1,r2⟩:=(c8 _ _ _).1 r12;have R7:c1.length=lo*sz:=by rw[r1.length,hT]
 have LZ:c2.length=zs.length*sz:=by rw[r2.length,hM]
 have hmul:lo*sz+zs.length*sz<=ak.length*sz:=by rw[<-Nat.add_mul];exact zaC _ hle
 have aCr:ak.length*sz<=cur.size:=by rw[h6];exact zaC _ h4
 obtain⟨w',EJ,f1,f2,f3,f4,f5,f6,f7,f8⟩:=Ca P g (lo*sz) e fr us 0 cur w h3 aa (h8.imp (λh=>h) λh=>h.2) (cE.Ec hz fY);have KV:cur.toList=(c1++c2++c3)++cur.toList.drop (ak.length*sz):=by
  rw[<-zX,<-h7,zaA]
 have R8:EJ.toList=(c1++us++c3)++cur.toList.drop (ak.length*sz):=by
  rw[f3,zaW];have e1:cur.toList.take (lo*sz)=c1:=by
   rw[KV,zah,zah];exact zaF R7
  have e2:cur.toList.drop (lo*sz+us.length)=c3++cur.toList.drop (ak.length*sz):=by
   conv=>lhs;rw[KV]
   rw[zah];exact List.drop_left' (by rw[zae,R7,LZ,aeF])
  rw[e1,e2];simp[zah]
 have K7:(ak.take lo++zs++ak.drop (lo+zs.length)).length=ak.length:=aT;obtain⟨hs,vV⟩:=hr.write (s':=.row e sz ap (ak.take lo++zs++ak.drop (lo+zs.length))) hb rfl rfl ⟨rfl,rfl⟩ hu rfl f4 f5 f6 f7 f8 (λvV=>by
  have aaQ:EJ.size=cur.size:=by
   have e1:=congrArg List.length R8;have e2:=congrArg List.length KV;simp only[zae,Array.length_toList,aeF,LZ]at e1 e2;omega
  refine⟨kq,c1++us++c3,⟨?_,.inr ⟨g,c0,EJ,fr,by rw[K7],h2,f2,by rw[K7];exact h4,h5,by rw[aaQ,h6],?_,by rw[aaQ];exact h8⟩⟩,?_,?_,?_⟩
  ·rw[K7,<-KT,zX];simp only[zae,aeF,LZ]
  ·rw[K7,R8];refine zaF ?_;rw[<-KT,zX];simp only[zae,aeF,LZ]
  ·intro z hz;simp only[zax]at hz;rcases hz with(hz|hz)|hz
   ·exact Xk z (za4 hz)
   ·exact hl z hz
   ·exact Xk z (zbu hz)
  ·intro c hc;rw[hf2]at hc;rw[hf1]at aeE;simp only[zax]at hc aeE;rcases hc with(hc|hc)|hc
   ·exact aeE c (.inl (.inl hc))
   ·exact fY c hc
   ·exact aeE c (.inr hc)
  ·rw[hf2];exact(c8 _ _ _).2 ⟨_,_,rfl,(c8 _ _ _).2 ⟨_,_,rfl,vV.TO r1,vV.TO hz⟩,vV.TO r3⟩)
 exact⟨w',f1,hs,vV⟩
def ER(sz:Nat)(ys:List PV)(hl:∀y∈ys,y.cells.length=sz):∀n:Nat,(ys.take n).flatMap PV.cells=(ys.flatMap PV.cells).take (n*sz):=by
 induction ys with
 |nil=>simp
 |cons y ys ih=>
  intro n;cases n with
  |zero=>simp
  |succ n=>
   rw[List.take_succ_cons,zao,zao,Nat.add_mul]
   grind
def P5{ok:Nat->Prop}(l:List PV)(vs:List Value)(n:Nat)(h:cE ok w l vs):cE ok w (l.take n) (vs.take n):=by
 obtain⟨h1,h2⟩:=(kW l vs).1 h;refine(kW _ _).2 ⟨by simp[h1],λj c v hc hv=>?_⟩
 grind
def B4(hr:Rel cx env σ vals a w)(sz:Nat)(x:Operand)(ys:List PV)(us:List Value)(hz:cE (Ok cx σ vals w) w (ys.flatMap PV.cells) us)(fY:∀c∈ys.flatMap PV.cells,c.one=true)(hl:∀y∈ys,y.cells.length=sz){K:Nat->aw->Prop}
 (hK:BS σ sz (a_ env x) ys K):∃ad len cap σ' w',a.eval x=.slice ad len cap/\K (min ys.length len) σ'/\Rel cx env σ' vals a w'/\
  ((min ys.length len=0/\w'=w)∨∃g,ad=some g/\(storeCells g (us.take (min ys.length len*sz))).run cx.P w=.ok () w'):=by
 have hx:=hr.ev x;cases pg:a_ env x with
 |pv p=>
  rw[pg]at hK hx;cases p with
  |nil s=>
   simp only[RA,Rd]at hx;exact⟨none,0,0,σ,w,hx,by simpa using(show K 0 σ from hK),hr,.inl ⟨ae,rfl⟩⟩
  |_=>exact dN
 |own id=>
  rw[pg]at hK hx;simp only[RA]at hx;obtain⟨b,hb,hk⟩:=az σ id _ hK;cases b with
  |row e s ap ak=>
   replace hk:(match Nat.beq s sz with
    |true=>iX σ id (.row e s ap (ys.take ak.length++ak.drop ys.length)) λσ=>K (min ys.length ak.length) σ
    |false=>False):=hk
   cases hs:Nat.beq s sz with
   |false=>rw[hs]at hk;exact hk.elim
   |true=>
    rw[hs]at hk;have:=zab hs;subst this;obtain⟨_,hk⟩:=bu _ _ _ _ hk;obtain⟨_,cells,⟨_,dx⟩,_⟩:=hr.s.iU id _ _ hb hx;rcases dx with⟨xX,h0⟩|⟨g,cap,cur,fr,xX,_⟩
    ·have:ak=[]:=zaf h0;subst this;rw[show σ.set id (.row e s ap (ys.take ([]:List PV).length++([]:List PV).drop ys.length))=σ from by
      have aS:=(zaa.1 hb)
      apply zbb;intro j;rw[cY aS.1];split
      ·rename_i hj;subst hj;rw[hb];simp
      ·rfl]at hk
     exact⟨none,0,0,σ,w,xX,by simpa using hk,hr,.inl ⟨ae,rfl⟩⟩
    ·obtain⟨w',f1,f2,f3⟩:=hr.s.over cx.P hb (by rw[hx,xX]) 0 (ys.take ak.length) (us.take (ak.length*s)) (by rw[ER _ _ hl];exact P5 _ _ _ hz)
      (λc hc=>QR) (λy hy=>hl y (za4 hy)) aT
     have e1:ak.take 0++ys.take ak.length++ak.drop (0+(ys.take ak.length).length)=ys.take ak.length++ak.drop ys.length:=by
      rw[List.take_zero,za0,zaU,zal];by_cases h:ys.length<=ak.length
      ·rw[zbG h]
      ·rw[zau aa,List.drop_length,List.drop_eq_nil_of_le aa]
     rw[e1]at f2 f3;refine⟨_,_,_,_,w',xX,hk,hr.keep f2 f3,.inr ⟨_,rfl,?_⟩⟩;rw[Nat.zero_mul]at f1;rw[<-f1];congr 2;have hul:us.length=ys.length*s:=KG;by_cases h:ys.length<=ak.length
     ·rw[zau h,za1 aa,za1 (by rw[hul];exact zaC _ h)]
     ·rw[zbG aa]
  |_=>exact hk.elim
 |sub id z lo n=>
  rw[pg]at hK hx;replace hK:(match Nat.beq z sz with
   |true=>dm σ id λb=>match b with
    | .row e s ap ak=>match Nat.beq s sz with
     |true=>lo+n<=ak.length/\iX σ id (.row e s ap (ak.take lo++ys.take n++ak.drop (lo+min ys.length n))) λσ=>K (min ys.length n) σ
     |false=>False
    |_=>False
   |false=>False):=hK
  cases hs:Nat.beq z sz with
  |false=>rw[hs]at hK;exact hK.elim
  |true=>
   rw[hs]at hK;have:=zab hs;subst this;obtain⟨b,hb,hk⟩:=az σ id _ hK;cases b with
   |row e s ap ak=>
    replace hk:(match Nat.beq s z with
     |true=>lo+n<=ak.length/\iX σ id (.row e s ap (ak.take lo++ys.take n++ak.drop (lo+min ys.length n))) λσ=>K (min ys.length n) σ
     |false=>False):=hk
    cases hs:Nat.beq s z with
    |false=>rw[hs]at hk;exact hk.elim
    |true=>
     rw[hs]at hk;have:=zab hs;subst this;obtain⟨hle,hk⟩:=hk;obtain⟨aS,hk⟩:=bu _ _ _ _ hk;simp only[RA]at hx;obtain⟨_,ad,c,xX,hnc,hcm,VF⟩:=hx;rcases VF with h0|⟨g,n0,c0,f1,rfl⟩
     ·subst h0;rw[show σ.set id (.row e s ap (ak.take lo++ys.take 0++ak.drop (lo+min ys.length 0)))=σ from by
       apply zbb;intro j;rw[cY aS];split
       ·rename_i hj;subst hj;rw[hb];simp
       ·rfl]at hk
      exact⟨ad,0,c,σ,w,xX,hk,hr,.inl ⟨ae,rfl⟩⟩
     ·obtain⟨w',f1,f2,f3⟩:=hr.s.over cx.P hb f1 lo (ys.take n) (us.take (n*s)) (by rw[ER _ _ hl];exact P5 _ _ _ hz)
       (λc hc=>QR) (λy hy=>hl y (za4 hy)) aT
      rw[zal,Nat.min_comm]at f2 f3;refine⟨_,_,_,_,w',xX,hk,hr.keep f2 f3,.inr ⟨_,rfl,?_⟩⟩;rw[<-f1];congr 2;have hul:us.length=ys.length*s:=KG;by_cases h:ys.length<=n
      ·rw[zau h,za1 aa,za1 (by rw[hul];exact zaC _ h)]
      ·rw[zbG aa]
   |_=>exact hk.elim
 |_=>rw[pg]at hK;exact dN
def XQ{K:AV->aw->Prop}(hr:Rel cx env σ vals a w)(t:TypeId)(x:Operand)(ho:o.op=.makeInterface t x)(d:TypeDesc)(hd:cx.P.underlying t=some d)(hn:∀m,d≠.interface m)(hK:K .bad σ):Out cx env a w o K:=by
 refine Out.run (v:=.iface t (a.eval x)) ?_ hr (av:=.bad) aE hK
  <;>first|exact absurd rfl (hn _)|simp[execOp,ho,Instr.makeInterface,run_underlying hd]
def LN(l:List UInt8)(n:Nat):((((⟨l.toArray⟩:ByteArray).extract 0 n).data.map λb=>Value.int .u8 b.toNat)).toList=(strCells ⟨l.toArray⟩).take n:=by
 simp[strCells,cut]
def Z4{K:AV->aw->Prop}(hr:Rel cx env σ vals a w)(t u e:TypeId)(ie:TypeInfo)(x y:Operand)(c:Call)(ho:o.op=.call c)(hc:c.callee=.builtin .copy)(dO:c.args.toList=[x,y])(EN:c.argTypes.toList=[t,u])
 (hu:cx.P.underlying t=some (.slice e)) (pJ:cx.P.info? e=some ie) (kq:ie.size=1)
 (hK:match a_ env y with
   | .pv y=>match y with
    | .str l=>BS σ 1 (a_ env x) (l.map aR) λn σ=>K (.pv (.int .i64 n)) σ
    |_=>False
   |_=>False):Out cx env a w o K:=by
 have fp:c.args= #[x,y]:=aV;have KU:c.argTypes= #[t,u]:=aV;have hy:=hr.ev y
 revert hK hy
 cases a_ env y with
 |pv p=>
  cases p with
  |str l=>
   intro hK hy;simp only[RA,Rd]at hy;obtain⟨ad,len,cap,σ',w',hv,hk,dp,hw⟩:=B4 hr 1 x (l.map aR) (strCells ⟨l.toArray⟩) (by rw[iC,z_];rfl)
    (by rw[iC];intro c hc;rw[zaX]at hc;obtain⟨b,_,rfl⟩:=hc;rfl) (by intro y hy;rw[zaX]at hy;obtain⟨b,_,rfl⟩:=hy;rfl) hK
   rw[List.length_map]at hk hw;refine Out.run (v:=.int .i64 (min l.length len:Nat)) (w':=w') ?_ dp (av:=.pv (.int .i64 (min l.length len:Nat))) (by rfl) hk;have hs:(⟨l.toArray⟩:ByteArray).size=l.length:=rfl;rcases hw with⟨h0,rfl⟩|⟨g,rfl,hw⟩
   ·have hm:Nat.min l.length len=0:=h0;cases ad with
    |none=>simp[execOp,ho,resolve,hc,invoke,builtin,fp,KU,hy,hv,Builtin.copy_,Builtin.lenOf,Builtin.firstCells,run_underlying hu,sizeOf,typeInfo,pJ,hs,goInt,hm,h0]
    |some g=>
     have he:((⟨l.toArray⟩:ByteArray).extract 0 0).data.map (λb=>Value.int .u8 b.toNat)= #[]:=by
      simp
     simp[execOp,ho,resolve,hc,invoke,builtin,fp,KU,hy,hv,Builtin.copy_,Builtin.lenOf,Builtin.firstCells,run_underlying hu,sizeOf,typeInfo,pJ,hs,goInt,hm,h0,he,storeCells]
   ·have iq:=LN l (min l.length len);have hm:Nat.min l.length len=min l.length len:=rfl;simp[execOp,ho,resolve,hc,invoke,builtin,fp,KU,hy,hv,Builtin.copy_,Builtin.lenOf,Builtin.firstCells,run_underlying hu,sizeOf,typeInfo,pJ,hs,goInt,hm]
    simp_all
  |_=>simp
 |_=>simp
def ab1{K:AV->aw->Prop}(hr:Rel cx env σ vals a w)(t u e:TypeId)(ie:TypeInfo)(x y:Operand)(c:Call)(ho:o.op=.call c)(hc:c.callee=.builtin .copy)(dO:c.args.toList=[x,y])(EN:c.argTypes.toList=[t,u])
 (hu:cx.P.underlying t=some (.slice e)) (pJ:cx.P.info? e=some ie)
 (hK:uO σ (a_ env y) λs ys=>match Nat.beq s ie.size with
   |true=>BS σ ie.size (a_ env x) ys λn σ=>K (.pv (.int .i64 n)) σ
   |false=>False):Out cx env a w o K:=by
 have fp:c.args= #[x,y]:=aV;have KU:c.argTypes= #[t,u]:=aV;obtain⟨s,ys,⟨ady,cy,hvy,aE4,_,fN⟩,hK⟩:=vR hr.s (hr.ev y) hK;cases hs:Nat.beq s ie.size with
 |false=>grind
 |true=>
  rw[hs]at hK;have:=zab hs;subst this;obtain⟨news,K7,pH,h1,hl,xG⟩:∃news:List Value,news.length=ys.length*ie.size/\cE (Ok cx σ vals w) w (ys.flatMap PV.cells) news/\(∀c∈ys.flatMap PV.cells,c.one=true)/\(∀y∈ys,y.cells.length=ie.size)/\
   (ys.length=0∨∃a,ady=some a∧∀(j:Nat) (u:Value),news[j]?=some u->w.cell? (a.add j)=some u):=by
   rcases fN with rfl|⟨b,o',rfl,fN⟩
   ·exact⟨[],ae,oZ,ae,ae,.inl rfl⟩
   ·obtain⟨g1,g2⟩:=(lQ b _ ys o').1 fN;obtain⟨g3,us,g4,g5⟩:=(u6 b _ o').1 g2;exact⟨us,by rw[g4.length,gb _ _ g1],g4,g3,g1,.inr ⟨_,rfl,λj u hj=>by rw[fe];grind⟩⟩
  obtain⟨ad,len,cap,σ',w',hv,hk,dp,hw⟩:=B4 hr ie.size x ys news pH h1 hl hK;have hfc:∃arr:Array Value,arr.toList=news.take (min ys.length len*ie.size)/\(Builtin.firstCells ie.size (min ys.length len) (.slice ady ys.length cy)).run cx.P w=.ok arr w:=by
   rcases xG with h0|⟨g,rfl,hn⟩
   ·have h00:min ys.length len=0:=by omega
    rw[h00];cases ady with
    |none=>exact⟨#[],ae,by rfl⟩
    |some g=>exact⟨#[],ae,by
     have:=run_loadCells_list (P:=cx.P) w g [] ae;simp only[zaZ]at this;simp[Builtin.firstCells,this]⟩
   ·have:=run_loadCells_list (P:=cx.P) w g (news.take (min ys.length len*ie.size)) (λj v hj=>by
     grind)
    have hlen:(news.take (min ys.length len*ie.size)).length=min ys.length len*ie.size:=by
     simp_all
    rw[hlen]at this;exact⟨(news.take (min ys.length len*ie.size)).toArray,ae,bL⟩
  obtain⟨arr,T_,hfc⟩:=hfc;refine Out.run (v:=.int .i64 (min ys.length len:Nat)) (w':=w') ?_ dp (av:=.pv (.int .i64 (min ys.length len:Nat))) (by rfl) hk;have asj:a.eval y=.slice ady ys.length cy:=hvy;have hm:Nat.min ys.length len=min ys.length len:=rfl;rcases hw with⟨h0,rfl⟩|⟨g,rfl,hw⟩
  ·have ha:arr= #[]:=by simp_all
   subst ha;cases ad with
   |none=>simp[execOp,ho,resolve,hc,invoke,builtin,fp,KU,asj,hv,Builtin.copy_,Builtin.lenOf,run_underlying hu,sizeOf,typeInfo,pJ,hm,hfc,goInt]
   |some g=>simp[execOp,ho,resolve,hc,invoke,builtin,fp,KU,asj,hv,Builtin.copy_,Builtin.lenOf,run_underlying hu,sizeOf,typeInfo,pJ,hm,hfc,goInt,storeCells]
  ·rw[<-T_]at hw;simp[execOp,ho,resolve,hc,invoke,builtin,fp,KU,asj,hv,Builtin.copy_,Builtin.lenOf,run_underlying hu,sizeOf,typeInfo,pJ,hm,hfc,goInt,hw]
def IX(zv:Array Value)(sz n:Nat)(hz:zv.size=sz):(Builtin.zeroCells zv n).toList=(List.replicate n zv.toList).flatten:=by
 apply zbb;intro j;by_cases hj:j<n*sz
 ·have h0:0<sz:=by grind
  have aCg:j%sz<zv.size:=by rw[hz];exact Nat.mod_lt _ h0
  have:((List.replicate n zv.toList).flatten)[j]?=zv.toList[j%sz]?:=by
   have hg:∀n j,j<n*zv.toList.length->((List.replicate n zv.toList).flatten)[j]?=zv.toList[j%zv.toList.length]?:=by
    intro n
    induction n with
    |zero=>omega
    |succ n ih=>
     intro j h;rw[List.replicate_succ,List.flatten_cons];by_cases hj:j<zv.toList.length
     ·rw[zar hj,Nat.mod_eq_of_lt hj]
     ·rw[zam aa,ih _ aV,<-Nat.mod_eq_sub_mod aa]
   grind
  simp only[Builtin.zeroCells,hz]
  grind
 ·rw[zaK (by simp[Builtin.zeroCells,hz];omega),zaK (by simp_all)]
def abt{K:AV->aw->Prop}(hr:Rel cx env σ vals a w)(t e:TypeId)(ie:TypeInfo)(z:PV)(x:Operand)(c:Call)(ho:o.op=.call c)(hc:c.callee=.builtin .clear)(dO:c.args.toList=[x])(EN:c.argTypes[0]?=some t)
 (hu:cx.P.underlying t=some (.slice e)) (pJ:cx.P.info? e=some ie) (hz:QT cx.P e=some z) (hzl:z.cells.length=ie.size)
 (hK:uO σ (a_ env x) λ_ ak=>BS σ ie.size (a_ env x) (List.replicate ak.length z) λ_ σ=>K .bad σ):Out cx env a w o K:=by
 have fp:c.args= #[x]:=aV;obtain⟨i,zv,hi,R3,h1,h2,h3⟩:=oN hz;rw[pJ]at hi;cases hi;obtain⟨s,ak,⟨adx,Ub,hvx,_⟩,hK⟩:=vR hr.s (hr.ev x) hK;have Ph:zv.cells.size=ie.size:=Eu;have R4:(List.replicate ak.length z).flatMap PV.cells=(List.replicate ak.length z.cells).flatten:=by
  rw[List.flatMap_def,List.map_replicate]
 have iY:cE (Ok cx σ vals w) w ((List.replicate ak.length z).flatMap PV.cells) (List.replicate ak.length zv.cells.toList).flatten:=by
  rw[R4];generalize ak.length=n
  induction n with
  |zero=>rfl
  |succ n ih=>exact(c8 _ _ _).2 ⟨_,_,rfl,h2 _ _,ih⟩
 obtain⟨ad,len,cap,σ',w',hv,hk,dp,hw⟩:=B4 hr ie.size x _ _ iY
  (λc hc=>aV)
  (λy hy=>aV) hK
 rw[hvx]at hv;cases hv;rw[List.length_replicate,Nat.min_self]at hw;refine Out.run (v:=.tuple #[]) (w':=w') ?_ dp (av:=.bad) aE hk;have hzc:=IX zv.cells ie.size ak.length Ph;have Uc:a.eval x=.slice adx ak.length Ub:=hvx;rcases hw with⟨h0,rfl⟩|⟨g,rfl,hw⟩
 ·rw[h0]at Uc;cases adx with
  |none=>simp[execOp,ho,resolve,hc,invoke,builtin,fp,EN,Uc,Builtin.clear_,run_underlying hu]
  |some g=>simp[execOp,ho,resolve,hc,invoke,builtin,fp,EN,Uc,Builtin.clear_,run_underlying hu]
 ·rw[za1 (by simp_all),<-hzc]at hw;cases hn:ak.length with
  |zero=>
   rw[hn]at hw Uc;simp[Builtin.zeroCells,storeCells]at hw;subst hw;simp[execOp,ho,resolve,hc,invoke,builtin,fp,EN,Uc,Builtin.clear_,run_underlying hu]
  |succ m=>
   rw[hn]at hw Uc;simp[execOp,ho,resolve,hc,invoke,builtin,fp,EN,Uc,Builtin.clear_,run_underlying hu,zeroValue,typeInfo,pJ,R3,hw]
def RD(hr:ba cx σ vals w){id:Nat}{e:TypeId}{sz:Nat}{ap:Bool}{ak:List PV}(hb:σ[id]?=some (.row e sz ap ak)){v:Value}(hv:RA (Ok cx σ vals w) σ vals w (.ref id 0 0) v)(hn:0<ak.length):
 ∃g c,v=.pointer (some ⟨g,0,none⟩)/\vals[id]?=some (.slice (some ⟨g,0,none⟩) ak.length c)/\ak.length<=c/\c<=maxLen:=by
 obtain⟨_,_,fN,_⟩:=hv;obtain⟨u,g,hu,hg,rfl⟩:=fN _ _ _ _ hb;obtain⟨_,cells,⟨_,dx⟩,_⟩:=hr.iU id _ _ hb hu;rcases dx with⟨_,h0⟩|⟨g',cap,cur,fr,xX,_,_,h4,h5,_⟩
 ·omega
 ·subst xX;cases hg
  grind
def V9{K:AV->aw->Prop}(hr:Rel cx env σ vals a w)(t:TypeId)(q:PV×Nat)(x ix:Operand)(ho:o.op=.indexAddr t x ix)(hq:td cx.P t=some q)
 (hK:Dv.asInt (a_ env ix) λ_ n=>Fb σ q.2 1 (a_ env x) n λa=>K a σ):Out cx env a w o K:=by
 obtain⟨el,i,it,vs,hu,hi,kq,hit,hz,aey,h8,hmx⟩:=wA hq;have hx:=hr.ev x;have hix:=hr.ev ix;cases aaJ:a_ env ix with
 |pv pi=>
  rw[aaJ]at hK hix;cases pi with
  |int k n=>
   simp only[RA,Rd]at hix;cases pg:a_ env x with
   |ref id idx off=>
    rw[pg]at hK hx;cases idx with
    |succ idx=>trivial
    |zero=>
     cases off with
     |succ off=>trivial
     |zero=>
      obtain⟨b,hb,hk⟩:=az σ id _ (show dm σ id _ from hK);cases b with
      |row e s ap ak=>
       replace hk:(match Nat.beq s 1 with
        |true=>(ak.length=q.2/\0<=n/\n.toNat<q.2)/\K (.ref id n.toNat 0) σ
        |false=>False):=hk
       cases hs:Nat.beq s 1 with
       |false=>grind
       |true=>
        have:=zab hs;subst this;obtain⟨⟨hl,h0,aS⟩,hk⟩:=hk;obtain⟨g,c,hv,zZ,_,_⟩:=RD hr.s hb hx aa;refine Out.run (v:=.pointer (some ⟨g,n.toNat,none⟩)) ?_ hr (av:=.ref id n.toNat 0) ?_ hk
        ·have aCx:n<(q.2:Int):=by omega
         simp[execOp,ho,hv,hix,Instr.indexAt,Instr.sureAddr,asIntOf,run_underlying hu,h0,aCx,sizeOf,typeInfo,hi,kq,fe]
        ·refine⟨(zaa.1 hb).1,⟨_,rfl⟩,λe2 sz2 ap2 Hk h=>?_,λs2 h mN=>?_⟩
         ·rw[hb]at h;cases h;exact⟨_,g,zZ,rfl,ae⟩
         ·rw[hb]at h;cases h;cases mN
      |_=>grind
   |_=>rw[pg]at hK;trivial
  |_=>trivial
 |_=>rw[aaJ]at hK;trivial
def aay{K:AV->aw->Prop}(hr:Rel cx env σ vals a w)(t:TypeId)(q:PV×Nat)(x:Operand)(lo hi:Option Operand)(ho:o.op=.slice t x lo hi none)(hq:td cx.P t=some q)
 (hK:afg σ q.2 1 (a_ env x) (lo.map (a_ env)) (hi.map (a_ env)) K):Out cx env a w o K:=by
 obtain⟨el,i,it,vs,hu,Gt,kq,hit,hz,aey,h8,hmx⟩:=wA hq;have hx:=hr.ev x;cases pg:a_ env x with
 |ref id idx off=>
  rw[pg]at hK hx;cases idx with
  |succ idx=>trivial
  |zero=>
   cases off with
   |succ off=>trivial
   |zero=>
    obtain⟨b,hb,hk⟩:=az σ id _ (show dm σ id _ from hK);cases b with
    |row e s ap ak=>
     cases hs:Nat.beq s 1 with
     |false=>grind
     |true=>
      have:=zab hs;subst this;obtain⟨hl,hk⟩:=hk;obtain⟨g,c,hv,zZ,R7,LZ⟩:=RD hr.s hb hx aa;obtain⟨l,u,h1,h2,h3,h4⟩:=lC hr lo hi false q.2 q.2 (zaj _) _ hk;refine Out.run (v:=.slice (some (if q.2=l then⟨g,0,none⟩else(⟨g,0,none⟩:Addr).add (l*1))) (u-l) (q.2-l)) ?_ hr (av:=.sub id 1 l (u-l)) ?_ h3
      ·simp[execOp,ho,hv,Instr.sliceAt,Instr.sureAddr,run_underlying hu,h4,sizeOf,typeInfo,Gt,kq]
      ·refine⟨(zaa.1 hb).1,_,_,rfl,aa,aa,?_⟩;by_cases hlu:u-l=0
       ·omega
       ·refine .inr ⟨g,_,c,zZ,?_⟩;rw[if_neg aa,fe];simp
    |_=>grind
 |_=>rw[pg]at hK;trivial
def YE(P:Program)(t:TypeId)(x i:Operand)(q:Nat×Bool×Nat)(ho:o.op=.indexAddr t x i)(hq:yF P t i=some q)(b n:Nat)(hv:a.eval x=.pointer (some ⟨b,n,none⟩)):
 (execOp a.eval o).run P w=.ok (.value (.pointer (some ⟨b,n+q.1,none⟩))) w:=by
 unfold yF at hq;split at hq
 ·rename_i m e hu;split at hq
  ·split at hq
   ·rename_i kd k;obtain⟨s,hs,hq⟩:=vr hq;unfold jh at hq;split at hq
    ·rename_i hb;cases hq;simp only[zaT,decide_eq_true_eq]at hb;obtain⟨j,hj,hjs⟩:=(o4 hs).info;have pg:a.eval (.const (.int kd k))=.int kd k:=rfl;have aS:k<(m:Int):=aa;simp[execOp,ho,hv,pg,Instr.indexAt,Instr.sureAddr,asIntOf,run_underlying hu,hb.1.1,aS,sizeOf,typeInfo,hj,hjs,fe]
    grind
   grind
  grind
 grind
end
end
end Go.Dv
namespace Go.Dv
open Go.RowKit
section
section
variable {cx:Cx} {env:Env} {σ:aw} {vals:List Value} {a:Act} {w w':World} {o:Oper}
def Nn{P:Program}(w:World)(d:Nat)(t e:TypeId)(ad:Option Addr)(n c:Nat)(ht:P.underlying t=some (.slice e)):(Op.equalIn (d+1) t (.slice ad n c) (.slice none 0 0)).run P w=.ok ad.isNone w:=by
 cases ad<;>simp[Op.equalIn,run_underlying ht]
def WN{P:Program}(w:World)(neg:Bool)(t u:TypeId)(x y:Operand)(e:TypeId)(ad:Option Addr)(n c:Nat)(ht:P.underlying t=some (.slice e))(ρ:Operand->Value)(hx:ρ x=.slice ad n c)(hy:ρ y=.slice none 0 0)(ho:o.op=.binOp (if neg then .neq else .eql) t x y u):
 (execOp ρ o).run P w=.ok (.value (.bool (xor ad.isNone neg))) w:=by
 have he:(Op.equalIn 10000 t (.slice ad n c) (.slice none 0 0)).run P w=.ok ad.isNone w:=Nn w 9999 t e ad n c ht;cases neg with
 |false=>cases ad<;>simp[execOp,ho,hx,hy,eqGuard,binOp,Op.equal,he,Op.maxDepth,Sem.run_bind,Sem.run_pure]
 |true=>cases ad<;>simp[execOp,ho,hx,hy,eqGuard,binOp,Op.equal,he,Op.maxDepth,Sem.run_bind,Sem.run_pure]
def L8{K:AV->aw->Prop}(hr:Rel cx env σ vals a w)(neg:Bool)(t u e:TypeId)(x y:Operand)(ho:o.op=.binOp (if neg then .neq else .eql) t x y u)(ht:cx.P.underlying t=some (.slice e))(hy:yg y=true)
 (hK:aw_ σ (a_ env x) λr=>K (.pv (.bool (xor r neg))) σ):Out cx env a w o K:=by
 have hyv:a.eval y=.slice none 0 0:=by
  unfold yg at hy;split at hy
  ·rfl
  ·cases hy
 have hx:=hr.ev x;have fin:∀(ad:Option Addr) (n c:Nat) (r:Bool),a.eval x=.slice ad n c->r=ad.isNone->K (.pv (.bool (xor r neg))) σ->Out cx env a w o K:=by
  intro ad n c r hv dp hk;subst dp;exact Out.run (v:=.bool (xor ad.isNone neg)) (WN w neg t u x y e ad n c ht a.eval hv hyv ho) hr (av:=.pv (.bool (xor ad.isNone neg))) fj hk
 have sl:∀(ak:List PV) (sz:Nat),Rd (Ok cx σ vals w) w (.sl sz ak) (a.eval x)->(∀r:Bool,(ak≠[]->r=false)->K (.pv (.bool (xor r neg))) σ)->Out cx env a w o K:=by
  intro ak sz h hk;simp only[Rd]at h;obtain⟨ad,c,hv,_,_,h4⟩:=h;refine fin ad _ c _ hv rfl (hk _ λqY=>?_);rcases h4 with h4|⟨b,of,rfl,_⟩
  ·exact absurd h4 qY
  ·rfl
 revert hK hx
 cases a_ env x with
 |pv px=>
  intro hK hx;simp only[RA]at hx;cases px with
  |nil sz=>simp only[Rd]at hx;exact fin none 0 0 true hx rfl hK
  |sl sz ak=>exact sl ak sz hx hK
  |_=>exact hK.elim
 |own id=>
  intro hK hx;simp only[RA]at hx;obtain⟨b,hb,hK⟩:=az σ id _ hK;cases b with
  |row e2 sz ap ak=>
   obtain⟨_,cells,⟨hl,ho'⟩,_⟩:=hr.s.iU id _ _ hb hx;rcases ho' with⟨hv,h0⟩|⟨g,cap,cur,fr,hv,_⟩
   ·refine fin none 0 0 true hv rfl (hK _ λqY=>?_);exact absurd (zaf h0) qY
   ·exact fin _ _ _ false hv rfl (hK _ λ_=>rfl)
  |fz z=>
   cases z with
   |sl sz ak=>exact sl ak sz (hr.s.iU id _ _ hb hx) hK
   |_=>exact hK.elim
  |_=>exact hK.elim
 |_=>intro hK;exact hK.elim
def P1{K:AV->aw->Prop}(hr:Rel cx env σ vals a w)(t e:TypeId)(x i:Operand)(m sz:Nat)(ag:Bool)(n:Nat)(ho:o.op=.index t x i)(hu:cx.P.underlying t=some (.array m e))(hs:Shape cx.P e ag sz)(hn:n=if ag then sz else 1)
 (hK:Dv.asInt (a_ env i) λ_ k=>(0<=k/\k.toNat<m)/\match a_ env x with
   | .pv x=>match x with
    | .agg cs=>xB (Nat.mul k.toNat sz) ag n cs λr=>K (.pv r) σ
    |_=>False
   | .agg cs=>xE (Nat.mul k.toNat sz) cs λr=>zV n r λt=>BK ag t λa=>K a σ
   |_=>False):Out cx env a w o K:=by
 have hi:=hr.ev i
 revert hK hi
 cases a_ env i with
 |pv pi=>
  cases pi with
  |int kd k=>
   intro hK hi;simp only[RA,Rd]at hi;obtain⟨hk,hK⟩:=hK;obtain⟨j,hj,hjs⟩:=hs.info;refine JY hr x e (k.toNat*sz) ag n (λarr v hv hp=>?_) ⟨_,hs,hn⟩ hK;have aS:k<(m:Int):=aa;simp[execOp,ho,hv,hi,Instr.index,asIntOf,run_underlying hu,hk.1,aS,sizeOf,typeInfo,hj,hjs,hp]
  |_=>intro hK;exact hK.elim
 |_=>intro hK;exact hK.elim
def Y3{K:AV->aw->Prop}(hr:Rel cx env σ vals a w)(t e:TypeId)(x i:Operand)(m sz:Nat)(ag:Bool)(ho:o.op=.indexAddr t x i)(hu:cx.P.underlying t=some (.array m e))(hs:Shape cx.P e ag sz)
 (hK:Dv.asInt (a_ env i) λ_ k=>(0<=k/\k.toNat<m)/\F0 σ (Nat.mul k.toNat sz) (a_ env x) λa=>K a σ):Out cx env a w o K:=by
 have hi:=hr.ev i
 revert hK hi
 cases a_ env i with
 |pv pi=>
  cases pi with
  |int kd k=>
   intro hK hi;simp only[RA,Rd]at hi;obtain⟨hk,hK⟩:=hK;obtain⟨j,hj,hjs⟩:=hs.info;refine It hr x (k.toNat*sz) (λb n hv=>?_) hK;have aS:k<(m:Int):=aa;simp[execOp,ho,hv,hi,Instr.indexAt,Instr.sureAddr,asIntOf,run_underlying hu,hk.1,aS,sizeOf,typeInfo,hj,hjs,fe]
  |_=>intro hK;exact hK.elim
 |_=>intro hK;exact hK.elim
def SQ{K:AV->aw->Prop}(hr:Rel cx env σ vals a w)(t e:TypeId)(m sz:Nat)(ag:Bool)(parts:Array (Nat×Operand))(cs:List PV)(ho:o.op=.build t parts)(hu:cx.P.underlying t=some (.array m e))(hz:QT cx.P t=some (.agg cs))(hs:Shape cx.P e ag sz)
 (hK:Ay env (parts.toList.map λp=>(p.1*sz,sz,p.2)) λps=>H3 cs λz=>EP z ps λcs=>WK cs λa=>K a σ):Out cx env a w o K:=by
 obtain⟨i,zv,hi,R3,h1,h2,h3⟩:=oN hz;have hK:=lz _ _ (DN env _ _ hK);obtain⟨j,hj,hjs⟩:=hs.info;obtain⟨z',arr,g1,g2,g3,g4⟩:=Vg hr (λx=>some (x*sz,sz)) parts.toList (parts.toList.map λp=>(p.1*sz,sz,p.2)) (cs.map .pv) zv.cells _ ae ((eY _ _).2 (h2 _ _)) (λc hc=>PN) hK;have T9:cx.P.built t (parts.map λp=>(p.1,a.eval p.2)).toList=some arr:=by
  simp only[Program.built,hi,hu,R3,hj,Array.toList_map,hjs];rw[<-g2]
 have ec:(execOp a.eval o).run cx.P w=.ok (.value (.agg arr)) w:=by
  have:=run_build (P:=cx.P) w t (parts.map λp=>(p.1,a.eval p.2)) arr T9;simp only[execOp,ho,Sem.run_bind,this,Result.andThen_ok,Sem.run_pure]
 rcases FM z' _ g1 with⟨l,rfl,hk⟩|hk
 ·refine Out.run ec hr (av:=.pv (.agg l)) ?_ hk;simp only[RA,Rd];exact⟨λc hc=>g4 (.pv c) r6,arr,rfl,(eY _ _).1 g3⟩
 ·refine Out.run ec hr (av:=.agg z') ?_ hk;simp only[RA];exact⟨g4,arr,rfl,g3⟩
end
end
end Go.Dv
namespace Go.Dv
open Go.RowKit
open Go.MapKept
section
section
variable {cx:Cx} {env:Env} {σ:aw} {vals:List Value} {a:Act} {w w':World} {o:Oper}
def B2:∀(l:List (Int×Bool)) (es:List MapEntry) (n:Int) (i:Nat),es.map (λe=>(e.key,e.val))=l.map (λp=>(Value.int .i64 p.1,Value.bool p.2))->
 ∃j,Instr.findNow (.int .i64) (.int .i64 n) es i=some ((JC l n).map λb=>(j,Value.bool b))
 |[],es,n,i,h=>by
  cases es with
  |nil=>exact⟨0,rfl⟩
  |cons e es=>simp at h
 |p::l,es,n,i,h=>by
  cases es with
  |nil=>simp at h
  |cons e es=>
   simp only[zav,List.cons.injEq,Prod.mk.injEq]at h;obtain⟨⟨h1,h2⟩,h3⟩:=h;have hl:JC (p::l) n=(match decide (n=p.1)with|true=>some p.2|false=>JC l n):=rfl;simp only[Instr.findNow,h1,Instr.sameNow,if_true];rw[hl];by_cases hn:n=p.1
   ·subst hn;refine⟨i,?_⟩;simp[h2]
   ·obtain⟨j,hj⟩:=B2 l es n (i+1) h3;refine⟨j,?_⟩;have hb:(n==p.1)=false:=by simpa using hn
    simp[hn,hj,hb]
def Wn{P:Program}(w:World)(t kt et:TypeId)(c:Bool)(b:Nat)(es:Array MapEntry)(clk:Nat)(l:List (Int×Bool))(n:Int)(ht:P.underlying t=some (.map kt et))(hk:P.underlying kt=some (.int .i64))(i:TypeInfo)(hi:P.info? et=some i)(hz:i.zero=some (.bool false))
 (hb:w.heap[b]?=some (.map es clk)) (hm:KO es l):
 (Instr.lookup t (.map (some b)) (.int .i64 n) c).run P w=.ok (if c then .tuple #[.bool ((JC l n).getD false),.bool (JC l n).isSome]else .bool ((JC l n).getD false)) w:=by
 obtain⟨j,hj⟩:=B2 l es.toList n 0 hm;have hf:=run_findKey (P:=P) (w:=w) hk hj;have hc:=run_checkKey (P:=P) (w:=w) (k:=.int .i64 n) hk (by simp[IsKey]) es.isEmpty 9999;have hg:(getObj b).run P w=.ok (.map es clk) w:=MapKept.run_getObj_map hb;have hc:(Instr.checkKey es.isEmpty 10000 kt (.int .i64 n)).run P w=.ok () w:=hc;unfold Instr.lookup;cases hl:JC l n with
 |none=>
  rw[hl]at hf;cases c<;>simp only[Sem.run_bind,run_underlying ht,Result.andThen_ok,hg,hc,hf,Sem.run_pure]<;>simp[zeroValue,run_typeInfo w hi,hz]
 |some v=>
  rw[hl]at hf;cases c<;>simp only[Sem.run_bind,run_underlying ht,Result.andThen_ok,hg,hc,hf,Sem.run_pure]<;>simp
def Zr{K:AV->aw->Prop}(hr:Rel cx env σ vals a w)(c:Bool)(t kt et:TypeId)(x k:Operand)(i:TypeInfo)(ho:o.op=.lookup t x k c)(ht:cx.P.underlying t=some (.map kt et))(hk:cx.P.underlying kt=some (.int .i64))(hi:cx.P.info? et=some i)(hz:i.zero=some (.bool false))
 (hK:UZ σ c (a_ env x) (a_ env k) λr=>K r σ):Out cx env a w o K:=by
 have hx:=hr.ev x;have hy:=hr.ev k
 revert hK hx hy
 cases a_ env x with
 |own id=>
  intro hK hx hy;obtain⟨b,h1,h2⟩:=az _ _ _ hK;cases b with
  |mp l=>
   revert h2 hy
   cases a_ env k with
   |pv y=>
    cases y with
    |int kd n=>
     cases kd with
     |i64=>
      intro hy h2;simp only[RA]at hx;simp only[RA,Rd]at hy;have hs:=hr.s.iU id _ _ h1 hx;obtain⟨b,es,clk,hv,_,hb,hm⟩:=hs;have ec:=Wn w t kt et c b es clk l n ht hk i hi hz hb hm;cases c with
      |true=>
       refine Out.run (v:=.tuple #[.bool ((JC l n).getD false),.bool (JC l n).isSome]) ?_ hr (av:=.tup [.pv (.bool ((JC l n).getD false)),.pv (.bool (JC l n).isSome)]) (by simp only[RA,d_,Rd];exact⟨_,rfl,_,_,rfl,rfl,_,_,rfl,rfl,rfl⟩) h2;simp[execOp,ho,hv,hy,ec]
      |false=>
       refine Out.run (v:=.bool ((JC l n).getD false)) ?_ hr (av:=.pv (.bool ((JC l n).getD false))) fj h2;simp[execOp,ho,hv,hy,ec]
     |_=>intro _ h2;exact h2.elim
    |_=>intro _ h2;exact h2.elim
   |_=>intro _ h2;exact h2.elim
  |_=>exact h2.elim
 |_=>intro hK;exact hK.elim
end
end
end Go.Dv
namespace Go.Dv
open Go.RowKit
section
section
variable {cx:Cx} {env:Env} {σ:aw} {vals:List Value} {a:Act} {w w':World} {o:Oper}
def FA:aw->List Nat->Nat->List Nat
 |[],_,_=>[]
 |_::σ,a::r,L=>a::FA σ r L
 |_::σ,[],L=>L::FA σ [] (L+1)
def W8(σ:aw):∀(r:List Nat) (L:Nat) (K:List Nat->Prop),aw3 σ r L K->K (FA σ r L):=by
 induction σ with
 |nil=>intro r L K h;exact h
 |cons s σ ih=>
  intro r L K h;cases r with
  |nil=>exact ih [] (L+1) _ h
  |cons a r=>exact ih r L _ h
def Yv(σ:aw):∀(r:List Nat) (L:Nat),(FA σ r L).length=σ.length:=by
 induction σ with
 |nil=>intro r L;rfl
 |cons s σ ih=>intro r L;cases r<;>simp[FA,ih]
def tT(σ:aw):∀(r:List Nat) (L j:Nat),j<r.length->j<σ.length->(FA σ r L)[j]?=r[j]?:=by
 induction σ with
 |nil=>intro r L j _ h;simp at h
 |cons s σ ih=>
  intro r L j h1 h2;cases r with
  |nil=>simp at h1
  |cons a r=>
   cases j with
   |zero=>rfl
   |succ j=>simpa[FA]using ih r L j mK gu
def tq(σ:aw):∀(r:List Nat) (L j:Nat),r.length<=j->j<σ.length->(FA σ r L)[j]?=some (L+(j-r.length)):=by
 induction σ with
 |nil=>intro r L j _ h;simp at h
 |cons s σ ih=>
  intro r L j h1 h2;cases r with
  |nil=>
   cases j with
   |zero=>rfl
   |succ j=>
    have:=ih [] (L+1) j ae gu;simp only[FA,zbH,this,zaZ];congr 1;omega
  |cons a r=>
   cases j with
   |zero=>simp at h1
   |succ j=>
    have:=ih r L j mK gu;simp only[FA,zbH,this,zap];congr 1;omega
def M3(ρ:List Nat):∀(x:AV) (K:AV->Prop),adC ρ x K→∃y,K y/\Ren ρ y x:=by
 intro x;refine AV.rec (motive_1:=λx=>∀K:AV->Prop,adC ρ x K→∃y,K y/\Ren ρ y x)
  (motive_2:=λxs=>∀K:List AV->Prop,(AV.rec_1 (motive_1:=λ_=>(AV->Prop)->Prop) (motive_2:=λ_=>(List AV->Prop)->Prop)
    (λK=>K .bad) (λx K=>K (.pv x)) (λid K=>dm ρ id λj=>K (.own j)) (λid i o K=>dm ρ id λj=>K (.ref j i o)) (λid s l n K=>dm ρ id λj=>K (.sub j s l n))
    (λ_ ih K=>ih λl=>K (.agg l)) (λ_ ih K=>ih λl=>K (.tup l)) (λf _ ih K=>ih λl=>K (.clo f l)) (λK=>K []) (λ_ _ h t K=>h λa=>t λl=>K (a::l)) xs:(List AV->Prop)->Prop) K→∃ys,K ys/\fK ρ ys xs)
  ?_ ?_ ?_ ?_ ?_ ?_ ?_ ?_ ?_ ?_ x
 ·intro K h;exact⟨_,h,yt⟩
 ·intro x K h;exact⟨_,h,yt⟩
 ·intro id K h;obtain⟨j,h1,h2⟩:=az _ _ _ h;exact⟨_,h2,JA⟩
 ·intro id i o K h;obtain⟨j,h1,h2⟩:=az _ _ _ h;exact⟨_,h2,JA⟩
 ·intro id s l n K h;obtain⟨j,h1,h2⟩:=az _ _ _ h;exact⟨_,h2,JA⟩
 ·intro cs ih K h;obtain⟨bs,h1,h2⟩:=ih _ h;exact⟨_,h1,Io⟩
 ·intro cs ih K h;obtain⟨bs,h1,h2⟩:=ih _ h;exact⟨_,h1,Io⟩
 ·intro f cs ih K h;obtain⟨bs,h1,h2⟩:=ih _ h;exact⟨_,h1,Io⟩
 ·intro K h;exact⟨[],h,Df⟩
 ·intro x xs h1 h2 K h;obtain⟨b,h3,h4⟩:=h1 _ h;obtain⟨bs,h5,h6⟩:=h2 _ h3;exact⟨_,h5,by simp only[fK];exact⟨x,xs,rfl,h4,h6⟩⟩
def TD(ρ:List Nat)(xs:List AV):∀(K:List AV->Prop),afj ρ xs K→∃ys,K ys/\fK ρ ys xs:=by
 induction xs with
 |nil=>intro K h;exact⟨[],h,Df⟩
 |cons x xs ih=>
  intro K h;obtain⟨b,h3,h4⟩:=M3 ρ x _ h;obtain⟨bs,h5,h6⟩:=ih _ h3;exact⟨_,h5,by simp only[fK];exact⟨x,xs,rfl,h4,h6⟩⟩
def JZ(ρ:List Nat)(s:cu)(K:cu->Prop)(h:afc ρ s K):∃t,K t/\vC ρ t s:=by
 cases s with
 |box e cs=>
  obtain⟨ds,h1,h2⟩:=TD ρ cs _ h;exact⟨_,h1,cs,rfl,h2⟩
 |pool e sz l lt=>
  cases lt with
  |nil=>exact⟨_,h,rfl,λp hp=>by cases hp⟩
  |cons x lt=>exact mw
 |_=>exact⟨_,h,rfl⟩
def Sz(ρ:List Nat)(σ1:aw):∀(r:List Nat) (σ:aw) (K:aw->Prop),UQ ρ σ1 r σ K->r.Nodup->(∀i∈r,i<σ.length)->r.length<=σ1.length->
 ∃σ2,K σ2/\σ2.length=σ.length+(σ1.length-r.length)/\(∀(j:Nat) (s:cu),σ1[j]?=some s→∃i t,(FA σ1 r σ.length)[j]?=some i/\σ2[i]?=some t/\vC ρ t s)∧∀i,i<σ.length->i∉r->σ2[i]?=σ[i]?:=by
 induction σ1 with
 |nil=>
  intro r σ K h _ _ hl;have:r=[]:=zaf (by simpa using hl);subst this;exact⟨σ,h,ae,λj s hj=>by simp at hj,λi _ _=>rfl⟩
 |cons b σ1 ih=>
  intro r σ K h hn aS hl;cases r with
  |nil=>
   obtain⟨t,h,ht⟩:=JZ ρ b (λb=>eo σ b λσ=>UQ ρ σ1 [] σ K) h;have h:=bR _ _ _ h;obtain⟨σ2,h1,h2,h3,h4⟩:=ih [] _ K h ae ae ae;simp only[zae,zap,zaZ,Nat.sub_zero,zaU]at h2 h3 h4;refine⟨σ2,h1,by simp only[zap,zaZ,Nat.sub_zero];omega,λj s hj=>?_,λi hi R9=>?_⟩
   ·cases j with
    |zero=>
     simp at hj;subst hj;exact⟨σ.length,t,rfl,by rw[h4 _ aa ae,bE,if_pos rfl],ht⟩
    |succ j=>exact h3 j s va
   ·rw[h4 i aa ae,bE,if_neg aa]
  |cons x r=>
   obtain⟨t,h,ht⟩:=JZ ρ b (λb=>iX σ x b λσ=>UQ ρ σ1 r σ K) h;obtain⟨hx,h⟩:=bu _ _ _ _ h;rw[List.nodup_cons]at hn;obtain⟨σ2,h1,h2,h3,h4⟩:=ih r _ K h hn.2 (λi hi=>by rw[zaL];exact aS i (by simp[hi])) (by simpa using hl);rw[zaL]at h2 h3 h4;refine⟨σ2,h1,by simp only[zap];omega,λj s hj=>?_,λi hi R9=>?_⟩
   ·cases j with
    |zero=>
     simp at hj;subst hj;exact⟨x,t,rfl,by rw[h4 x hx hn.1,cY hx,if_pos rfl],ht⟩
    |succ j=>exact h3 j s va
   ·rw[h4 i hi (λh=>R9 rM),cY hx,if_neg (λe=>R9 (by simp[e]))]
structure ak0(ρ:List Nat)(σ1 σ2:aw)(fO dw:List Value):Prop where
 iU:∀(j:Nat) (s:cu),σ1[j]?=some s→∃i t,ρ[j]?=some i/\σ2[i]?=some t/\vC ρ t s
 vals:∀(j i:Nat),ρ[j]?=some i->dw[i]?=fO[j]?
def vC.eqv{ρ:List Nat}{t s:cu}(h:vC ρ t s):(∀e sz ap ak,t=.row e sz ap ak->s=.row e sz ap ak)∧∀e cs,t=.box e cs→∃ds,s=.box e ds/\fK ρ cs ds:=by
 cases t with
 |box e cs=>
  obtain⟨ds,rfl,hd⟩:=h;exact⟨(λ_ _ _ _ h=>cI),(λe' T7 h=>by cases h;exact⟨ds,rfl,hd⟩)⟩
 |row e sz ap ak=>exact⟨(λ_ _ _ _ e=>by rw[<-e];exact h),(λ_ _ h=>cI)⟩
 |dead=>exact CX
 |fz x=>exact CX
 |mp l=>exact CX
 |pool e sz l lt=>exact CX
mutual
def Ren.back{ρ:List Nat}{σ1 σ2:aw}{fO dw:List Value}(hB:ak0 ρ σ1 σ2 fO dw){ok lT:Nat->Prop}(ep:∀b,ok b->lT b):∀(y x:AV) (v:Value),Ren ρ y x->RA ok σ1 fO w x v->RA lT σ2 dw w y v
 | .bad,x,v,h,_=>by simp only[RA]
 | .pv y,x,v,h,hv=>by
  simp only[Ren]at h;subst h;simp only[RA]at hv ⊢;exact Rd.mono ep (λ_ _ _=>rfl) y v hv
 | .own i,x,v,h,hv=>by
  simp only[Ren]at h;obtain⟨j,hj,rfl⟩:=h;simp only[RA]at hv ⊢;rw[hB.vals j i hj];exact hv
 | .ref i k o,x,v,h,hv=>by
  simp only[Ren]at h;obtain⟨j,hj,rfl⟩:=h;simp only[RA]at hv ⊢;obtain⟨h0,hp,h1,h2⟩:=hv;obtain⟨i',t,Gt,ht,iq⟩:=hB.iU j _ (zak h0);rw[hj]at Gt;cases Gt;refine⟨(zaa.1 ht).1,hp,λe sz ap ak he=>?_,λs2 he mN=>?_⟩
  ·rw[ht]at he;cases he;obtain⟨u,b,h3,h4⟩:=h1 e sz ap ak (by rw[zak h0,iq.eqv.1 _ _ _ _ rfl]);exact⟨u,b,by rw[hB.vals j i hj];exact h3,h4⟩
  ·rw[ht]at he;cases he;obtain⟨u,b,h3,h4⟩:=h2 _ (zak h0) (by rw[iq.yr];exact mN);exact⟨u,b,by rw[hB.vals j i hj];exact h3,h4⟩
 | .sub i s l n,x,v,h,hv=>by
  simp only[Ren]at h;obtain⟨j,hj,rfl⟩:=h;simp only[RA]at hv ⊢;obtain⟨h0,hv⟩:=hv;obtain⟨i',t,Gt,ht,iq⟩:=hB.iU j _ (zak h0);rw[hj]at Gt;cases Gt;refine⟨(zaa.1 ht).1,?_⟩;rw[hB.vals j i hj];exact hv
 | .agg cs,x,v,h,hv=>by
  simp only[Ren]at h;obtain⟨ds,rfl,h⟩:=h;simp only[RA]at hv ⊢;obtain⟨h1,vs,rfl,h2⟩:=hv;exact⟨h.Yr h1,vs,rfl,fK.back hB ep cs ds _ h h2⟩
 | .tup cs,x,v,h,hv=>by
  simp only[Ren]at h;obtain⟨ds,rfl,h⟩:=h;simp only[RA]at hv ⊢;obtain⟨vs,rfl,h2⟩:=hv;exact⟨vs,rfl,fK.back hB ep cs ds _ h h2⟩
 | .clo f cs,x,v,h,hv=>by
  simp only[Ren]at h;obtain⟨ds,rfl,h⟩:=h;simp only[RA]at hv ⊢;obtain⟨vs,rfl,h2⟩:=hv;exact⟨vs,rfl,fK.back hB ep cs ds _ h h2⟩
def fK.back{ρ:List Nat}{σ1 σ2:aw}{fO dw:List Value}(hB:ak0 ρ σ1 σ2 fO dw){ok lT:Nat->Prop}(ep:∀b,ok b->lT b):∀(ys xs:List AV) (vs:List Value),fK ρ ys xs->d_ ok σ1 fO w xs vs->d_ lT σ2 dw w ys vs
 |[],xs,vs,h,hv=>by simp only[fK]at h;subst h;simpa only[d_]using hv
 |y::ys,xs,vs,h,hv=>by
  simp only[fK]at h;obtain⟨x,t,rfl,h1,h2⟩:=h;simp only[d_]at hv ⊢;obtain⟨v,u,rfl,h3,h4⟩:=hv;exact⟨v,u,rfl,Ren.back hB ep y x v h1 h3,fK.back hB ep ys t u h2 h4⟩
end
def HQ{α:Type}{l:List α}{i:Nat}{x:α}(h:l[i]?=some x):x∈l:=zad h
def Wv{K:AV->aw->Prop}{Γ:Ctx}(hΓ:Sound cx.P Γ)(hr:Rel cx env σ vals a w)(f:FuncId)(aHk:List AV)(vs:Array Value)(Na:(execOp a.eval o).run cx.P w=(callFunc f vs).run cx.P w)(o_:d_ (Ok cx σ vals w) σ vals w aHk vs.toList)(L0:(Γ f).mu=true)
 (hK:X6 (Γ f).um aHk σ K):Out cx env a w o K:=by
 intro next Q KW
 obtain⟨l,hK,hln,_⟩:=yq aHk [] _ ae hK;obtain⟨r,hK,Xr,_⟩:=wi σ l _ hln hK;obtain⟨as',hK,has⟩:=zl r aHk _ hK;obtain⟨σ0,hK,hσ0l,hσ0⟩:=tV σ r r _ hK;obtain⟨cX,hA⟩:∃cX,Wk r σ σ0 vals cX:=by
  refine⟨r.map λi=>(vals[i]?).getD undef,Xr,hσ0l,hσ0,ae,λj i hj=>?_⟩;obtain⟨s,t,hs,_⟩:=hσ0 j i hj;have:i<vals.length:=by rw[hr.s.len];exact(zaa.1 hs).1
  rw[zbC,hj];simp only[zbU];rw[zak this];exact⟨rfl,_,rfl⟩
 have back:∀{j:Nat} {t:cu},σ0[j]?=some t→∃i s,r[j]?=some i/\σ[i]?=some s/\vC r s t:=by
  intro j t ht;have hj:j<r.length:=by rw[<-hσ0l];exact(zaa.1 ht).1
  obtain⟨s,t',hs,ht',iq⟩:=hσ0 j _ (zak hj);rw[ht]at ht';cases ht';exact⟨_,s,zak hj,hs,iq⟩
 have hm0:∀b,Av σ0 cX b→∃(i:Nat) (s:cu) (v:Value),i∈r/\σ[i]?=some s/\vals[i]?=some v/\s.bk v b:=by
  rintro b ⟨j,t,v,ht,hv,hb⟩;obtain⟨i,s,hj,hs,iq⟩:=back ht;exact⟨i,s,v,HQ hj,hs,by rw[<-(hA.vals j i hj).1];exact hv,iq.bk.1 hb⟩
 have aeG:∀b,Av σ0 cX b->Av σ vals b:=λb h=>by
  obtain⟨i,s,v,_,h1,h3,h4⟩:=hm0 b h;exact⟨i,s,v,h1,h3,h4⟩
 have aeH:∀b,Ok cx σ vals w b->b<w.heap.size:=λb h=>h.2.1
 have Xs:∀b,Ok cx σ vals w b->Ok (Z1 cx.P w (Ok cx σ vals w) aeH σ0 cX) σ0 cX w b:=λb h=>⟨.inl h,h.2.1,λhm=>h.2.2 (aeG b hm)⟩
 have az4:ba (Z1 cx.P w (Ok cx σ vals w) aeH σ0 cX) σ0 cX w:=by
  refine⟨tB.refl _ _,λv hv=>?_,by rw[hA.adO,hσ0l],λj t v ht hv=>?_,λj k t1 t2 u v b hjk ht1 ht2 hu hv hbu hbv=>?_,⟨zaj _,λb hb=>hb.elim,λ_ _ hb=>hb⟩,⟨λi v h=>h,zaj _,λi _ e sz ap ak h=>⟨ap,ak,h⟩,λi _ s h hb=>⟨s,h,hb⟩⟩⟩
  ·obtain⟨j,hj⟩:=zaB.1 hv;have VG:j<r.length:=Qr;rw[(hA.vals j _ (zak VG)).1]at hj;exact hr.s.one v (zad hj)
  ·obtain⟨i,s,hj,hs,iq⟩:=back ht;have hv0:=hv;rw[(hA.vals j i hj).1]at hv;have:=hr.s.iU i s v hs hv;cases s with
   |dead=>cases iq;trivial
   |fz x=>cases iq;exact Rd.mono Xs (λ_ _ _=>rfl) _ _ this
   |mp l=>cases iq;obtain⟨b,es,n,g1,g2,g3⟩:=this;exact⟨b,es,n,g1,Xs b g2,g3⟩
   |pool e sz q lt=>
    obtain⟨rfl,aS⟩:=iq;obtain⟨h0,h1,h2⟩:=this;refine⟨h0,⟨h1.1,λp hp=>by rw[(hA.vals _ _ (aS p hp)).1];exact h1.2 p hp⟩,λp hp=>?_⟩;obtain⟨cells,g1,g2,g3,g4⟩:=h2 p hp;refine⟨cells,⟨g1.1,?_⟩,g2,g3,cE.mono Xs (λ_ _ _=>rfl) _ _ g4⟩;rcases g1.2 with h|⟨g,cap,cur,fr,e1,_,e2⟩
    ·exact .inl h
    ·exact .inr ⟨g,cap,cur,fr,e1,.inr ⟨j,_,v,ht,hv0,p,hp,by rw[e1];rfl⟩,e2⟩
   |row e sz ap ak=>
    cases iq;obtain⟨h0,cells,g1,g2,g3,g4⟩:=this;refine⟨h0,cells,⟨g1.1,?_⟩,g2,g3,cE.mono Xs (λ_ _ _=>rfl) _ _ g4⟩;rcases g1.2 with h|⟨g,cap,cur,fr,e1,_,e2⟩
    ·exact .inl h
    ·exact .inr ⟨g,cap,cur,fr,e1,.inr ⟨j,_,v,ht,hv0,by rw[e1];rfl⟩,e2⟩
   |box e cs=>
    obtain⟨ds,rfl,hd⟩:=iq;obtain⟨b,arr,g1,g2,g3,g4,g5⟩:=this;exact⟨b,arr,g1,.inr ⟨j,_,v,ht,hv0,by rw[g1];rfl⟩,g3,hd.adW g4,hd.ra hA Xs _ _ _ g5⟩
  ·obtain⟨i1,s1,hj1,lZ,Xt⟩:=back ht1;obtain⟨i2,s2,Pj,LX,Ud⟩:=back ht2;rw[(hA.vals _ _ hj1).1]at hu;rw[(hA.vals _ _ Pj).1]at hv;refine hr.s.oP i1 i2 s1 s2 u v b ?_ lZ LX hu hv (Xt.bk.1 hbu) (Ud.bk.1 hbv);intro e;subst e;exact hjk ((zbD (zaa.1 hj1).1 Xr).1 (hj1.trans Pj.symm))
 obtain⟨sZ,aaS⟩:=(hΓ f).2.2.2.2 w (Ok cx σ vals w) aeH σ0 cX as' vs _ L0 az4 (fK.ra hA Xs _ _ _ has o_) hK;unfold Oper.wp;rw[Na,sZ,Oper.upon_enter];refine aaS.mono ?_;rintro e w' ⟨v,res,σ1,fO,rfl,hK,lZ,Pd⟩;generalize hmd:Z1 cx.P w (Ok cx σ vals w) aeH σ0 cX=m at*;have hK:=W8 _ _ _ _ (cW σ _ hK);obtain⟨aE9,hK,xZ⟩:=M3 _ _ _ hK;have aeI:∀i∈r,i<σ.length:=λi hi=>by
  obtain⟨j,hj⟩:=zaB.1 hi;obtain⟨s,t,hs,_⟩:=hσ0 j i hj;exact(zaa.1 hs).1
 have R_:m.rY=σ0:=y_;have az5:m.ET=cX:=y_;have dx:∀b,m.own b↔w.heap.size<=b\/Av σ0 cX b:=λb=>y_
 have az6:∀b,m.OG b↔Ok cx σ vals w b:=λb=>y_
 have hw0:m.w0=w:=y_;have hle:r.length<=σ1.length:=by have:=lZ.pin.len;rw[R_,hσ0l]at this;exact this
 obtain⟨σ2,hK,VH,afE,aCD⟩:=Sz _ σ1 r σ _ hK Xr aeI hle
 let ρ:=FA σ1 r σ.length
 have hρ:ρ=FA σ1 r σ.length:=rfl;have hρlen:ρ.length=σ1.length:=Yv _ _ _;have VI:fO.length=σ1.length:=lZ.len
 let dw:=vals++fO.drop r.length
 have aaU:∀i,i<σ.length->dw[i]?=vals[i]?:=λi hi=>by
  show(vals++fO.drop r.length)[i]?=_;rw[zar (by rw[hr.s.len];exact hi)]
 have az7:∀i,σ.length<=i->dw[i]?=fO[i-σ.length+r.length]?:=λi hi=>by
  show(vals++fO.drop r.length)[i]?=_;rw[zam (by rw[hr.s.len];exact hi),zaH,hr.s.len,Nat.add_comm]
 have hB:ak0 ρ σ1 σ2 fO dw:=by
  refine⟨afE,λj i hj=>?_⟩;have CH:j<σ1.length:=HV;rcases zbt j r.length with h|h
  ·rw[hρ,tT _ _ _ _ h CH]at hj;rw[aaU i (aeI i (HQ hj))];have h1:j<cX.length:=by rw[hA.adO];exact h
   have h2:=lZ.pin.vs j _ (by rw[az5];exact zak h1);rw[h2,<-zak h1,(hA.vals j i hj).1]
  ·rw[hρ,tq _ _ _ _ h CH]at hj;cases hj;rw[az7 _ aa];congr 1;omega
 have XH:∀(i:Nat) (t:cu),σ2[i]?=some t->(i<σ.length/\i∉r/\σ[i]?=some t/\dw[i]?=vals[i]?)∨∃(j:Nat) (s:cu),ρ[j]?=some i/\σ1[j]?=some s/\vC ρ t s/\dw[i]?=fO[j]?:=by
  intro i t ht;have part:∀j:Nat,ρ[j]?=some i→∃(j:Nat) (s:cu),ρ[j]?=some i/\σ1[j]?=some s/\vC ρ t s/\dw[i]?=fO[j]?:=by
   intro j hj;have CH:j<σ1.length:=HV;obtain⟨i',t',Gt,ht',iq⟩:=afE j _ (zak CH);rw[<-hρ,hj]at Gt;cases Gt;rw[ht]at ht';cases ht';exact⟨j,_,hj,zak CH,iq,hB.vals j i hj⟩
  have hi2:i<σ.length+(σ1.length-r.length):=by rw[<-VH];exact(zaa.1 ht).1
  rcases zbt i σ.length with h|h
  ·by_cases R9:i∈r
   ·obtain⟨j,hj⟩:=zaB.1 R9;have VG:j<r.length:=(zaa.1 hj).1;exact .inr (part j (by rw[hρ,tT _ _ _ _ VG aa];exact hj))
   ·exact .inl ⟨h,R9,by rw[<-aCD i h R9];exact ht,aaU i h⟩
  ·exact .inr (part (i-σ.length+r.length) (by rw[hρ,tq _ _ _ _ aa aa];congr 1;omega))
 have ρinj:∀j k i:Nat,ρ[j]?=some i->ρ[k]?=some i->j=k:=by
  intro j k i hj hk;have CH:j<σ1.length:=HV;have L1:k<σ1.length:=by rw[<-hρlen];exact(zaa.1 hk).1
  rcases zbt j r.length with h|h<;>rcases zbt k r.length with h'|h'
  ·rw[hρ,tT _ _ _ _ h CH]at hj;rw[hρ,tT _ _ _ _ h' L1]at hk;exact(zbD h Xr).1 (hj.trans hk.symm)
  ·rw[hρ,tT _ _ _ _ h CH]at hj;rw[hρ,tq _ _ _ _ h' L1]at hk;cases hk;have:=aeI _ (HQ hj);omega
  ·rw[hρ,tq _ _ _ _ h CH]at hj;rw[hρ,tT _ _ _ _ h' L1]at hk;cases hj;have:=aeI _ (HQ hk);omega
  ·rw[hρ,tq _ _ _ _ h CH]at hj;rw[hρ,tq _ _ _ _ h' L1]at hk;cases hj;simp only[Option.some.injEq]at hk;omega
 have aaV:∀b,m.own b->cx.own b:=by
  intro b hb;rcases(dx b).1 hb with h|h
  ·exact cx.dx _ (zat hr.s.below.size h)
  ·obtain⟨i,s,v,_,h1,h3,h4⟩:=hm0 b h;exact((hr.s.iU i s v h1 h3).block h4).1
 have aeK:∀b,Av σ1 fO b->m.own b/\b<w'.heap.size:=by
  rintro b ⟨j,s,v,h1,h3,h4⟩;exact(lZ.iU j s v h1 h3).block h4
 have apart:∀(i:Nat) (s:cu) (v:Value) (b:Nat),i∉r->σ[i]?=some s->vals[i]?=some v->s.bk v b→¬m.own b:=by
  intro i s v b R9 hs hv hb ho;rcases(dx b).1 ho with h|h
  ·have:=((hr.s.iU i s v hs hv).block hb).2;omega
  ·obtain⟨i',s',v',h0,h1,h3,h4⟩:=hm0 b h;exact hr.s.oP i i' s s' v v' b (λe=>R9 (e▸h0)) hs h1 hv h3 hb h4
 have same:∀b,b<w.heap.size→¬m.own b->w'.heap[b]?=w.heap[b]?:=by
  intro b hb ho;have:=lZ.below.block b (by rw[hw0];exact hb) ho;rw[hw0]at this;exact this
 have tY:w.heap.size<=w'.heap.size:=by have:=lZ.below.size;rw[hw0]at this;exact this
 have asl:∀b,Av σ2 dw b->(∃(i:Nat) (s:cu) (v:Value),i∉r/\σ[i]?=some s/\vals[i]?=some v/\s.bk v b)\/Av σ1 fO b:=by
  rintro b ⟨i,t,v,ht,hv,hb⟩;rcases XH i t ht with⟨_,R9,hs,hve⟩|⟨j,s,hj,hs,iq,hve⟩
  ·exact .inl ⟨i,t,v,R9,hs,by rw[<-hve];exact hv,hb⟩
  ·exact .inr ⟨j,s,v,hs,by rw[<-hve];exact hv,iq.bk.2 hb⟩
 have okC:∀b,Ok cx σ vals w b→¬m.own b:=by
  intro b hb ho;rcases(dx b).1 ho with h|h
  ·have:=hb.2.1;omega
  ·exact hb.2.2 (aeG b h)
 have Sa:cm cx σ vals w σ2 dw w':=by
  refine⟨λi v h=>?_,aa,λb hb=>⟨hb.1,zag hb.2.1 tY,λhm=>?_⟩,λb hb=>same b hb.2.1 (okC b hb),λi hi e sz ap ak h=>?_,λi hi s2 h mN=>?_⟩
  ·rw[aaU i (by rw[<-hr.s.len];exact(zaa.1 h).1)];exact h
  ·rcases asl b hm with⟨i,s,v,_,h1,h3,h4⟩|h
   ·exact hb.2.2 ⟨i,s,v,h1,h3,h4⟩
   ·exact okC b hb (aeK b h).1
  ·rcases XH i _ h with⟨_,_,hs,_⟩|⟨j,s,hj,hs,iq,_⟩
   ·exact⟨ap,ak,hs⟩
   ·have CH:j<σ1.length:=(zaa.1 hs).1;have VG:j<r.length:=by
     rcases zbt j r.length with h|h
     ·exact h
     ·rw[hρ,tq _ _ _ _ h CH]at hj;cases hj;omega
    rw[hρ,tT _ _ _ _ VG CH]at hj;have:=iq.eqv.1 _ _ _ _ rfl;subst this;obtain⟨Hi,els',h3⟩:=lZ.pin.r7 j (by rw[R_,hσ0l];exact VG) e sz ap ak hs;rw[R_]at h3;obtain⟨i',s',Gt,q7,Xu⟩:=back h3;rw[hj]at Gt;cases Gt;cases s' with
    |box e' T7=>obtain⟨ds,hd,_⟩:=Xu;cases hd
    |row e' CG ap2 Hk=>cases Xu;exact⟨_,_,q7⟩
    |pool e' CG l' lt'=>cases Xu.1
    |_=>cases Xu
  ·rcases XH i _ h with⟨_,_,hs,_⟩|⟨j,s,hj,hs,iq,_⟩
   ·exact⟨s2,hs,mN⟩
   ·have CH:j<σ1.length:=(zaa.1 hs).1;have VG:j<r.length:=by
     rcases zbt j r.length with h|h
     ·exact h
     ·rw[hρ,tq _ _ _ _ h CH]at hj;cases hj;omega
    rw[hρ,tT _ _ _ _ VG CH]at hj;obtain⟨s3,h3,VJ⟩:=lZ.pin.sb j (by rw[R_,hσ0l];exact VG) s hs (by rw[iq.yr];exact mN);rw[R_]at h3;obtain⟨i',s',Gt,q7,Xu⟩:=back h3;rw[hj]at Gt;cases Gt;exact⟨s',q7,by rw[<-Xu.yr];exact VJ⟩
 have okB:∀b,Ok m σ1 fO w' b->Ok cx σ2 dw w' b:=by
  rintro b ⟨h1,h2,h3⟩;have ho:m.own b->(cx.OG b\/cx.own b):=λh=>.inr (aaV b h)
  refine⟨?_,h2,λhm=>?_⟩
  ·rcases h1 with h1|h1
   ·exact((az6 b).1 h1).1
   ·exact ho h1
  ·rcases asl b hm with⟨i,s,v,R9,g1,g3,g4⟩|h
   ·rcases h1 with h1|h1
    ·exact((az6 b).1 h1).2.2 ⟨i,s,v,g1,g3,g4⟩
    ·exact apart i s v b R9 g1 g3 g4 h1
   ·exact h3 h
 have LX:ba cx σ2 dw w':=by
  refine⟨⟨?_,?_,?_,zat hr.s.below.size tY,λk hk ho=>?_⟩,λv hv=>?_,?_,λi t v ht hv=>?_,λi j t1 t2 u1 u2 b iT h1 h2 g1 g2 g3 g4=>?_,⟨zat hr.s.fr.size tY,λb hb=>?_,λb hm hb=>?_⟩,hr.s.pin.keep Sa⟩
  ·have:=lZ.below.os;rw[hw0]at this;exact this.trans hr.s.below.os
  ·have:=lZ.below.tape;rw[hw0]at this;exact this.trans hr.s.below.tape
  ·have:=lZ.below.output;rw[hw0]at this;exact this.trans hr.s.below.output
  ·exact(same k (zag hk hr.s.below.size) (λh=>ho (aaV k h))).trans (hr.s.below.block k hk ho)
  ·rcases zax.1 hv with hv|hv
   ·exact hr.s.one v hv
   ·exact lZ.one v (zbu hv)
  ·show(vals++fO.drop r.length).length=_;rw[zae,zbf,hr.s.len,VI,VH]
  ·rcases XH i t ht with⟨_,R9,hs,hve⟩|⟨j,s,hj,hs,iq,hve⟩
   ·rw[hve]at hv;have nQ:=hr.s.iU i t v hs hv;exact Sa.rb nQ (λb hb=>same b (nQ.block hb).2 (apart i t v b R9 hs hv hb))
   ·rw[hve]at hv;have nQ:=lZ.iU j s v hs hv;cases t with
    |dead=>trivial
    |fz x=>cases iq;exact Rd.mono okB (λ_ _ _=>rfl) _ _ nQ
    |mp l=>cases iq;obtain⟨b,es,n,g1,g2,g3⟩:=nQ;exact⟨b,es,n,g1,okB b g2,g3⟩
    |pool e sz q lt=>
     obtain⟨rfl,aS⟩:=iq;obtain⟨h0,h1,h2⟩:=nQ;refine⟨h0,⟨h1.1,λp hp=>by rw[hB.vals _ _ (aS p hp)];exact h1.2 p hp⟩,λp hp=>?_⟩;obtain⟨cells,f1,f2,f3,f4⟩:=h2 p hp;refine⟨cells,⟨f1.1,?_⟩,f2,f3,cE.mono okB (λ_ _ _=>rfl) _ _ f4⟩;rcases f1.2 with h|⟨g,cap,cur,fr,e1,e2,e3⟩
     ·exact .inl h
     ·exact .inr ⟨g,cap,cur,fr,e1,aaV g e2,e3⟩
    |row e sz ap ak=>
     cases iq;obtain⟨h0,cells,f1,f2,f3,f4⟩:=nQ;refine⟨h0,cells,⟨f1.1,?_⟩,f2,f3,cE.mono okB (λ_ _ _=>rfl) _ _ f4⟩;rcases f1.2 with h|⟨g,cap,cur,fr,e1,e2,e3⟩
     ·exact .inl h
     ·exact .inr ⟨g,cap,cur,fr,e1,aaV g e2,e3⟩
    |box e cs=>
     obtain⟨ds,rfl,hd⟩:=iq;obtain⟨b,arr,f1,f2,f3,f4,f5⟩:=nQ;exact⟨b,arr,f1,aaV b f2,f3,hd.Yr f4,fK.back hB okB _ _ _ hd f5⟩
  ·rcases XH i t1 h1 with⟨_,R9,hs,hve⟩|⟨j1,s1,hj1,az8,Xt,hve⟩
   ·rw[hve]at g1;rcases XH j t2 h2 with⟨_,VG,hsj,hvj⟩|⟨j2,s2,Pj,asn,Ud,hvj⟩
    ·rw[hvj]at g2;exact hr.s.oP i j t1 t2 u1 u2 b iT hs hsj g1 g2 g3 g4
    ·rw[hvj]at g2;exact apart i t1 u1 b R9 hs g1 g3 (aeK b ⟨j2,s2,u2,asn,g2,Ud.bk.2 g4⟩).1
   ·rw[hve]at g1;rcases XH j t2 h2 with⟨_,VG,hsj,hvj⟩|⟨j2,s2,Pj,asn,Ud,hvj⟩
    ·rw[hvj]at g2;exact apart j t2 u2 b VG hsj g2 g4 (aeK b ⟨j1,s1,u1,az8,g1,Xt.bk.2 g3⟩).1
    ·rw[hvj]at g2;refine lZ.oP j1 j2 s1 s2 u1 u2 b (λe=>?_) az8 asn g1 g2 (Xt.bk.2 g3) (Ud.bk.2 g4);subst e;rw[hj1]at Pj;cases Pj;exact iT rfl
  ·refine(same b (zag (cx.hk b hb) hr.s.fr.size) (λho=>?_)).trans (hr.s.fr.same b hb);rcases(dx b).1 ho with h|h
   ·have:=cx.hk b hb;have:=hr.s.fr.size;omega
   ·exact hr.s.fr.nB b (aeG b h) hb
  ·rcases asl b hm with⟨i,s,v,_,f1,f3,f4⟩|h
   ·exact hr.s.fr.nB b ⟨i,s,v,f1,f3,f4⟩ hb
   ·rcases(dx b).1 (aeK b h).1 with h|h
    ·have:=cx.hk b hb;have:=hr.s.fr.size;omega
    ·exact hr.s.fr.nB b (aeG b h) hb
 exact KW _ _ _ v w' hK (hr.keep LX Sa) (Ren.back hB okB _ _ _ xZ Pd)
def MB{K:AV->aw->Prop}{Γ:Ctx}(hΓ:Sound cx.P Γ)(hr:Rel cx env σ vals a w)(f:FuncId)(aHk:List AV)(vs:Array Value)(Na:(execOp a.eval o).run cx.P w=(callFunc f vs).run cx.P w)(o_:d_ (Ok cx σ vals w) σ vals w aHk vs.toList)
 (hK:BA (Γ f) aHk σ K):Out cx env a w o K:=by
 unfold BA at hK;cases L0:(Γ f).mu with
 |true=>rw[L0]at hK;exact Wv hΓ hr f aHk vs Na o_ L0 hK
 |false=>rw[L0]at hK;exact Xg hΓ hr f aHk vs Na o_ L0 hK
def ZS{K:AV->aw->Prop}{Γ:Ctx}(hΓ:Sound cx.P Γ)(hr:Rel cx env σ vals a w)(f:FuncId)(args:List Operand)(c:Call)(ho:o.op=.call c)(hc:c.callee=.value (.func f))(dO:c.args.toList=args)
 (hK:BA (Γ f) (args.map (a_ env)) σ K):Out cx env a w o K:=by
 refine MB hΓ hr f _ (args.map a.eval).toArray ?_ (by simpa using hr.evL args) hK;have fp:c.args=args.toArray:=by rw[<-dO]
 simp[execOp,ho,resolve,hc,invoke,fp,Deferred.ofValue,Act.eval]
def JS(l m:List AV):∀(K:List AV->Prop),Yn l m K->K (l++m):=by
 induction l with
 |nil=>intro K h;exact h
 |cons x l ih=>intro K h;exact ih _ h
def W6{K:AV->aw->Prop}{Γ:Ctx}(hΓ:Sound cx.P Γ)(hr:Rel cx env σ vals a w)(x:Operand)(args:List Operand)(c:Call)(ho:o.op=.call c)(hc:c.callee=.value x)(dO:c.args.toList=args)
 (hK:Ni Γ (a_ env x) (args.map (a_ env)) σ K):Out cx env a w o K:=by
 have fp:c.args=args.toArray:=by rw[<-dO]
 have hx:=hr.ev x;have main:∀(g:FuncId) (cs:List AV) (cv:Array Value),a.eval x=.func (.func g) #[] cv->d_ (Ok cx σ vals w) σ vals w cs cv.toList->BA (Γ g) (args.map (a_ env)++cs) σ K->Out cx env a w o K:=by
  intro g cs cv hv o_ hK;refine MB hΓ hr g _ ((args.map a.eval).toArray++cv) ?_ ?_ hK
  ·simp[execOp,ho,resolve,hc,invoke,fp,Deferred.ofValue,hv]
  ·rw[ei];exact⟨_,_,ae,hr.evL args,o_⟩
 cases pg:a_ env x with
 |pv p=>
  rw[pg]at hK hx;cases p with
  |clo g gB=>
   simp only[RA,Rd]at hx;obtain⟨cv,hv,pH⟩:=hx;exact main g _ cv hv ((eY _ _).2 pH) (JS _ _ _ (lz _ _ hK))
  |_=>exact dN
 |clo g cs=>
  rw[pg]at hK hx;simp only[RA]at hx;obtain⟨cv,hv,pH⟩:=hx;exact main g cs cv hv pH (JS _ _ _ hK)
 |_=>rw[pg]at hK;exact dN
def aal{K:AV->aw->Prop}{Γ:Ctx}(hr:Rel cx env σ vals a w)(f:FuncId)(first gB:Array Operand)(ho:o.op=.makeFunc (.func f) first gB)(hf:first.toList=[])
 (hK:match (Γ f).mu with
   |true=>K (.clo f (gB.toList.map (a_ env))) σ
   |false=>vZ (gB.toList.map (a_ env)) σ λxs σ=>K (.pv (.clo f xs)) σ):Out cx env a w o K:=by
 cases L0:(Γ f).mu with
 |false=>rw[L0]at hK;exact abF hr f first gB ho hf hK
 |true=>
  rw[L0]at hK;have hf':first= #[]:=Array.toList_eq_nil_iff.1 hf
  refine Out.run (v:=.func (.func f) #[] (gB.map a.eval)) (by simp[execOp,ho,Instr.makeFunc,hf']) hr (av:=.clo f (gB.toList.map (a_ env))) ?_ hK;simp only[RA];exact⟨_,rfl,by simpa using hr.evL gB.toList⟩
end
end
section
section
variable {cx:Cx} {σ σ':aw} {vals an:List Value} {w:World}
def ba.ghost(hr:ba cx σ vals w)(hlen:σ.length<=σ'.length)(CD:an.length=σ'.length)(hv:∀(i:Nat) (v:Value),vals[i]?=some v->an[i]?=some v)(fY:∀v∈an,v.oneCell'=true)
 (EI:∀b,Av σ' an b->Av σ vals b)
 (fN:∀i:Nat,i<σ.length→∀e sz ap ak,σ'[i]?=some (.row e sz ap ak)→∃Hi els',σ[i]?=some (.row e sz Hi els'))
 (sM:∀i:Nat,i<σ.length→∀s,σ'[i]?=some s->s.yr=true→∃s',σ[i]?=some s'/\s'.yr=true)
 (aaR:∀(i j:Nat) (s t:cu) (u v:Value) (b:Nat),i≠j->σ'[i]?=some s->σ'[j]?=some t->an[i]?=some u->an[j]?=some v->s.bk u b→¬t.bk v b)
 (aCF:cm cx σ vals w σ' an w→∀(i:Nat) (s:cu) (v:Value),σ'[i]?=some s->an[i]?=some v->RB cx σ' an w s v):
 ba cx σ' an w/\cm cx σ vals w σ' an w:=by
 have hk:cm cx σ vals w σ' an w:=⟨hv,hlen,λb hb=>⟨hb.1,hb.2.1,λhm=>hb.2.2 (EI b hm)⟩,λ_ _=>rfl,fN,sM⟩
 exact⟨⟨hr.below,fY,CD,aCF hk,aaR,⟨hr.fr.size,hr.fr.same,λb hm=>hr.fr.nB b (EI b hm)⟩,hr.pin.keep hk⟩,hk⟩
def ba.put(hr:ba cx σ vals w){n q:Nat}{e:TypeId}{sz:Nat}{ak:List PV}{l:List (Value×List PV)}{lt:List (Nat×Value)}{v:Value}
 (hn:σ[n]?=some (.row e sz true ak)) (hq:σ[q]?=some (.pool e sz l lt)) (hv:vals[n]?=some v):
 ba cx ((σ.set n (.fz (.val v))).set q (.pool e sz (l++[(v,ak)]) lt)) vals w/\cm cx σ vals w ((σ.set n (.fz (.val v))).set q (.pool e sz (l++[(v,ak)]) lt)) vals w:=by
 have K7:=(zaa.1 hn).1;have hql:=(zaa.1 hq).1;have hnq:n≠q:=λh=>Iy
 obtain⟨u,hu,Pk⟩:=hr.val hq;have hnb:=hr.iU n _ v hn hv;have get:∀i,((σ.set n (.fz (.val v))).set q (.pool e sz (l++[(v,ak)]) lt))[i]?=if q=i then some (.pool e sz (l++[(v,ak)]) lt)else if n=i then some (.fz (.val v))else σ[i]?:=λi=>by
  rw[cY KD,cY K7]
 have cs:∀i s,((σ.set n (.fz (.val v))).set q (.pool e sz (l++[(v,ak)]) lt))[i]?=some s->(i=q/\s=.pool e sz (l++[(v,ak)]) lt)\/(i=n/\s=.fz (.val v))\/(i≠q/\i≠n/\σ[i]?=some s):=by
  intro i s h;rw[get]at h;split at h
  ·rename_i g;exact .inl ⟨g.symm,by cases h;rfl⟩
  ·split at h
   ·rename_i g;exact .inr (.inl ⟨g.symm,by cases h;rfl⟩)
   ·rename_i g1 g2;exact .inr (.inr ⟨λe=>g1 e.symm,λe=>g2 e.symm,h⟩)
 have pool:∀b,(cu.pool e sz (l++[(v,ak)]) lt).bk u b->(cu.pool e sz l lt).bk u b\/(cu.row e sz true ak).bk v b:=by
  rintro b ⟨p,hp,hb⟩;rcases zax.1 hp with hp|hp
  ·exact .inl ⟨p,hp,hb⟩
  ·simp only[zbs]at hp;subst hp;exact .inr hb
 refine hr.ghost ae nZ (λ_ _ h=>h) hr.one ?_ ?_ ?_ ?_ ?_
 ·rintro b ⟨i,s,x,h1,h2,h3⟩;rcases cs i s h1 with⟨rfl,rfl⟩|⟨rfl,rfl⟩|⟨_,_,h1⟩
  ·rw[hu]at h2;cases h2;rcases pool b h3 with h3|h3
   ·exact⟨_,_,_,hq,hu,h3⟩
   ·exact⟨_,_,_,hn,hv,h3⟩
  ·cases h3
  ·exact⟨i,s,x,h1,h2,h3⟩
 ·intro i _ e' CG Hi els' h;rcases cs i _ h with⟨_,h⟩|⟨_,h⟩|⟨_,_,h⟩
  ·cases h
  ·cases h
  ·exact⟨_,_,h⟩
 ·intro i _ s h hb;rcases cs i _ h with⟨_,h⟩|⟨_,h⟩|⟨_,_,h⟩
  ·subst h;cases hb
  ·subst h;cases hb
  ·exact⟨s,h,hb⟩
 ·intro i j s t x y b iT h1 h2 h3 h4 h5 h6;rcases cs i s h1 with⟨rfl,rfl⟩|⟨rfl,rfl⟩|⟨g1,g2,CC⟩
  ·rw[hu]at h3;cases h3;rcases cs j t h2 with⟨rfl,rfl⟩|⟨rfl,rfl⟩|⟨k1,k2,h2⟩
   ·exact iT rfl
   ·cases h6
   ·rcases pool b h5 with h5|h5
    ·exact hr.oP _ _ _ _ _ _ b iT hq h2 hu h4 h5 h6
    ·exact hr.oP _ _ _ _ _ _ b (λe=>k2 e.symm) hn h2 hv h4 h5 h6
  ·cases h5
  ·rcases cs j t h2 with⟨rfl,rfl⟩|⟨rfl,rfl⟩|⟨k1,k2,EM⟩
   ·rw[hu]at h4;cases h4;rcases pool b h6 with h6|h6
    ·exact hr.oP _ _ _ _ _ _ b iT CC hq h3 hu h5 h6
    ·exact hr.oP _ _ _ _ _ _ b g2 CC hn h3 hv h5 h6
   ·cases h6
   ·exact J6
 ·intro hk i s x h1 h2;rcases cs i s h1 with⟨rfl,rfl⟩|⟨rfl,rfl⟩|⟨g1,g2,h1⟩
  ·obtain⟨h0,⟨p1,p2⟩,p3⟩:=Pk;obtain⟨_,cells,c1,c2,c3,c4⟩:=hnb;refine⟨h0,⟨?_,p2⟩,λp hp=>?_⟩
   ·rw[List.pairwise_append];refine⟨p1,ae,λp hp r dp b hb mN=>?_⟩;simp only[zbs]at dp;subst dp;exact hr.oP _ n _ _ u v b (λe=>hnq e.symm) hq hn hu hv ⟨p,hp,hb⟩ mN
   ·rcases zax.1 hp with hp|hp
    ·obtain⟨T7,d1,d2,d3,d4⟩:=p3 p hp;exact Ed
    ·simp only[zbs]at hp;subst hp;exact⟨cells,c1,c2,c3,hk.TO c4⟩
  ·rw[hv]at h2;cases h2;exact⟨rfl,hr.one _ (zad hv)⟩
  ·exact hk.rb (hr.iU i s x h1 h2) (λ_ _=>rfl)
def Oc{α:Type}{l:List α}{j:Nat}{x y:α}(h:y∈l.set j x):y=x∨∃i,i≠j/\l[i]?=some y:=by
 obtain⟨i,hi⟩:=zaB.1 h;rw[zaR]at hi;split at hi
 ·split at hi
  ·exact .inl (Option.some.inj hi).symm
  ·cases hi
 ·rename_i g;exact .inr ⟨i,λe=>g e.symm,hi⟩
def aqO{α:Type}{R:α->α->Prop}(hs:∀x y,R x y->R y x){l:List α}(h:l.Pairwise R){i j:Nat}{x y:α}(iT:i≠j)(hx:l[i]?=some x)(hy:l[j]?=some y):R x y:=by
 rw[zbv]at h;obtain⟨h1,rfl⟩:=zaa.1 hx;obtain⟨h2,rfl⟩:=zaa.1 hy;rcases Nat.lt_or_gt_of_ne iT with g|g
 ·exact h i j h1 h2 g
 ·exact hs _ _ (h j i h2 h1 g)
def aae{α:Type}{R:α->α->Prop}(hs:∀x y,R x y->R y x){l:List α}(h:l.Pairwise R){j:Nat}{x:α}(hx:∀i y,i≠j->l[i]?=some y->R x y):(l.set j x).Pairwise R:=by
 rw[zbv];intro a b ha hb hab;rw[zaL]at ha hb;rw[zbQ,zbQ];have hg:=zbv.1 h a b ha hb hab;split
 ·split
  ·omega
  ·rename_i g;exact hx b _ (λe=>g e.symm) (zak hb)
 ·split
  ·rename_i g _;exact hs _ _ (hx a _ (λe=>g e.symm) (zak ha))
  ·exact hg
def ba.take(hr:ba cx σ vals w){q j:Nat}{e:TypeId}{sz:Nat}{xs:List PV}{l:List (Value×List PV)}{lt:List (Nat×Value)}{h:Value}
 (hq:σ[q]?=some (.pool e sz l lt)) (hj:l[j]?=some (h,xs)):
 ba cx (σ.set q (.pool e sz (l.set j (mc,[])) ((σ.length,h)::lt))++[.row e sz true xs]) (vals++[h]) w/\cm cx σ vals w (σ.set q (.pool e sz (l.set j (mc,[])) ((σ.length,h)::lt))++[.row e sz true xs]) (vals++[h]) w:=by
 have hql:=(zaa.1 hq).1;obtain⟨u,hu,Pk⟩:=hr.val hq;obtain⟨h0,⟨p1,p2⟩,p3⟩:=Pk;obtain⟨cells,c1,c2,c3,c4⟩:=p3 _ (zad hj);have hh1:h.oneCell'=true:=by rcases c1.2 with⟨g,_⟩|⟨_,_,_,_,g,_⟩<;>(have g:h=_:=g;rw[g];rfl)
 have CD:vals.length=σ.length:=hr.len;have cs:∀i s x,(σ.set q (.pool e sz (l.set j (mc,[])) ((σ.length,h)::lt))++[.row e sz true xs])[i]?=some s->(vals++[h])[i]?=some x->(i=q/\s=.pool e sz (l.set j (mc,[])) ((σ.length,h)::lt)/\x=u)\/(i=σ.length/\s=.row e sz true xs/\x=h)\/(i≠q/\i<σ.length/\σ[i]?=some s/\vals[i]?=some x):=by
  intro i s x h1 h2;rw[bE,zaL]at h1;rw[bE,CD]at h2;split at h1
  ·rename_i g;rw[if_pos g]at h2;exact .inr (.inl ⟨g,by cases h1;rfl,by cases h2;rfl⟩)
  ·rename_i g;rw[if_neg g]at h2;rw[cY hql]at h1;split at h1
   ·rename_i g2;subst g2;rw[hu]at h2;exact .inl ⟨rfl,by cases h1;rfl,by cases h2;rfl⟩
   ·rename_i g2;exact .inr (.inr ⟨λe=>g2 e.symm,(zaa.1 h1).1,h1,h2⟩)
 have pool:∀b,(cu.pool e sz (l.set j (mc,[])) ((σ.length,h)::lt)).bk u b->(cu.pool e sz l lt).bk u b∧¬bI h=some b:=by
  rintro b ⟨p,hp,hb⟩;rcases Oc hp with rfl|⟨i,iT,hi⟩
  ·cases hb
  ·refine⟨⟨p,zad hi,hb⟩,λmN=>?_⟩;exact aqO (λx y g b hb mN=>g b mN hb) p1 iT hi hj b hb mN
 have dx:(cu.pool e sz l lt).bk u=(cu.pool e sz l lt).bk u:=rfl;have hin:∀b,bI h=some b->(cu.pool e sz l lt).bk u b:=λb hb=>⟨_,zad hj,hb⟩
 refine hr.ghost ae (by simp[CD]) (λi v hv=>?_) (λv hv=>?_) ?_ ?_ ?_ ?_ ?_
 ·rw[bE,if_neg (by have:=(zaa.1 hv).1;omega)];exact hv
 ·rcases zax.1 hv with hv|hv
  ·exact hr.one v hv
  ·simp only[zbs]at hv;subst hv;exact hh1
 ·rintro b ⟨i,s,x,h1,h2,h3⟩;rcases cs i s x h1 h2 with⟨rfl,rfl,rfl⟩|⟨rfl,rfl,rfl⟩|⟨_,_,CC,EM⟩
  ·exact⟨_,_,_,hq,hu,(pool b h3).1⟩
  ·exact⟨_,_,_,hq,hu,hin b h3⟩
  ·exact⟨i,s,x,CC,EM,h3⟩
 ·intro i hi e' CG Hi els' hs;rw[bE,zaL,if_neg aa,cY hql]at hs;split at hs
  ·cases hs
  ·exact⟨_,_,hs⟩
 ·intro i hi s hs hb;rw[bE,zaL,if_neg aa,cY hql]at hs;split at hs
  ·cases hs;cases hb
  ·exact⟨s,hs,hb⟩
 ·intro i k s t x y b Pm h1 h2 h3 h4 h5 h6;rcases cs i s x h1 h3 with⟨rfl,rfl,rfl⟩|⟨rfl,rfl,rfl⟩|⟨g1,g2,CC,h3'⟩
  ·rcases cs k t y h2 h4 with⟨rfl,rfl,rfl⟩|⟨rfl,rfl,rfl⟩|⟨k1,k2,EM,h4'⟩
   ·exact Pm rfl
   ·exact(pool b h5).2 h6
   ·exact hr.oP _ _ _ _ _ _ b Pm hq EM hu h4' (pool b h5).1 h6
  ·rcases cs k t y h2 h4 with⟨rfl,rfl,rfl⟩|⟨rfl,rfl,rfl⟩|⟨k1,k2,EM,h4'⟩
   ·exact(pool b h6).2 h5
   ·exact Pm rfl
   ·exact hr.oP _ _ _ _ _ _ b (λe=>k1 e.symm) hq EM hu h4' (hin b h5) h6
  ·rcases cs k t y h2 h4 with⟨rfl,rfl,rfl⟩|⟨rfl,rfl,rfl⟩|⟨k1,k2,EM,h4'⟩
   ·exact hr.oP _ _ _ _ _ _ b Pm CC hq h3' hu h5 (pool b h6).1
   ·exact hr.oP _ _ _ _ _ _ b g1 CC hq h3' hu h5 (hin b h6)
   ·exact hr.oP _ _ _ _ _ _ b Pm CC EM h3' h4' h5 h6
 ·intro hk i s x h1 h2;rcases cs i s x h1 h2 with⟨rfl,rfl,rfl⟩|⟨rfl,rfl,rfl⟩|⟨g1,g2,CC,EM⟩
  ·refine⟨h0,⟨aae (λx y g b hb mN=>g b mN hb) p1 (λi y _ _ b hb=>jn),λp hp=>?_⟩,λp hp=>?_⟩
   ·rcases zay.1 hp with rfl|hp
    ·show(vals++[h])[σ.length]?=some h;rw[bE,if_pos CD.symm]
    ·exact hk.vs _ _ (p2 p hp)
   ·rcases Oc hp with rfl|⟨k,_,kV⟩
    ·exact⟨[],vA _ _ _ _ _,ae,ae,oZ⟩
    ·obtain⟨T7,d1,d2,d3,d4⟩:=p3 p (zad kV);exact Ed
  ·exact⟨h0,cells,c1,c2,c3,hk.TO c4⟩
  ·exact hk.rb (hr.iU i s x CC EM) (λ_ _=>rfl)
def P9{s:aw}{x:cu}{h:Value}(hl:vals.length=σ.length){ok:Nat->Prop}:RA ok (s++[x]) (vals++[h]) w (.own σ.length) h:=by
 simp only[RA];rw[bE,if_pos hl.symm]
def ba.back(hr:ba cx σ vals w){n q j:Nat}{e:TypeId}{sz:Nat}{ak:List PV}{l:List (Value×List PV)}{lt:List (Nat×Value)}{h:Value}
 (hn:σ[n]?=some (.row e sz true ak)) (hq:σ[q]?=some (.pool e sz l lt)) (aS:(n,h)∈lt):
 ba cx ((σ.set n (.fz (.val h))).set q (.pool e sz (l.set j (h,ak)) (lt.filter λp=>!Nat.beq p.1 n))) vals w/\cm cx σ vals w ((σ.set n (.fz (.val h))).set q (.pool e sz (l.set j (h,ak)) (lt.filter λp=>!Nat.beq p.1 n))) vals w:=by
 have K7:=(zaa.1 hn).1;have hql:=(zaa.1 hq).1;have hnq:n≠q:=λh=>Iy
 obtain⟨u,hu,Pk⟩:=hr.val hq;obtain⟨h0,⟨p1,p2⟩,p3⟩:=Pk;have hv:vals[n]?=some h:=p2 _ aS;have hnb:=hr.iU n _ h hn hv;have cs:∀i s,((σ.set n (.fz (.val h))).set q (.pool e sz (l.set j (h,ak)) (lt.filter λp=>!Nat.beq p.1 n)))[i]?=some s->(i=q/\s=.pool e sz (l.set j (h,ak)) (lt.filter λp=>!Nat.beq p.1 n))\/(i=n/\s=.fz (.val h))\/(i≠q/\i≠n/\σ[i]?=some s):=by
  intro i s hs;rw[cY KD,cY K7]at hs;split at hs
  ·rename_i g;exact .inl ⟨g.symm,by cases hs;rfl⟩
  ·split at hs
   ·rename_i g;exact .inr (.inl ⟨g.symm,by cases hs;rfl⟩)
   ·rename_i g1 g2;exact .inr (.inr ⟨λe=>g1 e.symm,λe=>g2 e.symm,hs⟩)
 have pool:∀b,(cu.pool e sz (l.set j (h,ak)) (lt.filter λp=>!Nat.beq p.1 n)).bk u b->(cu.pool e sz l lt).bk u b\/(cu.row e sz true ak).bk h b:=by
  rintro b ⟨p,hp,hb⟩;rcases Oc hp with rfl|⟨i,_,hi⟩
  ·exact .inr hb
  ·exact .inl ⟨p,zad hi,hb⟩
 refine hr.ghost ae nZ (λ_ _ h=>h) hr.one ?_ ?_ ?_ ?_ ?_
 ·rintro b ⟨i,s,x,h1,h2,h3⟩;rcases cs i s h1 with⟨rfl,rfl⟩|⟨rfl,rfl⟩|⟨_,_,CC⟩
  ·rw[hu]at h2;cases h2;rcases pool b h3 with h3|h3
   ·exact⟨_,_,_,hq,hu,h3⟩
   ·exact⟨_,_,_,hn,hv,h3⟩
  ·cases h3
  ·exact⟨i,s,x,CC,h2,h3⟩
 ·intro i _ e' CG Hi els' hs;rcases cs i _ hs with⟨_,g⟩|⟨_,g⟩|⟨_,_,g⟩
  ·cases g
  ·cases g
  ·exact⟨_,_,g⟩
 ·intro i _ s hs hb;rcases cs i _ hs with⟨_,g⟩|⟨_,g⟩|⟨_,_,g⟩
  ·subst g;cases hb
  ·subst g;cases hb
  ·exact⟨s,g,hb⟩
 ·intro i k s t x y b iT h1 h2 h3 h4 h5 h6;rcases cs i s h1 with⟨rfl,rfl⟩|⟨rfl,rfl⟩|⟨g1,g2,CC⟩
  ·rw[hu]at h3;cases h3;rcases cs k t h2 with⟨rfl,rfl⟩|⟨rfl,rfl⟩|⟨k1,k2,EM⟩
   ·exact iT rfl
   ·cases h6
   ·rcases pool b h5 with h5|h5
    ·exact hr.oP _ _ _ _ _ _ b iT hq EM hu h4 h5 h6
    ·exact hr.oP _ _ _ _ _ _ b (λe=>k2 e.symm) hn EM hv h4 h5 h6
  ·cases h5
  ·rcases cs k t h2 with⟨rfl,rfl⟩|⟨rfl,rfl⟩|⟨k1,k2,EM⟩
   ·rw[hu]at h4;cases h4;rcases pool b h6 with h6|h6
    ·exact hr.oP _ _ _ _ _ _ b iT CC hq h3 hu h5 h6
    ·exact hr.oP _ _ _ _ _ _ b g2 CC hn h3 hv h5 h6
   ·cases h6
   ·exact J6
 ·intro hk i s x h1 h2;rcases cs i s h1 with⟨rfl,rfl⟩|⟨rfl,rfl⟩|⟨g1,g2,CC⟩
  ·obtain⟨_,cells,c1,c2,c3,c4⟩:=hnb;refine⟨h0,⟨aae (λx y g b hb mN=>g b mN hb) p1 (λk y _ hy b hb mN=>?_),λp hp=>hk.vs _ _ (p2 p (zbp.1 hp).1)⟩,λp hp=>?_⟩
   ·exact hr.oP n _ _ _ h u b hnq hn hq hv hu hb ⟨y,zad hy,mN⟩
   ·rcases Oc hp with rfl|⟨k,_,kV⟩
    ·exact⟨cells,c1,c2,c3,hk.TO c4⟩
    ·obtain⟨T7,d1,d2,d3,d4⟩:=p3 p (zad kV);exact Ed
  ·rw[hv]at h2;cases h2;exact⟨rfl,hr.one _ (zad hv)⟩
  ·exact JW
def ba.drop(hr:ba cx σ vals w){q:Nat}{e:TypeId}{sz:Nat}{l:List (Value×List PV)}{lt lt':List (Nat×Value)}(hq:σ[q]?=some (.pool e sz l lt))(hs:∀p∈lt',p∈lt):
 ba cx (σ.set q (.pool e sz l lt')) vals w/\cm cx σ vals w (σ.set q (.pool e sz l lt')) vals w:=by
 have hql:=(zaa.1 hq).1;obtain⟨u,hu,Pk⟩:=hr.val hq;obtain⟨h0,⟨p1,p2⟩,p3⟩:=Pk;have cs:∀i s,(σ.set q (.pool e sz l lt'))[i]?=some s->(i=q/\s=.pool e sz l lt')\/(i≠q/\σ[i]?=some s):=by
  intro i s h;rw[cY hql]at h;split at h
  ·rename_i g;exact .inl ⟨g.symm,by cases h;rfl⟩
  ·rename_i g;exact .inr ⟨λe=>g e.symm,h⟩
 refine hr.ghost ae nZ (λ_ _ h=>h) hr.one ?_ ?_ ?_ ?_ ?_
 ·rintro b ⟨i,s,x,h1,h2,h3⟩;rcases cs i s h1 with⟨rfl,rfl⟩|⟨_,CC⟩
  ·exact⟨_,_,_,hq,h2,h3⟩
  ·exact⟨i,s,x,CC,h2,h3⟩
 ·intro i _ e' CG Hi els' hs;rcases cs i _ hs with⟨_,g⟩|⟨_,g⟩
  ·cases g
  ·exact⟨_,_,g⟩
 ·intro i _ s hs hb;rcases cs i _ hs with⟨_,g⟩|⟨_,g⟩
  ·subst g;cases hb
  ·exact⟨s,g,hb⟩
 ·intro i k s t x y b iT h1 h2 h3 h4 h5 h6;rcases cs i s h1 with⟨rfl,rfl⟩|⟨g1,CC⟩
  ·rcases cs k t h2 with⟨rfl,rfl⟩|⟨k1,EM⟩
   ·exact iT rfl
   ·exact hr.oP _ _ _ _ _ _ b iT hq EM h3 h4 h5 h6
  ·rcases cs k t h2 with⟨rfl,rfl⟩|⟨k1,EM⟩
   ·exact hr.oP _ _ _ _ _ _ b iT CC hq h3 h4 h5 h6
   ·exact J6
 ·intro hk i s x h1 h2;rcases cs i s h1 with⟨rfl,rfl⟩|⟨g1,CC⟩
  ·refine⟨h0,⟨p1,λp hp=>hk.vs _ _ (p2 p (hs p hp))⟩,λp hp=>?_⟩;obtain⟨T7,d1,d2,d3,d4⟩:=p3 p hp;exact Ed
  ·exact JW
def d_.put{ok:Nat->Prop}{y:AV}:∀{cs:List AV} {vs:List Value} {i:Nat} {x:AV},d_ ok σ vals w cs vs->cs[i]?=some x->(∀v,RA ok σ vals w x v->RA ok σ vals w y v)->d_ ok σ vals w (cs.set i y) vs
 |[],_,_,_,_,hi,_=>by cases hi
 |c::cs,vs,0,x,⟨v,r,e,h1,h2⟩,hi,hy=>by cases hi;exact⟨v,r,e,hy v h1,h2⟩
 |c::cs,vs,i+1,x,⟨v,r,e,h1,h2⟩,hi,hy=>⟨v,r,e,h1,d_.put h2 hi hy⟩
def ba.nrow(hr:ba cx σ vals w){n i:Nat}{e e':TypeId}{s:Nat}{cs:List AV}(hn:σ[n]?=some (.box e' cs))(hi:cs[i]?=some (.pv (.nil s)))(hs:0<s):
 ba cx (σ.set n (.box e' (cs.set i (.own σ.length)))++[.row e s true []]) (vals++[mc]) w/\cm cx σ vals w (σ.set n (.box e' (cs.set i (.own σ.length)))++[.row e s true []]) (vals++[mc]) w:=by
 have K7:=(zaa.1 hn).1;obtain⟨u,hu,Pk⟩:=hr.val hn;have CD:vals.length=σ.length:=hr.len;have get:∀(k:Nat) (s':cu) (x:Value),(σ.set n (.box e' (cs.set i (.own σ.length)))++[.row e s true []])[k]?=some s'->(vals++[mc])[k]?=some x->(k=n/\s'=.box e' (cs.set i (.own σ.length))/\x=u)\/(k=σ.length/\s'=.row e s true []/\x=mc)\/(k≠n/\k<σ.length/\σ[k]?=some s'/\vals[k]?=some x):=by
  intro k s' x h1 h2;rw[bE,zaL]at h1;rw[bE,CD]at h2;split at h1
  ·rename_i g;rw[if_pos g]at h2;exact .inr (.inl ⟨g,by cases h1;rfl,by cases h2;rfl⟩)
  ·rename_i g;rw[if_neg g]at h2;rw[cY K7]at h1;split at h1
   ·rename_i g2;subst g2;rw[hu]at h2;exact .inl ⟨rfl,by cases h1;rfl,by cases h2;rfl⟩
   ·rename_i g2;exact .inr (.inr ⟨λe=>g2 e.symm,(zaa.1 h1).1,h1,h2⟩)
 have bk:∀(k:Nat) (s':cu) (x:Value) (b:Nat),(σ.set n (.box e' (cs.set i (.own σ.length)))++[.row e s true []])[k]?=some s'->(vals++[mc])[k]?=some x->s'.bk x b→∃s0:cu,σ[k]?=some s0/\vals[k]?=some x/\s0.bk x b:=by
  intro k s' x b h1 h2 h3;rcases get k s' x h1 h2 with⟨rfl,rfl,rfl⟩|⟨rfl,rfl,rfl⟩|⟨_,_,CC,EM⟩
  ·exact⟨_,hn,hu,h3⟩
  ·cases h3
  ·exact⟨_,CC,EM,h3⟩
 refine hr.ghost ae (by simp[CD]) (λi v hv=>?_) (λv hv=>?_) ?_ ?_ ?_ ?_ ?_
 ·rw[bE,if_neg (by have:=(zaa.1 hv).1;omega)];exact hv
 ·rcases zax.1 hv with hv|hv
  ·exact hr.one v hv
  ·simp only[zbs]at hv;subst hv;rfl
 ·rintro b ⟨k,s',x,h1,h2,h3⟩;obtain⟨s0,g1,g2,g3⟩:=bk k s' x b h1 h2 h3;exact⟨k,s0,x,g1,g2,g3⟩
 ·intro k hk e2 CG Hi els' q7;rw[bE,zaL,if_neg aa,cY K7]at q7;split at q7
  ·cases q7
  ·exact⟨_,_,q7⟩
 ·intro k hk s' q7 hb;rw[bE,zaL,if_neg aa,cY K7]at q7;split at q7
  ·rename_i g;subst g;exact⟨_,hn,rfl⟩
  ·exact⟨s',q7,hb⟩
 ·intro k m s' t x y b hkm h1 h2 h3 h4 h5 h6;obtain⟨s0,g1,g2,g3⟩:=bk k s' x b h1 h3 h5;obtain⟨t0,f1,f2,f3⟩:=bk m t y b h2 h4 h6;exact hr.oP _ _ _ _ _ _ b hkm g1 f1 g2 f2 g3 f3
 ·intro hk k s' x h1 h2;rcases get k s' x h1 h2 with⟨rfl,rfl,rfl⟩|⟨rfl,rfl,rfl⟩|⟨_,_,CC,EM⟩
  ·obtain⟨b,arr,d1,d2,d3,d4,d5⟩:=Pk;refine⟨b,arr,d1,d2,d3,λc hc=>?_,d_.put (hk.T4 _ _ d5) hi λv hv=>?_⟩
   ·rcases zbF hc with hc|rfl
    ·exact d4 c hc
    ·rfl
   ·have xX:v=mc:=by simp only[RA,Rd]at hv;exact hv
    subst xX;show(vals++[mc])[σ.length]?=some mc;rw[bE,if_pos CD.symm]
  ·exact⟨hs,[],vA _ _ _ _ _,ae,ae,oZ⟩
  ·exact hk.rb (hr.iU k s' x CC EM) (λ_ _=>rfl)
def sT.len{l:List (Value×List PV)}{s:Nat}:∀{cs ds:List PV},sT l s cs ds->ds.length=cs.length
 |[],[],_=>rfl
 |_::cs,_::ds,h=>by simp[sT.len h.2]
def u4.len{l:List (Value×List PV)}{s:Nat}:∀{xs ys:List PV},u4 l s xs ys->ys.length=xs.length
 |[],[],_=>rfl
 |_::xs,_::ys,h=>by simp[u4.len h.2]
def sT.app{l:List (Value×List PV)}{s:Nat}:∀{cs ds T7 ds':List PV},sT l s cs ds->sT l s T7 ds'->sT l s (cs++T7) (ds++ds')
 |[],[],_,_,_,h2=>h2
 |_::cs,_::ds,_,_,h,h2=>⟨h.1,sT.app h.2 h2⟩
def u4.flat{l:List (Value×List PV)}{s:Nat}:∀{xs ys:List PV},u4 l s xs ys->sT l s (xs.flatMap PV.cells) (ys.flatMap PV.cells)
 |[],[],_=>trivial
 |x::xs,y::ys,h=>by
  rw[zao,zao];exact h.1.app (u4.flat h.2)
def u4.cells{l:List (Value×List PV)}{s n:Nat}:∀{xs ys:List PV},u4 l s xs ys->(∀x∈xs,x.cells.length=n)→∀y∈ys,y.cells.length=n
 |[],[],_,_,y,hy=>by cases hy
 |x::xs,z::ys,h,hx,y,hy=>by
  rcases zay.1 hy with rfl|hy
  ·rw[h.1.len];exact hx x ae
  ·exact u4.cells h.2 (λx Xh=>hx x (by simp[Xh])) y hy
def sT.rd{l:List (Value×List PV)}{s:Nat}{ok lT:Nat->Prop}(ep:∀b,ok b->lT b)(hl:∀p∈l,Rd lT w (.sl s p.2) p.1):∀{cs ds:List PV} {vs:List Value},sT l s cs ds->(∀c∈cs,c.one=true)->cE ok w cs vs->cE lT w ds vs∧∀d∈ds,d.one=true
 |[],[],_,_,_,hv=>by simp only[cE]at hv ⊢;exact⟨hv,ae⟩
 |c::cs,d::ds,vs,h,h1,hv=>by
  simp only[cE]at hv ⊢;obtain⟨v,r,rfl,h3,h4⟩:=hv;obtain⟨k1,k2⟩:=sT.rd ep hl h.2 (λc hc=>h1 c iN) h4;have hd:Rd lT w d v/\d.one=true:=by
   rcases h.1 with rfl|⟨p,hp,rfl,rfl⟩
   ·exact⟨Rd.mono ep (λ_ _ _=>rfl) _ _ h3,h1 _ ae⟩
   ·simp only[Rd]at h3;rw[h3.1];exact⟨hl p hp,rfl⟩
  refine⟨⟨v,r,rfl,hd.1,k1⟩,λx hx=>?_⟩;rcases zay.1 hx with rfl|hx
  ·exact hd.2
  ·exact k2 x hx
def ba.solve(hr:ba cx σ vals w){n q:Nat}{e e2:TypeId}{sz s2:Nat}{ap:Bool}{ak els':List PV}{l:List (Value×List PV)}{lt:List (Nat×Value)}
 (hn:σ[n]?=some (.row e sz ap ak)) (hq:σ[q]?=some (.pool e2 s2 l lt)) (xZ:u4 l s2 ak els'):
 ba cx ((σ.set n (.row e sz ap els')).set q .dead) vals w/\cm cx σ vals w ((σ.set n (.row e sz ap els')).set q .dead) vals w:=by
 have K7:=(zaa.1 hn).1;have hql:=(zaa.1 hq).1;have hnq:n≠q:=λh=>Iy
 obtain⟨u,hu,Pk⟩:=hr.val hq;obtain⟨v,hv,hnb⟩:=hr.val hn;obtain⟨h0,⟨p1,p2⟩,p3⟩:=Pk;have cs:∀i s,((σ.set n (.row e sz ap els')).set q .dead)[i]?=some s->(i=q/\s=.dead)\/(i=n/\s=.row e sz ap els')\/(i≠q/\i≠n/\σ[i]?=some s):=by
  intro i s hs;rw[cY KD,cY K7]at hs;split at hs
  ·rename_i g;exact .inl ⟨g.symm,by cases hs;rfl⟩
  ·split at hs
   ·rename_i g;exact .inr (.inl ⟨g.symm,by cases hs;rfl⟩)
   ·rename_i g1 g2;exact .inr (.inr ⟨λe=>g1 e.symm,λe=>g2 e.symm,hs⟩)
 have live:∀i s x b,((σ.set n (.row e sz ap els')).set q .dead)[i]?=some s->vals[i]?=some x->s.bk x b→∃s0,i≠q/\σ[i]?=some s0/\s0.bk x b:=by
  intro i s x b h1 h2 h3;rcases cs i s h1 with⟨rfl,rfl⟩|⟨rfl,rfl⟩|⟨g1,g2,CC⟩
  ·cases h3
  ·exact⟨_,hnq,hn,h3⟩
  ·exact⟨s,g1,CC,h3⟩
 refine hr.ghost ae nZ (λ_ _ h=>h) hr.one ?_ ?_ ?_ ?_ ?_
 ·rintro b ⟨i,s,x,h1,h2,h3⟩;obtain⟨s0,_,k1,k2⟩:=live i s x b h1 h2 h3;exact⟨i,s0,x,k1,h2,k2⟩
 ·intro i _ e' CG Hi Hk hs;rcases cs i _ hs with⟨_,g⟩|⟨rfl,g⟩|⟨_,_,g⟩
  ·cases g
  ·cases g;exact⟨_,_,hn⟩
  ·exact⟨_,_,g⟩
 ·intro i _ s hs hb;rcases cs i _ hs with⟨_,g⟩|⟨_,g⟩|⟨_,_,g⟩
  ·subst g;cases hb
  ·subst g;cases hb
  ·exact⟨s,g,hb⟩
 ·intro i k s t x y b iT h1 h2 h3 h4 h5 h6;obtain⟨s0,_,k1,k2⟩:=live i s x b h1 h3 h5;obtain⟨t0,_,k3,k4⟩:=live k t y b h2 h4 h6;exact hr.oP _ _ _ _ _ _ b iT k1 k3 h3 h4 k2 k4
 ·intro hk i s x h1 h2;rcases cs i s h1 with⟨rfl,rfl⟩|⟨rfl,rfl⟩|⟨g1,g2,CC⟩
  ·trivial
  ·rw[hv]at h2;cases h2;obtain⟨g0,cells,c1,c2,c3,c4⟩:=hnb;have hl:∀p∈l,Rd (Ok cx ((σ.set i (.row e sz ap els')).set q .dead) vals w) w (.sl s2 p.2) p.1:=by
    intro p hp;obtain⟨ys,d1,d2,d3,d4⟩:=p3 p hp;have fN:RB cx σ vals w (.row e2 s2 true p.2) p.1:=⟨h0,ys,d1,d2,d3,d4⟩
    obtain⟨ad,c,f1,f2,f3,f4⟩:=ny fN;simp only[Rd];refine⟨ad,c,f1,f2,f3,f4.imp_right ?_⟩;rintro⟨b,o',rfl,iY⟩;have hbk:bI p.1=some b:=by rw[f1];rfl
    obtain⟨o1,o2⟩:=d1.block hbk;refine⟨b,o',rfl,⟨.inr o1,o2,?_⟩,dM.mono hk.ok (λ_ _ _=>rfl) b s2 o' (λ_=>rfl) p.2 iY⟩;rintro⟨k,t,y,e1,e2',e3⟩;obtain⟨t0,m1,m2,m3⟩:=live k t y b e1 e2' e3;exact hr.oP k q _ _ y u b m1 m2 hq e2' hu m3 ⟨p,hp,hbk⟩
   obtain⟨r1,r2⟩:=sT.rd hk.ok hl xZ.flat c3 c4;exact⟨g0,cells,by rw[xZ.len];exact c1,xZ.cells c2,r2,r1⟩
  ·exact JW
variable {env:Env} {a:Act}
def aah{g:GA}{K:Env->aw->Prop}(hr:Rel cx env σ vals a w)(hK:gaK g env σ K):∃au σ' an,K au σ'/\Rel cx au σ' an a w:=by
 cases g with
 |put n q=>
  obtain⟨b,hb,hK⟩:=az σ n _ hK;cases b with
  |row e sz ap ak=>
   obtain⟨c,hc,hK⟩:=az σ q _ hK;cases c with
   |pool e' CG l lt=>
    obtain⟨⟨rfl,rfl,rfl⟩,XJ⟩:=hK;obtain⟨v,hv,_⟩:=hr.s.val hb;obtain⟨h1,h2⟩:=hr.s.put hb hc hv;exact⟨_,_,_,(bu _ _ _ _ (bu _ _ _ _ (XJ v)).2).2,hr.keep h1 h2⟩
   |_=>exact dN
  |_=>exact dN
 |take q j t=>
  unfold gaK at hK;have hK:=qZ _ _ _ hK;have ht:=hr.env t;cases hx:aA t env with
  |pv x=>
   rw[hx]at hK ht;cases x with
   |val h=>
    obtain⟨c,hc,hK⟩:=az σ q _ hK;cases c with
    |pool e sz l lt=>
     obtain⟨xs,hj,hK⟩:=hK;have hK:=cW σ _ hK;obtain⟨h1,h2⟩:=hr.s.take hc hj;have qH:=hr.keep h1 h2;refine⟨_,_,_,bR _ _ _ (bu _ _ _ _ hK).2,qH.s,λp=>?_,qH.defers,qH.gh,qH.lo⟩;by_cases hp:t=p
     ·subst hp;simp only[RA,Rd]at ht;show RA _ _ _ _ (bif Nat.beq t t then _ else _) _;rw[zbz];show RA _ _ _ _ (.own σ.length) _;rw[ht.1];exact P9 hr.s.len
     ·show RA _ _ _ _ (bif Nat.beq t p then _ else aA p env) _;rw[show Nat.beq t p=false from by cases hb:Nat.beq t p with|false=>rfl|true=>exact absurd (zab hb) hp];exact qH.env p
    |_=>exact dN
   |_=>exact dN
  |_=>rw[hx]at hK;exact dN
 |back n q j=>
  obtain⟨b,hb,hK⟩:=az σ n _ hK;cases b with
  |row e sz ap ak=>
   obtain⟨c,hc,hK⟩:=az σ q _ hK;cases c with
   |pool e' CG l lt=>
    obtain⟨⟨rfl,rfl,rfl⟩,h,hm,XJ⟩:=hK;obtain⟨h1,h2⟩:=hr.s.back (j:=j) hb hc hm;exact⟨_,_,_,(bu _ _ _ _ (bu _ _ _ _ XJ).2).2,hr.keep h1 h2⟩
   |_=>exact dN
  |_=>exact dN
 |solve n q els'=>
  obtain⟨b,hb,hK⟩:=az σ n _ hK;cases b with
  |row e sz ap ak=>
   obtain⟨c,hc,hK⟩:=az σ q _ hK;cases c with
   |pool e' CG l lt=>
    obtain⟨xZ,hK⟩:=hK;obtain⟨h1,h2⟩:=hr.s.solve hb hc xZ;exact⟨_,_,_,(bu _ _ _ _ (bu _ _ _ _ hK).2).2,hr.keep h1 h2⟩
   |_=>exact dN
  |_=>exact dN
 |lend q j=>
  obtain⟨c,hc,hK⟩:=az σ q _ hK;cases c with
  |pool e sz l lt=>
   obtain⟨h,xs,hj,hK⟩:=hK;have hK:=cW σ _ hK;obtain⟨h1,h2⟩:=hr.s.take hc hj;exact⟨_,_,_,bR _ _ _ (bu _ _ _ _ hK).2,hr.keep h1 h2⟩
  |_=>exact dN
 |drop q n=>
  obtain⟨c,hc,hK⟩:=az σ q _ hK;cases c with
  |pool e sz l lt=>
   obtain⟨h1,h2⟩:=hr.s.drop (lt':=lt.filter λp=>!Nat.beq p.1 n) hc λp hp=>(zbp.1 hp).1
   exact⟨_,_,_,(bu _ _ _ _ hK).2,hr.keep h1 h2⟩
  |_=>exact dN
 |nrow n i e=>
  obtain⟨b,hb,hK⟩:=az σ n _ hK;cases b with
  |box e' cs=>
   obtain⟨c,hc,hK⟩:=az cs i _ hK;cases c with
   |pv x=>
    cases x with
    |nil s=>
     obtain⟨hs,hK⟩:=hK;have hK:=cW σ _ hK;obtain⟨h1,h2⟩:=hr.s.nrow (e:=e) hb hc hs;exact⟨_,_,_,bR _ _ _ (bu _ _ _ _ (bu _ _ _ _ hK).2).2,hr.keep h1 h2⟩
    |_=>exact dN
   |_=>exact dN
  |_=>exact dN
def Rel.name{q n t:Nat}{e:TypeId}{sz:Nat}{l:List (Value×List PV)}{lt:List (Nat×Value)}{h:Value}{env:Env}{σ:aw}{vals:List Value}(hr:Rel cx ((t,.pv (.val h))::env) σ vals a w)(hq:σ[q]?=some (.pool e sz l lt))(aS:(n,h)∈lt):
 Rel cx ((t,.own n)::env) σ vals a w:=by
 obtain⟨u,hu,Pk⟩:=hr.s.val hq;obtain⟨h0,⟨p1,p2⟩,p3⟩:=Pk;have hv:vals[n]?=some h:=p2 _ aS;refine⟨hr.s,λp=>?_,hr.defers,hr.gh,hr.lo⟩;have ht:=hr.env p;by_cases hp:t=p
 ·subst hp;change RA _ _ _ _ (bif Nat.beq t t then _ else _) _ at ht;show RA _ _ _ _ (bif Nat.beq t t then _ else _) _;rw[zbz]at ht ⊢;simp only[cond_true,RA,Rd]at ht ⊢;rw[ht.1];exact hv
 ·have hb:Nat.beq t p=false:=by cases hb:Nat.beq t p with|false=>rfl|true=>exact absurd (zab hb) hp
  change RA _ _ _ _ (bif Nat.beq t p then _ else aA p env) _ at ht;show RA _ _ _ _ (bif Nat.beq t p then _ else aA p env) _;rw[hb]at ht ⊢;exact ht
def vb:∀(gs:List GA) {env:Env} {σ:aw} {vals:List Value} {K:Env->aw->Prop},Rel cx env σ vals a w->Oo gs env σ K→∃au σ' an,K au σ'/\Rel cx au σ' an a w
 |[],_,_,_,_,hr,hK=>⟨_,_,_,hK,hr⟩
 |g::gs,_,_,_,_,hr,hK=>by
  obtain⟨Bb,σ1,fO,h1,h2⟩:=aah (K:=λenv σ=>Oo gs env σ _) hr hK;exact vb gs h2 h1
end
end
end Go.Dv
namespace Go.Dv
open Go.RowKit
section
section
variable {cx:Cx} {env:Env} {σ:aw} {vals:List Value} {a:Act} {w w':World} {o:Oper}
def aK{α β:Type}{o:Option α}{f:α->Option β}{r:β}(h:opt o f=some r):∃x,o=some x/\f x=some r:=by
 unfold opt at h;cases o with
 |none=>cases h
 |some x=>exact⟨x,rfl,h⟩
def dG{α:Type}{b:Bool}{x:Option α}{r:α}(h:jh b x=some r):b=true/\x=some r:=by
 unfold jh at h;cases b with
 |true=>exact⟨rfl,h⟩
 |false=>cases h
def lO{P:Program}{t:TypeId}{i:TypeId×Nat×Nat}(h:uk P t=some i):∃ti,P.underlying t=some (.slice i.1)/\P.info? i.1=some ti/\ti.size=i.2.1/\ti.bytes=i.2.2:=by
 unfold uk at h;split at h
 ·rename_i e hu;obtain⟨ti,hi,h⟩:=aK h;cases h;exact⟨ti,hu,hi,rfl,rfl⟩
 ·cases h
def xi{P:Program}{t:TypeId}{f:Nat}{q:Nat×Bool×Nat}(h:Dv.fieldPlace P t f=some q):∃fs fd,P.underlying t=some (.struct fs)/\fs[f]?=some fd/\q.1=fd.offset/\Shape P fd.type q.2.1 q.2.2/\0<q.2.2:=by
 unfold Dv.fieldPlace at h;split at h
 ·rename_i fs hu;obtain⟨fd,hf,h⟩:=aK h;obtain⟨s,hs,h⟩:=aK h;obtain⟨h0,h⟩:=dG h;cases h;exact⟨fs,fd,hu,hf,rfl,o4 hs,by simpa using h0⟩
 ·cases h
def Ml{x:Operand}(h:yg x=true):x=.const (.slice none 0 0):=by
 unfold yg at h;split at h
 ·rfl
 ·cases h
def RN{K:AV->aw->Prop}(hr:Rel cx env σ vals a w)(e:TypeId)(sz:Nat)(hz:0<sz)(ec:(execOp a.eval o).run cx.P w=.ok (.value (.slice none 0 0)) w)(hK:K (.own σ.length) (σ++[.row e sz true []])):Out cx env a w o K:=by
 obtain⟨h1,h2⟩:=hr.s.SZ (Below.refl _ w) [.row e sz true []] [.slice none 0 0] rfl (by simp[Value.oneCell']) (by intro u hu b hb;simp at hu;subst hu;cases hb)
  (by intro i j u t b iT hu _ hb;cases i with
      |zero=>simp at hu;subst hu;cases hb
      |succ i=>simp at hu)
  (by intro _ i s u hs hu
      cases i with
      |zero=>simp at hs hu;subst hs hu;exact⟨hz,[],vA _ _ _ _ _,ae,ae,oZ⟩
      |succ i=>simp at hs)
  (by intro s hs v b h;simp at hs;subst hs;exact h)
 refine Out.run ec ⟨h1,λp=>h2.ra _ _ (hr.env p),hr.defers,λx v hq=>h2.ra _ _ (hr.gh x v hq),hr.lo⟩ (av:=.own σ.length) ?_ hK;simp only[RA];rw[<-hr.s.len];simp
def ZX{Γ:Ctx}(hΓ:Sound cx.P Γ)(hr:Rel cx env σ vals a w){k:PK}{dr:Bool}(hc:VA cx.P dr o=some k){K:AV->aw->Prop}(hK:ia Γ env σ k K):Out cx env a w o K:=by
 unfold VA at hc;split at hc
 ·
  rename_i x ho;split at hc
  ·rename_i hn;obtain⟨i,_,hc⟩:=aK hc;have:=Ml hn;subst this;cases dr with
   |true=>
    cases hc;exact CZ
   |false=>
    cases hz:Nat.blt 0 i.2.1 with
    |true=>
     rw[hz]at hc;cases hc;exact RN hr _ _ (za3 hz) IJ (bR _ _ _ (cW σ _ hK))
    |false=>
     rw[hz]at hc;cases hc;exact CZ
  ·cases hc;exact Rt hr x (.inl ho) (aC _ _ _ hK)
 ·
  rename_i x ho;split at hc
  ·rename_i hn;obtain⟨i,_,hc⟩:=aK hc;have:=Ml hn;subst this;cases dr with
   |true=>
    cases hc;exact CZ
   |false=>
    cases hz:Nat.blt 0 i.2.1 with
    |true=>
     rw[hz]at hc;cases hc;exact RN hr _ _ (za3 hz) IJ (bR _ _ _ (cW σ _ hK))
    |false=>
     rw[hz]at hc;cases hc;exact CZ
  ·cases hc;exact Rt hr x (.inr ho) (aC _ _ _ hK)
 ·
  rename_i c x y ho;cases hc;refine aac hr c x y ho ?_;have h:=aC _ _ _ hK
  revert h
  cases a_ env c with
  |pv p=>
   cases p with
   |bool b=>cases b with
    |true=>intro h;exact aC _ _ _ h
    |false=>intro h;exact aC _ _ _ h
   |_=>exact λh=>h
  |_=>exact λh=>h
 ·
  rename_i op t x y u ho;have bin:∀op,o.op=.binOp op t x y u->ia Γ env σ (.bin op x y) K->Out cx env a w o K:=λop ho hK=>ad7 hr op t u x y ho (aC _ _ _ (aC _ _ _ hK))
  split at hc
  ·split at hc
   ·cases hc;exact bin _ ho hK
   ·cases hc;exact bin _ ho hK
   ·rename_i ht;cases hc;exact Vn hr false t u x y (aC _ _ _ (aC _ _ _ hK)) ho ht
   ·rename_i e ht;obtain⟨hy,hc⟩:=dG hc;cases hc;exact L8 hr false t u e x y ho ht hy (aC _ _ _ hK)
   ·rename_i fs ht;obtain⟨ks,hk,hc⟩:=aK hc;obtain⟨h1,hc⟩:=dG hc;cases hc;simp only[zaT,zbw]at h1;exact UL hr false ks t u x y (aC _ _ _ (aC _ _ _ hK)) ho fs ht hk h1.1 h1.2
   ·cases hc
  ·split at hc
   ·cases hc;exact bin _ ho hK
   ·cases hc;exact bin _ ho hK
   ·rename_i ht;cases hc;exact Vn hr true t u x y (aC _ _ _ (aC _ _ _ hK)) ho ht
   ·rename_i e ht;obtain⟨hy,hc⟩:=dG hc;cases hc;exact L8 hr true t u e x y ho ht hy (aC _ _ _ hK)
   ·rename_i fs ht;obtain⟨ks,hk,hc⟩:=aK hc;obtain⟨h1,hc⟩:=dG hc;cases hc;simp only[zaT,zbw]at h1;exact UL hr true ks t u x y (aC _ _ _ (aC _ _ _ hK)) ho fs ht hk h1.1 h1.2
   ·cases hc
  ·cases hc;exact bin _ ho hK
 ·
  rename_i op t x ho;cases hc;exact aie hr op t x ho (aC _ _ _ hK)
 ·
  rename_i t x k c ho;split at hc
  ·rename_i kt et ht;split at hc
   ·rename_i hk;obtain⟨i,hi,hc⟩:=aK hc;split at hc
    ·rename_i hz;cases hc;exact Zr hr c t kt et x k i ho ht hk hi hz (aC _ _ _ (aC _ _ _ hK))
    ·cases hc
   ·cases hc
  ·cases hc
 ·
  rename_i s d x ho;split at hc
  ·rename_i k0 k hs hd;cases hc;exact Wt hr s d k k0 x ho hs hd (aC _ _ _ hK)
  ·rename_i hs hd;cases hc;exact XS hr s d x ho hs hd (aC _ _ _ hK)
  ·rename_i e hs hd;split at hc
   ·rename_i he;cases hc;exact adf hr s d e x ho hs he hd (aC _ _ _ hK)
   ·cases hc
  ·rename_i e hs hd;split at hc
   ·rename_i he;cases hc;exact aef hr s d e x ho hs hd he (aC _ _ _ hK)
   ·cases hc
  ·cases hc
 ·
  rename_i t x ho;obtain⟨s,hs,hc⟩:=aK hc;have LL:=o4 hs;split at hc
  ·rename_i h1;cases hc;rw[h1]at LL;exact QE hr t x true _ ho ⟨_,LL,rfl⟩ (aC _ _ _ hK)
  ·rename_i h1;cases hc;rw[h1]at LL;exact QE hr t x false _ ho ⟨_,LL,rfl⟩ (aC _ _ _ hK)
 ·
  rename_i t x v ho;obtain⟨i,hi,hc⟩:=aK hc;cases hc;exact Wi hr t i x v ho hi (aC _ _ _ (aC _ _ _ hK))
 ·
  rename_i e ho;split at hc
  ·rename_i q hq;cases hc;exact Xd hr e q ho hq hK
  ·obtain⟨z,hz,hc⟩:=aK hc;cases hc;exact VZ hr e z ho hz hK
 ·
  rename_i e x ho;cases hc;exact adi hr e x ho (aC _ _ _ hK)
 ·
  rename_i t parts ho;split at hc
  ·rename_i fs hu;obtain⟨z,hz,hc⟩:=aK hc;obtain⟨pl,HR,hc⟩:=aK hc;obtain⟨ps,Pg,hc⟩:=aK hc;split at hc
   ·cases hc;exact WS hr t parts fs _ pl ps ho hu hz HR Pg hK
   ·cases hc
  ·rename_i m e hu;obtain⟨z,hz,hc⟩:=aK hc;obtain⟨s,hs,hc⟩:=aK hc;split at hc
   ·cases hc;exact SQ hr t e m s.2 s.1 parts _ ho hu hz (o4 hs) hK
   ·cases hc
  ·cases hc
 ·
  rename_i t n parts ho;obtain⟨i,hi,hc⟩:=aK hc;obtain⟨ps,Pg,hc⟩:=aK hc;obtain⟨h1,hc⟩:=dG hc;obtain⟨z,hz,hc⟩:=aK hc;cases hc;obtain⟨ti,hu,pJ,kq,_⟩:=lO hi;simp only[zaT,decide_eq_true_eq]at h1;obtain⟨⟨h1,h2⟩,h3⟩:=h1;rw[<-kq]at h2 h3 hK;exact SX hr t i.1 ti n parts ps z ho hu pJ Pg (zab h1) h2 (za3 h3) hz (DU _ _ _ hK)
 ·
  rename_i c ho;split at hc
  ·rename_i b Hn;split at hc
   ·rename_i x dO;obtain⟨t,ht,hc⟩:=aK hc;split at hc
    ·rename_i hu;cases hc;exact XV hr x t c ho Hn dO ht hu (aC _ _ _ hK)
    ·rename_i e hu;cases hc;exact XP hr x t e c ho Hn dO ht hu (aC _ _ _ hK)
    ·cases hc
   ·rename_i x y dO;split at hc
    ·rename_i t u EN;obtain⟨i,hi,hc⟩:=aK hc;obtain⟨z,hz,hc⟩:=aK hc;obtain⟨h1,hc⟩:=dG hc;obtain⟨ti,hu,pJ,kq,hby⟩:=lO hi;simp only[zaT,decide_eq_true_eq]at h1;obtain⟨h1,h2⟩:=h1;have h2:=zab h2;split at hc
     ·rename_i htu;cases hc;have:=zab htu;subst this;rw[<-kq]at h1 h2 hK;rw[<-hby]at hK;exact abT hr t i.1 ti z x y c ho Hn dO EN hu pJ hz h2 h1 (aC _ _ _ (aC _ _ _ hK))
     ·split at hc
      ·rename_i Pe;split at hc
       ·rename_i he;obtain⟨h3,hc⟩:=dG hc;have h3:=zab h3;cases hc;rw[<-hby]at hK;exact YA hr t u i.1 ti z x y c ho Hn dO EN hu Pe pJ hz (by rw[h2,kq]) (by rw[kq,h3]) (aC _ _ _ (aC _ _ _ hK))
       ·cases hc
      ·cases hc
    ·cases hc
   ·rename_i x y dO;split at hc
    ·rename_i t u EN;obtain⟨i,hi,hc⟩:=aK hc;obtain⟨ti,hu,pJ,kq,hby⟩:=lO hi;split at hc
     ·rename_i Pe;split at hc
      ·rename_i he;obtain⟨h3,hc⟩:=dG hc;have h3:=zab h3;cases hc;exact Z4 hr t u i.1 ti x y c ho Hn dO EN hu pJ (by rw[kq,h3]) (aC _ _ _ (aC _ _ _ hK))
      ·cases hc
     ·obtain⟨h3,hc⟩:=dG hc;cases hc;rw[<-kq]at hK;exact ab1 hr t u i.1 ti x y c ho Hn dO EN hu pJ (aC _ _ _ (aC _ _ _ hK))
     ·cases hc
    ·cases hc
   ·rename_i x dO;obtain⟨t,ht,hc⟩:=aK hc;obtain⟨i,hi,hc⟩:=aK hc;obtain⟨z,hz,hc⟩:=aK hc;obtain⟨h1,hc⟩:=dG hc;obtain⟨ti,hu,pJ,kq,hby⟩:=lO hi;cases hc;simp only[zaT,decide_eq_true_eq]at h1;rw[<-kq]at hK h1;exact abt hr t i.1 ti z x c ho Hn dO ht hu pJ hz (zab h1.2) (aC _ _ _ hK)
   ·rename_i x y dO;cases hc;exact Y5 hr false x y (aC _ _ _ (aC _ _ _ hK)) c ho Hn dO
   ·rename_i x y dO;cases hc;exact Y5 hr true x y (aC _ _ _ (aC _ _ _ hK)) c ho Hn dO
   ·cases hc
  ·rename_i f Hn;split at hc
   ·rename_i f;obtain⟨fn,hf,hc⟩:=aK hc;split at hc
    ·rename_i bd hbd;obtain⟨h1,hc⟩:=dG hc;cases hc;exact ZS hΓ hr f c.args.toList c ho Hn rfl (DU _ _ _ hK)
    ·cases hc
   ·rename_i t;cases hc;exact W6 hΓ hr (.tmp t) c.args.toList c ho Hn rfl (DU env _ (λaHk=>Ni Γ (a_ env (.tmp t)) aHk σ K) (aC env (.tmp t) (λf=>evs env c.args.toList λaHk=>Ni Γ f aHk σ K) hK))
   ·cases hc
  ·cases hc
 ·
  rename_i x i ho;cases hc;exact ad3 hr x i ho (aC _ _ _ hK)
 ·
  rename_i t x lo hi mx ho;split at hc
  ·split at hc
   ·rename_i hu;cases hc;exact Y8 hr t x lo hi ho hu (uP _ _ _ (uP _ _ _ (aC _ _ _ hK)))
   ·rename_i e hu;obtain⟨i,hi,hc⟩:=aK hc;cases hc;exact Yi hr t e i x lo _ ho hu hi (uP _ _ _ (uP _ _ _ (aC _ _ _ hK)))
   ·obtain⟨q,hq,hc⟩:=aK hc;cases hc;exact aay hr t q x lo _ ho hq (uP _ _ _ (uP _ _ _ (aC _ _ _ hK)))
   ·cases hc
  ·cases hc
 ·
  rename_i t x i ho;split at hc
  ·rename_i hu;cases hc;exact ac0 hr t x i ho hu (aC _ _ _ (aC _ _ _ hK))
  ·rename_i m e hu;split at hc
   ·rename_i q hq;unfold yF at hq;rw[hu]at hq;simp only at hq;split at hq
    ·split at hq
     ·rename_i kd k;obtain⟨s,hs,hq⟩:=aK hq;obtain⟨hb,hq⟩:=dG hq;cases hq;simp only[zaT,decide_eq_true_eq]at hb;have LL:=o4 hs;split at hc
      ·rename_i Gv;cases hc;have Gv:s.1=true:=Gv;rw[Gv]at LL;exact Ro hr t e x _ m kd k s.2 true s.2 ho hu rfl hb.1 LL rfl (aC _ _ _ hK)
      ·rename_i Gv;cases hc;have Gv:s.1=false:=Gv;rw[Gv]at LL;exact Ro hr t e x _ m kd k s.2 false 1 ho hu rfl hb.1 LL rfl (aC _ _ _ hK)
     ·cases hq
    ·cases hq
   ·obtain⟨s,hs,hc⟩:=aK hc;obtain⟨hb,hc⟩:=dG hc;have LL:=o4 hs;split at hc
    ·rename_i Gv;cases hc;have Gv:s.1=true:=Gv;rw[Gv]at LL;exact P1 hr t e x i m s.2 true s.2 ho hu LL rfl (aC _ _ _ (aC _ _ _ hK))
    ·rename_i Gv;cases hc;have Gv:s.1=false:=Gv;rw[Gv]at LL;exact P1 hr t e x i m s.2 false 1 ho hu LL rfl (aC _ _ _ (aC _ _ _ hK))
  ·cases hc
 ·
  rename_i t x i ho;split at hc
  ·rename_i m e hu;split at hc
   ·rename_i q hq;cases hc;exact V9 hr t q x i ho hq (aC _ _ _ (aC _ _ _ hK))
   ·split at hc
    ·rename_i q hq;cases hc;exact It hr x q.1 (λb n hv=>YE cx.P t x i q ho hq b n hv) (aC _ _ _ hK)
    ·obtain⟨s,hs,hc⟩:=aK hc;obtain⟨hb,hc⟩:=dG hc;cases hc;exact Y3 hr t e x i m s.2 s.1 ho hu (o4 hs) (aC _ _ _ (aC _ _ _ hK))
  ·obtain⟨s,hs,hc⟩:=aK hc;cases hc;obtain⟨ti,hu,pJ,kq,_⟩:=lO hs;rw[<-kq]at hK;exact aak hr t s.1 ti x i ho hu pJ (aC _ _ _ (aC _ _ _ hK))
 ·
  rename_i s x f ho;obtain⟨q,hq,hc⟩:=aK hc;cases hc;obtain⟨fs,fd,hu,hf,h1,h2,h3⟩:=xi hq;exact It hr x q.1 (λb n hv=>by rw[h1];simp[execOp,ho,hv,Ql cx.P s f fs fd _ _ hu hf h2 h3 b n]) (aC _ _ _ hK)
 ·
  rename_i s x f ho;obtain⟨q,hq,hc⟩:=aK hc;obtain⟨fs,fd,hu,hf,h1,h2,h3⟩:=xi hq;split at hc
  ·rename_i Gv;cases hc;rw[Gv]at h2;rw[h1]at hK;exact VD hr s x f fs fd true _ ho hu hf ⟨_,h2,rfl⟩ (aC _ _ _ hK)
  ·rename_i Gv;cases hc;rw[Gv]at h2;rw[h1]at hK;exact VD hr s x f fs fd false _ ho hu hf ⟨_,h2,rfl⟩ (aC _ _ _ hK)
 ·
  rename_i x ho;cases hc;exact W4 hr x ho (aC _ _ _ hK)
 ·
  rename_i f first gB ho
  split at hc
  ·rename_i f hf;cases hc;exact aal hr _ first gB ho hf (DU _ _ _ hK)
  ·cases hc
 ·
  rename_i t l c ho;obtain⟨i,hi,hc⟩:=aK hc;obtain⟨z,hz,hc⟩:=aK hc;obtain⟨h1,hc⟩:=dG hc;cases hc;obtain⟨ti,hu,pJ,kq,hby⟩:=lO hi;simp only[zaT,decide_eq_true_eq]at h1;obtain⟨h1,h2⟩:=h1;have h2:=zab h2;rw[<-kq]at h1 h2 hK;rw[<-hby]at hK;exact YC hr t i.1 ti z l c ho hu pJ hz h1 h2 (aC _ _ _ (aC _ _ _ hK))
 ·cases hc;exact dN
 ·
  rename_i t x ho;split at hc
  ·cases hc
  ·rename_i d hn hd;cases hc;exact XQ hr t x ho d hd (λm e=>hn m e) hK
  ·cases hc
 ·cases hc
def V7{Γ:Ctx}(hΓ:Sound cx.P Γ)(hr:Rel cx env σ vals a w){k:PK}{dr:Bool}(hc:Up cx.P dr o=some k){K:AV->aw->Prop}(hK:ia Γ env σ k K):Out cx env a w o K:=by
 unfold Up at hc;split at hc
 ·rename_i k' h;cases hc;exact ZX hΓ hr h hK
 ·split at hc
  ·cases hc;exact hK.elim
  ·cases hc
end
end
end Go.Dv
namespace Go.Dv
open Go.RowKit
section
def Oj{a b:Nat}(h:a≠b):Nat.beq a b=false:=by
 cases hb:Nat.beq a b with
 |false=>rfl
 |true=>simp_all
def look_eq(p:Nat)(K:AV->Prop)(e:Env):look p K e=K (aA p e):=by
 induction e with
 |nil=>rfl
 |cons hd e ih=>
  obtain⟨q,v⟩:=hd;show Bool.rec (look p K e) (K v) (Nat.beq q p)=K (bif Nat.beq q p then v else aA p e);cases Nat.beq q p with
  |true=>rfl
  |false=>exact ih
def dH(env:Env)(o:Operand)(K:AV->Prop):ev env o K=K (a_ env o):=by
 cases o with
 |tmp t=>exact look_eq t K env
 |_=>rfl
def EO(env:Env)(l:List Operand):∀(K:List AV->Prop),evs env l K=K (l.map (a_ env)):=by
 induction l with
 |nil=>intro K;rfl
 |cons o l ih=>
  intro K;show(ev env o λa=>evs env l λl=>K (a::l))=_;rw[dH,ih];rfl
def S4(env:Env)(o:Option Operand)(K:Option AV->Prop):evO env o K=K (o.map (a_ env)):=by
 cases o with
 |none=>rfl
 |some x=>exact dH env x _
def IN(env:Env)(l:List (Nat×Nat×Operand)):∀(K:List (Nat×Nat×AV)->Prop),Ay env l K=K (l.map λp=>(p.1,p.2.1,a_ env p.2.2)):=by
 induction l with
 |nil=>intro K;rfl
 |cons o l ih=>
  intro K;show(ev env o.2.2 λa=>Ay env l λl=>K ((o.1,o.2.1,a)::l))=_;rw[dH,ih];rfl
section
variable {Γ:Ctx} {σ:aw}
def Aq{env au:Env}{o:Operand}(h:∀t∈jJ o,aA t au=aA t env):a_ au o=a_ env o:=by
 cases o with
 |tmp t=>exact h t (by simp[jJ])
 |_=>rfl
def Ld{env au:Env}{l:List Operand}(h:∀t∈l.flatMap jJ,aA t au=aA t env):l.map (a_ au)=l.map (a_ env):=
 zbA λo ho=>Aq λt ht=>h t (zbx.2 ⟨o,ho,ht⟩)
def T0{env au:Env}{o:Option Operand}(h:∀t∈rdO o,aA t au=aA t env):o.map (a_ au)=o.map (a_ env):=by
 cases o with
 |none=>rfl
 |some x=>exact congrArg some (Aq h)
def E5{env au:Env}{k:PK}{K:AV->aw->Prop}(h:∀t∈k.reads,aA t au=aA t env):ia Γ au σ k K=ia Γ env σ k K:=by
 have a:∀o,(∀t∈jJ o,t∈k.reads)->a_ au o=a_ env o:=λo ho=>Aq λt ht=>h t (ho t ht)
 have b:∀l:List Operand,(∀t∈l.flatMap jJ,t∈k.reads)->l.map (a_ au)=l.map (a_ env):=λo ho=>Ld λt ht=>h t (ho t ht)
 have c:∀q:Option Operand,(∀t∈rdO q,t∈k.reads)->q.map (a_ au)=q.map (a_ env):=λo ho=>T0 λt ht=>h t (ho t ht)
 clear h;cases k with
 |build z ps=>
  simp only[ia,IN];rw[zbA λp hp=>by rw[a p.2.2 λt ht=>zbx.2 ⟨p,hp,ht⟩]]
 |_=>
  simp only[PK.reads,zax]at a b c;simp+contextual only[ia,dH,S4,EO,a,b,c,true_or,or_true,implies_true]
def Jp{a:AV}{F G:IntKind->Int->Prop}(h:Dv.asInt a F)(hi:∀k n,F k n->G k n):Dv.asInt a G:=by
 cases a with
 |pv x=>cases x with
  |int k n=>exact hi k n h
  |_=>exact h
 |_=>exact h
def bH{β:Type}(G:(β->Prop)->Prop):Prop:=∀K,G K→∃r,K r∧∀K':β->Prop,K' r->G K'
def bH.ret{β:Type}(x:β):bH λK:β->Prop=>K x:=λ_ h=>⟨x,h,λ_ h=>h⟩
def bH.no{β:Type}:bH λ_:β->Prop=>False:=λ_ h=>h.elim
def bH.and{β:Type}{p:Prop}{G:(β->Prop)->Prop}(h:bH G):bH λK=>p/\G K:=λK hk=>by
 obtain⟨r,h1,h2⟩:=h K hk.2
 grind
def bH.ex{α β:Type}{G:α->(β->Prop)->Prop}(h:∀a,bH (G a)):bH λK=>∃a,G a K:=λK ⟨a,hk⟩=>by
 obtain⟨r,h1,h2⟩:=h a K hk;exact⟨r,h1,λK' h=>⟨a,h2 K' h⟩⟩
def bH.num{β:Type}(f:Int->β)(n:Int):bH λK:β->Prop=>∀r:Int,r=n->K (f r):=λK h=>⟨f n,h n rfl,λK' h r hr=>hr▸h⟩
def bH.cmp{β:Type}(f:PV->β)(p:Prop):bH λK:β->Prop=>sj p λr=>K (f r):=λK h=>by
 classical
 exact⟨f (.bool (decide p)),h _ ae,λK' h r hr=>by
  grind⟩
def bH.map{α β:Type}{G:(α->Prop)->Prop}(h:bH G)(f:α->β):bH λK=>G λa=>K (f a):=λK hk=>by
 obtain⟨r,h1,h2⟩:=h _ hk
 grind
def bH.bind{α β:Type}{G:(α->Prop)->Prop}{H:α->(β->Prop)->Prop}(h:bH G)(h':∀a,bH (H a)):bH λK=>G λa=>H a K:=λK hk=>by
 obtain⟨a,h1,h2⟩:=h _ hk;obtain⟨r,h3,h4⟩:=h' a K h1
 grind
def iR{α:Type}(l:List α):∀i,bH (dm l i):=by
 induction l with
 |nil=>intro i;exact bH.no
 |cons a l ih=>intro i;cases i with
  |zero=>exact bH.ret a
  |succ i=>exact ih i
def Ap{α:Type}(n:Nat):∀l:List α,bH (zV n l):=by
 induction n with
 |zero=>intro l;exact dq
 |succ n ih=>intro l;cases l with
  |nil=>exact bH.no
  |cons a l=>exact(ih l).map (a:: ·)
def u_{α:Type}(n:Nat):∀l:List α,bH (xE n l):=by
 induction n with
 |zero=>intro l;exact dq
 |succ n ih=>intro l;cases l with
  |nil=>exact bH.no
  |cons a l=>exact ih l
def zQ{α:Type}(new l:List α)(i:Nat):bH (wK new l i):=by
 intro K h;obtain⟨pre,mid,post,h1,h2,h3,h4⟩:=mH new l i K h;refine⟨_,h4,λK' h'=>?_⟩;have over:∀(new l mid post:List α) (K:List α->Prop),l=mid++post->mid.length=new.length->K (new++post)->
  (List.rec (λl K=>K l) (λx _ ih l K=>match l with|[]=>False|_::r=>ih r λt=>K (x::t)) new l K):=by
  intro new
  induction new with
  |nil=>grind
  |cons x new ih=>
   intro l mid post K e hl hk;cases mid with
   |nil=>grind
   |cons m mid=>
    grind
 clear h h4 K;subst h1 h2
 induction pre generalizing K' with
 |nil=>
  cases hl:mid++post with
  |nil=>
   have hm:=(zbI.1 hl).1;have hp:=(zbI.1 hl).2;subst hm hp;have:=zaf h3.symm;subst this;exact h'
  |cons a r=>
   rw[za0,hl];exact over new (a::r) mid post K' hl.symm h3 aV
 |cons a pre ih=>exact ih _ aV
def CL(l:List PV):bH (H3 l):=by
 induction l with
 |nil=>exact dq
 |cons x l ih=>exact ih.map (AV.pv x:: ·)
def SN{β:Type}(l:List AV)(f:List PV->β)(e:β):bH λK:β->Prop=>Fh l (λt=>K (f t)) (K e):=by
 induction l generalizing f with
 |nil=>exact dq
 |cons a l ih=>
  cases a with
  |pv x=>exact ih λt=>f (x::t)
  |_=>exact bH.ret e
def Ru(l:List AV):bH (WK l):=SN l (λt=>AV.pv (.agg t)) (AV.agg l)
def QL(ag:Bool)(cs:List PV):bH (NL ag cs):=by
 cases ag with
 |true=>exact dq
 |false=>cases cs with
  |nil=>exact bH.no
  |cons c cs=>cases cs with
   |nil=>exact dq
   |cons _ _=>exact bH.no
def Fj(ag:Bool)(cs:List AV):bH (BK ag cs):=by
 cases ag with
 |true=>exact Ru cs
 |false=>cases cs with
  |nil=>exact bH.no
  |cons c cs=>cases cs with
   |nil=>exact dq
   |cons _ _=>exact bH.no
def vL(off:Nat)(ag:Bool)(n:Nat)(cs:List PV):bH (xB off ag n cs):=(u_ off cs).bind λr=>(Ap n r).bind λt=>QL ag t
def Tj(a:AV):bH (wb a):=by
 cases a with
 |pv x=>cases x with
  |agg cs=>exact CL cs
  |tup _=>exact bH.no
  |_=>exact dq
 |agg cs=>exact dq
 |own id=>exact dq
 |ref id idx off=>exact dq
 |sub id sz lo n=>exact dq
 |clo f gB=>exact dq
 |_=>exact bH.no
def TV(ps:List (Nat×Nat×AV)):∀z,bH (EP z ps):=by
 induction ps with
 |nil=>intro z;exact bH.ret z
 |cons p ps ih=>intro z;exact(Tj p.2.2).bind λvs=>bH.and ((zQ vs z p.1).bind λz=>ih z)
def PZ{β:Type}(sz lo n:Nat)(b:cu)(f:List PV->(β->Prop)->Prop)(h:∀l,bH (f l)):bH λK=>KK sz lo n b λl=>f l K:=by
 have one:∀(s:Nat) (ak:List PV),bH λK=>match Nat.beq s sz with
  |true=>lo+n<=ak.length/\f (cut lo (lo+n) ak) K
  |false=>False:=by
  intro s ak;cases Nat.beq s sz with
  |true=>exact bH.and (h _)
  |false=>exact bH.no
 cases b with
 |row e s ap ak=>exact one s ak
 |fz x=>cases x with
  |sl s ak=>exact one s ak
  |_=>exact bH.no
 |_=>exact bH.no
def Ea{β:Type}(a:AV)(f:Nat->List PV->(β->Prop)->Prop)(h:∀s l,bH (f s l)):bH λK=>uO σ a λs l=>f s l K:=by
 cases a with
 |pv x=>cases x with
  |sl sz ak=>exact h sz ak
  |nil sz=>exact h sz []
  |_=>exact bH.no
 |own id=>
  refine(iR σ id).bind λb=>?_
  cases b with
  |row e sz ap ak=>grind
  |fz x=>cases x with
   |sl sz ak=>grind
   |_=>exact bH.no
  |_=>exact bH.no
 |sub id sz lo n=>exact(iR σ id).bind λb=>PZ sz lo n b _ λl=>h sz l
 |_=>exact bH.no
def Ul{β:Type}(n:Nat)(hi:Option AV)(f:Nat->(β->Prop)->Prop)(h:∀k,bH (f k)):bH λK=>upK n hi λk=>f k K:=by
 cases hi with
 |none=>exact h n
 |some a=>cases a with
  |pv x=>cases x with
   |int k m=>exact bH.and (h _)
   |_=>exact bH.no
  |_=>exact bH.no
def Ga{β:Type}(n:Nat)(lo hi:Option AV)(f:Nat->Nat->(β->Prop)->Prop)(h:∀l k,bH (f l k)):bH λK=>fb n lo hi λl k=>f l k K:=by
 cases lo with
 |none=>exact Ul n hi _ λk=>h 0 k
 |some a=>cases a with
  |pv x=>cases x with
   |int k m=>exact Ul n hi (λu K=>(0<=m/\m<=(u:Int))/\f m.toNat u K) λu=>bH.and (h _ _)
   |_=>exact bH.no
  |_=>exact bH.no
def iV{β:Type}(a:AV)(f:IntKind->Int->(β->Prop)->Prop)(h:∀k n,bH (f k n)):bH λK=>Dv.asInt a λk n=>f k n K:=by
 cases a with
 |pv x=>cases x with
  |int k n=>exact h k n
  |_=>exact bH.no
 |_=>exact bH.no
def YD{β:Type}(op:BinOp)(k:IntKind)(a b:Int)(f:PV->β):bH λK:β->Prop=>YT op k a b λr=>K (f r):=by
 cases op<;>first|exact bH.num (λr=>f (.int k r)) _|exact bH.cmp f _|exact bH.and (bH.num (λr=>f (.int k r)) _)
def Z0{β:Type}(op:BinOp)(x y:PV)(f:PV->β):bH λK:β->Prop=>adK op x y λr=>K (f r):=by
 cases x with
 |int k a=>cases y with
  |int j b=>
   show bH λK:β->Prop=>match sameKind op k j with|true=>YT op k a b λr=>K (f r)|false=>False
   cases sameKind op k j with
   |true=>exact YD op k a b f
   |false=>exact bH.no
  |_=>exact bH.no
 |str a=>cases y with
  |str b=>cases op<;>first|exact bH.no|exact bH.cmp f _|exact bH.and (bH.ret (f (.str (a++b))))
  |_=>exact bH.no
 |_=>exact bH.no
def wk(a:AV):bH (fE σ a):=by
 refine AV.rec (motive_1:=λa=>bH (fE σ a)) (motive_2:=λl=>bH (bJ σ l)) ?_ ?_ ?_ ?_ ?_ ?_ ?_ ?_ ?_ ?_ a
 ·exact bH.no
 ·intro x;exact bH.ret x
 ·intro id;refine(iR σ id).bind λb=>?_
  cases b with
  |row e sz ap ak=>exact dq
  |fz x=>exact dq
  |_=>exact bH.no
 ·intro id idx off;cases idx with
  |succ _=>exact bH.no
  |zero=>cases off with
   |succ _=>exact bH.no
   |zero=>exact(iR σ id).bind λb K h=>VC b h
 ·intro id sz lo n;exact(iR σ id).bind λb=>PZ sz lo n b (λl K=>K (PV.sl sz l)) λl=>bH.ret _
 ·intro cs ih K h;obtain⟨r,h1,h2⟩:=ih.map PV.agg K (sx σ cs K h);exact⟨r,h1,λK' h=>tC σ cs K' (h2 K' h)⟩
 ·intro cs ih K h;obtain⟨r,h1,h2⟩:=ih.map PV.tup K (wJ σ cs K h);exact⟨r,h1,λK' h=>zu σ cs K' (h2 K' h)⟩
 ·intro _ _ _;exact bH.no
 ·exact dq
 ·intro a l h1 h2;exact h1.bind λx=>h2.map (x:: ·)
def oc(l:List AV):bH (bJ σ l):=by
 induction l with
 |nil=>exact dq
 |cons a l ih=>exact(wk a).bind λx=>ih.map (x:: ·)
def iv(σ:aw)(G:(AV->aw->Prop)->Prop):Prop:=∀K,G K→∃v,K v σ∧∀K':AV->aw->Prop,K' v σ->G K'
def bH.two{G:(AV->Prop)->Prop}(h:bH G):iv σ λK=>G λa=>K a σ:=λK hk=>by
 obtain⟨r,h1,h2⟩:=h _ hk
 grind
def iv.no:iv σ λ_=>False:=λ_ h=>h.elim
def iv.ret(a:AV):iv σ λK=>K a σ:=λ_ h=>⟨a,h,λ_ h=>h⟩
def iv.atp{β:Type}{G:(β->Prop)->Prop}{H:β->(AV->aw->Prop)->Prop}(h:bH G)(h':∀a,iv σ (H a)):iv σ λK=>G λa=>H a K:=λK hk=>by
 obtain⟨a,h1,h2⟩:=h _ hk;obtain⟨r,h3,h4⟩:=h' a K h1
 grind
def WI(ag:Bool)(n:Nat)(a:AV):bH (Bl σ ag n a):=by
 cases a with
 |pv x=>cases x with
  |cptr y=>exact(vL 0 ag n y.cells).map AV.pv
  |_=>exact bH.no
 |ref id idx off=>
  refine(iR σ id).bind λb=>?_
  cases b with
  |row e sz ap ak=>exact bH.ex λy=>bH.and ((vL off ag n y.cells).map AV.pv)
  |box e cs=>exact(u_ off cs).bind λr=>(Ap n r).bind λt=>Fj ag t
  |fz x=>cases x with
   |cptr y=>exact(vL off ag n y.cells).map AV.pv
   |_=>exact bH.no
  |_=>exact bH.no
 |_=>exact bH.no
def Ww(sz:Nat)(a:AV)(i:Int):bH (Ge σ sz a i):=by
 have one:∀(s:Nat) (ak:List PV),bH λK:AV->Prop=>match Nat.beq s sz with
  |true=>∃y,(0<=i/\ak[i.toNat]?=some y)/\K (.pv (.cptr y))
  |false=>False:=by
  intro s ak;cases Nat.beq s sz with
  |true=>exact bH.ex λy=>bH.and (bH.ret (AV.pv (.cptr y)))
  |false=>exact bH.no
 cases a with
 |pv x=>cases x with
  |sl s ak=>exact one s ak
  |_=>exact bH.no
 |own id=>
  refine(iR σ id).bind λb=>?_
  cases b with
  |row e s ap ak=>
   show bH λK:AV->Prop=>match Nat.beq s sz with
    |true=>(0<=i/\i.toNat<ak.length)/\K (.ref id i.toNat 0)
    |false=>False
   cases Nat.beq s sz with
   |true=>exact bH.and (bH.ret (AV.ref id i.toNat 0))
   |false=>exact bH.no
  |fz x=>cases x with
   |sl s ak=>exact one s ak
   |_=>exact bH.no
  |_=>exact bH.no
 |sub id z lo n=>
  show bH λK:AV->Prop=>match Nat.beq z sz with
   |true=>dm σ id λb=>match b with
    | .row _ s _ ak=>match Nat.beq s sz with
     |true=>((0<=i/\i.toNat<n)/\lo+n<=ak.length)/\K (.ref id (lo+i.toNat) 0)
     |false=>False
    | .fz x=>match x with
     | .sl s ak=>match Nat.beq s sz with
      |true=>∃y,((0<=i/\i.toNat<n/\lo+n<=ak.length)/\ak[lo+i.toNat]?=some y)/\K (.pv (.cptr y))
      |false=>False
     |_=>False
    |_=>False
   |false=>False
  cases Nat.beq z sz with
  |false=>exact bH.no
  |true=>
   refine(iR σ id).bind λb=>?_
   cases b with
   |row e s ap ak=>
    show bH λK:AV->Prop=>match Nat.beq s sz with
     |true=>((0<=i/\i.toNat<n)/\lo+n<=ak.length)/\K (.ref id (lo+i.toNat) 0)
     |false=>False
    cases Nat.beq s sz with
    |true=>exact bH.and (bH.ret _)
    |false=>exact bH.no
   |fz x=>cases x with
    |sl s ak=>
     show bH λK:AV->Prop=>match Nat.beq s sz with
      |true=>∃y,((0<=i/\i.toNat<n/\lo+n<=ak.length)/\ak[lo+i.toNat]?=some y)/\K (.pv (.cptr y))
      |false=>False
     cases Nat.beq s sz with
     |true=>exact bH.ex λy=>bH.and (bH.ret (AV.pv (.cptr y)))
     |false=>exact bH.no
    |_=>exact bH.no
   |_=>exact bH.no
 |_=>exact bH.no
def T1(n sz:Nat)(a:AV)(i:Int):bH (Fb σ n sz a i):=by
 cases a with
 |ref id idx off=>
  cases idx with
  |succ idx=>exact bH.no
  |zero=>cases off with
   |succ off=>exact bH.no
   |zero=>
    refine(iR σ id).bind λb=>?_
    cases b with
    |row e s ap ak=>
     show bH λK:AV->Prop=>match Nat.beq s sz with
      |true=>(ak.length=n/\0<=i/\i.toNat<n)/\K (.ref id i.toNat 0)
      |false=>False
     cases Nat.beq s sz with
     |true=>exact bH.and (bH.ret _)
     |false=>exact bH.no
    |_=>exact bH.no
 |_=>exact bH.no
def Mz{β:Type}(id:Nat)(r:β):bH λK:β->Prop=>ME σ id (K r):=by
 refine(iR σ id).bind λb=>?_
 cases b with
 |row _ _ _ _=>exact bH.ret r
 |box _ _=>exact bH.ret r
 |fz x=>cases x with
  |cptr y=>exact bH.ret r
  |_=>exact bH.no
 |_=>exact bH.no
def Ms(off:Nat)(a:AV):bH (F0 σ off a):=by
 cases a with
 |pv x=>cases x with
  |cptr y=>exact(u_ off y.cells).map λr=>AV.pv (.cptr (.agg r))
  |_=>exact bH.no
 |ref id idx o=>exact Mz id (AV.ref id idx (Nat.add o off))
 |_=>exact bH.no
def NN{P:Program}(hΓ:Sound P Γ)(env:Env){k:PK}(hk:k.pure Γ=true):iv σ (λK=>ia Γ env σ k K):=by
 cases k with
 |mv x=>simp only[ia,dH];exact mB
 |nilS sz=>exact mB
 |nilR e sz=>cases hk
 |pick c a b=>
  simp only[ia,dH];cases a_ env c with
  |pv c=>cases c with
   |bool c=>cases c with
    |true=>exact mB
    |false=>exact mB
   |_=>exact iv.no
  |_=>exact iv.no
 |bin op x y=>
  simp only[ia,dH];cases a_ env x with
  |pv x=>cases a_ env y with
   |pv y=>exact(Z0 op x y AV.pv).two
   |_=>exact iv.no
  |_=>exact iv.no
 |eqb neg x y=>
  simp only[ia,dH];cases a_ env x with
  |pv x=>cases a_ env y with
   |pv y=>cases x with
    |bool a=>cases y with
     |bool b=>cases neg with
      |false=>exact(bH.cmp AV.pv (a=b)).two
      |true=>exact(bH.cmp AV.pv (a≠b)).two
     |_=>exact iv.no
    |_=>exact iv.no
   |_=>exact iv.no
  |_=>exact iv.no
 |eqs neg n x y=>
  simp only[ia,dH];cases a_ env x with
  |pv x=>cases a_ env y with
   |pv y=>cases x with
    |agg a=>cases y with
     |agg b=>
      simp only;cases o0 n a b with
      |false=>exact iv.no
      |true=>cases neg with
       |false=>exact(bH.cmp AV.pv (a=b)).two
       |true=>exact(bH.cmp AV.pv (a≠b)).two
     |_=>exact iv.no
    |_=>exact iv.no
   |_=>exact iv.no
  |_=>exact iv.no
 |un op x=>
  simp only[ia,dH];cases a_ env x with
  |pv x=>cases op with
   |not=>cases x with
    |bool b=>exact(bH.cmp AV.pv (b=false)).two
    |_=>exact iv.no
   |neg=>cases x with
    |int k n=>exact(bH.num (λr=>AV.pv (.int k r)) _).two
    |_=>exact iv.no
   |_=>exact iv.no
  |_=>exact iv.no
 |conv c x=>
  simp only[ia,dH];cases c with
  |toInt k=>exact(iV (a_ env x) (λ_ n K=>Qs k n λr=>K (AV.pv r)) λ_ n=>bH.num (λr=>AV.pv (.int k r)) _).two
  |same=>
   cases a_ env x with
   |pv x=>cases x with
    |str l=>exact mB
    |_=>exact iv.no
   |_=>exact iv.no
  |bts=>exact(Ea (σ:=σ) (a_ env x) (λ_ ak K=>∃l:List UInt8,ak=l.map aR/\K (AV.pv (.str l))) λs ak=>bH.ex λl=>bH.and (bH.ret _)).two
  |stb e=>cases hk
 |lenS x=>
  simp only[ia,dH];cases a_ env x with
  |pv x=>cases x with
   |str l=>exact mB
   |_=>exact iv.no
  |_=>exact iv.no
 |lenR x=>cases hk
 |lenN x=>
  simp only[ia,dH];exact(Ea (σ:=σ) (a_ env x) (λ_ ak K=>K (AV.pv (.int .i64 ak.length))) λs ak=>bH.ret _).two
 |mm mx x y=>
  simp only[ia,dH];cases mx with
  |true=>exact(iV (a_ env x) (λk a K=>Dv.asInt (a_ env y) λ_ b=>∀r:Int,r=max a b->K (AV.pv (.int k r))) λk a=>iV (a_ env y) (λ_ b K=>∀r:Int,r=max a b->K (AV.pv (.int k r))) λ_ b=>bH.num (λr=>AV.pv (.int k r)) _).two
  |false=>exact(iV (a_ env x) (λk a K=>Dv.asInt (a_ env y) λ_ b=>∀r:Int,r=min a b->K (AV.pv (.int k r))) λk a=>iV (a_ env y) (λ_ b K=>∀r:Int,r=min a b->K (AV.pv (.int k r))) λ_ b=>bH.num (λr=>AV.pv (.int k r)) _).two
 |idx x y=>
  simp only[ia,dH];refine bH.two (G:=λK=>Dv.asInt (a_ env y) λ_ i=>match a_ env x with
   | .pv x=>match x with
    | .str l=>∃b,(0<=i/\l[i.toNat]?=some b)/\K (AV.pv (aR b))
    |_=>False
   |_=>False) ?_
  refine iV _ _ λ_ i=>?_
  cases a_ env x with
  |pv x=>cases x with
   |str l=>exact bH.ex λb=>bH.and (bH.ret _)
   |_=>exact bH.no
  |_=>exact bH.no
 |slcS x lo hi=>
  simp only[ia,dH,S4];cases a_ env x with
  |pv x=>cases x with
   |str l=>exact(Ga l.length _ _ (λa b K=>K (AV.pv (.str (cut a b l)))) λa b=>bH.ret _).two
   |_=>exact iv.no
  |_=>exact iv.no
 |slcR sz x lo hi=>cases hk
 |idxA sz x y=>
  simp only[ia,dH];exact(iV (a_ env y) (λ_ i K=>Ge σ sz (a_ env x) i K) λ_ i=>Ww sz _ i).two
 |fldA off x=>simp only[ia,dH];exact(Ms off _).two
 |fld off ag n x=>
  simp only[ia,dH];cases a_ env x with
  |pv x=>cases x with
   |agg cs=>exact((vL off ag n cs).map AV.pv).two
   |_=>exact iv.no
  |agg cs=>exact((u_ off cs).bind λr=>(Ap n r).bind λt=>Fj ag t).two
  |_=>exact iv.no
 |load ag n x=>simp only[ia,dH];exact(WI ag n _).two
 |store n x y=>cases hk
 |alloc e z=>cases hk
 |box e x=>cases hk
 |build z ps=>
  simp only[ia,IN];exact((CL z).bind λz=>(TV _ z).bind λcs=>Ru cs).two
 |bslice e sz l=>cases hk
 |bslP e sz l=>cases hk
 |app e sz b x y=>cases hk
 |appS e b x y=>cases hk
 |mksl e sz b z x y=>cases hk
 |call f l=>
  have hf:(Γ f).fn=true:=hk;obtain⟨h1,h2,_⟩:=hΓ f;simp only[ia,EO,BA,(h2 hf).1,(h2 hf).2];refine iv.atp (oc _) λps=>?_
  intro K hK;obtain⟨x,h3,h4⟩:=h1 hf ps _ hK;exact⟨.pv x,h3,λK' h=>h4 _ h⟩
 |ext x i=>
  simp only[ia,dH];cases a_ env x with
  |tup l=>exact(iR l i).two
  |pv x=>cases x with
   |tup l=>exact((iR l i).map AV.pv).two
   |_=>exact iv.no
  |_=>exact iv.no
 |nilck x=>
  simp only[ia,dH];cases a_ env x with
  |ref id idx off=>exact(Mz id (AV.ref id idx off)).two
  |pv x=>cases x with
   |cptr y=>exact mB
   |clo f cs=>exact mB
   |_=>exact iv.no
  |clo f cs=>exact mB
  |_=>exact iv.no
 |mkf f l=>cases hk
 |callv x l=>cases hk
 |idxAr n sz x y=>
  simp only[ia,dH];exact(iV (a_ env y) (λ_ i K=>Fb σ n sz (a_ env x) i K) λ_ i=>T1 n sz _ i).two
 |fail=>cases hk
 |junk=>cases hk
 |cpy sz x y=>cases hk
 |cpyS x y=>cases hk
 |clr sz z x=>cases hk
 |mkarr e sz z n=>cases hk
 |slcA n sz x lo hi=>cases hk
 |isnil neg x=>cases hk
 |look c x y=>cases hk
 |idxV m sz ag n x y=>
  simp only[ia,dH];have hd:bH λK:AV->Prop=>Dv.asInt (a_ env y) λ_ i=>(0<=i/\i.toNat<m)/\match a_ env x with
   | .pv x=>match x with
    | .agg cs=>xB (Nat.mul i.toNat sz) ag n cs λr=>K (AV.pv r)
    |_=>False
   | .agg cs=>xE (Nat.mul i.toNat sz) cs λr=>zV n r λt=>BK ag t K
   |_=>False:=by
   refine iV _ (λ_ i K=>_) λ_ i=>bH.and ?_
   cases a_ env x with
   |pv x=>cases x with
    |agg cs=>exact(vL _ ag n cs).map AV.pv
    |_=>exact bH.no
   |agg cs=>exact(u_ _ cs).bind λr=>(Ap n r).bind λt=>Fj ag t
   |_=>exact bH.no
  intro K hk;obtain⟨v,h1,h2⟩:=hd (λa=>K a σ) (Jp hk λ_ i ⟨h0,h⟩=>⟨h0,aa⟩);exact⟨v,h1,λK' h'=>Jp (h2 (λa=>K' a σ) h') λ_ i ⟨h0,h⟩=>⟨h0,aa⟩⟩
 |fldV m sz x y=>
  simp only[ia,dH];exact(iV (a_ env y) (λ_ i K=>(0<=i/\i.toNat<m)/\F0 σ (Nat.mul i.toNat sz) (a_ env x) K) λ_ i=>bH.and (Ms _ _)).two
def gq(Γ:Ctx)(o:PO)(env:Env)(σ:aw)(K:Env->aw->Prop):Prop:=
 match o.g with
  |none=>ia Γ env σ o.k λv σ=>K (put o.dst v env) σ
  |some (g,want)=>match aA g env with
   | .pv x=>match x with
    | .bool b=>bif b==want then ia Γ env σ o.k λv σ=>K (put o.dst v env) σ else K (put o.dst (.pv (.tup [])) env) σ
    | .tup _=>K (put o.dst (.pv (.tup [])) env) σ
    |_=>False
   |_=>False
def kM(K:Env->aw->Prop)(o:PO)(l:List PO)(env:Env):LP Γ K (o::l) env σ=gq Γ o env σ (LP Γ K l):=by
 obtain⟨d,g,k⟩:=o;cases g with
 |none=>rfl
 |some p=>
  obtain⟨g,want⟩:=p;unfold gq;refine Eq.trans (look_eq g (λgv=>match gv with
   | .pv x=>match x with
    | .bool b=>match b with
     |true=>(match want with
      |true=>ia Γ env σ k λv σ=>LP Γ K l (put d v env) σ
      |false=>LP Γ K l (put d (.pv (.tup [])) env) σ)
     |false=>(match want with
      |false=>ia Γ env σ k λv σ=>LP Γ K l (put d v env) σ
      |true=>LP Γ K l (put d (.pv (.tup [])) env) σ)
    | .tup _=>LP Γ K l (put d (.pv (.tup [])) env) σ
    |_=>False
   |_=>False) env) ?_
  grind
def IA{P:Program}(hΓ:Sound P Γ){o:PO}(ho:o.k.pure Γ=true){env:Env}{K:Env->aw->Prop}(h:gq Γ o env σ K):
 ∃v,K (put o.dst v env) σ∧∀(au:Env) (K':Env->aw->Prop),(∀t∈o.reads,aA t au=aA t env)->K' (put o.dst v au) σ->gq Γ o au σ K':=by
 obtain⟨d,g,k⟩:=o;have run:∀{env:Env} {K:Env->aw->Prop},ia Γ env σ k (λv σ=>K (put d v env) σ)→∃v,K (put d v env) σ∧∀(au:Env) (K':Env->aw->Prop),(∀t∈k.reads,aA t au=aA t env)->K' (put d v au) σ->ia Γ au σ k (λv σ=>K' (put d v au) σ):=by
  intro env K h;obtain⟨v,h1,h2⟩:=NN hΓ env ho _ h;refine⟨v,h1,λau K' hr hk=>?_⟩;rw[E5 hr]
  grind
 cases g with
 |none=>
  obtain⟨v,h1,h2⟩:=run (K:=K) h;exact⟨v,h1,λau K' hr hk=>h2 au K' (λt ht=>hr t bL) hk⟩
 |some p=>
  obtain⟨g,want⟩:=p;unfold gq at h;simp only at h;have hg:∀au:Env,(∀t∈PO.reads ⟨d,some (g,want),k⟩,aA t au=aA t env)->aA g au=aA g env:=λau hr=>hr g (by simp[PO.reads])
  cases hv:aA g env with
  |pv x=>
   rw[hv]at h;cases x with
   |bool b=>
    simp only at h;cases hb:(b==want)with
    |true=>
     rw[hb]at h;obtain⟨v,h1,h2⟩:=run (K:=K) h;refine⟨v,h1,λau K' hr hk=>?_⟩;unfold gq;simp only[hg au hr,hv,hb];exact h2 au K' (λt ht=>hr t yV) hk
    |false=>
     unfold gq
     grind
   |tup l=>
    unfold gq
    grind
   |_=>grind
  |_=>grind
def qR(K:Env->aw->Prop):Prop:=∀env au σ,(∀p,aA p au=aA p env)->K au σ=K env σ
def Bi{d:Option Nat}{v:AV}{env au:Env}(h:∀p,aA p au=aA p env)(p:Nat):aA p (put d v au)=aA p (put d v env):=by
 cases d with
 |none=>exact h p
 |some d=>rw[fx,fx,h p]
def wL{p o:PO}(h:DY p o=false):(∀d,p.dst=some d->d∉o.reads/\o.dst≠some d)∧∀d,o.dst=some d->d∉p.reads:=by
 unfold DY at h
 grind
def SA(y:PV)(cs:List PV):bH (SJ y cs):=by
 cases y<;>first|exact dq|(cases cs with
  |nil=>exact bH.no
  |cons x r=>cases r with
   |nil=>exact dq
   |cons _ _=>exact bH.no)
def PF{P:Program}(hΓ:Sound P Γ){k:PK}(hk:k.still=true){env:Env}(σ:aw){K:AV->aw->Prop}(h:ia Γ env σ k K):∃v,K v σ∧∀(σ':aw) (K':AV->aw->Prop),K' v σ'->ia Γ env σ' k K':=by
 have e:k.pure Γ=true∧∀σ' K',ia Γ env σ' k K'=ia Γ env σ k λv _=>K' v σ':=by
  cases k<;>first|cases hk;done|exact⟨rfl,λ_ _=>rfl⟩|(cases ‹Cv› <;>first|cases hk;done|exact⟨rfl,λ_ _=>rfl⟩)
 obtain⟨v,h1,h2⟩:=NN hΓ env e.1 _ h;exact⟨v,h1,λσ' K' h=>by rw[e.2];exact h2 _ h⟩
def Mp{o p:PO}{v:AV}{env:Env}(h:∀d,p.dst=some d->d∉o.reads):∀t∈o.reads,aA t env=aA t (put p.dst v env):=by
 intro t ht;cases hd:p.dst with
 |none=>rfl
 |some d=>
  rw[fx];have:d≠t:=λe=>h d hd (e▸ht)
  rw[Oj this];rfl
def YH{p o:PO}{u v:AV}{env:Env}(c1:∀d,p.dst=some d->o.dst≠some d)(q:Nat):aA q (put p.dst v (put o.dst u env))=aA q (put o.dst u (put p.dst v env)):=by
 cases hd:p.dst with
 |none=>rfl
 |some d=>
  cases he:o.dst with
  |none=>rfl
  |some e=>
   have qY:e≠d:=λh=>c1 d hd (h▸he)
   simp only[fx];by_cases h1:d=q
   ·have:=Oj qY
    grind
   ·have:=Oj h1
    grind
mutual
def AV.On(P:Nat->Prop):AV->Prop
 | .own i=>P i
 | .ref i _ _=>P i
 | .sub i _ _ _=>P i
 | .agg cs=>AV.YS P cs
 | .tup cs=>AV.YS P cs
 |_=>True
def AV.YS(P:Nat->Prop):List AV->Prop
 |[]=>True
 |a::l=>AV.On P a/\AV.YS P l
end
def Sub(P:Nat->Prop)(σ σ':aw):Prop:=∀(i:Nat) (b:cu),P i->σ[i]?=some b->σ'[i]?=some b
section
variable {P:Nat->Prop} {σ':aw}
def Uu(hs:Sub P σ σ'){i:Nat}(hi:P i){K:cu->Prop}(h:dm σ i K):dm σ' i K:=by
 obtain⟨b,h1,h2⟩:=az _ _ _ h;exact cr _ _ b _ (hs i b hi h1) h2
def N5(hs:Sub P σ σ'){a:AV}(ha:a.On P){K:Nat->List PV->Prop}(h:uO σ a K):uO σ' a K:=by
 cases a with
 |own id=>exact mg
 |sub id sz lo n=>exact mg
 |_=>exact h
def PX(hs:Sub P σ σ'){i:Nat}(hi:P i){p:Prop}(h:ME σ i p):ME σ' i p:=Uu hs hi h
def QV(hs:Sub P σ σ'){off:Nat}{a:AV}(ha:a.On P){K:AV->Prop}(h:F0 σ off a K):F0 σ' off a K:=by
 cases a with
 |ref id idx o=>exact PX hs bL h
 |_=>exact h
def Z_(hs:Sub P σ σ'){ag:Bool}{n:Nat}{a:AV}(ha:a.On P){K:AV->Prop}(h:Bl σ ag n a K):Bl σ' ag n a K:=by
 cases a with
 |ref id idx o=>exact mg
 |_=>exact h
def YP(hs:Sub P σ σ'){sz:Nat}{a:AV}{i:Int}(ha:a.On P){K:AV->Prop}(h:Ge σ sz a i K):Ge σ' sz a i K:=by
 cases a with
 |own id=>exact mg
 |sub id z lo n=>
  simp only[Ge]at h ⊢;cases hz:Nat.beq z sz with
  |true=>rw[hz]at h;exact mg
  |false=>grind
 |_=>exact h
def Wj(hs:Sub P σ σ'){n sz:Nat}{a:AV}{i:Int}(ha:a.On P){K:AV->Prop}(h:Fb σ n sz a i K):Fb σ' n sz a i K:=by
 cases a with
 |ref id idx off=>
  cases idx with
  |zero=>cases off with
   |zero=>exact mg
   |succ _=>exact h
  |succ _=>exact h
 |_=>exact h
def MN(hs:Sub P σ σ')(a:AV):∀{K:PV->Prop},a.On P->fE σ a K->fE σ' a K:=by
 refine AV.rec (motive_1:=λa=>∀{K:PV->Prop},a.On P->fE σ a K->fE σ' a K) (motive_2:=λl=>∀{K:List PV->Prop},AV.YS P l->bJ σ l K->bJ σ' l K) ?_ ?_ ?_ ?_ ?_ ?_ ?_ ?_ ?_ ?_ a
 ·intro K _ h;exact h
 ·intro x K _ h;exact h
 ·intro id K ha h;exact mg
 ·intro id idx off K ha h;cases idx with
  |succ _=>exact h
  |zero=>cases off with
   |succ _=>exact h
   |zero=>exact mg
 ·intro id sz lo n K ha h;exact mg
 ·intro cs ih K ha h;exact tC σ' cs K (ih bL (sx σ cs K h))
 ·intro cs ih K ha h;exact zu σ' cs K (ih bL (wJ σ cs K h))
 ·intro _ _ _ K _ h;exact h
 ·intro K _ h;exact h
 ·intro a l h1 h2 K ha h;obtain⟨x,h3,h4⟩:=wk a _ h;refine h1 ha.1 (h4 _ ?_);exact h2 ha.2 h3
def IZ(hs:Sub P σ σ')(l:List AV){K:List PV->Prop}(ha:AV.YS P l)(h:bJ σ l K):bJ σ' l K:=by
 have:=MN hs (.agg l) (K:=λx=>match x with| .agg cs=>K cs|_=>False) bL (tC σ l _ h);exact sx σ' l _ this
def Ft{a:AV}{F G:IntKind->Int->Prop}(h:Dv.asInt a F)(hi:∀k n,F k n->G k n):Dv.asInt a G:=by
 cases a with
 |pv x=>cases x with
  |int k n=>exact hi k n h
  |_=>exact h
 |_=>exact h
def adU{P':Program}(hΓ:Sound P' Γ)(hs:Sub P σ σ'){env:Env}{k:PK}(hk:k.pure Γ=true)(ha:∀t∈k.reads,(aA t env).On P){K:AV->Prop}(h:ia Γ env σ k λv _=>K v):ia Γ env σ' k λv _=>K v:=by
 have one:∀{x:Operand},(∀t∈jJ x,(aA t env).On P)->(a_ env x).On P:=by
  intro x hx;cases x with
  |tmp t=>exact hx t (by simp[jJ])
  |const v=>simp only[a_];cases v<;>simp[EA,AV.On];(try split)<;>simp[AV.On]
  |global _=>trivial
  |func f=>trivial
 have st:k.still=true->ia Γ env σ' k λv _=>K v:=by
  intro iq;obtain⟨v,h1,h2⟩:=PF hΓ iq σ h
  grind
 cases k with
 |conv c x=>
  cases c with
  |toInt k=>exact st rfl
  |same=>exact h
  |bts=>
   simp only[ia,dH]at h ⊢;exact N5 hs (one ha) h
  |stb e=>cases hk
 |lenN x=>
  simp only[ia,dH]at h ⊢;exact N5 hs (one ha) h
 |idxA sz x y=>
  simp only[ia,dH]at h ⊢;exact Ft h λ_ i h=>YP hs (one λt ht=>ha t ig) h
 |idxAr n sz x y=>
  simp only[ia,dH]at h ⊢;exact Ft h λ_ i h=>Wj hs (one λt ht=>ha t ig) h
 |fldA off x=>simp only[ia,dH]at h ⊢;exact QV hs (one ha) h
 |idxV m sz ag n x y=>exact h
 |fldV m sz x y=>
  simp only[ia,dH]at h ⊢;exact Ft h λ_ i h=>⟨h.1,QV hs (one λt ht=>ha t ig) h.2⟩
 |load ag n x=>simp only[ia,dH]at h ⊢;exact Z_ hs (one ha) h
 |nilck x=>
  simp only[ia,dH]at h ⊢;have:=one ha;cases hx:a_ env x with
  |ref id idx off=>
   rw[hx]at h this;exact PX hs bL h
  |_=>grind
 |call f l=>
  have hf:(Γ f).fn=true:=hk;obtain⟨_,h2,_⟩:=hΓ f;simp only[ia,EO,BA,(h2 hf).1,(h2 hf).2]at h ⊢;have hl:AV.YS P (l.map (a_ env)):=by
   have:∀l:List Operand,(∀t∈l.flatMap jJ,(aA t env).On P)->AV.YS P (l.map (a_ env)):=by
    intro l
    induction l with
    |nil=>intro _;trivial
    |cons x l ih=>
     intro hl;simp only[zav,AV.YS]
     grind
   exact this l ha
  have hd:=oc (σ:=σ) (l.map (a_ env)) _ h;obtain⟨ps,h3,h4⟩:=hd;have h5:=h4 (λqs=>qs=ps) rfl;have h6:=IZ hs _ hl h5;obtain⟨qs,rfl,h7⟩:=oc (σ:=σ') (l.map (a_ env)) _ h6;refine h7 _ ?_;obtain⟨x,h8,h9⟩:=(hΓ f).1 hf qs _ h3;exact h9 _ h8
 |idx x y=>exact h
 |slcS x lo hi=>exact h
 |fld off ag n x=>exact h
 |build z ps=>exact h
 |mv x=>exact st rfl
 |nilS sz=>exact st rfl
 |pick c a b=>exact st rfl
 |bin op x y=>exact st rfl
 |eqb neg x y=>exact st rfl
 |eqs neg ks x y=>exact st rfl
 |un op x=>exact st rfl
 |lenS x=>exact st rfl
 |mm mx x y=>exact st rfl
 |ext x i=>exact st rfl
 |_=>cases hk
end
def rT{α:Type}(l:List α)(x:α):∀(K:List α->Prop),K (l++[x])->eo l x K:=by
 induction l with
 |nil=>intro K h;exact h
 |cons a l ih=>intro K h;exact ih _ h
def wm{α:Type}(l:List α):∀(K:Nat->Prop),K l.length->iW l K:=by
 induction l with
 |nil=>intro K h;exact h
 |cons a l ih=>intro K h;exact ih _ h
def WG{K:Env->aw->Prop}(hK:qR K)(o:PO):qR λenv σ=>gq Γ o env σ K:=by
 intro env au σ hs;obtain⟨d,g,k⟩:=o;have hk:ia Γ au σ k (λv σ=>K (put d v au) σ)=ia Γ env σ k (λv σ=>K (put d v env) σ):=by
  rw[E5 (env:=env) λt _=>hs t];congr 1;funext v σ;exact hK _ _ _ (Bi hs)
 unfold gq;cases g with
 |none=>exact hk
 |some p=>
  obtain⟨g,want⟩:=p;simp only[hs g,hk,hK _ _ σ (Bi (d:=d) (v:=.pv (.tup [])) hs)]
def Zw{K:Env->aw->Prop}(hK:qR K)(l:List PO):qR (LP Γ K l):=by
 induction l with
 |nil=>exact hK
 |cons o l ih=>
  intro env au σ hs;rw[kM,kM];exact WG ih o env au σ hs
def ayy{P:Program}(hΓ:Sound P Γ){K:Env->aw->Prop}(hK:qR K){p o:PO}(Ho:KF Γ o p=true)(hc:DY p o=false){env:Env}
 (h:gq Γ p env σ λenv σ=>gq Γ o env σ K):gq Γ o env σ λenv σ=>gq Γ p env σ K:=by
 obtain⟨c1,c2⟩:=wL hc;obtain⟨ho,hp⟩:=zbL.1 Ho;obtain⟨v,h1,h2⟩:=IA hΓ hp h;obtain⟨u,h3,h4⟩:=IA hΓ ho h1;exact h4 env _ (Mp λd hd=>(c1 d hd).1) (h2 _ _ (λt ht=>(Mp (v:=u) (λd hd=>c2 d hd) t ht).symm) ((hK _ _ _ λq=>YH (λd hd=>(c1 d hd).2) q).mpr h3))
def We{P:Program}(hΓ:Sound P Γ){K:Env->aw->Prop}(hK:qR K)(l2:List PO)(o:PO):∀(l1:List PO) (env:Env) (σ:aw),(∀p∈l1,KF Γ o p=true/\DY p o=false)->
 LP Γ K (l1++o::l2) env σ->LP Γ K (o::(l1++l2)) env σ:=by
 intro l1
 induction l1 with
 |nil=>intro env σ _ h;exact h
 |cons p l1 ih=>
  intro env σ hp h;obtain⟨Su,hp2⟩:=hp p ae;rw[zbe,kM]at h;obtain⟨v,h1,h2⟩:=IA hΓ (zbL.1 Su).2 h;have h3:=ih _ _ (λq hq=>hp q (by simp[hq])) h1;rw[kM]at h3;have h5:=ayy hΓ (Zw hK _) Su hp2 (h2 env (λenv σ=>gq Γ o env σ (LP Γ K (l1++l2))) (λ_ _=>rfl) h3);rw[kM];have:(λenv σ=>gq Γ p env σ (LP Γ K (l1++l2)))=LP Γ K (p::(l1++l2)):=by
   funext env σ;rw[kM]
  rw[this]at h5;exact h5
end
end
end Go.Dv
namespace Go.Dv
open Go.RowKit
section
section
variable {cx:Cx} {env:Env} {σ:aw} {vals:List Value} {a:Act} {w w':World} {n:Nat} {Γ:Ctx} {ops:Array Oper}
def getD_eq(t:Array Value)(d:Nat):t.getD d undef=(t[d]?).getD undef:=by
 simp[zbn]
def OE{dst:Option Nat}{av:AV}{v:Value}(h:Rel cx env σ vals a w)(hv:RA (Ok cx σ vals w) σ vals w av v)(hd:∀d,dst=some d->d<a.tmps.size)(EG:∀d,dst=some d->cx.lo<=d):Rel cx (put dst av env) σ vals (a.put dst v) w:=by
 cases dst with
 |none=>exact h
 |some d=>
  refine⟨h.s,λp=>?_,h.defers,h.gh,λp hp=>?_⟩
  rotate_left
  ·have h1:=h.lo p hp;have h2:=EG d rfl;rw[getD_eq]at h1 ⊢;show((a.tmps.setIfInBounds d v)[p]?).getD undef=_;rw[zbB,if_neg aa];exact h1
  rw[fx];show RA _ _ _ _ _ ((a.tmps.setIfInBounds d v).getD p undef);rw[getD_eq,zbB];by_cases hp:d=p
  ·subst hp;simp only[zbz,cond_true,if_true,hd d rfl,zby];exact hv
  ·rw[Oj hp,if_neg hp];have:=h.env p;rw[getD_eq]at this;exact this
def UC{dst:Option Nat}(h:Rel cx env σ vals a w)(hd:∀d,dst=some d->d<a.tmps.size)(EG:∀d,dst=some d->cx.lo<=d):Rel cx (put dst (.pv (.tup [])) env) σ vals (a.put dst undef) w:=
 OE h (by simp only[RA,Rd];exact⟨#[],rfl,oZ⟩) hd EG
def H6(a:Act)(d:Option Nat)(v:Value):(a.put d v).tmps.size=a.tmps.size:=by cases d<;>simp[Act.put]
def Yq(h:Rel cx env σ vals a w):Rel cx env σ vals a { w with drawn:=w.drawn+1 }:=by
 obtain⟨h1,h2⟩:=h.s.grow (w':=w.drew) ((Below.refl _ w).drew);exact⟨h1,λp=>h2.ra _ _ (h.env p),h.defers,λx v hq=>h2.ra _ _ (h.gh x v hq),h.lo⟩
def aaE{Γ:Ctx}{σ:aw}{env:Env}(k:PK)(K:AV->aw->Prop)(h:ia Γ env σ k.plain K):ia Γ env σ k K:=by
 cases k with
 |lenR x=>
  simp only[PK.plain,ia,dH]at h ⊢;cases hv:a_ env x with
  |pv y=>
   rw[hv]at h;cases y with
   |sl s ak=>exact λ_=>h
   |nil s=>exact λ_=>h
   |_=>exact h.elim
  |own id=>
   rw[hv]at h;obtain⟨b,h1,h2⟩:=az _ _ _ h;refine cr _ _ b _ h1 ?_;cases b with
   |row e s ap ak=>exact λ_=>h2
   |fz x=>cases x with
    |sl s ak=>exact λ_=>h2
    |_=>exact h2.elim
   |_=>exact h2.elim
  |sub id sz lo n=>
   rw[hv]at h;obtain⟨b,h1,h2⟩:=az _ _ _ h;refine cr _ _ b _ h1 ?_;have one:∀(s:Nat) (ak:List PV),(match Nat.beq s sz with
    |true=>lo+n<=ak.length/\K (.pv (.int .i64 (cut lo (lo+n) ak).length)) σ
    |false=>False)->(match Nat.beq s sz with
    |true=>lo+n<=ak.length/\((cut lo (lo+n) ak).length<=9223372036854775807->K (.pv (.int .i64 (cut lo (lo+n) ak).length)) σ)
    |false=>False):=by
    intro s ak h;cases hs:Nat.beq s sz with
    |true=>rw[hs]at h;exact⟨h.1,λ_=>h.2⟩
    |false=>rw[hs]at h;exact h.elim
   cases b with
   |row e s ap ak=>exact one s ak h2
   |fz x=>cases x with
    |sl s ak=>exact one s ak h2
    |_=>exact iJ
   |_=>exact iJ
  |_=>rw[hv]at h;exact h.elim
 |bslice e sz l=>exact h
 |_=>exact h
def CM(F:Fence):Prop:=F=Fence.wide∨∃l,F=Fence.wide.inRound l
def UX{P:Program}{o:Oper}{next:Act->World->Prop}{Q:Exit->Act->World->Prop}{m:Nat}(ro:Option Nat)(hd:∀c,o.op≠.defer c)(h:o.wp P a w next Q):o.wpIn { Fence.wide with round:=ro } m P a w next Q:=by
 refine⟨λf _=>trivial,?_⟩;rw[Oper.semAt_eq _ _ _ hd];unfold Oper.wp at h;generalize (execOp a.eval o).run P w=r at*;cases r with
 |ok nx w'=>
  cases nx with
  |enter f args=>exact⟨λhs=>(by cases hs),(callsIn_wide (n:=m-1)).2 h⟩
  |row row args=>exact⟨λhs=>(by cases hs),λc cs _=>let ⟨v,w',r,s⟩:=h c cs;⟨v,w',r,stepsIn_wide.2 s⟩⟩
  |value v=>exact h
  |skip=>exact h
  |defer d=>exact h
  |_=>exact mw
 |halt x w'=>cases x<;>first|exact h|exact mw
def aea{P:Program}{o:Oper}{next:Act->World->Prop}{Q:Exit->Act->World->Prop}{F:Fence}{m:Nat}(hF:CM F)(hd:∀c,o.op≠.defer c)(h:o.wp P a w next Q):o.wpIn F m P a w next Q:=by
 rcases hF with rfl|⟨l,rfl⟩
 ·exact UX none hd h
 ·exact UX (some l) hd h
def CM.fn{F:Fence}(hF:CM F)(f:FuncId):F.fn f:=by
 rcases hF with rfl|⟨l,rfl⟩<;>trivial
def uo(P:Program)(dr:Bool)(ops:Array Oper)(n:Nat)(f:Nat->PO):Prop:=
 ∀i:Nat,i<ops.size→∃o po,ops[i]?=some o/\BO P dr ops n o=some po/\(f i=po\/f i=po.plain)
def wF(hΓ:Sound cx.P Γ){f:Nat->PO}{dr:Bool}(hc:uo cx.P dr ops n f){i:Nat}(hi:i<ops.size)(hn:a.tmps.size=n)(hr:Rel cx env σ vals a w){K:Env->aw->Prop}{next:Act->World->Prop}{Q:Exit->Act->World->Prop}{F:Fence}{m:Nat}(hF:CM F)(hw:∀d,(f i).dst=some d->cx.lo<=d)
 (KW:∀au σ' an a' w',a'.tmps.size=n->Rel cx au σ' an a' w'->K au σ'->next a' w') (h:gq Γ (f i) env σ K):wpOpIn F m cx.P ops Q i next a w:=by
 obtain⟨o,po,ho,Ho,hf⟩:=hc i hi;unfold BO at Ho;obtain⟨k,hk,Ho⟩:=aK Ho;obtain⟨hd,Ho⟩:=dG Ho;have L2:∀d,o.dst=some d->d<a.tmps.size:=by
  intro d hd';rw[hd']at hd;rw[hn];exact za3 hd
 have Sb:∀c,o.op≠.defer c:=by
  intro c hop;unfold Up VA at hk;rw[hop]at hk;cases hk
 have EG:∀d,o.dst=some d->cx.lo<=d:=by
  intro d hd';refine hw d ?_;have:(f i).dst=po.dst:=yh;rw[this,<-hd'];cases hg:o.guard with
  |none=>rw[hg]at Ho;cases Ho;rfl
  |some gw=>
   rw[hg]at Ho;obtain⟨oj,_,Ho⟩:=aK Ho;obtain⟨dd,_,Ho⟩:=aK Ho;cases Ho;rfl
 have run:ia Γ env σ k (λv σ=>K (put o.dst v env) σ)->o.wpIn F m cx.P a w next Q:=by
  intro h;refine aea hF Sb ?_;refine V7 hΓ hr hk h next Q ?_
  intro av σ' an v w' hK dp hv;exact KW _ _ _ _ _ ((H6 ..).trans hn) (OE dp hv L2 EG) hK
 have run':ia Γ env σ (f i).k (λv σ=>K (put o.dst v env) σ)->(f i).k=k\/(f i).k=k.plain->o.wpIn F m cx.P a w next Q:=by
  intro h he;rcases he with he|he
  ·rw[he]at h;exact run h
  ·rw[he]at h;exact run (aaE _ _ h)
 unfold wpOpIn;simp only[ho];cases hg:o.guard with
 |none=>
  rw[hg]at Ho;simp only at Ho;cases Ho;have:Region.wanted o (yielded ops a.tmps)=true:=by simp[Region.wanted,hg]
  rw[if_pos this];unfold gq at h;have e1:(f i).g=none:=yh;have e2:(f i).dst=o.dst:=yh;have e3:(f i).k=k\/(f i).k=k.plain:=PY;rw[e1,e2]at h;exact run' h e3
 |some gw=>
  obtain⟨j,want⟩:=gw;rw[hg]at Ho;simp only at Ho;obtain⟨oj,hoj,Ho⟩:=aK Ho;obtain⟨d,hdj,Ho⟩:=aK Ho;cases Ho;have e1:(f i).g=some (d,want):=yh;have e2:(f i).dst=o.dst:=yh;have e3:(f i).k=k\/(f i).k=k.plain:=PY;unfold gq at h;rw[e1,e2]at h;simp only at h;cases hv:aA d env with
  |pv x=>
   rw[hv]at h;cases x with
   |bool b=>
    simp only at h;have hy:yielded ops a.tmps j=some b:=by
     have h1:=hr.env d;rw[hv,getD_eq]at h1;simp only[RA,Rd]at h1;unfold yielded;simp only[hoj,zbR,hdj];cases ht:a.tmps[d]? with
     |none=>rw[ht]at h1;cases h1
     |some v=>rw[ht]at h1;simp only[zby]at h1;rw[h1]
    have hw:Region.wanted o (yielded ops a.tmps)=(b==want):=by
     simp only[Region.wanted,hg,hy];cases b<;>cases want<;>rfl
    rw[hw];cases hb:(b==want)with
    |true=>rw[hb]at h;exact run' h e3
    |false=>
     rw[hb]at h;exact⟨λf _=>hF.fn f,KW _ _ _ _ _ ((H6 ..).trans hn) (UC hr L2 EG) h⟩
   |tup l=>
    simp only at h;have hy:yielded ops a.tmps j=none:=by
     have h1:=hr.env d;rw[hv,getD_eq]at h1;simp only[RA,Rd]at h1;obtain⟨vs,h1,_⟩:=h1;unfold yielded;simp only[hoj,zbR,hdj];cases ht:a.tmps[d]? with
     |none=>rfl
     |some v=>rw[ht]at h1;simp only[zby]at h1;rw[h1]
    have hw:Region.wanted o (yielded ops a.tmps)=false:=by
     simp only[Region.wanted,hg,hy];cases want<;>rfl
    rw[hw];exact⟨λf _=>hF.fn f,KW _ _ _ _ _ ((H6 ..).trans hn) (UC hr L2 EG) h⟩
   |_=>exact h.elim
  |_=>rw[hv]at h;exact h.elim
def W0(hΓ:Sound cx.P Γ){f:Nat->PO}{dr:Bool}(hc:uo cx.P dr ops n f){K:Env->aw->Prop}{Q:Exit->Act->World->Prop}{F:Fence}{m:Nat}(hF:CM F)(hw:∀i,i<ops.size→∀d,(f i).dst=some d->cx.lo<=d)
 (hQ:∀au σ' an a' w',a'.tmps.size=n->Rel cx au σ' an a' w'->K au σ'->Q .normal a' w'):
 ∀(is:List Nat) (env:Env) (σ:aw) (vals:List Value) (a:Act) (w:World),(∀i∈is,i<ops.size)->a.tmps.size=n->Rel cx env σ vals a w->LP Γ K (is.map f) env σ->wpOpsIn F m cx.P ops Q is a w:=by
 intro is
 induction is with
 |nil=>intro env σ vals a w _ hn hr h;exact hQ _ _ _ _ _ hn hr h
 |cons i is ih=>
  intro env σ vals a w hi hn hr h;rw[zav,kM]at h;rw[wpOpsIn_cons];exact wF hΓ hc (hi i ae) hn hr hF (hw i (hi i ae)) (λau σ' an a' w' zW dp hK=>ih au σ' an a' w' (λj hj=>hi j (by simp[hj])) zW dp hK) h
def DV(o:PO)(K:Env->aw->Prop):Bt Γ o env σ K=gq Γ o env σ K:=by
 obtain⟨d,g,k⟩:=o;cases g with
 |none=>rfl
 |some p=>
  obtain⟨g,want⟩:=p;unfold gq;refine Eq.trans (look_eq g (λgv=>match gv with
   | .pv x=>match x with
    | .bool b=>match b with
     |true=>(match want with
      |true=>ia Γ env σ k λv σ=>K (put d v env) σ
      |false=>K (put d (.pv (.tup [])) env) σ)
     |false=>(match want with
      |false=>ia Γ env σ k λv σ=>K (put d v env) σ
      |true=>K (put d (.pv (.tup [])) env) σ)
    | .tup _=>K (put d (.pv (.tup [])) env) σ
    |_=>False
   |_=>False) env) ?_
  simp only;cases aA g env with
  |pv x=>cases x with
   |bool b=>cases b<;>cases want<;>rfl
   |_=>rfl
  |_=>rfl
def Tl(hΓ:Sound cx.P Γ){f:Nat->PO}{dr:Bool}(hc:uo cx.P dr ops n f){K:Env->aw->Prop}{Q:Exit->Act->World->Prop}{F:Fence}{m:Nat}(hF:CM F)(hw:∀i,i<ops.size→∀d,(f i).dst=some d->cx.lo<=d)
 (hQ:∀au σ' an a' w',a'.tmps.size=n->Rel cx au σ' an a' w'->K au σ'->Q .normal a' w'):
 ∀(is:List Nat) (env:Env) (σ:aw) (vals:List Value) (a:Act) (w:World),(∀i∈is,i<ops.size)->a.tmps.size=n->Rel cx env σ vals a w->vcX Γ K (is.map f) env σ->wpOpsIn F m cx.P ops Q is a w:=by
 intro is
 induction is with
 |nil=>intro env σ vals a w _ hn hr h;exact hQ _ _ _ _ _ hn hr h
 |cons i is ih=>
  intro env σ vals a w hi hn hr h;have main:∀(env:Env) (σ:aw) (vals:List Value),Rel cx env σ vals a w->Bt Γ (f i) env σ (vcX Γ K (is.map f))->wpOpsIn F m cx.P ops Q (i::is) a w:=λenv σ vals hr h=>by
   rw[wpOpsIn_cons];rw[DV]at h;exact wF hΓ hc (hi i ae) hn hr hF (hw i (hi i ae)) (λau σ' an a' w' zW dp hK=>ih au σ' an a' w' (λj hj=>hi j (by simp[hj])) zW dp hK) h
  have h:(match mq σ with
   |false=>Bt Γ (f i) env σ (vcX Γ K (is.map f))
   |true=>∃gs:List GA,Oo gs env σ λenv σ=>Bt Γ (f i) env σ (vcX Γ K (is.map f))):=h
  cases hp:mq σ with
  |false=>rw[hp]at h;exact main env σ vals hr h
  |true=>
   rw[hp]at h;obtain⟨gs,h⟩:=h;obtain⟨au,σ',an,h1,h2⟩:=vb gs hr h;exact main au σ' an h2 h1
structure afe(Γ:Ctx)(ops:Array Oper)(f:Nat->PO)(aft bs:Nat->List Nat):Prop where
 SH:∀(i:Nat) (o:Oper),ops[i]?=some o→∀j∈aft i,∃e∈o.after,Region.binds .any e=true/\e.on=j
 back:∀(i:Nat) (o:Oper),ops[i]?=some o→∀e∈o.after,Region.binds .any e=true->e.on∈aft i
 lt:∀i,i<ops.size→∀j∈aft i,j<i
 bef:∀i,i<ops.size→∀j∈bs i,j∈aft i∨∃e∈aft i,j∈bs e
 free:∀i j,i<ops.size->j<i->j∈bs i\/(KF Γ (f i) (f j)=true/\DY (f j) (f i)=false)
def left(n:Nat)(ao:Array Bool):List Nat:=(List.range n).filter λi=>!ao.getD i true
def DX{n i:Nat}{ao:Array Bool}(hs:ao.size=n)(hi:i<n)(hl:ao.getD i true=false):
 ∃l1 l2,left n ao=l1++i::l2/\left n (ao.setIfInBounds i true)=l1++l2/\(∀j∈l1,j<i/\ao.getD j true=false):=by
 have aaX:List.range n=List.range i++i::(List.range (n-i-1)).map (· +(i+1)):=by
  have h1:n=i+(1+(n-i-1)):=aa
  conv=>lhs;rw[h1,zbV,zbV]
  simp only[zaD,List.map_map];congr 1;show(List.range 1).map (i+ ·)++_=_;simp only[List.range_one,zav,List.map_nil,zaW,List.singleton_append];congr 1;apply zbA;intro k _;simp only[Function.comp_apply];omega
 refine⟨(List.range i).filter λi=>!ao.getD i true,((List.range (n-i-1)).map (· +(i+1))).filter λi=>!ao.getD i true,?_,?_,?_⟩
 ·unfold left;rw[aaX,zbO,zbS,if_pos (by simp only[hl,zbi])]
 ·unfold left;rw[aaX,zbO,zbS];have e0:(ao.setIfInBounds i true).getD i true=true:=by
   rw[zbn,zbq aa];rfl
  rw[if_neg (by rw[e0];simp)];congr 1
  ·apply zbP;intro j hj;have:j<i:=zbo.1 hj;rw[getD_set_ne true aa]
  ·apply zbP;intro j hj;obtain⟨k,_,rfl⟩:=zaX.1 hj;rw[getD_set_ne true aa]
 ·intro j hj;obtain⟨h1,h2⟩:=zbp.1 hj;exact⟨zbo.1 h1,gu⟩
def TU(hΓ:Sound cx.P Γ){f:Nat->PO}{dr:Bool}(hc:uo cx.P dr ops n f){aft bs:Nat->List Nat}(hD:afe Γ ops f aft bs){K:Env->aw->Prop}(hK:qR K){Q:Exit->Act->World->Prop}{F:Fence}{m:Nat}(hF:CM F)(hw:∀i,i<ops.size→∀d,(f i).dst=some d->cx.lo<=d)
 (hQ:∀au σ' an a' w',a'.tmps.size=n->Rel cx au σ' an a' w'->K au σ'->Q .normal a' w'):
 ∀(fuel:Nat) (ao:Array Bool) (env:Env) (σ:aw) (vals:List Value) (a:Act) (w:World),ao.size=ops.size->(left ops.size ao).length<=fuel->
  (∀i,i<ops.size->ao.getD i false=true→∀j∈bs i,ao.getD j false=true)->
  a.tmps.size=n->Rel cx env σ vals a w->LP Γ K ((left ops.size ao).map f) env σ->wpAnyIn F m cx.P .any ops Q fuel ao a w:=by
 have empty:∀(ao:Array Bool),ao.size=ops.size->Region.ready .any ops ao=[]->left ops.size ao=[]:=by
  intro ao hs hr;apply Decidable.byContradiction;intro qY;obtain⟨i,hi,Ue⟩:∃i,i∈left ops.size ao∧∀j,j<i->j∉left ops.size ao:=by
   have hex:∃i,i∈left ops.size ao:=by
    cases hl:left ops.size ao with
    |nil=>exact absurd hl qY
    |cons x xs=>exact⟨x,ae⟩
   obtain⟨i,hi⟩:=hex
   induction i using Nat.strongRecOn with
   |_ i ih=>
    by_cases h:∃j,j<i/\j∈left ops.size ao
    ·obtain⟨j,hj,hm⟩:=h;exact ih j hj hm
    ·exact Iq
  obtain⟨h1,h2⟩:=zbp.1 hi;have h1:=zbo.1 h1;have sO:i∈Region.ready .any ops ao:=by
   refine mem_ready.2 ⟨gu,ops[i],zaE h1,λe he hb=>?_⟩;have hj:=hD.back i _ (zaE h1) e he hb;have aS:=hD.lt i h1 _ hj;have:=Ue _ aS;cases hg:ao.getD e.on true with
   |false=>exact JQ
   |true=>
    rw[zbn]at hg ⊢;rw[zaE aa]at hg ⊢;exact hg
  rw[hr]at sO;cases sO
 intro fuel
 induction fuel with
 |zero=>
  intro ao env σ vals a w hs hl KT hn hr h;have O4:left ops.size ao=[]:=zaf aa;refine⟨?_,?_⟩
  ·cases iY:Region.ready .any ops ao with
   |nil=>rfl
   |cons i is=>
    exfalso;have hi:i∈Region.ready .any ops ao:=by rw[iY];simp
    obtain⟨h1,o,h2,_⟩:=mem_ready.1 hi;have:i∈left ops.size ao:=zbp.2 ⟨zbo.2 (zai.1 h2).1,Ij⟩;rw[O4]at this;cases this
  ·rw[O4]at h;exact hQ _ _ _ _ _ hn hr h
 |succ fuel ih=>
  intro ao env σ vals a w hs hl KT hn hr h;refine⟨λh0=>?_,λi hi=>?_⟩
  ·rw[empty ao hs h0]at h;exact hQ _ _ _ _ _ hn hr h
  ·obtain⟨Sw,o,ho,pK⟩:=mem_ready.1 hi;have aS:i<ops.size:=(zai.1 ho).1;obtain⟨l1,l2,e1,e2,h3⟩:=DX hs aS Sw;have Xi:∀j∈aft i,ao.getD j false=true:=by
    intro j hj;obtain⟨e,he,hb,rfl⟩:=hD.SH i o ho j hj;exact pK e he hb
   have Hp:∀j∈bs i,ao.getD j false=true:=by
    intro j hj;rcases hD.bef i aS j hj with h|⟨e,he,h⟩
    ·exact Xi j h
    ·exact IF
   have aAb:∀j∈l1,KF Γ (f i) (f j)=true/\DY (f j) (f i)=false:=by
    intro j hj;obtain⟨h4,h5⟩:=h3 j hj;rcases hD.free i j aS h4 with h|h
    ·have:=Hp j h;rw[zbn,zaE aa]at h5 this;rw[zby]at h5 this;rw[h5]at this;cases this
    ·exact h
   rw[e1,zaD,zav]at h;have aaY:=We hΓ hK (l2.map f) (f i) (l1.map f) env σ
    (λp hp=>by obtain⟨j,hj,rfl⟩:=zaX.1 hp;exact aAb j hj) h
   rw[kM,<-zaD,<-e2]at aaY;refine wF hΓ hc aS hn hr hF (hw i aS) (λau σ' an a' w' zW dp hK'=>?_) aaY;refine ih _ au σ' an a' w' (by simpa using hs) ?_ ?_ zW dp hK'
   ·rw[e2];rw[e1]at hl;simp at hl ⊢;omega
   ·intro k hk XK j hj;by_cases Pm:i=k
    ·subst Pm;exact getD_set_true (Hp j hj)
    ·rw[getD_set_ne false Pm]at XK;exact getD_set_true (KT k hk XK j hj)
def aav{P:Nat->Prop}:∀{l:List Nat},ada l P→∀i∈l,P i:=by
 intro l
 induction l with
 |nil=>intro _ i hi;cases hi
 |cons x l ih=>
  intro h i hi;cases l with
  |nil=>rcases zay.1 hi with rfl|hi;exact h;cases hi
  |cons y l=>
   have h:ah0 (P x) (ada (y::l) P):=h;rcases zay.1 hi with rfl|hi
   ·exact h.l
   ·exact ih h.r i hi
def S2{aft:List (List Nat)}{done:List Nat}{i:Nat}(hi:i<aft.length)(h1:i∉done)(h2:∀j∈aft.getD i [],j∈done):i∈Jg aft done:=by
 unfold Jg;refine zbp.2 ⟨zbo.2 hi,?_⟩;simp only[zaT,zbw,List.all_eq_true,zbJ];refine⟨?_,h2⟩;cases hc:done.contains i with
 |false=>rfl
 |true=>exact absurd (zbJ.1 hc) h1
def V4(hΓ:Sound cx.P Γ){l:List PO}{dr:Bool}(hc:uo cx.P dr ops n λi=>l.getD i ⟨none,none,.nilS 0⟩){aft:List (List Nat)}(s9:aft.length=ops.size)
 (SH:∀(i:Nat) (o:Oper),ops[i]?=some o→∀j∈aft.getD i [],∃e∈o.after,Region.binds .any e=true/\e.on=j)
 (back:∀(i:Nat) (o:Oper),ops[i]?=some o→∀e∈o.after,Region.binds .any e=true->e.on∈aft.getD i [])
 (lt:∀i,i<ops.size→∀j∈aft.getD i [],j<i)
 {K:Env->aw->Prop} {Q:Exit->Act->World->Prop} {F:Fence} {m:Nat} (hF:CM F) (hw:∀i,i<ops.size→∀d,(l.getD i ⟨none,none,.nilS 0⟩).dst=some d->cx.lo<=d)
 (hQ:∀au σ' an a' w',a'.tmps.size=n->Rel cx au σ' an a' w'->K au σ'->Q .normal a' w'):
 ∀(fuel:Nat) (ao:Array Bool) (done:List Nat) (env:Env) (σ:aw) (vals:List Value) (a:Act) (w:World),ao.size=ops.size->(left ops.size ao).length=fuel->
  (∀i,i<ops.size->(ao.getD i false=true↔i∈done))->
  a.tmps.size=n->Rel cx env σ vals a w->vcL Γ K l aft fuel done env σ->wpAnyIn F m cx.P .any ops Q fuel ao a w:=by
 have empty:∀(ao:Array Bool),ao.size=ops.size->Region.ready .any ops ao=[]->left ops.size ao=[]:=by
  intro ao hs hr;apply Decidable.byContradiction;intro qY;obtain⟨i,hi,Ue⟩:∃i,i∈left ops.size ao∧∀j,j<i->j∉left ops.size ao:=by
   have hex:∃i,i∈left ops.size ao:=by
    cases hl:left ops.size ao with
    |nil=>exact absurd hl qY
    |cons x xs=>exact⟨x,ae⟩
   obtain⟨i,hi⟩:=hex
   induction i using Nat.strongRecOn with
   |_ i ih=>
    by_cases h:∃j,j<i/\j∈left ops.size ao
    ·obtain⟨j,hj,hm⟩:=h;exact ih j hj hm
    ·exact Iq
  obtain⟨h1,h2⟩:=zbp.1 hi;have h1:=zbo.1 h1;have sO:i∈Region.ready .any ops ao:=by
   refine mem_ready.2 ⟨gu,ops[i],zaE h1,λe he hb=>?_⟩;have hj:=back i _ (zaE h1) e he hb;have aS:=lt i h1 _ hj;have:=Ue _ aS;cases hg:ao.getD e.on true with
   |false=>exact JQ
   |true=>
    rw[zbn]at hg ⊢;rw[zaE aa]at hg ⊢;exact hg
  rw[hr]at sO;cases sO
 intro fuel
 induction fuel with
 |zero=>
  intro ao done env σ vals a w hs hl _ hn hr h;have O4:left ops.size ao=[]:=zaf hl;refine⟨?_,hQ _ _ _ _ _ hn hr h⟩;cases iY:Region.ready .any ops ao with
  |nil=>rfl
  |cons i is=>
   exfalso;have hi:i∈Region.ready .any ops ao:=by rw[iY];simp
   obtain⟨h1,o,h2,_⟩:=mem_ready.1 hi;have:i∈left ops.size ao:=zbp.2 ⟨zbo.2 (zai.1 h2).1,Ij⟩;rw[O4]at this;cases this
 |succ fuel ih=>
  intro ao done env σ vals a w hs hl hd hn hr h;refine⟨λh0=>?_,λi hi=>?_⟩
  ·rw[empty ao hs h0]at hl;cases hl
  obtain⟨Sw,o,ho,pK⟩:=mem_ready.1 hi;have aS:i<ops.size:=(zai.1 ho).1;obtain⟨l1,l2,e1,e2,_⟩:=DX hs aS Sw;have hli:ao.getD i false=false:=by
   rw[zbn]at Sw ⊢;rw[zaE aa]at Sw ⊢;exact Sw
  have Hl:i∈Jg aft done:=by
   refine S2 aa (λhm=>?_) λj hj=>?_
   ·rw[(hd i aS).2 hm]at hli;cases hli
   ·obtain⟨e,he,hb,rfl⟩:=SH i o ho j hj;exact(hd _ (by have:=lt i aS _ hj;omega)).1 (pK e he hb)
  obtain⟨gs,h⟩:=aav (show ada (Jg aft done) _ from h) i Hl;obtain⟨au,σ',an,h1,h2⟩:=vb gs hr h;rw[DV]at h1;refine wF hΓ hc aS hn h2 hF (hw i aS) (λqX σ2 dw a2 w2 R0 qH XJ=>?_) h1;refine ih _ (i::done) qX σ2 dw a2 w2 (by simpa using hs) ?_ (λk hk=>?_) R0 qH XJ
  ·rw[e2];rw[e1]at hl;simp at hl ⊢;omega
  ·by_cases Pm:i=k
   ·subst Pm;refine⟨λ_=>ae,λ_=>?_⟩;rw[zbn,zbq aa];rfl
   ·rw[getD_set_ne false Pm,hd k hk];exact⟨λh=>List.mem_cons_of_mem _ h,λh=>(zay.1 h).resolve_left λe=>Pm e.symm⟩
end
end
end Go.Dv
namespace Go.Dv
open Go.RowKit
section
section
variable {cx:Cx} {env:Env} {σ:aw} {vals:List Value} {a:Act} {w w':World}
def RU(pin:List Nat)(cx:Cx):Prop:=pin=List.range cx.rY.length/\cx.ET.length=cx.rY.length
def RM{r:List Nat}{σ':aw}(hp0:∀j,j<cx.rY.length\/j<cx.ET.length->r[j]?=some j)(hn:r.Nodup)(h1:σ'.length=r.length)(h2:∀(j i:Nat),r[j]?=some i→∃s t,σ[i]?=some s/\σ'[j]?=some t/\vC r s t)(hs:ba cx σ vals w):
 ∃an,Wk r σ σ' vals an/\ba cx σ' an w∧∀b,Ok cx σ vals w b->Ok cx σ' an w b:=by
 obtain⟨an,hA⟩:∃an,Wk r σ σ' vals an:=by
  refine⟨r.map λi=>(vals[i]?).getD undef,hn,h1,h2,ae,λj i hj=>?_⟩;obtain⟨s,t,q7,_⟩:=h2 j i hj;have:i<vals.length:=by rw[hs.len];exact(zaa.1 q7).1
  rw[zbC,hj];simp only[zbU];rw[zak this];exact⟨rfl,_,rfl⟩
 have back:∀{j:Nat} {t:cu},σ'[j]?=some t→∃i s,r[j]?=some i/\σ[i]?=some s/\vC r s t:=by
  intro j t ht;have hj:j<r.length:=by rw[<-h1];exact(zaa.1 ht).1
  obtain⟨s,t',q7,ht',iq⟩:=h2 j _ (zak hj);rw[ht]at ht';cases ht';exact⟨_,s,zak hj,q7,iq⟩
 have EI:∀b,Av σ' an b->Av σ vals b:=by
  rintro b ⟨j,t,v,ht,hv,hb⟩;obtain⟨i,s,hj,q7,iq⟩:=back ht;exact⟨i,s,v,q7,by rw[<-(hA.vals j i hj).1];exact hv,iq.bk.1 hb⟩
 have ep:∀b,Ok cx σ vals w b->Ok cx σ' an w b:=λb hb=>⟨hb.1,hb.2.1,λhm=>hb.2.2 (EI b hm)⟩
 have aa0:∀j,j<cx.rY.length->r[j]?=some j:=λj hj=>hp0 j (.inl hj)
 have hpn:Pin cx σ' an:=by
  refine⟨λj v hv=>?_,?_,λj hj e sz ap ak ht=>?_,λj hj s2 ht mN=>?_⟩
  ·have hj:j<cx.ET.length:=(zaa.1 hv).1;rw[(hA.vals j j (hp0 j (.inr hj))).1];exact hs.pin.vs j v hv
  ·rw[h1];rcases zbt r.length cx.rY.length with aS|R5
   ·have:=(zaa.1 (aa0 _ aS)).1;omega
   ·exact R5
  ·obtain⟨i,s,hi,q7,iq⟩:=back ht;rw[aa0 j hj]at hi;cases hi;cases s with
   |box e' T7=>obtain⟨ds,hd,_⟩:=iq;cases hd
   |row e' CG Hi els'=>cases iq;exact hs.pin.r7 j hj _ _ _ _ q7
   |pool e' CG l' lt'=>cases iq.1
   |_=>cases iq
  ·obtain⟨i,s,hi,q7,iq⟩:=back ht;rw[aa0 j hj]at hi;cases hi;exact hs.pin.sb j hj _ q7 (by rw[<-iq.yr];exact mN)
 refine⟨an,hA,⟨hs.below,λv hv=>?_,by rw[hA.adO,h1],λj t v ht hv=>?_,λj k t1 t2 u v b hjk ht1 ht2 hu hv hbu hbv=>?_,⟨hs.fr.size,hs.fr.same,λb hm=>hs.fr.nB b (EI b hm)⟩,hpn⟩,ep⟩
 ·obtain⟨j,hj⟩:=zaB.1 hv;have VG:j<r.length:=Qr;rw[(hA.vals j _ (zak VG)).1]at hj;exact hs.one v (zad hj)
 ·obtain⟨i,s,hj,q7,iq⟩:=back ht;rw[(hA.vals j i hj).1]at hv;have:=hs.iU i s v q7 hv;cases s with
  |dead=>cases iq;trivial
  |fz x=>cases iq;exact Rd.mono ep (λ_ _ _=>rfl) _ _ this
  |mp l=>cases iq;obtain⟨b,es,n,g1,g2,g3⟩:=this;exact⟨b,es,n,g1,ep b g2,g3⟩
  |pool e sz q lt=>
   obtain⟨rfl,aS⟩:=iq;obtain⟨h0,h1,h2⟩:=this;refine⟨h0,⟨h1.1,λp hp=>by rw[(hA.vals _ _ (aS p hp)).1];exact h1.2 p hp⟩,λp hp=>?_⟩;obtain⟨cells,g1,g2,g3,g4⟩:=h2 p hp;exact⟨cells,g1,g2,g3,cE.mono ep (λ_ _ _=>rfl) _ _ g4⟩
  |row e sz ap ak=>
   cases iq;obtain⟨h0,cells,g1,g2,g3,g4⟩:=this;exact⟨h0,cells,g1,g2,g3,cE.mono ep (λ_ _ _=>rfl) _ _ g4⟩
  |box e cs=>
   obtain⟨ds,rfl,hd⟩:=iq;obtain⟨b,arr,g1,g2,g3,g4,g5⟩:=this;exact⟨b,arr,g1,g2,g3,hd.adW g4,hd.ra hA ep _ _ _ g5⟩
 ·obtain⟨i1,s1,hj1,lZ,Xt⟩:=back ht1;obtain⟨i2,s2,Pj,LX,Ud⟩:=back ht2;rw[(hA.vals _ _ hj1).1]at hu;rw[(hA.vals _ _ Pj).1]at hv;refine hs.oP i1 i2 s1 s2 u v b ?_ lZ LX hu hv (Xt.bk.1 hbu) (Ud.bk.1 hbv);intro e;subst e;exact hjk ((zbD (zaa.1 hj1).1 hn).1 (hj1.trans Pj.symm))
def NM{pin r:List Nat}{σ':aw}(z6:RU pin cx)(hpr:pin<+:r)(hn:r.Nodup)(h1:σ'.length=r.length)(h2:∀(j i:Nat),r[j]?=some i→∃s t,σ[i]?=some s/\σ'[j]?=some t/\vC r s t)(hs:ba cx σ vals w):
 ∃an,Wk r σ σ' vals an/\ba cx σ' an w∧∀b,Ok cx σ vals w b->Ok cx σ' an w b:=by
 refine RM (λj hj=>?_) hn h1 h2 hs;have hj:j<cx.rY.length:=by rw[z6.2]at hj;exact hj.elim id id
 obtain⟨t,rfl⟩:=hpr;rw[zar (by rw[z6.1];simpa using hj),z6.1,zbM hj]
def UO(VK:∀x v,¬cx.gh x v){pin:List Nat}(z6:RU pin cx)(hr:Rel cx env σ vals a w)(ps:List Nat){K:Env->aw->Prop}(h:gc pin env σ ps K):∃au σ' an,K au σ'/\Rel cx au σ' an a w:=by
 have h:=J9 _ _ _ h;obtain⟨l,h,hl,Su⟩:=F9 _ _ _ (by rw[z6.1];exact zbT) h;obtain⟨r,h,hn,hp2⟩:=wi _ _ _ hl h;obtain⟨au,h,he⟩:=Gc _ _ _ h;obtain⟨σ',h,h1,h2⟩:=tV _ _ _ _ h;obtain⟨an,hA,q7,ep⟩:=NM z6 (Su.trans hp2) hn h1 h2 hr.s;refine⟨au,σ',an,h,q7,λp=>?_,hr.defers,λx v hq=>absurd hq (VK x v),hr.lo⟩;have hc:aA p (ps.map λp=>(p,aA p env))=aA p env\/aA p (ps.map λp=>(p,aA p env))=.bad:=yL env ps p;have hp:=he p;have hv:RA (Ok cx σ vals w) σ vals w (aA p (ps.map λp=>(p,aA p env))) (a.tmps.getD p undef):=by
  rcases hc with hc|hc
  ·rw[hc];exact hr.env p
  ·rw[hc];simp only[RA]
 exact Ren.ra hA ep _ _ _ hp hv
end
end
end Go.Dv
namespace Go.Dv
open Go.RowKit
section
section
variable {cx:Cx} {env:Env} {σ:aw} {vals:List Value} {a:Act} {w w':World} {n:Nat} {Γ:Ctx} {ops:Array Oper}
def Fl(hr:ba cx σ vals w){b:Nat}(hm:Av σ vals b):∃cur e fr,w.heap[b]?=some (.cells cur e fr):=by
 obtain⟨i,s,v,h1,h3,h4⟩:=hm;have hs:=hr.iU i s v h1 h3;cases s with
 |dead=>cases h4
 |fz x=>cases h4
 |mp l=>cases h4
 |pool e sz l lt=>
  obtain⟨p,hp,h4⟩:=h4;obtain⟨cells,h5,_⟩:=hs.2.2 p hp;rcases h5.2 with⟨e1,_⟩|⟨g,cap,cur,fr,e1,_,h6,_⟩
  ·rw[e1]at h4;cases h4
  ·rw[e1]at h4;cases h4;exact⟨_,_,_,h6⟩
 |row e sz ap ak=>
  obtain⟨_,cells,h5,_⟩:=hs;rcases h5.2 with⟨rfl,_⟩|⟨g,cap,cur,fr,rfl,_,h6,_⟩
  ·cases h4
  ·cases h4;exact⟨_,_,_,h6⟩
 |box e cs=>
  obtain⟨g,arr,rfl,_,h6,_⟩:=hs;cases h4;exact⟨_,_,_,h6⟩
mutual
def RA.ey{ok lT:Nat->Prop}(hk:∀b,ok b->lT b)(hc:∀b o u,ok b->w.cell? ⟨b,o,none⟩=some u->w'.cell? ⟨b,o,none⟩=some u):∀(x:AV) (v:Value),RA ok σ vals w x v->RA lT σ vals w' x v
 | .bad,_,_=>by simp only[RA]
 | .pv x,v,h=>by simp only[RA]at h ⊢;exact Rd.ey hk hc x v h
 | .own i,v,h=>by simpa only[RA]using h
 | .ref i k o,v,h=>by simpa only[RA]using h
 | .sub i s l n,v,h=>by simpa only[RA]using h
 | .agg cs,v,h=>by
  simp only[RA]at h ⊢;obtain⟨h0,vs,h1,h2⟩:=h;exact⟨h0,vs,h1,d_.ey hk hc cs _ h2⟩
 | .tup cs,v,h=>by
  simp only[RA]at h ⊢;obtain⟨vs,h1,h2⟩:=h;exact⟨vs,h1,d_.ey hk hc cs _ h2⟩
 | .clo f cs,v,h=>by
  simp only[RA]at h ⊢;obtain⟨vs,h1,h2⟩:=h;exact⟨vs,h1,d_.ey hk hc cs _ h2⟩
def d_.ey{ok lT:Nat->Prop}(hk:∀b,ok b->lT b)(hc:∀b o u,ok b->w.cell? ⟨b,o,none⟩=some u->w'.cell? ⟨b,o,none⟩=some u):∀(l:List AV) (vs:List Value),d_ ok σ vals w l vs->d_ lT σ vals w' l vs
 |[],_,h=>by simpa only[d_]using h
 |x::xs,vs,h=>by
  simp only[d_]at h ⊢;obtain⟨v,r,h1,h2,h3⟩:=h;exact⟨v,r,h1,RA.ey hk hc x v h2,d_.ey hk hc xs r h3⟩
end
def P_:∀{σ:aw},LA σ=true→∀(i:Nat) (l:List (Int×Bool)),σ[i]?≠some (cu.mp l)
 |[],_,i,l=>by simp
 |b::σ,h,i,l=>by
  cases b with
  |mp l=>cases h
  |_=>
   cases i with
   |zero=>simp
   |succ i=>exact P_ (σ:=σ) h i l
def ba.other(hr:ba cx σ vals w){row:Option Nat}(hg:w.grownBy w' row)(fN:∀r,row=some r->cx.own r/\cx.w1.heap.size<=r∧∃o:Obj,w.heap[r]?=some o/\o.isCells=false)(Uf:LA σ=true∨∀r,row=some r→∀es n,w.heap[r]?≠some (.map es n)):
 ba cx σ vals w'∧∀x v,RA (Ok cx σ vals w) σ vals w x v->RA (Ok cx σ vals w') σ vals w' x v:=by
 have Xo:∀(b:Nat) (cur:Array Value) (e:TypeId) (fr:Nat×Nat),w.heap[b]?=some (.cells cur e fr)->w'.heap[b]?=some (.cells cur e fr):=by
  intro b cur e fr h;refine(hg.block b (zai.1 h).1 (λe'=>?_)).trans h;obtain⟨_,_,o,ho,hc⟩:=fN b e'.symm;rw[h]at ho;cases ho;cases hc
 have hc:∀b o u,Ok cx σ vals w b->w.cell? ⟨b,o,none⟩=some u->w'.cell? ⟨b,o,none⟩=some u:=by
  intro b o u _ h;unfold World.cell? at h;cases hb:w.heap[b]? with
  |none=>simp[hb]at h
  |some ob=>
   cases ob with
   |cells cur e fr=>simp[hb]at h;simp[World.cell?,Xo b _ _ _ hb,h]
   |_=>simp[hb]at h
 have hk:∀b,Ok cx σ vals w b->Ok cx σ vals w' b:=λb h=>⟨h.1,zag h.2.1 hg.size,h.2.2⟩
 refine⟨⟨hr.below.grown hg (λk e=>(fN k e).1),hr.one,hr.len,λi s v h1 h2=>?_,hr.oP,
  ⟨zat hr.fr.size hg.size,λb hb=>(hg.block b (zag (cx.hk b hb) hr.fr.size) (λe=>by have:=(fN b e.symm).2.1;have:=cx.hk b hb;omega)).trans (hr.fr.same b hb),hr.fr.nB⟩,hr.pin⟩,λx v h=>RA.ey hk hc x v h⟩
 have hs:=hr.iU i s v h1 h2;cases s with
 |dead=>trivial
 |fz x=>exact Rd.ey hk hc x v hs
 |mp l=>
  obtain⟨b,es,n,e1,e2,e3,e4⟩:=hs;refine⟨b,es,n,e1,hk b e2,(hg.block b (zai.1 e3).1 (λe'=>?_)).trans e3,e4⟩;rcases Uf with Uf|Uf
  ·exact P_ Uf i l h1
  ·exact Uf b e'.symm es n e3
 |pool e sz l lt=>
  refine⟨hs.1,hs.2.1,λp hp=>?_⟩;obtain⟨cells,h3,h4,h5,h6⟩:=hs.2.2 p hp;refine⟨cells,⟨h3.1,?_⟩,h4,h5,cE.ey hk hc _ _ h6⟩;rcases h3.2 with h|⟨g,cap,cur,fr,e1,e2,e3,e4⟩
  ·exact .inl h
  ·exact .inr ⟨g,cap,cur,fr,e1,e2,Xo g _ _ _ e3,e4⟩
 |row e sz ap ak=>
  obtain⟨h0,cells,h3,h4,h5,h6⟩:=hs;refine⟨h0,cells,⟨h3.1,?_⟩,h4,h5,cE.ey hk hc _ _ h6⟩;rcases h3.2 with h|⟨g,cap,cur,fr,e1,e2,e3,e4⟩
  ·exact .inl h
  ·exact .inr ⟨g,cap,cur,fr,e1,e2,Xo g _ _ _ e3,e4⟩
 |box e cs=>
  obtain⟨b,arr,e1,e2,e3,e4,e5⟩:=hs;exact⟨b,arr,e1,e2,Xo b _ _ _ e3,e4,d_.ey hk hc _ _ e5⟩
def AD(hr:Rel cx env σ vals a w){row:Option Nat}(hg:w.grownBy w' row)(fN:∀r,row=some r->cx.own r/\cx.w1.heap.size<=r∧∃o:Obj,w.heap[r]?=some o/\o.isCells=false)(Uf:LA σ=true∨∀r,row=some r→∀es n,w.heap[r]?≠some (.map es n)):Rel cx env σ vals a w':=by
 obtain⟨h1,h2⟩:=hr.s.other hg fN Uf;exact⟨h1,λp=>h2 _ _ (hr.env p),hr.defers,λx v h=>h2 _ _ (hr.gh x v h),hr.lo⟩
def Y6(EG:cx.lo=0)(K:Env->Prop):∀(ps:List Nat) (xs:List PV) (us:List Value) (env:Env) (t:Array Value) (ds:List Deferred),xs.length=ps.length->cE (Ok cx σ vals w) w xs us->(∀p∈ps,p<n)->t.size=n->Rel cx env σ vals ⟨t,ds⟩ w->X5 ps xs env K->
 ∃au,K au/\Rel cx au σ vals ⟨(ps.zip us).foldl (λt p=>t.setIfInBounds p.1 p.2) t,ds⟩ w/\((ps.zip us).foldl (λt p=>t.setIfInBounds p.1 p.2) t).size=n:=by
 intro ps
 induction ps with
 |nil=>
  intro xs us env t ds hl _ _ hn hr h;cases xs with
  |nil=>exact⟨env,h,hr,hn⟩
  |cons x xs=>simp at hl
 |cons p ps ih=>
  intro xs us env t ds hl hp aS hn hr h;cases xs with
  |nil=>simp at hl
  |cons x xs=>
   simp only[cE]at hp;obtain⟨v,r,rfl,hv,hp⟩:=hp;have h:X5 ps xs ((p,.pv x)::env) K:=h;have qH:=OE (dst:=some p) (av:=.pv x) (v:=v) hr (by simp only[RA];exact hv) (λd hd=>by cases hd;show p<t.size;rw[hn];exact aS p ae) (λd' _=>by rw[EG];exact Nat.zero_le _);obtain⟨au,h1,h2,h3⟩:=ih xs r _ (t.setIfInBounds p v) ds (by simpa using hl) hp (λq hq=>aS q (by simp[hq])) (by simp[hn]) qH h;exact⟨au,h1,h2,h3⟩
end
end
end Go.Dv
namespace Go.Dv
open Go.RowKit
section
mutual
def AV.Nm(P:Nat->Prop):AV->Prop
 | .own i=>P i
 | .ref i _ _=>P i
 | .sub i _ _ _=>P i
 | .agg cs=>AV.lW P cs
 | .tup cs=>AV.lW P cs
 | .clo _ cs=>AV.lW P cs
 | .bad=>True
 | .pv _=>True
def AV.lW(P:Nat->Prop):List AV->Prop
 |[]=>True
 |a::l=>a.Nm P/\AV.lW P l
end
def cu.Nm(P:Nat->Prop):cu->Prop
 | .box _ cs=>AV.lW P cs
 | .pool _ _ _ lt=>∀p∈lt,P p.1
 |_=>True
section
variable {P Q:Nat->Prop}
mutual
def fU(h:∀i,P i->Q i):∀a:AV,a.Nm P->a.Nm Q
 | .own i,hx=>by simp only[AV.Nm]at hx ⊢;exact h i hx
 | .ref i _ _,hx=>by simp only[AV.Nm]at hx ⊢;exact h i hx
 | .sub i _ _ _,hx=>by simp only[AV.Nm]at hx ⊢;exact h i hx
 | .agg cs,hx=>by simp only[AV.Nm]at hx ⊢;exact mI h cs hx
 | .tup cs,hx=>by simp only[AV.Nm]at hx ⊢;exact mI h cs hx
 | .clo _ cs,hx=>by simp only[AV.Nm]at hx ⊢;exact mI h cs hx
 | .bad,_=>by simp only[AV.Nm]
 | .pv _,_=>by simp only[AV.Nm]
def mI(h:∀i,P i->Q i):∀l:List AV,AV.lW P l->AV.lW Q l
 |[],_=>by simp only[AV.lW]
 |a::l,hx=>by simp only[AV.lW]at hx ⊢;exact⟨fU h a hx.1,mI h l hx.2⟩
end
def cu.fU(h:∀i,P i->Q i)(b:cu)(hb:b.Nm P):b.Nm Q:=by
 cases b with
 |box e cs=>exact mI h cs hb
 |pool e sz l lt=>exact λp hp=>h _ (hb p hp)
 |_=>trivial
mutual
def UK:∀a:AV,a.Nm P->a.On P
 | .own i,hx=>by simp only[AV.Nm]at hx;simp only[AV.On];exact hx
 | .ref i _ _,hx=>by simp only[AV.Nm]at hx;simp only[AV.On];exact hx
 | .sub i _ _ _,hx=>by simp only[AV.Nm]at hx;simp only[AV.On];exact hx
 | .agg cs,hx=>by simp only[AV.Nm]at hx;simp only[AV.On];exact NQ cs hx
 | .tup cs,hx=>by simp only[AV.Nm]at hx;simp only[AV.On];exact NQ cs hx
 | .clo _ cs,_=>by simp only[AV.On]
 | .bad,_=>by simp only[AV.On]
 | .pv _,_=>by simp only[AV.On]
def NQ:∀l:List AV,AV.lW P l->AV.YS P l
 |[],_=>by simp only[AV.YS]
 |a::l,hx=>by simp only[AV.lW]at hx;simp only[AV.YS];exact⟨UK a hx.1,NQ l hx.2⟩
end
def Hz(l m:List AV):AV.lW P (l++m)↔AV.lW P l/\AV.lW P m:=by
 induction l with
 |nil=>simp[AV.lW]
 |cons a l ih=>simp only[zbe,AV.lW,ih,and_assoc]
def YG(l:List PV):AV.lW P (l.map .pv):=by
 induction l with
 |nil=>simp[AV.lW]
 |cons a l ih=>simp only[zav,AV.lW,AV.Nm];exact⟨trivial,ih⟩
def JV(cs:List AV):(AV.rec_1 (motive_1:=λ_=>List Nat) (motive_2:=λ_=>List Nat) [] (λ_=>[]) (λid=>[id]) (λid _ _=>[id]) (λid _ _ _=>[id])
 (λ_ ih=>ih) (λ_ ih=>ih) (λ_ _ ih=>ih) [] (λ_ _ h t=>h++t) cs:List Nat)=N4 cs:=by
 induction cs with
 |nil=>rfl
 |cons c cs ih=>exact congrArg (c.ids++ ·) ih
def Mx(a:AV)(l:List AV):N4 (a::l)=a.ids++N4 l:=rfl
def Kh(a:AV):a.Nm P↔∀i∈a.ids,P i:=by
 refine AV.rec (motive_1:=λa=>a.Nm P↔∀i∈a.ids,P i) (motive_2:=λl=>AV.lW P l↔∀i∈N4 l,P i) ?_ ?_ ?_ ?_ ?_ ?_ ?_ ?_ ?_ ?_ a
 ·simp[AV.Nm,AV.ids]
 ·intro x;simp[AV.Nm,AV.ids]
 ·intro i;simp[AV.Nm,AV.ids]
 ·intro i k o;simp[AV.Nm,AV.ids]
 ·intro i s l n;simp[AV.Nm,AV.ids]
 ·intro cs ih;rw[AV.Nm,ih,<-JV];rfl
 ·intro cs ih;rw[AV.Nm,ih,<-JV];rfl
 ·intro f cs ih;rw[AV.Nm,ih,<-JV];rfl
 ·simp[AV.lW,N4]
 ·intro a l h1 h2;rw[AV.lW,h1,h2,Mx];simp only[zax];constructor
  ·rintro⟨h3,h4⟩ i (hi|hi)
   ·exact h3 i hi
   ·exact h4 i hi
  ·intro h;exact⟨λi hi=>h i (.inl hi),λi hi=>h i (.inr hi)⟩
def acJ(l:List AV):AV.lW P l↔∀i∈N4 l,P i:=by
 induction l with
 |nil=>simp[AV.lW,N4]
 |cons a l ih=>
  rw[AV.lW,Kh,ih,Mx];simp only[zax];constructor
  ·rintro⟨h3,h4⟩ i (hi|hi)
   ·exact h3 i hi
   ·exact h4 i hi
  ·intro h;exact⟨λi hi=>h i (.inl hi),λi hi=>h i (.inr hi)⟩
end
mutual
def Uv{ok:Nat->Prop}{σ:aw}{vals:List Value}{w:World}{P:Nat->Prop}(h1:∀i,i<vals.length->P i)(h2:∀i,i<σ.length->P i):∀(a:AV) (v:Value),RA ok σ vals w a v->a.Nm P
 | .own i,v,h=>by simp only[RA]at h;simp only[AV.Nm];exact h1 i (zaa.1 h).1
 | .ref i _ _,v,h=>by simp only[RA]at h;simp only[AV.Nm];exact h2 i h.1
 | .sub i _ _ _,v,h=>by simp only[RA]at h;simp only[AV.Nm];exact h2 i h.1
 | .agg cs,v,h=>by simp only[RA]at h;simp only[AV.Nm];obtain⟨_,vs,_,h⟩:=h;exact Fi h1 h2 cs _ h
 | .tup cs,v,h=>by simp only[RA]at h;simp only[AV.Nm];obtain⟨vs,_,h⟩:=h;exact Fi h1 h2 cs _ h
 | .clo _ cs,v,h=>by simp only[RA]at h;simp only[AV.Nm];obtain⟨vs,_,h⟩:=h;exact Fi h1 h2 cs _ h
 | .bad,_,_=>by simp only[AV.Nm]
 | .pv _,_,_=>by simp only[AV.Nm]
def Fi{ok:Nat->Prop}{σ:aw}{vals:List Value}{w:World}{P:Nat->Prop}(h1:∀i,i<vals.length->P i)(h2:∀i,i<σ.length->P i):∀(l:List AV) (vs:List Value),d_ ok σ vals w l vs->AV.lW P l
 |[],_,_=>by simp only[AV.lW]
 |a::l,vs,h=>by simp only[d_]at h;simp only[AV.lW];obtain⟨v,r,_,h3,h4⟩:=h;exact⟨Uv h1 h2 a v h3,Fi h1 h2 l r h4⟩
end
def UF(p:Nat)(e:Env):Iw p e=aA p e:=by
 induction e with
 |nil=>rfl
 |cons x e ih=>
  obtain⟨q,v⟩:=x;show Bool.rec (Iw p e) v (Nat.beq q p)=bif Nat.beq q p then v else aA p e
  rw[ih];cases Nat.beq q p<;>rfl
def V1(env:Env)(t:Nat)(l:List Nat):SG env (t::l)=(Iw t env).ids++SG env l:=rfl
def Vf{env:Env}{l:List Nat}{P:Nat->Prop}(h:∀i∈SG env l,P i):∀t∈l,(aA t env).Nm P:=by
 induction l with
 |nil=>intro t ht;cases ht
 |cons s l ih=>
  intro t ht;rw[V1]at h;rcases zay.1 ht with rfl|ht
  ·rw[Kh,<-UF];exact λi hi=>h i (by simp[hi])
  ·exact ih (λi hi=>h i (by simp[hi])) t ht
def Wo(σ:aw)(t:Nat)(l:List Nat):Gz σ (t::l)=(match σ[t]? with|some (.box _ cs)=>N4 cs|_=>[])++Gz σ l:=rfl
def acw{σ:aw}{l:List Nat}{P:Nat->Prop}(h:∀i∈Gz σ l,P i):∀t∈l,∀e cs,σ[t]?=some (.box e cs)->AV.lW P cs:=by
 induction l with
 |nil=>intro t ht;cases ht
 |cons s l ih=>
  intro t ht e cs pH;rw[Wo]at h;rcases zay.1 ht with rfl|ht
  ·rw[acJ];exact λi hi=>h i (by rw[pH];simp[hi])
  ·exact ih (λi hi=>h i (by simp[hi])) t ht e cs pH
def oW(us:List (Nat×cu))(σ:aw):aw:=us.foldl (λσ u=>σ.set u.1 u.2) σ
def gy(us:List (Nat×cu)):∀σ:aw,(oW us σ).length=σ.length:=by
 induction us with
 |nil=>intro σ;rfl
 |cons u us ih=>intro σ;exact(ih _).trans (zaL ..)
def NC(us:List (Nat×cu)):∀(σ τ:aw) (j:Nat),σ[j]?=τ[j]?->(oW us σ)[j]?=(oW us τ)[j]?:=by
 induction us with
 |nil=>intro σ τ j h;exact h
 |cons u us ih=>
  intro σ τ j h;refine ih _ _ j ?_;rw[zaR,zaR];by_cases hj:u.1=j
  ·subst hj;have:u.1<σ.length↔u.1<τ.length:=by
    constructor
    ·intro aS;have:=zak aS;rw[h]at this;exact(zaa.1 this).1
    ·intro aS;have:=zak aS;rw[<-h]at this;exact(zaa.1 this).1
   simp only[if_true];by_cases h1:u.1<σ.length
   ·rw[if_pos h1,if_pos (this.1 h1)]
   ·rw[if_neg h1,if_neg (λh=>h1 (this.2 h))]
  ·rw[if_neg hj,if_neg hj];exact h
def u7(us:List (Nat×cu)):∀(σ:aw) (j:Nat),(∀u∈us,u.1≠j)->(oW us σ)[j]?=σ[j]?:=by
 induction us with
 |nil=>intro σ j _;rfl
 |cons u us ih=>
  intro σ j h;refine(ih _ j λx hx=>h x kG).trans ?_;rw[zaR,if_neg (h u ae)]
def nR(us vs:List (Nat×cu))(σ:aw):oW (us++vs) σ=oW vs (oW us σ):=List.foldl_append ..
def ahw{P:Nat->Prop}(us:List (Nat×cu)):∀(σ:aw),(∀u∈us,u.2.Nm P)->(∀b∈σ,b.Nm P)→∀b∈oW us σ,b.Nm P:=by
 induction us with
 |nil=>intro σ _ h;exact h
 |cons u us ih=>
  intro σ h1 h2;refine ih _ (λx hx=>h1 x kG) λb hb=>?_
  rcases zbF hb with hb|rfl
  ·exact h2 b hb
  ·exact h1 u ae
def HF{P:Nat->Prop}{σ σ':aw}(hs:Sub P σ σ')(us:List (Nat×cu)):Sub P (oW us σ) (oW us σ'):=by
 intro i b hi hb;have aS:i<σ.length:=by rw[<-gy us];exact(zaa.1 hb).1
 have h1:=zak aS;rw[NC us σ' σ i ((hs i _ hi h1).trans h1.symm)];exact hb
def wE{α:Type}(l:List α):∀(i:Nat) (x:α) (K:List α->Prop),i<l.length->K (l.set i x)->iX l i x K:=by
 induction l with
 |nil=>intro i x K h;simp at h
 |cons a l ih=>
  intro i x K h hk;cases i with
  |zero=>exact hk
  |succ i=>exact ih i x (λt=>K (a::t)) o8 hk
def Fzs(P:Nat->Prop)(σ:aw)(us:List (Nat×cu)):Prop:=∀u∈us,P u.1/\u.1<σ.length∧∃x,u.2=.fz x
def Fzs.app{P:Nat->Prop}{σ:aw}{us vs:List (Nat×cu)}(h1:Fzs P σ us)(h2:Fzs P (oW us σ) vs):Fzs P σ (us++vs):=by
 intro u hu;rcases zax.1 hu with hu|hu
 ·exact h1 u hu
 ·obtain⟨h3,h4,h5⟩:=h2 u hu;rw[gy]at h4;exact⟨h3,h4,h5⟩
def FzE(P:Nat->Prop)(σ:aw)(G:aw->(aw->Prop)->Prop)(K:aw->Prop):Prop:=
 ∃us,K (oW us σ)/\Fzs P σ us∧∀(σ':aw) (K':aw->Prop),Sub P σ σ'->K' (oW us σ')->G σ' K'
def Vr{P:Nat->Prop}{σ:aw}{id:Nat}{K:aw->Prop}(hi:P id)(h:dm σ id λb=>match b with
 | .row _ sz _ ak=>iX σ id (.fz (.sl sz ak)) K
 | .fz _=>K σ
 |_=>False):FzE P σ (λσ K=>dm σ id λb=>match b with
 | .row _ sz _ ak=>iX σ id (.fz (.sl sz ak)) K
 | .fz _=>K σ
 |_=>False) K:=by
 obtain⟨b,h1,h2⟩:=az _ _ _ h;have aS:=(zaa.1 h1).1;cases b with
 |row e sz ap ak=>
  have h3:=(bu _ _ _ _ h2).2;refine⟨[(id,.fz (.sl sz ak))],h3,?_,λσ' K' hs hk=>?_⟩
  ·intro u hu;simp at hu;subst hu;exact⟨hi,aS,_,rfl⟩
  ·have h4:=hs id _ hi h1;exact cr _ _ _ _ h4 (wE _ _ _ _ (zaa.1 h4).1 hk)
 |fz x=>exact⟨[],h2,λu hu=>jt,λσ' K' hs hk=>cr _ _ _ _ (hs id _ hi h1) hk⟩
 |_=>exact h2.elim
def Uy{P:Nat->Prop}:∀(a:AV) (σ:aw) (K:aw->Prop),a.Nm P->jy a σ K->FzE P σ (jy a) K:=by
 intro a;refine AV.rec (motive_1:=λa=>∀(σ:aw) (K:aw->Prop),a.Nm P->jy a σ K->FzE P σ (jy a) K)
  (motive_2:=λl=>∀(σ:aw) (K:aw->Prop),AV.lW P l->dW l σ K->FzE P σ (dW l) K) ?_ ?_ ?_ ?_ ?_ ?_ ?_ ?_ ?_ ?_ a
 ·intro σ K _ h;exact h.elim
 ·intro x σ K _ h;exact J_
 ·intro id σ K hi h;exact Vr (by simpa only[AV.Nm]using hi) h
 ·intro id i o σ K _ h;exact h.elim
 ·intro id s l n σ K hi h;exact Vr (by simpa only[AV.Nm]using hi) h
 ·intro cs ih σ K hn h;obtain⟨us,h1,h2,h3⟩:=ih σ K (by simpa only[AV.Nm]using hn) (Db _ _ _ h);exact⟨us,h1,h2,λσ' K' hs hk=>Qf⟩
 ·intro cs ih σ K hn h;obtain⟨us,h1,h2,h3⟩:=ih σ K (by simpa only[AV.Nm]using hn) (DQ _ _ _ h);exact⟨us,h1,h2,λσ' K' hs hk=>Qf⟩
 ·intro f cs _ σ K _ h;exact h.elim
 ·intro σ K _ h;exact J_
 ·intro a l h1 h2 σ K hn h;simp only[AV.lW]at hn;obtain⟨us,h3,h4,h5⟩:=h1 σ (λσ=>dW l σ K) hn.1 h;obtain⟨vs,h6,h7,h8⟩:=h2 _ K hn.2 h3;refine⟨us++vs,by rw[nR];exact h6,h4.app h7,λσ' K' hs hk=>?_⟩;exact h5 σ' _ hs (h8 _ K' (HF hs us) (by rw[<-nR];exact hk))
def Kz{P:Nat->Prop}(l:List AV):∀(σ:aw) (K:aw->Prop),AV.lW P l->dW l σ K->FzE P σ (dW l) K:=by
 induction l with
 |nil=>intro σ K _ h;exact J_
 |cons a l ih=>
  intro σ K hn h;simp only[AV.lW]at hn;obtain⟨us,h3,h4,h5⟩:=Uy a σ (λσ=>dW l σ K) hn.1 h;obtain⟨vs,h6,h7,h8⟩:=ih _ K hn.2 h3;refine⟨us++vs,by rw[nR];exact h6,h4.app h7,λσ' K' hs hk=>?_⟩;exact h5 σ' _ hs (h8 _ K' (HF hs us) (by rw[<-nR];exact hk))
def VB(a b i:Nat):Nat:=if i<a then i else i-a+b
mutual
def Bj(a b:Nat):AV->AV
 | .own i=>.own (VB a b i)
 | .ref i k o=>.ref (VB a b i) k o
 | .sub i s l n=>.sub (VB a b i) s l n
 | .agg cs=>.agg (GQ a b cs)
 | .tup cs=>.tup (GQ a b cs)
 | .clo f cs=>.clo f (GQ a b cs)
 | .bad=>.bad
 | .pv x=>.pv x
def GQ(a b:Nat):List AV->List AV
 |[]=>[]
 |x::l=>Bj a b x::GQ a b l
end
mutual
def Wq{a b c d:Nat}:∀v:AV,v.Nm (λi=>VB a b i=VB c d i)->Bj a b v=Bj c d v
 | .own i,h=>by simp only[AV.Nm]at h;simp only[Bj,h]
 | .ref i _ _,h=>by simp only[AV.Nm]at h;simp only[Bj,h]
 | .sub i _ _ _,h=>by simp only[AV.Nm]at h;simp only[Bj,h]
 | .agg cs,h=>by simp only[AV.Nm]at h;simp only[Bj,r8 cs h]
 | .tup cs,h=>by simp only[AV.Nm]at h;simp only[Bj,r8 cs h]
 | .clo _ cs,h=>by simp only[AV.Nm]at h;simp only[Bj,r8 cs h]
 | .bad,_=>rfl
 | .pv _,_=>rfl
def r8{a b c d:Nat}:∀l:List AV,AV.lW (λi=>VB a b i=VB c d i) l->GQ a b l=GQ c d l
 |[],_=>rfl
 |x::l,h=>by simp only[AV.lW]at h;simp only[GQ,Wq x h.1,r8 l h.2]
end
mutual
def US{r:List Nat}{a b:Nat}:∀v:AV,v.Nm (λi=>r[i]?=some (VB a b i))->Ren r (Bj a b v) v
 | .own i,h=>by simp only[AV.Nm]at h;simp only[Bj,Ren];exact uY
 | .ref i _ _,h=>by simp only[AV.Nm]at h;simp only[Bj,Ren];exact uY
 | .sub i _ _ _,h=>by simp only[AV.Nm]at h;simp only[Bj,Ren];exact uY
 | .agg cs,h=>by simp only[AV.Nm]at h;simp only[Bj,Ren];exact⟨cs,rfl,Ep cs h⟩
 | .tup cs,h=>by simp only[AV.Nm]at h;simp only[Bj,Ren];exact⟨cs,rfl,Ep cs h⟩
 | .clo _ cs,h=>by simp only[AV.Nm]at h;simp only[Bj,Ren];exact⟨cs,rfl,Ep cs h⟩
 | .bad,_=>by simp only[Bj,Ren]
 | .pv _,_=>by simp only[Bj,Ren]
def Ep{r:List Nat}{a b:Nat}:∀l:List AV,AV.lW (λi=>r[i]?=some (VB a b i)) l->fK r (GQ a b l) l
 |[],_=>by simp only[GQ,fK]
 |x::l,h=>by simp only[AV.lW]at h;simp only[GQ,fK];exact⟨x,l,rfl,US x h.1,Ep l h.2⟩
end
mutual
def x7{r:List Nat}:∀v:AV,v.Nm (λi=>r[i]?=some i)->Ren r v v
 | .own i,h=>by simp only[AV.Nm]at h;simp only[Ren];exact uY
 | .ref i _ _,h=>by simp only[AV.Nm]at h;simp only[Ren];exact uY
 | .sub i _ _ _,h=>by simp only[AV.Nm]at h;simp only[Ren];exact uY
 | .agg cs,h=>by simp only[AV.Nm]at h;simp only[Ren];exact Di
 | .tup cs,h=>by simp only[AV.Nm]at h;simp only[Ren];exact Di
 | .clo _ cs,h=>by simp only[AV.Nm]at h;simp only[Ren];exact Di
 | .bad,_=>by simp only[Ren]
 | .pv _,_=>yt
def MZ{r:List Nat}:∀l:List AV,AV.lW (λi=>r[i]?=some i) l->fK r l l
 |[],_=>by simp only[fK]
 |x::l,h=>by simp only[AV.lW]at h;simp only[fK];exact⟨x,l,rfl,x7 x h.1,MZ l h.2⟩
end
def FE{r:List Nat}(b:cu)(h:b.Nm (λi=>r[i]?=some i)):vC r b b:=by
 cases b with
 |box e cs=>exact Di
 |pool e sz l lt=>exact⟨rfl,h⟩
 |_=>rfl
def TkE(σ:aw)(G:aw->(AV->aw->Prop)->Prop)(K:AV->aw->Prop):Prop:=
 ∃v ps,K v (σ++ps)/\(∀b∈ps,∀P,cu.Nm P b)/\v.Nm (λi=>σ.length<=i/\i<σ.length+ps.length)∧∀(σ':aw) (K':AV->aw->Prop),K' (Bj σ.length σ'.length v) (σ'++ps)->G σ' K'
def rC(a b:Nat):VB a b a=b:=by unfold VB;rw[if_neg (Nat.lt_irrefl a),Nat.sub_self,zaU]
def YR(σ:aw)(e:TypeId)(sz:Nat)(ap:Bool)(ak:List PV){K:AV->aw->Prop}(h:iW σ λn=>eo σ (.row e sz ap ak) λσ=>K (.own n) σ):
 TkE σ (λσ K=>iW σ λn=>eo σ (.row e sz ap ak) λσ=>K (.own n) σ) K:=by
 have h1:=bR _ _ _ (cW _ _ h);refine⟨_,[_],h1,?_,?_,λσ' K' hk=>wm _ _ (rT _ _ _ ?_)⟩
 ·intro b hb P;simp at hb;subst hb;trivial
 ·simp only[AV.Nm,zbK];omega
 ·simp only[Bj,rC]at hk;exact hk
def axG(σ:aw)(l:List (Int×Bool)){K:AV->aw->Prop}(h:iW σ λn=>eo σ (.mp l) λσ=>K (.own n) σ):
 TkE σ (λσ K=>iW σ λn=>eo σ (.mp l) λσ=>K (.own n) σ) K:=by
 have h1:=bR _ _ _ (cW _ _ h);refine⟨_,[_],h1,?_,?_,λσ' K' hk=>wm _ _ (rT _ _ _ ?_)⟩
 ·intro b hb P;simp at hb;subst hb;trivial
 ·simp only[AV.Nm,zbK];omega
 ·simp only[Bj,rC]at hk;exact hk
def Zo(r:RV):∀(σ:aw) (K:AV->aw->Prop),re r σ K->TkE σ (re r) K:=by
 let G:List RV->aw->(List AV->aw->Prop)->Prop:=λl=>RV.rec_1 (motive_1:=λ_=>aw->(AV->aw->Prop)->Prop) (motive_2:=λ_=>aw->(List AV->aw->Prop)->Prop)
  (λx σ K=>K (.pv x) σ)
  (λe sz ak σ K=>iW σ λn=>eo σ (.row e sz true ak) λσ=>K (.own n) σ)
  (λe sz ak σ K=>iW σ λn=>eo σ (.row e sz false ak) λσ=>K (.own n) σ)
  (λ_ ih σ K=>ih σ λl σ=>K (.agg l) σ)
  (λ_ ih σ K=>ih σ λl σ=>K (.tup l) σ)
  (λl σ K=>iW σ λn=>eo σ (.mp l) λσ=>K (.own n) σ)
  (λσ K=>K [] σ)
  (λ_ _ h t σ K=>h σ λa σ=>t σ λl σ=>K (a::l) σ) l
 refine RV.rec (motive_1:=λr=>∀(σ:aw) (K:AV->aw->Prop),re r σ K->TkE σ (re r) K)
  (motive_2:=λl=>∀(σ:aw) (K:List AV->aw->Prop),G l σ K→∃v ps,K v (σ++ps)/\(∀b∈ps,∀P,cu.Nm P b)/\AV.lW (λi=>σ.length<=i/\i<σ.length+ps.length) v∧∀(σ':aw) (K':List AV->aw->Prop),K' (GQ σ.length σ'.length v) (σ'++ps)->G l σ' K')
  ?_ ?_ ?_ ?_ ?_ ?_ ?_ ?_ r
 ·intro x σ K h;exact⟨_,[],by rw[zaY];exact h,λb hb=>jn,by simp only[AV.Nm],λσ' K' hk=>vQ⟩
 ·intro e sz ak σ K h;exact YR σ e sz true ak h
 ·intro e sz ak σ K h;exact YR σ e sz false ak h
 ·intro l ih σ K h;obtain⟨v,ps,h1,h2,h3,h4⟩:=ih σ _ h;exact⟨_,ps,h1,h2,by simp only[AV.Nm];exact h3,λσ' K' hk=>h4 σ' _ (by simp only[Bj]at hk;exact hk)⟩
 ·intro l ih σ K h;obtain⟨v,ps,h1,h2,h3,h4⟩:=ih σ _ h;exact⟨_,ps,h1,h2,by simp only[AV.Nm];exact h3,λσ' K' hk=>h4 σ' _ (by simp only[Bj]at hk;exact hk)⟩
 ·intro m σ K h;exact axG σ m h
 ·intro σ K h;exact⟨[],[],by rw[zaY];exact h,λb hb=>jn,by simp only[AV.lW],λσ' K' hk=>vQ⟩
 ·intro a l h1 h2 σ K h;obtain⟨v,ps,h3,h4,h5,h6⟩:=h1 σ (λa σ=>G l σ λt σ=>K (a::t) σ) h;obtain⟨u,qs,h7,h8,h9,M7⟩:=h2 _ _ h3;rw[zae]at h9;refine⟨v::u,ps++qs,by rw[<-zah];exact h7,λb hb=>?_,?_,λσ' K' hk=>?_⟩
  ·rcases zax.1 hb with hb|hb
   ·exact h4 b hb
   ·exact h8 b hb
  ·simp only[AV.lW];rw[zae];exact⟨fU (λi hi=>aa) _ h5,mI (λi hi=>aa) _ h9⟩
  ·refine h6 σ' (λa τ=>G l τ λt τ=>K' (a::t) τ) ?_;refine M7 (σ'++ps) (λt τ=>K' (Bj σ.length σ'.length v::t) τ) ?_;rw[zah];simp only[GQ]at hk;rw[r8 (c:=σ.length) (d:=σ'.length) u (mI (λi hi=>by
    simp only[zae];unfold VB;rw[if_neg aa,if_neg aa];omega) _ h9)]
   exact hk
end
end Go.Dv
namespace Go.Dv
open Go.RowKit
section
def Un(sh:Bool)(a b:Nat)(v:AV):AV:=match sh with|true=>Bj a b v|false=>v
def Ku(A:Nat->Prop)(tn:Bool)(N:(Nat->Prop)->Prop)(σ:aw)(G:aw->(AV->aw->Prop)->Prop)(K:AV->aw->Prop):Prop:=
 ∃(v:AV) (sh:Bool) (us:List (Nat×cu)) (ps:List cu),(sh=false->ps=[])/\K v (oW us σ++ps)/\(∀u∈us,tn=true/\A u.1/\u.1<σ.length)/\
  (∀P:Nat->Prop,N P->(∀j b,A j->σ[j]?=some b->b.Nm P)->(∀u∈us,u.2.Nm P)∧∀b∈ps,b.Nm P)/\
  ∀(σ':aw) (K':AV->aw->Prop),Sub A σ σ'->K' (Un sh σ.length σ'.length v) (oW us σ'++ps)->G σ' K'
def RdE{β:Type}(A:Nat->Prop)(σ:aw)(G:aw->(β->Prop)->Prop)(K:β->Prop):Prop:=
 ∃x,K x∧∀(σ':aw) (K':β->Prop),Sub A σ σ'->K' x->G σ' K'
section
variable {A:Nat->Prop} {tn:Bool} {N:(Nat->Prop)->Prop} {σ:aw}
def Ku.quiet{G:aw->(AV->aw->Prop)->Prop}{K:AV->aw->Prop}{v:AV}(h:K v σ)(h2:∀(σ':aw) (K':AV->aw->Prop),Sub A σ σ'->K' v σ'->G σ' K'):Ku A tn N σ G K:=
 ⟨v,false,[],[],λ_=>rfl,by rw[zaY];exact h,λu hu=>jt,λP _ _=>⟨λu hu=>jt,λb hb=>jn⟩,λσ' K' hs hk=>h2 σ' K' hs vQ⟩
def Ku.push{G:aw->(AV->aw->Prop)->Prop}{K:AV->aw->Prop}{v:AV}{b:cu}(h:K v (σ++[b]))(hn:∀P,N P->b.Nm P)(h2:∀(σ':aw) (K':AV->aw->Prop),K' (Bj σ.length σ'.length v) (σ'++[b])->G σ' K'):Ku A tn N σ G K:=
 ⟨v,true,[],[b],λh=>cI,h,λu hu=>jt,λP hP _=>⟨λu hu=>jt,λc hc=>by simp at hc;subst hc;exact hn P hP⟩,λσ' K' _ hk=>h2 σ' K' hk⟩
def PA(a:AV){K:List AV->Prop}(h:wb a K):∃cs,K cs/\(∀P,a.Nm P->AV.lW P cs)∧∀K':List AV->Prop,K' cs->wb a K':=by
 cases a with
 |pv x=>
  have one:∀y:PV,K [.pv y]→∃cs,K cs/\(∀P,(AV.pv x).Nm P->AV.lW P cs)∧∀K':List AV->Prop,K' cs->K' [.pv y]:=λy h=>⟨_,h,λP _=>by simp[AV.lW,AV.Nm],λ_ h=>h⟩
  cases x with
  |agg cs=>
   have h:=lz _ _ h;refine⟨_,h,λP _=>YG cs,λK' hk=>?_⟩;show H3 cs K';obtain⟨r,h1,h2⟩:=CL cs (λ_=>True) (by
    have:∀(l:List PV) (K:List AV->Prop),K (l.map .pv)->H3 l K:=by
     intro l
     induction l with
     |nil=>intro K h;exact h
     |cons y l ih=>intro K h;exact ih _ h
    exact this cs _ trivial)
   have:=lz _ _ (h2 (λt=>t=r) rfl);subst this;exact h2 K' hk
  |tup l=>exact h.elim
  |_=>exact one _ h
 |agg cs=>exact⟨cs,h,λP hp=>by simpa only[AV.Nm]using hp,λ_ h=>h⟩
 |own id=>exact Dm
 |ref id i o=>exact Dm
 |sub id s l n=>exact Dm
 |clo f cs=>exact Dm
 |bad=>exact h.elim
 |tup l=>exact h.elim
def ayD{a:AV}(ha:a.Nm A){K:PV->Prop}(h:fE σ a K):RdE A σ (λσ K=>fE σ a K) K:=by
 obtain⟨x,h1,h2⟩:=wk a _ h;refine⟨x,h1,λσ' K' hs hk=>?_⟩;have h3:=MN hs a (UK a ha) (h2 (λy=>y=x) rfl);obtain⟨y,rfl,h5⟩:=wk a _ h3;exact h5 K' hk
def TT{l:List AV}(ha:AV.lW A l){K:List PV->Prop}(h:bJ σ l K):RdE A σ (λσ K=>bJ σ l K) K:=by
 obtain⟨x,h1,h2⟩:=oc l _ h;refine⟨x,h1,λσ' K' hs hk=>?_⟩;have h3:=IZ hs l (NQ l ha) (h2 (λy=>y=x) rfl);obtain⟨y,rfl,h5⟩:=oc l _ h3;exact h5 K' hk
def X9{a:AV}(ha:a.Nm A){K:Nat->List PV->Prop}(h:uO σ a K):∃s ak,K s ak∧∀(σ':aw) (K':Nat->List PV->Prop),Sub A σ σ'->K' s ak->uO σ' a K':=by
 have hd:bH λK:Nat×List PV->Prop=>uO σ a λs l=>K (s,l):=Ea a (λs l K=>K (s,l)) λs l=>bH.ret _
 obtain⟨⟨s,ak⟩,h1,h2⟩:=hd (λp=>K p.1 p.2) h;refine⟨s,ak,h1,λσ' K' hs hk=>?_⟩;have h3:=N5 hs (UK a ha) (h2 (λp=>p=(s,ak)) rfl);have hd':bH λK:Nat×List PV->Prop=>uO σ' a λs l=>K (s,l):=Ea a (λs l K=>K (s,l)) λs l=>bH.ret _
 obtain⟨p,hp,h5⟩:=hd' (λp=>p=(s,ak)) h3;subst hp;exact h5 (λp=>K' p.1 p.2) hk
def W7{n:Nat}{a v:AV}(ha:a.Nm A)(hv:v.Nm A)(hN:∀P,N P->v.Nm P){K:AV->aw->Prop}(h:Ow σ n a v λσ=>K .bad σ):Ku A true N σ (λσ K=>Ow σ n a v λσ=>K .bad σ) K:=by
 cases a with
 |ref id idx off=>
  have hi:A id:=by simpa only[AV.Nm]using ha
  obtain⟨b,h1,h2⟩:=az _ _ _ h;have aS:=(zaa.1 h1).1;cases b with
  |row e sz ap ak=>
   obtain⟨x,h3,h4⟩:=ayD hv h2;obtain⟨us,h5,h6,h7⟩:=Uy v σ _ hv h3;obtain⟨b,h8,h9⟩:=az _ _ _ h5;cases b with
   |row e sz ap ak=>
    obtain⟨y,M7,Sv,VL⟩:=h9;obtain⟨cs,h13,h14⟩:=zQ _ _ _ _ VL;obtain⟨y',h15,h16⟩:=SA _ _ _ h13;obtain⟨h17,h18⟩:=bu _ _ _ _ h15;refine⟨.bad,false,us++[(id,.row e sz ap (ak.set idx y'))],[],λ_=>rfl,?_,?_,?_,?_⟩
    ·rw[zaY,nR];exact h18
    ·intro u hu;rcases zax.1 hu with hu|hu
     ·exact⟨rfl,(h6 u hu).1,(h6 u hu).2.1⟩
     ·simp at hu;subst hu;exact⟨rfl,hi,aS⟩
    ·refine λP _ _=>⟨λu hu=>?_,λb hb=>jn⟩
     rcases zax.1 hu with hu|hu
     ·obtain⟨_,_,x,hx⟩:=h6 u hu;rw[hx];trivial
     ·simp at hu;subst hu;trivial
    ·intro σ' K' hs hk;rw[zaY,nR]at hk;refine cr _ _ _ _ (hs id _ hi h1) ?_;refine h4 σ' _ hs (h7 σ' _ hs ?_);have VM:=HF hs us id _ hi h8;refine cr _ _ _ _ VM ⟨y,M7,Sv,h14 _ (h16 _ (wE _ _ _ _ (zaa.1 VM).1 hk))⟩
   |_=>exact h9.elim
  |box e cs=>
   obtain⟨vs,h3,h4,h5⟩:=PA v h2;obtain⟨h6,h7⟩:=h3;obtain⟨ds,h8,h9⟩:=zQ _ _ _ _ h7;obtain⟨M7,Sv⟩:=bu _ _ _ _ h8;obtain⟨pre,mid,post,VL,h13,h14,h15⟩:=mH _ _ _ _ (h9 (λt=>t=ds) rfl);refine⟨.bad,false,[(id,.box e ds)],[],λ_=>rfl,by rw[zaY];exact Sv,?_,?_,?_⟩
   ·intro u hu;simp at hu;subst hu;exact⟨rfl,hi,aS⟩
   ·refine λP hP hc=>⟨λu hu=>?_,λb hb=>jn⟩
    simp at hu;subst hu;have hold:AV.lW P cs:=hc id _ hi h1;have O5:AV.lW P vs:=h4 P (hN P hP);show AV.lW P ds;rw[<-h15];rw[VL,Hz,Hz]at hold;rw[Hz,Hz];exact⟨⟨hold.1.1,O5⟩,hold.2⟩
   ·intro σ' K' hs hk;rw[zaY]at hk;have VM:=hs id _ hi h1;exact cr _ _ _ _ VM (h5 _ ⟨h6,h9 _ (wE _ _ _ _ (zaa.1 VM).1 hk)⟩)
  |_=>exact h2.elim
 |_=>exact h.elim
def abp{e sz bytes:Nat}{x:AV}{ys:List PV}(hx:x.Nm A){K:AV->aw->Prop}(h:TW σ e sz bytes x ys K):Ku A true N σ (λσ K=>TW σ e sz bytes x ys K) K:=by
 cases x with
 |pv p=>
  cases p with
  |nil s=>
   obtain⟨h1,h2⟩:=h;have h3:=bR _ _ _ (cW _ _ h2);refine Ku.push h3 (λP _=>trivial) λσ' K' hk=>⟨h1,wm _ _ (rT _ _ _ ?_)⟩
   simp only[Bj,rC]at hk;exact hk
  |_=>exact h.elim
 |own id=>
  have hi:A id:=zR;obtain⟨b,h1,h2⟩:=az _ _ _ h;have aS:=(zaa.1 h1).1;cases b with
  |row e' s ap ak=>
   cases ap with
   |false=>exact h2.elim
   |true=>
    cases lZ:Nat.beq s sz with
    |false=>simp only[lZ]at h2
    |true=>
     cases he1:Nat.beq e' e with
     |false=>simp only[lZ,he1]at h2
     |true=>
      simp only[lZ,he1]at h2;obtain⟨h3,h4⟩:=h2;obtain⟨_,h5⟩:=bu _ _ _ _ h4;have h6:=bR _ _ _ (cW _ _ h5);refine⟨_,true,[(id,.dead)],[_],λh=>cI,h6,?_,?_,?_⟩
      ·intro u hu;simp at hu;subst hu;exact⟨rfl,hi,aS⟩
      ·refine λP _ _=>⟨λu hu=>?_,λb hb=>?_⟩
       ·simp at hu;subst hu;trivial
       ·simp at hb;subst hb;trivial
      ·intro σ' K' hs hk;have VM:=hs id _ hi h1;refine cr _ _ _ _ VM ?_;simp only[lZ,he1];refine⟨h3,wE _ _ _ _ (zaa.1 VM).1 (wm _ _ (rT _ _ _ ?_))⟩;simp only[Un,Bj,zaL,rC]at hk ⊢;exact hk
  |_=>exact h2.elim
 |_=>exact h.elim
def nN{n:Nat}{lo hi:Option AV}{K:Nat->Nat->Prop}(h:fb n lo hi K):∃l u,K l u∧∀K':Nat->Nat->Prop,K' l u->fb n lo hi K':=by
 have hd:bH λK:Nat×Nat->Prop=>fb n lo hi λl u=>K (l,u):=Ga n lo hi (λl u K=>K (l,u)) λl u=>bH.ret _
 obtain⟨⟨l,u⟩,h1,h2⟩:=hd (λp=>K p.1 p.2) h;exact⟨l,u,h1,λK' hk=>h2 (λp=>K' p.1 p.2) hk⟩
def Rh{sz:Nat}{x:AV}{ys:List PV}(hx:x.Nm A){K:AV->aw->Prop}(h:BS σ sz x ys λn σ=>K (.pv (.int .i64 n)) σ):Ku A true N σ (λσ K=>BS σ sz x ys λn σ=>K (.pv (.int .i64 n)) σ) K:=by
 have one:∀(id:Nat) (b:cu) (b':cu) (n:Nat) (hi:A id) (h1:σ[id]?=some b) (hb:∀P:Nat->Prop,b'.Nm P) (h:iX σ id b' λσ=>K (.pv (.int .i64 n)) σ),
  ∃us:List (Nat×cu),K (.pv (.int .i64 n)) (oW us σ)/\(∀u∈us,A u.1/\u.1<σ.length)/\(∀P:Nat->Prop,∀u∈us,u.2.Nm P)∧∀(σ':aw) (K':AV->aw->Prop),Sub A σ σ'->K' (.pv (.int .i64 n)) (oW us σ')->iX σ' id b' λσ=>K' (.pv (.int .i64 n)) σ:=by
  intro id b b' n hi h1 hb h;refine⟨[(id,b')],(bu _ _ _ _ h).2,λu hu=>?_,λP u hu=>?_,λσ' K' hs hk=>wE _ _ _ _ (zaa.1 (hs id b hi h1)).1 hk⟩
  ·simp at hu;subst hu;exact⟨hi,(zaa.1 h1).1⟩
  ·simp at hu;subst hu;exact hb P
 cases x with
 |pv p=>
  cases p with
  |nil s=>exact Ku.quiet h λσ' K' _ hk=>hk
  |_=>exact h.elim
 |own id=>
  have hi:A id:=zR;obtain⟨b,h1,h2⟩:=az _ _ _ h;cases b with
  |row e s ap ak=>
   simp only at h2;cases hs:Nat.beq s sz with
   |false=>simp only[hs]at h2
   |true=>
    simp only[hs]at h2;obtain⟨us,g1,g2,g3,g4⟩:=one id _ (.row e s ap (ys.take ak.length++ak.drop ys.length)) _ hi h1 (λ_=>trivial) h2;refine⟨_,false,us,[],λ_=>rfl,by rw[zaY];exact g1,λu hu=>⟨rfl,g2 u hu⟩,λP _ _=>⟨g3 P,λb hb=>jn⟩,λσ' K' q7 hk=>cr _ _ _ _ (q7 id _ hi h1) ?_⟩;simp only[hs];exact g4 σ' K' q7 vQ
  |_=>exact h2.elim
 |sub id s lo n=>
  have hi:A id:=zR;simp only[BS]at h ⊢;cases hs0:Nat.beq s sz with
  |false=>simp only[hs0]at h
  |true=>
   simp only[hs0]at h ⊢;obtain⟨b,h1,h2⟩:=az _ _ _ h;cases b with
   |row e s' ap ak=>
    simp only at h2;cases hs:Nat.beq s' sz with
    |false=>simp only[hs]at h2
    |true=>
     simp only[hs]at h2;obtain⟨us,g1,g2,g3,g4⟩:=one id _ (.row e s' ap (ak.take lo++ys.take n++ak.drop (lo+min ys.length n))) _ hi h1 (λ_=>trivial) h2.2;refine⟨_,false,us,[],λ_=>rfl,by rw[zaY];exact g1,λu hu=>⟨rfl,g2 u hu⟩,λP _ _=>⟨g3 P,λb hb=>jn⟩,λσ' K' q7 hk=>cr _ _ _ _ (q7 id _ hi h1) ?_⟩;simp only[hs];exact⟨h2.1,g4 σ' K' q7 vQ⟩
   |_=>exact h2.elim
 |_=>exact h.elim
def XO{c:Bool}{x k:AV}(hx:x.Nm A){K:AV->aw->Prop}(h:UZ σ c x k λr=>K r σ):Ku A tn N σ (λσ K=>UZ σ c x k λr=>K r σ) K:=by
 cases x with
 |own id=>
  have hi:A id:=zR;obtain⟨b,h1,h2⟩:=az _ _ _ h;cases b with
  |mp l=>
   cases k with
   |pv y=>
    cases y with
    |int kd n=>
     cases kd with
     |i64=>
      cases c with
      |true=>exact Ku.quiet h2 λσ' K' hs hk=>cr _ _ _ _ (hs id _ hi h1) hk
      |false=>exact Ku.quiet h2 λσ' K' hs hk=>cr _ _ _ _ (hs id _ hi h1) hk
     |_=>exact h2.elim
    |_=>exact h2.elim
   |_=>exact h2.elim
  |_=>exact h2.elim
 |_=>exact h.elim
def adP{sz:Nat}{x:AV}{lo hi:Option AV}(hx:x.Nm A){K:AV->aw->Prop}(h:MU σ sz x lo hi K):Ku A true N σ (λσ K=>MU σ sz x lo hi K) K:=by
 cases x with
 |pv p=>
  cases p with
  |sl s ak=>
   simp only[MU]at h ⊢;cases lZ:Nat.beq s sz with
   |false=>simp only[lZ]at h
   |true=>
    simp only[lZ]at h ⊢;obtain⟨l,u,h1,h2⟩:=nN h;exact Ku.quiet h1 λσ' K' _ hk=>h2 _ hk
  |nil s=>
   obtain⟨l,u,h1,h2⟩:=nN (K:=λ_ _=>K (.pv (.nil s)) σ) h;exact Ku.quiet h1 λσ' K' _ hk=>h2 (λ_ _=>K' (.pv (.nil s)) σ') hk
  |_=>exact h.elim
 |own id=>
  have hi:A id:=zR;obtain⟨b,h1,h2⟩:=az _ _ _ h;have aS:=(zaa.1 h1).1;cases b with
  |row e s ap ak=>
   simp only at h2;cases lZ:Nat.beq s sz with
   |false=>simp only[lZ]at h2
   |true=>
    simp only[lZ]at h2;rcases h2 with h2|h2
    ·obtain⟨l,u,h3,h4⟩:=nN h2;obtain⟨_,h5⟩:=bu _ _ _ _ h3;refine⟨_,false,[(id,.fz (.sl sz ak))],[],λ_=>rfl,by rw[zaY];exact h5,?_,?_,?_⟩
     ·intro u hu;simp at hu;subst hu;exact⟨rfl,hi,aS⟩
     ·refine λP _ _=>⟨λu hu=>?_,λb hb=>jn⟩
      simp at hu;subst hu;trivial
     ·intro σ' K' hs hk;rw[zaY]at hk;have VM:=hs id _ hi h1;refine cr _ _ _ _ VM ?_;simp only[lZ];exact .inl (h4 _ (wE _ _ _ _ (zaa.1 VM).1 hk))
    ·obtain⟨l,u,h3,h4⟩:=nN h2;refine Ku.quiet h3 λσ' K' hs hk=>cr _ _ _ _ (hs id _ hi h1) ?_
     simp only[lZ];exact .inr (h4 _ hk)
  |fz x=>
   cases x with
   |sl s ak=>
    simp only at h2;cases lZ:Nat.beq s sz with
    |false=>simp only[lZ]at h2
    |true=>
     simp only[lZ]at h2;obtain⟨l,u,h3,h4⟩:=nN h2;refine Ku.quiet h3 λσ' K' hs hk=>cr _ _ _ _ (hs id _ hi h1) ?_
     simp only[lZ];exact h4 _ hk
   |_=>exact h2.elim
  |_=>exact h2.elim
 |sub id s lo0 n=>
  simp only[MU]at h ⊢;cases lZ:Nat.beq s sz with
  |false=>simp only[lZ]at h
  |true=>
   simp only[lZ]at h ⊢;obtain⟨l,u,h1,h2⟩:=nN h;exact Ku.quiet h1 λσ' K' _ hk=>h2 _ hk
 |_=>exact h.elim
def S8(cs:List PV):bH (jw cs):=by
 cases cs with
 |nil=>exact dq
 |cons c r=>cases r with
  |nil=>cases c<;>first|exact bH.no|exact dq
  |cons d r=>exact dq
end
end
end Go.Dv
namespace Go.Dv
open Go.RowKit
section
section
variable {Γ:Ctx} {env:Env} {σ:aw} {P:Program}
def pz{Q:Nat->Prop}{x:Operand}(hx:∀t∈jJ x,(aA t env).Nm Q):(a_ env x).Nm Q:=by
 cases x with
 |tmp t=>exact hx t (by simp[jJ])
 |const v=>simp only[a_];cases v<;>simp[EA,AV.Nm];(try split)<;>simp[AV.Nm]
 |global _=>simp[a_,AV.Nm]
 |func f=>simp[a_,AV.Nm]
def Oy{Q:Nat->Prop}{l:List Operand}(hx:∀t∈l.flatMap jJ,(aA t env).Nm Q):AV.lW Q (l.map (a_ env)):=by
 induction l with
 |nil=>simp[AV.lW]
 |cons x l ih=>
  simp only[zav,AV.lW];exact⟨pz λt ht=>hx t (by simp[ht]),ih λt ht=>hx t (zbx.2 (by obtain⟨y,hy,Nb⟩:=zbx.1 ht;exact⟨y,rQ,Nb⟩))⟩
def PR{k:PK}(hk:(k.still||k.al)=false):∀t∈k.reads,(aA t env).Nm (· ∈k.reach env σ):=by
 refine Vf (P:=(· ∈k.reach env σ)) λi hi=>?_
 unfold PK.reach;rw[hk];cases k<;>first|exact hi|exact zax.2 (.inl hi)
def aiv(hΓ:Sound P Γ){k:PK}(hk:k.dk Γ=true){K:AV->aw->Prop}(h:ia Γ env σ k K):
 Ku (· ∈k.reach env σ) (k.turns Γ) (λQ=>∀t∈k.reads,(aA t env).Nm Q) σ (λσ K=>ia Γ env σ k K) K:=by
 by_cases iq:k.still=true
 ·obtain⟨v,h1,h2⟩:=PF hΓ iq σ h;exact Ku.quiet h1 λσ' K' _ hk=>h2 σ' K' hk
 by_cases s9:k.al=true
 ·cases k with
  |alloc e z=>
   simp only[ia]at h ⊢;obtain⟨cs,h1,h2⟩:=CL _ _ h;have pH:=lz _ _ (h2 (λt=>t=cs) rfl);have h3:=bR _ _ _ (cW _ _ h1);refine Ku.push h3 (λQ _=>by rw[<-pH];exact YG _) λσ' K' hk=>h2 _ (wm _ _ (rT _ _ _ ?_))
   simp only[Bj,rC]at hk;exact hk
  |box e x=>
   simp only[ia,dH]at h ⊢;obtain⟨cs,h1,hn,h2⟩:=PA _ h;have h3:=bR _ _ _ (cW _ _ h1);refine Ku.push h3 (λQ hQ=>hn Q (pz hQ)) λσ' K' hk=>h2 _ (wm _ _ (rT _ _ _ ?_))
   simp only[Bj,rC]at hk;exact hk
  |_=>cases s9
 have hsa:(k.still||k.al)=false:=by
  cases h1:k.still with
  |true=>exact absurd h1 iq
  |false=>cases h2:k.al with
   |true=>exact absurd h2 s9
   |false=>rfl
 have hr:=PR (env:=env) (σ:=σ) hsa;by_cases hp:k.pure Γ=true
 ·obtain⟨v,h1,h2⟩:=NN hΓ env hp _ h;refine Ku.quiet h1 λσ' K' hs hk=>?_
  have h3:=adU hΓ hs hp (λt ht=>UK _ (hr t ht)) (K:=λx=>x=v) (h2 (λx _=>x=v) rfl);obtain⟨v',rfl,h5⟩:=NN hΓ env hp _ h3;exact h5 K' hk
 simp only[PK.dk,hp,iq,s9,Bool.false_or,Bool.or_false]at hk;cases k with
 |store n x v=>
  simp only[ia,dH]at h ⊢;exact W7 (pz λt ht=>hr t ig) (pz λt ht=>hr t ig) (λQ hQ=>pz λt ht=>hQ t ig) h
 |app e sz bytes x y=>
  simp only[ia,dH]at h ⊢;obtain⟨s,ys,h1,h2⟩:=X9 (A:=(· ∈(PK.app e sz bytes x y).reach env σ)) (pz λt ht=>hr t ig) h;cases hs:Nat.beq s sz with
  |false=>simp only[hs]at h1
  |true=>
   simp only[hs]at h1;obtain⟨v,sh,us,ps,g0,g1,g2,g3,g4⟩:=abp (A:=(· ∈(PK.app e sz bytes x y).reach env σ)) (N:=λQ=>∀t∈(PK.app e sz bytes x y).reads,(aA t env).Nm Q) (pz λt ht=>hr t ig) h1;refine⟨v,sh,us,ps,g0,g1,g2,g3,λσ' K' q7 hk=>h2 σ' _ q7 ?_⟩;simp only[hs];exact g4 σ' K' q7 hk
 |bslP e sz l=>
  have hl:AV.lW (· ∈(PK.bslP e sz l).reach env σ) (l.map (a_ env)):=Oy λt ht=>hr t ht
  simp only[ia,EO]at h ⊢;obtain⟨xs,⟨h0,h1⟩,h2⟩:=TT hl h;obtain⟨us,e1,e2,e3⟩:=Kz _ _ _ hl h1;have h3:=bR _ _ _ (cW _ _ e1);rw[gy]at h3;refine⟨.own σ.length,true,us,[.row e sz true xs],λh=>cI,h3,λu hu=>⟨rfl,(e2 u hu).1,(e2 u hu).2.1⟩,λQ _ _=>⟨λu hu=>?_,λb hb=>by simp at hb;subst hb;trivial⟩,λσ' K' hs hk=>h2 σ' _ hs ⟨h0,?_⟩⟩
  ·obtain⟨_,_,x,hx⟩:=e2 u hu;rw[hx];trivial
  ·refine e3 σ' _ hs (wm _ _ (rT _ _ _ ?_));rw[gy];simp only[Un,Bj,rC]at hk;exact hk
 |look c x y=>
  simp only[ia,dH]at h ⊢;exact XO (pz λt ht=>hr t ig) h
 |cpy sz x y=>
  simp only[ia,dH]at h ⊢;obtain⟨s,ys,h1,h2⟩:=X9 (A:=(· ∈(PK.cpy sz x y).reach env σ)) (pz λt ht=>hr t ig) h;cases hs:Nat.beq s sz with
  |false=>simp only[hs]at h1
  |true=>
   simp only[hs]at h1;obtain⟨v,sh,us,ps,g0,g1,g2,g3,g4⟩:=Rh (A:=(· ∈(PK.cpy sz x y).reach env σ)) (N:=λQ=>∀t∈(PK.cpy sz x y).reads,(aA t env).Nm Q) (pz λt ht=>hr t ig) h1;refine⟨v,sh,us,ps,g0,g1,g2,g3,λσ' K' q7 hk=>h2 σ' _ q7 ?_⟩;simp only[hs];exact g4 σ' K' q7 hk
 |cpyS x y=>
  simp only[ia,dH]at h ⊢;cases hy:a_ env y with
  |pv p=>
   rw[hy]at h;cases p with
   |str l=>
    simp only at h ⊢;exact Rh (pz λt ht=>hr t ig) h
   |_=>exact h.elim
  |_=>rw[hy]at h;exact h.elim
 |slcR sz x lo hi=>
  simp only[ia,dH,S4]at h ⊢;exact adP (pz λt ht=>hr t ig) h
 |mkf f gB=>
  simp only[zbw]at hk;simp only[ia,EO,hk]at h ⊢
  let A0:=SG env (PK.mkf f gB).reads
  have hA0:AV.lW (· ∈A0) (gB.map (a_ env)):=Oy λt ht=>Vf (P:=(· ∈A0)) (λi hi=>hi) t ht
  have asq:(PK.mkf f gB).reach env σ=A0++Gz σ A0:=by unfold PK.reach;rw[hsa]
  have sM:∀(l:List AV) (τ:aw) (K:List PV->aw->Prop),AV.lW (· ∈A0) l->(∀j,j∈A0→∀e cs,τ[j]?=some (.box e cs)->AV.lW (· ∈A0++Gz σ A0) cs)->vZ l τ K->
   ∃xs us,K xs (oW us τ)/\Fzs (· ∈A0++Gz σ A0) τ us∧∀(σ':aw) (K':List PV->aw->Prop),Sub (· ∈A0++Gz σ A0) τ σ'->K' xs (oW us σ')->vZ l σ' K':=by
   intro l
   induction l with
   |nil=>intro τ K _ _ h;exact⟨[],[],h,λu hu=>jt,λ_ _ _ hk=>hk⟩
   |cons a l ih=>
    intro τ K hn hc h;simp only[AV.lW]at hn;cases a with
    |ref id i off=>
     have hi:id∈A0:=by simpa only[AV.Nm]using hn.1
     have Gt:id∈A0++Gz σ A0:=zax.2 (.inl hi);obtain⟨b,h1,h2⟩:=az _ _ _ h;have aS:=(zaa.1 h1).1;cases b with
     |box e cs=>
      cases off with
      |succ o=>exact h2.elim
      |zero=>
       have pH:=hc id hi e cs h1;obtain⟨t,h3,h4⟩:=TT pH h2;obtain⟨x,h5,h6⟩:=S8 t _ h3;obtain⟨us,h7,h8,h9⟩:=Kz cs τ _ pH h5;obtain⟨M7,Sv⟩:=bu _ _ _ _ h7;have hz:Fzs (· ∈A0++Gz σ A0) τ (us++[(id,cu.fz (.cptr x))]):=h8.app λu hu=>by
        simp at hu;subst hu;exact⟨Gt,M7,_,rfl⟩
       have hc':∀j,j∈A0→∀e cs,(oW (us++[(id,cu.fz (.cptr x))]) τ)[j]?=some (.box e cs)->AV.lW (· ∈A0++Gz σ A0) cs:=by
        intro j hj e' T7 hb;by_cases hin:∃u∈us++[(id,cu.fz (.cptr x))],u.1=j
        ·exfalso;have:∀(us:List (Nat×cu)) (τ:aw),(∀u∈us,∃x,u.2=.fz x)->(∃u∈us,u.1=j)→∀e cs,(oW us τ)[j]?≠some (.box e cs):=by
          intro us
          induction us with
          |nil=>intro τ _ ⟨u,hu,_⟩;cases hu
          |cons u us ih=>
           intro τ hf hex e cs hb;by_cases h':∃u∈us,u.1=j
           ·exact ih _ (λv hv=>hf v (by simp[hv])) h' e cs hb
           ·have x6:(oW us (τ.set u.1 u.2))[j]?=some (.box e cs):=hb;rw[u7 us _ j λv hv e=>h' ⟨v,hv,e⟩]at x6;obtain⟨v,hv,rfl⟩:=hex;rcases zay.1 hv with rfl|hv
            ·rw[zaR]at x6;simp only[if_true]at x6;obtain⟨x,hx⟩:=hf v ae;rw[hx]at x6;split at x6<;>cases x6
            ·exact h' ⟨v,hv,rfl⟩
         exact this _ τ (λu hu=>(hz u hu).2.2) hin e' T7 hb
        ·rw[u7 _ _ _ λu hu e=>hin ⟨u,hu,e⟩]at hb;exact hc j hj e' T7 hb
       rw[show(oW us τ).set id (.fz (.cptr x))=oW (us++[(id,cu.fz (.cptr x))]) τ from(nR us [(id,cu.fz (.cptr x))] τ).symm]at Sv;obtain⟨xs,vs,VL,h13,h14⟩:=ih _ _ hn.2 hc' Sv;refine⟨_,(us++[(id,cu.fz (.cptr x))])++vs,by rw[nR];exact VL,hz.app h13,λσ' K' hs hk=>?_⟩;have VM:=hs id _ Gt h1;refine cr _ _ _ _ VM (h4 σ' _ hs (h6 _ (h9 σ' _ hs (wE _ _ _ _ (by rw[gy];exact(zaa.1 VM).1) ?_))));rw[show(oW us σ').set id (.fz (.cptr x))=oW (us++[(id,cu.fz (.cptr x))]) σ' from(nR us [(id,cu.fz (.cptr x))] σ').symm];exact h14 _ _ (HF hs _) (by rw[<-nR];exact hk)
     |fz x=>
      cases off with
      |succ o=>exact h2.elim
      |zero=>
       cases x with
       |cptr y=>
        obtain⟨xs,vs,VL,h13,h14⟩:=ih τ _ hn.2 hc h2;exact⟨_,vs,VL,h13,λσ' K' hs hk=>cr _ _ _ _ (hs id _ Gt h1) (h14 σ' _ hs hk)⟩
       |_=>exact h2.elim
     |_=>exact h2.elim
    |pv x=>
     cases x with
     |cptr y=>
      obtain⟨xs,vs,VL,h13,h14⟩:=ih τ _ hn.2 hc h;exact⟨_,vs,VL,h13,λσ' K' hs hk=>h14 σ' _ hs hk⟩
     |_=>exact h.elim
    |_=>exact h.elim
  obtain⟨xs,us,g1,g2,g3⟩:=sM _ _ _ hA0 (λj hj e cs pH=>acw (P:=(· ∈A0++Gz σ A0)) (λi hi=>zax.2 (.inr hi)) j hj e cs pH) h;rw[asq];refine⟨.pv (.clo f xs),false,us,[],λ_=>rfl,by rw[zaY];exact g1,λu hu=>⟨rfl,(g2 u hu).1,(g2 u hu).2.1⟩,λQ _ _=>⟨λu hu=>?_,λb hb=>jn⟩,λσ' K' hs hk=>?_⟩
  ·obtain⟨_,_,x,hx⟩:=g2 u hu;rw[hx];trivial
  ·rw[zaY]at hk;exact g3 σ' _ hs hk
 |call f l=>
  have hdt:(Γ f).dt=true:=hk;have hfn:(Γ f).fn=false:=by
   cases hf:(Γ f).fn with
   |true=>exact absurd (show(PK.call f l).pure Γ=true from hf) hp
   |false=>rfl
  obtain⟨L0,LY⟩:=(Γ f).hdt hdt;have hl:AV.lW (· ∈(PK.call f l).reach env σ) (l.map (a_ env)):=Oy λt ht=>hr t ht
  simp only[ia,EO,BA,L0]at h ⊢;obtain⟨ps,h1,h2⟩:=TT hl h;cases EG:(Γ f).lone with
  |true=>
   simp only[EG]at h1;obtain⟨r,h3,h4⟩:=LY _ _ h1;obtain⟨v,bs,g1,g2,g3,g4⟩:=Zo r σ K h3;refine⟨v,true,[],bs,λh=>cI,g1,λu hu=>jt,λQ _ _=>⟨λu hu=>jt,λb hb=>g2 b hb Q⟩,λσ' K' hs hk=>h2 σ' _ hs ?_⟩;exact h4 _ (g4 σ' K' hk)
  |false=>
   simp only[EG]at h1;obtain⟨us,e1,e2,e3⟩:=Kz _ _ _ hl h1;obtain⟨r,h3,h4⟩:=LY _ _ e1;obtain⟨v,bs,g1,g2,g3,g4⟩:=Zo r _ K h3;rw[gy]at g4;refine⟨v,true,us,bs,λh=>cI,g1,λu hu=>⟨by simp[PK.turns,hfn,EG],(e2 u hu).1,(e2 u hu).2.1⟩,λQ _ _=>⟨λu hu=>?_,λb hb=>g2 b hb Q⟩,λσ' K' hs hk=>h2 σ' _ hs ?_⟩
   ·obtain⟨_,_,x,hx⟩:=e2 u hu;rw[hx];trivial
   ·exact e3 σ' _ hs (h4 _ (g4 _ K' (by rw[gy];exact hk)))
 |_=>cases hk
def YN(hΓ:Sound P Γ){o:PO}(hk:o.k.dk Γ=true){K:Env->aw->Prop}(h:gq Γ o env σ K):
 ∃(v:AV) (sh:Bool) (us:List (Nat×cu)) (ps:List cu),(sh=false->ps=[])/\K (put o.dst v env) (oW us σ++ps)/\(∀u∈us,o.k.turns Γ=true/\u.1∈o.k.reach env σ/\u.1<σ.length)/\
  (∀Q:Nat->Prop,(∀t∈o.reads,(aA t env).Nm Q)->(∀j b,j∈o.k.reach env σ->σ[j]?=some b->b.Nm Q)->(∀u∈us,u.2.Nm Q)∧∀b∈ps,b.Nm Q)/\
  ∀(au:Env) (σ':aw) (K':Env->aw->Prop),(∀t∈o.reads,aA t au=aA t env)->Sub (· ∈o.k.reach env σ) σ σ'->K' (put o.dst (Un sh σ.length σ'.length v) au) (oW us σ'++ps)->gq Γ o au σ' K':=by
 obtain⟨d,g,k⟩:=o;have run:ia Γ env σ k (λv σ=>K (put d v env) σ)→∃(v:AV) (sh:Bool) (us:List (Nat×cu)) (ps:List cu),(sh=false->ps=[])/\K (put d v env) (oW us σ++ps)/\(∀u∈us,k.turns Γ=true/\u.1∈k.reach env σ/\u.1<σ.length)/\
  (∀Q:Nat->Prop,(∀t∈k.reads,(aA t env).Nm Q)->(∀j b,j∈k.reach env σ->σ[j]?=some b->b.Nm Q)->(∀u∈us,u.2.Nm Q)∧∀b∈ps,b.Nm Q)/\
  ∀(au:Env) (σ':aw) (K':Env->aw->Prop),(∀t∈k.reads,aA t au=aA t env)->Sub (· ∈k.reach env σ) σ σ'->K' (put d (Un sh σ.length σ'.length v) au) (oW us σ'++ps)->ia Γ au σ' k (λv σ=>K' (put d v au) σ):=by
  intro h;obtain⟨v,sh,us,ps,h0,h1,h2,h3,h4⟩:=aiv hΓ hk h;refine⟨v,sh,us,ps,h0,h1,h2,h3,λau σ' K' hr hs hk=>?_⟩;rw[E5 hr];exact h4 σ' _ hs hk
 have off:K (put d (.pv (.tup [])) env) σ->(∀(au:Env) (σ':aw) (K':Env->aw->Prop),(∀t∈PO.reads ⟨d,g,k⟩,aA t au=aA t env)->K' (put d (.pv (.tup [])) au) σ'->gq Γ ⟨d,g,k⟩ au σ' K')->
  ∃(v:AV) (sh:Bool) (us:List (Nat×cu)) (ps:List cu),(sh=false->ps=[])/\K (put d v env) (oW us σ++ps)/\(∀u∈us,k.turns Γ=true/\u.1∈k.reach env σ/\u.1<σ.length)/\
  (∀Q:Nat->Prop,(∀t∈PO.reads ⟨d,g,k⟩,(aA t env).Nm Q)->(∀j b,j∈k.reach env σ->σ[j]?=some b->b.Nm Q)->(∀u∈us,u.2.Nm Q)∧∀b∈ps,b.Nm Q)/\
  ∀(au:Env) (σ':aw) (K':Env->aw->Prop),(∀t∈PO.reads ⟨d,g,k⟩,aA t au=aA t env)->Sub (· ∈k.reach env σ) σ σ'->K' (put d (Un sh σ.length σ'.length v) au) (oW us σ'++ps)->gq Γ ⟨d,g,k⟩ au σ' K':=by
  intro h1 h2;exact⟨_,false,[],[],λ_=>rfl,by rw[zaY];exact h1,λu hu=>jt,λQ _ _=>⟨λu hu=>jt,λb hb=>jn⟩,λau σ' K' hr _ hk=>h2 au σ' K' hr vQ⟩
 cases g with
 |none=>
  obtain⟨v,sh,us,ps,h0,h1,h2,h3,h4⟩:=run h;exact⟨v,sh,us,ps,h0,h1,h2,λQ hQ=>h3 Q λt ht=>hQ t yV,λau σ' K' hr hs hk=>h4 au σ' K' (λt ht=>hr t yV) hs hk⟩
 |some p=>
  obtain⟨g,want⟩:=p;unfold gq at h;simp only at h;have hg:∀au:Env,(∀t∈PO.reads ⟨d,some (g,want),k⟩,aA t au=aA t env)->aA g au=aA g env:=λau hr=>hr g (by simp[PO.reads])
  cases hv:aA g env with
  |pv x=>
   rw[hv]at h;cases x with
   |bool b=>
    simp only at h;cases hb:(b==want)with
    |true=>
     rw[hb]at h;obtain⟨v,sh,us,ps,h0,h1,h2,h3,h4⟩:=run h;refine⟨v,sh,us,ps,h0,h1,h2,λQ hQ=>h3 Q λt ht=>hQ t yV,λau σ' K' hr hs hk=>?_⟩;unfold gq;simp only[hg au hr,hv,hb];exact h4 au σ' K' (λt ht=>hr t yV) hs hk
    |false=>
     rw[hb]at h;refine off h λau σ' K' hr hk=>?_
     unfold gq;simp only[hg au hr,hv,hb];exact hk
   |tup l=>
    refine off h λau σ' K' hr hk=>?_
    unfold gq;simp only[hg au hr,hv];exact hk
   |_=>exact h.elim
  |_=>rw[hv]at h;exact h.elim
structure Rc where
 v:AV
 sh:Bool
 us:List (Nat×cu)
 ps:List cu
structure Stp(Γ:Ctx)(o:PO)(A:List Nat)(env:Env)(σ:aw)(c:Rc)(au:Env)(σ':aw):Prop where
 LL:c.sh=false->c.ps=[]
 he:au=put o.dst c.v env
 hs:σ'=oW c.us σ++c.ps
 hu:∀u∈c.us,o.k.turns Γ=true/\u.1∈A/\u.1<σ.length
 nam:∀Q:Nat->Prop,(∀t∈o.reads,(aA t env).Nm Q)->(∀j b,j∈A->σ[j]?=some b->b.Nm Q)->(∀u∈c.us,u.2.Nm Q)∧∀b∈c.ps,b.Nm Q
 run:∀(au:Env) (σ':aw),(∀t∈o.reads,aA t au=aA t env)->Sub (· ∈A) σ σ'→∃K0:Env->aw->Prop,gq Γ o au σ' K0/\
  ∀(cx:Cx) (qX:Env) (σ2:aw) (vals:List Value) (a:Act) (w:World),K0 qX σ2->Rel cx qX σ2 vals a w->Rel cx (put o.dst (Un c.sh σ.length σ'.length c.v) au) (oW c.us σ'++c.ps) vals a w
def entry(o:PO)(A:List Nat)(au:Env)(σ':aw):Lg:=(σ'.length,A,(match o.dst with|some d=>(Iw d au).ids|none=>[]))
def Y2(hΓ:Sound P Γ){K:List Lg->Env->aw->Prop}(d:PO):∀(ops:List PO) (log:List Lg) (env:Env) (σ:aw),(∀o∈ops,o.k.dk Γ=true)->vcD Γ K ops log env σ->
 ∃(A:Nat->List Nat) (E:Nat->Env) (S:Nat->aw) (R:Nat->Rc),E 0=env/\S 0=σ/\K (((List.range ops.length).map λi=>entry (ops.getD i d) (A i) (E (i+1)) (S (i+1))).reverse++log) (E ops.length) (S ops.length)/\
  ∀i,i<ops.length->Stp Γ (ops.getD i d) (A i) (E i) (S i) (R i) (E (i+1)) (S (i+1)):=by
 intro ops
 induction ops with
 |nil=>intro log env σ _ h;exact⟨λ_=>[],λ_=>env,λ_=>σ,λ_=>⟨.bad,false,[],[]⟩,rfl,rfl,h,λi hi=>ry⟩
 |cons o ops ih=>
  intro log env σ hd h;have h':gq Γ o env σ λau σ'=>match mq σ' with
   |false=>vcD Γ K ops ((σ'.length,o.k.reach env σ,(match o.dst with|some d=>(Iw d au).ids|none=>[]))::log) au σ'
   |true=>∃nm:Option (Nat×Nat),Ur nm o.dst env au σ σ' λtX ex=>vcD Γ K ops ((σ'.length,o.k.reach env σ++ex,(match o.dst with|some d=>(Iw d tX).ids|none=>[]))::log) tX σ':=by
   rw[<-DV];exact h
  obtain⟨v,sh,us,ps,h0,h1,h2,h3,h4⟩:=YN hΓ (hd o ae) h';have key:∃(A:List Nat) (c:Rc) (Bb:Env) (σ1:aw),Stp Γ o A env σ c Bb σ1/\vcD Γ K ops (entry o A Bb σ1::log) Bb σ1:=by
   have raw:∀ex:List Nat,Stp Γ o (o.k.reach env σ++ex) env σ ⟨v,sh,us,ps⟩ (put o.dst v env) (oW us σ++ps):=λex=>
    ⟨h0,rfl,rfl,λu hu=>⟨(h2 u hu).1,zax.2 (.inl (h2 u hu).2.1),(h2 u hu).2.2⟩,λQ q1 q2=>h3 Q q1 λj b hj=>q2 j b (zax.2 (.inl hj)),λau σ' q1 q2=>⟨λe s=>e=put o.dst (Un sh σ.length σ'.length v) au/\s=oW us σ'++ps,h4 au σ' _ q1 (λi b hi hb=>q2 i b (zax.2 (.inl hi)) hb) ⟨rfl,rfl⟩,λcx e2 s2 vals a w hk hr=>by rw[<-hk.1,<-hk.2];exact hr⟩⟩
   cases hp:mq (oW us σ++ps)with
   |false=>
    rw[hp]at h1;refine⟨o.k.reach env σ++[],_,_,_,raw [],?_⟩;rw[zaY];exact h1
   |true=>
    rw[hp]at h1;obtain⟨nm,h1⟩:=h1;cases nm with
    |none=>exact⟨o.k.reach env σ++[],_,_,_,raw [],h1⟩
    |some p=>
     obtain⟨q,n⟩:=p;cases L2:o.dst with
     |none=>rw[L2]at h1;exact CO
     |some t=>
      have h1:Ur (some (q,n)) (some t) env (put o.dst v env) σ (oW us σ++ps) λtX ex=>vcD Γ K ops (((oW us σ++ps).length,o.k.reach env σ++ex,(match o.dst with|some d=>(Iw d tX).ids|none=>[]))::log) tX (oW us σ++ps):=by rw[L2]at h1 ⊢;exact h1
      unfold Ur at h1;simp only at h1;have h1:=qZ _ _ _ h1;have XK:aA t (put o.dst v env)=v:=by
       rw[L2,fx,zbz];rfl
      rw[XK]at h1;cases v with
      |pv x=>
       cases x with
       |val hh=>
        obtain⟨c,hc,h1⟩:=az _ q _ h1;cases c with
        |pool e sz l lt=>
         obtain⟨⟨g1,g2,g3⟩,h1⟩:=h1;refine⟨o.k.reach env σ++[q,n],⟨.own n,sh,us,ps⟩,(t,.own n)::env,oW us σ++ps,?_,?_⟩
         ·have r:=raw [q,n];refine⟨r.LL,by rw[L2];rfl,rfl,r.hu,r.nam,λau σ' q1 q2=>?_⟩;obtain⟨K0,k1,k2⟩:=r.run au σ' q1 q2;refine⟨K0,k1,λcx e2 s2 vals a w hk hr=>?_⟩;have qH:=k2 cx e2 s2 vals a w hk hr;rw[L2]at qH ⊢;have e1:Un sh σ.length σ'.length (.pv (.val hh))=.pv (.val hh):=by cases sh<;>rfl
          have e2:Un sh σ.length σ'.length (.own n)=.own n:=by
           cases sh with
           |false=>rfl
           |true=>simp only[Un,Bj];rw[show VB σ.length σ'.length n=n from if_pos g3]
          rw[show(Rc.mk (.pv (.val hh)) sh us ps).sh=sh from rfl]at qH;simp only at qH ⊢;rw[e1]at qH;rw[e2];refine Rel.name (q:=q) (e:=e) (sz:=sz) (l:=l) qH ?_ g1;have hs:σ'[q]?=σ[q]?:=by
           rw[zak g2];exact q2 q _ (zax.2 (.inr ae)) (zak g2)
          have hl:q<(oW us σ).length:=by rw[gy];exact g2
          rw[zar hl]at hc;have hg:=NC us σ' σ q hs;have Sc:q<(oW us σ').length:=by rw[gy];exact(zaa.1 (hs.trans (zak g2))).1
          rw[zar Sc,hg];exact hc
         ·have h1:=h1;unfold entry;rw[L2]at h1 ⊢;exact h1
        |_=>exact CO
       |_=>exact CO
      |_=>exact CO
  obtain⟨A0,c,Bb,σ1,iq,h1⟩:=key;obtain⟨A,E,S,R,e1,e2,e3,e4⟩:=ih _ _ _ (λx hx=>hd x kG) h1;refine⟨λi=>match i with|0=>A0|i+1=>A i,λi=>match i with|0=>env|i+1=>E i,λi=>match i with|0=>σ|i+1=>S i,λi=>match i with|0=>c|i+1=>R i,rfl,rfl,?_,λi hi=>?_⟩
  ·simp only[zap];rw[List.range_succ_eq_map,zav,List.map_map,List.reverse_cons,zah];simp only[zbN,e1,e2];exact e3
  ·cases i with
   |zero=>simp only[zbN,e1,e2];exact iq
   |succ i=>simp only[List.getD_cons_succ];exact e4 i (by simpa using hi)
end
end
end Go.Dv
namespace Go.Dv
open Go.RowKit
section
section
variable {cx:Cx} {env:Env} {σ:aw} {vals:List Value} {a:Act} {w w':World} {n:Nat} {Γ:Ctx} {ops:Array Oper}
def Mf(hr:Rel cx env σ vals a w)(k:Nat):∃an,Rel cx env (σ++List.replicate k .dead) an a w:=by
 obtain⟨h1,h2⟩:=hr.s.SZ (Below.refl _ w) (List.replicate k .dead) (List.replicate k (.bool false)) ae (by intro u hu;rw[zbr hu];rfl) (by intro u hu b hb;rw[zbr hu]at hb;cases hb)
  (by intro i j u t b _ hu _ hb;rw[zbr (zad hu)]at hb;cases hb)
  (by intro _ i s u hs hu;rw[zbr (zad hs)];trivial)
  (by intro s hs v b h;rw[zbr hs]at h;cases h)
 exact⟨_,h1,λp=>h2.ra _ _ (hr.env p),hr.defers,λx v hq=>h2.ra _ _ (hr.gh x v hq),hr.lo⟩
def vn(N b k:Nat):List Nat:=(List.range N).map λj=>if j<b then j else if j<b+k then N+(j-b)else j
def q3{N b k j:Nat}(h:j<N):(vn N b k)[j]?=some (if j<b then j else if j<b+k then N+(j-b)else j):=by
 unfold vn;rw[zbC,zbM h];rfl
def L6(N b k:Nat):(vn N b k).length=N:=by simp[vn]
def QH{N b k:Nat}(h:b+k<=N):(vn N b k).Nodup:=by
 unfold vn;unfold List.Nodup;rw[List.pairwise_map];refine List.Pairwise.imp_of_mem (λ{x y} hx hy hxy=>?_) zbT;have hx:=zbo.1 hx;have hy:=zbo.1 hy;have hxy:x≠y:=hxy;show(if x<b then x else if x<b+k then N+(x-b)else x)≠(if y<b then y else if y<b+k then N+(y-b)else y)
 (repeat' split)<;>omega
def auS{ps:List cu}{qX:Env}{N b:Nat}(hr:Rel cx env (σ++ps) vals a w)(hN:σ.length=N)(hb:b+ps.length<=N)(hp:∀j,j<cx.rY.length\/j<cx.ET.length->j<b)
 (L3:∀t,Ren (vn N b ps.length) (aA t env) (aA t qX)) (hσ:∀s∈σ,s.Nm λi=>i<N∧¬(b<=i/\i<b+ps.length)) (Pg:∀s∈ps,s.Nm λi=>i<N∧¬(b<=i/\i<b+ps.length))
 (VK:∀x v,cx.gh x v->x.Nm λi=>i<N∧¬(b<=i/\i<b+ps.length)):
 ∃an,Rel cx qX (σ.take b++ps++σ.drop (b+ps.length)) an a w:=by
 have aCJ:(σ.take b++ps++σ.drop (b+ps.length)).length=N:=aT;have KY:∀i,(i<N∧¬(b<=i/\i<b+ps.length))->(vn N b ps.length)[i]?=some i:=by
  intro i hi;rw[q3 hi.1];by_cases h:i<b
  ·rw[if_pos h]
  ·rw[if_neg h,if_neg aa]
 have h2:∀(j i:Nat),(vn N b ps.length)[j]?=some i→∃s t,(σ++ps)[i]?=some s/\(σ.take b++ps++σ.drop (b+ps.length))[j]?=some t/\vC (vn N b ps.length) s t:=by
  intro j i hj;have aS:j<N:=by rw[<-L6 N b ps.length];exact(zaa.1 hj).1
  rw[q3 aS]at hj;injection hj with hj
  by_cases h:j<b
  ·rw[if_pos h]at hj;subst hj;have h1:σ[j]?=some σ[j]:=zak aa;refine⟨σ[j],σ[j],by rw[zar aa];exact h1,?_,FE _ (cu.fU KY _ (hσ _ (zad h1)))⟩;rw[zar aT,zar aT,zaI,if_pos h];exact h1
  ·rw[if_neg h]at hj;by_cases h':j<b+ps.length
   ·rw[if_pos h']at hj;subst hj;have h1:ps[j-b]?=some ps[j-b]:=zak aa;refine⟨ps[j-b],ps[j-b],?_,?_,FE _ (cu.fU KY _ (Pg _ (zad h1)))⟩
    ·rw[zam aa,show N+(j-b)-σ.length=j-b by omega];exact h1
    ·rw[zar aT,zam aT];rw[show j-(σ.take b).length=j-b by simp;omega];exact h1
   ·rw[if_neg h']at hj;subst hj;have h1:σ[j]?=some σ[j]:=zak aa;refine⟨σ[j],σ[j],by rw[zar aa];exact h1,?_,FE _ (cu.fU KY _ (hσ _ (zad h1)))⟩;rw[zam aT,zaH];rw[show b+ps.length+(j-(σ.take b++ps).length)=j by simp;omega];exact h1
 obtain⟨an,hA,q7,ep⟩:=RM (r:=vn N b ps.length) (λj hj=>by have:=hp j hj;rw[q3 aa,if_pos this]) (QH hb) (by rw[L6];exact aCJ) h2 hr.s;exact⟨an,q7,λp=>Ren.ra hA ep _ _ _ (L3 p) (hr.env p),hr.defers,λx v hq=>Ren.ra hA ep _ _ _ (x7 x (fU KY x (VK x v hq))) (hr.gh x v hq),hr.lo⟩
structure qW(Γ:Ctx)(ops:Array Oper)(f:Nat->PO)(aft bs A:Nat->List Nat)(E:Nat->Env)(S:Nat->aw)(R:Nat->Rc):Prop where
 SH:∀(i:Nat) (o:Oper),ops[i]?=some o→∀j∈aft i,∃e∈o.after,Region.binds .any e=true/\e.on=j
 back:∀(i:Nat) (o:Oper),ops[i]?=some o→∀e∈o.after,Region.binds .any e=true->e.on∈aft i
 lt:∀i,i<ops.size→∀j∈aft i,j<i
 bef:∀i,i<ops.size→∀j∈bs i,j∈aft i∨∃e∈aft i,j∈bs e
 stp:∀i,i<ops.size->Stp Γ (f i) (A i) (E i) (S i) (R i) (E (i+1)) (S (i+1))
 low:∀i,i<ops.size→∀d,(f i).dst=some d→∀x∈(R i).v.ids,x<(S (i+1)).length
 chk:∀i j,i<ops.size->j<i->j∈bs i\/(DY (f j) (f i)=false/\
  (∀x∈A i,¬((f j).k.turns Γ=true/\x∈A j)∧¬((S j).length<=x/\x<(S (j+1)).length))/\
  (∀x∈A j,¬((f i).k.turns Γ=true/\x∈A i)∧¬((S i).length<=x/\x<(S (i+1)).length))/\
  ∀d,(f i).dst=some d→∀x∈(R i).v.ids,¬((S j).length<=x/\x<(S (j+1)).length))
section dyn
variable {f:Nat->PO} {aft bs A:Nat->List Nat} {E:Nat->Env} {S:Nat->aw} {R:Nat->Rc}
def qW.ano(hD:qW Γ ops f aft bs A E S R){i:Nat}(hi:i<ops.size):(S (i+1)).length=(S i).length+(R i).ps.length:=by
 rw[(hD.stp i hi).hs,zae,gy]
def qW.Gi(hD:qW Γ ops f aft bs A E S R){i:Nat}:∀k,i+k<=ops.size->(S i).length<=(S (i+k)).length:=by
 intro k
 induction k with
 |zero=>intro _;exact zaj _
 |succ k ih=>
  intro h;have:=hD.ano (i:=i+k) aa;have:=ih aa;show _<=(S (i+k+1)).length;omega
def qW.M(_:qW Γ ops f aft bs A E S R)(i x:Nat):Prop:=((f i).k.turns Γ=true/\x∈A i)\/((S i).length<=x/\x<(S (i+1)).length)
def qW.Fa(hD:qW Γ ops f aft bs A E S R)(t:Nat){m:Nat}:∀k,m+k<=ops.size->(∀p,m<=p->p<m+k->(f p).dst≠some t)->aA t (E (m+k))=aA t (E m):=by
 intro k
 induction k with
 |zero=>intro _ _;rfl
 |succ k ih=>
  intro h hp;show aA t (E (m+k+1))=_;rw[(hD.stp (m+k) aa).he];have h1:=hp (m+k) aa aa;rw[<-ih aa λp h2 h3=>hp p h2 aa];cases hd:(f (m+k)).dst with
  |none=>rfl
  |some d=>
   rw[fx,Oj (λe=>h1 (by rw[hd,e]))];rfl
def qW.Y4(hD:qW Γ ops f aft bs A E S R){i j:Nat}(hi:i<ops.size)(hj:¬hD.M i j):((S (i+1))[j]?).getD .dead=((S i)[j]?).getD .dead:=by
 have hl:=hD.ano hi;unfold qW.M at hj;rw[(hD.stp i hi).hs];by_cases h:j<(S i).length
 ·rw[zar (by rw[gy];exact h),u7];intro u hu e;obtain⟨h1,h2,_⟩:=(hD.stp i hi).hu u hu;exact hj (.inl ⟨h1,e▸h2⟩)
 ·rw[zaK (by rw[zae,gy];omega),zaK aa]
def qW.Fg(hD:qW Γ ops f aft bs A E S R)(j:Nat){m:Nat}:∀k,m+k<=ops.size->(∀p,m<=p->p<m+k→¬hD.M p j)->((S (m+k))[j]?).getD .dead=((S m)[j]?).getD .dead:=by
 intro k
 induction k with
 |zero=>intro _ _;rfl
 |succ k ih=>
  intro h hp;rw[<-ih aa λp h2 h3=>hp p h2 aa];exact hD.Y4 (i:=m+k) aa (hp _ aa aa)
structure Ivt(hD:qW Γ ops f aft bs A E S R)(l:Nat->Bool)(env:Env)(σ:aw):Prop where
 len:σ.length=(S ops.size).length
 slot:∀t m,m<=ops.size->(∀p,p<ops.size->(f p).dst=some t->(p<m↔l p=true))->aA t env=aA t (E m)
 XH:∀j m,j<(S ops.size).length->m<=ops.size->(∀p,p<ops.size->hD.M p j->(p<m↔l p=true))->σ[j]?=some (((S m)[j]?).getD .dead)
 nme:∀t,(aA t env).Nm λx=>x<(S ops.size).length∧∀p,p<ops.size->l p=false→¬((S p).length<=x/\x<(S (p+1)).length)
 nms:∀b∈σ,b.Nm λx=>x<(S ops.size).length∧∀p,p<ops.size->l p=false→¬((S p).length<=x/\x<(S (p+1)).length)
def Ivt.step{hD:qW Γ ops f aft bs A E S R}{l l':Nat->Bool}(h:Ivt hD l env σ){i:Nat}(hi:i<ops.size)(hli:l i=false)(Hp:∀j∈bs i,l j=true)(KT:∀p,p<ops.size->l p=true→∀j∈bs p,l j=true)
 (hl1:l' i=true) (Sc:∀p,p≠i->l' p=l p) (z6:∀j,j<cx.rY.length\/j<cx.ET.length->j<(S 0).length) (VK:∀x v,cx.gh x v->x.Nm λi=>i<(S 0).length):
 (∀t∈(f i).reads,aA t env=aA t (E i))/\Sub (· ∈A i) (S i) σ/\
 ∀vals a w,Rel cx (put (f i).dst (Un (R i).sh (S i).length σ.length (R i).v) env) (oW (R i).us σ++(R i).ps) vals a w→∃au σ' an,Rel cx au σ' an a w/\Ivt hD l' au σ':=by
 have iq:=hD.stp i hi;have VI:=hD.ano hi;have hm1:(S (i+1)).length<=(S ops.size).length:=by have:=hD.Gi (i:=i+1) (ops.size-(i+1)) aa;rwa[show i+1+(ops.size-(i+1))=ops.size by omega]at this
 have hm0:(S 0).length<=(S i).length:=by have:=hD.Gi (i:=0) i aa;rwa[zaU]at this
 have later:∀p,p<ops.size->i<p->l p=true->i∉bs p:=λp hp _ HT hb=>by have:=KT p hp HT i hb;rw[hli]at this;cases this
 have reads:∀t∈(f i).reads,aA t env=aA t (E i):=by
  intro t ht;refine h.slot t i (Nat.le_of_lt hi) λp hp hd=>⟨λaS=>?_,λHT=>?_⟩
  ·rcases hD.chk i p hi aS with hb|⟨hc,_⟩
   ·exact Hp p hb
   ·exact absurd ht ((wL hc).1 t hd).1
  ·rcases zbE p i with h1|h1|h1
   ·exact h1
   ·subst h1;rw[hli]at HT;cases HT
   ·rcases hD.chk p i hp h1 with hb|⟨hc,_⟩
    ·exact absurd hb (later p hp h1 HT)
    ·exact absurd ht ((wL hc).2 t hd)
 have aAe:∀j∈A i,j<(S ops.size).length->σ[j]?=some (((S i)[j]?).getD .dead):=by
  intro j hj hjN;refine h.XH j i hjN (Nat.le_of_lt hi) λp hp hM=>⟨λaS=>?_,λHT=>?_⟩
  ·rcases hD.chk i p hi aS with hb|⟨_,hc,_⟩
   ·exact Hp p hb
   ·exact absurd hM P0
  ·rcases zbE p i with h1|h1|h1
   ·exact h1
   ·subst h1;rw[hli]at HT;cases HT
   ·rcases hD.chk p i hp h1 with hb|⟨_,_,hc,_⟩
    ·exact absurd hb (later p hp h1 HT)
    ·exact absurd hM P0
 have sub:Sub (· ∈A i) (S i) σ:=by
  intro j b hj hb;have aS:=(zaa.1 hb).1;rw[aAe j hj aa,hb];rfl
 refine⟨reads,sub,λvals a w hr=>?_⟩;rw[h.len]at hr;have keep:∀x,(x<(S ops.size).length∧∀p,p<ops.size->l p=false→¬((S p).length<=x/\x<(S (p+1)).length))->x<(S ops.size).length∧¬((S i).length<=x/\x<(S i).length+(R i).ps.length):=λx hx=>⟨hx.1,by rw[<-VI];exact hx.2 i hi hli⟩
 have ass:=iq.nam (λx=>x<(S ops.size).length∧∀p,p<ops.size->l p=false→¬((S p).length<=x/\x<(S (p+1)).length)) (λt ht=>by rw[<-reads t ht];exact h.nme t) (λj b hj hb=>h.nms b (zad (sub j b hj hb)));have ast:=ahw (R i).us σ ass.1 h.nms;have aCL:∀t,Ren (vn (S ops.size).length (S i).length (R i).ps.length) (aA t (put (f i).dst (Un (R i).sh (S i).length (S ops.size).length (R i).v) env)) (aA t (put (f i).dst (R i).v env)):=by
  have KY:∀x,(x<(S ops.size).length∧∀p,p<ops.size->l p=false→¬((S p).length<=x/\x<(S (p+1)).length))->(vn (S ops.size).length (S i).length (R i).ps.length)[x]?=some x:=by
   intro x hx;have hx:=keep x hx;rw[q3 hx.1];by_cases h1:x<(S i).length
   ·rw[if_pos h1]
   ·rw[if_neg h1,if_neg aa]
  intro t;cases hd:(f i).dst with
  |none=>exact x7 _ (fU KY _ (h.nme t))
  |some d=>
   rw[fx,fx];cases hdt:Nat.beq d t with
   |false=>exact x7 _ (fU KY _ (h.nme t))
   |true=>
    show Ren _ (Un _ _ _ _) _;have aAf:=hD.low i hi d hd;cases LL:(R i).sh with
    |true=>
     refine US _ ((Kh _).2 λx hx=>?_);have hx:=aAf x hx;rw[q3 aa];unfold VB;by_cases h1:x<(S i).length
     ·rw[if_pos h1,if_pos h1]
     ·rw[if_neg h1,if_neg h1,if_pos aa,Nat.add_comm]
    |false=>
     have Pg:=iq.LL LL;refine x7 _ ((Kh _).2 λx hx=>?_);have hx:=aAf x hx;rw[VI,Pg]at hx;simp only[zaZ,zaW]at hx;rw[q3 aa,if_pos hx]
 obtain⟨an,dp⟩:=auS (σ:=oW (R i).us σ) (N:=(S ops.size).length) (b:=(S i).length) hr (by rw[gy,h.len]) aa (λj hj=>by have:=z6 j hj;omega) aCL
  (λs hs=>cu.fU keep _ (ast s hs)) (λs hs=>cu.fU keep _ (ass.2 s hs)) (λx v hq=>fU (λy hy=>⟨aa,aa⟩) _ (VK x v hq))
 refine⟨_,_,an,dp,?_⟩;have hul:(oW (R i).us σ).length=(S ops.size).length:=by rw[gy,h.len]
 have aa2:∀x,(x<(S ops.size).length∧∀p,p<ops.size->l p=false→¬((S p).length<=x/\x<(S (p+1)).length))->x<(S ops.size).length∧∀p,p<ops.size->l' p=false→¬((S p).length<=x/\x<(S (p+1)).length):=by
  intro x hx;refine⟨hx.1,λp hp HT=>hx.2 p hp ?_⟩;by_cases hpi:p=i
  ·subst hpi;rw[hl1]at HT;cases HT
  ·rw[<-Sc p hpi];exact HT
 have aeN:∀j,(S i).length<=j->j<(S (i+1)).length->((oW (R i).us σ).take (S i).length++(R i).ps++(oW (R i).us σ).drop ((S i).length+(R i).ps.length))[j]?=(R i).ps[j-(S i).length]?:=by
  intro j h1 h2;rw[zar aT,zam aT];congr 1;simp;omega
 have VN:∀j,¬((S i).length<=j/\j<(S (i+1)).length)->((oW (R i).us σ).take (S i).length++(R i).ps++(oW (R i).us σ).drop ((S i).length+(R i).ps.length))[j]?=(oW (R i).us σ)[j]?:=by
  intro j h1;by_cases h2:j<(S i).length
  ·rw[zar aT,zar aT,zaI,if_pos h2]
  ·rw[zam aT,zaH];congr 1;simp;omega
 refine⟨aT,λt m hm hc=>?_,λj m hj hm hc=>?_,λt=>?_,λb hb=>?_⟩
 ·by_cases hd:(f i).dst=some t
  ·have him:i<m:=(hc i hi hd).2 hl1;have e1:aA t (E m)=aA t (E (i+1)):=by
    have:=hD.Fa t (m:=i+1) (m-(i+1)) aa λp h1 h2 hpd=>?_
    ·rwa[show i+1+(m-(i+1))=m by omega]at this
    ·have hp:p<ops.size:=by omega
     have HT:l p=true:=by rw[<-Sc p aa];exact(hc p hp hpd).1 aa
     rcases hD.chk p i hp aa with hb|⟨aCN,_⟩
     ·exact later p hp aa HT hb
     ·exact((wL aCN).1 t hd).2 hpd
   rw[e1,iq.he,hd,fx,fx];have:Nat.beq t t=true:=zbz t;rw[this];rfl
  ·have e1:aA t (put (f i).dst (R i).v env)=aA t env:=by
    cases hdd:(f i).dst with
    |none=>rfl
    |some d=>rw[fx,Oj (λe=>hd (by rw[hdd,e]))];rfl
   rw[e1];refine h.slot t m hm λp hp hpd=>?_
   rw[hc p hp hpd,Sc p (λe=>hd (e▸hpd))]
 ·by_cases hM:hD.M i j
  ·have him:i<m:=(hc i hi hM).2 hl1;have e1:((S m)[j]?).getD .dead=((S (i+1))[j]?).getD .dead:=by
    have:=hD.Fg j (m:=i+1) (m-(i+1)) aa λp h1 h2 Pn=>?_
    ·rwa[show i+1+(m-(i+1))=m by omega]at this
    ·have hp:p<ops.size:=by omega
     have HT:l p=true:=by rw[<-Sc p aa];exact(hc p hp Pn).1 aa
     have hmp:(S (i+1)).length<=(S p).length:=by have:=hD.Gi (i:=i+1) (p-(i+1)) aa;rwa[show i+1+(p-(i+1))=p by omega]at this
     rcases hD.chk p i hp aa with hb|⟨_,c1,c2,_⟩
     ·exact later p hp aa HT hb
     ·unfold qW.M at hM Pn;rcases hM with hM|hM
      ·rcases Pn with Pn|Pn
       ·exact(c2 j hM.2).1 Pn
       ·exact(c2 j hM.2).2 Pn
      ·rcases Pn with Pn|Pn
       ·exact(c1 j Pn.2).2 hM
       ·omega
   rw[e1];by_cases hnw:(S i).length<=j/\j<(S (i+1)).length
   ·rw[aeN j hnw.1 hnw.2,iq.hs,zam (by rw[gy];omega),gy,zak aa];rfl
   ·rw[VN j hnw];have hjA:j∈A i:=by
     unfold qW.M at hM;rcases hM with hM|hM
     ·exact hM.2
     ·exact absurd hM hnw
    have h0:=aAe j hjA hj;by_cases aS:j<(S i).length
    ·have h1:(oW (R i).us σ)[j]?=(oW (R i).us (S i))[j]?:=NC _ _ _ _ (by rw[h0,zak aS];rfl);rw[h1,iq.hs,zar (by rw[gy];exact aS),zak (by rw[gy];exact aS)];rfl
    ·rw[u7 _ _ _ λu hu e=>by have:=(iq.hu u hu).2.2;omega,h0,zaK aa,zaK aa]
  ·have hnw:¬((S i).length<=j/\j<(S (i+1)).length):=λh=>hM (.inr h)
   rw[VN j hnw,u7 _ _ _ λu hu e=>hM (.inl ⟨(iq.hu u hu).1,by rw[<-e];exact(iq.hu u hu).2.1⟩)];refine h.XH j m hj hm λp hp Pn=>?_
   rw[hc p hp Pn,Sc p (λe=>hM (e▸Pn))]
 ·cases hd:(f i).dst with
  |none=>exact fU aa2 _ (h.nme t)
  |some d=>
   rw[fx];cases hdt:Nat.beq d t with
   |false=>exact fU aa2 _ (h.nme t)
   |true=>
    show(R i).v.Nm _;refine(Kh _).2 λx hx=>?_
    have aa3:=hD.low i hi d hd x hx;refine⟨aa,λp hp HT hnp=>?_⟩;rcases zbE p i with h1|h1|h1
    ·rcases hD.chk i p hi h1 with hb|⟨_,_,_,c3⟩
     ·have:=Hp p hb;rw[Sc p aa,this]at HT;cases HT
     ·exact c3 d hd x hx hnp
    ·subst h1;rw[hl1]at HT;cases HT
    ·have hmp:(S (i+1)).length<=(S p).length:=by have:=hD.Gi (i:=i+1) (p-(i+1)) aa;rwa[show i+1+(p-(i+1))=p by omega]at this
     omega
 ·rcases zax.1 hb with hb|hb
  ·rcases zax.1 hb with hb|hb
   ·exact cu.fU aa2 _ (ast b (za4 hb))
   ·exact cu.fU aa2 _ (ass.2 b hb)
  ·exact cu.fU aa2 _ (ast b (zbu hb))
def Wb(hΓ:Sound cx.P Γ){dr:Bool}(hc:uo cx.P dr ops n f)(hD:qW Γ ops f aft bs A E S R){K:Env->aw->Prop}(hK:qR K)(hKn:K (E ops.size) (S ops.size))(z6:∀j,j<cx.rY.length\/j<cx.ET.length->j<(S 0).length)(VK:∀x v,cx.gh x v->x.Nm λi=>i<(S 0).length)
 {Q:Exit->Act->World->Prop} {F:Fence} {m:Nat} (hF:CM F) (hw:∀i,i<ops.size→∀d,(f i).dst=some d->cx.lo<=d)
 (hQ:∀au σ' an a' w',a'.tmps.size=n->Rel cx au σ' an a' w'->K au σ'->Q .normal a' w'):
 ∀(fuel:Nat) (ao:Array Bool) (env:Env) (σ:aw) (vals:List Value) (a:Act) (w:World),ao.size=ops.size->(left ops.size ao).length<=fuel->
  (∀i,i<ops.size->ao.getD i false=true→∀j∈bs i,ao.getD j false=true)->
  a.tmps.size=n->Rel cx env σ vals a w->Ivt hD (λp=>ao.getD p false) env σ->wpAnyIn F m cx.P .any ops Q fuel ao a w:=by
 have empty:∀(ao:Array Bool),ao.size=ops.size->Region.ready .any ops ao=[]->left ops.size ao=[]:=by
  intro ao hs hr;apply Decidable.byContradiction;intro qY;obtain⟨i,hi,Ue⟩:∃i,i∈left ops.size ao∧∀j,j<i->j∉left ops.size ao:=by
   have hex:∃i,i∈left ops.size ao:=by
    cases hl:left ops.size ao with
    |nil=>exact absurd hl qY
    |cons x xs=>exact⟨x,ae⟩
   obtain⟨i,hi⟩:=hex
   induction i using Nat.strongRecOn with
   |_ i ih=>
    by_cases h:∃j,j<i/\j∈left ops.size ao
    ·obtain⟨j,hj,hm⟩:=h;exact ih j hj hm
    ·exact Iq
  obtain⟨h1,h2⟩:=zbp.1 hi;have h1:=zbo.1 h1;have sO:i∈Region.ready .any ops ao:=by
   refine mem_ready.2 ⟨gu,ops[i],zaE h1,λe he hb=>?_⟩;have hj:=hD.back i _ (zaE h1) e he hb;have aS:=hD.lt i h1 _ hj;have:=Ue _ aS;cases hg:ao.getD e.on true with
   |false=>exact JQ
   |true=>
    rw[zbn]at hg ⊢;rw[zaE aa]at hg ⊢;exact hg
  rw[hr]at sO;cases sO
 have fin:∀(ao:Array Bool) (env:Env) (σ:aw) (vals:List Value) (a:Act) (w:World),ao.size=ops.size->left ops.size ao=[]->a.tmps.size=n->Rel cx env σ vals a w->Ivt hD (λp=>ao.getD p false) env σ->Q .normal a w:=by
  intro ao env σ vals a w hs O4 hn hr hI;have all:∀p,p<ops.size->ao.getD p false=true:=by
   intro p hp;cases hg:ao.getD p true with
   |false=>
    have:p∈left ops.size ao:=zbp.2 ⟨zbo.2 hp,RY⟩;rw[O4]at this;cases this
   |true=>
    rw[zbn]at hg ⊢;rw[zaE aa]at hg ⊢;exact hg
  have hσ:σ=S ops.size:=by
   refine zbb λj=>?_
   by_cases hj:j<(S ops.size).length
   ·rw[hI.XH j ops.size hj (zaj _) λp hp _=>⟨λ_=>all p hp,λ_=>hp⟩,zak hj];rfl
   ·rw[zaK (by rw[hI.len];omega),zaK aa]
  refine hQ _ _ _ _ _ hn hr ?_;rw[hσ,hK (E ops.size) env _ λt=>hI.slot t ops.size (zaj _) λp hp _=>⟨λ_=>all p hp,λ_=>hp⟩];exact hKn
 intro fuel
 induction fuel with
 |zero=>
  intro ao env σ vals a w hs hl KT hn hr hI;have O4:left ops.size ao=[]:=zaf aa;refine⟨?_,?_⟩
  ·cases iY:Region.ready .any ops ao with
   |nil=>rfl
   |cons i is=>
    exfalso;have hi:i∈Region.ready .any ops ao:=by rw[iY];simp
    obtain⟨h1,o,h2,_⟩:=mem_ready.1 hi;have:i∈left ops.size ao:=zbp.2 ⟨zbo.2 (zai.1 h2).1,Ij⟩;rw[O4]at this;cases this
  ·exact fin ao env σ vals a w hs O4 hn hr hI
 |succ fuel ih=>
  intro ao env σ vals a w hs hl KT hn hr hI;refine⟨λh0=>fin ao env σ vals a w hs (empty ao hs h0) hn hr hI,λi hi=>?_⟩;obtain⟨Sw,o,ho,pK⟩:=mem_ready.1 hi;have aS:i<ops.size:=(zai.1 ho).1;obtain⟨l1,l2,e1,e2,_⟩:=DX hs aS Sw;have Xi:∀j∈aft i,ao.getD j false=true:=by
   intro j hj;obtain⟨e,he,hb,rfl⟩:=hD.SH i o ho j hj;exact pK e he hb
  have Hp:∀j∈bs i,ao.getD j false=true:=by
   intro j hj;rcases hD.bef i aS j hj with h|⟨e,he,h⟩
   ·exact Xi j h
   ·exact IF
  have hli:ao.getD i false=false:=by
   rw[zbn]at Sw ⊢;rw[zaE aa]at Sw ⊢;exact Sw
  obtain⟨g1,g2,g3⟩:=hI.step (cx:=cx) (l':=λp=>(ao.setIfInBounds i true).getD p false) aS hli Hp KT (by
   show(ao.setIfInBounds i true).getD i false=true;rw[zbn,zbq aa];rfl) (λp hp=>getD_set_ne false (λe=>hp e.symm)) z6 VK
  obtain⟨K0,k1,k2⟩:=(hD.stp i aS).run env σ g1 g2;refine wF hΓ hc aS hn hr hF (hw i aS) (K:=K0) (λau σ' an a' w' zW dp hK'=>?_) k1;obtain⟨qX,σ2,dw,qH,hI2⟩:=g3 _ _ _ (k2 cx au σ' an a' w' hK' dp);refine ih _ qX σ2 dw a' w' (by simpa using hs) ?_ ?_ zW qH hI2
  ·rw[e2];rw[e1]at hl;simp at hl ⊢;omega
  ·intro k hk XK j hj;by_cases Pm:i=k
   ·subst Pm;exact getD_set_true (Hp j hj)
   ·rw[getD_set_ne false Pm]at XK;exact getD_set_true (KT k hk XK j hj)
def Ts(hΓ:Sound cx.P Γ){all:Array Oper}{dr:Bool}(hc:uo cx.P dr all n f)(kq:ops.size<=all.size)(aeP:∀i,i<ops.size->ops[i]?=all[i]?)(hD:qW Γ ops f aft bs A E S R)
 (late:∀(i:Nat) (o:Oper),ops.size<=i->all[i]?=some o→∀j,j<ops.size→∃e∈o.after,Region.binds .any e=true/\(e.on=j\/(e.on<ops.size/\j∈bs e.on)))
 {K:Env->aw->Prop} (hK:qR K) (hKn:K (E ops.size) (S ops.size)) (z6:∀j,j<cx.rY.length\/j<cx.ET.length->j<(S 0).length) (VK:∀x v,cx.gh x v->x.Nm λi=>i<(S 0).length)
 {Q:Exit->Act->World->Prop} {F:Fence} {m:Nat} (hF:CM F) (hw:∀i,i<ops.size→∀d,(f i).dst=some d->cx.lo<=d)
 (aCP:∀(fuel:Nat) (ao:Array Bool) (au:Env) (σ':aw) (an:List Value) (a':Act) (w':World),ao.size=all.size->(∀p,p<ops.size->ao.getD p false=true)->(left all.size ao).length<=fuel->
   a'.tmps.size=n->Rel cx au σ' an a' w'->K au σ'->(∀p,ops.size<=p->p<all.size->ao.getD p false=false)->wpAnyIn F m cx.P .any all Q fuel ao a' w'):
 ∀(fuel:Nat) (ao:Array Bool) (env:Env) (σ:aw) (vals:List Value) (a:Act) (w:World),ao.size=all.size->(left all.size ao).length<=fuel->
  (∀i,i<ops.size->ao.getD i false=true→∀j∈bs i,ao.getD j false=true)->(∀p,ops.size<=p->p<all.size->ao.getD p false=false)->
  a.tmps.size=n->Rel cx env σ vals a w->Ivt hD (λp=>ao.getD p false) env σ->wpAnyIn F m cx.P .any all Q fuel ao a w:=by
 have tf:∀(ao:Array Bool) (i:Nat),i<ao.size->ao.getD i true=ao.getD i false:=by
  intro ao i hi;rw[zbn,zbn,zaE hi];rfl
 have fin:∀(fuel:Nat) (ao:Array Bool) (env:Env) (σ:aw) (vals:List Value) (a:Act) (w:World),ao.size=all.size->(∀p,p<ops.size->ao.getD p false=true)->(left all.size ao).length<=fuel->(∀p,ops.size<=p->p<all.size->ao.getD p false=false)->a.tmps.size=n->Rel cx env σ vals a w->Ivt hD (λp=>ao.getD p false) env σ->wpAnyIn F m cx.P .any all Q fuel ao a w:=by
  intro fuel ao env σ vals a w hs pK hl aS hn hr hI;have hσ:σ=S ops.size:=by
   refine zbb λj=>?_
   by_cases hj:j<(S ops.size).length
   ·rw[hI.XH j ops.size hj (zaj _) λp hp _=>⟨λ_=>pK p hp,λ_=>hp⟩,zak hj];rfl
   ·rw[zaK (by rw[hI.len];omega),zaK aa]
  refine aCP fuel ao env σ vals a w hs pK hl hn hr ?_ aS;rw[hσ,hK (E ops.size) env _ λt=>hI.slot t ops.size (zaj _) λp hp _=>⟨λ_=>pK p hp,λ_=>hp⟩];exact hKn
 intro fuel
 induction fuel with
 |zero=>
  intro ao env σ vals a w hs hl KT aS hn hr hI;refine fin 0 ao env σ vals a w hs (λp hp=>?_) hl aS hn hr hI;cases hg:ao.getD p false with
  |true=>rfl
  |false=>
   have:p∈left all.size ao:=zbp.2 ⟨zbo.2 aa,by simp only[tf ao p aa,hg,zbi]⟩;rw[zaf (Nat.le_zero.1 hl)]at this;cases this
 |succ fuel ih=>
  intro ao env σ vals a w hs hl KT afI hn hr hI;by_cases pK:∀p,p<ops.size->ao.getD p false=true
  ·exact fin _ ao env σ vals a w hs pK hl afI hn hr hI
  obtain⟨p0,hp0,Ue⟩:∃p,(p<ops.size/\ao.getD p false=false)∧∀j,j<p→¬(j<ops.size/\ao.getD j false=false):=by
   have hex:∃p,p<ops.size/\ao.getD p false=false:=by
    apply Classical.byContradiction;intro g;refine pK λp hp=>?_
    cases hg:ao.getD p false with
    |true=>rfl
    |false=>exact absurd ⟨p,hp,hg⟩ g
   obtain⟨p,hp⟩:=hex
   induction p using Nat.strongRecOn with
   |_ p ihp=>
    by_cases h:∃j,j<p/\(j<ops.size/\ao.getD j false=false)
    ·obtain⟨j,hj,hm⟩:=h;exact ihp j hj hm
    ·exact⟨p,hp,λj hj hm=>h ⟨j,hj,hm⟩⟩
  refine⟨λh0=>?_,λi hi=>?_⟩
  ·exfalso;have xY:all[p0]?=some (all[p0]'aa):=zaE aa;have sO:p0∈Region.ready .any all ao:=by
    refine mem_ready.2 ⟨by rw[tf ao p0 aa];exact hp0.2,_,xY,λe he hb=>?_⟩;have hj:=hD.back p0 _ ((aeP p0 hp0.1).trans xY) e he hb;have aS:=hD.lt p0 hp0.1 _ hj;cases hg:ao.getD e.on false with
    |true=>rfl
    |false=>exact absurd ⟨aa,hg⟩ (Ue _ aS)
   rw[h0]at sO;cases sO
  obtain⟨Sw,o,ho,iY⟩:=mem_ready.1 hi;have aAg:i<all.size:=(zai.1 ho).1;have aS:i<ops.size:=by
   apply Decidable.byContradiction;intro g;obtain⟨e,he,hb,hj⟩:=late i o aa ho p0 hp0.1;have hl1:=iY e he hb;rcases hj with hj|⟨hj1,Pj⟩
   ·rw[hj,hp0.2]at hl1;cases hl1
   ·have:=KT e.on hj1 hl1 p0 Pj;rw[hp0.2]at this;cases this
  obtain⟨l1,l2,e1,e2,_⟩:=DX hs aAg Sw;have Xi:∀j∈aft i,ao.getD j false=true:=by
   intro j hj;obtain⟨e,he,hb,rfl⟩:=hD.SH i o ((aeP i aS).trans ho) j hj;exact iY e he hb
  have Hp:∀j∈bs i,ao.getD j false=true:=by
   intro j hj;rcases hD.bef i aS j hj with h|⟨e,he,h⟩
   ·exact Xi j h
   ·exact IF
  have hli:ao.getD i false=false:=by rw[<-tf ao i aa];exact Sw
  obtain⟨g1,g2,g3⟩:=hI.step (cx:=cx) (l':=λp=>(ao.setIfInBounds i true).getD p false) aS hli Hp (λp hp HT j hj=>KT p hp HT j hj) (by
   show(ao.setIfInBounds i true).getD i false=true;rw[zbn,zbq aa];rfl) (λp hp=>getD_set_ne false (λe=>hp e.symm)) z6 VK
  obtain⟨K0,k1,k2⟩:=(hD.stp i aS).run env σ g1 g2;refine wF hΓ hc aAg hn hr hF (hw i aS) (K:=K0) (λau σ' an a' w' zW dp hK'=>?_) k1;obtain⟨qX,σ2,dw,qH,hI2⟩:=g3 _ _ _ (k2 cx au σ' an a' w' hK' dp);refine ih _ qX σ2 dw a' w' (by simpa using hs) ?_ ?_ (λp h1 h2=>?_) zW qH hI2
  ·rw[e2];rw[e1]at hl;simp at hl ⊢;omega
  ·intro k hk XK j hj;by_cases Pm:i=k
   ·subst Pm;exact getD_set_true (Hp j hj)
   ·rw[getD_set_ne false Pm]at XK;exact getD_set_true (KT k hk XK j hj)
  ·rw[getD_set_ne false aa];exact afI p h1 h2
def qW.congr{f':Nat->PO}(h:qW Γ ops f aft bs A E S R)(hf:∀i,i<ops.size->f i=f' i):qW Γ ops f' aft bs A E S R:=
 ⟨h.SH,h.back,h.lt,h.bef,λi hi=>by rw[<-hf i hi];exact h.stp i hi,λi hi=>by rw[<-hf i hi];exact h.low i hi,λi j hi hj=>by rw[<-hf i hi,<-hf j aa];exact h.chk i j hi hj⟩
end dyn
end
end
end Go.Dv
namespace Go.Dv
open Go Go.RowKit
structure vj(b:Nat)(r:Loop)(W:World):Prop where
 l:W.heap[b+1]?=some (.loop r)
 d:W.heap[b]?=some (.deferred (some []))
def vj.keeps{b:Nat}{r:Loop}{W W':World}(h:vj b r W)(k:KeepsFrom b W W'):vj b r W':=
 ⟨k.same _ _ (Nat.le_succ _) h.l rfl,k.same _ _ (zaj _) h.d rfl⟩
def vj.put{b:Nat}{r:Loop}{W:World}(h:vj b r W)(r':Loop):vj b r' (W.putObj (b+1) (.loop r')):=
 ⟨World.putObj_heap_same (zai.1 h.l).1,(World.putObj_heap_other aa).trans h.d⟩
def vj.grown{b:Nat}{r:Loop}{W W':World}{row:Option Nat}(h:vj b r W)(hg:W.grownBy W' row)(hr:∀k,row=some k→∃o:Obj,W.heap[k]?=some o/\o.isWalk=true):vj b r W':=
 ⟨(grownBy_keeps hg hr h.l rfl).trans h.l,(grownBy_keeps hg hr h.d rfl).trans h.d⟩
def SW{n:Nat}{P:Program}{α:Type}{g:Operand}{ps:Array Tmp}{assign body:Code}{Q:Exit->Act->World->Prop}{a:Act}{w:World}
 (h1:1<=n) {gf:Nat} {lb:Array Value} (hg:a.eval g=.func (.func gf) #[] lb) (eg:∀args w,(callFunc gf args).run P w=.ok (.enter gf args) w)
 {FR:Nat->Prop} {Xp:α->Array Value} {Nx:List α->α->Prop} {S Sp:List α->Prop} (asv:ayP FR (n-1) P gf lb Xp Nx S Sp w) (Pg:∀x,(Xp x).size=ps.size)
 (I:List α->(Nat->Prop)->World->Prop) (Ix:Code->List α->World->Prop) (hI:∀X,OwnFrom w.heap.size λpre=>I pre X) (hIx:∀c,OwnFrom w.heap.size (Ix c)) (hIX:∀pre X W,I pre X W→∀b,X b->b<W.heap.size)
 {X0:Nat->Prop} (hX0:∀b,FR b→¬X0 b) (h0:I [] X0 w)
 (M:List α->(Nat->Prop)->α->Act->World->Prop) (hM:∀pre X x a' W l r r',w.heap.size<=l->W.heap[l]?=some (.loop r)->M pre X x a' W->M pre X x a' (W.putObj l (.loop r')))
 (aeQ:∀(l:Nat) (pre:List α) (X:Nat->Prop) (x:α) (W:World),I pre X W->Nx pre x->assign.wpIn (Fence.wide.inRound l) (n-1-1) P (Exit.then (λa' W'=>KeepsFrom w.heap.size W W'∧∃X',SY w.heap.size X X' W W'/\M pre X' x a' W') (λ_ _ _=>False)) { tmps:=(ps.zip (Xp x)).foldl (λt (p,v)=>t.setIfInBounds p v) a.tmps,defers:=[] } W)
 (aa4:∀(l:Nat) (pre:List α) (X:Nat->Prop) (x:α) (a':Act) (W:World),M pre X x a' W->body.wpIn (Fence.wide.inRound l) (n-1-1) P (λe _ W'=>KeepsFrom w.heap.size W W'/\match e with
   | .normal=>∃X',SY w.heap.size X X' W W'/\I (pre++[x]) X' W'
   | .ret=>Ix .ret (pre++[x]) W'
   | .exit id=>Ix (.exit id) (pre++[x]) W'
   | .goto t=>Ix (.goto t) (pre++[x]) W'
   |_=>False) a' W)
 (aa5:∀(D:Nat) (xs:List α) (X:Nat->Prop) (W:World),w.heap.size<=D->S xs->I xs X W->W.heap[D]?=some (.deferred (some []))->Q .normal { a with defers:={ target:=.collected D,args:= #[] }::a.defers } W)
 (aAh:∀(D:Nat) (c:Code) (pre:List α) (W:World),w.heap.size<=D->Sp pre->Ix c pre W->W.heap[D]?=some (.deferred (some []))->c.wpIn Fence.wide n P Q { a with defers:={ target:=.collected D,args:= #[] }::a.defers } W):
 (Code.rangeFunc g ps assign body).wpIn Fence.wide n P Q a w:=by
 refine wpIn_rangeFunc λfn hfn=>?_
 rw[show Fence.wide.round=none from rfl];obtain⟨rec,CE⟩:∃rec:Loop,rec={ state:=.ready,pending:=none,fn,tmps:=a.tmps,params:=ps,assign,body,defers:=w.heap.size }:=⟨_,rfl⟩
 have iq:rec.state=.ready:=by rw[CE]
 have ec:=run_enterLoop_outer (P:=P) (w:=w) fn a.tmps ps assign body;rw[<-CE]at ec;obtain⟨W1,hW1⟩:∃W1,(w.alloc (.deferred (some []))).alloc (.loop rec)=W1:=⟨_,rfl⟩
 have Ug:vj w.heap.size rec W1:=by
  rw[<-hW1];refine⟨?_,(Below.heap_alloc _ _ _ ae).trans (World.alloc_heap_new w _)⟩;have:=World.alloc_heap_new (w.alloc (.deferred (some []))) (.loop rec);rwa[World.size_alloc]at this
 have kq:w.heap.size<=W1.heap.size:=by rw[<-hW1];simp;omega
 have hI1:I [] X0 W1:=by rw[<-hW1];exact(hI X0).alloc _ ((hI X0).alloc _ h0)
 have vT:Below w.heap.size w W1:=by
  rw[<-hW1];exact((Below.refl _ w).alloc (zaj _) _).alloc ae _
 rw[hW1]at ec;have xZ:(resolve a.eval (rangeCall g (w.heap.size+1)) 0).run P W1=.ok { target:=.fn (.func gf) lb,args:= #[.func (.yield (w.heap.size+1)) #[] #[]] } W1:=by
  simp only[resolve,hg];simp[go_sem]
 refine⟨_,_,W1,_,W1,gf,#[.func (.yield (w.heap.size+1)) #[] #[]]++lb,W1,ec,xZ,λf' hf'=>?_,by simp[invoke,go_sem,eg],λ_=>h1,?_⟩
 ·trivial
 have nw:∀{A:World} {row:Option Nat},(∀r,row=some r->W1.heap.size<=r∧∃o:Obj,A.heap[r]?=some o/\o.isWalk=true)→∀r,row=some r->w.heap.size<=r∧∃o:Obj,A.heap[r]?=some o/\o.isCells=false:=
  λhr r e=>by obtain⟨hB,o,ho,hw⟩:=hr r e;exact⟨aa,o,ho,Obj.not_cells_of_walk hw⟩
 refine(asv (w.heap.size+1) (λpre X W=>I pre X W/\vj w.heap.size rec W) (λpre W=>∃c,Ix c pre W/\vj w.heap.size { rec with state:=.done,pending:=some c } W) W1 vT
  (λX s A B row hs M9 hr=>⟨hI X s A B row hs.1 M9 (nw hr),hs.2.grown M9 λk e=>(hr k e).2⟩)
  (λs A B row ⟨c,hc,hk⟩ M9 hr=>⟨c,hIx c s A B row hc M9 (nw hr),hk.grown M9 λk e=>(hr k e).2⟩) (λpre X W1 h=>hIX pre X W1 h.1) ?_ X0 hX0 ⟨hI1,Ug⟩).mono ?_
 ·rintro pre x X W ⟨hi,hbk⟩ hlen;have hy:=run_yield (P:=P) (args:=Xp x) hbk.l (by rw[CE];exact Pg x);have ht:rec.tmps=a.tmps/\rec.params=ps/\rec.assign=assign/\rec.body=body/\rec.fn=fn:=by rw[CE];simp
  obtain⟨e1,e2,e3,e4,e5⟩:=ht;rw[e1,e2,e3,e4,e5]at hy;refine⟨fn,_,assign,body,hy,roundIn_of_wpIn hfn (wpIn_mono (aeQ _ pre X x W hi hlen) ?_)⟩;intro e a' W' hp;cases e with
  |normal=>
   obtain⟨k1,X1,k2,hm⟩:=hp;have x6:=hbk.keeps k1;refine⟨_,run_beginRound x6.l iq,?_⟩;have mN:=x6.put { rec with state:=.busy };have kp2:SY w.heap.size X1 X1 W' (W'.putObj (w.heap.size+1) (.loop { rec with state:=.busy })):=SY.put _ aa x6.l rfl;refine wpIn_mono (aa4 _ pre X1 x a' _ (hM _ _ _ _ _ _ _ _ aa x6.l hm)) ?_;intro e a3 W3 hp;have stop:∀c:Code,KeepsFrom w.heap.size (W'.putObj (w.heap.size+1) (.loop { rec with state:=.busy })) W3->Ix c (pre++[x]) W3->
    (Instr.endRound (w.heap.size+1) (some c)).run P W3=.ok (.bool false) (W3.putObj (w.heap.size+1) (.loop { rec with state:=.done,pending:=some c }))/\
    ∃c',Ix c' (pre++[x]) (W3.putObj (w.heap.size+1) (.loop { rec with state:=.done,pending:=some c }))/\vj w.heap.size { rec with state:=.done,pending:=some c' } (W3.putObj (w.heap.size+1) (.loop { rec with state:=.done,pending:=some c })):=by
    intro c k3 hx;have VJ:=mN.keeps k3;have hr:=run_endRound (P:=P) (some c) VJ.l;exact⟨hr,c,(hIx c).putObj _ hx aa VJ.l rfl,VJ.put _⟩
   cases e with
   |normal=>
    obtain⟨k3,X3,kp3,hi3⟩:=hp;have VJ:=mN.keeps k3;have iY:=run_endRound (P:=P) none VJ.l;have hre:({ rec with state:=.ready,pending:=none }:Loop)=rec:=by rw[CE]
    have iY:(Instr.endRound (w.heap.size+1) none).run P W3=.ok (.bool true) (W3.putObj (w.heap.size+1) (.loop rec)):=by
     rw[iY];simp only[Option.isNone_none,if_true];rw[show({ rec with state:=LoopState.ready,pending:=none }:Loop)=rec from hre]
    exact⟨_,_,iY,.inl ⟨rfl,X3,⟨(hI X3).putObj _ hi3 aa VJ.l rfl,VJ.put rec⟩,k2.trans ((kp2.trans kp3).trans (SY.put _ aa VJ.l rfl))⟩⟩
   |ret=>obtain⟨r1,r2⟩:=stop .ret hp.1 hp.2;exact HW
   |exit id=>obtain⟨r1,r2⟩:=stop (.exit id) hp.1 hp.2;exact HW
   |goto t=>obtain⟨r1,r2⟩:=stop (.goto t) hp.1 hp.2;exact HW
   |panic ch=>exact hp.2.elim
   |outgrown=>exact hp.2.elim
  |_=>exact hp.elim
 ·rintro e W2 ⟨⟨v,rfl⟩,(⟨xs,X,hS,hi,hk⟩|⟨pre,hSp,c,hi,hk⟩)⟩
  ·have hp:rec.pending=none:=by rw[CE]
   have:=run_endLoop (P:=P) hk.l (by rw[iq];simp);rw[hp]at this;exact⟨none,_,this,aa5 _ xs X _ (zaj _) hS ((hI X).putObj _ hi aa hk.l rfl) (hk.put _).d⟩
  ·exact⟨some c,_,run_endLoop (P:=P) hk.l ae,aAh _ c pre _ (zaj _) hSp ((hIx c).putObj _ hi aa hk.l rfl) (hk.put _).d⟩
end Go.Dv
end
