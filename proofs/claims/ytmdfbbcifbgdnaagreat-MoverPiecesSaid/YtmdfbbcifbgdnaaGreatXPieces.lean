/- Own work: parts of the proof, shortened and laid together by a tool of our own. -/
import Derived.Test.YtmdfbbcifbgdnaaGreatP4
import Derived.Test.YtmdfbbcifbgdnaaGreatProg
import Derived.KernelRfl
set_option linter.defProp false
set_option linter.unusedSimpArgs false
set_option linter.unusedVariables false
open List renaming getElem?_eq_getElem→C0, length_map→Eb, take_append_drop→E6, mem_of_mem_drop→Iw, mem_of_mem_take→FL
namespace Go.Dv
open Go
def ax2{k:IntKind}{y:PV}(h:ou [.int k] [y]):∃n:Int,y=.int k n/\(Lit.int k n).wf=true:=by
 simp only[ou,O1]at h;obtain⟨_,_,e,⟨l,rfl,hl⟩,rfl⟩:=h;injection e with e _
 subst e;exact⟨l,rfl,hl⟩
end Go.Dv
namespace Go.Dv.Try
open Go Go.Dv Go.Proofs.Tryz Go.Proofs.Tryz
set_option maxRecDepth 100000
def D6:FC:=⟨[0,1,2,4,5,6,7,8,9],[⟨4,none⟩],aaq f3 [] [[1,2,5,6,8,9]]⟩
def V7:CO 3 D6 2:=bk f3 ak
end Go.Dv.Try
namespace Go.Dv.Try
open Go Go.Dv
def ED{l:List Rn}(h:dU l=0):(az l).length<=4096∧∀x∈az l,-1<=x/\x<=511:=by
 have g:=bZ h;have h1:=xA (l:=l) λr hr=>by have:=rG (g.2.2.2 r hr);omega
 exact⟨ab,arU g.2.2.2⟩
def acE(l:List Rn)(r:Rn):bI (l++[r])=bI l+r.n:=by simp[bI]
def avZ(acc:List Rn)(r:Rn):bI (cg acc r)=bI acc+if r.s= -1 then 0 else r.n:=by
 by_cases hs:r.s= -1
 ·unfold cg;rw[if_pos hs,if_pos hs];omega
 ·rw[if_neg hs];rcases List.eq_nil_or_concat acc with rfl|⟨p,q,rfl⟩
  ·rw[aac hs];simp[bI]
  ·rw[List.concat_eq_append,Sj hs];split
   ·rw[acE,acE];simp only;omega
   ·rw[acE (p++[q])]
def au5(l:List Rn)(h:∀r∈l,r.s= -1\/(0<=r.s/\0<=r.n)):bI (Yd l)=bt (az l):=by
 have main:∀(l:List Rn) (acc:List Rn),(∀r∈l,r.s= -1\/(0<=r.s/\0<=r.n))->bI (l.foldl cg acc)=bI acc+bt (az l):=by
  intro l
  induction l with
  |nil=>intro acc _;simp[az,bt]
  |cons r l ih=>
   intro acc h;rw[List.foldl_cons,ih _ λx hx=>h x iP,avZ];have e:az (r::l)=iV r++az l:=List.flatMap_cons;have hu:bt (az (r::l))=bt (iV r)+bt (az l):=by rw[e];unfold bt;rw[List.filter_append,List.length_append]
   have hr:(bt (iV r):Int)=if r.s= -1 then 0 else r.n:=by
    unfold bt iV;rcases h r aj with hs|⟨h0,h1⟩
    ·rw[if_pos hs,List.filter_eq_nil_iff.2]
     ·rfl
     ·intro x hx;obtain⟨k,_,rfl⟩:=List.mem_map.1 hx;simp[hs]
    ·rw[if_neg ab,List.filter_eq_self.2]
     ·rw[Eb,List.length_range];omega
     ·intro x hx;obtain⟨k,_,rfl⟩:=List.mem_map.1 hx;rw[if_neg ab];exact decide_eq_true ab
   rw[hu,Int.natCast_add,hr];omega
 have:=main l [] h;rw[show bI ([]:List Rn)=0 from rfl]at this;unfold Yd;omega
def abQ{l:List Rn}(h:∀r∈l,0<=r.n):0<=bI l:=by
 induction l with
 |nil=>decide
 |cons r l ih=>
  have h1:=h r aj;have h2:=ih λx hx=>h x iP
  rw[gS];omega
def aqt(v:Vo)(i:Int):cG (bp v) i=cG v i:=by
 unfold cG;rw[x_,show(bp v).st.l.length=v.st.l.length from Eb _]
def avt(v:Vo)(i:Int):cG v i=if wX v≠0 then wX v else gM v i:=by
 unfold cG gM;rfl
def afl(ps:List PV)(x:PV):Prop:=∃(v:Vo) (i:Int),ps=[v.pv,pI i]/\x=pB true
set_option maxHeartbeats 4000000 in
def adW:MT (ay [(12,ah KL),(13,bF Wr),(15,c8 false qM),(14,c8 false A8),(16,ah OA),(17,ah adG),(18,bF jW),(19,c8 true A3)]) D6 (ah afl):=by
 rintro _ K ⟨_,⟨v,i,rfl,rfl⟩,hK⟩;have lD:KL [] (pB true):=⟨rfl,rfl⟩
 have cT:Wr [v.pv] _:=⟨v,rfl,rfl⟩
 by_cases hf:ahf v
 case neg=>
  (repeat'((conv=>whnf);first|refine⟨_,lD,?_⟩|refine⟨_,cT,?_⟩|refine aw hf ?_|refine aN ?_|refine bP ?_|fail))<;>try(conv=>whnf)
  exact⟨.pv (pB true),rfl,trivial,hK⟩
 obtain⟨hb,hr,hn⟩:=hf.b;have hC:qM [v.pv] _:=⟨v,rfl,hn,rfl⟩
 have s7:A8 [(bp v).pv,pI i] _:=⟨bp v,i,rfl,Og hb,rfl⟩
 have fh:OA [v.pv] _:=⟨v,rfl,⟨hb,hr⟩,rfl⟩
 have kA:adG [v.pv,pI i] _:=⟨v,i,rfl,by have:=hb.2.2;omega,rfl⟩
 have rH:cG (bp v) i≠0->fm (bp v) i=[]:=λh=>by unfold fm;rw[if_pos h]
 rw[aqt]at s7 rH;have gp:=avt v i;by_cases he:wX v=0
 case neg=>
  rw[if_pos he]at gp;rw[gp,rH (by rw[gp];exact he)]at s7
  (repeat'((conv=>whnf);first|refine⟨_,lD,?_⟩|refine⟨_,cT,?_⟩|refine au hf ?_|refine⟨_,hC,?_⟩|refine⟨_,s7,?_⟩|refine⟨_,fh,?_⟩|refine aw he ?_|refine au he ?_|refine au rfl ?_|refine aN ?_|refine ez λ_=>?_|fail))<;>try(conv=>whnf)
  exact⟨.pv (pB true),rfl,trivial,hK⟩
 rw[if_neg (λh=>h he)]at gp;rw[he]at fh;by_cases hi:gM v i=0
 case neg=>
  rw[gp,rH (by rw[gp];exact hi)]at s7
  (repeat'((conv=>whnf);first|refine⟨_,lD,?_⟩|refine⟨_,cT,?_⟩|refine au hf ?_|refine⟨_,hC,?_⟩|refine⟨_,s7,?_⟩|refine⟨_,fh,?_⟩|refine au rfl ?_|refine⟨_,kA,?_⟩|refine au hi ?_|refine aN ?_|refine ez λ_=>?_|fail))<;>try(conv=>whnf)
  exact⟨.pv (pB true),rfl,trivial,hK⟩
 have h0:cG v i=0:=by rw[gp,hi]
 have j6:=P0 hb he;obtain⟨_,i0,i1⟩:=ata h0;obtain⟨b,ZA⟩:∃b,v.st.l[i.toNat]?=some b:=⟨_,C0 ab⟩
 have kE:=List.mem_of_getElem? ZA;have j7:=j6.op b kE;have qH:D4 v.st=.sl 11 (v.st.l.map At.pv):=Sl.zN ZA;have gY:(v.st.l.map At.pv)[i.toNat]?=some b.pv:=by rw[List.getElem?_map,ZA];rfl
 have eS:ni v i=b:=by unfold ni;rw[ZA];rfl
 have eP:fm (bp v) i=Yd b.rn.l:=by
  unfold fm;rw[aqt,if_neg (λh=>h h0),R2 v i ⟨i0,i1⟩,eS,awk]
 rw[eP,h0]at s7;rw[hi]at kA;obtain⟨q1,q2,q3⟩:=Re j7;have j_:A3 [b.pv] _:=⟨b,rfl,⟨ab,q3,ab⟩,rfl⟩
 rw[amk j7]at j_;have HH:=Bd j7;have e_:=arw q3 b.rn.l.length;rw[List.take_length]at e_;have aHt:=au5 b.rn.l λr hr=>(HH r hr).imp id λh=>⟨h.1,h.2.1⟩
 have kf:b.rs=true\/bt (az b.rn.l)*256=b.al:=by
  cases c_:b.rs with
  |true=>exact .inl rfl
  |false=>exact .inr ((bc j7).2 c_).2.1.1.symm
 have ov:=oG (az b.rn.l);have Cm:=(ED (bc j7).1.rn).1;rw[<-aHt]at kf;have rV:jW [.sl 2 ((Yd b.rn.l).map Rn.pv),.sl 2 ((Yd b.rn.l).map Rn.pv)] _:=⟨.sl (Yd b.rn.l),.sl (Yd b.rn.l),rfl,⟨by show(Yd b.rn.l).length<=_;omega,by show(Yd b.rn.l).length<=_;omega⟩,rfl⟩
 have jV:v.pv=.agg [.str v.d.a_,.str v.d.mp,.sl 11 (v.st.l.map At.pv)]:=by unfold Vo.pv;rw[qH]
 rw[jV]at cT hC fh kA ⊢;generalize Yd b.rn.l=P at*;have AY:(P.map Rn.pv).length=P.length:=Eb _
 (repeat'((conv=>whnf);first|refine⟨_,lD,?_⟩|refine⟨_,cT,?_⟩|refine au hf ?_|refine⟨_,hC,?_⟩|refine⟨_,s7,?_⟩|refine⟨_,fh,?_⟩|refine au rfl ?_|refine⟨_,kA,?_⟩|refine aw (λh=>h rfl) ?_|refine aN ?_|fail))<;>try(conv=>whnf)
 refine⟨λm env σ=>∃n:Nat,n+m=P.length/\σ=[.box 26 [.pv (.str v.d.a_),.pv (.str v.d.mp),.pv (.sl 11 (v.st.l.map At.pv))],.row 37 2 true (P.map Rn.pv)]/\env=[eN 1 i,(2,.ref 0 0 0),(5,.own 1),eN 6 0,eN 8 (bI (P.take n)),eN 9 n],P.length,⟨0,ab,rfl,rfl⟩,?_⟩;rintro m env σ ⟨n,kp,rfl,rfl⟩;have CI:=abQ (l:=P.drop n) λr hr=>(e_.1 r (Iw hr)).2.1
 have CJ:=abQ (l:=P.take n) λr hr=>(e_.1 r (FL hr)).2.1
 have lk:=J8 (P.take n) (P.drop n);rw[E6]at lk;by_cases aU:n<P.length
 ·obtain⟨r,lF⟩:∃r,P[n]?=some r:=⟨_,C0 aU⟩
  have n9:=oa (f:=Rn.pv) lF;have hs:=aeq lF;have aG0:=abQ (l:=P.drop (n+1)) λr hr=>(e_.1 r (Iw hr)).2.1
  have aA6:=abQ (l:=P.take (n+1)) λr hr=>(e_.1 r (FL hr)).2.1
  have azX:=J8 (P.take (n+1)) (P.drop (n+1));rw[E6]at azX;rw[hs]at azX aA6;generalize bI (P.take n)=S at*
  (repeat'((conv=>whnf);first|refine au ab ?_|refine And.intro ⟨ab,ab⟩ ?_|refine⟨_,n9,?_⟩|refine bj ab ?_|refine ez λ_=>?_|fail))<;>try(conv=>whnf)
  exact⟨m-1,ab,n+1,ab,rfl,by rw[hs];rfl⟩
 ·rw[List.take_of_length_le ab];cases c_:b.rs with
  |true=>
   have ma:b.pv=.agg [pI b.ty,.str b.nm,pI b.id,pI b.fl,pB true,.str b.vl,pI b.ft,qF b.rn,pI b.al,pI b.sz,pI b.vd]:=by unfold At.pv;rw[c_]
   rw[ma]at gY j_
   (repeat'((conv=>whnf);first|refine aw ab ?_|refine⟨_,⟨i0,gY⟩,?_⟩|refine⟨_,j_,?_⟩|refine⟨_,rV,?_⟩|refine au rfl ?_|refine ez λ_=>?_|fail))<;>try(conv=>whnf)
   exact⟨.pv (pB true),rfl,trivial,hK⟩
  |false=>
   have ma:b.pv=.agg [pI b.ty,.str b.nm,pI b.id,pI b.fl,pB false,.str b.vl,pI b.ft,qF b.rn,pI b.al,pI b.sz,pI b.vd]:=by unfold At.pv;rw[c_]
   have kf:=kf.resolve_left qD;rw[ma]at gY j_
   (repeat'((conv=>whnf);first|refine aw ab ?_|refine⟨_,⟨i0,gY⟩,?_⟩|refine⟨_,j_,?_⟩|refine⟨_,rV,?_⟩|refine au rfl ?_|refine au ab ?_|refine bj ab ?_|refine ez λ_=>?_|fail))<;>try(conv=>whnf)
   exact⟨.pv (pB true),rfl,trivial,hK⟩
abbrev tu:Bool×List CT:=(false,[.int .i64])
def axd:∀xs,xS [kG,tu] xs->(ah afl).run xs λr=>r=.pv (.bool true):=λxs h=>by
 simp only[xS]at h;obtain⟨y,_,rfl,h1,_,u,_,rfl,_,h3,rfl⟩:=h;obtain⟨v,rfl⟩:=ajp (h1 trivial);obtain⟨n,rfl,_⟩:=ax2 (h3 trivial);exact⟨_,⟨v,n,rfl,rfl⟩,rfl⟩
def Ci:bU bb 3 (ah afl):=V7.sound mixed (aaB nW (aaB sR (aaB eO (aaB tw (aaB ox (aaB ru (aaB nN (aaB vt aq)))))))) (ax _) (by rintro _ _ ⟨_,⟨_,_,rfl,_⟩,_⟩;rfl) adW
end Go.Dv.Try
