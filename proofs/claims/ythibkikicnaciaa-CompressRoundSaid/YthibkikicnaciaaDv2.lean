/-
  A part of the proof: own texts, laid together by a tool of our own: DvOps8 DvRen DvOps9 DvOps10 DvMut DvCode DvDraw DvReg DvGc DvRange DvVc DvFn DvFnM DvLib DvOpen.
-/
import Derived.Test.YthibkikicnaciaaDv1
import Derived.RangeFuncNested
import Derived.Orders
import Derived.TacticsIn
import Derived.OrdersIn
import Derived.RangeFuncCalls
import Derived.ControlIn
import Derived.OwnWalk
import Derived.RangeFuncLeaves
import Derived.WalkKit
import Derived.ProofKit
import Derived.OpenShut
import Derived.Carry
section
/-
  Stores; calls by contract.
-/
set_option linter.unusedSimpArgs false
namespace Go.Dv
open Go.RowKit
section
variable {cx : Cx} {env : Env} {σ : Sto} {vals : List Value} {a : Act} {w w' : World} {o : Oper}

/-! ### Stores -/
theorem run_stores (P : Program) (g off : Nat) (e : TypeId) (fr : Nat × Nat) : ∀ (vs : List Value) (i : Nat) (cur : Array Value) (w : World), w.heap[g]? = some (.cells cur e fr) → off + i + vs.length ≤ cur.size → (fr = (0, 0) ∨ cur.size ≤ fr.1) → (∀ v ∈ vs, v.oneCell' = true) →
    ∃ w' cur', (storeCells ⟨g, off, none⟩ vs i).run P w = .ok () w' ∧ w'.heap[g]? = some (.cells cur' e fr) ∧ cur'.toList = cur.toList.take (off + i) ++ vs ++ cur.toList.drop (off + i + vs.length) ∧
      (∀ b, b ≠ g → w'.heap[b]? = w.heap[b]?) ∧ w'.heap.size = w.heap.size ∧ w'.os = w.os ∧ w'.tape = w.tape ∧ w'.output = w.output := by
  intro vs
  induction vs with
  | nil => intro i cur w hg _ _ _; exact ⟨w, cur, by simp [storeCells], hg, by simp, fun _ _ => rfl, rfl, rfl, rfl, rfl⟩
  | cons v vs ih =>
    intro i cur w hg hle hfr h1
    simp only [List.length_cons] at hle
    have hc : w.cell? ⟨g, off + i, none⟩ = some cur[off + i] := by simp [World.cell?, hg, show off + i < cur.size from by omega]
    have hf : w.frozen? ⟨g, off + i, none⟩ = false := by
      simp only [World.frozen?, hg]
      rcases hfr with rfl | h
      · simp
      · simp; omega
    have hst : (store ((⟨g, off, none⟩ : Addr).add i) v).run P w = .ok () (w.setCell ⟨g, off + i, none⟩ v) := by
      rw [addr_add, run_store P w _ v _ (h1 v (by simp))]; simp [hc, hf]
    have hg2 : (w.setCell ⟨g, off + i, none⟩ v).heap[g]? = some (.cells (cur.setIfInBounds (off + i) v) e fr) := by
      obtain ⟨hlt, hv⟩ := Array.getElem?_eq_some_iff.1 hg
      simp only [World.setCell]
      rw [Array.getElem?_eq_getElem (by simpa using hlt), Array.getElem_modify_self, hv]
      rfl
    obtain ⟨w', cur', g1, g2, g3, g4, g5, g6, g7, g8⟩ := ih (i + 1) (cur.setIfInBounds (off + i) v) (w.setCell ⟨g, off + i, none⟩ v) hg2 (by simp; omega) (by simpa using hfr) (fun u hu => h1 u (by simp [hu]))
    refine ⟨w', cur', ?_, g2, ?_, fun b hb => (g4 b hb).trans (Below.heap_setCell _ _ _ _ hb), by rw [g5]; simp [World.setCell], by rw [g6]; rfl, by rw [g7]; rfl, by rw [g8]; rfl⟩
    · simp only [storeCells, Sem.run_bind, hst, Result.andThen_ok, g1]
    · rw [g3, Array.toList_setIfInBounds, show off + (i + 1) = off + i + 1 from rfl, set_take _ _ _ (by simp; omega), set_drop _ _ _ _ (by omega)]
      simp [Nat.add_assoc, Nat.add_comm, Nat.add_left_comm]

def Blk.like : Blk → Blk → Prop
  | .row e sz _ _, .row e' sz' _ _ => e = e' ∧ sz = sz'
  | .box _ _, .box _ _ => True
  | _, _ => False

/-- One entry's block has been written. -/
theorem RelS.write (hr : RelS cx σ vals w) {id g : Nat} {s s' : Blk} {u : Value} (hi : σ[id]? = some s) (hl : s.live = true) (hl' : s'.live = true) (hs : Blk.like s s') (hu : vals[id]? = some u) (hg : blkOf u = some g)
    (hsame : ∀ b, b ≠ g → w'.heap[b]? = w.heap[b]?) (hsize : w'.heap.size = w.heap.size) (hos : w'.os = w.os) (htape : w'.tape = w.tape) (hout : w'.output = w.output)
    (hb : Keep cx σ vals w (σ.set id s') vals w' → RB cx (σ.set id s') vals w' s' u) : RelS cx (σ.set id s') vals w' ∧ Keep cx σ vals w (σ.set id s') vals w' := by
  have hlt := (List.getElem?_eq_some_iff.1 hi).1
  have hget := fun j => set_get (x := s') hlt j
  have hmut : ∀ b, Mut (σ.set id s') vals b → Mut σ vals b := by
    rintro b ⟨i, t, v, h1, h2, h3, h4⟩
    rw [hget] at h1
    split at h1
    · rename_i he; subst he; exact ⟨id, s, v, hi, hl, h3, h4⟩
    · exact ⟨i, t, v, h1, h2, h3, h4⟩
  have hne : ∀ b, Ok cx σ vals w b → b ≠ g := fun b h he => h.2.2 (he ▸ ⟨id, s, u, hi, hl, hu, hg⟩)
  have hk : Keep cx σ vals w (σ.set id s') vals w' := by
    refine ⟨fun _ _ h => h, by simp, fun b h => ⟨h.1, hsize ▸ h.2.1, fun hm => h.2.2 (hmut b hm)⟩, fun b h => hsame b (hne b h), fun i _ e sz ap els h => ?_, fun i _ e cs h => ?_⟩
    · rw [hget] at h
      split at h
      · rename_i he; subst he
        cases h
        cases s <;> simp [Blk.like] at hs
        obtain ⟨rfl, rfl⟩ := hs
        exact ⟨_, _, hi⟩
      · exact ⟨ap, els, h⟩
    · rw [hget] at h
      split at h
      · rename_i he; subst he
        cases h
        cases s <;> simp [Blk.like] at hs
        exact ⟨_, _, hi⟩
      · exact ⟨e, cs, h⟩
  have hblk := (hr.sto id s u hi hu).block hl hg
  have hfr : Fr cx (σ.set id s') vals w' := ⟨by rw [hsize]; exact hr.fr.size, fun b hb => (hsame b (fun he => hr.fr.mutn b (he ▸ ⟨id, s, u, hi, hl, hu, hg⟩) hb)).trans (hr.fr.same b hb), fun b hm => hr.fr.mutn b (hmut b hm)⟩
  refine ⟨⟨⟨hos.trans hr.below.os, htape.trans hr.below.tape, hout.trans hr.below.output, by rw [hsize]; exact hr.below.size, fun k hk ho => (hsame k (fun e => ho (e ▸ hblk.1))).trans (hr.below.block k hk ho)⟩, hr.one, by simp [hr.len], fun i t v h1 h2 => ?_, fun i j t1 t2 u1 u2 b hij h1 h2 h3 h4 h5 h6 h7 => ?_, hfr, hr.pin.keep hk⟩, hk⟩
  · rw [hget] at h1
    split at h1
    · rename_i he; subst he
      cases h1
      rw [hu] at h2; cases h2
      exact hb hk
    · rename_i he
      exact hk.rb (hr.sto i t v h1 h2) (fun hlv b hbv => hsame b (fun hbg => hr.dis i id t s v u b (fun h => he h.symm) h1 hi hlv hl h2 hu hbv (by rw [hg, hbg])))
  · rw [hget] at h1 h2
    have real : ∀ i t, (if id = i then some s' else σ[i]?) = some t → t.live = true → ∃ t', σ[i]? = some t' ∧ t'.live = true := by
      intro i t h hlv
      split at h
      · rename_i he; subst he; exact ⟨s, hi, hl⟩
      · exact ⟨t, h, hlv⟩
    obtain ⟨t1', g1, g2⟩ := real i t1 h1 h3
    obtain ⟨t2', g3, g4⟩ := real j t2 h2 h4
    exact hr.dis i j t1' t2' u1 u2 b hij g1 g3 g2 g4 h5 h6 h7

theorem RAL.oneCells (hr : RelS cx σ vals w) : ∀ (l : List AV) (vs : List Value), RAL (Ok cx σ vals w) σ vals w l vs → (∀ c ∈ l, c.one = true) → ∀ v ∈ vs, v.oneCell' = true := by
  intro l
  induction l with
  | nil => intro vs h _ v hv; simp only [RAL] at h; subst h; cases hv
  | cons c l ih =>
    intro vs h h1 v hv
    simp only [RAL] at h
    obtain ⟨u, r, rfl, h3, h4⟩ := h
    rcases List.mem_cons.1 hv with rfl | hv
    · have hc := h1 c (by simp)
      cases c with
      | pv x => simp only [RA] at h3; exact h3.oneCell hc
      | own id => simp only [RA] at h3; exact hr.one _ (List.mem_of_getElem? h3)
      | ref id idx off => simp only [RA] at h3; obtain ⟨_, ⟨ad, rfl⟩, _⟩ := h3; rfl
      | clo f caps => simp only [RA] at h3; obtain ⟨cv, rfl, _⟩ := h3; rfl
      | _ => cases hc
    · exact ih r h4 (fun d hd => h1 d (by simp [hd])) v hv

theorem RdL.oneCells {ok : Nat → Prop} {l : List PV} {vs : List Value} (h : RdL ok w l vs) (h1 : ∀ c ∈ l, c.one = true) : ∀ v ∈ vs, v.oneCell' = true := by
  intro v hv
  obtain ⟨j, hj⟩ := List.mem_iff_getElem?.1 hv
  have hjl : j < l.length := by rw [← h.length]; exact (List.getElem?_eq_some_iff.1 hj).1
  have hc := List.getElem?_eq_getElem hjl
  exact (((rdL_iff _ _).1 h).2 j _ v hc hj).oneCell (h1 _ (List.mem_of_getElem? hc))

theorem run_storeAt {P : Program} {t : TypeId} {i : TypeInfo} (hi : P.info? t = some i) (v : Value) (hsz : v.cells.size = i.size) (b off : Nat) :
    (Instr.storeAt t (.pointer (some ⟨b, off, none⟩)) v).run P w = (storeCells ⟨b, off, none⟩ v.cells.toList).run P w := by
  simp [Instr.storeAt, Instr.sureAddr, storeVar, sizeOf, typeInfo, hi, hsz]

theorem alikeK_spec {y : PV} {cs : List PV} {K : PV → Prop} (h : alikeK y cs K) (hy : ∀ l, y ≠ .tup l) (h1 : ∀ c ∈ cs, c.one = true) : ∃ y', K y' ∧ y'.cells = cs := by
  cases y with
  | agg l => exact ⟨_, h, rfl⟩
  | tup l => exact (hy l rfl).elim
  | _ =>
    cases cs with
    | nil => exact h.elim
    | cons c cs =>
      cases cs with
      | nil => exact ⟨c, h, by have := h1 c (by simp); cases c <;> first | rfl | cases this⟩
      | cons _ _ => exact h.elim

theorem out_store {K : AV → Sto → Prop} (hr : Rel cx env σ vals a w) (t : TypeId) (ti : TypeInfo) (x v : Operand) (ho : o.op = .store t x v) (hti : cx.P.info? t = some ti)
    (hK : storeK σ ti.size (evF env x) (evF env v) fun σ => K .bad σ) : Out cx env a w o K := by
  have hx := hr.ev x
  have hv := hr.ev v
  cases hev : evF env x with
  | ref id idx off =>
    rw [hev] at hK hx
    simp only [RA] at hx
    obtain ⟨hlt, _, hrow, hbox⟩ := hx
    obtain ⟨b, hb, hk⟩ := nthK_iff σ id _ hK
    obtain ⟨u, hu, hrb⟩ := hr.s.val hb
    cases b with
    | box e cs =>
      obtain ⟨u', g, hu', hg, hax⟩ := hbox e cs hb
      obtain rfl := getElem?_of hu hu'
      obtain ⟨g', arr, h1, h2, h3, h4, h5⟩ := hrb
      rw [h1] at hg
      obtain rfl : g' = g := by cases hg; rfl
      obtain ⟨vs, ⟨hlen, hk⟩, hra, hone⟩ := cellsK_spec hr.s hv hk
      obtain ⟨pre, mid, post, rfl, g1, g2, hk⟩ := spliceK_spec vs cs off _ hk
      obtain ⟨_, hk⟩ := setK_spec _ _ _ _ hk
      have hvl := hra.length
      have hsize : (a.eval v).cells.size = ti.size := by rw [← Array.length_toList, hvl, hlen]
      have harr := h5.length
      simp only [List.length_append, Array.length_toList] at harr
      obtain ⟨w', cur', f1, f2, f3, f4, f5, f6, f7, f8⟩ := run_stores cx.P g' off e (0, 0) (a.eval v).cells.toList 0 arr w h3 (by rw [hvl]; omega) (.inl rfl) (RAL.oneCells hr.s _ _ hra hone)
      obtain ⟨hs, hkp⟩ := hr.s.write (s' := .box e (pre ++ vs ++ post)) hb rfl rfl trivial hu (by rw [h1]; rfl) f4 f5 f6 f7 f8 (fun hkp => by
        refine ⟨g', cur', h1, h2, f2, ?_, ?_⟩
        · intro c hc
          simp only [List.mem_append] at hc
          rcases hc with (hc | hc) | hc
          · exact h4 c (by simp [hc])
          · exact hone c hc
          · exact h4 c (by simp [hc])
        · obtain ⟨v1, v3, hv1, r1, r3⟩ := (raL_append _ _ _).1 h5
          obtain ⟨v1, v2, rfl, r1, r2⟩ := (raL_append _ _ _).1 r1
          have e1 : arr.toList.take (off + 0) = v1 := by rw [hv1, Nat.add_zero, List.append_assoc]; exact List.take_left' (by rw [r1.length, g1])
          have e2 : arr.toList.drop (off + 0 + (a.eval v).cells.toList.length) = v3 := by
            rw [hv1]; exact List.drop_left' (by rw [List.length_append, r1.length, r2.length, hvl]; omega)
          rw [f3, e1, e2]
          exact (raL_append _ _ _).2 ⟨_, _, rfl, (raL_append _ _ _).2 ⟨_, _, rfl, hkp.raL _ _ r1, hkp.raL _ _ hra⟩, hkp.raL _ _ r3⟩)
      refine Out.skip ?_ (hr.keep hs hkp) hk
      simp [execOp, ho, hax, run_storeAt hti _ hsize, f1]
    | row e sz ap els =>
      obtain ⟨x1, hk2, _, _, hdet⟩ := read_spec hr.s _ _ _ hv hk
      obtain ⟨x2, σ1, rfl, hk3, hfz, hs1, hkp1, hrd, _⟩ := freeze_spec _ σ σ _ (fun z => z = x1) _ (Fz.refl σ) hr.s hv (hdet _ rfl) hk2
      have hr1 := hr.keep hs1 hkp1
      obtain ⟨b1, hb1, hk4⟩ := nthK_iff σ1 id _ hk3
      cases b1 with
      | row e1 sz1 ap1 els1 =>
        obtain ⟨y, hy, hxl, hk5⟩ := hk4
        obtain ⟨pre, mid, post, hycells, g1, g2, hk6⟩ := spliceK_spec _ _ off _ hk5
        have hu1 : vals[id]? = some u := hu
        have hrb1 := hs1.sto id _ _ hb1 hu1
        obtain ⟨hsz, cells, hown, hl, hone, hcs⟩ := hrb1
        -- the same row as before
        have hsame : e1 = e ∧ sz1 = sz ∧ ap1 = ap ∧ els1 = els := by
          rcases hfz id with h | ⟨_, _, _, _, _, h⟩
          · rw [h, hb] at hb1; cases hb1; exact ⟨rfl, rfl, rfl, rfl⟩
          · rw [h] at hb1; cases hb1
        obtain ⟨rfl, rfl, rfl, rfl⟩ := hsame
        obtain ⟨u', g, hu', hg, hax⟩ := hrow _ _ _ _ hb
        obtain rfl := getElem?_of hu hu'
        have hidx := (List.getElem?_eq_some_iff.1 hy).1
        have hymem := List.mem_of_getElem? hy
        have hels : els1 = els1.take idx ++ y :: els1.drop (idx + 1) := by
          have := List.getElem_cons_drop hidx
          rw [(List.getElem?_eq_some_iff.1 hy).2] at this
          rw [this, List.take_append_drop]
        have hxl' := lenB_spec _ _ hxl x2 (by simp)
        obtain ⟨hxc, hxone⟩ := rd_cells hrd hxl'.2
        have hyone : ∀ c ∈ y.cells, c.one = true := fun c hc => hone c (List.mem_flatMap.2 ⟨y, hymem, hc⟩)
        have hyt : ∀ l, y ≠ .tup l := by
          rintro l rfl
          have := hyone (.tup l) (by simp [PV.cells])
          cases this
        have hcsone : ∀ c ∈ pre ++ x2.cells ++ post, c.one = true := by
          intro c hc
          simp only [List.mem_append] at hc
          rcases hc with (hc | hc) | hc
          · exact hyone c (by rw [hycells]; simp [hc])
          · exact hxone c hc
          · exact hyone c (by rw [hycells]; simp [hc])
        obtain ⟨y', hk7, hy'⟩ := alikeK_spec hk6 hyt hcsone
        obtain ⟨_, hk8⟩ := setK_spec _ _ _ _ hk7
        have hset : els1.set idx y' = els1.take idx ++ y' :: els1.drop (idx + 1) := by
          rw [List.set_eq_take_append_cons_drop, if_pos hidx]
        have hyl : y.cells.length = sz1 := hl y hymem
        have hy'l : y'.cells.length = sz1 := by rw [hy', ← hyl, hycells]; simp [g2]
        -- where the cells lie
        have hT : ((els1.take idx).flatMap PV.cells).length = idx * sz1 := by
          rw [flat_length sz1 _ (fun z hz => hl z (List.mem_of_mem_take hz)), List.length_take, Nat.min_eq_left (Nat.le_of_lt hidx)]
        have hf1 : els1.flatMap PV.cells = ((els1.take idx).flatMap PV.cells ++ pre) ++ mid ++ (post ++ (els1.drop (idx + 1)).flatMap PV.cells) := by
          conv => lhs; rw [hels]
          rw [List.flatMap_append, List.flatMap_cons, hycells]; simp [List.append_assoc]
        have hf2 : (els1.set idx y').flatMap PV.cells = ((els1.take idx).flatMap PV.cells ++ pre) ++ x2.cells ++ (post ++ (els1.drop (idx + 1)).flatMap PV.cells) := by
          rw [hset, List.flatMap_append, List.flatMap_cons, hy']; simp [List.append_assoc]
        rw [hf1] at hcs
        obtain ⟨c12, c3, hcell, r12, r3⟩ := (rdL_append _ _ _).1 hcs
        obtain ⟨c1, c2, rfl, r1, r2⟩ := (rdL_append _ _ _).1 r12
        have hc1 : c1.length = idx * sz1 + off := by rw [r1.length, List.length_append, hT, g1]
        have hc2 : c2.length = x2.cells.length := by rw [r2.length, g2]
        have hvl := hxc.length
        have hsize : (a.eval v).cells.size = ti.size := by rw [← Array.length_toList, hvl, hxl'.1]
        rcases hown with ⟨hcl, ⟨_, h0⟩ | ⟨gg, cap, cur, fr, h1, h2, h3, h4, h5, h6, h7, h8⟩⟩
        · rw [h0] at hidx; omega
        · rw [h1] at hg
          obtain rfl : gg = g := by cases hg; rfl
          have hnle : els1.length * sz1 ≤ cur.size := by rw [h6]; exact Nat.mul_le_mul_right _ h4
          have hin : idx * sz1 + off + (a.eval v).cells.toList.length ≤ els1.length * sz1 := by
            have : (c1 ++ c2 ++ c3).length = els1.length * sz1 := by rw [← hcell, hcl]
            rw [List.length_append, List.length_append, hc1, hc2] at this
            omega
          obtain ⟨w', cur', f1, f2, f3, f4, f5, f6, f7, f8⟩ := run_stores cx.P gg (idx * sz1 + off) e1 fr (a.eval v).cells.toList 0 cur w h3 (by omega) (h8.imp (fun h => h) fun h => h.2) (RdL.oneCells hxc hxone)
          have hcurl : cur.toList = (c1 ++ c2 ++ c3) ++ cur.toList.drop (els1.length * sz1) := by
            rw [← hcell, ← h7, List.take_append_drop]
          have hcur' : cur'.toList = (c1 ++ (a.eval v).cells.toList ++ c3) ++ cur.toList.drop (els1.length * sz1) := by
            rw [f3, Nat.add_zero]
            have e1 : cur.toList.take (idx * sz1 + off) = c1 := by
              rw [hcurl, List.append_assoc, List.append_assoc]; exact List.take_left' hc1
            have e2 : cur.toList.drop (idx * sz1 + off + (a.eval v).cells.toList.length) = c3 ++ cur.toList.drop (els1.length * sz1) := by
              conv => lhs; rw [hcurl]
              rw [List.append_assoc]
              exact List.drop_left' (by rw [List.length_append, hc1, hc2, hvl])
            rw [e1, e2]; simp [List.append_assoc]
          have hnl : (els1.set idx y').length = els1.length := List.length_set
          obtain ⟨hs, hkp⟩ := hs1.write (s' := .row e1 sz1 ap1 (els1.set idx y')) hb1 rfl rfl ⟨rfl, rfl⟩ hu1 (by rw [h1]; rfl) f4 f5 f6 f7 f8 (fun hkp => by
            have hcsz : cur'.size = cur.size := by
              have e1 := congrArg List.length hcur'
              have e2 := congrArg List.length hcurl
              simp only [List.length_append, Array.length_toList, hvl, hc2] at e1 e2
              omega
            refine ⟨hsz, c1 ++ (a.eval v).cells.toList ++ c3, ⟨?_, .inr ⟨gg, cap, cur', fr, by rw [hnl]; exact h1, h2, f2, by rw [hnl]; exact h4, h5, by rw [hcsz, h6], ?_, by rw [hcsz]; exact h8⟩⟩, ?_, ?_, ?_⟩
            · rw [hnl, ← hcl, hcell]; simp only [List.length_append, hvl, hc2]
            · rw [hnl, hcur']
              refine List.take_left' ?_
              rw [← hcl, hcell]; simp only [List.length_append, hvl, hc2]
            · intro z hz
              rcases List.mem_or_eq_of_mem_set hz with hz | rfl
              · exact hl z hz
              · exact hy'l
            · intro c hc
              rw [hf2] at hc
              rw [hf1] at hone
              simp only [List.mem_append] at hc hone
              rcases hc with ((hc | hc) | hc) | hc
              · exact hone c (.inl (.inl (.inl hc)))
              · exact hone c (.inl (.inl (.inr hc)))
              · exact hxone c hc
              · exact hone c (.inr hc)
            · rw [hf2]
              exact (rdL_append _ _ _).2 ⟨_, _, rfl, (rdL_append _ _ _).2 ⟨_, _, rfl, hkp.rdL r1, hkp.rdL hxc⟩, hkp.rdL r3⟩)
          refine Out.skip ?_ (hr1.keep hs hkp) hk8
          simp [execOp, ho, hax, run_storeAt hti _ hsize, f1]
      | _ => exact hk4.elim
    | _ => exact hk.elim
  | _ => rw [hev] at hK; exact hK.elim
end
end Go.Dv
end
section
/-
  A part of the store, its entries numbered anew.
-/
set_option linter.unusedSimpArgs false
namespace Go.Dv
open Go.RowKit
section
variable {cx : Cx} {env : Env} {σ : Sto} {vals : List Value} {a : Act} {w w' : World}

theorem memB_spec (n : Nat) (l : List Nat) (h : memB n l = false) : n ∉ l := by
  induction l with
  | nil => simp
  | cons a l ih =>
    have h' : Bool.rec (motive := fun _ => Bool) (memB n l) true (Nat.beq a n) = false := h
    cases hb : Nat.beq a n with
    | true => rw [hb] at h'; cases h'
    | false =>
      rw [hb] at h'
      intro hm
      rcases List.mem_cons.1 hm with rfl | hm
      · simp at hb
      · exact ih h' hm

theorem addK_spec {n : Nat} {l : List Nat} {K : List Nat → Prop} (hl : l.Nodup) (h : addK n l K) : ∃ l', K l' ∧ l'.Nodup ∧ l <+: l' := by
  unfold addK at h
  cases hb : memB n l with
  | true => rw [hb] at h; exact ⟨l, h, hl, List.prefix_refl l⟩
  | false =>
    rw [hb] at h
    refine ⟨_, snocK_spec _ _ _ h, ?_, List.prefix_append _ _⟩
    rw [List.nodup_append]
    exact ⟨hl, by simp, fun a ha b hb' => by
      simp at hb'; subst hb'
      exact fun e => memB_spec _ _ hb (e ▸ ha)⟩

theorem idsAV_both : ∀ (a : AV) (l : List Nat) (K : List Nat → Prop), l.Nodup → idsAV a l K → ∃ l', K l' ∧ l'.Nodup ∧ l <+: l' := by
  intro a
  refine AV.rec (motive_1 := fun a => ∀ (l : List Nat) (K : List Nat → Prop), l.Nodup → idsAV a l K → ∃ l', K l' ∧ l'.Nodup ∧ l <+: l')
    (motive_2 := fun as => ∀ (l : List Nat) (K : List Nat → Prop), l.Nodup → (AV.rec_1 (motive_1 := fun _ => List Nat → (List Nat → Prop) → Prop) (motive_2 := fun _ => List Nat → (List Nat → Prop) → Prop)
      (fun l K => K l) (fun _ l K => K l) (fun id l K => addK id l K) (fun id _ _ l K => addK id l K)
      (fun _ ih l K => ih l K) (fun _ ih l K => ih l K) (fun _ _ ih l K => ih l K) (fun l K => K l) (fun _ _ h t l K => h l fun l => t l K) as : List Nat → (List Nat → Prop) → Prop) l K → ∃ l', K l' ∧ l'.Nodup ∧ l <+: l')
    ?_ ?_ ?_ ?_ ?_ ?_ ?_ ?_ ?_ a
  · intro l K hl h; exact ⟨l, h, hl, List.prefix_refl l⟩
  · intro x l K hl h; exact ⟨l, h, hl, List.prefix_refl l⟩
  · intro id l K hl h; exact addK_spec hl h
  · intro id _ _ l K hl h; exact addK_spec hl h
  · intro cs ih l K hl h; exact ih l K hl h
  · intro cs ih l K hl h; exact ih l K hl h
  · intro f cs ih l K hl h; exact ih l K hl h
  · intro l K hl h; exact ⟨l, h, hl, List.prefix_refl l⟩
  · intro x xs h1 h2 l K hl h
    obtain ⟨l', h3, h4, h5⟩ := h1 l _ hl h
    obtain ⟨l2, h6, h7, h8⟩ := h2 l' K h4 h3
    exact ⟨l2, h6, h7, h5.trans h8⟩

theorem idsAVs_spec (as : List AV) : ∀ (l : List Nat) (K : List Nat → Prop), l.Nodup → idsAVs as l K → ∃ l', K l' ∧ l'.Nodup ∧ l <+: l' := by
  induction as with
  | nil => intro l K hl h; exact ⟨l, h, hl, List.prefix_refl l⟩
  | cons a as ih =>
    intro l K hl h
    obtain ⟨l', h1, h2, h3⟩ := idsAV_both a l _ hl h
    obtain ⟨l2, h4, h5, h6⟩ := ih l' K h2 h1
    exact ⟨l2, h4, h5, h3.trans h6⟩

theorem idsEnv_spec (e : Env) : ∀ (l : List Nat) (K : List Nat → Prop), l.Nodup → idsEnv e l K → ∃ l', K l' ∧ l'.Nodup ∧ l <+: l' := by
  induction e with
  | nil => intro l K hl h; exact ⟨l, h, hl, List.prefix_refl l⟩
  | cons a as ih =>
    intro l K hl h
    obtain ⟨l', h1, h2, h3⟩ := idsAV_both a.2 l _ hl h
    obtain ⟨l2, h4, h5, h6⟩ := ih l' K h2 h1
    exact ⟨l2, h4, h5, h3.trans h6⟩

theorem idsBox_spec (σ : Sto) (r : List Nat) : ∀ (l : List Nat) (K : List Nat → Prop), l.Nodup → idsBox σ r l K → ∃ l', K l' ∧ l'.Nodup ∧ l <+: l' := by
  induction r with
  | nil => intro l K hl h; exact ⟨l, h, hl, List.prefix_refl l⟩
  | cons i r ih =>
    intro l K hl h
    obtain ⟨b, h1, h2⟩ := nthK_iff _ _ _ h
    cases b with
    | box e cs =>
      obtain ⟨l', h3, h4, h5⟩ := idsAVs_spec cs l _ hl h2
      obtain ⟨l2, h6, h7, h8⟩ := ih l' K h4 h3
      exact ⟨l2, h6, h7, h5.trans h8⟩
    | _ => exact ih l K hl h2

theorem placeK_spec (n : Nat) (r : List Nat) : ∀ (K : Nat → Prop), placeK n r K False → ∃ j, r[j]? = some n ∧ K j := by
  induction r with
  | nil => intro K h; exact h.elim
  | cons a r ih =>
    intro K h
    have h' : Bool.rec (motive := fun _ => Prop) (placeK n r (fun j => K (Nat.succ j)) False) (K 0) (Nat.beq a n) := h
    cases hb : Nat.beq a n with
    | true =>
      rw [hb] at h'
      exact ⟨0, by simp [Nat.eq_of_beq_eq_true hb], h'⟩
    | false =>
      rw [hb] at h'
      obtain ⟨j, h1, h2⟩ := ih _ h'
      exact ⟨j + 1, by simpa using h1, h2⟩

mutual
/-- The same slot, its rows numbered anew. -/
def Ren (r : List Nat) : AV → AV → Prop
  | .bad, y => y = .bad
  | .pv x, y => y = .pv x
  | .own i, y => ∃ j, r[j]? = some i ∧ y = .own j
  | .ref i k o, y => ∃ j, r[j]? = some i ∧ y = .ref j k o
  | .agg cs, y => ∃ ds, y = .agg ds ∧ RenL r cs ds
  | .tup cs, y => ∃ ds, y = .tup ds ∧ RenL r cs ds
  | .clo f cs, y => ∃ ds, y = .clo f ds ∧ RenL r cs ds
def RenL (r : List Nat) : List AV → List AV → Prop
  | [], ys => ys = []
  | x :: xs, ys => ∃ y t, ys = y :: t ∧ Ren r x y ∧ RenL r xs t
end

theorem renAV_spec (r : List Nat) : ∀ (a : AV) (K : AV → Prop), renAV r a K → ∃ b, K b ∧ Ren r a b := by
  intro a
  refine AV.rec (motive_1 := fun a => ∀ K : AV → Prop, renAV r a K → ∃ b, K b ∧ Ren r a b)
    (motive_2 := fun as => ∀ K : List AV → Prop, (AV.rec_1 (motive_1 := fun _ => (AV → Prop) → Prop) (motive_2 := fun _ => (List AV → Prop) → Prop)
      (fun K => K .bad) (fun x K => K (.pv x)) (fun id K => placeK id r (fun j => K (.own j)) False) (fun id i o K => placeK id r (fun j => K (.ref j i o)) False)
      (fun _ ih K => ih fun l => K (.agg l)) (fun _ ih K => ih fun l => K (.tup l)) (fun f _ ih K => ih fun l => K (.clo f l)) (fun K => K []) (fun _ _ h t K => h fun a => t fun l => K (a :: l)) as : (List AV → Prop) → Prop) K → ∃ bs, K bs ∧ RenL r as bs)
    ?_ ?_ ?_ ?_ ?_ ?_ ?_ ?_ ?_ a
  · intro K h; exact ⟨_, h, by simp only [Ren]⟩
  · intro x K h; exact ⟨_, h, by simp only [Ren]⟩
  · intro id K h
    obtain ⟨j, h1, h2⟩ := placeK_spec _ _ _ h
    exact ⟨_, h2, by simp only [Ren]; exact ⟨j, h1, rfl⟩⟩
  · intro id i o K h
    obtain ⟨j, h1, h2⟩ := placeK_spec _ _ _ h
    exact ⟨_, h2, by simp only [Ren]; exact ⟨j, h1, rfl⟩⟩
  · intro cs ih K h
    obtain ⟨bs, h1, h2⟩ := ih _ h
    exact ⟨_, h1, by simp only [Ren]; exact ⟨bs, rfl, h2⟩⟩
  · intro cs ih K h
    obtain ⟨bs, h1, h2⟩ := ih _ h
    exact ⟨_, h1, by simp only [Ren]; exact ⟨bs, rfl, h2⟩⟩
  · intro f cs ih K h
    obtain ⟨bs, h1, h2⟩ := ih _ h
    exact ⟨_, h1, by simp only [Ren]; exact ⟨bs, rfl, h2⟩⟩
  · intro K h; exact ⟨[], h, by simp only [RenL]⟩
  · intro x xs h1 h2 K h
    obtain ⟨b, h3, h4⟩ := h1 _ h
    obtain ⟨bs, h5, h6⟩ := h2 _ h3
    exact ⟨_, h5, by simp only [RenL]; exact ⟨b, bs, rfl, h4, h6⟩⟩

theorem renAVs_spec (r : List Nat) (as : List AV) : ∀ (K : List AV → Prop), renAVs r as K → ∃ bs, K bs ∧ RenL r as bs := by
  induction as with
  | nil => intro K h; exact ⟨[], h, by simp only [RenL]⟩
  | cons x xs ih =>
    intro K h
    obtain ⟨b, h3, h4⟩ := renAV_spec r x _ h
    obtain ⟨bs, h5, h6⟩ := ih _ h3
    exact ⟨_, h5, by simp only [RenL]; exact ⟨b, bs, rfl, h4, h6⟩⟩

theorem renEnv_spec (r : List Nat) (e : Env) : ∀ (K : Env → Prop), renEnv r e K → ∃ e', K e' ∧ ∀ p, Ren r (lookF p e) (lookF p e') := by
  induction e with
  | nil => intro K h; exact ⟨[], h, fun p => by simp only [lookF, Ren]⟩
  | cons x xs ih =>
    intro K h
    obtain ⟨b, h3, h4⟩ := renAV_spec r x.2 _ h
    obtain ⟨bs, h5, h6⟩ := ih _ h3
    refine ⟨_, h5, fun p => ?_⟩
    obtain ⟨q, v⟩ := x
    simp only [lookF]
    cases Nat.beq q p with
    | true => exact h4
    | false => exact h6 p

/-- The same row, its cells' rows numbered anew. -/
def RenB (r : List Nat) : Blk → Blk → Prop
  | .box e cs, t => ∃ ds, t = .box e ds ∧ RenL r cs ds
  | s, t => t = s

theorem renBlk_spec (r : List Nat) (b : Blk) (K : Blk → Prop) (h : renBlk r b K) : ∃ t, K t ∧ RenB r b t := by
  cases b with
  | box e cs =>
    obtain ⟨ds, h1, h2⟩ := renAVs_spec r cs _ h
    exact ⟨_, h1, ds, rfl, h2⟩
  | _ => exact ⟨_, h, rfl⟩

theorem renSto_spec (σ : Sto) (r l : List Nat) : ∀ (K : Sto → Prop), renSto σ r l K → ∃ σ', K σ' ∧ σ'.length = l.length ∧ ∀ (j i : Nat), l[j]? = some i → ∃ s t, σ[i]? = some s ∧ σ'[j]? = some t ∧ RenB r s t := by
  induction l with
  | nil => intro K h; exact ⟨[], h, rfl, fun j i hj => by simp at hj⟩
  | cons i l ih =>
    intro K h
    obtain ⟨s, h1, h2⟩ := nthK_iff _ _ _ h
    obtain ⟨t, h3, h4⟩ := renBlk_spec r s _ h2
    obtain ⟨σ', h5, h6, h7⟩ := ih _ h3
    refine ⟨_, h5, by simp [h6], fun j i' hj => ?_⟩
    cases j with
    | zero => simp at hj; subst hj; exact ⟨s, t, h1, rfl, h4⟩
    | succ j => exact h7 j i' (by simpa using hj)

theorem RenB.live {r : List Nat} {s t : Blk} (h : RenB r s t) : t.live = s.live := by
  cases s with
  | box e cs => obtain ⟨ds, rfl, _⟩ := h; rfl
  | _ => cases h; rfl

mutual
theorem Ren.one {r : List Nat} : ∀ {x y : AV}, Ren r x y → x.one = true → y.one = true
  | .pv x, y, h, hx => by simp only [Ren] at h; rw [h]; exact hx
  | .own i, y, h, _ => by simp only [Ren] at h; obtain ⟨j, _, rfl⟩ := h; rfl
  | .bad, _, _, hx => by cases hx
  | .ref _ _ _, y, h, _ => by simp only [Ren] at h; obtain ⟨j, _, rfl⟩ := h; rfl
  | .clo _ _, y, h, _ => by simp only [Ren] at h; obtain ⟨j, rfl, _⟩ := h; rfl
  | .agg _, _, _, hx => by cases hx
  | .tup _, _, _, hx => by cases hx
end

theorem Ren.oneB {r : List Nat} : ∀ {x y : AV}, Ren r x y → y.one = true → x.one = true := by
  intro x y h hy
  cases x with
  | pv x => simp only [Ren] at h; subst h; exact hy
  | own i => rfl
  | ref _ _ _ => rfl
  | clo _ _ => rfl
  | bad => simp only [Ren] at h; subst h; exact hy
  | agg cs => simp only [Ren] at h; obtain ⟨ds, rfl, _⟩ := h; cases hy
  | tup cs => simp only [Ren] at h; obtain ⟨ds, rfl, _⟩ := h; cases hy

theorem RenL.onesB {r : List Nat} : ∀ {xs ys : List AV}, RenL r xs ys → (∀ c ∈ ys, c.one = true) → ∀ c ∈ xs, c.one = true
  | [], ys, h, _ => by simp
  | x :: xs, ys, h, hx => by
    simp only [RenL] at h
    obtain ⟨y, t, rfl, h1, h2⟩ := h
    intro c hc
    rcases List.mem_cons.1 hc with rfl | hc
    · exact h1.oneB (hx y (by simp))
    · exact h2.onesB (fun c hc => hx c (by simp [hc])) c hc

theorem RenL.ones {r : List Nat} : ∀ {xs ys : List AV}, RenL r xs ys → (∀ c ∈ xs, c.one = true) → ∀ c ∈ ys, c.one = true
  | [], ys, h, _ => by simp only [RenL] at h; subst h; simp
  | x :: xs, ys, h, hx => by
    simp only [RenL] at h
    obtain ⟨y, t, rfl, h1, h2⟩ := h
    intro c hc
    rcases List.mem_cons.1 hc with rfl | hc
    · exact h1.one (hx x (by simp))
    · exact h2.ones (fun c hc => hx c (by simp [hc])) c hc

/-- The world of a store that is numbered anew. -/
structure Anew (r : List Nat) (σ σ' : Sto) (vals vals' : List Value) : Prop where
  nodup : r.Nodup
  len : σ'.length = r.length
  sto : ∀ (j i : Nat), r[j]? = some i → ∃ s t, σ[i]? = some s ∧ σ'[j]? = some t ∧ RenB r s t
  vlen : vals'.length = r.length
  vals : ∀ (j i : Nat), r[j]? = some i → vals'[j]? = vals[i]? ∧ ∃ v, vals[i]? = some v

mutual
theorem Ren.ra {r : List Nat} {σ' : Sto} {vals' : List Value} (hA : Anew r σ σ' vals vals') {ok ok' : Nat → Prop} (hok : ∀ b, ok b → ok' b) : ∀ (x y : AV) (v : Value), Ren r x y → RA ok σ vals w x v → RA ok' σ' vals' w y v
  | .bad, y, v, h, _ => by simp only [Ren] at h; subst h; simp only [RA]
  | .pv x, y, v, h, hv => by
    simp only [Ren] at h; subst h; simp only [RA] at hv ⊢
    exact Rd.mono hok (fun _ _ _ => rfl) x v hv
  | .own i, y, v, h, hv => by
    simp only [Ren] at h; obtain ⟨j, hj, rfl⟩ := h
    simp only [RA] at hv ⊢
    rw [(hA.vals j i hj).1]; exact hv
  | .ref i k o, y, v, h, hv => by
    simp only [Ren] at h; obtain ⟨j, hj, rfl⟩ := h
    simp only [RA] at hv ⊢
    obtain ⟨_, hp, h1, h2⟩ := hv
    obtain ⟨s, t, hs, ht, hst⟩ := hA.sto j i hj
    refine ⟨(List.getElem?_eq_some_iff.1 ht).1, hp, fun e sz ap els he => ?_, fun e cs he => ?_⟩
    · rw [ht] at he
      cases he
      have : s = .row e sz ap els := by
        cases s with
        | box e cs => obtain ⟨ds, h, _⟩ := hst; cases h
        | _ => exact hst.symm
      subst this
      rw [(hA.vals j i hj).1]
      exact h1 _ _ _ _ hs
    · rw [ht] at he
      cases he
      cases s with
      | box e' cs' =>
        obtain ⟨ds, h, _⟩ := hst
        cases h
        rw [(hA.vals j i hj).1]
        exact h2 _ _ hs
      | _ => cases hst
  | .agg cs, y, v, h, hv => by
    simp only [Ren] at h; obtain ⟨ds, rfl, h⟩ := h
    simp only [RA] at hv ⊢
    obtain ⟨h1, vs, rfl, h2⟩ := hv
    exact ⟨h.ones h1, vs, rfl, RenL.ra hA hok cs ds _ h h2⟩
  | .tup cs, y, v, h, hv => by
    simp only [Ren] at h; obtain ⟨ds, rfl, h⟩ := h
    simp only [RA] at hv ⊢
    obtain ⟨vs, rfl, h2⟩ := hv
    exact ⟨vs, rfl, RenL.ra hA hok cs ds _ h h2⟩
  | .clo f cs, y, v, h, hv => by
    simp only [Ren] at h; obtain ⟨ds, rfl, h⟩ := h
    simp only [RA] at hv ⊢
    obtain ⟨vs, rfl, h2⟩ := hv
    exact ⟨vs, rfl, RenL.ra hA hok cs ds _ h h2⟩
theorem RenL.ra {r : List Nat} {σ' : Sto} {vals' : List Value} (hA : Anew r σ σ' vals vals') {ok ok' : Nat → Prop} (hok : ∀ b, ok b → ok' b) : ∀ (xs ys : List AV) (vs : List Value), RenL r xs ys → RAL ok σ vals w xs vs → RAL ok' σ' vals' w ys vs
  | [], ys, vs, h, hv => by simp only [RenL] at h; subst h; simpa only [RAL] using hv
  | x :: xs, ys, vs, h, hv => by
    simp only [RenL] at h
    obtain ⟨y, t, rfl, h1, h2⟩ := h
    simp only [RAL] at hv ⊢
    obtain ⟨v, u, rfl, h3, h4⟩ := hv
    exact ⟨v, u, rfl, Ren.ra hA hok x y v h1 h3, RenL.ra hA hok xs t u h2 h4⟩
end

end
end Go.Dv
end
section
/-
  Calls by contract.
-/
set_option linter.unusedSimpArgs false
namespace Go.Dv
open Go.RowKit

mutual
/-- A result reads as said; 'us' are the rows that it hands out as new ones. -/
def RR (ok : Nat → Prop) (B : Nat → Prop) (w : World) : RV → Value → List Value → Prop
  | .pv x, v, us => Rd ok w x v ∧ us = []
  | .fresh e sz els, v, us => us = [v] ∧ 0 < sz ∧ ∃ cells, Owns w B e sz true v els.length cells ∧ (∀ x ∈ els, x.cells.length = sz) ∧ (∀ c ∈ els.flatMap PV.cells, c.one = true) ∧ RdL ok w (els.flatMap PV.cells) cells
  | .agg rs, v, us => ∃ vs, v = .agg vs ∧ (∀ r ∈ rs, match r with | .pv x => x.one = true | .fresh _ _ _ => True | _ => False) ∧ RRL ok B w rs vs.toList us
  | .tup rs, v, us => ∃ vs, v = .tuple vs ∧ RRL ok B w rs vs.toList us
def RRL (ok : Nat → Prop) (B : Nat → Prop) (w : World) : List RV → List Value → List Value → Prop
  | [], vs, us => vs = [] ∧ us = []
  | r :: rs, vs, us => ∃ v t us1 us2, vs = v :: t ∧ us = us1 ++ us2 ∧ RR ok B w r v us1 ∧ RRL ok B w rs t us2
end

/-- What a contract's results may reach: the arguments' memory (unless 'lone'), and what the call has made. -/
def OkR (ok : Nat → Prop) (lone : Bool) (w w' : World) (us : List Value) (b : Nat) : Prop :=
  ((lone = false ∧ ok b) ∨ w.heap.size ≤ b) ∧ b < w'.heap.size ∧ ∀ u ∈ us, blkOf u ≠ some b

/-- A number, a string or a bool as the model has it. -/
def encV : PV → Value
  | .bool b => .bool b
  | .int k n => .int k n
  | .str l => .string ⟨l.toArray⟩
  | _ => undef

/-- What a round keeps for an iterator: the blocks that it reads. -/
def KpOf (okI : Nat → Prop) (W W' : World) : Prop := W.heap.size ≤ W'.heap.size ∧ ∀ b, okI b → W'.heap[b]? = W.heap[b]?

/-- What a contract says of an iterator. -/
def IterAt (P : Program) (g : FuncId) (iter : List PV → List (List PV) → Prop) : Prop :=
  ∀ (m : Nat) (w : World) (okI : Nat → Prop) (caps : List PV) (vs : Array Value) (L : List (List PV)), (∀ b, okI b → b < w.heap.size) → RdL okI w caps vs.toList → iter caps L →
    SeqStopsK Fence.wide m P g vs (fun x : { x : List PV // x ∈ L } => (x.1.map encV).toArray) (KpOf okI) (fun xs => xs.map (·.1) = L) (fun pre => pre.map (·.1) <+: L) L.length w ∧
      ∀ (args : Array Value) (w : World), (callFunc g args).run P w = .ok (.enter g args) w

/-- The setting of a call that is handed a part of the store. -/
def mcx (P : Program) (w : World) (ok : Nat → Prop) (hok : ∀ b, ok b → b < w.heap.size) (σ0 : Sto) (vals0 : List Value) : Cx :=
  { P := P, w0 := w, okA := ok, hA := hok, own := fun b => w.heap.size ≤ b ∨ Mut σ0 vals0 b, hown := fun _ h => .inl h, pinS := σ0, pinV := vals0 }

/-- A call of f enters it. -/
def Enters (P : Program) (f : FuncId) : Prop := ∀ (args : Array Value) (w : World), (callFunc f args).run P w = .ok (.enter f args) w

/-- What a contract says of the model's own run. -/
def SoundAt (P : Program) (f : FuncId) (S : Spec) : Prop :=
  (S.fn = true → ∀ ps K, S.run ps K → ∃ x, K (.pv x) ∧ ∀ K' : RV → Prop, K' (.pv x) → S.run ps K') ∧ (S.fn = true → S.lone = true ∧ S.mu = false) ∧
  (∀ (w : World) (ok : Nat → Prop) (ps : List PV) (vs : Array Value) (K : RV → Prop), S.mu = false → (∀ b, ok b → b < w.heap.size) → RdL ok w ps vs.toList → S.run ps K →
    Enters P f ∧ Calls P f vs w fun e w' => ∃ v r us, e = .returned v ∧ K r ∧ Below w.heap.size w w' ∧ RR (OkR ok S.lone w w' us) (fun b => w.heap.size ≤ b) w' r v us ∧
      (∀ u ∈ us, ∀ b, blkOf u = some b → w.heap.size ≤ b) ∧ ∀ (i j : Nat) (u t : Value) (b : Nat), i ≠ j → us[i]? = some u → us[j]? = some t → blkOf u = some b → blkOf t ≠ some b) ∧ IterAt P f S.iter ∧
  (∀ (w : World) (ok : Nat → Prop) (hok : ∀ b, ok b → b < w.heap.size) (σ0 : Sto) (vals0 : List Value) (as : List AV) (vs : Array Value) (K : AV → Sto → Prop), S.mu = true → RelS (mcx P w ok hok σ0 vals0) σ0 vals0 w →
    RAL (Ok (mcx P w ok hok σ0 vals0) σ0 vals0 w) σ0 vals0 w as vs.toList → S.mrun as σ0 K →
    Enters P f ∧ Calls P f vs w fun e w' => ∃ v res σ1 vals1, e = .returned v ∧ K res σ1 ∧ RelS (mcx P w ok hok σ0 vals0) σ1 vals1 w' ∧ RA (Ok (mcx P w ok hok σ0 vals0) σ1 vals1 w') σ1 vals1 w' res v)

def Sound (P : Program) (Γ : Ctx) : Prop := ∀ f, SoundAt P f (Γ f)

section
variable {cx : Cx} {env : Env} {σ : Sto} {vals : List Value} {a : Act} {w w' : World} {o : Oper}

theorem app_get {α : Type} (l m : List α) (j : Nat) : (l ++ m)[j]? = if j < l.length then l[j]? else m[j - l.length]? := by
  by_cases h : j < l.length
  · rw [if_pos h, List.getElem?_append_left h]
  · rw [if_neg h, List.getElem?_append_right (by omega)]

/-- New entries of the store, over a world that has grown. -/
theorem RelS.pushes (hr : RelS cx σ vals w) (hbw : Below w.heap.size w w') (ss : List Blk) (us : List Value) (hlen : us.length = ss.length) (hone : ∀ u ∈ us, u.oneCell' = true) (hfresh : ∀ u ∈ us, ∀ b, blkOf u = some b → w.heap.size ≤ b)
    (hdis : ∀ (i j : Nat) (u t : Value) (b : Nat), i ≠ j → us[i]? = some u → us[j]? = some t → blkOf u = some b → blkOf t ≠ some b)
    (hb : Keep cx σ vals w (σ ++ ss) (vals ++ us) w' → ∀ (i : Nat) (s : Blk) (u : Value), ss[i]? = some s → us[i]? = some u → RB cx (σ ++ ss) (vals ++ us) w' s u) :
    RelS cx (σ ++ ss) (vals ++ us) w' ∧ Keep cx σ vals w (σ ++ ss) (vals ++ us) w' := by
  obtain ⟨hr', hk'⟩ := hr.grow hbw
  have hmut : ∀ b, Mut (σ ++ ss) (vals ++ us) b → Mut σ vals b ∨ w.heap.size ≤ b := by
    rintro b ⟨i, s, u, h1, h2, h3, h4⟩
    rw [app_get] at h1 h3
    rw [hr.len] at h3
    split at h1
    · rename_i he; rw [if_pos he] at h3; exact .inl ⟨i, s, u, h1, h2, h3, h4⟩
    · rename_i he; rw [if_neg he] at h3; exact .inr (hfresh u (List.mem_of_getElem? h3) b h4)
  have hk : Keep cx σ vals w (σ ++ ss) (vals ++ us) w' := by
    refine ⟨fun i u h => ?_, by simp, fun b h => ⟨h.1, Nat.lt_of_lt_of_le h.2.1 hbw.size, fun hm => ?_⟩, fun b h => hbw.block b h.2.1, fun i hi e sz ap els h => ?_, fun i hi e cs h => ?_⟩
    · rw [app_get, if_pos (List.getElem?_eq_some_iff.1 h).1]; exact h
    · rcases hmut b hm with hm | h2
      · exact h.2.2 hm
      · have := h.2.1; omega
    · rw [app_get, if_pos hi] at h; exact ⟨ap, els, h⟩
    · rw [app_get, if_pos hi] at h; exact ⟨e, cs, h⟩
  have hfr : Fr cx (σ ++ ss) (vals ++ us) w' := ⟨hr'.fr.size, hr'.fr.same, fun b hm hkp => by
    rcases hmut b hm with hm | hm
    · exact hr.fr.mutn b hm hkp
    · have := cx.hk b hkp; have := hr.fr.size; omega⟩
  refine ⟨⟨hr'.below, fun u hu => by rcases List.mem_append.1 hu with hu | hu; exact hr.one u hu; exact hone u hu, by simp [hr.len, hlen], fun i t u h1 h2 => ?_, fun i j t1 t2 u1 u2 b hij h1 h2 h3 h4 h5 h6 h7 => ?_, hfr, hr.pin.keep hk⟩, hk⟩
  · rw [app_get] at h1 h2
    rw [hr.len] at h2
    split at h1
    · rename_i he
      rw [if_pos he] at h2
      exact hk.rb (hr.sto i t u h1 h2) (fun hl b hbl => hbw.block b ((hr.sto i t u h1 h2).block hl hbl).2)
    · rename_i he
      rw [if_neg he] at h2
      exact hb hk _ t u h1 h2
  · rw [app_get] at h1 h2 h5 h6
    rw [hr.len] at h5 h6
    intro h8
    split at h1
    · rename_i hi
      rw [if_pos hi] at h5
      have g1 := ((hr.sto i t1 u1 h1 h5).block h3 h7).2
      split at h2
      · rename_i hj
        rw [if_pos hj] at h6
        exact hr.dis i j t1 t2 u1 u2 b hij h1 h2 h3 h4 h5 h6 h7 h8
      · rename_i hj
        rw [if_neg hj] at h6
        have := hfresh u2 (List.mem_of_getElem? h6) b h8
        omega
    · rename_i hi
      rw [if_neg hi] at h5
      have g1 := hfresh u1 (List.mem_of_getElem? h5) b h7
      split at h2
      · rename_i hj
        rw [if_pos hj] at h6
        have := ((hr.sto j t2 u2 h2 h6).block h4 h8).2
        omega
      · rename_i hj
        rw [if_neg hj] at h6
        exact hdis _ _ u1 u2 b (by omega) h5 h6 h7 h8

/-! ### A result comes into the store -/
mutual
def newsOf : RV → List Blk
  | .pv _ => []
  | .fresh e sz els => [.row e sz true els]
  | .agg rs => newsL rs
  | .tup rs => newsL rs
def newsL : List RV → List Blk
  | [] => []
  | r :: rs => newsOf r ++ newsL rs
end

mutual
def avOf : Nat → RV → AV
  | _, .pv x => .pv x
  | n, .fresh _ _ _ => .own n
  | n, .agg rs => .agg (avL n rs)
  | n, .tup rs => .tup (avL n rs)
def avL : Nat → List RV → List AV
  | _, [] => []
  | n, r :: rs => avOf n r :: avL (n + (newsOf r).length) rs
end

theorem takeRV_both : (∀ (r : RV) (σ : Sto) (K : AV → Sto → Prop), takeRV r σ K → K (avOf σ.length r) (σ ++ newsOf r)) := by
  intro r
  refine RV.rec (motive_1 := fun r => ∀ (σ : Sto) (K : AV → Sto → Prop), takeRV r σ K → K (avOf σ.length r) (σ ++ newsOf r))
    (motive_2 := fun rs => ∀ (σ : Sto) (K : List AV → Sto → Prop),
      (RV.rec_1 (motive_1 := fun _ => Sto → (AV → Sto → Prop) → Prop) (motive_2 := fun _ => Sto → (List AV → Sto → Prop) → Prop)
        (fun x σ K => K (.pv x) σ) (fun e sz els σ K => lenK σ fun n => snocK σ (.row e sz true els) fun σ => K (.own n) σ)
        (fun _ ih σ K => ih σ fun l σ => K (.agg l) σ) (fun _ ih σ K => ih σ fun l σ => K (.tup l) σ) (fun σ K => K [] σ)
        (fun _ _ h t σ K => h σ fun a σ => t σ fun l σ => K (a :: l) σ) rs : Sto → (List AV → Sto → Prop) → Prop) σ K → K (avL σ.length rs) (σ ++ newsL rs))
    ?_ ?_ ?_ ?_ ?_ ?_ r
  · intro x σ K h
    have h' : K (.pv x) σ := h
    simpa [avOf, newsOf] using h'
  · intro e sz els σ K h; exact snocK_spec _ _ _ (lenK_spec σ _ h)
  · intro rs ih σ K h; exact ih σ _ h
  · intro rs ih σ K h; exact ih σ _ h
  · intro σ K h
    have h' : K [] σ := h
    simpa [avL, newsL] using h'
  · intro r rs ih1 ih2 σ K h
    have h1 := ih1 σ _ h
    have h2 := ih2 _ _ h1
    simpa [avL, newsL, List.append_assoc] using h2

theorem RR.news {ok : Nat → Prop} {B : Nat → Prop} : (∀ (r : RV) (v : Value) (us : List Value), RR ok B w r v us → us.length = (newsOf r).length ∧ ∀ (i : Nat) (s : Blk) (u : Value), (newsOf r)[i]? = some s → us[i]? = some u →
    ∃ e sz els cells, s = .row e sz true els ∧ 0 < sz ∧ Owns w B e sz true u els.length cells ∧ (∀ x ∈ els, x.cells.length = sz) ∧ (∀ c ∈ els.flatMap PV.cells, c.one = true) ∧ RdL ok w (els.flatMap PV.cells) cells) := by
  intro r
  refine RV.rec (motive_1 := fun r => ∀ (v : Value) (us : List Value), RR ok B w r v us → us.length = (newsOf r).length ∧ ∀ (i : Nat) (s : Blk) (u : Value), (newsOf r)[i]? = some s → us[i]? = some u →
      ∃ e sz els cells, s = .row e sz true els ∧ 0 < sz ∧ Owns w B e sz true u els.length cells ∧ (∀ x ∈ els, x.cells.length = sz) ∧ (∀ c ∈ els.flatMap PV.cells, c.one = true) ∧ RdL ok w (els.flatMap PV.cells) cells)
    (motive_2 := fun rs => ∀ (vs : List Value) (us : List Value), RRL ok B w rs vs us → us.length = (newsL rs).length ∧ ∀ (i : Nat) (s : Blk) (u : Value), (newsL rs)[i]? = some s → us[i]? = some u →
      ∃ e sz els cells, s = .row e sz true els ∧ 0 < sz ∧ Owns w B e sz true u els.length cells ∧ (∀ x ∈ els, x.cells.length = sz) ∧ (∀ c ∈ els.flatMap PV.cells, c.one = true) ∧ RdL ok w (els.flatMap PV.cells) cells)
    ?_ ?_ ?_ ?_ ?_ ?_ r
  · intro x v us h; simp only [RR] at h; rw [h.2]; exact ⟨rfl, fun i s u h => by simp [newsOf] at h⟩
  · intro e sz els v us h
    simp only [RR] at h
    obtain ⟨rfl, h0, cells, h1, h2, h3, h4⟩ := h
    refine ⟨rfl, fun i s u g1 g2 => ?_⟩
    cases i with
    | zero => simp [newsOf] at g1 g2; subst g1 g2; exact ⟨e, sz, els, cells, rfl, h0, h1, h2, h3, h4⟩
    | succ i => simp [newsOf] at g1
  · intro rs ih v us h; simp only [RR] at h; obtain ⟨vs, _, _, h⟩ := h; exact ih _ _ h
  · intro rs ih v us h; simp only [RR] at h; obtain ⟨vs, _, h⟩ := h; exact ih _ _ h
  · intro vs us h; simp only [RRL] at h; rw [h.2]; exact ⟨rfl, fun i s u h => by simp [newsL] at h⟩
  · intro r rs ih1 ih2 vs us h
    simp only [RRL] at h
    obtain ⟨v, t, us1, us2, rfl, rfl, h1, h2⟩ := h
    obtain ⟨l1, g1⟩ := ih1 _ _ h1
    obtain ⟨l2, g2⟩ := ih2 _ _ h2
    refine ⟨by simp [newsL, l1, l2], fun i s u f1 f2 => ?_⟩
    simp only [newsL, app_get] at f1 f2
    rw [l1] at f2
    split at f1
    · rename_i hi; rw [if_pos hi] at f2; exact g1 i s u f1 f2
    · rename_i hi; rw [if_neg hi] at f2; exact g2 _ s u f1 f2

/-- The result in its slot. -/
theorem RR.ra {ok ok' : Nat → Prop} {B : Nat → Prop} (hok : ∀ b, ok b → ok' b) (σ' : Sto) (vals' : List Value) : ∀ (r : RV) (v : Value) (us : List Value) (n : Nat), RR ok B w r v us → (∀ (i : Nat) (u : Value), us[i]? = some u → vals'[n + i]? = some u) → RA ok' σ' vals' w (avOf n r) v := by
  intro r
  refine RV.rec (motive_1 := fun r => ∀ (v : Value) (us : List Value) (n : Nat), RR ok B w r v us → (∀ (i : Nat) (u : Value), us[i]? = some u → vals'[n + i]? = some u) → RA ok' σ' vals' w (avOf n r) v)
    (motive_2 := fun rs => ∀ (vs : List Value) (us : List Value) (n : Nat), RRL ok B w rs vs us → (∀ (i : Nat) (u : Value), us[i]? = some u → vals'[n + i]? = some u) → RAL ok' σ' vals' w (avL n rs) vs)
    ?_ ?_ ?_ ?_ ?_ ?_ r
  · intro x v us n h _; simp only [RR] at h; simp only [avOf, RA]; exact Rd.mono hok (fun _ _ _ => rfl) x v h.1
  · intro e sz els v us n h hv; simp only [RR] at h; obtain ⟨rfl, _⟩ := h; simp only [avOf, RA]; exact hv 0 v rfl
  · intro rs ih v us n h hv
    simp only [RR] at h; obtain ⟨vs, rfl, h1, h⟩ := h
    simp only [avOf, RA]
    refine ⟨fun c hc => ?_, vs, rfl, ih _ _ n h hv⟩
    have : ∀ (rs : List RV) (n : Nat), (∀ r ∈ rs, match r with | .pv x => x.one = true | .fresh _ _ _ => True | _ => False) → ∀ c ∈ avL n rs, c.one = true := by
      intro rs
      induction rs with
      | nil => intro n _ c hc; simp [avL] at hc
      | cons r rs ih =>
        intro n h c hc
        simp only [avL] at hc
        rcases List.mem_cons.1 hc with rfl | hc
        · have := h r (by simp)
          cases r with
          | pv x => exact this
          | fresh e sz els => rfl
          | _ => exact this.elim
        · exact ih _ (fun r hr => h r (by simp [hr])) c hc
    exact this rs n h1 c hc
  · intro rs ih v us n h hv
    simp only [RR] at h; obtain ⟨vs, rfl, h⟩ := h
    simp only [avOf, RA]
    exact ⟨vs, rfl, ih _ _ n h hv⟩
  · intro vs us n h _; simp only [RRL] at h; simp only [avL, RAL]; exact h.1
  · intro r rs ih1 ih2 vs us n h hv
    simp only [RRL] at h
    obtain ⟨v, t, us1, us2, rfl, rfl, h1, h2⟩ := h
    simp only [avL, RAL]
    have l1 := (RR.news r v us1 h1).1
    refine ⟨v, t, rfl, ih1 v us1 n h1 (fun i u hi => hv i u (by rw [app_get, if_pos (List.getElem?_eq_some_iff.1 hi).1]; exact hi)), ih2 t us2 _ h2 (fun i u hi => ?_)⟩
    have := hv (us1.length + i) u (by rw [app_get, if_neg (by omega), Nat.add_sub_cancel_left]; exact hi)
    rwa [← l1, Nat.add_assoc]

theorem out_callF {K : AV → Sto → Prop} {Γ : Ctx} (hΓ : Sound cx.P Γ) (hr : Rel cx env σ vals a w) (f : FuncId) (as : List AV) (vs : Array Value) (hrun0 : (execOp a.eval o).run cx.P w = (callFunc f vs).run cx.P w) (hral : RAL (Ok cx σ vals w) σ vals w as vs.toList) (hmu : (Γ f).mu = false)
    (hK : readAVs σ as fun ps => match (Γ f).lone with
      | true => (Γ f).run ps fun r => takeRV r σ K
      | false => freezeAVs as σ fun σ => (Γ f).run ps fun r => takeRV r σ K) : Out cx env a w o K := by
  -- the call, behind which the result comes into the store
  have main : ∀ (σ1 : Sto) (ok : Nat → Prop) (ps : List PV), Rel cx env σ1 vals a w → (∀ b, ok b → b < w.heap.size) → ((Γ f).lone = false → ∀ b, ok b → Ok cx σ1 vals w b) → RdL ok w ps vs.toList → ((Γ f).run ps fun r => takeRV r σ1 K) → Out cx env a w o K := by
    intro σ1 ok ps hr1 hok1 hok2 hrd hrun next Q hnext
    obtain ⟨hent, hcall⟩ := (hΓ f).2.2.1 w ok ps vs _ hmu hok1 hrd hrun
    unfold Oper.wp
    rw [hrun0, hent, Oper.upon_enter]
    refine hcall.mono ?_
    rintro e w' ⟨v, r, us, rfl, hK, hbw, hrr, hfresh, hdis⟩
    have hK := takeRV_both r σ1 K hK
    obtain ⟨hl, hnews⟩ := RR.news r v us hrr
    have hone : ∀ u ∈ us, u.oneCell' = true := by
      intro u hu
      obtain ⟨i, hi⟩ := List.mem_iff_getElem?.1 hu
      have hin : i < (newsOf r).length := by rw [← hl]; exact (List.getElem?_eq_some_iff.1 hi).1
      obtain ⟨_, _, _, _, _, _, h, _⟩ := hnews i _ u (List.getElem?_eq_getElem hin) hi
      rcases h.2 with ⟨rfl, _⟩ | ⟨_, _, _, _, rfl, _⟩ <;> rfl
    have hokR : ∀ b, OkR ok (Γ f).lone w w' us b → Ok cx (σ1 ++ newsOf r) (vals ++ us) w' b := by
      rintro b ⟨h1, h2, h3⟩
      refine ⟨?_, h2, ?_⟩
      · rcases h1 with ⟨h0, h1⟩ | h1
        · exact (hok2 h0 b h1).1
        · exact .inr (cx.hown _ (Nat.le_trans hr1.s.below.size h1))
      · rintro ⟨i, s, u, g1, g2, g3, g4⟩
        rw [app_get] at g1 g3
        rw [hr1.s.len] at g3
        split at g1
        · rename_i hi; rw [if_pos hi] at g3
          rcases h1 with ⟨h0, h1⟩ | h1
          · exact (hok2 h0 b h1).2.2 ⟨i, s, u, g1, g2, g3, g4⟩
          · have := ((hr1.s.sto i s u g1 g3).block g2 g4).2; omega
        · rename_i hi; rw [if_neg hi] at g3
          exact h3 u (List.mem_of_getElem? g3) g4
    obtain ⟨hs, hkp⟩ := hr1.s.pushes hbw (newsOf r) us hl hone hfresh hdis (fun hkp i s u g1 g2 => by
      obtain ⟨e, sz, els, cells, rfl, h0, h1, h2, h3, h4⟩ := hnews i s u g1 g2
      refine ⟨h0, cells, ⟨h1.1, ?_⟩, h2, h3, RdL.mono hokR (fun _ _ _ => rfl) _ _ h4⟩
      rcases h1.2 with h | ⟨g, cap, cur, fr, f1, f2, f3⟩
      · exact .inl h
      · exact .inr ⟨g, cap, cur, fr, f1, cx.hown _ (Nat.le_trans hr1.s.below.size f2), f3⟩)
    refine hnext _ _ _ v w' hK (hr1.keep hs hkp) ?_
    refine RR.ra hokR _ _ r v us σ1.length hrr (fun i u hi => ?_)
    rw [app_get, if_neg (by rw [hr1.s.len]; omega), hr1.s.len, Nat.add_sub_cancel_left]
    exact hi
  obtain ⟨ps, hk, hrd, _, hdet⟩ := reads_spec hr.s _ _ _ hral hK
  cases hlone : (Γ f).lone with
  | true =>
    simp only [hlone] at hk
    refine main σ (OkM cx σ vals w) ps hr (fun b hb => ?_) (fun h => by rw [hlone] at h; cases h) hrd hk
    rcases hb with hb | ⟨i, s, u, h1, h2, h3, h4⟩
    · exact hb.2.1
    · exact ((hr.s.sto i s u h1 h3).block h2 h4).2
  | false =>
    simp only [hlone] at hk
    obtain ⟨xs, σ1, rfl, hk, _, hs1, hkp1, hrd, _⟩ := freezes_spec _ σ σ _ (fun z => z = ps) _ (Fz.refl σ) hr.s hral (hdet _ rfl) hk
    exact main σ1 (Ok cx σ1 vals w) _ (hr.keep hs1 hkp1) (fun b hb => hb.2.1) (fun _ b hb => hb) hrd hk
end
end Go.Dv
end
section
/-
  Functions that capture variables which are written no more.
-/
set_option linter.unusedSimpArgs false
namespace Go.Dv
open Go.RowKit
section
variable {cx : Cx} {env : Env} {σ : Sto} {vals : List Value} {a : Act} {w w' : World} {o : Oper}

theorem boxVal_cptr {cs : List PV} {K : PV → Prop} (h : boxVal cs K) (h1 : ∀ c ∈ cs, c.one = true) :
    ∃ x, K x ∧ ∀ (ok : Nat → Prop) (arr : Array Value) (b : Nat) (e : TypeId) (fr : Nat × Nat), w.heap[b]? = some (.cells arr e fr) → RdL ok w cs arr.toList → ok b → Rd ok w (.cptr x) (.pointer (some ⟨b, 0, none⟩)) := by
  have hcell : ∀ (arr : Array Value) (b : Nat) (e : TypeId) (fr : Nat × Nat), w.heap[b]? = some (.cells arr e fr) → ∀ (j : Nat) (u : Value), arr.toList[j]? = some u → w.cell? ⟨b, 0 + j, none⟩ = some u := by
    intro arr b e fr hb j u hj
    have : arr[j]? = some u := by simpa using hj
    simp [World.cell?, hb, this]
  have agg : (∀ c ∈ cs, c.one = true) → ∀ (ok : Nat → Prop) (arr : Array Value) (b : Nat) (e : TypeId) (fr : Nat × Nat), w.heap[b]? = some (.cells arr e fr) → RdL ok w cs arr.toList → ok b → Rd ok w (.cptr (.agg cs)) (.pointer (some ⟨b, 0, none⟩)) := by
    intro h1 ok arr b e fr hb h hok
    simp only [Rd]
    exact ⟨b, 0, rfl, hok, (rdCs_iff b cs 0).2 ⟨h1, arr.toList, h, hcell arr b e fr hb⟩⟩
  cases cs with
  | nil => exact ⟨_, h, agg h1⟩
  | cons c r =>
    cases r with
    | cons d r => exact ⟨_, h, agg h1⟩
    | nil =>
      have hone : c.one = true := h1 c (by simp)
      have hx : c.one = true → ∀ (ok : Nat → Prop) (arr : Array Value) (b : Nat) (e : TypeId) (fr : Nat × Nat), w.heap[b]? = some (.cells arr e fr) → RdL ok w [c] arr.toList → ok b → Rd ok w (.cptr c) (.pointer (some ⟨b, 0, none⟩)) := by
        intro hone ok arr b e fr hb hrd hok
        simp only [RdL] at hrd
        obtain ⟨u, t, hu, hc, rfl⟩ := hrd
        have h0 := hcell arr b e fr hb 0 u (by rw [hu]; rfl)
        cases c with
        | agg cs => cases hone
        | _ => simp only [Rd]; exact ⟨b, 0, rfl, hok, hone, u, h0, by simpa only [Rd] using hc⟩
      cases c with
      | agg cs => cases hone
      | _ => exact ⟨_, h, hx hone⟩

theorem boxes_spec : ∀ (l : List AV) (σ : Sto) (vs : List Value) (K : List PV → Sto → Prop), RelS cx σ vals w → RAL (Ok cx σ vals w) σ vals w l vs → boxesK l σ K →
    ∃ xs σ', K xs σ' ∧ RelS cx σ' vals w ∧ Keep cx σ vals w σ' vals w ∧ RdL (Ok cx σ' vals w) w xs vs := by
  intro l
  induction l with
  | nil =>
    intro σ vs K hr h hK
    simp only [RAL] at h
    exact ⟨[], σ, hK, hr, Keep.refl, by simp only [RdL]; exact h⟩
  | cons av l ih =>
    intro σ vs K hr h hK
    simp only [RAL] at h
    obtain ⟨v, t, rfl, hv, ht⟩ := h
    have fin : ∀ (σ1 : Sto) (y : PV), RelS cx σ1 vals w → Keep cx σ vals w σ1 vals w → Rd (Ok cx σ1 vals w) w (.cptr y) v → (boxesK l σ1 fun xs σ => K (.cptr y :: xs) σ) →
        ∃ xs σ', K xs σ' ∧ RelS cx σ' vals w ∧ Keep cx σ vals w σ' vals w ∧ RdL (Ok cx σ' vals w) w xs (v :: t) := by
      intro σ1 y hr1 hk1 hrd hK1
      obtain ⟨xs, σ', h1, h2, h3, h4⟩ := ih σ1 t _ hr1 (hk1.raL _ _ ht) hK1
      exact ⟨_, σ', h1, h2, hk1.trans h3, by simp only [RdL]; exact ⟨v, t, rfl, h3.rd hrd, h4⟩⟩
    cases av with
    | pv x =>
      cases x with
      | cptr y => simp only [RA] at hv; exact fin σ y hr Keep.refl hv hK
      | _ => exact (show False from hK).elim
    | ref id idx off =>
      simp only [RA] at hv
      obtain ⟨hlt, _, _, hbox⟩ := hv
      obtain ⟨b, hb, hk⟩ := nthK_iff _ _ _ (show nthK σ id _ from hK)
      cases b with
      | box e cs =>
        cases off with
        | zero =>
          rcases allPvK_spec cs (fun t => boxVal t fun x => setK σ id (.fz (.cptr x)) fun σ => boxesK l σ fun xs σ => K (.cptr x :: xs) σ) False hk with ⟨tcs, rfl, hk2⟩ | hk2
          · obtain ⟨u, hu, hrb⟩ := hr.val hb
            obtain ⟨u', g, hu', hg, hv⟩ := hbox e _ hb
            rw [hu] at hu'; cases hu'
            have hone : ∀ c ∈ tcs, c.one = true := by
              obtain ⟨_, _, _, _, _, h4, _⟩ := hrb
              exact fun c hc => h4 (.pv c) (by simpa using hc)
            obtain ⟨x, hset, hx⟩ := boxVal_cptr (w := w) hk2 hone
            obtain ⟨_, hset⟩ := setK_spec _ _ _ _ hset
            obtain ⟨hr1, hk1⟩ := hr.freezeTo (x := .cptr x) hb rfl (fun ok' v' hrb' hok hbl => by
              obtain ⟨b', arr', e1, _, e3, _, e5⟩ := hrb'
              subst e1
              rw [raL_map_pv] at e5
              exact hx ok' arr' b' _ _ e3 (RdL.mono hok (fun _ _ _ => rfl) _ _ e5) (hbl b' rfl))
            refine fin _ x hr1 hk1 ?_ hset
            have hfz : (σ.set id (.fz (.cptr x)))[id]? = some (.fz (.cptr x)) := by rw [List.getElem?_set_self hlt]
            have := hr1.sto id _ _ hfz hu
            have hvu : v = u := by
              obtain ⟨b, arr, h1, _⟩ := hrb
              rw [h1] at hg; cases hg
              rw [hv, h1]
            rw [hvu]; exact this
          · exact hk2.elim
        | succ off => exact (show False from hk).elim
      | _ => cases off <;> exact (show False from hk).elim
    | _ => exact (show False from hK).elim

theorem out_mkf {K : AV → Sto → Prop} (hr : Rel cx env σ vals a w) (f : FuncId) (first caps : Array Operand) (ho : o.op = .makeFunc (.func f) first caps) (hf : first.toList = [])
    (hK : boxesK (caps.toList.map (evF env)) σ fun xs σ => K (.pv (.clo f xs)) σ) : Out cx env a w o K := by
  obtain ⟨xs, σ', h1, h2, h3, h4⟩ := boxes_spec _ σ _ _ hr.s (hr.evL caps.toList) hK
  have hf' : first = #[] := Array.toList_eq_nil_iff.1 hf
  refine Out.run (v := .func (.func f) #[] (caps.map a.eval)) (by simp [execOp, ho, Instr.makeFunc, hf']) (hr.keep h2 h3) (av := .pv (.clo f xs)) ?_ h1
  simp only [RA, Rd]
  exact ⟨_, rfl, by simpa using h4⟩
end
end Go.Dv
end
section
/-
  Calls of functions that write what they are handed.
-/
set_option linter.unusedSimpArgs false
namespace Go.Dv
open Go.RowKit
section
variable {cx : Cx} {env : Env} {σ : Sto} {vals : List Value} {a : Act} {w w' : World} {o : Oper}

/-- Where the entries of a part of the store go back to. -/
def rhoL : Sto → List Nat → Nat → List Nat
  | [], _, _ => []
  | _ :: σ, a :: r, L => a :: rhoL σ r L
  | _ :: σ, [], L => L :: rhoL σ [] (L + 1)

theorem rhoK_spec (σ : Sto) : ∀ (r : List Nat) (L : Nat) (K : List Nat → Prop), rhoK σ r L K → K (rhoL σ r L) := by
  induction σ with
  | nil => intro r L K h; exact h
  | cons s σ ih =>
    intro r L K h
    cases r with
    | nil => exact ih [] (L + 1) _ h
    | cons a r => exact ih r L _ h

theorem rhoL_len (σ : Sto) : ∀ (r : List Nat) (L : Nat), (rhoL σ r L).length = σ.length := by
  induction σ with
  | nil => intro r L; rfl
  | cons s σ ih => intro r L; cases r <;> simp [rhoL, ih]

theorem rhoL_lo (σ : Sto) : ∀ (r : List Nat) (L j : Nat), j < r.length → j < σ.length → (rhoL σ r L)[j]? = r[j]? := by
  induction σ with
  | nil => intro r L j _ h; simp at h
  | cons s σ ih =>
    intro r L j h1 h2
    cases r with
    | nil => simp at h1
    | cons a r =>
      cases j with
      | zero => rfl
      | succ j => simpa [rhoL] using ih r L j (by simpa using h1) (by simpa using h2)

theorem rhoL_hi (σ : Sto) : ∀ (r : List Nat) (L j : Nat), r.length ≤ j → j < σ.length → (rhoL σ r L)[j]? = some (L + (j - r.length)) := by
  induction σ with
  | nil => intro r L j _ h; simp at h
  | cons s σ ih =>
    intro r L j h1 h2
    cases r with
    | nil =>
      cases j with
      | zero => rfl
      | succ j =>
        have := ih [] (L + 1) j (by simp) (by simpa using h2)
        simp only [rhoL, List.getElem?_cons_succ, this, List.length_nil]
        congr 1; omega
    | cons a r =>
      cases j with
      | zero => simp at h1
      | succ j =>
        have := ih r L j (by simpa using h1) (by simpa using h2)
        simp only [rhoL, List.getElem?_cons_succ, this, List.length_cons]
        congr 1; omega

theorem unAV_spec (ρ : List Nat) : ∀ (x : AV) (K : AV → Prop), unAV ρ x K → ∃ y, K y ∧ Ren ρ y x := by
  intro x
  refine AV.rec (motive_1 := fun x => ∀ K : AV → Prop, unAV ρ x K → ∃ y, K y ∧ Ren ρ y x)
    (motive_2 := fun xs => ∀ K : List AV → Prop, (AV.rec_1 (motive_1 := fun _ => (AV → Prop) → Prop) (motive_2 := fun _ => (List AV → Prop) → Prop)
      (fun K => K .bad) (fun x K => K (.pv x)) (fun id K => nthK ρ id fun j => K (.own j)) (fun id i o K => nthK ρ id fun j => K (.ref j i o))
      (fun _ ih K => ih fun l => K (.agg l)) (fun _ ih K => ih fun l => K (.tup l)) (fun f _ ih K => ih fun l => K (.clo f l)) (fun K => K []) (fun _ _ h t K => h fun a => t fun l => K (a :: l)) xs : (List AV → Prop) → Prop) K → ∃ ys, K ys ∧ RenL ρ ys xs)
    ?_ ?_ ?_ ?_ ?_ ?_ ?_ ?_ ?_ x
  · intro K h; exact ⟨_, h, by simp only [Ren]⟩
  · intro x K h; exact ⟨_, h, by simp only [Ren]⟩
  · intro id K h
    obtain ⟨j, h1, h2⟩ := nthK_iff _ _ _ h
    exact ⟨_, h2, by simp only [Ren]; exact ⟨id, h1, rfl⟩⟩
  · intro id i o K h
    obtain ⟨j, h1, h2⟩ := nthK_iff _ _ _ h
    exact ⟨_, h2, by simp only [Ren]; exact ⟨id, h1, rfl⟩⟩
  · intro cs ih K h
    obtain ⟨bs, h1, h2⟩ := ih _ h
    exact ⟨_, h1, by simp only [Ren]; exact ⟨cs, rfl, h2⟩⟩
  · intro cs ih K h
    obtain ⟨bs, h1, h2⟩ := ih _ h
    exact ⟨_, h1, by simp only [Ren]; exact ⟨cs, rfl, h2⟩⟩
  · intro f cs ih K h
    obtain ⟨bs, h1, h2⟩ := ih _ h
    exact ⟨_, h1, by simp only [Ren]; exact ⟨cs, rfl, h2⟩⟩
  · intro K h; exact ⟨[], h, by simp only [RenL]⟩
  · intro x xs h1 h2 K h
    obtain ⟨b, h3, h4⟩ := h1 _ h
    obtain ⟨bs, h5, h6⟩ := h2 _ h3
    exact ⟨_, h5, by simp only [RenL]; exact ⟨x, xs, rfl, h4, h6⟩⟩

theorem unAVs_spec (ρ : List Nat) (xs : List AV) : ∀ (K : List AV → Prop), unAVs ρ xs K → ∃ ys, K ys ∧ RenL ρ ys xs := by
  induction xs with
  | nil => intro K h; exact ⟨[], h, by simp only [RenL]⟩
  | cons x xs ih =>
    intro K h
    obtain ⟨b, h3, h4⟩ := unAV_spec ρ x _ h
    obtain ⟨bs, h5, h6⟩ := ih _ h3
    exact ⟨_, h5, by simp only [RenL]; exact ⟨x, xs, rfl, h4, h6⟩⟩

theorem unBlk_spec (ρ : List Nat) (s : Blk) (K : Blk → Prop) (h : unBlk ρ s K) : ∃ t, K t ∧ RenB ρ t s := by
  cases s with
  | box e cs =>
    obtain ⟨ds, h1, h2⟩ := unAVs_spec ρ cs _ h
    exact ⟨_, h1, cs, rfl, h2⟩
  | _ => exact ⟨_, h, rfl⟩

theorem backS_spec (ρ : List Nat) (σ1 : Sto) : ∀ (r : List Nat) (σ : Sto) (K : Sto → Prop), backS ρ σ1 r σ K → r.Nodup → (∀ i ∈ r, i < σ.length) → r.length ≤ σ1.length →
    ∃ σ2, K σ2 ∧ σ2.length = σ.length + (σ1.length - r.length) ∧ (∀ (j : Nat) (s : Blk), σ1[j]? = some s → ∃ i t, (rhoL σ1 r σ.length)[j]? = some i ∧ σ2[i]? = some t ∧ RenB ρ t s) ∧ ∀ i, i < σ.length → i ∉ r → σ2[i]? = σ[i]? := by
  induction σ1 with
  | nil =>
    intro r σ K h _ _ hl
    have : r = [] := List.eq_nil_of_length_eq_zero (by simpa using hl)
    subst this
    exact ⟨σ, h, by simp, fun j s hj => by simp at hj, fun i _ _ => rfl⟩
  | cons b σ1 ih =>
    intro r σ K h hn hlt hl
    cases r with
    | nil =>
      obtain ⟨t, h, ht⟩ := unBlk_spec ρ b (fun b => snocK σ b fun σ => backS ρ σ1 [] σ K) h
      have h := snocK_spec _ _ _ h
      obtain ⟨σ2, h1, h2, h3, h4⟩ := ih [] _ K h (by simp) (by simp) (by simp)
      simp only [List.length_append, List.length_cons, List.length_nil, Nat.sub_zero, Nat.zero_add] at h2 h3 h4
      refine ⟨σ2, h1, by simp only [List.length_cons, List.length_nil, Nat.sub_zero]; omega, fun j s hj => ?_, fun i hi hir => ?_⟩
      · cases j with
        | zero =>
          simp at hj; subst hj
          exact ⟨σ.length, t, rfl, by rw [h4 _ (by omega) (by simp), push_get, if_pos rfl], ht⟩
        | succ j => exact h3 j s (by simpa using hj)
      · rw [h4 i (by omega) (by simp), push_get, if_neg (by omega)]
    | cons x r =>
      obtain ⟨t, h, ht⟩ := unBlk_spec ρ b (fun b => setK σ x b fun σ => backS ρ σ1 r σ K) h
      obtain ⟨hx, h⟩ := setK_spec _ _ _ _ h
      rw [List.nodup_cons] at hn
      obtain ⟨σ2, h1, h2, h3, h4⟩ := ih r _ K h hn.2 (fun i hi => by rw [List.length_set]; exact hlt i (by simp [hi])) (by simpa using hl)
      rw [List.length_set] at h2 h3 h4
      refine ⟨σ2, h1, by simp only [List.length_cons]; omega, fun j s hj => ?_, fun i hi hir => ?_⟩
      · cases j with
        | zero =>
          simp at hj; subst hj
          exact ⟨x, t, rfl, by rw [h4 x hx hn.1, set_get hx, if_pos rfl], ht⟩
        | succ j => exact h3 j s (by simpa using hj)
      · rw [h4 i hi (fun h => hir (by simp [h])), set_get hx, if_neg (fun e => hir (by simp [e]))]

/-- A part of the store in its setting: read back into the whole. -/
structure Back (ρ : List Nat) (σ1 σ2 : Sto) (vals1 vals2 : List Value) : Prop where
  sto : ∀ (j : Nat) (s : Blk), σ1[j]? = some s → ∃ i t, ρ[j]? = some i ∧ σ2[i]? = some t ∧ RenB ρ t s
  vals : ∀ (j i : Nat), ρ[j]? = some i → vals2[i]? = vals1[j]?

theorem RenB.eqv {ρ : List Nat} {t s : Blk} (h : RenB ρ t s) : (∀ e sz ap els, t = .row e sz ap els → s = .row e sz ap els) ∧ ∀ e cs, t = .box e cs → ∃ ds, s = .box e ds ∧ RenL ρ cs ds := by
  cases t with
  | box e cs =>
    obtain ⟨ds, rfl, hd⟩ := h
    exact ⟨(fun _ _ _ _ h => by cases h), (fun e' cs' h => by cases h; exact ⟨ds, rfl, hd⟩)⟩
  | row e sz ap els => exact ⟨(fun _ _ _ _ e => by rw [← e]; exact h), (fun _ _ h => by cases h)⟩
  | dead => exact ⟨(fun _ _ _ _ h => by cases h), fun _ _ h => by cases h⟩
  | fz x => exact ⟨(fun _ _ _ _ h => by cases h), fun _ _ h => by cases h⟩

mutual
theorem Ren.back {ρ : List Nat} {σ1 σ2 : Sto} {vals1 vals2 : List Value} (hB : Back ρ σ1 σ2 vals1 vals2) {ok ok' : Nat → Prop} (hok : ∀ b, ok b → ok' b) : ∀ (y x : AV) (v : Value), Ren ρ y x → RA ok σ1 vals1 w x v → RA ok' σ2 vals2 w y v
  | .bad, x, v, h, _ => by simp only [RA]
  | .pv y, x, v, h, hv => by
    simp only [Ren] at h; subst h; simp only [RA] at hv ⊢
    exact Rd.mono hok (fun _ _ _ => rfl) y v hv
  | .own i, x, v, h, hv => by
    simp only [Ren] at h; obtain ⟨j, hj, rfl⟩ := h
    simp only [RA] at hv ⊢
    rw [hB.vals j i hj]; exact hv
  | .ref i k o, x, v, h, hv => by
    simp only [Ren] at h; obtain ⟨j, hj, rfl⟩ := h
    simp only [RA] at hv ⊢
    obtain ⟨h0, hp, h1, h2⟩ := hv
    obtain ⟨i', t, hi', ht, hst⟩ := hB.sto j _ (List.getElem?_eq_getElem h0)
    rw [hj] at hi'; cases hi'
    refine ⟨(List.getElem?_eq_some_iff.1 ht).1, hp, fun e sz ap els he => ?_, fun e cs he => ?_⟩
    · rw [ht] at he; cases he
      obtain ⟨u, b, h3, h4⟩ := h1 e sz ap els (by rw [List.getElem?_eq_getElem h0, hst.eqv.1 _ _ _ _ rfl])
      exact ⟨u, b, by rw [hB.vals j i hj]; exact h3, h4⟩
    · rw [ht] at he; cases he
      obtain ⟨ds, hd, _⟩ := hst.eqv.2 _ _ rfl
      obtain ⟨u, b, h3, h4⟩ := h2 e ds (by rw [List.getElem?_eq_getElem h0, hd])
      exact ⟨u, b, by rw [hB.vals j i hj]; exact h3, h4⟩
  | .agg cs, x, v, h, hv => by
    simp only [Ren] at h; obtain ⟨ds, rfl, h⟩ := h
    simp only [RA] at hv ⊢
    obtain ⟨h1, vs, rfl, h2⟩ := hv
    exact ⟨h.onesB h1, vs, rfl, RenL.back hB hok cs ds _ h h2⟩
  | .tup cs, x, v, h, hv => by
    simp only [Ren] at h; obtain ⟨ds, rfl, h⟩ := h
    simp only [RA] at hv ⊢
    obtain ⟨vs, rfl, h2⟩ := hv
    exact ⟨vs, rfl, RenL.back hB hok cs ds _ h h2⟩
  | .clo f cs, x, v, h, hv => by
    simp only [Ren] at h; obtain ⟨ds, rfl, h⟩ := h
    simp only [RA] at hv ⊢
    obtain ⟨vs, rfl, h2⟩ := hv
    exact ⟨vs, rfl, RenL.back hB hok cs ds _ h h2⟩
theorem RenL.back {ρ : List Nat} {σ1 σ2 : Sto} {vals1 vals2 : List Value} (hB : Back ρ σ1 σ2 vals1 vals2) {ok ok' : Nat → Prop} (hok : ∀ b, ok b → ok' b) : ∀ (ys xs : List AV) (vs : List Value), RenL ρ ys xs → RAL ok σ1 vals1 w xs vs → RAL ok' σ2 vals2 w ys vs
  | [], xs, vs, h, hv => by simp only [RenL] at h; subst h; simpa only [RAL] using hv
  | y :: ys, xs, vs, h, hv => by
    simp only [RenL] at h
    obtain ⟨x, t, rfl, h1, h2⟩ := h
    simp only [RAL] at hv ⊢
    obtain ⟨v, u, rfl, h3, h4⟩ := hv
    exact ⟨v, u, rfl, Ren.back hB hok y x v h1 h3, RenL.back hB hok ys t u h2 h4⟩
end

theorem nth_mem {α : Type} {l : List α} {i : Nat} {x : α} (h : l[i]? = some x) : x ∈ l := List.mem_of_getElem? h

theorem out_callM {K : AV → Sto → Prop} {Γ : Ctx} (hΓ : Sound cx.P Γ) (hr : Rel cx env σ vals a w) (f : FuncId) (as : List AV) (vs : Array Value) (hrun0 : (execOp a.eval o).run cx.P w = (callFunc f vs).run cx.P w) (hral : RAL (Ok cx σ vals w) σ vals w as vs.toList) (hmu : (Γ f).mu = true)
    (hK : mcallK (Γ f).mrun as σ K) : Out cx env a w o K := by
  intro next Q hnext
  obtain ⟨l, hK, hln, _⟩ := idsAVs_spec as [] _ (by simp) hK
  obtain ⟨r, hK, hrn, _⟩ := idsBox_spec σ l l _ hln hK
  obtain ⟨as', hK, has⟩ := renAVs_spec r as _ hK
  obtain ⟨σ0, hK, hσ0l, hσ0⟩ := renSto_spec σ r r _ hK
  obtain ⟨vals0, hA⟩ : ∃ vals0, Anew r σ σ0 vals vals0 := by
    refine ⟨r.map fun i => (vals[i]?).getD undef, hrn, hσ0l, hσ0, by simp, fun j i hj => ?_⟩
    obtain ⟨s, t, hs, _⟩ := hσ0 j i hj
    have : i < vals.length := by rw [hr.s.len]; exact (List.getElem?_eq_some_iff.1 hs).1
    rw [List.getElem?_map, hj]
    simp only [Option.map_some]
    rw [List.getElem?_eq_getElem this]
    exact ⟨rfl, _, rfl⟩
  have back : ∀ {j : Nat} {t : Blk}, σ0[j]? = some t → ∃ i s, r[j]? = some i ∧ σ[i]? = some s ∧ RenB r s t := by
    intro j t ht
    have hj : j < r.length := by rw [← hσ0l]; exact (List.getElem?_eq_some_iff.1 ht).1
    obtain ⟨s, t', hs, ht', hst⟩ := hσ0 j _ (List.getElem?_eq_getElem hj)
    rw [ht] at ht'; cases ht'
    exact ⟨_, s, List.getElem?_eq_getElem hj, hs, hst⟩
  -- the entries of the part are live where those of the whole are
  have hm0 : ∀ b, Mut σ0 vals0 b → ∃ (i : Nat) (s : Blk) (v : Value), i ∈ r ∧ σ[i]? = some s ∧ s.live = true ∧ vals[i]? = some v ∧ blkOf v = some b := by
    rintro b ⟨j, t, v, ht, hl, hv, hb⟩
    obtain ⟨i, s, hj, hs, hst⟩ := back ht
    exact ⟨i, s, v, nth_mem hj, hs, hst.live ▸ hl, by rw [← (hA.vals j i hj).1]; exact hv, hb⟩
  have hm0' : ∀ b, Mut σ0 vals0 b → Mut σ vals b := fun b h => by
    obtain ⟨i, s, v, _, h1, h2, h3, h4⟩ := hm0 b h
    exact ⟨i, s, v, h1, h2, h3, h4⟩
  have hok0 : ∀ b, Ok cx σ vals w b → b < w.heap.size := fun b h => h.2.1
  have hokm : ∀ b, Ok cx σ vals w b → Ok (mcx cx.P w (Ok cx σ vals w) hok0 σ0 vals0) σ0 vals0 w b := fun b h => ⟨.inl h, h.2.1, fun hm => h.2.2 (hm0' b hm)⟩
  have hrel0 : RelS (mcx cx.P w (Ok cx σ vals w) hok0 σ0 vals0) σ0 vals0 w := by
    refine ⟨Since.refl _ _, fun v hv => ?_, by rw [hA.vlen, hσ0l], fun j t v ht hv => ?_, fun j k t1 t2 u v b hjk ht1 ht2 l1 l2 hu hv hbu hbv => ?_, ⟨Nat.le_refl _, fun b hb => hb.elim, fun _ _ hb => hb⟩, ⟨fun i v h => h, Nat.le_refl _, fun i _ e sz ap els h => ⟨ap, els, h⟩, fun i _ e cs h => ⟨e, cs, h⟩⟩⟩
    · obtain ⟨j, hj⟩ := List.mem_iff_getElem?.1 hv
      have hjr : j < r.length := by rw [← hA.vlen]; exact (List.getElem?_eq_some_iff.1 hj).1
      rw [(hA.vals j _ (List.getElem?_eq_getElem hjr)).1] at hj
      exact hr.s.one v (List.mem_of_getElem? hj)
    · obtain ⟨i, s, hj, hs, hst⟩ := back ht
      have hv0 := hv
      rw [(hA.vals j i hj).1] at hv
      have := hr.s.sto i s v hs hv
      cases s with
      | dead => cases hst; trivial
      | fz x => cases hst; exact Rd.mono hokm (fun _ _ _ => rfl) _ _ this
      | row e sz ap els =>
        cases hst
        obtain ⟨h0, cells, g1, g2, g3, g4⟩ := this
        refine ⟨h0, cells, ⟨g1.1, ?_⟩, g2, g3, RdL.mono hokm (fun _ _ _ => rfl) _ _ g4⟩
        rcases g1.2 with h | ⟨g, cap, cur, fr, e1, _, e2⟩
        · exact .inl h
        · exact .inr ⟨g, cap, cur, fr, e1, .inr ⟨j, _, v, ht, rfl, hv0, by rw [e1]; rfl⟩, e2⟩
      | box e cs =>
        obtain ⟨ds, rfl, hd⟩ := hst
        obtain ⟨b, arr, g1, g2, g3, g4, g5⟩ := this
        exact ⟨b, arr, g1, .inr ⟨j, _, v, ht, rfl, hv0, by rw [g1]; rfl⟩, g3, hd.ones g4, hd.ra hA hokm _ _ _ g5⟩
    · obtain ⟨i1, s1, hj1, hs1, hst1⟩ := back ht1
      obtain ⟨i2, s2, hj2, hs2, hst2⟩ := back ht2
      rw [(hA.vals _ _ hj1).1] at hu
      rw [(hA.vals _ _ hj2).1] at hv
      refine hr.s.dis i1 i2 s1 s2 u v b ?_ hs1 hs2 (hst1.live ▸ l1) (hst2.live ▸ l2) hu hv hbu hbv
      intro e
      subst e
      exact hjk ((List.getElem?_inj (List.getElem?_eq_some_iff.1 hj1).1 hrn).1 (hj1.trans hj2.symm))
  obtain ⟨hent, hcall⟩ := (hΓ f).2.2.2.2 w (Ok cx σ vals w) hok0 σ0 vals0 as' vs _ hmu hrel0 (RenL.ra hA hokm _ _ _ has hral) hK
  unfold Oper.wp
  rw [hrun0, hent, Oper.upon_enter]
  refine hcall.mono ?_
  rintro e w' ⟨v, res, σ1, vals1, rfl, hK, hs1, hra⟩
  generalize hmd : mcx cx.P w (Ok cx σ vals w) hok0 σ0 vals0 = m at *
  have hK := rhoK_spec _ _ _ _ (lenK_spec σ _ hK)
  obtain ⟨res', hK, hres⟩ := unAV_spec _ _ _ hK
  have hrlt : ∀ i ∈ r, i < σ.length := fun i hi => by
    obtain ⟨j, hj⟩ := List.mem_iff_getElem?.1 hi
    obtain ⟨s, t, hs, _⟩ := hσ0 j i hj
    exact (List.getElem?_eq_some_iff.1 hs).1
  have hpinS : m.pinS = σ0 := by rw [← hmd]; rfl
  have hpinV : m.pinV = vals0 := by rw [← hmd]; rfl
  have hown : ∀ b, m.own b ↔ w.heap.size ≤ b ∨ Mut σ0 vals0 b := fun b => by rw [← hmd]; rfl
  have hokA : ∀ b, m.okA b ↔ Ok cx σ vals w b := fun b => by rw [← hmd]; rfl
  have hw0 : m.w0 = w := by rw [← hmd]; rfl
  have hle : r.length ≤ σ1.length := by have := hs1.pin.len; rw [hpinS, hσ0l] at this; exact this
  obtain ⟨σ2, hK, hlen2, hsto2, hoth⟩ := backS_spec _ σ1 r σ _ hK hrn hrlt hle
  let ρ := rhoL σ1 r σ.length
  have hρ : ρ = rhoL σ1 r σ.length := rfl
  have hρlen : ρ.length = σ1.length := rhoL_len _ _ _
  have hlen1 : vals1.length = σ1.length := hs1.len
  let vals2 := vals ++ vals1.drop r.length
  have hv2lo : ∀ i, i < σ.length → vals2[i]? = vals[i]? := fun i hi => by
    show (vals ++ vals1.drop r.length)[i]? = _
    rw [List.getElem?_append_left (by rw [hr.s.len]; exact hi)]
  have hv2hi : ∀ i, σ.length ≤ i → vals2[i]? = vals1[i - σ.length + r.length]? := fun i hi => by
    show (vals ++ vals1.drop r.length)[i]? = _
    rw [List.getElem?_append_right (by rw [hr.s.len]; exact hi), List.getElem?_drop, hr.s.len, Nat.add_comm]
  have hB : Back ρ σ1 σ2 vals1 vals2 := by
    refine ⟨hsto2, fun j i hj => ?_⟩
    have hjl : j < σ1.length := by rw [← hρlen]; exact (List.getElem?_eq_some_iff.1 hj).1
    rcases Nat.lt_or_ge j r.length with h | h
    · rw [hρ, rhoL_lo _ _ _ _ h hjl] at hj
      rw [hv2lo i (hrlt i (nth_mem hj))]
      have h1 : j < vals0.length := by rw [hA.vlen]; exact h
      have h2 := hs1.pin.vs j _ (by rw [hpinV]; exact List.getElem?_eq_getElem h1)
      rw [h2, ← List.getElem?_eq_getElem h1, (hA.vals j i hj).1]
    · rw [hρ, rhoL_hi _ _ _ _ h hjl] at hj
      cases hj
      rw [hv2hi _ (by omega)]
      congr 1; omega
  -- each entry of the new store
  have ent : ∀ (i : Nat) (t : Blk), σ2[i]? = some t → (i < σ.length ∧ i ∉ r ∧ σ[i]? = some t ∧ vals2[i]? = vals[i]?) ∨ ∃ (j : Nat) (s : Blk), ρ[j]? = some i ∧ σ1[j]? = some s ∧ RenB ρ t s ∧ vals2[i]? = vals1[j]? := by
    intro i t ht
    have part : ∀ j : Nat, ρ[j]? = some i → ∃ (j : Nat) (s : Blk), ρ[j]? = some i ∧ σ1[j]? = some s ∧ RenB ρ t s ∧ vals2[i]? = vals1[j]? := by
      intro j hj
      have hjl : j < σ1.length := by rw [← hρlen]; exact (List.getElem?_eq_some_iff.1 hj).1
      obtain ⟨i', t', hi', ht', hst⟩ := hsto2 j _ (List.getElem?_eq_getElem hjl)
      rw [← hρ, hj] at hi'; cases hi'
      rw [ht] at ht'; cases ht'
      exact ⟨j, _, hj, List.getElem?_eq_getElem hjl, hst, hB.vals j i hj⟩
    have hi2 : i < σ.length + (σ1.length - r.length) := by rw [← hlen2]; exact (List.getElem?_eq_some_iff.1 ht).1
    rcases Nat.lt_or_ge i σ.length with h | h
    · by_cases hir : i ∈ r
      · obtain ⟨j, hj⟩ := List.mem_iff_getElem?.1 hir
        have hjr : j < r.length := (List.getElem?_eq_some_iff.1 hj).1
        exact .inr (part j (by rw [hρ, rhoL_lo _ _ _ _ hjr (by omega)]; exact hj))
      · exact .inl ⟨h, hir, by rw [← hoth i h hir]; exact ht, hv2lo i h⟩
    · exact .inr (part (i - σ.length + r.length) (by rw [hρ, rhoL_hi _ _ _ _ (by omega) (by omega)]; congr 1; omega))
  have ρinj : ∀ j k i : Nat, ρ[j]? = some i → ρ[k]? = some i → j = k := by
    intro j k i hj hk
    have hjl : j < σ1.length := by rw [← hρlen]; exact (List.getElem?_eq_some_iff.1 hj).1
    have hkl : k < σ1.length := by rw [← hρlen]; exact (List.getElem?_eq_some_iff.1 hk).1
    rcases Nat.lt_or_ge j r.length with h | h <;> rcases Nat.lt_or_ge k r.length with h' | h'
    · rw [hρ, rhoL_lo _ _ _ _ h hjl] at hj
      rw [hρ, rhoL_lo _ _ _ _ h' hkl] at hk
      exact (List.getElem?_inj h hrn).1 (hj.trans hk.symm)
    · rw [hρ, rhoL_lo _ _ _ _ h hjl] at hj
      rw [hρ, rhoL_hi _ _ _ _ h' hkl] at hk
      cases hk
      have := hrlt _ (nth_mem hj); omega
    · rw [hρ, rhoL_hi _ _ _ _ h hjl] at hj
      rw [hρ, rhoL_lo _ _ _ _ h' hkl] at hk
      cases hj
      have := hrlt _ (nth_mem hk); omega
    · rw [hρ, rhoL_hi _ _ _ _ h hjl] at hj
      rw [hρ, rhoL_hi _ _ _ _ h' hkl] at hk
      cases hj
      simp only [Option.some.injEq] at hk
      omega
  have ownC : ∀ b, m.own b → cx.own b := by
    intro b hb
    rcases (hown b).1 hb with h | h
    · exact cx.hown _ (Nat.le_trans hr.s.below.size h)
    · obtain ⟨i, s, v, _, h1, h2, h3, h4⟩ := hm0 b h
      exact ((hr.s.sto i s v h1 h3).block h2 h4).1
  have mut1 : ∀ b, Mut σ1 vals1 b → m.own b ∧ b < w'.heap.size := by
    rintro b ⟨j, s, v, h1, h2, h3, h4⟩
    exact (hs1.sto j s v h1 h3).block h2 h4
  -- what is not of the part has no block of it
  have apart : ∀ (i : Nat) (s : Blk) (v : Value) (b : Nat), i ∉ r → σ[i]? = some s → s.live = true → vals[i]? = some v → blkOf v = some b → ¬ m.own b := by
    intro i s v b hir hs hl hv hb ho
    rcases (hown b).1 ho with h | h
    · have := ((hr.s.sto i s v hs hv).block hl hb).2; omega
    · obtain ⟨i', s', v', h0, h1, h2, h3, h4⟩ := hm0 b h
      exact hr.s.dis i i' s s' v v' b (fun e => hir (e ▸ h0)) hs h1 hl h2 hv h3 hb h4
  have same : ∀ b, b < w.heap.size → ¬ m.own b → w'.heap[b]? = w.heap[b]? := by
    intro b hb ho
    have := hs1.below.block b (by rw [hw0]; exact hb) ho
    rw [hw0] at this; exact this
  have hsize : w.heap.size ≤ w'.heap.size := by have := hs1.below.size; rw [hw0] at this; exact this
  have mut2 : ∀ b, Mut σ2 vals2 b → (∃ (i : Nat) (s : Blk) (v : Value), i ∉ r ∧ σ[i]? = some s ∧ s.live = true ∧ vals[i]? = some v ∧ blkOf v = some b) ∨ Mut σ1 vals1 b := by
    rintro b ⟨i, t, v, ht, hl, hv, hb⟩
    rcases ent i t ht with ⟨_, hir, hs, hve⟩ | ⟨j, s, hj, hs, hst, hve⟩
    · exact .inl ⟨i, t, v, hir, hs, hl, by rw [← hve]; exact hv, hb⟩
    · exact .inr ⟨j, s, v, hs, hst.live.trans hl, by rw [← hve]; exact hv, hb⟩
  have okC : ∀ b, Ok cx σ vals w b → ¬ m.own b := by
    intro b hb ho
    rcases (hown b).1 ho with h | h
    · have := hb.2.1; omega
    · exact hb.2.2 (hm0' b h)
  have hkeep : Keep cx σ vals w σ2 vals2 w' := by
    refine ⟨fun i v h => ?_, by omega, fun b hb => ⟨hb.1, Nat.lt_of_lt_of_le hb.2.1 hsize, fun hm => ?_⟩, fun b hb => same b hb.2.1 (okC b hb), fun i hi e sz ap els h => ?_, fun i hi e cs h => ?_⟩
    · rw [hv2lo i (by rw [← hr.s.len]; exact (List.getElem?_eq_some_iff.1 h).1)]; exact h
    · rcases mut2 b hm with ⟨i, s, v, _, h1, h2, h3, h4⟩ | h
      · exact hb.2.2 ⟨i, s, v, h1, h2, h3, h4⟩
      · exact okC b hb (mut1 b h).1
    · rcases ent i _ h with ⟨_, _, hs, _⟩ | ⟨j, s, hj, hs, hst, _⟩
      · exact ⟨ap, els, hs⟩
      · have hjl : j < σ1.length := (List.getElem?_eq_some_iff.1 hs).1
        have hjr : j < r.length := by
          rcases Nat.lt_or_ge j r.length with h | h
          · exact h
          · rw [hρ, rhoL_hi _ _ _ _ h hjl] at hj; cases hj; omega
        rw [hρ, rhoL_lo _ _ _ _ hjr hjl] at hj
        have := hst.eqv.1 _ _ _ _ rfl
        subst this
        obtain ⟨ap', els', h3⟩ := hs1.pin.refr j (by rw [hpinS, hσ0l]; exact hjr) e sz ap els hs
        rw [hpinS] at h3
        obtain ⟨i', s', hi', hs', hst'⟩ := back h3
        rw [hj] at hi'; cases hi'
        cases s' with
        | box e' cs' => obtain ⟨ds, hd, _⟩ := hst'; cases hd
        | row e' sz' ap2 els2 => cases hst'; exact ⟨_, _, hs'⟩
        | _ => cases hst'
    · rcases ent i _ h with ⟨_, _, hs, _⟩ | ⟨j, s, hj, hs, hst, _⟩
      · exact ⟨e, cs, hs⟩
      · have hjl : j < σ1.length := (List.getElem?_eq_some_iff.1 hs).1
        have hjr : j < r.length := by
          rcases Nat.lt_or_ge j r.length with h | h
          · exact h
          · rw [hρ, rhoL_hi _ _ _ _ h hjl] at hj; cases hj; omega
        rw [hρ, rhoL_lo _ _ _ _ hjr hjl] at hj
        obtain ⟨ds, hd, _⟩ := hst.eqv.2 _ _ rfl
        subst hd
        obtain ⟨e', cs', h3⟩ := hs1.pin.refb j (by rw [hpinS, hσ0l]; exact hjr) e ds hs
        rw [hpinS] at h3
        obtain ⟨i', s', hi', hs', hst'⟩ := back h3
        rw [hj] at hi'; cases hi'
        cases s' with
        | box e' cs' => exact ⟨_, _, hs'⟩
        | _ => cases hst'
  have okB : ∀ b, Ok m σ1 vals1 w' b → Ok cx σ2 vals2 w' b := by
    rintro b ⟨h1, h2, h3⟩
    have ho : m.own b → (cx.okA b ∨ cx.own b) := fun h => .inr (ownC b h)
    refine ⟨?_, h2, fun hm => ?_⟩
    · rcases h1 with h1 | h1
      · exact ((hokA b).1 h1).1
      · exact ho h1
    · rcases mut2 b hm with ⟨i, s, v, hir, g1, g2, g3, g4⟩ | h
      · rcases h1 with h1 | h1
        · exact ((hokA b).1 h1).2.2 ⟨i, s, v, g1, g2, g3, g4⟩
        · exact apart i s v b hir g1 g2 g3 g4 h1
      · exact h3 h
  have hs2 : RelS cx σ2 vals2 w' := by
    refine ⟨⟨?_, ?_, ?_, Nat.le_trans hr.s.below.size hsize, fun k hk ho => ?_⟩, fun v hv => ?_, ?_, fun i t v ht hv => ?_, fun i j t1 t2 u1 u2 b hij h1 h2 l1 l2 g1 g2 g3 g4 => ?_, ⟨Nat.le_trans hr.s.fr.size hsize, fun b hb => ?_, fun b hm hb => ?_⟩, hr.s.pin.keep hkeep⟩
    · have := hs1.below.os; rw [hw0] at this; exact this.trans hr.s.below.os
    · have := hs1.below.tape; rw [hw0] at this; exact this.trans hr.s.below.tape
    · have := hs1.below.output; rw [hw0] at this; exact this.trans hr.s.below.output
    · exact (same k (Nat.lt_of_lt_of_le hk hr.s.below.size) (fun h => ho (ownC k h))).trans (hr.s.below.block k hk ho)
    · rcases List.mem_append.1 hv with hv | hv
      · exact hr.s.one v hv
      · exact hs1.one v (List.mem_of_mem_drop hv)
    · show (vals ++ vals1.drop r.length).length = _
      rw [List.length_append, List.length_drop, hr.s.len, hlen1, hlen2]
    · rcases ent i t ht with ⟨_, hir, hs, hve⟩ | ⟨j, s, hj, hs, hst, hve⟩
      · rw [hve] at hv
        have hrb := hr.s.sto i t v hs hv
        exact hkeep.rb hrb (fun hl b hb => same b (hrb.block hl hb).2 (apart i t v b hir hs hl hv hb))
      · rw [hve] at hv
        have hrb := hs1.sto j s v hs hv
        cases t with
        | dead => trivial
        | fz x => cases hst; exact Rd.mono okB (fun _ _ _ => rfl) _ _ hrb
        | row e sz ap els =>
          cases hst
          obtain ⟨h0, cells, f1, f2, f3, f4⟩ := hrb
          refine ⟨h0, cells, ⟨f1.1, ?_⟩, f2, f3, RdL.mono okB (fun _ _ _ => rfl) _ _ f4⟩
          rcases f1.2 with h | ⟨g, cap, cur, fr, e1, e2, e3⟩
          · exact .inl h
          · exact .inr ⟨g, cap, cur, fr, e1, ownC g e2, e3⟩
        | box e cs =>
          obtain ⟨ds, rfl, hd⟩ := hst
          obtain ⟨b, arr, f1, f2, f3, f4, f5⟩ := hrb
          exact ⟨b, arr, f1, ownC b f2, f3, hd.onesB f4, RenL.back hB okB _ _ _ hd f5⟩
    · rcases ent i t1 h1 with ⟨_, hir, hs, hve⟩ | ⟨j1, s1, hj1, hsj1, hst1, hve⟩
      · rw [hve] at g1
        rcases ent j t2 h2 with ⟨_, hjr, hsj, hvj⟩ | ⟨j2, s2, hj2, hsj2, hst2, hvj⟩
        · rw [hvj] at g2
          exact hr.s.dis i j t1 t2 u1 u2 b hij hs hsj l1 l2 g1 g2 g3 g4
        · rw [hvj] at g2
          exact apart i t1 u1 b hir hs l1 g1 g3 (mut1 b ⟨j2, s2, u2, hsj2, hst2.live.trans l2, g2, g4⟩).1
      · rw [hve] at g1
        rcases ent j t2 h2 with ⟨_, hjr, hsj, hvj⟩ | ⟨j2, s2, hj2, hsj2, hst2, hvj⟩
        · rw [hvj] at g2
          exact apart j t2 u2 b hjr hsj l2 g2 g4 (mut1 b ⟨j1, s1, u1, hsj1, hst1.live.trans l1, g1, g3⟩).1
        · rw [hvj] at g2
          refine hs1.dis j1 j2 s1 s2 u1 u2 b (fun e => ?_) hsj1 hsj2 (hst1.live.trans l1) (hst2.live.trans l2) g1 g2 g3 g4
          subst e
          rw [hj1] at hj2; cases hj2; exact hij rfl
    · refine (same b (Nat.lt_of_lt_of_le (cx.hk b hb) hr.s.fr.size) (fun ho => ?_)).trans (hr.s.fr.same b hb)
      rcases (hown b).1 ho with h | h
      · have := cx.hk b hb; have := hr.s.fr.size; omega
      · exact hr.s.fr.mutn b (hm0' b h) hb
    · rcases mut2 b hm with ⟨i, s, v, _, f1, f2, f3, f4⟩ | h
      · exact hr.s.fr.mutn b ⟨i, s, v, f1, f2, f3, f4⟩ hb
      · rcases (hown b).1 (mut1 b h).1 with h | h
        · have := cx.hk b hb; have := hr.s.fr.size; omega
        · exact hr.s.fr.mutn b (hm0' b h) hb
  exact hnext _ _ _ v w' hK (hr.keep hs2 hkeep) (Ren.back hB okB _ _ _ hres hra)

theorem out_callK {K : AV → Sto → Prop} {Γ : Ctx} (hΓ : Sound cx.P Γ) (hr : Rel cx env σ vals a w) (f : FuncId) (as : List AV) (vs : Array Value) (hrun0 : (execOp a.eval o).run cx.P w = (callFunc f vs).run cx.P w) (hral : RAL (Ok cx σ vals w) σ vals w as vs.toList)
    (hK : callK (Γ f) as σ K) : Out cx env a w o K := by
  unfold callK at hK
  cases hmu : (Γ f).mu with
  | true => rw [hmu] at hK; exact out_callM hΓ hr f as vs hrun0 hral hmu hK
  | false => rw [hmu] at hK; exact out_callF hΓ hr f as vs hrun0 hral hmu hK

theorem out_call {K : AV → Sto → Prop} {Γ : Ctx} (hΓ : Sound cx.P Γ) (hr : Rel cx env σ vals a w) (f : FuncId) (args : List Operand) (c : Call) (ho : o.op = .call c) (hc : c.callee = .value (.func f)) (hargs : c.args.toList = args)
    (hK : callK (Γ f) (args.map (evF env)) σ K) : Out cx env a w o K := by
  refine out_callK hΓ hr f _ (args.map a.eval).toArray ?_ (by simpa using hr.evL args) hK
  have hargs' : c.args = args.toArray := by rw [← hargs]
  simp [execOp, ho, resolve, hc, invoke, hargs', Deferred.ofValue, Act.eval]

theorem appK2_spec (l m : List AV) : ∀ (K : List AV → Prop), appK2 l m K → K (l ++ m) := by
  induction l with
  | nil => intro K h; exact h
  | cons x l ih => intro K h; exact ih _ h

theorem out_callv {K : AV → Sto → Prop} {Γ : Ctx} (hΓ : Sound cx.P Γ) (hr : Rel cx env σ vals a w) (x : Operand) (args : List Operand) (c : Call) (ho : o.op = .call c) (hc : c.callee = .value x) (hargs : c.args.toList = args)
    (hK : callvK Γ (evF env x) (args.map (evF env)) σ K) : Out cx env a w o K := by
  have hargs' : c.args = args.toArray := by rw [← hargs]
  have hx := hr.ev x
  have main : ∀ (g : FuncId) (cs : List AV) (cv : Array Value), a.eval x = .func (.func g) #[] cv → RAL (Ok cx σ vals w) σ vals w cs cv.toList → callK (Γ g) (args.map (evF env) ++ cs) σ K → Out cx env a w o K := by
    intro g cs cv hv hral hK
    refine out_callK hΓ hr g _ ((args.map a.eval).toArray ++ cv) ?_ ?_ hK
    · simp [execOp, ho, resolve, hc, invoke, hargs', Deferred.ofValue, hv]
    · rw [raL_append]
      exact ⟨_, _, by simp, hr.evL args, hral⟩
  cases hev : evF env x with
  | pv p =>
    rw [hev] at hK hx
    cases p with
    | clo g caps =>
      simp only [RA, Rd] at hx
      obtain ⟨cv, hv, hcs⟩ := hx
      exact main g _ cv hv ((raL_map_pv _ _).2 hcs) (appK2_spec _ _ _ (pvsK_spec _ _ hK))
    | _ => exact (show False from hK).elim
  | clo g cs =>
    rw [hev] at hK hx
    simp only [RA] at hx
    obtain ⟨cv, hv, hcs⟩ := hx
    exact main g cs cv hv hcs (appK2_spec _ _ _ hK)
  | _ => rw [hev] at hK; exact (show False from hK).elim

theorem out_mkfK {K : AV → Sto → Prop} {Γ : Ctx} (hr : Rel cx env σ vals a w) (f : FuncId) (first caps : Array Operand) (ho : o.op = .makeFunc (.func f) first caps) (hf : first.toList = [])
    (hK : match (Γ f).mu with
      | true => K (.clo f (caps.toList.map (evF env))) σ
      | false => boxesK (caps.toList.map (evF env)) σ fun xs σ => K (.pv (.clo f xs)) σ) : Out cx env a w o K := by
  cases hmu : (Γ f).mu with
  | false => rw [hmu] at hK; exact out_mkf hr f first caps ho hf hK
  | true =>
    rw [hmu] at hK
    have hf' : first = #[] := Array.toList_eq_nil_iff.1 hf
    refine Out.run (v := .func (.func f) #[] (caps.map a.eval)) (by simp [execOp, ho, Instr.makeFunc, hf']) hr (av := .clo f (caps.toList.map (evF env))) ?_ hK
    simp only [RA]
    exact ⟨_, rfl, by simpa using hr.evL caps.toList⟩
end
end Go.Dv
end
section
/-
  From operations to regions and code.
-/
set_option linter.unusedSimpArgs false
namespace Go.Dv
open Go.RowKit
section
variable {cx : Cx} {env : Env} {σ : Sto} {vals : List Value} {a : Act} {w w' : World} {o : Oper}

theorem opt_some {α β : Type} {o : Option α} {f : α → Option β} {r : β} (h : opt o f = some r) : ∃ x, o = some x ∧ f x = some r := by
  unfold opt at h
  cases o with
  | none => cases h
  | some x => exact ⟨x, rfl, h⟩

theorem need_some {α : Type} {b : Bool} {x : Option α} {r : α} (h : need b x = some r) : b = true ∧ x = some r := by
  unfold need at h
  cases b with
  | true => exact ⟨rfl, h⟩
  | false => cases h

theorem slInfo_some {P : Program} {t : TypeId} {i : TypeId × Nat × Nat} (h : slInfo P t = some i) : ∃ ti, P.underlying t = some (.slice i.1) ∧ P.info? i.1 = some ti ∧ ti.size = i.2.1 ∧ ti.bytes = i.2.2 := by
  unfold slInfo at h
  split at h
  · rename_i e hu
    obtain ⟨ti, hi, h⟩ := opt_some h
    cases h
    exact ⟨ti, hu, hi, rfl, rfl⟩
  · cases h

theorem fieldPlace_some {P : Program} {t : TypeId} {f : Nat} {q : Nat × Bool × Nat} (h : Dv.fieldPlace P t f = some q) : ∃ fs fd, P.underlying t = some (.struct fs) ∧ fs[f]? = some fd ∧ q.1 = fd.offset ∧ Shape P fd.type q.2.1 q.2.2 ∧ 0 < q.2.2 := by
  unfold Dv.fieldPlace at h
  split at h
  · rename_i fs hu
    obtain ⟨fd, hf, h⟩ := opt_some h
    obtain ⟨s, hs, h⟩ := opt_some h
    obtain ⟨h0, h⟩ := need_some h
    cases h
    exact ⟨fs, fd, hu, hf, rfl, shape_of hs, by simpa using h0⟩
  · cases h

theorem isNilS_eq {x : Operand} (h : isNilS x = true) : x = .const (.slice none 0 0) := by
  unfold isNilS at h
  split at h
  · rfl
  · cases h

theorem out_nilR {K : AV → Sto → Prop} (hr : Rel cx env σ vals a w) (e : TypeId) (sz : Nat) (hz : 0 < sz) (hrun : (execOp a.eval o).run cx.P w = .ok (.value (.slice none 0 0)) w) (hK : K (.own σ.length) (σ ++ [.row e sz true []])) : Out cx env a w o K := by
  obtain ⟨h1, h2⟩ := hr.s.pushes (Below.refl _ w) [.row e sz true []] [.slice none 0 0] rfl (by simp [Value.oneCell']) (by intro u hu b hb; simp at hu; subst hu; cases hb)
    (by intro i j u t b hij hu _ hb; cases i with
        | zero => simp at hu; subst hu; cases hb
        | succ i => simp at hu)
    (by intro _ i s u hs hu
        cases i with
        | zero => simp at hs hu; subst hs hu; exact ⟨hz, [], owns_nil _ _ _ _ _, by simp, by simp, by simp [RdL]⟩
        | succ i => simp at hs)
  refine Out.run hrun ⟨h1, fun p => h2.ra _ _ (hr.env p), hr.defers, fun x v hq => h2.ra _ _ (hr.gh x v hq), hr.lo⟩ (av := .own σ.length) ?_ hK
  simp only [RA]
  rw [← hr.s.len]
  simp

theorem op_sound {Γ : Ctx} (hΓ : Sound cx.P Γ) (hr : Rel cx env σ vals a w) {k : PK} {dr : Bool} (hc : compK cx.P dr o = some k) {K : AV → Sto → Prop} (hK : evK Γ env σ k K) : Out cx env a w o K := by
  unfold compK at hc
  split at hc
  · -- move
    rename_i x ho
    split at hc
    · rename_i hn
      obtain ⟨i, _, hc⟩ := opt_some hc
      have := isNilS_eq hn
      subst this
      cases dr with
      | true =>
        cases hc
        exact Out.run (v := .slice none 0 0) (by simp [execOp, ho, Act.eval]) hr (av := .pv (.nil i.2.1)) (by simp only [RA, Rd]) hK
      | false =>
        cases hz : Nat.blt 0 i.2.1 with
        | true =>
          rw [hz] at hc
          cases hc
          exact out_nilR hr _ _ (Nat.le_of_ble_eq_true hz) (by simp [execOp, ho, Act.eval]) (snocK_spec _ _ _ (lenK_spec σ _ hK))
        | false =>
          rw [hz] at hc
          cases hc
          exact Out.run (v := .slice none 0 0) (by simp [execOp, ho, Act.eval]) hr (av := .pv (.nil i.2.1)) (by simp only [RA, Rd]) hK
    · cases hc
      exact out_move hr x (.inl ho) (ev_spec _ _ _ hK)
  · -- assign
    rename_i x ho
    split at hc
    · rename_i hn
      obtain ⟨i, _, hc⟩ := opt_some hc
      have := isNilS_eq hn
      subst this
      cases dr with
      | true =>
        cases hc
        exact Out.run (v := .slice none 0 0) (by simp [execOp, ho, Act.eval]) hr (av := .pv (.nil i.2.1)) (by simp only [RA, Rd]) hK
      | false =>
        cases hz : Nat.blt 0 i.2.1 with
        | true =>
          rw [hz] at hc
          cases hc
          exact out_nilR hr _ _ (Nat.le_of_ble_eq_true hz) (by simp [execOp, ho, Act.eval]) (snocK_spec _ _ _ (lenK_spec σ _ hK))
        | false =>
          rw [hz] at hc
          cases hc
          exact Out.run (v := .slice none 0 0) (by simp [execOp, ho, Act.eval]) hr (av := .pv (.nil i.2.1)) (by simp only [RA, Rd]) hK
    · cases hc
      exact out_move hr x (.inr ho) (ev_spec _ _ _ hK)
  · -- pick
    rename_i c x y ho
    cases hc
    refine out_pick hr c x y ho ?_
    have h := ev_spec _ _ _ hK
    revert h
    cases evF env c with
    | pv p =>
      cases p with
      | bool b => cases b with
        | true => intro h; exact ev_spec _ _ _ h
        | false => intro h; exact ev_spec _ _ _ h
      | _ => exact fun h => h
    | _ => exact fun h => h
  · -- binOp
    rename_i op t x y u ho
    have bin : ∀ op, o.op = .binOp op t x y u → evK Γ env σ (.bin op x y) K → Out cx env a w o K := fun op ho hK => out_bin hr op t u x y ho (ev_spec _ _ _ (ev_spec _ _ _ hK))
    split at hc
    · split at hc
      · cases hc; exact bin _ ho hK
      · cases hc; exact bin _ ho hK
      · rename_i ht
        cases hc
        exact out_eqb hr false t u x y (ev_spec _ _ _ (ev_spec _ _ _ hK)) ho ht
      · rename_i fs ht
        obtain ⟨ks, hk, hc⟩ := opt_some hc
        obtain ⟨h1, hc⟩ := need_some hc
        cases hc
        simp only [Bool.and_eq_true, Bool.not_eq_true'] at h1
        exact out_eqs hr false ks t u x y (ev_spec _ _ _ (ev_spec _ _ _ hK)) ho fs ht hk h1.1 h1.2
      · cases hc
    · split at hc
      · cases hc; exact bin _ ho hK
      · cases hc; exact bin _ ho hK
      · rename_i ht
        cases hc
        exact out_eqb hr true t u x y (ev_spec _ _ _ (ev_spec _ _ _ hK)) ho ht
      · rename_i fs ht
        obtain ⟨ks, hk, hc⟩ := opt_some hc
        obtain ⟨h1, hc⟩ := need_some hc
        cases hc
        simp only [Bool.and_eq_true, Bool.not_eq_true'] at h1
        exact out_eqs hr true ks t u x y (ev_spec _ _ _ (ev_spec _ _ _ hK)) ho fs ht hk h1.1 h1.2
      · cases hc
    · cases hc; exact bin _ ho hK
  · -- unOp
    rename_i op t x ho
    cases hc
    exact out_un hr op t x ho (ev_spec _ _ _ hK)
  · -- convert
    rename_i s d x ho
    split at hc
    · rename_i k0 k hs hd
      cases hc
      exact out_toInt hr s d k k0 x ho hs hd (ev_spec _ _ _ hK)
    · rename_i hs hd
      cases hc
      exact out_same hr s d x ho hs hd (ev_spec _ _ _ hK)
    · rename_i e hs hd
      split at hc
      · rename_i he
        cases hc
        exact out_bts hr s d e x ho hs he hd (ev_spec _ _ _ hK)
      · cases hc
    · rename_i e hs hd
      split at hc
      · rename_i he
        cases hc
        exact out_stb hr s d e x ho hs hd he (ev_spec _ _ _ hK)
      · cases hc
    · cases hc
  · -- load
    rename_i t x ho
    obtain ⟨s, hs, hc⟩ := opt_some hc
    have hsh := shape_of hs
    split at hc
    · rename_i h1
      cases hc
      rw [h1] at hsh
      exact out_load hr t x true _ ho ⟨_, hsh, rfl⟩ (ev_spec _ _ _ hK)
    · rename_i h1
      cases hc
      rw [h1] at hsh
      exact out_load hr t x false _ ho ⟨_, hsh, rfl⟩ (ev_spec _ _ _ hK)
  · -- store
    rename_i t x v ho
    obtain ⟨i, hi, hc⟩ := opt_some hc
    cases hc
    exact out_store hr t i x v ho hi (ev_spec _ _ _ (ev_spec _ _ _ hK))
  · -- alloc
    rename_i e ho
    obtain ⟨z, hz, hc⟩ := opt_some hc
    cases hc
    exact out_alloc hr e z ho hz hK
  · -- box
    rename_i e x ho
    cases hc
    exact out_box hr e x ho (ev_spec _ _ _ hK)
  · -- build
    rename_i t parts ho
    split at hc
    · rename_i fs hu
      obtain ⟨z, hz, hc⟩ := opt_some hc
      obtain ⟨pl, hpl, hc⟩ := opt_some hc
      obtain ⟨ps, hps, hc⟩ := opt_some hc
      split at hc
      · cases hc
        exact out_build hr t parts fs _ pl ps ho hu hz hpl hps hK
      · cases hc
    · cases hc
  · -- buildSlice
    rename_i t n parts ho
    obtain ⟨i, hi, hc⟩ := opt_some hc
    obtain ⟨ps, hps, hc⟩ := opt_some hc
    obtain ⟨h1, hc⟩ := need_some hc
    obtain ⟨z, hz, hc⟩ := opt_some hc
    cases hc
    obtain ⟨ti, hu, hie, hsz, _⟩ := slInfo_some hi
    simp only [Bool.and_eq_true, decide_eq_true_eq] at h1
    obtain ⟨⟨h1, h2⟩, h3⟩ := h1
    rw [← hsz] at h2 h3 hK
    exact out_bslice hr t i.1 ti n parts ps z ho hu hie hps (Nat.eq_of_beq_eq_true h1) h2 (Nat.le_of_ble_eq_true h3) hz (evs_spec _ _ _ hK)
  · -- call
    rename_i c ho
    split at hc
    · rename_i b hcal
      split at hc
      · rename_i x hargs
        obtain ⟨t, ht, hc⟩ := opt_some hc
        split at hc
        · rename_i hu
          cases hc
          exact out_lenS hr x t c ho hcal hargs ht hu (ev_spec _ _ _ hK)
        · rename_i e hu
          cases hc
          exact out_lenR hr x t e c ho hcal hargs ht hu (ev_spec _ _ _ hK)
        · cases hc
      · rename_i x y hargs
        split at hc
        · rename_i t u hat
          obtain ⟨i, hi, hc⟩ := opt_some hc
          obtain ⟨z, hz, hc⟩ := opt_some hc
          obtain ⟨h1, hc⟩ := need_some hc
          obtain ⟨ti, hu, hie, hsz, hby⟩ := slInfo_some hi
          simp only [Bool.and_eq_true, decide_eq_true_eq] at h1
          obtain ⟨h1, h2⟩ := h1
          have h2 := Nat.eq_of_beq_eq_true h2
          split at hc
          · rename_i htu
            cases hc
            have := Nat.eq_of_beq_eq_true htu
            subst this
            rw [← hsz] at h1 h2 hK
            rw [← hby] at hK
            exact out_app hr t i.1 ti z x y c ho hcal hargs hat hu hie hz h2 h1 (ev_spec _ _ _ (ev_spec _ _ _ hK))
          · split at hc
            · rename_i hus
              split at hc
              · rename_i he
                obtain ⟨h3, hc⟩ := need_some hc
                have h3 := Nat.eq_of_beq_eq_true h3
                cases hc
                rw [← hby] at hK
                exact out_appS hr t u i.1 ti z x y c ho hcal hargs hat hu hus hie hz (by rw [h2, hsz]) (by rw [hsz, h3]) (ev_spec _ _ _ (ev_spec _ _ _ hK))
              · cases hc
            · cases hc
        · cases hc
      · rename_i x y hargs
        cases hc
        exact out_mm hr false x y (ev_spec _ _ _ (ev_spec _ _ _ hK)) c ho hcal hargs
      · rename_i x y hargs
        cases hc
        exact out_mm hr true x y (ev_spec _ _ _ (ev_spec _ _ _ hK)) c ho hcal hargs
      · cases hc
    · rename_i f hcal
      split at hc
      · rename_i f
        obtain ⟨fn, hf, hc⟩ := opt_some hc
        split at hc
        · rename_i bd hbd
          obtain ⟨h1, hc⟩ := need_some hc
          cases hc
          exact out_call hΓ hr f c.args.toList c ho hcal rfl (evs_spec _ _ _ hK)
        · cases hc
      · rename_i t
        cases hc
        exact out_callv hΓ hr (.tmp t) c.args.toList c ho hcal rfl (evs_spec env _ (fun as => callvK Γ (evF env (.tmp t)) as σ K) (ev_spec env (.tmp t) (fun f => evs env c.args.toList fun as => callvK Γ f as σ K) hK))
      · cases hc
    · cases hc
  · -- extract
    rename_i x i ho
    cases hc
    exact out_ext hr x i ho (ev_spec _ _ _ hK)
  · -- slice
    rename_i t x lo hi mx ho
    split at hc
    · split at hc
      · rename_i hu
        cases hc
        exact out_slcS hr t x lo hi ho hu (evO_spec _ _ _ (evO_spec _ _ _ (ev_spec _ _ _ hK)))
      · rename_i e hu
        obtain ⟨i, hi, hc⟩ := opt_some hc
        cases hc
        exact out_slcR hr t e i x lo _ ho hu hi (evO_spec _ _ _ (evO_spec _ _ _ (ev_spec _ _ _ hK)))
      · cases hc
    · cases hc
  · -- index
    rename_i t x i ho
    split at hc
    · rename_i hu
      cases hc
      exact out_idx hr t x i ho hu (ev_spec _ _ _ (ev_spec _ _ _ hK))
    · cases hc
  · -- indexAddr
    rename_i t x i ho
    obtain ⟨s, hs, hc⟩ := opt_some hc
    cases hc
    obtain ⟨ti, hu, hie, hsz, _⟩ := slInfo_some hs
    rw [← hsz] at hK
    exact out_idxA hr t s.1 ti x i ho hu hie (ev_spec _ _ _ (ev_spec _ _ _ hK))
  · -- fieldAddr
    rename_i s x f ho
    obtain ⟨q, hq, hc⟩ := opt_some hc
    cases hc
    obtain ⟨fs, fd, hu, hf, h1, h2, h3⟩ := fieldPlace_some hq
    exact out_fldA hr s x f q.1 ho (fun b n => by rw [h1]; exact run_fieldAt cx.P s f fs fd _ _ hu hf h2 h3 b n) (ev_spec _ _ _ hK)
  · -- field
    rename_i s x f ho
    obtain ⟨q, hq, hc⟩ := opt_some hc
    obtain ⟨fs, fd, hu, hf, h1, h2, h3⟩ := fieldPlace_some hq
    split at hc
    · rename_i hag
      cases hc
      rw [hag] at h2
      rw [h1] at hK
      exact out_fld hr s x f fs fd true _ ho hu hf ⟨_, h2, rfl⟩ (ev_spec _ _ _ hK)
    · rename_i hag
      cases hc
      rw [hag] at h2
      rw [h1] at hK
      exact out_fld hr s x f fs fd false _ ho hu hf ⟨_, h2, rfl⟩ (ev_spec _ _ _ hK)
  · -- nilCheck
    rename_i x ho
    cases hc
    exact out_nilck hr x ho (ev_spec _ _ _ hK)
  · -- makeFunc
    rename_i f first caps ho
    split at hc
    · rename_i f hf
      cases hc
      exact out_mkfK hr _ first caps ho hf (evs_spec _ _ _ hK)
    · cases hc
  · -- makeSlice
    rename_i t l c ho
    obtain ⟨i, hi, hc⟩ := opt_some hc
    obtain ⟨z, hz, hc⟩ := opt_some hc
    obtain ⟨h1, hc⟩ := need_some hc
    cases hc
    obtain ⟨ti, hu, hie, hsz, hby⟩ := slInfo_some hi
    simp only [Bool.and_eq_true, decide_eq_true_eq] at h1
    obtain ⟨h1, h2⟩ := h1
    have h2 := Nat.eq_of_beq_eq_true h2
    rw [← hsz] at h1 h2 hK
    rw [← hby] at hK
    exact out_mksl hr t i.1 ti z l c ho hu hie hz h1 h2 (ev_spec _ _ _ (ev_spec _ _ _ hK))
  · cases hc
end
end Go.Dv
end
section
/-
  A region whose order is open: what is reckoned in the text's order holds in every order that its edges allow.
-/
set_option linter.unusedSimpArgs false
namespace Go.Dv
open Go.RowKit

theorem nbeq {a b : Nat} (h : a ≠ b) : Nat.beq a b = false := by
  cases hb : Nat.beq a b with
  | false => rfl
  | true => exact absurd (Nat.eq_of_beq_eq_true hb) h

theorem look_eq (p : Nat) (K : AV → Prop) (e : Env) : look p K e = K (lookF p e) := by
  induction e with
  | nil => rfl
  | cons hd e ih =>
    obtain ⟨q, v⟩ := hd
    show Bool.rec (motive := fun _ => Prop) (look p K e) (K v) (Nat.beq q p) = K (bif Nat.beq q p then v else lookF p e)
    cases Nat.beq q p with
    | true => rfl
    | false => exact ih

theorem ev_eq (env : Env) (o : Operand) (K : AV → Prop) : ev env o K = K (evF env o) := by
  cases o with
  | tmp t => exact look_eq t K env
  | _ => rfl

theorem evs_eq (env : Env) (l : List Operand) : ∀ (K : List AV → Prop), evs env l K = K (l.map (evF env)) := by
  induction l with
  | nil => intro K; rfl
  | cons o l ih =>
    intro K
    show (ev env o fun a => evs env l fun l => K (a :: l)) = _
    rw [ev_eq, ih]; rfl

theorem evO_eq (env : Env) (o : Option Operand) (K : Option AV → Prop) : evO env o K = K (o.map (evF env)) := by
  cases o with
  | none => rfl
  | some x => exact ev_eq env x _

theorem evParts_eq (env : Env) (l : List (Nat × Nat × Operand)) : ∀ (K : List (Nat × Nat × AV) → Prop), evParts env l K = K (l.map fun p => (p.1, p.2.1, evF env p.2.2)) := by
  induction l with
  | nil => intro K; rfl
  | cons o l ih =>
    intro K
    show (ev env o.2.2 fun a => evParts env l fun l => K ((o.1, o.2.1, a) :: l)) = _
    rw [ev_eq, ih]; rfl

section
variable {Γ : Ctx} {σ : Sto}

theorem evF_congr {env env' : Env} {o : Operand} (h : ∀ t ∈ rdOp o, lookF t env' = lookF t env) : evF env' o = evF env o := by
  cases o with
  | tmp t => exact h t (by simp [rdOp])
  | _ => rfl

theorem map_evF_congr {env env' : Env} {l : List Operand} (h : ∀ t ∈ l.flatMap rdOp, lookF t env' = lookF t env) : l.map (evF env') = l.map (evF env) :=
  List.map_congr_left fun o ho => evF_congr fun t ht => h t (List.mem_flatMap.2 ⟨o, ho, ht⟩)

theorem evFO_congr {env env' : Env} {o : Option Operand} (h : ∀ t ∈ rdO o, lookF t env' = lookF t env) : o.map (evF env') = o.map (evF env) := by
  cases o with
  | none => rfl
  | some x => exact congrArg some (evF_congr h)

theorem evK_congr {env env' : Env} {k : PK} {K : AV → Sto → Prop} (h : ∀ t ∈ k.reads, lookF t env' = lookF t env) : evK Γ env' σ k K = evK Γ env σ k K := by
  cases k with
  | mv x => simp only [evK, ev_eq, evF_congr (o := x) h]
  | nilS sz => rfl
  | nilR e sz => rfl
  | pick c a b =>
    have h1 := evF_congr (o := c) (env := env) (env' := env') fun t ht => h t (by simp [PK.reads, ht])
    have h2 := evF_congr (o := a) (env := env) (env' := env') fun t ht => h t (by simp [PK.reads, ht])
    have h3 := evF_congr (o := b) (env := env) (env' := env') fun t ht => h t (by simp [PK.reads, ht])
    simp only [evK, ev_eq, h1, h2, h3]
  | bin op x y =>
    have h1 := evF_congr (o := x) (env := env) (env' := env') fun t ht => h t (by simp [PK.reads, ht])
    have h2 := evF_congr (o := y) (env := env) (env' := env') fun t ht => h t (by simp [PK.reads, ht])
    simp only [evK, ev_eq, h1, h2]
  | eqb neg x y =>
    have h1 := evF_congr (o := x) (env := env) (env' := env') fun t ht => h t (by simp [PK.reads, ht])
    have h2 := evF_congr (o := y) (env := env) (env' := env') fun t ht => h t (by simp [PK.reads, ht])
    simp only [evK, ev_eq, h1, h2]
  | eqs neg n x y =>
    have h1 := evF_congr (o := x) (env := env) (env' := env') fun t ht => h t (by simp [PK.reads, ht])
    have h2 := evF_congr (o := y) (env := env) (env' := env') fun t ht => h t (by simp [PK.reads, ht])
    simp only [evK, ev_eq, h1, h2]
  | un op x => simp only [evK, ev_eq, evF_congr (o := x) h]
  | conv c x => simp only [evK, ev_eq, evF_congr (o := x) h]
  | lenS x => simp only [evK, ev_eq, evF_congr (o := x) h]
  | lenR x => simp only [evK, ev_eq, evF_congr (o := x) h]
  | lenN x => simp only [evK, ev_eq, evF_congr (o := x) h]
  | mm mx x y =>
    have h1 := evF_congr (o := x) (env := env) (env' := env') fun t ht => h t (by simp [PK.reads, ht])
    have h2 := evF_congr (o := y) (env := env) (env' := env') fun t ht => h t (by simp [PK.reads, ht])
    simp only [evK, ev_eq, h1, h2]
  | idx x y =>
    have h1 := evF_congr (o := x) (env := env) (env' := env') fun t ht => h t (by simp [PK.reads, ht])
    have h2 := evF_congr (o := y) (env := env) (env' := env') fun t ht => h t (by simp [PK.reads, ht])
    simp only [evK, ev_eq, h1, h2]
  | slcS x lo hi =>
    have h1 := evF_congr (o := x) (env := env) (env' := env') fun t ht => h t (by simp [PK.reads, ht])
    have h2 := evFO_congr (o := lo) (env := env) (env' := env') fun t ht => h t (by simp [PK.reads, ht])
    have h3 := evFO_congr (o := hi) (env := env) (env' := env') fun t ht => h t (by simp [PK.reads, ht])
    simp only [evK, ev_eq, evO_eq, h1, h2, h3]
  | slcR sz x lo hi =>
    have h1 := evF_congr (o := x) (env := env) (env' := env') fun t ht => h t (by simp [PK.reads, ht])
    have h2 := evFO_congr (o := lo) (env := env) (env' := env') fun t ht => h t (by simp [PK.reads, ht])
    have h3 := evFO_congr (o := hi) (env := env) (env' := env') fun t ht => h t (by simp [PK.reads, ht])
    simp only [evK, ev_eq, evO_eq, h1, h2, h3]
  | idxA sz x y =>
    have h1 := evF_congr (o := x) (env := env) (env' := env') fun t ht => h t (by simp [PK.reads, ht])
    have h2 := evF_congr (o := y) (env := env) (env' := env') fun t ht => h t (by simp [PK.reads, ht])
    simp only [evK, ev_eq, h1, h2]
  | fldA off x => simp only [evK, ev_eq, evF_congr (o := x) h]
  | fld off ag n x => simp only [evK, ev_eq, evF_congr (o := x) h]
  | load ag n x => simp only [evK, ev_eq, evF_congr (o := x) h]
  | store n x y =>
    have h1 := evF_congr (o := x) (env := env) (env' := env') fun t ht => h t (by simp [PK.reads, ht])
    have h2 := evF_congr (o := y) (env := env) (env' := env') fun t ht => h t (by simp [PK.reads, ht])
    simp only [evK, ev_eq, h1, h2]
  | alloc e z => rfl
  | box e x => simp only [evK, ev_eq, evF_congr (o := x) h]
  | build z ps =>
    have h1 : ps.map (fun p => (p.1, p.2.1, evF env' p.2.2)) = ps.map (fun p => (p.1, p.2.1, evF env p.2.2)) := by
      apply List.map_congr_left
      intro p hp
      rw [evF_congr fun t ht => h t (by simp only [PK.reads]; exact List.mem_flatMap.2 ⟨p, hp, ht⟩)]
    simp only [evK, evParts_eq, h1]
  | bslice e sz l =>
    have h1 := map_evF_congr (l := l) (env := env) (env' := env') h
    simp only [evK, evs_eq, h1]
  | app e sz b x y =>
    have h1 := evF_congr (o := x) (env := env) (env' := env') fun t ht => h t (by simp [PK.reads, ht])
    have h2 := evF_congr (o := y) (env := env) (env' := env') fun t ht => h t (by simp [PK.reads, ht])
    simp only [evK, ev_eq, h1, h2]
  | appS e b x y =>
    have h1 := evF_congr (o := x) (env := env) (env' := env') fun t ht => h t (by simp [PK.reads, ht])
    have h2 := evF_congr (o := y) (env := env) (env' := env') fun t ht => h t (by simp [PK.reads, ht])
    simp only [evK, ev_eq, h1, h2]
  | mksl e sz b z x y =>
    have h1 := evF_congr (o := x) (env := env) (env' := env') fun t ht => h t (by simp [PK.reads, ht])
    have h2 := evF_congr (o := y) (env := env) (env' := env') fun t ht => h t (by simp [PK.reads, ht])
    simp only [evK, ev_eq, h1, h2]
  | call f l =>
    have h1 := map_evF_congr (l := l) (env := env) (env' := env') h
    simp only [evK, evs_eq, h1]
  | ext x i => simp only [evK, ev_eq, evF_congr (o := x) h]
  | nilck x => simp only [evK, ev_eq, evF_congr (o := x) h]
  | mkf f l =>
    have h1 := map_evF_congr (l := l) (env := env) (env' := env') h
    simp only [evK, evs_eq, h1]
  | callv x l =>
    have h1 := evF_congr (o := x) (env := env) (env' := env') fun t ht => h t (by simp [PK.reads, ht])
    have h2 := map_evF_congr (l := l) (env := env) (env' := env') fun t ht => h t (by
      show t ∈ rdOp x ++ l.flatMap rdOp
      exact List.mem_append_right _ ht)
    simp only [evK, ev_eq, evs_eq, h1, h2]

/-- A predicate in passing style that passes one thing. -/
def Det {β : Type} (G : (β → Prop) → Prop) : Prop := ∀ K, G K → ∃ r, K r ∧ ∀ K' : β → Prop, K' r → G K'

theorem Det.ret {β : Type} (x : β) : Det fun K : β → Prop => K x := fun _ h => ⟨x, h, fun _ h => h⟩
theorem Det.no {β : Type} : Det fun _ : β → Prop => False := fun _ h => h.elim
theorem Det.and {β : Type} {p : Prop} {G : (β → Prop) → Prop} (h : Det G) : Det fun K => p ∧ G K := fun K hk => by
  obtain ⟨r, h1, h2⟩ := h K hk.2
  exact ⟨r, h1, fun K' h => ⟨hk.1, h2 K' h⟩⟩
theorem Det.imp {β : Type} {p : Prop} {G : (β → Prop) → Prop} (hp : p) (h : Det G) : Det fun K => p → G K := fun K hk => by
  obtain ⟨r, h1, h2⟩ := h K (hk hp)
  exact ⟨r, h1, fun K' h _ => h2 K' h⟩
theorem Det.ex {α β : Type} {G : α → (β → Prop) → Prop} (h : ∀ a, Det (G a)) : Det fun K => ∃ a, G a K := fun K ⟨a, hk⟩ => by
  obtain ⟨r, h1, h2⟩ := h a K hk
  exact ⟨r, h1, fun K' h => ⟨a, h2 K' h⟩⟩
theorem Det.num {β : Type} (f : Int → β) (n : Int) : Det fun K : β → Prop => ∀ r : Int, r = n → K (f r) := fun K h => ⟨f n, h n rfl, fun K' h r hr => hr ▸ h⟩
theorem Det.cmp {β : Type} (f : PV → β) (p : Prop) : Det fun K : β → Prop => cmpK p fun r => K (f r) := fun K h => by
  classical
  exact ⟨f (.bool (decide p)), h _ (by simp), fun K' h r hr => by
    have : r = decide p := by rw [Bool.eq_iff_iff]; simpa using hr
    rw [this]; exact h⟩
theorem Det.map {α β : Type} {G : (α → Prop) → Prop} (h : Det G) (f : α → β) : Det fun K => G fun a => K (f a) := fun K hk => by
  obtain ⟨r, h1, h2⟩ := h _ hk
  exact ⟨f r, h1, fun K' h => h2 _ h⟩
theorem Det.bind {α β : Type} {G : (α → Prop) → Prop} {H : α → (β → Prop) → Prop} (h : Det G) (h' : ∀ a, Det (H a)) : Det fun K => G fun a => H a K := fun K hk => by
  obtain ⟨a, h1, h2⟩ := h _ hk
  obtain ⟨r, h3, h4⟩ := h' a K h1
  exact ⟨r, h3, fun K' h => h2 _ (h4 K' h)⟩

theorem det_nthK {α : Type} (l : List α) : ∀ i, Det (nthK l i) := by
  induction l with
  | nil => intro i; exact Det.no
  | cons a l ih => intro i; cases i with
    | zero => exact Det.ret a
    | succ i => exact ih i
theorem det_takeK {α : Type} (n : Nat) : ∀ l : List α, Det (takeK n l) := by
  induction n with
  | zero => intro l; exact Det.ret _
  | succ n ih => intro l; cases l with
    | nil => exact Det.no
    | cons a l => exact (ih l).map (a :: ·)
theorem det_dropK {α : Type} (n : Nat) : ∀ l : List α, Det (dropK n l) := by
  induction n with
  | zero => intro l; exact Det.ret _
  | succ n ih => intro l; cases l with
    | nil => exact Det.no
    | cons a l => exact ih l
theorem det_spliceK {α : Type} (new l : List α) (i : Nat) : Det (spliceK new l i) := by
  intro K h
  obtain ⟨pre, mid, post, h1, h2, h3, h4⟩ := spliceK_spec new l i K h
  refine ⟨_, h4, fun K' h' => ?_⟩
  have over : ∀ (new l mid post : List α) (K : List α → Prop), l = mid ++ post → mid.length = new.length → K (new ++ post) →
      (List.rec (motive := fun _ => List α → (List α → Prop) → Prop) (fun l K => K l) (fun x _ ih l K => match l with | [] => False | _ :: r => ih r fun t => K (x :: t)) new l K) := by
    intro new
    induction new with
    | nil => intro l mid post K e hl hk; have : mid = [] := List.eq_nil_of_length_eq_zero hl; subst this; simp at e; subst e; exact hk
    | cons x new ih =>
      intro l mid post K e hl hk
      cases mid with
      | nil => simp at hl
      | cons m mid =>
        simp at e; subst e
        exact ih (mid ++ post) mid post _ rfl (by simpa using hl) hk
  clear h h4 K
  subst h1 h2
  induction pre generalizing K' with
  | nil =>
    cases hl : mid ++ post with
    | nil =>
      have hm : mid = [] := (List.append_eq_nil_iff.1 hl).1
      have hp : post = [] := (List.append_eq_nil_iff.1 hl).2
      subst hm hp
      have : new = [] := List.eq_nil_of_length_eq_zero h3.symm
      subst this
      exact h'
    | cons a r =>
      show spliceK new ([] ++ mid ++ post) 0 K'
      rw [List.nil_append, hl]
      exact over new (a :: r) mid post K' hl.symm h3 (by simpa using h')
  | cons a pre ih => exact ih _ (by simpa using h')

theorem det_pvsK (l : List PV) : Det (pvsK l) := by
  induction l with
  | nil => exact Det.ret _
  | cons x l ih => exact ih.map (AV.pv x :: ·)
theorem det_allPvK {β : Type} (l : List AV) (f : List PV → β) (e : β) : Det fun K : β → Prop => allPvK l (fun t => K (f t)) (K e) := by
  induction l generalizing f with
  | nil => exact Det.ret _
  | cons a l ih =>
    cases a with
    | pv x => exact ih fun t => f (x :: t)
    | _ => exact Det.ret e
theorem det_aggK (l : List AV) : Det (aggK l) := det_allPvK l (fun t => AV.pv (.agg t)) (AV.agg l)
theorem det_ofCells (ag : Bool) (cs : List PV) : Det (ofCells ag cs) := by
  cases ag with
  | true => exact Det.ret _
  | false => cases cs with
    | nil => exact Det.no
    | cons c cs => cases cs with
      | nil => exact Det.ret _
      | cons _ _ => exact Det.no
theorem det_ofAVs (ag : Bool) (cs : List AV) : Det (ofAVs ag cs) := by
  cases ag with
  | true => exact det_aggK cs
  | false => cases cs with
    | nil => exact Det.no
    | cons c cs => cases cs with
      | nil => exact Det.ret _
      | cons _ _ => exact Det.no
theorem det_partK (off : Nat) (ag : Bool) (n : Nat) (cs : List PV) : Det (partK off ag n cs) := (det_dropK off cs).bind fun r => (det_takeK n r).bind fun t => det_ofCells ag t
theorem det_cellsK (a : AV) : Det (cellsK a) := by
  cases a with
  | pv x => cases x with
    | agg cs => exact det_pvsK cs
    | tup _ => exact Det.no
    | _ => exact Det.ret _
  | agg cs => exact Det.ret _
  | own id => exact Det.ret _
  | ref id idx off => exact Det.ret _
  | clo f caps => exact Det.ret _
  | _ => exact Det.no
theorem det_buildK (ps : List (Nat × Nat × AV)) : ∀ z, Det (buildK z ps) := by
  induction ps with
  | nil => intro z; exact Det.ret z
  | cons p ps ih => intro z; exact (det_cellsK p.2.2).bind fun vs => Det.and ((det_spliceK vs z p.1).bind fun z => ih z)
theorem det_rowK {β : Type} (a : AV) (f : Nat → List PV → (β → Prop) → Prop) (h : ∀ s l, Det (f s l)) : Det fun K => rowK σ a fun s l => f s l K := by
  cases a with
  | pv x => cases x with
    | sl sz els => exact h sz els
    | nil sz => exact h sz []
    | _ => exact Det.no
  | own id =>
    refine (det_nthK σ id).bind fun b => ?_
    cases b with
    | row e sz ap els => exact h sz els
    | fz x => cases x with
      | sl sz els => exact h sz els
      | _ => exact Det.no
    | _ => exact Det.no
  | _ => exact Det.no
theorem det_upK {β : Type} (n : Nat) (hi : Option AV) (f : Nat → (β → Prop) → Prop) (h : ∀ k, Det (f k)) : Det fun K => upK n hi fun k => f k K := by
  cases hi with
  | none => exact h n
  | some a => cases a with
    | pv x => cases x with
      | int k m => exact Det.and (h _)
      | _ => exact Det.no
    | _ => exact Det.no
theorem det_boundsK {β : Type} (n : Nat) (lo hi : Option AV) (f : Nat → Nat → (β → Prop) → Prop) (h : ∀ l k, Det (f l k)) : Det fun K => boundsK n lo hi fun l k => f l k K := by
  cases lo with
  | none => exact det_upK n hi _ fun k => h 0 k
  | some a => cases a with
    | pv x => cases x with
      | int k m => exact det_upK n hi (fun u K => (0 ≤ m ∧ m ≤ (u : Int)) ∧ f m.toNat u K) fun u => Det.and (h _ _)
      | _ => exact Det.no
    | _ => exact Det.no
theorem det_asInt {β : Type} (a : AV) (f : IntKind → Int → (β → Prop) → Prop) (h : ∀ k n, Det (f k n)) : Det fun K => Dv.asInt a fun k n => f k n K := by
  cases a with
  | pv x => cases x with
    | int k n => exact h k n
    | _ => exact Det.no
  | _ => exact Det.no
theorem det_binI {β : Type} (op : BinOp) (k : IntKind) (a b : Int) (f : PV → β) : Det fun K : β → Prop => binI op k a b fun r => K (f r) := by
  cases op <;> simp only [binI, numK] <;> first | exact Det.num (fun r => f (.int k r)) _ | exact Det.cmp f _ | exact Det.and (Det.num (fun r => f (.int k r)) _)
theorem det_binP {β : Type} (op : BinOp) (x y : PV) (f : PV → β) : Det fun K : β → Prop => binP op x y fun r => K (f r) := by
  cases x with
  | int k a => cases y with
    | int j b =>
      show Det fun K : β → Prop => match sameKind op k j with | true => binI op k a b fun r => K (f r) | false => False
      cases sameKind op k j with
      | true => exact det_binI op k a b f
      | false => exact Det.no
    | _ => exact Det.no
  | str a => cases y with
    | str b => cases op <;> simp only [binP] <;> first | exact Det.no | exact Det.cmp f _ | exact Det.and (Det.ret (f (.str (a ++ b))))
    | _ => exact Det.no
  | _ => exact Det.no
theorem det_readAVs (l : List AV) : Det (readAVs σ l) := by
  have one : ∀ a, Det (readAV σ a) := by
    intro a
    refine AV.rec (motive_1 := fun a => Det (readAV σ a)) (motive_2 := fun l => Det (readAVs σ l)) ?_ ?_ ?_ ?_ ?_ ?_ ?_ ?_ ?_ a
    · exact Det.no
    · intro x; exact Det.ret x
    · intro id
      refine (det_nthK σ id).bind fun b => ?_
      cases b with
      | row e sz ap els => exact Det.ret _
      | fz x => exact Det.ret _
      | _ => exact Det.no
    · intro _ _ _; exact Det.no
    · intro cs ih K h
      obtain ⟨r, h1, h2⟩ := ih.map PV.agg K (readAV_agg σ cs K h)
      exact ⟨r, h1, fun K' h => readAV_agg' σ cs K' (h2 K' h)⟩
    · intro cs ih K h
      obtain ⟨r, h1, h2⟩ := ih.map PV.tup K (readAV_tup σ cs K h)
      exact ⟨r, h1, fun K' h => readAV_tup' σ cs K' (h2 K' h)⟩
    · intro _ _ _; exact Det.no
    · exact Det.ret _
    · intro a l h1 h2; exact h1.bind fun x => h2.map (x :: ·)
  induction l with
  | nil => exact Det.ret _
  | cons a l ih => exact (one a).bind fun x => ih.map (x :: ·)

/-- A step that turns no row and passes one value. -/
def Det2 (σ : Sto) (G : (AV → Sto → Prop) → Prop) : Prop := ∀ K, G K → ∃ v, K v σ ∧ ∀ K' : AV → Sto → Prop, K' v σ → G K'

theorem Det.two {G : (AV → Prop) → Prop} (h : Det G) : Det2 σ fun K => G fun a => K a σ := fun K hk => by
  obtain ⟨r, h1, h2⟩ := h _ hk
  exact ⟨r, h1, fun K' h => h2 _ h⟩
theorem Det2.no : Det2 σ fun _ => False := fun _ h => h.elim
theorem Det2.ret (a : AV) : Det2 σ fun K => K a σ := fun _ h => ⟨a, h, fun _ h => h⟩
theorem Det2.bindK {β : Type} {G : (β → Prop) → Prop} {H : β → (AV → Sto → Prop) → Prop} (h : Det G) (h' : ∀ a, Det2 σ (H a)) : Det2 σ fun K => G fun a => H a K := fun K hk => by
  obtain ⟨a, h1, h2⟩ := h _ hk
  obtain ⟨r, h3, h4⟩ := h' a K h1
  exact ⟨r, h3, fun K' h => h2 _ (h4 K' h)⟩

theorem det_loadK (ag : Bool) (n : Nat) (a : AV) : Det (loadK σ ag n a) := by
  cases a with
  | pv x => cases x with
    | cptr y => exact (det_partK 0 ag n y.cells).map AV.pv
    | _ => exact Det.no
  | ref id idx off =>
    refine (det_nthK σ id).bind fun b => ?_
    cases b with
    | row e sz ap els => exact Det.ex fun y => Det.and ((det_partK off ag n y.cells).map AV.pv)
    | box e cs => exact (det_dropK off cs).bind fun r => (det_takeK n r).bind fun t => det_ofAVs ag t
    | _ => exact Det.no
  | _ => exact Det.no
theorem det_idxAK (sz : Nat) (a : AV) (i : Int) : Det (idxAK σ sz a i) := by
  have one : ∀ (s : Nat) (els : List PV), Det fun K : AV → Prop => match Nat.beq s sz with
      | true => ∃ y, (0 ≤ i ∧ els[i.toNat]? = some y) ∧ K (.pv (.cptr y))
      | false => False := by
    intro s els
    cases Nat.beq s sz with
    | true => exact Det.ex fun y => Det.and (Det.ret (AV.pv (.cptr y)))
    | false => exact Det.no
  cases a with
  | pv x => cases x with
    | sl s els => exact one s els
    | _ => exact Det.no
  | own id =>
    refine (det_nthK σ id).bind fun b => ?_
    cases b with
    | row e s ap els =>
      show Det fun K : AV → Prop => match Nat.beq s sz with
        | true => (0 ≤ i ∧ i.toNat < els.length) ∧ K (.ref id i.toNat 0)
        | false => False
      cases Nat.beq s sz with
      | true => exact Det.and (Det.ret (AV.ref id i.toNat 0))
      | false => exact Det.no
    | fz x => cases x with
      | sl s els => exact one s els
      | _ => exact Det.no
    | _ => exact Det.no
  | _ => exact Det.no
theorem det_liveK {β : Type} (id : Nat) (r : β) : Det fun K : β → Prop => liveK σ id (K r) := by
  refine (det_nthK σ id).bind fun b => ?_
  cases b with
  | row _ _ _ _ => exact Det.ret r
  | box _ _ => exact Det.ret r
  | _ => exact Det.no
theorem det_fldAK (off : Nat) (a : AV) : Det (fldAK σ off a) := by
  cases a with
  | pv x => cases x with
    | cptr y => exact (det_dropK off y.cells).map fun r => AV.pv (.cptr (.agg r))
    | _ => exact Det.no
  | ref id idx o => exact det_liveK id (AV.ref id idx (Nat.add o off))
  | _ => exact Det.no

theorem det_op {P : Program} (hΓ : Sound P Γ) (env : Env) {k : PK} (hk : k.pure Γ = true) : Det2 σ (fun K => evK Γ env σ k K) := by
  cases k with
  | mv x => simp only [evK, ev_eq]; exact Det2.ret _
  | nilS sz => exact Det2.ret _
  | nilR e sz => cases hk
  | pick c a b =>
    simp only [evK, ev_eq]
    cases evF env c with
    | pv c => cases c with
      | bool c => cases c with
        | true => exact Det2.ret _
        | false => exact Det2.ret _
      | _ => exact Det2.no
    | _ => exact Det2.no
  | bin op x y =>
    simp only [evK, ev_eq]
    cases evF env x with
    | pv x => cases evF env y with
      | pv y => exact (det_binP op x y AV.pv).two
      | _ => exact Det2.no
    | _ => exact Det2.no
  | eqb neg x y =>
    simp only [evK, ev_eq]
    cases evF env x with
    | pv x => cases evF env y with
      | pv y => cases x with
        | bool a => cases y with
          | bool b => cases neg with
            | false => exact (Det.cmp AV.pv (a = b)).two
            | true => exact (Det.cmp AV.pv (a ≠ b)).two
          | _ => exact Det2.no
        | _ => exact Det2.no
      | _ => exact Det2.no
    | _ => exact Det2.no
  | eqs neg n x y =>
    simp only [evK, ev_eq]
    cases evF env x with
    | pv x => cases evF env y with
      | pv y => cases x with
        | agg a => cases y with
          | agg b =>
            simp only
            cases likeB n a b with
            | false => exact Det2.no
            | true => cases neg with
              | false => exact (Det.cmp AV.pv (a = b)).two
              | true => exact (Det.cmp AV.pv (a ≠ b)).two
          | _ => exact Det2.no
        | _ => exact Det2.no
      | _ => exact Det2.no
    | _ => exact Det2.no
  | un op x =>
    simp only [evK, ev_eq]
    cases evF env x with
    | pv x => cases op with
      | not => cases x with
        | bool b => exact (Det.cmp AV.pv (b = false)).two
        | _ => exact Det2.no
      | neg => cases x with
        | int k n => exact (Det.num (fun r => AV.pv (.int k r)) _).two
        | _ => exact Det2.no
      | _ => exact Det2.no
    | _ => exact Det2.no
  | conv c x =>
    simp only [evK, ev_eq]
    cases c with
    | toInt k => exact (det_asInt (evF env x) (fun _ n K => numK k n fun r => K (AV.pv r)) fun _ n => Det.num (fun r => AV.pv (.int k r)) _).two
    | same =>
      cases evF env x with
      | pv x => cases x with
        | str l => exact Det2.ret _
        | _ => exact Det2.no
      | _ => exact Det2.no
    | bts => exact (det_rowK (σ := σ) (evF env x) (fun _ els K => ∃ l : List UInt8, els = l.map byteP ∧ K (AV.pv (.str l))) fun s els => Det.ex fun l => Det.and (Det.ret _)).two
    | stb e => cases hk
  | lenS x =>
    simp only [evK, ev_eq]
    cases evF env x with
    | pv x => cases x with
      | str l => exact Det2.ret _
      | _ => exact Det2.no
    | _ => exact Det2.no
  | lenR x => cases hk
  | lenN x =>
    simp only [evK, ev_eq]
    exact (det_rowK (σ := σ) (evF env x) (fun _ els K => K (AV.pv (.int .i64 els.length))) fun s els => Det.ret _).two
  | mm mx x y =>
    simp only [evK, ev_eq]
    cases mx with
    | true => exact (det_asInt (evF env x) (fun k a K => Dv.asInt (evF env y) fun _ b => ∀ r : Int, r = max a b → K (AV.pv (.int k r))) fun k a => det_asInt (evF env y) (fun _ b K => ∀ r : Int, r = max a b → K (AV.pv (.int k r))) fun _ b => Det.num (fun r => AV.pv (.int k r)) _).two
    | false => exact (det_asInt (evF env x) (fun k a K => Dv.asInt (evF env y) fun _ b => ∀ r : Int, r = min a b → K (AV.pv (.int k r))) fun k a => det_asInt (evF env y) (fun _ b K => ∀ r : Int, r = min a b → K (AV.pv (.int k r))) fun _ b => Det.num (fun r => AV.pv (.int k r)) _).two
  | idx x y =>
    simp only [evK, ev_eq]
    refine Det.two (G := fun K => Dv.asInt (evF env y) fun _ i => match evF env x with
      | .pv x => match x with
        | .str l => ∃ b, (0 ≤ i ∧ l[i.toNat]? = some b) ∧ K (AV.pv (byteP b))
        | _ => False
      | _ => False) ?_
    refine det_asInt _ _ fun _ i => ?_
    cases evF env x with
    | pv x => cases x with
      | str l => exact Det.ex fun b => Det.and (Det.ret _)
      | _ => exact Det.no
    | _ => exact Det.no
  | slcS x lo hi =>
    simp only [evK, ev_eq, evO_eq]
    cases evF env x with
    | pv x => cases x with
      | str l => exact (det_boundsK l.length _ _ (fun a b K => K (AV.pv (.str (cut a b l)))) fun a b => Det.ret _).two
      | _ => exact Det2.no
    | _ => exact Det2.no
  | slcR sz x lo hi => cases hk
  | idxA sz x y =>
    simp only [evK, ev_eq]
    exact (det_asInt (evF env y) (fun _ i K => idxAK σ sz (evF env x) i K) fun _ i => det_idxAK sz _ i).two
  | fldA off x => simp only [evK, ev_eq]; exact (det_fldAK off _).two
  | fld off ag n x =>
    simp only [evK, ev_eq]
    cases evF env x with
    | pv x => cases x with
      | agg cs => exact ((det_partK off ag n cs).map AV.pv).two
      | _ => exact Det2.no
    | agg cs => exact ((det_dropK off cs).bind fun r => (det_takeK n r).bind fun t => det_ofAVs ag t).two
    | _ => exact Det2.no
  | load ag n x => simp only [evK, ev_eq]; exact (det_loadK ag n _).two
  | store n x y => cases hk
  | alloc e z => cases hk
  | box e x => cases hk
  | build z ps =>
    simp only [evK, evParts_eq]
    exact ((det_pvsK z).bind fun z => (det_buildK _ z).bind fun cs => det_aggK cs).two
  | bslice e sz l => cases hk
  | app e sz b x y => cases hk
  | appS e b x y => cases hk
  | mksl e sz b z x y => cases hk
  | call f l =>
    have hf : (Γ f).fn = true := hk
    obtain ⟨h1, h2, _⟩ := hΓ f
    simp only [evK, evs_eq, callK, (h2 hf).1, (h2 hf).2]
    refine Det2.bindK (det_readAVs _) fun ps => ?_
    intro K hK
    obtain ⟨x, h3, h4⟩ := h1 hf ps _ hK
    exact ⟨.pv x, h3, fun K' h => h4 _ h⟩
  | ext x i =>
    simp only [evK, ev_eq]
    cases evF env x with
    | tup l => exact (det_nthK l i).two
    | pv x => cases x with
      | tup l => exact ((det_nthK l i).map AV.pv).two
      | _ => exact Det2.no
    | _ => exact Det2.no
  | nilck x =>
    simp only [evK, ev_eq]
    cases evF env x with
    | ref id idx off => exact (det_liveK id (AV.ref id idx off)).two
    | pv x => cases x with
      | cptr y => exact Det2.ret _
      | _ => exact Det2.no
    | _ => exact Det2.no
  | mkf f l => cases hk
  | callv x l => cases hk

/-! ### One operation with its guard -/
noncomputable def stepO (Γ : Ctx) (o : PO) (env : Env) (σ : Sto) (K : Env → Sto → Prop) : Prop :=
  match o.g with
    | none => evK Γ env σ o.k fun v σ => K (put o.dst v env) σ
    | some (g, want) => match lookF g env with
      | .pv x => match x with
        | .bool b => bif b == want then evK Γ env σ o.k fun v σ => K (put o.dst v env) σ else K (put o.dst (.pv (.tup [])) env) σ
        | .tup _ => K (put o.dst (.pv (.tup [])) env) σ
        | _ => False
      | _ => False

theorem vcO_cons (K : Env → Sto → Prop) (o : PO) (l : List PO) (env : Env) : vcO Γ K (o :: l) env σ = stepO Γ o env σ (vcO Γ K l) := by
  obtain ⟨d, g, k⟩ := o
  cases g with
  | none => rfl
  | some p =>
    obtain ⟨g, want⟩ := p
    unfold stepO
    refine Eq.trans (look_eq g (fun gv => match gv with
      | .pv x => match x with
        | .bool b => match b with
          | true => (match want with
            | true => evK Γ env σ k fun v σ => vcO Γ K l (put d v env) σ
            | false => vcO Γ K l (put d (.pv (.tup [])) env) σ)
          | false => (match want with
            | false => evK Γ env σ k fun v σ => vcO Γ K l (put d v env) σ
            | true => vcO Γ K l (put d (.pv (.tup [])) env) σ)
        | .tup _ => vcO Γ K l (put d (.pv (.tup [])) env) σ
        | _ => False
      | _ => False) env) ?_
    simp only
    cases lookF g env with
    | pv x => cases x with
      | bool b => cases b <;> cases want <;> rfl
      | _ => rfl
    | _ => rfl

theorem det_step {P : Program} (hΓ : Sound P Γ) {o : PO} (ho : o.k.pure Γ = true) {env : Env} {K : Env → Sto → Prop} (h : stepO Γ o env σ K) :
    ∃ v, K (put o.dst v env) σ ∧ ∀ (env' : Env) (K' : Env → Sto → Prop), (∀ t ∈ o.reads, lookF t env' = lookF t env) → K' (put o.dst v env') σ → stepO Γ o env' σ K' := by
  obtain ⟨d, g, k⟩ := o
  have run : ∀ {env : Env} {K : Env → Sto → Prop}, evK Γ env σ k (fun v σ => K (put d v env) σ) → ∃ v, K (put d v env) σ ∧ ∀ (env' : Env) (K' : Env → Sto → Prop), (∀ t ∈ k.reads, lookF t env' = lookF t env) → K' (put d v env') σ → evK Γ env' σ k (fun v σ => K' (put d v env') σ) := by
    intro env K h
    obtain ⟨v, h1, h2⟩ := det_op hΓ env ho _ h
    refine ⟨v, h1, fun env' K' hr hk => ?_⟩
    rw [evK_congr hr]
    exact h2 _ hk
  cases g with
  | none =>
    obtain ⟨v, h1, h2⟩ := run (K := K) h
    exact ⟨v, h1, fun env' K' hr hk => h2 env' K' (fun t ht => hr t (by simp [PO.reads, ht])) hk⟩
  | some p =>
    obtain ⟨g, want⟩ := p
    unfold stepO at h
    simp only at h
    have hg : ∀ env' : Env, (∀ t ∈ PO.reads ⟨d, some (g, want), k⟩, lookF t env' = lookF t env) → lookF g env' = lookF g env := fun env' hr => hr g (by simp [PO.reads])
    cases hv : lookF g env with
    | pv x =>
      rw [hv] at h
      cases x with
      | bool b =>
        simp only at h
        cases hb : (b == want) with
        | true =>
          rw [hb] at h
          obtain ⟨v, h1, h2⟩ := run (K := K) h
          refine ⟨v, h1, fun env' K' hr hk => ?_⟩
          unfold stepO
          simp only [hg env' hr, hv, hb]
          exact h2 env' K' (fun t ht => hr t (by simp [PO.reads, ht])) hk
        | false =>
          rw [hb] at h
          refine ⟨.pv (.tup []), h, fun env' K' hr hk => ?_⟩
          unfold stepO
          simp only [hg env' hr, hv, hb]
          exact hk
      | tup l =>
        refine ⟨.pv (.tup []), h, fun env' K' hr hk => ?_⟩
        unfold stepO
        simp only [hg env' hr, hv]
        exact hk
      | _ => exact h.elim
    | _ => rw [hv] at h; exact h.elim

/-- What is said of a setting is said of each that looks the same. -/
def Same (K : Env → Sto → Prop) : Prop := ∀ env env' σ, (∀ p, lookF p env' = lookF p env) → K env' σ = K env σ

theorem look_put_same {d : Option Nat} {v : AV} {env env' : Env} (h : ∀ p, lookF p env' = lookF p env) (p : Nat) : lookF p (put d v env') = lookF p (put d v env) := by
  cases d with
  | none => exact h p
  | some d => rw [lookF_put, lookF_put, h p]

theorem clash_spec {p o : PO} (h : clash p o = false) : (∀ d, p.dst = some d → d ∉ o.reads ∧ o.dst ≠ some d) ∧ ∀ d, o.dst = some d → d ∉ p.reads := by
  unfold clash at h
  obtain ⟨h1, h2⟩ := Bool.or_eq_false_iff.1 h
  constructor
  · intro d hd
    rw [hd] at h1
    simp only [Bool.or_eq_false_iff] at h1
    refine ⟨fun hm => by simp [hm] at h1, fun he => by rw [he] at h1; simp at h1⟩
  · intro d hd hm
    rw [hd] at h2
    simp [hm] at h2

theorem swapO {P : Program} (hΓ : Sound P Γ) {K : Env → Sto → Prop} (hK : Same K) {p o : PO} (hp : p.k.pure Γ = true) (ho : o.k.pure Γ = true) (hc : clash p o = false) {env : Env}
    (h : stepO Γ p env σ fun env σ => stepO Γ o env σ K) : stepO Γ o env σ fun env σ => stepO Γ p env σ K := by
  obtain ⟨c1, c2⟩ := clash_spec hc
  obtain ⟨v, h1, h2⟩ := det_step hΓ hp h
  obtain ⟨u, h3, h4⟩ := det_step hΓ ho h1
  refine h4 env _ (fun t ht => ?_) (h2 _ _ (fun t ht => ?_) ((hK _ _ _ (fun q => ?_)).mpr h3))
  · cases hd : p.dst with
    | none => rfl
    | some d =>
      rw [lookF_put]
      have : d ≠ t := fun e => (c1 d hd).1 (e ▸ ht)
      rw [nbeq this]; rfl
  · cases hd : o.dst with
    | none => rfl
    | some d =>
      rw [lookF_put]
      have : d ≠ t := fun e => c2 d hd (e ▸ ht)
      rw [nbeq this]; rfl
  · cases hd : p.dst with
    | none => rfl
    | some d =>
      cases he : o.dst with
      | none => rfl
      | some e =>
        have hne : e ≠ d := fun h => (c1 d hd).2 (h ▸ he)
        simp only [lookF_put]
        by_cases h1 : d = q
        · subst h1
          have := nbeq hne
          simp [this]
        · have := nbeq h1
          simp [this]

theorem same_step {K : Env → Sto → Prop} (hK : Same K) (o : PO) : Same fun env σ => stepO Γ o env σ K := by
  intro env env' σ hs
  obtain ⟨d, g, k⟩ := o
  have hk : evK Γ env' σ k (fun v σ => K (put d v env') σ) = evK Γ env σ k (fun v σ => K (put d v env) σ) := by
    rw [evK_congr (env := env) fun t _ => hs t]
    congr 1
    funext v σ
    exact hK _ _ _ (look_put_same hs)
  unfold stepO
  cases g with
  | none => exact hk
  | some p =>
    obtain ⟨g, want⟩ := p
    simp only [hs g, hk, hK _ _ σ (look_put_same (d := d) (v := .pv (.tup [])) hs)]

theorem same_vcO {K : Env → Sto → Prop} (hK : Same K) (l : List PO) : Same (vcO Γ K l) := by
  induction l with
  | nil => exact hK
  | cons o l ih =>
    intro env env' σ hs
    rw [vcO_cons, vcO_cons]
    exact same_step ih o env env' σ hs

/-- An operation that clashes with none ahead of it comes first. -/
theorem vcO_first {P : Program} (hΓ : Sound P Γ) {K : Env → Sto → Prop} (hK : Same K) (l2 : List PO) (o : PO) : ∀ (l1 : List PO) (env : Env) (σ : Sto), (l1 ≠ [] → o.k.pure Γ = true) → (∀ p ∈ l1, p.k.pure Γ = true ∧ clash p o = false) →
    vcO Γ K (l1 ++ o :: l2) env σ → vcO Γ K (o :: (l1 ++ l2)) env σ := by
  intro l1
  induction l1 with
  | nil => intro env σ _ _ h; exact h
  | cons p l1 ih =>
    intro env σ ho hp h
    obtain ⟨hp1, hp2⟩ := hp p (by simp)
    rw [List.cons_append, vcO_cons] at h
    obtain ⟨v, h1, h2⟩ := det_step hΓ hp1 h
    have h3 := ih _ _ (fun _ => ho (by simp)) (fun q hq => hp q (by simp [hq])) h1
    rw [vcO_cons] at h3
    have h4 := h2 env (fun env σ => stepO Γ o env σ (vcO Γ K (l1 ++ l2))) (fun _ _ => rfl) h3
    have h5 := swapO hΓ (same_vcO hK _) hp1 (ho (by simp)) hp2 h4
    rw [vcO_cons]
    have : (fun env σ => stepO Γ p env σ (vcO Γ K (l1 ++ l2))) = vcO Γ K (p :: (l1 ++ l2)) := by
      funext env σ; rw [vcO_cons]
    rw [this] at h5
    exact h5
end
end Go.Dv
end
section
/-
  Regions: each operation in its turn, and in each turn that a drawn order lets.
-/
set_option linter.unusedSimpArgs false
namespace Go.Dv
open Go.RowKit
section
variable {cx : Cx} {env : Env} {σ : Sto} {vals : List Value} {a : Act} {w w' : World} {n : Nat} {Γ : Ctx} {ops : Array Oper}

theorem getD_eq (t : Array Value) (d : Nat) : t.getD d undef = (t[d]?).getD undef := by
  simp [Array.getD_eq_getD_getElem?]

theorem rel_put {dst : Option Nat} {av : AV} {v : Value} (h : Rel cx env σ vals a w) (hv : RA (Ok cx σ vals w) σ vals w av v) (hd : ∀ d, dst = some d → d < a.tmps.size) (hlo : ∀ d, dst = some d → cx.lo ≤ d) : Rel cx (put dst av env) σ vals (a.put dst v) w := by
  cases dst with
  | none => exact h
  | some d =>
    refine ⟨h.s, fun p => ?_, h.defers, h.gh, fun p hp => ?_⟩
    rotate_left
    · have h1 := h.lo p hp
      have h2 := hlo d rfl
      rw [getD_eq] at h1 ⊢
      show ((a.tmps.setIfInBounds d v)[p]?).getD undef = _
      rw [Array.getElem?_setIfInBounds, if_neg (by omega)]
      exact h1
    rw [lookF_put]
    show RA _ _ _ _ _ ((a.tmps.setIfInBounds d v).getD p undef)
    rw [getD_eq, Array.getElem?_setIfInBounds]
    by_cases hp : d = p
    · subst hp
      simp only [Nat.beq_refl, cond_true, if_true, hd d rfl, Option.getD_some]
      exact hv
    · rw [nbeq hp, if_neg hp]
      have := h.env p
      rw [getD_eq] at this
      exact this

theorem rel_bad {dst : Option Nat} (h : Rel cx env σ vals a w) (hd : ∀ d, dst = some d → d < a.tmps.size) (hlo : ∀ d, dst = some d → cx.lo ≤ d) : Rel cx (put dst (.pv (.tup [])) env) σ vals (a.put dst undef) w :=
  rel_put h (by simp only [RA, Rd]; exact ⟨#[], rfl, by simp [RdL]⟩) hd hlo

theorem put_size (a : Act) (d : Option Nat) (v : Value) : (a.put d v).tmps.size = a.tmps.size := by cases d <;> simp [Act.put]

theorem rel_drew (h : Rel cx env σ vals a w) : Rel cx env σ vals a { w with drawn := w.drawn + 1 } := by
  obtain ⟨h1, h2⟩ := h.s.grow (w' := w.drew) ((Below.refl _ w).drew)
  exact ⟨h1, fun p => h2.ra _ _ (h.env p), h.defers, fun x v hq => h2.ra _ _ (h.gh x v hq), h.lo⟩

theorem rel_same {env' : Env} (h : Rel cx env σ vals a w) (hs : ∀ p, lookF p env' = lookF p env) : Rel cx env' σ vals a w := ⟨h.s, fun p => hs p ▸ h.env p, h.defers, h.gh, h.lo⟩

theorem plain_ev {Γ : Ctx} {σ : Sto} {env : Env} (k : PK) (K : AV → Sto → Prop) (h : evK Γ env σ k.plain K) : evK Γ env σ k K := by
  cases k with
  | lenR x =>
    simp only [PK.plain, evK, ev_eq] at h ⊢
    cases hv : evF env x with
    | pv y =>
      rw [hv] at h
      cases y with
      | sl s els => exact fun _ => h
      | nil s => exact fun _ => h
      | _ => exact h.elim
    | own id =>
      rw [hv] at h
      obtain ⟨b, h1, h2⟩ := nthK_iff _ _ _ h
      refine nthK_mk _ _ b _ h1 ?_
      cases b with
      | row e s ap els => exact fun _ => h2
      | fz x => cases x with
        | sl s els => exact fun _ => h2
        | _ => exact h2.elim
      | _ => exact h2.elim
    | _ => rw [hv] at h; exact h.elim
  | _ => exact h

/-- A fence that lets all in: none, or none but a round's mark. -/
def Free (F : Fence) : Prop := F = Fence.wide ∨ ∃ l, F = Fence.wide.inRound l

theorem wide_op {P : Program} {o : Oper} {next : Act → World → Prop} {Q : Exit → Act → World → Prop} {m : Nat} (ro : Option Nat) (hd : ∀ c, o.op ≠ .defer c) (h : o.wp P a w next Q) : o.wpIn { Fence.wide with round := ro } m P a w next Q := by
  refine ⟨fun f _ => trivial, ?_⟩
  rw [Oper.semAt_eq _ _ _ hd]
  unfold Oper.wp at h
  generalize (execOp a.eval o).run P w = r at *
  cases r with
  | ok nx w' =>
    cases nx with
    | enter f args => exact ⟨fun hs => (by cases hs), (callsIn_wide (n := m - 1)).2 h⟩
    | row row args => exact ⟨fun hs => (by cases hs), fun c cs _ => let ⟨v, w', r, s⟩ := h c cs; ⟨v, w', r, stepsIn_wide.2 s⟩⟩
    | value v => exact h
    | skip => exact h
    | defer d => exact h
    | _ => exact (show False from h).elim
  | halt x w' => cases x <;> first | exact h | exact (show False from h).elim

theorem free_op {P : Program} {o : Oper} {next : Act → World → Prop} {Q : Exit → Act → World → Prop} {F : Fence} {m : Nat} (hF : Free F) (hd : ∀ c, o.op ≠ .defer c) (h : o.wp P a w next Q) : o.wpIn F m P a w next Q := by
  rcases hF with rfl | ⟨l, rfl⟩
  · exact wide_op none hd h
  · exact wide_op (some l) hd h

theorem Free.fn {F : Fence} (hF : Free F) (f : FuncId) : F.fn f := by
  rcases hF with rfl | ⟨l, rfl⟩ <;> trivial

/-- What the verifier's operation says of the model's. -/
def Comped (P : Program) (dr : Bool) (ops : Array Oper) (n : Nat) (f : Nat → PO) : Prop :=
  ∀ i : Nat, i < ops.size → ∃ o po, ops[i]? = some o ∧ compO P dr ops n o = some po ∧ (f i = po ∨ f i = po.plain)

theorem step_op (hΓ : Sound cx.P Γ) {f : Nat → PO} {dr : Bool} (hc : Comped cx.P dr ops n f) {i : Nat} (hi : i < ops.size) (hn : a.tmps.size = n) (hr : Rel cx env σ vals a w) {K : Env → Sto → Prop} {next : Act → World → Prop} {Q : Exit → Act → World → Prop} {F : Fence} {m : Nat} (hF : Free F) (hw : ∀ d, (f i).dst = some d → cx.lo ≤ d)
    (hnext : ∀ env' σ' vals' a' w', a'.tmps.size = n → Rel cx env' σ' vals' a' w' → K env' σ' → next a' w') (h : stepO Γ (f i) env σ K) : wpOpIn F m cx.P ops Q i next a w := by
  obtain ⟨o, po, ho, hpo, hf⟩ := hc i hi
  unfold compO at hpo
  obtain ⟨k, hk, hpo⟩ := opt_some hpo
  obtain ⟨hd, hpo⟩ := need_some hpo
  have hdst : ∀ d, o.dst = some d → d < a.tmps.size := by
    intro d hd'
    rw [hd'] at hd
    rw [hn]
    exact Nat.le_of_ble_eq_true hd
  have hnd : ∀ c, o.op ≠ .defer c := by
    intro c hop
    unfold compK at hk
    rw [hop] at hk
    cases hk
  have hlo : ∀ d, o.dst = some d → cx.lo ≤ d := by
    intro d hd'
    refine hw d ?_
    have : (f i).dst = po.dst := by rcases hf with hf | hf <;> rw [hf] <;> rfl
    rw [this, ← hd']
    cases hg : o.guard with
    | none => rw [hg] at hpo; cases hpo; rfl
    | some gw =>
      rw [hg] at hpo
      obtain ⟨oj, _, hpo⟩ := opt_some hpo
      obtain ⟨dd, _, hpo⟩ := opt_some hpo
      cases hpo; rfl
  -- the operation's run
  have run : evK Γ env σ k (fun v σ => K (put o.dst v env) σ) → o.wpIn F m cx.P a w next Q := by
    intro h
    refine free_op hF hnd ?_
    refine op_sound hΓ hr hk h next Q ?_
    intro av σ' vals' v w' hK hr' hv
    exact hnext _ _ _ _ _ ((put_size ..).trans hn) (rel_put hr' hv hdst hlo) hK
  have run' : evK Γ env σ (f i).k (fun v σ => K (put o.dst v env) σ) → (f i).k = k ∨ (f i).k = k.plain → o.wpIn F m cx.P a w next Q := by
    intro h he
    rcases he with he | he
    · rw [he] at h; exact run h
    · rw [he] at h; exact run (plain_ev _ _ h)
  unfold wpOpIn
  simp only [ho]
  cases hg : o.guard with
  | none =>
    rw [hg] at hpo
    simp only at hpo
    cases hpo
    have : Region.wanted o (yielded ops a.tmps) = true := by simp [Region.wanted, hg]
    rw [if_pos this]
    unfold stepO at h
    have e1 : (f i).g = none := by rcases hf with hf | hf <;> rw [hf] <;> rfl
    have e2 : (f i).dst = o.dst := by rcases hf with hf | hf <;> rw [hf] <;> rfl
    have e3 : (f i).k = k ∨ (f i).k = k.plain := by rcases hf with hf | hf <;> rw [hf]; exact .inl rfl; exact .inr rfl
    rw [e1, e2] at h
    exact run' h e3
  | some gw =>
    obtain ⟨j, want⟩ := gw
    rw [hg] at hpo
    simp only at hpo
    obtain ⟨oj, hoj, hpo⟩ := opt_some hpo
    obtain ⟨d, hdj, hpo⟩ := opt_some hpo
    cases hpo
    have e1 : (f i).g = some (d, want) := by rcases hf with hf | hf <;> rw [hf] <;> rfl
    have e2 : (f i).dst = o.dst := by rcases hf with hf | hf <;> rw [hf] <;> rfl
    have e3 : (f i).k = k ∨ (f i).k = k.plain := by rcases hf with hf | hf <;> rw [hf]; exact .inl rfl; exact .inr rfl
    unfold stepO at h
    rw [e1, e2] at h
    simp only at h
    cases hv : lookF d env with
    | pv x =>
      rw [hv] at h
      cases x with
      | bool b =>
        simp only at h
        have hy : yielded ops a.tmps j = some b := by
          have h1 := hr.env d
          rw [hv, getD_eq] at h1
          simp only [RA, Rd] at h1
          unfold yielded
          simp only [hoj, Option.bind_some, hdj]
          cases ht : a.tmps[d]? with
          | none => rw [ht] at h1; cases h1
          | some v => rw [ht] at h1; simp only [Option.getD_some] at h1; rw [h1]
        have hw : Region.wanted o (yielded ops a.tmps) = (b == want) := by
          simp only [Region.wanted, hg, hy]
          cases b <;> cases want <;> rfl
        rw [hw]
        cases hb : (b == want) with
        | true => rw [hb] at h; exact run' h e3
        | false =>
          rw [hb] at h
          exact ⟨fun f _ => hF.fn f, hnext _ _ _ _ _ ((put_size ..).trans hn) (rel_bad hr hdst hlo) h⟩
      | tup l =>
        simp only at h
        have hy : yielded ops a.tmps j = none := by
          have h1 := hr.env d
          rw [hv, getD_eq] at h1
          simp only [RA, Rd] at h1
          obtain ⟨vs, h1, _⟩ := h1
          unfold yielded
          simp only [hoj, Option.bind_some, hdj]
          cases ht : a.tmps[d]? with
          | none => rfl
          | some v => rw [ht] at h1; simp only [Option.getD_some] at h1; rw [h1]
        have hw : Region.wanted o (yielded ops a.tmps) = false := by
          simp only [Region.wanted, hg, hy]
          cases want <;> rfl
        rw [hw]
        exact ⟨fun f _ => hF.fn f, hnext _ _ _ _ _ ((put_size ..).trans hn) (rel_bad hr hdst hlo) h⟩
      | _ => exact h.elim
    | _ => rw [hv] at h; exact h.elim

theorem ops_sound (hΓ : Sound cx.P Γ) {f : Nat → PO} {dr : Bool} (hc : Comped cx.P dr ops n f) {K : Env → Sto → Prop} {Q : Exit → Act → World → Prop} {F : Fence} {m : Nat} (hF : Free F) (hw : ∀ i, i < ops.size → ∀ d, (f i).dst = some d → cx.lo ≤ d)
    (hQ : ∀ env' σ' vals' a' w', a'.tmps.size = n → Rel cx env' σ' vals' a' w' → K env' σ' → Q .normal a' w') :
    ∀ (is : List Nat) (env : Env) (σ : Sto) (vals : List Value) (a : Act) (w : World), (∀ i ∈ is, i < ops.size) → a.tmps.size = n → Rel cx env σ vals a w → vcO Γ K (is.map f) env σ → wpOpsIn F m cx.P ops Q is a w := by
  intro is
  induction is with
  | nil => intro env σ vals a w _ hn hr h; exact hQ _ _ _ _ _ hn hr h
  | cons i is ih =>
    intro env σ vals a w hi hn hr h
    rw [List.map_cons, vcO_cons] at h
    rw [wpOpsIn_cons]
    exact step_op hΓ hc (hi i (by simp)) hn hr hF (hw i (hi i (by simp))) (fun env' σ' vals' a' w' hn' hr' hK => ih env' σ' vals' a' w' (fun j hj => hi j (by simp [hj])) hn' hr' hK) h

/-! ### Drawn orders -/
structure Drawn (Γ : Ctx) (ops : Array Oper) (f : Nat → PO) (aft bs : Nat → List Nat) : Prop where
  fore : ∀ (i : Nat) (o : Oper), ops[i]? = some o → ∀ j ∈ aft i, ∃ e ∈ o.after, Region.binds .any e = true ∧ e.on = j
  back : ∀ (i : Nat) (o : Oper), ops[i]? = some o → ∀ e ∈ o.after, Region.binds .any e = true → e.on ∈ aft i
  lt : ∀ i, i < ops.size → ∀ j ∈ aft i, j < i
  bef : ∀ i, i < ops.size → ∀ j ∈ bs i, j ∈ aft i ∨ ∃ e ∈ aft i, j ∈ bs e
  free : ∀ i j, i < ops.size → j < i → j ∈ bs i ∨ ((f i).k.pure Γ = true ∧ (f j).k.pure Γ = true ∧ clash (f j) (f i) = false)

/-- The operations that have not run, in the text's order. -/
def left (n : Nat) (listed : Array Bool) : List Nat := (List.range n).filter fun i => !listed.getD i true

theorem left_set {n i : Nat} {listed : Array Bool} (hs : listed.size = n) (hi : i < n) (hl : listed.getD i true = false) :
    ∃ l1 l2, left n listed = l1 ++ i :: l2 ∧ left n (listed.setIfInBounds i true) = l1 ++ l2 ∧ (∀ j ∈ l1, j < i ∧ listed.getD j true = false) := by
  have hsplit : List.range n = List.range i ++ i :: (List.range (n - i - 1)).map (· + (i + 1)) := by
    have h1 : n = i + (1 + (n - i - 1)) := by omega
    conv => lhs; rw [h1, List.range_add, List.range_add]
    simp only [List.map_append, List.map_map]
    congr 1
    show (List.range 1).map (i + ·) ++ _ = _
    simp only [List.range_one, List.map_cons, List.map_nil, Nat.add_zero, List.singleton_append]
    congr 1
    apply List.map_congr_left
    intro k _
    simp only [Function.comp_apply]
    omega
  refine ⟨(List.range i).filter fun i => !listed.getD i true, ((List.range (n - i - 1)).map (· + (i + 1))).filter fun i => !listed.getD i true, ?_, ?_, ?_⟩
  · unfold left
    rw [hsplit, List.filter_append, List.filter_cons, if_pos (by simp only [hl, Bool.not_false])]
  · unfold left
    rw [hsplit, List.filter_append, List.filter_cons]
    have e0 : (listed.setIfInBounds i true).getD i true = true := by
      rw [Array.getD_eq_getD_getElem?, Array.getElem?_setIfInBounds_self_of_lt (by omega)]; rfl
    rw [if_neg (by rw [e0]; simp)]
    congr 1
    · apply List.filter_congr
      intro j hj
      have : j < i := List.mem_range.1 hj
      rw [getD_set_ne true (by omega)]
    · apply List.filter_congr
      intro j hj
      obtain ⟨k, _, rfl⟩ := List.mem_map.1 hj
      rw [getD_set_ne true (by omega)]
  · intro j hj
    obtain ⟨h1, h2⟩ := List.mem_filter.1 hj
    exact ⟨List.mem_range.1 h1, by simpa using h2⟩

theorem draw_sound (hΓ : Sound cx.P Γ) {f : Nat → PO} {dr : Bool} (hc : Comped cx.P dr ops n f) {aft bs : Nat → List Nat} (hD : Drawn Γ ops f aft bs) {K : Env → Sto → Prop} (hK : Same K) {Q : Exit → Act → World → Prop} {F : Fence} {m : Nat} (hF : Free F) (hw : ∀ i, i < ops.size → ∀ d, (f i).dst = some d → cx.lo ≤ d)
    (hQ : ∀ env' σ' vals' a' w', a'.tmps.size = n → Rel cx env' σ' vals' a' w' → K env' σ' → Q .normal a' w') :
    ∀ (fuel : Nat) (listed : Array Bool) (env : Env) (σ : Sto) (vals : List Value) (a : Act) (w : World), listed.size = ops.size → (left ops.size listed).length ≤ fuel →
      (∀ i, i < ops.size → listed.getD i false = true → ∀ j ∈ bs i, listed.getD j false = true) →
      a.tmps.size = n → Rel cx env σ vals a w → vcO Γ K ((left ops.size listed).map f) env σ → wpAnyIn F m cx.P .any ops Q fuel listed a w := by
  have empty : ∀ (listed : Array Bool), listed.size = ops.size → Region.ready .any ops listed = [] → left ops.size listed = [] := by
    intro listed hs hr
    apply Decidable.byContradiction
    intro hne
    obtain ⟨i, hi, hmin⟩ : ∃ i, i ∈ left ops.size listed ∧ ∀ j, j < i → j ∉ left ops.size listed := by
      have hex : ∃ i, i ∈ left ops.size listed := by
        cases hl : left ops.size listed with
        | nil => exact absurd hl hne
        | cons x xs => exact ⟨x, by simp⟩
      obtain ⟨i, hi⟩ := hex
      induction i using Nat.strongRecOn with
      | _ i ih =>
        by_cases h : ∃ j, j < i ∧ j ∈ left ops.size listed
        · obtain ⟨j, hj, hm⟩ := h; exact ih j hj hm
        · exact ⟨i, hi, fun j hj hm => h ⟨j, hj, hm⟩⟩
    obtain ⟨h1, h2⟩ := List.mem_filter.1 hi
    have h1 := List.mem_range.1 h1
    have hready : i ∈ Region.ready .any ops listed := by
      refine mem_ready.2 ⟨by simpa using h2, ops[i], Array.getElem?_eq_getElem h1, fun e he hb => ?_⟩
      have hj := hD.back i _ (Array.getElem?_eq_getElem h1) e he hb
      have hlt := hD.lt i h1 _ hj
      have := hmin _ hlt
      cases hg : listed.getD e.on true with
      | false => exact absurd (List.mem_filter.2 ⟨List.mem_range.2 (by omega), by simp only [hg, Bool.not_false]⟩) this
      | true =>
        rw [Array.getD_eq_getD_getElem?] at hg ⊢
        rw [Array.getElem?_eq_getElem (by omega)] at hg ⊢
        exact hg
    rw [hr] at hready
    cases hready
  intro fuel
  induction fuel with
  | zero =>
    intro listed env σ vals a w hs hl hcl hn hr h
    have hnil : left ops.size listed = [] := List.eq_nil_of_length_eq_zero (by omega)
    refine ⟨?_, ?_⟩
    · cases hrd : Region.ready .any ops listed with
      | nil => rfl
      | cons i is =>
        exfalso
        have hi : i ∈ Region.ready .any ops listed := by rw [hrd]; simp
        obtain ⟨h1, o, h2, _⟩ := mem_ready.1 hi
        have : i ∈ left ops.size listed := List.mem_filter.2 ⟨List.mem_range.2 (Array.getElem?_eq_some_iff.1 h2).1, by simp only [h1, Bool.not_false]⟩
        rw [hnil] at this; cases this
    · rw [hnil] at h
      exact hQ _ _ _ _ _ hn hr h
  | succ fuel ih =>
    intro listed env σ vals a w hs hl hcl hn hr h
    refine ⟨fun h0 => ?_, fun i hi => ?_⟩
    · rw [empty listed hs h0] at h
      exact hQ _ _ _ _ _ hn hr h
    · obtain ⟨hun, o, ho, hall⟩ := mem_ready.1 hi
      have hlt : i < ops.size := (Array.getElem?_eq_some_iff.1 ho).1
      obtain ⟨l1, l2, e1, e2, h3⟩ := left_set hs hlt hun
      have hdir : ∀ j ∈ aft i, listed.getD j false = true := by
        intro j hj
        obtain ⟨e, he, hb, rfl⟩ := hD.fore i o ho j hj
        exact hall e he hb
      have hbef : ∀ j ∈ bs i, listed.getD j false = true := by
        intro j hj
        rcases hD.bef i hlt j hj with h | ⟨e, he, h⟩
        · exact hdir j h
        · exact hcl e (Nat.lt_trans (hD.lt i hlt e he) hlt) (hdir e he) j h
      have hfree : ∀ j ∈ l1, (f i).k.pure Γ = true ∧ (f j).k.pure Γ = true ∧ clash (f j) (f i) = false := by
        intro j hj
        obtain ⟨h4, h5⟩ := h3 j hj
        rcases hD.free i j hlt h4 with h | h
        · have := hbef j h
          rw [Array.getD_eq_getD_getElem?, Array.getElem?_eq_getElem (by omega)] at h5 this
          rw [Option.getD_some] at h5 this
          rw [h5] at this; cases this
        · exact h
      rw [e1, List.map_append, List.map_cons] at h
      have hfirst := vcO_first hΓ hK (l2.map f) (f i) (l1.map f) env σ (fun hne => by
          cases l1 with
          | nil => exact absurd rfl hne
          | cons j l1 => exact (hfree j (by simp)).1)
        (fun p hp => by obtain ⟨j, hj, rfl⟩ := List.mem_map.1 hp; exact (hfree j hj).2) h
      rw [vcO_cons, ← List.map_append, ← e2] at hfirst
      refine step_op hΓ hc hlt hn hr hF (hw i hlt) (fun env' σ' vals' a' w' hn' hr' hK' => ?_) hfirst
      refine ih _ env' σ' vals' a' w' (by simpa using hs) ?_ ?_ hn' hr' hK'
      · rw [e2]; rw [e1] at hl; simp at hl ⊢; omega
      · intro k hk hlk j hj
        by_cases hik : i = k
        · subst hik; exact getD_set_true (hbef j hj)
        · rw [getD_set_ne false hik] at hlk
          exact getD_set_true (hcl k hk hlk j hj)
end
end Go.Dv
end
section
/-
  The store's rows, numbered anew at a loop's head.
-/
set_option linter.unusedSimpArgs false
namespace Go.Dv
open Go.RowKit
section
variable {cx : Cx} {env : Env} {σ : Sto} {vals : List Value} {a : Act} {w w' : World}

/-- The entries that are pinned. -/
def PinOk (pin : List Nat) (cx : Cx) : Prop := pin = List.range cx.pinS.length ∧ cx.pinV.length = cx.pinS.length

theorem ren_rel {pin r : List Nat} {σ' : Sto} (hpin : PinOk pin cx) (hpr : pin <+: r) (hn : r.Nodup) (h1 : σ'.length = r.length) (h2 : ∀ (j i : Nat), r[j]? = some i → ∃ s t, σ[i]? = some s ∧ σ'[j]? = some t ∧ RenB r s t) (hs : RelS cx σ vals w) :
    ∃ vals', Anew r σ σ' vals vals' ∧ RelS cx σ' vals' w ∧ ∀ b, Ok cx σ vals w b → Ok cx σ' vals' w b := by
  obtain ⟨vals', hA⟩ : ∃ vals', Anew r σ σ' vals vals' := by
    refine ⟨r.map fun i => (vals[i]?).getD undef, hn, h1, h2, by simp, fun j i hj => ?_⟩
    obtain ⟨s, t, hs', _⟩ := h2 j i hj
    have : i < vals.length := by rw [hs.len]; exact (List.getElem?_eq_some_iff.1 hs').1
    rw [List.getElem?_map, hj]
    simp only [Option.map_some]
    rw [List.getElem?_eq_getElem this]
    exact ⟨rfl, _, rfl⟩
  have back : ∀ {j : Nat} {t : Blk}, σ'[j]? = some t → ∃ i s, r[j]? = some i ∧ σ[i]? = some s ∧ RenB r s t := by
    intro j t ht
    have hj : j < r.length := by rw [← h1]; exact (List.getElem?_eq_some_iff.1 ht).1
    obtain ⟨s, t', hs', ht', hst⟩ := h2 j _ (List.getElem?_eq_getElem hj)
    rw [ht] at ht'; cases ht'
    exact ⟨_, s, List.getElem?_eq_getElem hj, hs', hst⟩
  have hmut : ∀ b, Mut σ' vals' b → Mut σ vals b := by
    rintro b ⟨j, t, v, ht, hl, hv, hb⟩
    obtain ⟨i, s, hj, hs', hst⟩ := back ht
    exact ⟨i, s, v, hs', hst.live ▸ hl, by rw [← (hA.vals j i hj).1]; exact hv, hb⟩
  have hok : ∀ b, Ok cx σ vals w b → Ok cx σ' vals' w b := fun b hb => ⟨hb.1, hb.2.1, fun hm => hb.2.2 (hmut b hm)⟩
  have hpin1 : ∀ j, j < cx.pinS.length → r[j]? = some j := by
    intro j hj
    obtain ⟨t, rfl⟩ := hpr
    rw [List.getElem?_append_left (by rw [hpin.1]; simpa using hj), hpin.1, List.getElem?_range hj]
  have hpn : Pin cx σ' vals' := by
    refine ⟨fun j v hv => ?_, ?_, fun j hj e sz ap els ht => ?_, fun j hj e cs ht => ?_⟩
    · have hj : j < cx.pinS.length := by rw [← hpin.2]; exact (List.getElem?_eq_some_iff.1 hv).1
      rw [(hA.vals j j (hpin1 j hj)).1]
      exact hs.pin.vs j v hv
    · rw [h1]
      rcases Nat.lt_or_ge r.length cx.pinS.length with hlt | hge
      · have := (List.getElem?_eq_some_iff.1 (hpin1 _ hlt)).1
        omega
      · exact hge
    · obtain ⟨i, s, hi, hs', hst⟩ := back ht
      rw [hpin1 j hj] at hi; cases hi
      cases s with
      | box e' cs' => obtain ⟨ds, hd, _⟩ := hst; cases hd
      | row e' sz' ap' els' => cases hst; exact hs.pin.refr j hj _ _ _ _ hs'
      | _ => cases hst
    · obtain ⟨i, s, hi, hs', hst⟩ := back ht
      rw [hpin1 j hj] at hi; cases hi
      cases s with
      | box e' cs' => exact hs.pin.refb j hj _ _ hs'
      | _ => cases hst
  refine ⟨vals', hA, ⟨hs.below, fun v hv => ?_, by rw [hA.vlen, h1], fun j t v ht hv => ?_, fun j k t1 t2 u v b hjk ht1 ht2 l1 l2 hu hv hbu hbv => ?_, ⟨hs.fr.size, hs.fr.same, fun b hm => hs.fr.mutn b (hmut b hm)⟩, hpn⟩, hok⟩
  · obtain ⟨j, hj⟩ := List.mem_iff_getElem?.1 hv
    have hjr : j < r.length := by rw [← hA.vlen]; exact (List.getElem?_eq_some_iff.1 hj).1
    rw [(hA.vals j _ (List.getElem?_eq_getElem hjr)).1] at hj
    exact hs.one v (List.mem_of_getElem? hj)
  · obtain ⟨i, s, hj, hs', hst⟩ := back ht
    rw [(hA.vals j i hj).1] at hv
    have := hs.sto i s v hs' hv
    cases s with
    | dead => cases hst; trivial
    | fz x => cases hst; exact Rd.mono hok (fun _ _ _ => rfl) _ _ this
    | row e sz ap els =>
      cases hst
      obtain ⟨h0, cells, g1, g2, g3, g4⟩ := this
      exact ⟨h0, cells, g1, g2, g3, RdL.mono hok (fun _ _ _ => rfl) _ _ g4⟩
    | box e cs =>
      obtain ⟨ds, rfl, hd⟩ := hst
      obtain ⟨b, arr, g1, g2, g3, g4, g5⟩ := this
      exact ⟨b, arr, g1, g2, g3, hd.ones g4, hd.ra hA hok _ _ _ g5⟩
  · obtain ⟨i1, s1, hj1, hs1, hst1⟩ := back ht1
    obtain ⟨i2, s2, hj2, hs2, hst2⟩ := back ht2
    rw [(hA.vals _ _ hj1).1] at hu
    rw [(hA.vals _ _ hj2).1] at hv
    refine hs.dis i1 i2 s1 s2 u v b ?_ hs1 hs2 (hst1.live ▸ l1) (hst2.live ▸ l2) hu hv hbu hbv
    intro e
    subst e
    exact hjk ((List.getElem?_inj (List.getElem?_eq_some_iff.1 hj1).1 hn).1 (hj1.trans hj2.symm))

theorem gc_spec (hgh : ∀ x v, ¬ cx.gh x v) {pin : List Nat} (hpin : PinOk pin cx) (hr : Rel cx env σ vals a w) (ps : List Nat) {K : Env → Sto → Prop} (h : gc pin env σ ps K) : ∃ env' σ' vals', K env' σ' ∧ Rel cx env' σ' vals' a w := by
  have h := canon_spec _ _ _ h
  obtain ⟨l, h, hl, hp1⟩ := idsEnv_spec _ _ _ (by rw [hpin.1]; exact List.nodup_range) h
  obtain ⟨r, h, hn, hp2⟩ := idsBox_spec _ _ _ _ hl h
  obtain ⟨env', h, he⟩ := renEnv_spec _ _ _ h
  obtain ⟨σ', h, h1, h2⟩ := renSto_spec _ _ _ _ h
  obtain ⟨vals', hA, hs', hok⟩ := ren_rel hpin (hp1.trans hp2) hn h1 h2 hr.s
  refine ⟨env', σ', vals', h, hs', fun p => ?_, hr.defers, fun x v hq => absurd hq (hgh x v), hr.lo⟩
  have hc : lookF p (ps.map fun p => (p, lookF p env)) = lookF p env ∨ lookF p (ps.map fun p => (p, lookF p env)) = .bad := lookF_canon env ps p
  have hp := he p
  have hv : RA (Ok cx σ vals w) σ vals w (lookF p (ps.map fun p => (p, lookF p env))) (a.tmps.getD p undef) := by
    rcases hc with hc | hc
    · rw [hc]; exact hr.env p
    · rw [hc]; simp only [RA]
  exact Ren.ra hA hok _ _ _ hp hv
end
end Go.Dv
end
section
/-
  Ranges over functions: what a round keeps, and the moves that set its variables.
-/
set_option linter.unusedSimpArgs false
namespace Go.Dv
open Go.RowKit
section
variable {cx : Cx} {env : Env} {σ : Sto} {vals : List Value} {a : Act} {w w' : World} {n : Nat} {Γ : Ctx} {ops : Array Oper}

/-- An entry's block is made of cells. -/
theorem mut_cells (hr : RelS cx σ vals w) {b : Nat} (hm : Mut σ vals b) : ∃ cur e fr, w.heap[b]? = some (.cells cur e fr) := by
  obtain ⟨i, s, v, h1, h2, h3, h4⟩ := hm
  have hs := hr.sto i s v h1 h3
  cases s with
  | dead => cases h2
  | fz x => cases h2
  | row e sz ap els =>
    obtain ⟨_, cells, h5, _⟩ := hs
    rcases h5.2 with ⟨rfl, _⟩ | ⟨g, cap, cur, fr, rfl, _, h6, _⟩
    · cases h4
    · cases h4; exact ⟨_, _, _, h6⟩
  | box e cs =>
    obtain ⟨g, arr, rfl, _, h6, _⟩ := hs
    cases h4; exact ⟨_, _, _, h6⟩

mutual
theorem RA.monoC {ok ok' : Nat → Prop} (hk : ∀ b, ok b → ok' b) (hc : ∀ b o u, ok b → w.cell? ⟨b, o, none⟩ = some u → w'.cell? ⟨b, o, none⟩ = some u) : ∀ (x : AV) (v : Value), RA ok σ vals w x v → RA ok' σ vals w' x v
  | .bad, _, _ => by simp only [RA]
  | .pv x, v, h => by simp only [RA] at h ⊢; exact Rd.monoC hk hc x v h
  | .own i, v, h => by simpa only [RA] using h
  | .ref i k o, v, h => by simpa only [RA] using h
  | .agg cs, v, h => by
    simp only [RA] at h ⊢
    obtain ⟨h0, vs, h1, h2⟩ := h
    exact ⟨h0, vs, h1, RAL.monoC hk hc cs _ h2⟩
  | .tup cs, v, h => by
    simp only [RA] at h ⊢
    obtain ⟨vs, h1, h2⟩ := h
    exact ⟨vs, h1, RAL.monoC hk hc cs _ h2⟩
  | .clo f cs, v, h => by
    simp only [RA] at h ⊢
    obtain ⟨vs, h1, h2⟩ := h
    exact ⟨vs, h1, RAL.monoC hk hc cs _ h2⟩
theorem RAL.monoC {ok ok' : Nat → Prop} (hk : ∀ b, ok b → ok' b) (hc : ∀ b o u, ok b → w.cell? ⟨b, o, none⟩ = some u → w'.cell? ⟨b, o, none⟩ = some u) : ∀ (l : List AV) (vs : List Value), RAL ok σ vals w l vs → RAL ok' σ vals w' l vs
  | [], _, h => by simpa only [RAL] using h
  | x :: xs, vs, h => by
    simp only [RAL] at h ⊢
    obtain ⟨v, r, h1, h2, h3⟩ := h
    exact ⟨v, r, h1, RA.monoC hk hc x v h2, RAL.monoC hk hc xs r h3⟩
end

/-- A block that is no cells has turned: nothing is read of it. -/
theorem RelS.other (hr : RelS cx σ vals w) {row : Option Nat} (hg : w.grownBy w' row) (hrow : ∀ r, row = some r → cx.own r ∧ cx.w1.heap.size ≤ r ∧ ∃ o : Obj, w.heap[r]? = some o ∧ o.isCells = false) :
    RelS cx σ vals w' ∧ ∀ x v, RA (Ok cx σ vals w) σ vals w x v → RA (Ok cx σ vals w') σ vals w' x v := by
  have hblk : ∀ (b : Nat) (cur : Array Value) (e : TypeId) (fr : Nat × Nat), w.heap[b]? = some (.cells cur e fr) → w'.heap[b]? = some (.cells cur e fr) := by
    intro b cur e fr h
    refine (hg.block b (Array.getElem?_eq_some_iff.1 h).1 (fun e' => ?_)).trans h
    obtain ⟨_, _, o, ho, hc⟩ := hrow b e'.symm
    rw [h] at ho; cases ho; cases hc
  have hc : ∀ b o u, Ok cx σ vals w b → w.cell? ⟨b, o, none⟩ = some u → w'.cell? ⟨b, o, none⟩ = some u := by
    intro b o u _ h
    unfold World.cell? at h
    cases hb : w.heap[b]? with
    | none => simp [hb] at h
    | some ob =>
      cases ob with
      | cells cur e fr => simp [hb] at h; simp [World.cell?, hblk b _ _ _ hb, h]
      | _ => simp [hb] at h
  have hk : ∀ b, Ok cx σ vals w b → Ok cx σ vals w' b := fun b h => ⟨h.1, Nat.lt_of_lt_of_le h.2.1 hg.size, h.2.2⟩
  refine ⟨⟨hr.below.grown hg (fun k e => (hrow k e).1), hr.one, hr.len, fun i s v h1 h2 => ?_, hr.dis,
    ⟨Nat.le_trans hr.fr.size hg.size, fun b hb => (hg.block b (Nat.lt_of_lt_of_le (cx.hk b hb) hr.fr.size) (fun e => by have := (hrow b e.symm).2.1; have := cx.hk b hb; omega)).trans (hr.fr.same b hb), hr.fr.mutn⟩, hr.pin⟩, fun x v h => RA.monoC hk hc x v h⟩
  have hs := hr.sto i s v h1 h2
  cases s with
  | dead => trivial
  | fz x => exact Rd.monoC hk hc x v hs
  | row e sz ap els =>
    obtain ⟨h0, cells, h3, h4, h5, h6⟩ := hs
    refine ⟨h0, cells, ⟨h3.1, ?_⟩, h4, h5, RdL.monoC hk hc _ _ h6⟩
    rcases h3.2 with h | ⟨g, cap, cur, fr, e1, e2, e3, e4⟩
    · exact .inl h
    · exact .inr ⟨g, cap, cur, fr, e1, e2, hblk g _ _ _ e3, e4⟩
  | box e cs =>
    obtain ⟨b, arr, e1, e2, e3, e4, e5⟩ := hs
    exact ⟨b, arr, e1, e2, hblk b _ _ _ e3, e4, RAL.monoC hk hc _ _ e5⟩

theorem rel_other (hr : Rel cx env σ vals a w) {row : Option Nat} (hg : w.grownBy w' row) (hrow : ∀ r, row = some r → cx.own r ∧ cx.w1.heap.size ≤ r ∧ ∃ o : Obj, w.heap[r]? = some o ∧ o.isCells = false) : Rel cx env σ vals a w' := by
  obtain ⟨h1, h2⟩ := hr.s.other hg hrow
  exact ⟨h1, fun p => h2 _ _ (hr.env p), hr.defers, fun x v h => h2 _ _ (hr.gh x v h), hr.lo⟩

/-! ### The variables of a round -/
def moveAct (l : List PO) (a : Act) : Act := l.foldl (fun a o => match o.dst, o.k with | some d, .mv x => a.put (some d) (a.eval x) | _, _ => a) a

theorem moveO_some {o : Oper} {p : PO} (h : moveO n o = some p) : ∃ d t, o.guard = none ∧ o.dst = some d ∧ d < n ∧ (o.op = .move (.tmp t) ∨ o.op = .assign (.tmp t)) ∧ p = ⟨some d, none, .mv (.tmp t)⟩ := by
  unfold moveO at h
  split at h
  · rename_i d x hg hd ho
    cases x with
    | tmp t =>
      obtain ⟨h1, h2⟩ := need_some h
      cases h2
      exact ⟨d, t, hg, hd, Nat.le_of_ble_eq_true h1, .inl ho, rfl⟩
    | _ => cases h
  · rename_i d x hg hd ho
    cases x with
    | tmp t =>
      obtain ⟨h1, h2⟩ := need_some h
      cases h2
      exact ⟨d, t, hg, hd, Nat.le_of_ble_eq_true h1, .inr ho, rfl⟩
    | _ => cases h
  · cases h

theorem moves_wp {P : Program} {F : Fence} {m : Nat} (hF : Free F) {Q : Exit → Act → World → Prop} :
    ∀ (is : List Nat) (l : List PO) (a : Act), is.map (fun i => (ops[i]?).bind (moveO n)) = l.map some → Q .normal (moveAct l a) w → wpOpsIn F m P ops Q is a w := by
  intro is
  induction is with
  | nil =>
    intro l a hm h
    cases l with
    | nil => exact h
    | cons p l => simp at hm
  | cons i is ih =>
    intro l a hm h
    cases l with
    | nil => simp at hm
    | cons p l =>
      simp only [List.map_cons, List.cons.injEq] at hm
      obtain ⟨hp, hm⟩ := hm
      cases ho : ops[i]? with
      | none => rw [ho] at hp; cases hp
      | some o =>
        rw [ho] at hp
        obtain ⟨d, t, hg, hd, _, hop, rfl⟩ := moveO_some (show moveO n o = some p from hp)
        have hrun : (execOp a.eval o).run P w = .ok (.value (a.eval (.tmp t))) w := by
          rcases hop with hop | hop <;> simp [execOp, hop]
        rw [wpOpsIn_cons]
        unfold wpOpIn
        simp only [ho]
        have hw : Region.wanted o (yielded ops a.tmps) = true := by simp [Region.wanted, hg]
        rw [if_pos hw]
        refine free_op hF (fun c hc => by rcases hop with hop | hop <;> rw [hop] at hc <;> cases hc) ?_
        unfold Oper.wp
        rw [hrun, Oper.upon_value, hd]
        exact ih l _ hm h

theorem moveAct_append (l k : List PO) (a : Act) : moveAct (l ++ k) a = moveAct k (moveAct l a) := by simp [moveAct]

theorem asg_spec {P : Program} : ∀ (c : Code) (l : List PO), compA n c = some l → (∀ p ∈ l, ∃ d t, d < n ∧ p = ⟨some d, none, .mv (.tmp t)⟩) ∧
    ∀ (F : Fence) (m : Nat) (Q : Exit → Act → World → Prop) (a : Act) (w : World), Free F → Q .normal (moveAct l a) w → c.wpIn F m P Q a w := by
  intro c
  induction c with
  | region id ops draw =>
    intro l hl
    cases draw with
    | true => cases hl
    | false =>
      have hmo : mapO (moveO n) ops.toList = some l := hl
      refine ⟨fun p hp => ?_, fun F m Q a w hF h => wpIn_region (moves_wp (n := n) hF _ l a ?_ h)⟩
      · have : some p ∈ ops.toList.map (moveO n) := by rw [(mapO_spec _ _ _ hmo).1]; exact List.mem_map.2 ⟨p, hp, rfl⟩
        obtain ⟨o, _, ho⟩ := List.mem_map.1 this
        obtain ⟨d, t, _, _, hd, _, e⟩ := moveO_some ho
        exact ⟨d, t, hd, e⟩
      · rw [← (mapO_spec _ _ _ hmo).1]
        apply List.ext_getElem?
        intro i
        by_cases hi : i < ops.size
        · rw [List.getElem?_map, List.getElem?_range hi, List.getElem?_map, List.getElem?_eq_getElem (by simpa using hi)]
          simp [hi]
        · rw [List.getElem?_eq_none (by simp; omega), List.getElem?_eq_none (by simp; omega)]
  | seq x y ihx ihy =>
    intro l hl
    obtain ⟨l1, h1, hl⟩ := opt_some (show opt (compA n x) (fun a => opt (compA n y) fun b => some (a ++ b)) = some l from hl)
    obtain ⟨l2, h2, hl⟩ := opt_some hl
    cases hl
    obtain ⟨p1, w1⟩ := ihx l1 h1
    obtain ⟨p2, w2⟩ := ihy l2 h2
    refine ⟨fun p hp => (List.mem_append.1 hp).elim (p1 p) (p2 p), fun F m Q a w hF h => wpIn_seq (w1 F m _ a w hF ?_)⟩
    rw [moveAct_append] at h
    exact w2 F m Q _ w hF h
  | _ => intro l hl; cases hl

theorem moves_rel (hlo : cx.lo = 0) (K : Env → Sto → Prop) : ∀ (l : List PO) (env : Env) (a : Act), (∀ p ∈ l, ∃ d t, d < n ∧ p = ⟨some d, none, .mv (.tmp t)⟩) → a.tmps.size = n → Rel cx env σ vals a w → vcO Γ K l env σ → ∃ env', K env' σ ∧ Rel cx env' σ vals (moveAct l a) w ∧ (moveAct l a).tmps.size = n := by
  intro l
  induction l with
  | nil => intro env a _ hn hr h; exact ⟨env, h, hr, hn⟩
  | cons p l ih =>
    intro env a hd hn hr h
    obtain ⟨d, t, hlt, rfl⟩ := hd p (by simp)
    rw [vcO_cons] at h
    have h := ev_spec _ _ _ (show ev env (.tmp t) (fun v => vcO Γ K l (put (some d) v env) σ) from h)
    exact ih _ (a.put (some d) (a.eval (.tmp t))) (fun q hq => hd q (by simp [hq])) ((put_size ..).trans hn) (rel_put hr (hr.ev (.tmp t)) (fun d' hd' => by cases hd'; rw [hn]; exact hlt) (fun d' _ => by rw [hlo]; exact Nat.zero_le _)) h

theorem prim_rd {ok : Nat → Prop} {x : PV} (h : primB x = true) : Rd ok w x (encV x) := by
  cases x <;> first | (cases h; done) | simp only [encV, Rd]

theorem puts_rel (hlo : cx.lo = 0) (K : Env → Prop) : ∀ (ps : List Nat) (xs : List PV) (env : Env) (t : Array Value) (ds : List Deferred), xs.length = ps.length → (∀ v ∈ xs, primB v = true) → (∀ p ∈ ps, p < n) → t.size = n → Rel cx env σ vals ⟨t, ds⟩ w → putsK ps xs env K →
    ∃ env', K env' ∧ Rel cx env' σ vals ⟨(ps.zip (xs.map encV)).foldl (fun t p => t.setIfInBounds p.1 p.2) t, ds⟩ w ∧ ((ps.zip (xs.map encV)).foldl (fun t p => t.setIfInBounds p.1 p.2) t).size = n := by
  intro ps
  induction ps with
  | nil =>
    intro xs env t ds hl _ _ hn hr h
    cases xs with
    | nil => exact ⟨env, h, hr, hn⟩
    | cons x xs => simp at hl
  | cons p ps ih =>
    intro xs env t ds hl hp hlt hn hr h
    cases xs with
    | nil => simp at hl
    | cons x xs =>
      have h : putsK ps xs ((p, .pv x) :: env) K := h
      have hr2 := rel_put (dst := some p) (av := .pv x) (v := encV x) hr (by simp only [RA]; exact prim_rd (hp x (by simp))) (fun d hd => by cases hd; show p < t.size; rw [hn]; exact hlt p (by simp)) (fun d' _ => by rw [hlo]; exact Nat.zero_le _)
      obtain ⟨env', h1, h2, h3⟩ := ih xs _ (t.setIfInBounds p (encV x)) ds (by simpa using hl) (fun v hv => hp v (by simp [hv])) (fun q hq => hlt q (by simp [hq])) (by simp [hn]) hr2 h
      exact ⟨env', h1, h2, h3⟩
end
end Go.Dv
end
section
/-
  The verifier's condition holds the model's run of the code.
-/
set_option linter.unusedSimpArgs false
namespace Go.Dv
open Go.RowKit

/-! ### What looks the same -/
theorem canon_eq (env : Env) (ps : List Nat) : ∀ (K : Env → Prop), canon env ps K = K (ps.map fun p => (p, lookF p env)) := by
  induction ps with
  | nil => intro K; rfl
  | cons p ps ih =>
    intro K
    show look p (fun v => canon env ps fun r => K ((p, v) :: r)) env = _
    rw [look_eq, ih]; rfl

theorem canon_same {env env' : Env} (h : ∀ p, lookF p env' = lookF p env) (ps : List Nat) (K : Env → Prop) : canon env' ps K = canon env ps K := by
  rw [canon_eq, canon_eq]
  congr 1
  exact List.map_congr_left fun p _ => by rw [h p]

theorem gc_same {pin : List Nat} {env env' : Env} (h : ∀ p, lookF p env' = lookF p env) (σ : Sto) (ps : List Nat) (K : Env → Sto → Prop) : gc pin env' σ ps K = gc pin env σ ps K := canon_same h ps _

theorem same_seqQ {B : Env → Sto → Prop} {Q : Ex → Env → Sto → Prop} (hB : Same B) (hQ : ∀ e, Same (Q e)) : ∀ e, Same (seqQ B Q e)
  | .normal => hB
  | .exit i => hQ (.exit i)
  | .ret => hQ .ret

theorem same_blockQ {id : Nat} {Q : Ex → Env → Sto → Prop} (hQ : ∀ e, Same (Q e)) : ∀ e, Same (blockQ id Q e)
  | .normal => hQ .normal
  | .ret => hQ .ret
  | .exit i => by
    intro env env' σ h
    show (match Nat.beq i id with | true => Q .normal env' σ | false => Q (.exit i) env' σ) = (match Nat.beq i id with | true => Q .normal env σ | false => Q (.exit i) env σ)
    cases Nat.beq i id with
    | true => exact hQ .normal _ _ _ h
    | false => exact hQ (.exit i) _ _ _ h

theorem evF_same {env env' : Env} (h : ∀ p, lookF p env' = lookF p env) (o : Operand) : evF env' o = evF env o := evF_congr fun t _ => h t

theorem vc_same (Γ : Ctx) (pin ps : List Nat) : ∀ (c : PC) (Q : Ex → Env → Sto → Prop), (∀ e, Same (Q e)) → Same (vc Γ pin ps c Q) := by
  intro c
  induction c with
  | skip => intro Q hQ; exact hQ .normal
  | region ops => intro Q _ env env' σ h; exact canon_same h ps _
  | draw ops aft =>
    intro Q _ env env' σ h
    show (drawOk Γ ops aft = true ∧ canon env' ps _) = (drawOk Γ ops aft = true ∧ canon env ps _)
    rw [canon_same h]
  | seq a b iha ihb => intro Q hQ; exact iha _ (same_seqQ (ihb Q hQ) hQ)
  | cond c t e iht ihe =>
    intro Q hQ env env' σ h
    show ev env' c _ = ev env c _
    rw [ev_eq, ev_eq, evF_same h]
    cases evF env c with
    | pv x => cases x with
      | bool b => cases b with
        | true => exact iht Q hQ _ _ _ h
        | false => exact ihe Q hQ _ _ _ h
      | _ => rfl
    | _ => rfl
  | block id b ih => intro Q hQ; exact ih _ (same_blockQ hQ)
  | loop live b ih => intro Q _ env env' σ h; exact gc_same h σ live _
  | rangeF f qs aops b ih =>
    intro Q _ env env' σ h
    exact canon_same h ps _
  | exit id => intro Q hQ; exact hQ (.exit id)
  | ret => intro Q hQ; exact hQ .ret

/-! ### Drawn orders: what the check says -/
theorem zipIdx_all {α : Type} (l : List α) (p : α × Nat → Bool) (h : l.zipIdx.all p = true) (i : Nat) (x : α) (hi : l[i]? = some x) : p (x, i) = true := by
  rw [List.all_eq_true] at h
  apply h
  rw [List.mem_zipIdx_iff_getElem?]
  exact hi

section
variable {cx : Cx} {env : Env} {σ : Sto} {vals : List Value} {a : Act} {w w' : World} {n : Nat} {Γ : Ctx} {ps : List Nat}

theorem drawn_of {ops : Array Oper} {l : List PO} {aft : List (List Nat)} (hl : l.length = ops.size) (haft : aft = ops.toList.map fun o => (o.after.toList.filter fun e => Region.binds .any e).map (·.on))
    (h : drawOk Γ l aft = true) (d : PO) : Drawn Γ ops (fun i => l.getD i d) (fun i => aft.getD i []) (fun i => (befs aft).getD i []) := by
  unfold drawOk at h
  simp only [Bool.and_eq_true] at h
  obtain ⟨⟨h0, h1⟩, h2⟩ := h
  have hlen : aft.length = ops.size := by rw [haft]; simp
  have get : ∀ (i : Nat) (o : Oper), ops[i]? = some o → aft.getD i [] = (o.after.toList.filter fun e => Region.binds .any e).map (·.on) := by
    intro i o ho
    rw [haft]
    simp [List.getD_eq_getElem?_getD, ho]
  have row : ∀ i, i < ops.size → aft[i]? = some (aft.getD i []) := by
    intro i hi
    rw [List.getD_eq_getElem?_getD, List.getElem?_eq_getElem (by omega)]; rfl
  have lrow : ∀ i, i < ops.size → l[i]? = some (l.getD i d) := by
    intro i hi
    rw [List.getD_eq_getElem?_getD, List.getElem?_eq_getElem (by omega)]; rfl
  unfold befOk at h1
  refine ⟨fun i o ho j hj => ?_, fun i o ho e he hb => ?_, fun i hi j hj => ?_, fun i hi j hj => ?_, fun i j hi hj => ?_⟩
  · rw [get i o ho] at hj
    obtain ⟨e, he, rfl⟩ := List.mem_map.1 hj
    obtain ⟨h3, h4⟩ := List.mem_filter.1 he
    exact ⟨e, by simpa using h3, h4, rfl⟩
  · rw [get i o ho]
    exact List.mem_map.2 ⟨e, List.mem_filter.2 ⟨by simpa using he, hb⟩, rfl⟩
  · have := zipIdx_all aft _ h1 i _ (row i hi)
    simp only [Bool.and_eq_true, List.all_eq_true] at this
    exact Nat.le_of_ble_eq_true (this.1 j hj)
  · have := zipIdx_all aft _ h1 i _ (row i hi)
    simp only [Bool.and_eq_true, List.all_eq_true, Bool.or_eq_true, List.any_eq_true] at this
    rcases this.2 j hj with h3 | ⟨e, h3, h4⟩
    · exact .inl (List.contains_iff_mem.1 h3)
    · exact .inr ⟨e, h3, List.contains_iff_mem.1 h4⟩
  · have := zipIdx_all l _ (zipIdx_all l _ h2 i _ (lrow i hi)) j _ (lrow j (by omega))
    simp only [Bool.or_eq_true, Bool.not_eq_true', Bool.and_eq_true] at this
    rcases this with (h3 | h3) | h3
    · exfalso
      have : Nat.blt j i = true := Nat.ble_eq_true_of_le hj
      rw [this] at h3; cases h3
    · exact .inl (List.contains_iff_mem.1 h3)
    · exact .inr ⟨h3.1.1, h3.1.2, h3.2⟩

/-! ### Code -/
def Post (C : Cx → Prop) (n : Nat) (Q : Ex → Env → Sto → Prop) : Exit → Act → World → Prop
  | .normal, a, w => ∃ cx env σ vals, C cx ∧ a.tmps.size = n ∧ Rel cx env σ vals a w ∧ Q .normal env σ
  | .exit i, a, w => ∃ cx env σ vals, C cx ∧ a.tmps.size = n ∧ Rel cx env σ vals a w ∧ Q (.exit i) env σ
  | .ret, a, w => ∃ cx env σ vals, C cx ∧ a.tmps.size = n ∧ Rel cx env σ vals a w ∧ Q .ret env σ
  | _, _, _ => False

/-- A setting with one more deferred mark, block D. -/
def Cx.mark (cx : Cx) (w : World) (D : Nat) (hD : D < w.heap.size) (hs : cx.w1.heap.size ≤ w.heap.size) : Cx :=
  { cx with
    w1 := w
    keep := fun b => cx.keep b ∨ b = D
    hk := fun b hb => by
      rcases hb with hb | rfl
      · exact Nat.lt_of_lt_of_le (cx.hk b hb) hs
      · exact hD
    defers := { target := .collected D, args := #[] } :: cx.defers }

/-- The settings of a call: what stays is no cells; a mark may come. -/
structure Wide (P : Program) (pin : List Nat) (C : Cx → Prop) : Prop where
  pin : ∀ cx, C cx → PinOk pin cx
  gh : ∀ cx, C cx → ∀ x v, ¬ cx.gh x v
  lo : ∀ cx, C cx → cx.lo = 0
  keep : ∀ cx, C cx → ∀ b, cx.keep b → ∃ o : Obj, cx.w1.heap[b]? = some o ∧ o.isCells = false
  mark : ∀ (cx : Cx) (w : World) (D : Nat) (hD : D < w.heap.size) (hs : cx.w1.heap.size ≤ w.heap.size), C cx → (∀ b, cx.keep b → w.heap[b]? = cx.w1.heap[b]?) → cx.w0.heap.size ≤ D → cx.w1.heap.size ≤ D →
    w.heap[D]? = some (.deferred (some [])) → C (cx.mark w D hD hs)

theorem rel_canon (hr : Rel cx env σ vals a w) {K : Env → Prop} (h : canon env ps K) : ∃ env', K env' ∧ Rel cx env' σ vals a w := by
  rw [canon_eq] at h
  refine ⟨_, h, hr.s, fun p => ?_, hr.defers, hr.gh, hr.lo⟩
  rcases lookF_canon env ps p with hc | hc
  · rw [hc]; exact hr.env p
  · rw [hc]; simp only [RA]

theorem comped_of {P : Program} {dr : Bool} {ops : Array Oper} {l : List PO} (h : mapO (compO P dr ops n) ops.toList = some l) (d : PO) : l.length = ops.size ∧ Comped P dr ops n (fun i => l.getD i d) ∧ Comped P dr ops n (fun i => (l.map PO.plain).getD i d) := by
  have h1 := (mapO_spec _ _ _ h).1
  have hlen : l.length = ops.size := by
    have := congrArg List.length h1
    simpa using this.symm
  have get : ∀ i : Nat, i < ops.size → ∃ o po, ops[i]? = some o ∧ compO P dr ops n o = some po ∧ l[i]? = some po := by
    intro i hi
    have hi2 : i < l.length := by omega
    have := congrArg (·[i]?) h1
    simp only [List.getElem?_map] at this
    rw [List.getElem?_eq_getElem (by simpa using hi), List.getElem?_eq_getElem hi2] at this
    simp only [Option.map_some, Option.some.injEq] at this
    exact ⟨ops[i], l[i], Array.getElem?_eq_getElem hi, by simpa using this, List.getElem?_eq_getElem hi2⟩
  refine ⟨hlen, fun i hi => ?_, fun i hi => ?_⟩
  · obtain ⟨o, po, h2, h3, h4⟩ := get i hi
    exact ⟨o, po, h2, h3, .inl (by simp [List.getD_eq_getElem?_getD, h4])⟩
  · obtain ⟨o, po, h2, h3, h4⟩ := get i hi
    exact ⟨o, po, h2, h3, .inr (by simp [List.getD_eq_getElem?_getD, h4])⟩

theorem list_range {α : Type} (l : List α) (d : α) : (List.range l.length).map (fun i => l.getD i d) = l := by
  apply List.ext_getElem?
  intro i
  by_cases h : i < l.length
  · rw [List.getElem?_map, List.getElem?_eq_getElem (by simpa using h)]; simp [List.getD_eq_getElem?_getD, h]
  · rw [List.getElem?_eq_none (by simp; omega), List.getElem?_eq_none (by omega)]

open Classical in
noncomputable def leastN (p : Nat → Prop) : Nat := if h : ∃ n, p n ∧ ∀ m, p m → n ≤ m then Classical.choose h else 0

theorem leastN_spec {p : Nat → Prop} {n : Nat} (h : p n) : p (leastN p) ∧ ∀ m, p m → leastN p ≤ m := by
  have hex : ∃ n, p n ∧ ∀ m, p m → n ≤ m := by
    induction n using Nat.strongRecOn with
    | _ n ih =>
      by_cases hm : ∃ m, m < n ∧ p m
      · obtain ⟨m, h1, h2⟩ := hm; exact ih m h1 h2
      · exact ⟨n, h, fun m hp => Nat.le_of_not_lt fun hlt => hm ⟨m, hlt, hp⟩⟩
  unfold leastN
  rw [dif_pos hex]
  exact Classical.choose_spec hex

theorem strip_skip {pc : PC} (h : some PC.skip = some (strip pc)) : pc = .skip := by cases pc <;> first | rfl | cases h
theorem strip_ret {pc : PC} (h : some PC.ret = some (strip pc)) : pc = .ret := by cases pc <;> first | rfl | cases h
theorem strip_exit {id : Nat} {pc : PC} (h : some (PC.exit id) = some (strip pc)) : pc = .exit id := by cases pc <;> first | (cases h; rfl) | cases h
theorem strip_region {l : List PO} {pc : PC} (h : some (PC.region l) = some (strip pc)) : pc = .region l := by cases pc <;> first | (cases h; rfl) | cases h
theorem strip_draw {l : List PO} {aft : List (List Nat)} {pc : PC} (h : some (PC.draw l aft) = some (strip pc)) : pc = .draw l aft := by cases pc <;> first | (cases h; rfl) | cases h
theorem strip_seq {a b pc : PC} (h : some (PC.seq a b) = some (strip pc)) : ∃ a' b', pc = .seq a' b' ∧ a = strip a' ∧ b = strip b' := by
  cases pc <;> first | (cases h; exact ⟨_, _, rfl, rfl, rfl⟩) | cases h
theorem strip_cond {x : Operand} {a b pc : PC} (h : some (PC.cond x a b) = some (strip pc)) : ∃ a' b', pc = .cond x a' b' ∧ a = strip a' ∧ b = strip b' := by
  cases pc <;> first | (cases h; exact ⟨_, _, rfl, rfl, rfl⟩) | cases h
theorem strip_block {id : Nat} {b pc : PC} (h : some (PC.block id b) = some (strip pc)) : ∃ b', pc = .block id b' ∧ b = strip b' := by
  cases pc <;> first | (cases h; exact ⟨_, rfl, rfl⟩) | cases h
theorem strip_loop {b pc : PC} (h : some (PC.loop [] b) = some (strip pc)) : ∃ live b', pc = .loop live b' ∧ b = strip b' := by
  cases pc <;> first | (cases h; exact ⟨_, _, rfl, rfl⟩) | cases h

theorem simple_seq {a b : PC} (h : simpleC (.seq a b) = true) : simpleC a = true ∧ simpleC b = true := by
  have h : (match simpleC a with | true => simpleC b | false => false) = true := h
  cases ha : simpleC a with
  | true => rw [ha] at h; exact ⟨rfl, h⟩
  | false => rw [ha] at h; cases h
theorem simple_cond {c : Operand} {a b : PC} (h : simpleC (.cond c a b) = true) : simpleC a = true ∧ simpleC b = true := by
  have h : (match simpleC a with | true => simpleC b | false => false) = true := h
  cases ha : simpleC a with
  | true => rw [ha] at h; exact ⟨rfl, h⟩
  | false => rw [ha] at h; cases h

theorem strip_simple (c : PC) : simpleC (strip c) = simpleC c := by
  induction c with
  | seq a b iha ihb =>
    show (match simpleC (strip a) with | true => simpleC (strip b) | false => false) = (match simpleC a with | true => simpleC b | false => false)
    rw [iha, ihb]
  | cond c a b iha ihb =>
    show (match simpleC (strip a) with | true => simpleC (strip b) | false => false) = (match simpleC a with | true => simpleC b | false => false)
    rw [iha, ihb]
  | block id b ih => exact ih
  | _ => rfl

theorem rel_drew' {cx : Cx} {env : Env} {σ : Sto} {vals : List Value} {a : Act} {w : World} (h : Rel cx env σ vals a w) : Rel cx env σ vals a { w with drawn := w.drawn + 1 } := rel_drew h

section range
variable {P : Program}

/-- A round's setting. -/
def Cx.round (cx : Cx) (w : World) (okI : Nat → Prop) (W : World) (hI : ∀ b, okI b ∨ cx.keep b → b < W.heap.size) (gh : AV → Value → Prop) : Cx :=
  { cx with
    w1 := W
    keep := fun b => (okI b ∨ cx.keep b) ∨ ∃ o : Obj, W.heap[b]? = some o ∧ o.isCells = false
    hk := fun b hb => by
      rcases hb with hb | ⟨o, ho, _⟩
      · exact hI b hb
      · exact (Array.getElem?_eq_some_iff.1 ho).1
    defers := []
    gh := gh }

/-- The setting between two rounds. -/
def Cx.between (cx : Cx) (w : World) (okI : Nat → Prop) (hI : ∀ b, okI b ∨ cx.keep b → b < w.heap.size) : Cx :=
  { cx with w1 := w, keep := fun b => okI b ∨ cx.keep b, hk := hI }

theorem range_sound {pin : List Nat} {C : Cx → Prop} (hW : Wide P pin C) (hΓ : Sound P Γ) {m : Nat} (h1 : 1 ≤ m) {cx : Cx} (hC : C cx) (hP : cx.P = P) {f : Operand} {pa : Array Tmp} {asg body : Code} {l : List PO} {pb : PC} (hl : compA n asg = some l) (hps : ∀ p ∈ pa.toList, p < n) {Q : Ex → Env → Sto → Prop}
    (hbody : ∀ (cx' : Cx) (_ : cx'.lo = 0) (F : Fence) (k : Nat) (Q : Ex → Env → Sto → Prop) (env : Env) (σ : Sto) (vals : List Value) (a : Act) (w : World), Free F → cx'.P = P → a.tmps.size = n → Rel cx' env σ vals a w → (∀ e, Same (Q e)) → vc Γ pin ps pb Q env σ → body.wpIn F k P (Post (· = cx') n Q) a w)
    {env : Env} {σ : Sto} {vals : List Value} {a : Act} {w : World} (hn : a.tmps.size = n) (hr : Rel cx env σ vals a w) (h : rangeVC Γ pa.toList l (vc Γ pin ps pb) Q (evF env f) env σ) :
    (Code.rangeFunc f pa asg body).wpIn Fence.wide m P (Post C n Q) a w := by
  have hf := hr.ev f
  revert hf h
  cases evF env f with
  | pv x =>
    cases x with
    | clo g caps =>
      rintro ⟨L, I, hiter, hprim, hI0, hstep, hdone⟩ hf
      simp only [RA, Rd] at hf
      obtain ⟨cv, hfv, hcaps⟩ := hf
      obtain ⟨hseq, eg⟩ := (hΓ g).2.2.2.1 (m - 1) w (Ok cx σ vals w) caps cv L (fun b hb => hb.2.1) hcaps hiter
      have hIb : ∀ b, Ok cx σ vals w b ∨ cx.keep b → b < w.heap.size := fun b hb => by
        rcases hb with hb | hb
        · exact hb.2.1
        · exact Nat.lt_of_lt_of_le (cx.hk b hb) hr.s.fr.size
      let cxL := cx.between w (Ok cx σ vals w) hIb
      have hngh := hW.gh cx hC
      have hrL : Rel cxL env σ vals a w := by
        refine ⟨⟨hr.s.below, hr.s.one, hr.s.len, hr.s.sto, hr.s.dis, ⟨Nat.le_refl _, fun _ _ => rfl, fun b hm hb => ?_⟩, ⟨hr.s.pin.vs, hr.s.pin.len, hr.s.pin.refr, hr.s.pin.refb⟩⟩, hr.env, hr.defers, fun x v hg => absurd hg (hngh x v), hr.lo⟩
        rcases hb with hb | hb
        · exact hb.2.2 hm
        · exact hr.s.fr.mutn b hm hb
      -- between the rounds
      let I' : List { x : List PV // x ∈ L } → World → Prop := fun pre W => ∃ σ' vals', I (pre.map (·.1)) σ' ∧ Rel cxL env σ' vals' a W
      let Ix' : Code → List { x : List PV // x ∈ L } → World → Prop := fun c pre W => match c with
        | .ret => ∃ σ' vals', (pre.map (·.1) <+: L → Q .ret env σ') ∧ Rel cxL env σ' vals' a W
        | .exit i => ∃ σ' vals', (pre.map (·.1) <+: L → Q (.exit i) env σ') ∧ Rel cxL env σ' vals' a W
        | _ => False
      have hrow : ∀ {A : World} {row : Option Nat}, (∀ r, row = some r → w.heap.size ≤ r ∧ ∃ o : Obj, A.heap[r]? = some o ∧ o.isCells = false) → ∀ r, row = some r → cxL.own r ∧ cxL.w1.heap.size ≤ r ∧ ∃ o : Obj, A.heap[r]? = some o ∧ o.isCells = false :=
        fun hr' r e => ⟨cx.hown _ (Nat.le_trans hr.s.below.size (hr' r e).1), (hr' r e).1, (hr' r e).2⟩
      have hI' : OwnFrom w.heap.size I' := by
        rintro pre A B row ⟨σ', vals', h2, h3⟩ hg hrw
        exact ⟨σ', vals', h2, rel_other h3 hg (hrow hrw)⟩
      have hIx' : ∀ c, OwnFrom w.heap.size (Ix' c) := by
        intro c pre A B row hs hg hrw
        cases c <;> first
          | exact hs.elim
          | (obtain ⟨σ', vals', h2, h3⟩ := hs; exact ⟨σ', vals', h2, rel_other h3 hg (hrow hrw)⟩)
      -- behind a mark
      have marked : ∀ (D : Nat) (W : World) (σ' : Sto) (vals' : List Value), w.heap.size ≤ D → W.heap[D]? = some (.deferred (some [])) → Rel cxL env σ' vals' a W →
          ∃ cx2, C cx2 ∧ Rel cx2 env σ' vals' { a with defers := { target := .collected D, args := #[] } :: a.defers } W := by
        intro D W σ' vals' hD hK hR
        have hDlt : D < W.heap.size := (Array.getElem?_eq_some_iff.1 hK).1
        have hs : cx.w1.heap.size ≤ W.heap.size := Nat.le_trans hr.s.fr.size hR.s.fr.size
        have hkeep : ∀ b, cx.keep b → W.heap[b]? = cx.w1.heap[b]? := fun b hb => (hR.s.fr.same b (.inr hb)).trans (hr.s.fr.same b hb)
        refine ⟨cx.mark W D hDlt hs, hW.mark cx W D hDlt hs hC hkeep (Nat.le_trans hr.s.below.size hD) (Nat.le_trans hr.s.fr.size hD) hK, ?_⟩
        refine ⟨⟨hR.s.below, hR.s.one, hR.s.len, hR.s.sto, hR.s.dis, ⟨Nat.le_refl _, fun _ _ => rfl, fun b hm hb => ?_⟩, ⟨hR.s.pin.vs, hR.s.pin.len, hR.s.pin.refr, hR.s.pin.refb⟩⟩, hR.env, ?_, fun x v hg => absurd hg (hngh x v), hR.lo⟩
        · rcases hb with hb | rfl
          · exact hR.s.fr.mutn b hm (.inr hb)
          · obtain ⟨cur, e, fr, hc⟩ := mut_cells hR.s hm
            rw [hK] at hc; cases hc
        · show _ :: a.defers = _ :: cx.defers
          rw [hr.defers]
      obtain ⟨hmv, hasg⟩ := asg_spec (P := P) asg l hl
      let t₀ : { x : List PV // x ∈ L } → Act := fun x => ⟨(pa.toList.zip (x.1.map encV)).foldl (fun t p => t.setIfInBounds p.1 p.2) a.tmps, []⟩
      have hzip : ∀ x : { x : List PV // x ∈ L }, (pa.zip (x.1.map encV).toArray).foldl (fun t (p, v) => t.setIfInBounds p v) a.tmps = (t₀ x).tmps := by
        intro x
        show _ = (pa.toList.zip (x.1.map encV)).foldl (fun t p => t.setIfInBounds p.1 p.2) a.tmps
        rw [← Array.foldl_toList]
        simp
      refine wpIn_rangeFunc_ownG (F := Fence.wide) (n := m) rfl h1 (gf := g) (lb := cv) hfv trivial (fun args w => eg args w) (w0 := w) hseq
        (fun h k => ⟨Nat.le_trans h.1 k.1, fun b hb => (k.2 b hb).trans (h.2 b hb)⟩)
        (fun W j o o' hj ho hc _ => ⟨(by simp [World.putObj]), fun b hb => World.putObj_heap_other (fun e => by have := hb.2.1; omega)⟩)
        (Below.refl _ _) (fun x => by simpa using (hprim x.1 x.2).1)
        I' Ix' hI' hIx' ⟨σ, vals, hI0, hrL⟩ (fun x => moveAct l (t₀ x)) ?assign ?body ?done ?stop
      case assign =>
        intro j x W K hK
        rw [hzip x]
        exact hasg _ _ _ (t₀ x) W (.inr ⟨j, rfl⟩) hK
      case body =>
        rintro j pre x W ⟨σ', vals', hI2, hR⟩ hlen
        have hIb' : ∀ b, Ok cx σ vals w b ∨ cx.keep b → b < W.heap.size := fun b hb => Nat.lt_of_lt_of_le (hIb b hb) hR.s.fr.size
        let cx' := cx.round w (Ok cx σ vals w) W hIb' (fun y v => ∃ p, y = lookF p env ∧ v = a.tmps.getD p undef)
        have hR' : Rel cx' env σ' vals' ⟨a.tmps, []⟩ W := by
          refine ⟨⟨hR.s.below, hR.s.one, hR.s.len, hR.s.sto, hR.s.dis, ⟨Nat.le_refl _, fun _ _ => rfl, fun b hm hb => ?_⟩, ⟨hR.s.pin.vs, hR.s.pin.len, hR.s.pin.refr, hR.s.pin.refb⟩⟩, hR.env, rfl, ?_, hR.lo⟩
          · rcases hb with hb | ⟨o, ho, hoc⟩
            · exact hR.s.fr.mutn b hm hb
            · obtain ⟨cur, e, fr, hc⟩ := mut_cells hR.s hm
              rw [ho] at hc; cases hc; cases hoc
          · rintro y v ⟨p, rfl, rfl⟩
            exact hR.env p
        obtain ⟨env1, hv1, hR1, hn1⟩ := puts_rel (cx := cx') (n := n) (hW.lo cx hC) _ pa.toList x.1 env a.tmps [] (hprim x.1 x.2).1 (hprim x.1 x.2).2 hps hn hR' (hstep _ x.1 σ' x.2 (by simpa using hlen) hI2)
        obtain ⟨env2, hv2, hR2, hn2⟩ := moves_rel (cx := cx') (n := n) (hW.lo cx hC) _ l env1 (t₀ x) hmv hn1 hR1 hv1
        have hsame : ∀ e, Same (roundQ Q env I L (pre.map (·.1) ++ [x.1]) e) := by
          intro e env env' σ _
          cases e <;> rfl
        refine wpIn_mono (hbody cx' (hW.lo cx hC) _ _ _ env2 σ' vals' _ W (.inr ⟨j, rfl⟩) hP hn2 hR2 hsame hv2) ?_
        -- back outside
        have back : ∀ (env3 : Env) (σ3 : Sto) (vals3 : List Value) (a3 : Act) (W3 : World), Rel cx' env3 σ3 vals3 a3 W3 → KeepsFrom w.heap.size W W3 ∧ KpOf (Ok cx σ vals w) W W3 ∧ Rel cxL env σ3 vals3 a W3 := by
          intro env3 σ3 vals3 a3 W3 h3
          refine ⟨⟨h3.s.fr.size, fun k o _ ho hoc => (h3.s.fr.same k (.inr ⟨o, ho, hoc⟩)).trans ho⟩, ⟨h3.s.fr.size, fun b hb => h3.s.fr.same b (.inl (.inl hb))⟩, ?_⟩
          refine ⟨⟨h3.s.below, h3.s.one, h3.s.len, h3.s.sto, h3.s.dis, ⟨Nat.le_trans hR.s.fr.size h3.s.fr.size, fun b hb => (h3.s.fr.same b (.inl hb)).trans (hR.s.fr.same b hb), fun b hm hb => h3.s.fr.mutn b hm (.inl hb)⟩, ⟨h3.s.pin.vs, h3.s.pin.len, h3.s.pin.refr, h3.s.pin.refb⟩⟩, fun p => h3.gh _ _ ⟨p, rfl, rfl⟩, hr.defers, fun x v hg => absurd hg (hngh x v), hr.lo⟩
        intro e a3 W3 hp
        cases e with
        | normal =>
          obtain ⟨cx3, env3, σ3, vals3, rfl, _, h3, h4⟩ := hp
          obtain ⟨b1, b2, b3⟩ := back _ _ _ _ _ h3
          exact ⟨b1, b2, σ3, vals3, by rw [List.map_append]; exact h4, b3⟩
        | exit i =>
          obtain ⟨cx3, env3, σ3, vals3, rfl, _, h3, h4⟩ := hp
          obtain ⟨b1, b2, b3⟩ := back _ _ _ _ _ h3
          exact ⟨b1, σ3, vals3, by rw [List.map_append]; exact h4, b3⟩
        | ret =>
          obtain ⟨cx3, env3, σ3, vals3, rfl, _, h3, h4⟩ := hp
          obtain ⟨b1, b2, b3⟩ := back _ _ _ _ _ h3
          exact ⟨b1, σ3, vals3, by rw [List.map_append]; exact h4, b3⟩
        | _ => exact hp.elim
      case done =>
        rintro D xs W hD hS ⟨σ', vals', hI2, hR⟩ hK
        obtain ⟨cx2, hC2, hR2⟩ := marked D W σ' vals' hD hK hR
        rw [hS] at hI2
        exact ⟨cx2, env, σ', vals', hC2, hn, hR2, hdone σ' hI2⟩
      case stop =>
        intro D c pre W hD hSp hx hK
        cases c with
        | ret =>
          obtain ⟨σ', vals', hq, hR⟩ := hx
          obtain ⟨cx2, hC2, hR2⟩ := marked D W σ' vals' hD hK hR
          exact wpIn_ret ⟨cx2, env, σ', vals', hC2, hn, hR2, hq hSp⟩
        | exit i =>
          obtain ⟨σ', vals', hq, hR⟩ := hx
          obtain ⟨cx2, hC2, hR2⟩ := marked D W σ' vals' hD hK hR
          exact wpIn_exit ⟨cx2, env, σ', vals', hC2, hn, hR2, hq hSp⟩
        | _ => exact hx.elim
    | _ => intro h; exact h.elim
  | _ => intro h; exact h.elim
end range

/-- No operation writes a slot below lo; no loops. -/
def geO (lo : Nat) (o : PO) : Bool := match o.dst with | none => true | some d => Nat.ble lo d
noncomputable def geL (lo : Nat) (l : List PO) : Bool := List.rec (motive := fun _ => Bool) true (fun o _ ih => match geO lo o with | true => ih | false => false) l
noncomputable def geC (lo : Nat) (c : PC) : Bool :=
  PC.rec (motive := fun _ => Bool) true (fun l => geL lo l) (fun l _ => geL lo l) (fun _ _ a b => match a with | true => b | false => false) (fun _ _ _ a b => match a with | true => b | false => false) (fun _ _ b => b) (fun _ _ _ => false) (fun _ _ _ _ _ => false) (fun _ => true) true c
theorem ge_seq {lo : Nat} {a b : PC} (h : geC lo (.seq a b) = true) : geC lo a = true ∧ geC lo b = true := by
  have h : (match geC lo a with | true => geC lo b | false => false) = true := h
  cases ha : geC lo a with
  | true => rw [ha] at h; exact ⟨rfl, h⟩
  | false => rw [ha] at h; cases h
theorem ge_cond {lo : Nat} {c : Operand} {a b : PC} (h : geC lo (.cond c a b) = true) : geC lo a = true ∧ geC lo b = true := by
  have h : (match geC lo a with | true => geC lo b | false => false) = true := h
  cases ha : geC lo a with
  | true => rw [ha] at h; exact ⟨rfl, h⟩
  | false => rw [ha] at h; cases h
theorem geL_mem {lo : Nat} : ∀ {l : List PO}, geL lo l = true → ∀ o ∈ l, ∀ d, o.dst = some d → lo ≤ d := by
  intro l
  induction l with
  | nil => intro _ o ho; cases ho
  | cons p l ih =>
    intro h o ho d hd
    have h : (match geO lo p with | true => geL lo l | false => false) = true := h
    cases hp : geO lo p with
    | false => rw [hp] at h; cases h
    | true =>
      rw [hp] at h
      rcases List.mem_cons.1 ho with rfl | ho
      · unfold geO at hp
        rw [hd] at hp
        exact Nat.le_of_ble_eq_true hp
      · exact ih h o ho d hd
theorem ge_ops {cx : Cx} {ops : Array Oper} {l : List PO} (h : cx.lo = 0 ∨ ∃ lo, cx.lo ≤ lo ∧ geL lo l = true) (hl : l.length = ops.size) : ∀ i, i < ops.size → ∀ d, (l.getD i ⟨none, none, .nilS 0⟩).dst = some d → cx.lo ≤ d := by
  intro i hi d hd
  rcases h with h | ⟨lo, h1, h2⟩
  · rw [h]; exact Nat.zero_le _
  · refine Nat.le_trans h1 (geL_mem h2 _ ?_ d hd)
    rw [List.getD_eq_getElem?_getD, List.getElem?_eq_getElem (by omega)]
    simp

theorem strip_rangeF {f : Operand} {qs : List Nat} {l : List PO} {b pc : PC} (h : some (PC.rangeF f qs l b) = some (strip pc)) : ∃ b', pc = .rangeF f qs l b' ∧ b = strip b' := by
  cases pc <;> first | (cases h; exact ⟨_, rfl, rfl⟩) | cases h

theorem code_sound {P : Program} {pin : List Nat} (hΓ : Sound P Γ) (hm : P.follows .mixedOrders = true) : ∀ (c : Code) (pc : PC), compC P n c = some (strip pc) → ∀ (C : Cx → Prop) (F : Fence) (m : Nat) (cx : Cx) (Q : Ex → Env → Sto → Prop) (env : Env) (σ : Sto) (vals : List Value) (a : Act) (w : World),
    simpleC pc = true ∨ (F = Fence.wide ∧ 1 ≤ m ∧ Wide P pin C ∧ ∀ cx, C cx → cx.P = P) → ((∀ cx, C cx → cx.lo = 0) ∨ ∃ lo, (∀ cx, C cx → cx.lo ≤ lo) ∧ geC lo pc = true) → Free F → C cx → (∀ cx, C cx → cx.P = P) → (∀ e, Same (Q e)) → a.tmps.size = n → Rel cx env σ vals a w → vc Γ pin ps pc Q env σ → c.wpIn F m P (Post C n Q) a w := by
  intro c
  induction c with
  | skip =>
    intro pc hc C F m cx Q env σ vals a w _ _ _ hC hP _ hn hr h
    have hc := strip_skip hc
    subst hc
    exact wpIn_skip ⟨cx, env, σ, vals, hC, hn, hr, h⟩
  | region id ops draw =>
    intro pc hc C F m cx Q env σ vals a w _ hG hF hC hP hQ hn hr h
    have hPc := hP cx hC
    subst hPc
    cases draw with
    | false =>
      obtain ⟨l, hl, hc⟩ := opt_some (show opt (mapO (compO cx.P false ops n) ops.toList) (fun l => some (PC.region l)) = some (strip pc) from hc)
      have hc := strip_region hc
      subst hc
      obtain ⟨env', h, hr'⟩ := rel_canon hr (show canon env ps _ from h)
      obtain ⟨hlen, h1, _⟩ := comped_of hl ⟨none, none, .nilS 0⟩
      refine wpIn_region (ops_sound hΓ h1 (K := Q .normal) hF (ge_ops (hG.imp (fun h => h cx hC) fun ⟨lo, h1, h2⟩ => ⟨lo, h1 cx hC, h2⟩) hlen) (fun env' σ' vals' a' w' hn' hr' hK => ⟨cx, env', σ', vals', hC, hn', hr', hK⟩) _ env' σ vals a w (fun i hi => List.mem_range.1 hi) hn hr' ?_)
      rw [← hlen, list_range]
      exact h
    | true =>
      obtain ⟨l, hl, hc⟩ := opt_some (show opt (mapO (compO cx.P true ops n) ops.toList) (fun l => some (PC.draw (l.map PO.plain) (ops.toList.map fun o => (o.after.toList.filter fun e => Region.binds .any e).map (·.on)))) = some (strip pc) from hc)
      have hc := strip_draw hc
      subst hc
      obtain ⟨hD, h⟩ := (show drawOk Γ (l.map PO.plain) _ = true ∧ canon env ps _ from h)
      obtain ⟨env', h, hr'⟩ := rel_canon hr h
      obtain ⟨hlen, _, h1⟩ := comped_of hl ⟨none, none, .nilS 0⟩
      have hlen' : (l.map PO.plain).length = ops.size := by simpa using hlen
      refine wpIn_region_any hm ?_
      have hz : ∀ i, i < ops.size → (Array.replicate ops.size false).getD i true = false := by
        intro i hi; rw [Array.getD_eq_getD_getElem?]; simp [hi]
      have hleft : left ops.size (Array.replicate ops.size false) = List.range ops.size := by
        unfold left
        apply List.filter_eq_self.2
        intro i hi
        rw [hz i (List.mem_range.1 hi)]; rfl
      refine draw_sound hΓ h1 (drawn_of hlen' rfl hD ⟨none, none, .nilS 0⟩) (hQ .normal) hF (ge_ops (hG.imp (fun h => h cx hC) fun ⟨lo, h1, h2⟩ => ⟨lo, h1 cx hC, h2⟩) hlen') (fun env' σ' vals' a' w' hn' hr' hK => ⟨cx, env', σ', vals', hC, hn', hr', hK⟩) _ _ env' σ vals a _ (by simp) ?_ ?_ hn (rel_drew' hr') ?_
      · rw [hleft]; simp
      · intro i hi hl'
        rw [Array.getD_eq_getD_getElem?] at hl'
        simp [hi] at hl'
      · rw [hleft, ← hlen', list_range]
        exact h
  | seq x y ihx ihy =>
    intro pc hc C F m cx Q env σ vals a w hS hG hF hC hP hQ hn hr h
    obtain ⟨px, hx, hc⟩ := opt_some (show opt (compC P n x) (fun a => opt (compC P n y) fun b => some (PC.seq a b)) = some (strip pc) from hc)
    obtain ⟨py, hy, hc⟩ := opt_some hc
    obtain ⟨px, py, rfl, rfl, rfl⟩ := strip_seq hc
    refine wpIn_seq (wpIn_mono (ihx px hx C F m cx (seqQ (vc Γ pin ps py Q) Q) env σ vals a w (hS.imp_left fun h => (simple_seq h).1) (hG.imp_right fun ⟨lo, h1, h2⟩ => ⟨lo, h1, (ge_seq h2).1⟩) hF hC hP (same_seqQ (vc_same Γ pin ps py Q hQ) hQ) hn hr h) ?_)
    intro e a' w' hp
    cases e with
    | normal =>
      obtain ⟨cx', env', σ', vals', hC', hn', hr', h'⟩ := hp
      exact ihy py hy C F m cx' Q env' σ' vals' a' w' (hS.imp_left fun h => (simple_seq h).2) (hG.imp_right fun ⟨lo, h1, h2⟩ => ⟨lo, h1, (ge_seq h2).2⟩) hF hC' hP hQ hn' hr' h'
    | exit i => exact hp
    | ret => exact hp
    | _ => exact hp
  | cond c x y ihx ihy =>
    intro pc hc C F m cx Q env σ vals a w hS hG hF hC hP hQ hn hr h
    obtain ⟨px, hx, hc⟩ := opt_some (show opt (compC P n x) (fun a => opt (compC P n y) fun b => some (PC.cond c a b)) = some (strip pc) from hc)
    obtain ⟨py, hy, hc⟩ := opt_some hc
    obtain ⟨px, py, rfl, rfl, rfl⟩ := strip_cond hc
    have h := ev_spec _ _ _ (show ev env c _ from h)
    have he := hr.ev c
    revert h he
    cases evF env c with
    | pv v => cases v with
      | bool b =>
        intro h he
        simp only [RA, Rd] at he
        cases b with
        | true => exact wpIn_cond_true he (ihx px hx C F m cx Q env σ vals a w (hS.imp_left fun h => (simple_cond h).1) (hG.imp_right fun ⟨lo, h1, h2⟩ => ⟨lo, h1, (ge_cond h2).1⟩) hF hC hP hQ hn hr h)
        | false => exact wpIn_cond_false he (ihy py hy C F m cx Q env σ vals a w (hS.imp_left fun h => (simple_cond h).2) (hG.imp_right fun ⟨lo, h1, h2⟩ => ⟨lo, h1, (ge_cond h2).2⟩) hF hC hP hQ hn hr h)
      | _ => intro h; exact h.elim
    | _ => intro h; exact h.elim
  | block id b ih =>
    intro pc hc C F m cx Q env σ vals a w hS hG hF hC hP hQ hn hr h
    obtain ⟨pb, hb, hc⟩ := opt_some (show opt (compC P n b) (fun b => some (PC.block id b)) = some (strip pc) from hc)
    obtain ⟨pb, rfl, rfl⟩ := strip_block hc
    refine wpIn_block (wpIn_mono (ih pb hb C F m cx (blockQ id Q) env σ vals a w hS hG hF hC hP (same_blockQ hQ) hn hr h) ?_)
    intro e a' w' hp
    cases e with
    | normal => exact hp
    | exit i =>
      obtain ⟨cx', env', σ', vals', hC', hn', hr', h'⟩ := hp
      have h' : (match Nat.beq i id with | true => Q .normal env' σ' | false => Q (.exit i) env' σ') := h'
      show (if i = id then Post C n Q .normal a' w' else Post C n Q (.exit i) a' w')
      cases hb : Nat.beq i id with
      | true =>
        rw [hb] at h'
        rw [if_pos (Nat.eq_of_beq_eq_true hb)]
        exact ⟨cx', env', σ', vals', hC', hn', hr', h'⟩
      | false =>
        rw [hb] at h'
        rw [if_neg (fun e => by subst e; simp at hb)]
        exact ⟨cx', env', σ', vals', hC', hn', hr', h'⟩
    | ret => exact hp
    | _ => exact hp
  | loop b ih =>
    intro pc hc C F m0 cx Q env σ vals a w hS hG hF hC hP hQ hn hr h
    obtain ⟨pb, hb, hc⟩ := opt_some (show opt (compC P n b) (fun b => some (PC.loop [] b)) = some (strip pc) from hc)
    obtain ⟨live, pb, rfl, rfl⟩ := strip_loop hc
    have hS' : F = Fence.wide ∧ 1 ≤ m0 ∧ Wide P pin C ∧ ∀ cx, C cx → cx.P = P := by
      rcases hS with hS | hS
      · cases hS
      · exact hS
    obtain ⟨env', σ', vals', h, hr'⟩ := gc_spec (hS'.2.2.1.gh cx hC) (hS'.2.2.1.pin cx hC) hr live (show gc pin env σ live (fun env σ => loopVC pin live (vc Γ pin ps pb) Q env σ) from h)
    obtain ⟨I, m, hI, hstep⟩ := h
    let J : Nat → Act → World → Prop := fun m a w => ∃ cx env σ vals, C cx ∧ a.tmps.size = n ∧ Rel cx env σ vals a w ∧ I m env σ
    refine wpIn_loop (fun a w => ∃ m, J m a w) (fun a w => leastN fun m => J m a w) ⟨m, cx, env', σ', vals', hC, hn, hr', hI⟩ ?_
    rintro a1 w1 ⟨m1, hJ1⟩
    obtain ⟨⟨cx1, env1, σ1, vals1, hC1, hn1, hr1, hI1⟩, _⟩ := leastN_spec (p := fun m => J m a1 w1) hJ1
    have hsame : ∀ k, Same fun e σ => gc pin e σ live fun e' σ' => ∃ m, m < k ∧ I m e' σ' := fun k env env' σ h => gc_same h σ live _
    refine wpIn_mono (ih pb hb C F m0 cx1 _ env1 σ1 vals1 a1 w1 (.inr hS') (.inl (hS'.2.2.1.lo)) hF hC1 hP (same_seqQ (hsame _) hQ) hn1 hr1 (hstep _ env1 σ1 hI1)) ?_
    intro e a' w' hp
    cases e with
    | normal =>
      obtain ⟨cx2, env2, σ2, vals2, hC2, hn2, hr2, h2⟩ := hp
      obtain ⟨env3, σ3, vals3, ⟨k, hk, hI3⟩, hr3⟩ := gc_spec (hS'.2.2.1.gh cx2 hC2) (hS'.2.2.1.pin cx2 hC2) hr2 live h2
      have hJ3 : J k a' w' := ⟨cx2, env3, σ3, vals3, hC2, hn2, hr3, hI3⟩
      exact ⟨⟨k, hJ3⟩, Nat.lt_of_le_of_lt ((leastN_spec (p := fun m => J m a' w') hJ3).2 k hJ3) hk⟩
    | exit i => exact hp
    | ret => exact hp
    | _ => exact hp
  | rangeFunc f pa asg b _ ih =>
    intro pc hc C F m cx Q env σ vals a w hS hG hF hC hP hQ hn hr h
    obtain ⟨l, hl, hc⟩ := opt_some (show opt (compA n asg) (fun l => opt (compC P n b) fun b => need (simpleC b && pa.toList.all fun p => Nat.blt p n) (some (PC.rangeF f pa.toList l b))) = some (strip pc) from hc)
    obtain ⟨pb, hb, hc⟩ := opt_some hc
    obtain ⟨hsp, hc⟩ := need_some hc
    obtain ⟨pb, rfl, rfl⟩ := strip_rangeF hc
    have hS' : F = Fence.wide ∧ 1 ≤ m ∧ Wide P pin C ∧ ∀ cx, C cx → cx.P = P := by
      rcases hS with hS | hS
      · cases hS
      · exact hS
    obtain ⟨rfl, h1, hW, _⟩ := hS'
    rw [Bool.and_eq_true, strip_simple] at hsp
    obtain ⟨env', h, hr'⟩ := rel_canon hr (show canon env ps _ from h)
    have h := ev_spec _ _ _ h
    exact range_sound hW hΓ h1 hC (hP cx hC) hl (fun p hp => Nat.le_of_ble_eq_true (by have := List.all_eq_true.1 hsp.2 p hp; exact this))
      (fun cx' hlo' F k Q env σ vals a w hF' hP' hn' hr2 hQ' hv => ih pb hb (· = cx') F k cx' Q env σ vals a w (.inl hsp.1) (.inl fun c hc => hc ▸ hlo') hF' rfl (fun c hc => hc ▸ hP') hQ' hn' hr2 hv) hn hr' h
  | exit id =>
    intro pc hc C F m cx Q env σ vals a w _ _ _ hC hP _ hn hr h
    have hc := strip_exit hc
    subst hc
    exact wpIn_exit ⟨cx, env, σ, vals, hC, hn, hr, h⟩
  | ret =>
    intro pc hc C F m cx Q env σ vals a w _ _ _ hC hP _ hn hr h
    have hc := strip_ret hc
    subst hc
    exact wpIn_ret ⟨cx, env, σ, vals, hC, hn, hr, h⟩
  | _ => intro pc hc; cases hc
end
end Go.Dv
end
section
/-
  A function whose condition holds keeps its contract in the model.
-/
set_option linter.unusedSimpArgs false
namespace Go.Dv
open Go.RowKit

theorem looksK_same {env env' : Env} (h : ∀ p, lookF p env' = lookF p env) (σ : Sto) (rs : List (Nat × Option (Bool × Nat))) : ∀ K : List AV → Prop, looksK σ env' rs K = looksK σ env rs K := by
  induction rs with
  | nil => intro K; rfl
  | cons p rs ih =>
    intro K
    show look p.1 (fun v => match p.2 with
      | none => looksK σ env' rs fun l => K (v :: l)
      | some q => loadK σ q.1 q.2 v fun v => looksK σ env' rs fun l => K (v :: l)) env' = look p.1 (fun v => match p.2 with
      | none => looksK σ env rs fun l => K (v :: l)
      | some q => loadK σ q.1 q.2 v fun v => looksK σ env rs fun l => K (v :: l)) env
    rw [look_eq, look_eq, h]
    cases p.2 with
    | none => exact ih _
    | some q => simp only [ih]

theorem same_endQ (lone : Bool) (rs : List (Nat × Option (Bool × Nat))) (K : RV → Prop) : ∀ e, Same (endQ lone rs K e) := by
  intro e env env' σ h
  cases e with
  | normal => exact looksK_same h σ rs _
  | ret => exact looksK_same h σ rs _
  | exit i => rfl

theorem argEnv_spec (l : List PV) : ∀ (n : Nat) (K : Env → Prop), argEnv l n K → ∃ env, K env ∧ ∀ p, lookF p env = if n ≤ p then (match l[p - n]? with | some x => .pv x | none => .bad) else .bad := by
  induction l with
  | nil => intro n K h; exact ⟨[], h, fun p => by simp [lookF]⟩
  | cons x l ih =>
    intro n K h
    obtain ⟨env, h1, h2⟩ := ih (n + 1) _ h
    refine ⟨_, h1, fun p => ?_⟩
    show (bif Nat.beq n p then AV.pv x else lookF p env) = _
    by_cases hp : n = p
    · subst hp; simp
    · rw [nbeq hp, cond_false, h2 p]
      by_cases hlt : n ≤ p
      · rw [if_pos (show n + 1 ≤ p by omega), if_pos hlt]
        have : p - n = (p - (n + 1)) + 1 := by omega
        rw [this]; rfl
      · rw [if_neg (by omega), if_neg hlt]

section flat
variable {ok ok' : Nat → Prop} {w : World}

theorem rd_prim {x : PV} {v : Value} (hx : x.prim) (h : Rd ok w x v) : Rd ok' w x v := by
  cases x <;> first | exact hx.elim | (simp only [Rd] at h ⊢; exact h)

theorem rdL_prim : ∀ (l : List PV) (vs : List Value), (∀ c ∈ l, c.prim) → RdL ok w l vs → RdL ok' w l vs
  | [], vs, _, h => by simpa only [RdL] using h
  | x :: xs, vs, hx, h => by
    simp only [RdL] at h ⊢
    obtain ⟨v, t, h1, h2, h3⟩ := h
    exact ⟨v, t, h1, rd_prim (hx x (by simp)) h2, rdL_prim xs t (fun c hc => hx c (by simp [hc])) h3⟩

theorem rd_flat {x : PV} {v : Value} (hx : x.flat) (h : Rd ok w x v) : Rd ok' w x v := by
  cases x with
  | agg cs =>
    simp only [Rd] at h ⊢
    obtain ⟨h1, vs, h2, h3⟩ := h
    exact ⟨h1, vs, h2, rdL_prim cs _ hx h3⟩
  | _ => first | exact hx.elim | (simp only [Rd] at h ⊢; exact h)

theorem flat_cells {x : PV} (h : x.flat) : ∀ c ∈ x.cells, c.prim := by
  cases x with
  | agg cs => exact h
  | _ => first | exact h.elim | (intro c hc; simp [PV.cells] at hc; subst hc; exact h)
end flat

section
variable {cx : Cx} {env : Env} {σ : Sto} {vals : List Value} {a : Act} {w' : World}

def us1 (r : RV) (v : Value) : List Value := match r with | .fresh _ _ _ => [v] | _ => []
def usL : List RV → List Value → List Value
  | r :: rs, v :: vs => us1 r v ++ usL rs vs
  | _, _ => []

/-- Where a row that is handed out comes from. -/
def From (σ : Sto) (vals : List Value) (seen : List Nat) (u : Value) : Prop :=
  u = .slice none 0 0 ∨ ∃ id s, id ∉ seen ∧ σ[id]? = some s ∧ s.live = true ∧ vals[id]? = some u

theorem us1_from (hr : RelS cx σ vals w') {av : AV} {r : RV} {v : Value} (h : retAV σ av r) (hv : RA (Ok cx σ vals w') σ vals w' av v) (seen : List Nat) (hseen : ∀ id, av = .own id → id ∉ seen) : ∀ u ∈ us1 r v, From σ vals seen u := by
  intro u hu
  cases r with
  | fresh e sz els =>
    simp [us1] at hu
    subst hu
    cases av with
    | pv x =>
      cases x with
      | nil s => simp only [RA, Rd] at hv; exact .inl hv
      | _ => exact h.elim
    | own id =>
      obtain ⟨b, h1, h2⟩ := nthK_iff _ _ _ h
      simp only [RA] at hv
      cases b with
      | row e' sz' ap els' => exact .inr ⟨id, _, hseen id rfl, h1, rfl, hv⟩
      | fz x => exact h2.elim
      | _ => exact h2.elim
    | _ => exact h.elim
  | _ => simp [us1] at hu

theorem Owns.imp {M M' : Nat → Prop} {w : World} {e : TypeId} {sz : Nat} {ap : Bool} {v : Value} {n : Nat} {xs : List Value} (h : Owns w M e sz ap v n xs) (hm : ∀ b, M b → M' b) : Owns w M' e sz ap v n xs := by
  refine ⟨h.1, ?_⟩
  rcases h.2 with h2 | ⟨g, cap, cur, fr, h1, h2, h3⟩
  · exact .inl h2
  · exact .inr ⟨g, cap, cur, fr, h1, hm g h2, h3⟩

theorem okR_of_ok (ho : ∀ b, cx.own b → cx.w0.heap.size ≤ b) {lone : Bool} {us : List Value} (hus : ∀ u ∈ us, From σ vals [] u) (hl : lone = false) : ∀ b, Ok cx σ vals w' b → OkR cx.okA lone cx.w0 w' us b := by
  rintro b ⟨h1, h2, h3⟩
  refine ⟨h1.imp (fun h => ⟨hl, h⟩) (ho b), h2, fun u hu hb => h3 ?_⟩
  rcases hus u hu with rfl | ⟨id, s, _, g1, g2, g3⟩
  · cases hb
  · exact ⟨id, s, u, g1, g2, g3, hb⟩

theorem ret_item (ho : ∀ b, cx.own b → cx.w0.heap.size ≤ b) (hr : RelS cx σ vals w') {av : AV} {r : RV} {v : Value} (h : retAV σ av r) (hv : RA (Ok cx σ vals w') σ vals w' av v) {lone : Bool} (hl : lone = true → r.flat1) {us : List Value} (hus : ∀ u ∈ us, From σ vals [] u) :
    RR (OkR cx.okA lone cx.w0 w' us) (fun b => cx.w0.heap.size ≤ b) w' r v (us1 r v) := by
  have plain : ∀ x : PV, (lone = true → x.flat) → Rd (Ok cx σ vals w') w' x v → Rd (OkR cx.okA lone cx.w0 w' us) w' x v := by
    intro x hx h
    cases hlone : lone with
    | false => exact Rd.mono (okR_of_ok ho hus rfl) (fun _ _ _ => rfl) x v h
    | true => exact rd_flat (hx hlone) h
  cases av with
  | pv x =>
    simp only [RA] at hv
    cases r with
    | pv y =>
      refine ⟨?_, rfl⟩
      cases x with
      | nil s =>
        simp only [Rd] at hv
        rcases (show y = .nil s ∨ y = .sl s [] from h) with rfl | rfl
        · simp only [Rd]; exact hv
        · simp only [Rd]; exact ⟨none, 0, by simpa using hv, by simp, by decide, .inl trivial⟩
      | _ => exact plain _ (fun e => hl e) ((show y = _ from h) ▸ hv)
    | fresh e sz els =>
      cases x with
      | nil s =>
        simp only [Rd] at hv
        obtain ⟨⟨rfl, rfl⟩, h0⟩ := (show (sz = s ∧ els = []) ∧ 0 < sz from h)
        simp only [RR]
        subst hv
        exact ⟨rfl, h0, [], owns_nil _ _ _ _ _, by simp, by simp, by simp [RdL]⟩
      | _ => exact h.elim
    | _ => exact h.elim
  | own id =>
    simp only [RA] at hv
    obtain ⟨b, h1, h2⟩ := nthK_iff _ _ _ h
    have hb := hr.sto id b v h1 hv
    cases b with
    | row e sz ap els =>
      cases r with
      | fresh e' sz' els' =>
        obtain ⟨rfl, rfl, rfl, rfl⟩ := (show ap = true ∧ e' = e ∧ sz' = sz ∧ els' = els from h2)
        obtain ⟨h0, cells, g1, g2, g3, g4⟩ := hb
        simp only [RR]
        refine ⟨rfl, h0, cells, g1.imp ho, g2, g3, ?_⟩
        cases hlone : lone with
        | false => exact RdL.mono (okR_of_ok ho hus rfl) (fun _ _ _ => rfl) _ _ g4
        | true =>
          refine rdL_prim _ _ (fun c hc => ?_) g4
          obtain ⟨x, hx, hc⟩ := List.mem_flatMap.1 hc
          exact flat_cells ((hl hlone : ∀ x ∈ els', x.flat) x hx) c hc
      | _ => exact h2.elim
    | fz x =>
      cases r with
      | pv y =>
        have : y = x := h2
        subst this
        exact ⟨plain _ (fun e => hl e) hb, rfl⟩
      | _ => exact h2.elim
    | _ => exact h2.elim
  | _ => exact h.elim

theorem ownOnce_cons (a : AV) (l : List AV) (seen : List Nat) (h : ownOnce (a :: l) seen = true) : (∀ id, a = .own id → id ∉ seen ∧ ownOnce l (id :: seen) = true) ∧ ((∀ id, a ≠ .own id) → ownOnce l seen = true) := by
  cases a with
  | own id =>
    have h' : Bool.rec (motive := fun _ => Bool) (ownOnce l (id :: seen)) false (memB id seen) = true := h
    refine ⟨fun id' e => ?_, fun hne => absurd rfl (hne id)⟩
    cases e
    cases hm : memB id seen with
    | true => rw [hm] at h'; cases h'
    | false => rw [hm] at h'; exact ⟨memB_spec _ _ hm, h'⟩
  | _ => exact ⟨fun id e => by (cases e), fun _ => h⟩

theorem ret_list (ho : ∀ b, cx.own b → cx.w0.heap.size ≤ b) (hr : RelS cx σ vals w') {lone : Bool} {us : List Value} (hus : ∀ u ∈ us, From σ vals [] u) :
    ∀ (as : List AV) (rs : List RV) (vs : List Value), retsK σ as rs → RAL (Ok cx σ vals w') σ vals w' as vs → (lone = true → flatL rs) → RRL (OkR cx.okA lone cx.w0 w' us) (fun b => cx.w0.heap.size ≤ b) w' rs vs (usL rs vs) := by
  intro as
  induction as with
  | nil =>
    intro rs vs h hv _
    cases rs with
    | nil => simp only [RAL] at hv; subst hv; simp [RRL, usL]
    | cons r rs => exact (show False from h).elim
  | cons av as ih =>
    intro rs vs h hv hl
    cases rs with
    | nil => exact (show False from h).elim
    | cons r rs =>
      obtain ⟨h1, h2⟩ := (show retAV σ av r ∧ retsK σ as rs from h)
      simp only [RAL] at hv
      obtain ⟨v, t, rfl, h3, h4⟩ := hv
      simp only [RRL]
      exact ⟨v, t, us1 r v, usL rs t, rfl, rfl, ret_item ho hr h1 h3 (fun e => (show r.flat1 ∧ flatL rs from hl e).1) hus, ih rs t h2 h4 fun e => (show r.flat1 ∧ flatL rs from hl e).2⟩

theorem usL_from (hr : RelS cx σ vals w') : ∀ (as : List AV) (rs : List RV) (vs : List Value) (seen : List Nat), retsK σ as rs → RAL (Ok cx σ vals w') σ vals w' as vs → ownOnce as seen = true →
    (∀ u ∈ usL rs vs, From σ vals seen u) ∧ (usL rs vs).Pairwise fun u t => ∀ b, blkOf u = some b → blkOf t ≠ some b := by
  intro as
  induction as with
  | nil =>
    intro rs vs seen h hv _
    cases rs with
    | nil => simp [usL]
    | cons r rs => exact (show False from h).elim
  | cons av as ih =>
    intro rs vs seen h hv ho
    cases rs with
    | nil => exact (show False from h).elim
    | cons r rs =>
      obtain ⟨h1, h2⟩ := (show retAV σ av r ∧ retsK σ as rs from h)
      simp only [RAL] at hv
      obtain ⟨v, t, rfl, h3, h4⟩ := hv
      obtain ⟨o1, o2⟩ := ownOnce_cons av as seen ho
      have hfirst := us1_from hr h1 h3 seen (fun id e => (o1 id e).1)
      -- what is seen further on
      obtain ⟨seen', hs1, hs2, hs3⟩ : ∃ seen', ownOnce as seen' = true ∧ (∀ i, i ∈ seen → i ∈ seen') ∧ ∀ id, av = .own id → id ∈ seen' := by
        by_cases hex : ∃ id, av = .own id
        · obtain ⟨id, he⟩ := hex
          refine ⟨id :: seen, (o1 id he).2, fun i hi => by simp [hi], fun id' he' => ?_⟩
          rw [he] at he'; cases he'; simp
        · exact ⟨seen, o2 fun id e => hex ⟨id, e⟩, fun _ h => h, fun id e => absurd ⟨id, e⟩ hex⟩
      obtain ⟨g1, g2⟩ := ih rs t seen' h2 h4 hs1
      constructor
      · intro u hu
        rcases List.mem_append.1 (show u ∈ us1 r v ++ usL rs t from hu) with hu | hu
        · exact hfirst u hu
        · rcases g1 u hu with h | ⟨id, s, k1, k2⟩
          · exact .inl h
          · exact .inr ⟨id, s, fun hm => k1 (hs2 id hm), k2⟩
      · show (us1 r v ++ usL rs t).Pairwise _
        rw [List.pairwise_append]
        refine ⟨?_, g2, fun u hu x hx b hb => ?_⟩
        · cases r <;> simp [us1]
        · intro hbx
          -- the row's own place
          cases r with
          | fresh e sz els =>
            simp [us1] at hu
            subst hu
            cases av with
            | pv y =>
              cases y with
              | nil s => simp only [RA, Rd] at h3; subst h3; cases hb
              | _ => exact h1.elim
            | own id =>
              obtain ⟨bl, f1, f2⟩ := nthK_iff _ _ _ h1
              simp only [RA] at h3
              cases bl with
              | row e' sz' ap els' =>
                rcases g1 x hx with rfl | ⟨id2, s2, k1, k2, k3, k4⟩
                · cases hbx
                · have hne : id ≠ id2 := fun e => k1 (e ▸ hs3 id rfl)
                  exact hr.dis id id2 _ _ _ _ b hne f1 k2 rfl k3 h3 k4 hb hbx
              | _ => exact f2.elim
            | _ => exact h1.elim
          | _ => simp [us1] at hu

theorem from_fresh (ho : ∀ b, cx.own b → cx.w0.heap.size ≤ b) (hr : RelS cx σ vals w') {u : Value} (h : From σ vals [] u) : ∀ b, blkOf u = some b → cx.w0.heap.size ≤ b := by
  intro b hb
  rcases h with rfl | ⟨id, s, _, h1, h2, h3⟩
  · cases hb
  · exact ho b ((hr.sto id s u h1 h3).block h2 hb).1

def packV : List Value → Value
  | [v] => v
  | vs => .tuple vs.toArray

def resVal (tmps : Array Value) : ResultVar → Sem Value
  | .tmp t => pure (tmps.getD t undef)
  | .cell a t => do loadVar t (← asAddr (tmps.getD a undef))

theorem results_run {fn : Func} {l : List ResultVar} (h : fn.results = l.toArray) (hl : l.length ≤ 4) (tmps : Array Value) (P : Program) (w : World) (vs : List Value) (hlen : vs.length = l.length)
    (hv : ∀ (i : Nat) (r : ResultVar) (v : Value), l[i]? = some r → vs[i]? = some v → (resVal tmps r).run P w = .ok v w) :
    (results fn tmps).run P w = .ok (packV vs) w := by
  have e : results fn tmps = (do
      let vs ← l.toArray.mapM (resVal tmps)
      pure (if h : vs.size = 1 then vs[0] else .tuple vs)) := by
    unfold results
    rw [h]
    congr 2
  rw [e]
  match l, vs, hl, hlen, hv with
  | [], [], _, _, hv => simp [packV]
  | [a], [x], _, _, hv =>
    have h0 := hv 0 a x rfl rfl
    simp [h0, packV]
  | [a, b], [x, y], _, _, hv =>
    have h0 := hv 0 a x rfl rfl
    have h1 := hv 1 b y rfl rfl
    simp [h0, h1, packV]
  | [a, b, c], [x, y, z], _, _, hv =>
    have h0 := hv 0 a x rfl rfl
    have h1 := hv 1 b y rfl rfl
    have h2 := hv 2 c z rfl rfl
    simp [h0, h1, h2, packV]
  | [a, b, c, d], [x, y, z, u], _, _, hv =>
    have h0 := hv 0 a x rfl rfl
    have h1 := hv 1 b y rfl rfl
    have h2 := hv 2 c z rfl rfl
    have h3 := hv 3 d u rfl rfl
    simp [h0, h1, h2, h3, packV]
  | _ :: _ :: _ :: _ :: _ :: _, _, hl, _, _ => simp at hl

theorem looks_spec (hr : Rel cx env σ vals a w') : ∀ (l : List ResultVar) (rs : List (Nat × Option (Bool × Nat))) (K : List AV → Prop), l.map (compR cx.P) = rs.map some → looksK σ env rs K →
    ∃ as vs, K as ∧ RAL (Ok cx σ vals w') σ vals w' as vs ∧ vs.length = l.length ∧ ∀ (i : Nat) (r : ResultVar) (v : Value), l[i]? = some r → vs[i]? = some v → (resVal a.tmps r).run cx.P w' = .ok v w' := by
  intro l
  induction l with
  | nil =>
    intro rs K hm h
    cases rs with
    | nil => exact ⟨[], [], h, by simp [RAL], rfl, fun i r v hr => by simp at hr⟩
    | cons p rs => simp at hm
  | cons r l ih =>
    intro rs K hm h
    cases rs with
    | nil => simp at hm
    | cons p rs =>
      simp only [List.map_cons, List.cons.injEq] at hm
      obtain ⟨hp, hm⟩ := hm
      have h := look_spec _ _ _ (show look p.1 (fun v => match p.2 with
        | none => looksK σ env rs fun l => K (v :: l)
        | some q => loadK σ q.1 q.2 v fun v => looksK σ env rs fun l => K (v :: l)) env from h)
      have fin : ∀ (av : AV) (v : Value), RA (Ok cx σ vals w') σ vals w' av v → (resVal a.tmps r).run cx.P w' = .ok v w' → (looksK σ env rs fun l => K (av :: l)) →
          ∃ as vs, K as ∧ RAL (Ok cx σ vals w') σ vals w' as vs ∧ vs.length = (r :: l).length ∧ ∀ (i : Nat) (r' : ResultVar) (v : Value), (r :: l)[i]? = some r' → vs[i]? = some v → (resVal a.tmps r').run cx.P w' = .ok v w' := by
        intro av v hav hrun hk
        obtain ⟨as, vs, h1, h2, h3, h4⟩ := ih rs _ hm hk
        refine ⟨av :: as, v :: vs, h1, by simp only [RAL]; exact ⟨v, vs, rfl, hav, h2⟩, by simp [h3], fun i r' v' hi hv => ?_⟩
        cases i with
        | zero => simp at hi hv; subst hi hv; exact hrun
        | succ i => exact h4 i r' v' (by simpa using hi) (by simpa using hv)
      cases r with
      | tmp t =>
        cases hp
        exact fin _ _ (hr.env t) (by simp [resVal]) h
      | cell s t =>
        obtain ⟨sh, hsh, hp⟩ := opt_some (show opt (shOf cx.P t) (fun q => match q.1 with
          | true => some (s, some (true, q.2))
          | false => some (s, some (false, 1))) = some p from hp)
        have hshape := shape_of hsh
        obtain ⟨ag, n⟩ := sh
        have main : ∀ m, p = (s, some (ag, m)) → m = (if ag then n else 1) → ∃ as vs, K as ∧ RAL (Ok cx σ vals w') σ vals w' as vs ∧ vs.length = (ResultVar.cell s t :: l).length ∧ ∀ (i : Nat) (r' : ResultVar) (v : Value), (ResultVar.cell s t :: l)[i]? = some r' → vs[i]? = some v → (resVal a.tmps r').run cx.P w' = .ok v w' := by
          intro m hpe hme
          subst hpe
          obtain ⟨b, off, us, av, hv, hl, hcells, hra, hk⟩ := load_spec hr.s ag m (hr.env s) h
          refine fin av _ hra ?_ hk
          have := run_load hshape b off us (by rw [hl, hme]) hcells
          simp only [resVal, hv, asAddr, Sem.run_bind, Sem.run_pure, Result.andThen_ok, this]
        cases ag with
        | true => cases hp; exact main n rfl rfl
        | false => cases hp; exact main 1 rfl rfl

theorem ret_sound (hown : ∀ b, cx.own b → cx.w0.heap.size ≤ b) (hr : Rel cx env σ vals a w') {as : List AV} {vs : List Value} (hral : RAL (Ok cx σ vals w') σ vals w' as vs) {lone : Bool} {K : RV → Prop} (h : retK lone σ as K) :
    ∃ r us, K r ∧ RR (OkR cx.okA lone cx.w0 w' us) (fun b => cx.w0.heap.size ≤ b) w' r (packV vs) us ∧
      (∀ u ∈ us, ∀ b, blkOf u = some b → cx.w0.heap.size ≤ b) ∧ ∀ (i j : Nat) (u t : Value) (b : Nat), i ≠ j → us[i]? = some u → us[j]? = some t → blkOf u = some b → blkOf t ≠ some b := by
  have pw : ∀ us : List Value, (us.Pairwise fun u t => ∀ b, blkOf u = some b → blkOf t ≠ some b) → ∀ (i j : Nat) (u t : Value) (b : Nat), i ≠ j → us[i]? = some u → us[j]? = some t → blkOf u = some b → blkOf t ≠ some b := by
    intro us hp i j u t b hij hu ht hb hbt
    rw [List.pairwise_iff_getElem] at hp
    obtain ⟨hi, rfl⟩ := List.getElem?_eq_some_iff.1 hu
    obtain ⟨hj, rfl⟩ := List.getElem?_eq_some_iff.1 ht
    rcases Nat.lt_or_gt_of_ne hij with hlt | hlt
    · exact hp i j hi hj hlt b hb hbt
    · exact hp j i hj hi hlt b hbt hb
  unfold retK at h
  cases ho : ownOnce as [] with
  | false => simp only [ho] at h
  | true =>
    simp only [ho] at h
    cases as with
    | nil =>
      simp only [RAL] at hral
      subst hral
      exact ⟨_, [], h, by simp [RR, RRL, packV], by simp, by simp⟩
    | cons av as =>
      simp only [RAL] at hral
      obtain ⟨v, t, rfl, h1, h2⟩ := hral
      cases as with
      | nil =>
        simp only [RAL] at h2
        subst h2
        obtain ⟨r, h3, h4, h5⟩ := h
        have h3' : retsK σ [av] [r] := ⟨h3, trivial⟩
        have hv' : RAL (Ok cx σ vals w') σ vals w' [av] [v] := by simp only [RAL]; exact ⟨v, [], rfl, h1, rfl⟩
        obtain ⟨g1, g2⟩ := usL_from hr.s _ _ _ [] h3' hv' ho
        have e : usL [r] [v] = us1 r v := by simp [usL]
        rw [e] at g1 g2
        exact ⟨r, us1 r v, h5, ret_item hown hr.s h3 h1 (fun el => by subst el; exact h4) g1, fun u hu => from_fresh hown hr.s (g1 u hu), pw _ g2⟩
      | cons bv as =>
        obtain ⟨rs', h3, h4, h5⟩ := h
        have hv' : RAL (Ok cx σ vals w') σ vals w' (av :: bv :: as) (v :: t) := by simp only [RAL] at h2 ⊢; exact ⟨v, t, rfl, h1, h2⟩
        obtain ⟨g1, g2⟩ := usL_from hr.s _ _ _ [] h3 hv' ho
        simp only [RAL] at h2
        obtain ⟨v2, t2, rfl, _, _⟩ := h2
        refine ⟨.tup rs', usL rs' (v :: v2 :: t2), h5, ?_, fun u hu => from_fresh hown hr.s (g1 u hu), pw _ g2⟩
        simp only [RR]
        exact ⟨_, rfl, ret_list hown hr.s g1 _ _ _ h3 hv' (fun el => by subst el; exact h4)⟩

/-- Contracts, each for its function. -/
noncomputable def ctxOf (l : List (Nat × Spec)) : Ctx := fun f =>
  List.rec (motive := fun _ => Spec) (mkS false false fun _ _ => False) (fun p _ ih => Bool.rec (motive := fun _ => Spec) ih p.2 (Nat.beq p.1 f)) l

theorem ctx_sound {P : Program} : ∀ (l : List (Nat × Spec)), (∀ p ∈ l, SoundAt P p.1 p.2) → Sound P (ctxOf l) := by
  intro l
  induction l with
  | nil => intro _ f; exact ⟨(by intro h; cases h), (by intro h; cases h), (fun _ _ _ _ _ _ _ _ h => (show False from h).elim), (fun _ _ _ _ _ _ _ _ h => (show False from h).elim), fun _ _ _ _ _ _ _ _ h => (by cases h)⟩
  | cons p l ih =>
    intro h f
    show SoundAt P f (Bool.rec (motive := fun _ => Spec) (ctxOf l f) p.2 (Nat.beq p.1 f))
    cases hb : Nat.beq p.1 f with
    | true =>
      have := Nat.eq_of_beq_eq_true hb
      subst this
      exact h p (by simp)
    | false => exact ih (fun q hq => h q (by simp [hq])) f

/-- A contract of one value that is reckoned out of the arguments. -/
def fnSpec (R : List PV → PV → Prop) : Spec := mkS true true fun ps K => ∃ x, R ps x ∧ K (.pv x)

/-- What 'fn' owes; and that nothing is yielded. -/
def FnOk (S : Spec) : Prop := (S.fn = true → S.lone = true ∧ ∀ ps K, S.run ps K → ∃ x, K (.pv x) ∧ ∀ K' : RV → Prop, K' (.pv x) → S.run ps K') ∧ (∀ ps L, ¬ S.iter ps L) ∧ S.mu = false

theorem fnSpec_ok (R : List PV → PV → Prop) : FnOk (fnSpec R) := ⟨fun _ => ⟨rfl, fun _ _ ⟨x, h1, h2⟩ => ⟨x, h2, fun _ h => ⟨x, h1, h⟩⟩⟩, fun _ _ h => h, rfl⟩
theorem mkS_ok (lone : Bool) (run : List PV → (RV → Prop) → Prop) : FnOk (mkS lone false run) := ⟨fun e => (by cases e), fun _ _ h => h, rfl⟩

theorem enters_own {P : Program} {f : FuncId} {fn : Func} {c : Code} (hf : P.funcs[f]? = some fn) (hname : (fn.name == "runtime.NumGoroutine") = false) (hb : fn.body = some c) : Enters P f := by
  intro args w
  simp [callFunc, hf, hb] at hname ⊢
  simp [hname]

/-- The settings of a call of a function. -/
structure CF (P : Program) (w0 : World) (ok own : Nat → Prop) (pS : List Blk) (pV : List Value) (cx : Cx) : Prop where
  hP : cx.P = P
  hw0 : cx.w0 = w0
  hown : cx.own = own
  hpS : cx.pinS = pS
  hpV : cx.pinV = pV
  hok : cx.okA = ok
  gh : ∀ x v, ¬ cx.gh x v
  lo : cx.lo = 0
  keep : ∀ b, cx.keep b → ∃ o : Obj, cx.w1.heap[b]? = some o ∧ o.isCells = false
  defers : ∀ d ∈ cx.defers, ∃ D, d = { target := .collected D, args := #[] } ∧ cx.keep D ∧ cx.w1.heap[D]? = some (.deferred (some [])) ∧ w0.heap.size ≤ D
  once : cx.defers.Pairwise (fun a b => a ≠ b)

theorem cf_wide (P : Program) (w0 : World) (ok own : Nat → Prop) (pS : List Blk) (pV : List Value) (hpl : pV.length = pS.length) : Wide P (List.range pS.length) (CF P w0 ok own pS pV) := by
  refine ⟨fun cx h => ⟨by rw [h.hpS], by rw [h.hpS, h.hpV]; exact hpl⟩, fun cx h => h.gh, fun cx h => h.lo, fun cx h => h.keep, fun cx w D hD hs h hk h0 h1 hK => ?_⟩
  refine ⟨h.hP, h.hw0, h.hown, h.hpS, h.hpV, h.hok, h.gh, h.lo, ?_, ?_, ?_⟩
  · rintro b (hb | rfl)
    · obtain ⟨o, ho, hc⟩ := h.keep b hb
      exact ⟨o, (hk b hb).trans ho, hc⟩
    · exact ⟨_, hK, rfl⟩
  · intro d hd
    rcases List.mem_cons.1 hd with rfl | hd
    · exact ⟨D, rfl, .inr rfl, hK, by rw [← h.hw0]; exact h0⟩
    · obtain ⟨D', h2, h3, h4, h5⟩ := h.defers d hd
      exact ⟨D', h2, .inl h3, (hk D' h3).trans h4, h5⟩
  · refine List.Pairwise.cons (fun d hd e => ?_) h.once
    obtain ⟨D', h2, h3, _, _⟩ := h.defers d hd
    rw [h2] at e
    have : D = D' := by injection e with e1 _; injection e1
    have := cx.hk D' h3
    omega

theorem leaves {P : Program} {fn : Func} {m : Nat} {R : Ending → World → Prop} {env : Env} {σ : Sto} {vals : List Value} {tmps : Array Value} (fin : ∀ w, Rel cx env σ vals ⟨tmps, []⟩ w → ∃ v, (results fn tmps).run P w = .ok v w ∧ R (.returned v) w) (hk : ∀ b, ¬ cx.keep b) (hw1 : cx.w1.heap.size ≤ cx.w0.heap.size) :
    ∀ (ds : List Deferred) (w : World), (∀ d ∈ ds, ∃ D, d = { target := .collected D, args := #[] } ∧ w.heap[D]? = some (.deferred (some [])) ∧ cx.w0.heap.size ≤ D) → ds.Pairwise (fun a b => a ≠ b) → Rel cx env σ vals ⟨tmps, []⟩ w → LeavesInM Fence.wide m P fn tmps R ds .returning w := by
  intro ds
  induction ds with
  | nil => intro w _ _ hr; exact fin w hr
  | cons d ds ih =>
    intro w hd hp hr
    obtain ⟨D, rfl, hK, h0⟩ := hd d (by simp)
    rw [List.pairwise_cons] at hp
    refine ⟨by simp, .inl ⟨D, _, rfl, run_takeDeferred hK, ih _ (fun d' hd' => ?_) hp.2 (rel_other hr (grownBy_putObj' w D (.deferred none)) (fun r e => by cases e; exact ⟨cx.hown _ h0, Nat.le_trans hw1 h0, _, hK, rfl⟩))⟩⟩
    obtain ⟨D', rfl, hK', h0'⟩ := hd d' (by simp [hd'])
    refine ⟨D', rfl, (World.putObj_heap_other (fun e => ?_)).trans hK', h0'⟩
    exact hp.1 _ hd' (by rw [e])

theorem meets_sound {P : Program} {f : Nat} {fn : Func} {c : Code} {pc : PC} {Γ : Ctx} {ps : List Nat} {rs : List (Nat × Option (Bool × Nat))} {S : Spec} (hΓ : Sound P Γ) (hm : P.follows .mixedOrders = true) (hf : P.funcs[f]? = some fn) (hname : (fn.name == "runtime.NumGoroutine") = false) (hb : fn.body = some c)
    (hc : compC P fn.ntmps c = some (strip pc)) {l : List ResultVar} (hres : fn.results = l.toArray) (hrs : l.map (compR P) = rs.map some) (hl : l.length ≤ 4) (hS : FnOk S) (nargs : Nat) (hn : nargs ≤ fn.ntmps) (hargs : ∀ args K, S.run args K → args.length = nargs) (h : Meets Γ ps pc rs S) : SoundAt P f S := by
  refine ⟨fun e => (hS.1 e).2, fun e => ⟨(hS.1 e).1, hS.2.2⟩, ?_, fun _ _ _ _ _ _ _ _ h => absurd h (hS.2.1 _ _), fun _ _ _ _ _ _ _ _ h => by rw [hS.2.2] at h; cases h⟩
  intro w ok args vs K _ hok hrd hrun
  refine ⟨enters_own hf hname hb, ?_⟩
  have hlen : vs.size = args.length := by simpa using hrd.length
  have hle : args.length ≤ fn.ntmps := by rw [hargs args K hrun]; exact hn
  obtain ⟨env, henv, hlook⟩ := argEnv_spec args 0 _ (h args K hrun)
  let cx : Cx := { P := P, w0 := w, okA := ok, hA := hok }
  let a : Act := { tmps := vs ++ Array.replicate (fn.ntmps - vs.size) undef, defers := [] }
  have hokc : ∀ b, ok b → Ok cx [] [] w b := fun b hb => ⟨.inl hb, hok b hb, fun ⟨i, s, v, hi, _⟩ => by simp at hi⟩
  have hr : Rel cx env [] [] a w := by
    refine ⟨⟨Since.refl _ _, by simp, rfl, fun i s v hi => by simp at hi, fun i j s t u v b _ hi => by simp at hi, ⟨Nat.le_refl _, fun b hb => hb.elim, fun _ _ hb => hb⟩, ⟨fun i v h => by simp [cx] at h, by simp [cx], fun i hi => by simp [cx] at hi, fun i hi => by simp [cx] at hi⟩⟩, fun p => ?_, rfl, fun x v hg => hg.elim, fun p hp => absurd hp (Nat.not_lt_zero p)⟩
    rw [hlook p]
    simp only [Nat.zero_le, if_true, Nat.sub_zero]
    cases hx : args[p]? with
    | none => simp only [RA]
    | some x =>
      simp only [RA]
      have hp : p < args.length := (List.getElem?_eq_some_iff.1 hx).1
      have hval : a.tmps.getD p undef = vs[p]'(by omega) := by
        rw [getD_eq]
        show ((vs ++ Array.replicate (fn.ntmps - vs.size) undef)[p]?).getD undef = _
        rw [Array.getElem?_append_left (by omega), Array.getElem?_eq_getElem (by omega)]; rfl
      rw [hval]
      exact Rd.mono hokc (fun _ _ _ => rfl) x _ (((rdL_iff args _).1 hrd).2 p x _ hx (by simp [show p < vs.size from by omega]))
  have hC : CF P w ok (fun b => w.heap.size ≤ b) [] [] cx := ⟨rfl, rfl, rfl, rfl, rfl, rfl, fun _ _ h => h, rfl, fun b h => h.elim, fun d hd => (by cases hd), List.Pairwise.nil⟩
  have hwp := code_sound (ps := ps) hΓ hm c pc hc (CF P w ok (fun b => w.heap.size ≤ b) [] []) Fence.wide 1 cx (endQ S.lone rs K) env [] [] a w (.inr ⟨rfl, Nat.le_refl _, cf_wide P w ok _ [] [] rfl, fun cx h => h.hP⟩) (.inl fun cx h => h.lo) (.inl rfl) hC (fun cx h => h.hP) (same_endQ _ _ _) (by simp [a]; omega) hr henv
  refine (callsIn_wide (n := 1)).1 (callsIn_of_wp_marks hf hb trivial (wpIn_mono hwp ?_))
  have fin : ∀ a' w', (∃ cx env σ vals, CF P w ok (fun b => w.heap.size ≤ b) [] [] cx ∧ a'.tmps.size = fn.ntmps ∧ Rel cx env σ vals a' w' ∧ looksK σ env rs fun as => retK S.lone σ as K) → LeavesInM Fence.wide 1 P fn a'.tmps (fun e w' => ∃ v' r us, e = .returned v' ∧ K r ∧ Below w.heap.size w w' ∧ RR (OkR ok S.lone w w' us) (fun b => w.heap.size ≤ b) w' r v' us ∧
      (∀ u ∈ us, ∀ b, blkOf u = some b → w.heap.size ≤ b) ∧ ∀ (i j : Nat) (u t : Value) (b : Nat), i ≠ j → us[i]? = some u → us[j]? = some t → blkOf u = some b → blkOf t ≠ some b) a'.defers .returning w' := by
    rintro a' w' ⟨cx', env', σ', vals', hC', hn', hr', hk⟩
    let cxE : Cx := { P := P, w0 := w, okA := ok, hA := hok }
    obtain ⟨P', w0', ok', hA', w1', keep', hk', defers', gh', lo', base', own', hown', pS', pV'⟩ := cx'
    obtain ⟨rfl, hw0', hown'', rfl, rfl, rfl, hgh, hlo, hkp, hdf, honce⟩ := hC'
    have hw2 : w0' = w := hw0'
    subst hw2
    have hown2 : own' = fun b => w0'.heap.size ≤ b := hown''
    subst hown2
    have hrE : Rel cxE env' σ' vals' ⟨a'.tmps, []⟩ w' := ⟨⟨hr'.s.below, hr'.s.one, hr'.s.len, hr'.s.sto, hr'.s.dis, ⟨hr'.s.below.size, fun b hb => hb.elim, fun _ _ hb => hb⟩, ⟨hr'.s.pin.vs, hr'.s.pin.len, hr'.s.pin.refr, hr'.s.pin.refb⟩⟩, hr'.env, rfl, fun x v hg => hg.elim, fun p hp => absurd hp (Nat.not_lt_zero p)⟩
    refine leaves (cx := cxE) ?_ (fun _ h => h) (Nat.le_refl _) a'.defers w' ?_ ?_ hrE
    · intro w2 hr2
      obtain ⟨as, vs', hk, hral, hlen', hrun'⟩ := looks_spec hr2 l rs _ hrs hk
      obtain ⟨r, us, h1, h2, h3, h4⟩ := ret_sound (fun _ h => h) hr2 hral hk
      exact ⟨_, results_run hres hl _ _ w2 vs' hlen' hrun', _, r, us, rfl, h1, hr2.s.below.to_below (fun _ h => h), h2, h3, h4⟩
    · intro d hd
      rw [hr'.defers] at hd
      obtain ⟨D, h2, h3, h4, h5⟩ := hdf d hd
      exact ⟨D, h2, (hr'.s.fr.same D h3).trans h4, h5⟩
    · rw [hr'.defers]; exact honce
  intro e a' w' hp
  cases e with
  | normal => exact fin a' w' hp
  | ret => exact fin a' w' hp
  | exit i =>
    obtain ⟨_, _, _, _, _, _, _, hk⟩ := hp
    exact (show False from hk).elim
  | _ => exact hp.elim
end
end Go.Dv
end
section
/-
  A function that writes what it is handed and whose condition holds keeps its contract in the model.
-/
set_option linter.unusedSimpArgs false
namespace Go.Dv
open Go.RowKit

theorem range_from (n : Nat) : ∀ m, (List.range (m + 1)).map (· + n) = n :: (List.range m).map (· + (n + 1)) := by
  intro m
  rw [List.range_succ_eq_map, List.map_cons, List.map_map]
  congr 1
  · omega
  · apply List.map_congr_left
    intro x _
    simp only [Function.comp]
    omega

theorem pinK_spec (σ : Sto) : ∀ (n : Nat) (K : List Nat → Prop), pinK σ n K → K ((List.range σ.length).map (· + n)) := by
  induction σ with
  | nil => intro n K h; exact h
  | cons s σ ih =>
    intro n K h
    have := ih (n + 1) (fun t => K (n :: t)) h
    rw [List.length_cons, range_from]
    exact this

theorem argEnvA_spec (l : List AV) : ∀ (n : Nat) (K : Env → Prop), argEnvA l n K → ∃ env, K env ∧ ∀ p, lookF p env = if n ≤ p then (l[p - n]?).getD .bad else .bad := by
  induction l with
  | nil => intro n K h; exact ⟨[], h, fun p => by simp [lookF]⟩
  | cons x l ih =>
    intro n K h
    obtain ⟨env, h1, h2⟩ := ih (n + 1) _ h
    refine ⟨_, h1, fun p => ?_⟩
    show (bif Nat.beq n p then x else lookF p env) = _
    by_cases hp : n = p
    · subst hp; simp
    · rw [nbeq hp, cond_false, h2 p]
      by_cases hlt : n ≤ p
      · rw [if_pos (show n + 1 ≤ p by omega), if_pos hlt]
        have : p - n = (p - (n + 1)) + 1 := by omega
        rw [this]; rfl
      · rw [if_neg (by omega), if_neg hlt]

theorem same_endM (pin : List Nat) (rs : List (Nat × Option (Bool × Nat))) (K : AV → Sto → Prop) : ∀ e, Same (endM pin rs K e) := by
  intro e env env' σ h
  cases e with
  | normal => exact looksK_same h σ rs _
  | ret => exact looksK_same h σ rs _
  | exit i => rfl

theorem raL_iff {ok : Nat → Prop} {σ : Sto} {vals : List Value} {w : World} (cs : List AV) : ∀ vs : List Value, RAL ok σ vals w cs vs → vs.length = cs.length ∧ ∀ (j : Nat) (c : AV) (v : Value), cs[j]? = some c → vs[j]? = some v → RA ok σ vals w c v := by
  induction cs with
  | nil => intro vs h; simp only [RAL] at h; subst h; exact ⟨rfl, fun j c v hc => by simp at hc⟩
  | cons c cs ih =>
    intro vs h
    simp only [RAL] at h
    obtain ⟨v, t, rfl, h1, h2⟩ := h
    obtain ⟨h3, h4⟩ := ih t h2
    refine ⟨by simp [h3], fun j c' v' hc hv => ?_⟩
    cases j with
    | zero => simp at hc hv; subst hc hv; exact h1
    | succ j => exact h4 j c' v' (by simpa using hc) (by simpa using hv)

theorem packA_ra {ok : Nat → Prop} {σ : Sto} {vals : List Value} {w : World} {as : List AV} {vs : List Value} (h : RAL ok σ vals w as vs) : RA ok σ vals w (packA as) (packV vs) := by
  have tup : RA ok σ vals w (.tup as) (.tuple vs.toArray) := by
    simp only [RA]; exact ⟨_, rfl, by simpa using h⟩
  cases as with
  | nil =>
    have h' := h
    simp only [RAL] at h'
    subst h'
    exact tup
  | cons a as =>
    have h' := h
    simp only [RAL] at h'
    obtain ⟨v, t, rfl, h1, h2⟩ := h'
    cases as with
    | nil => simp only [RAL] at h2; subst h2; exact h1
    | cons b as =>
      simp only [RAL] at h2
      obtain ⟨v2, t2, rfl, _, _⟩ := h2
      exact tup

section
variable {cx : Cx} {env : Env} {σ : Sto} {vals : List Value} {a : Act} {w' : World}

theorem meetsM_sound {P : Program} {f : Nat} {fn : Func} {c : Code} {pc : PC} {Γ : Ctx} {ps : List Nat} {rs : List (Nat × Option (Bool × Nat))} {mrun : List AV → Sto → (AV → Sto → Prop) → Prop} (hΓ : Sound P Γ) (hm : P.follows .mixedOrders = true) (hf : P.funcs[f]? = some fn) (hname : (fn.name == "runtime.NumGoroutine") = false) (hb : fn.body = some c)
    (hc : compC P fn.ntmps c = some (strip pc)) {l : List ResultVar} (hres : fn.results = l.toArray) (hrs : l.map (compR P) = rs.map some) (hl : l.length ≤ 4) (nargs : Nat) (hn : nargs ≤ fn.ntmps) (hargs : ∀ as σ K, mrun as σ K → as.length = nargs) (h : MeetsM Γ ps pc rs (mkM mrun)) : SoundAt P f (mkM mrun) := by
  refine ⟨fun e => (by cases e), fun e => (by cases e), fun _ _ _ _ _ e => (by cases e), fun _ _ _ _ _ _ _ _ h => (show False from h).elim, ?_⟩
  intro w ok hok σ0 vals0 as vs K _ hrel hral hrun
  refine ⟨enters_own hf hname hb, ?_⟩
  have hlen : vs.size = as.length := by simpa using hral.length
  have hle : as.length ≤ fn.ntmps := by rw [hargs as σ0 K hrun]; exact hn
  obtain ⟨env, henv, hlook⟩ := argEnvA_spec as 0 _ (h as σ0 K hrun)
  have henv := pinK_spec σ0 0 _ henv
  simp only [Nat.add_zero, List.map_id'] at henv
  have hpl : vals0.length = σ0.length := hrel.len
  let cx : Cx := mcx P w ok hok σ0 vals0
  let own : Nat → Prop := fun b => w.heap.size ≤ b ∨ Mut σ0 vals0 b
  let a : Act := { tmps := vs ++ Array.replicate (fn.ntmps - vs.size) undef, defers := [] }
  have hr : Rel cx env σ0 vals0 a w := by
    refine ⟨hrel, fun p => ?_, rfl, fun x v hg => hg.elim, fun p hp => absurd hp (Nat.not_lt_zero p)⟩
    rw [hlook p]
    simp only [Nat.zero_le, if_true, Nat.sub_zero]
    cases hx : as[p]? with
    | none => simp only [Option.getD_none, RA]
    | some x =>
      simp only [Option.getD_some]
      have hp : p < as.length := (List.getElem?_eq_some_iff.1 hx).1
      have hval : a.tmps.getD p undef = vs[p]'(by omega) := by
        rw [getD_eq]
        show ((vs ++ Array.replicate (fn.ntmps - vs.size) undef)[p]?).getD undef = _
        rw [Array.getElem?_append_left (by omega), Array.getElem?_eq_getElem (by omega)]; rfl
      rw [hval]
      exact (raL_iff as _ hral).2 p x _ hx (by simp [show p < vs.size from by omega])
  have hC : CF P w ok own σ0 vals0 cx := ⟨rfl, rfl, rfl, rfl, rfl, rfl, fun _ _ h => h, rfl, fun b h => h.elim, fun d hd => (by cases hd), List.Pairwise.nil⟩
  have hwp := code_sound (ps := ps) hΓ hm c pc hc (CF P w ok own σ0 vals0) Fence.wide 1 cx (endM (List.range σ0.length) rs K) env σ0 vals0 a w (.inr ⟨rfl, Nat.le_refl _, cf_wide P w ok own σ0 vals0 hpl, fun cx h => h.hP⟩) (.inl fun cx h => h.lo) (.inl rfl) hC (fun cx h => h.hP) (same_endM _ _ _) (by simp [a]; omega) hr henv
  refine (callsIn_wide (n := 1)).1 (callsIn_of_wp_marks hf hb trivial (wpIn_mono hwp ?_))
  have fin : ∀ a' w', (∃ cx env σ vals, CF P w ok own σ0 vals0 cx ∧ a'.tmps.size = fn.ntmps ∧ Rel cx env σ vals a' w' ∧ looksK σ env rs fun as => idsAVs as (List.range σ0.length) fun l => idsBox σ l l fun r => renAVs r as fun as => renSto σ r r fun σ => K (packA as) σ) →
      LeavesInM Fence.wide 1 P fn a'.tmps (fun e w' => ∃ v res σ1 vals1, e = .returned v ∧ K res σ1 ∧ RelS (mcx P w ok hok σ0 vals0) σ1 vals1 w' ∧ RA (Ok (mcx P w ok hok σ0 vals0) σ1 vals1 w') σ1 vals1 w' res v) a'.defers .returning w' := by
    rintro a' w' ⟨cx', env', σ', vals', hC', hn', hr', hk⟩
    obtain ⟨P', w0', ok', hA', w1', keep', hk', defers', gh', lo', base', own', hown', pS', pV'⟩ := cx'
    obtain ⟨rfl, hw0', hown'', hpS', hpV', hok', hgh, hlo, hkp, hdf, honce⟩ := hC'
    have hw2 : w0' = w := hw0'
    subst hw2
    have hown2 : own' = own := hown''
    subst hown2
    have hp2 : pS' = σ0 := hpS'
    subst hp2
    have hp3 : pV' = vals0 := hpV'
    subst hp3
    have hok2 : ok' = ok := hok'
    subst hok2
    let cxE : Cx := mcx P' w0' ok' hok pS' pV'
    have hrE : Rel cxE env' σ' vals' ⟨a'.tmps, []⟩ w' := ⟨⟨hr'.s.below, hr'.s.one, hr'.s.len, hr'.s.sto, hr'.s.dis, ⟨hr'.s.below.size, fun b hb => hb.elim, fun _ _ hb => hb⟩, ⟨hr'.s.pin.vs, hr'.s.pin.len, hr'.s.pin.refr, hr'.s.pin.refb⟩⟩, hr'.env, rfl, fun x v hg => hg.elim, fun p hp => absurd hp (Nat.not_lt_zero p)⟩
    refine leaves (cx := cxE) ?_ (fun _ h => h) (Nat.le_refl _) a'.defers w' ?_ ?_ hrE
    · intro w2 hr2
      obtain ⟨as, vs', hk, hral, hlen', hrun'⟩ := looks_spec hr2 l rs _ hrs hk
      obtain ⟨l1, hk, hl1, hp1⟩ := idsAVs_spec as _ _ List.nodup_range hk
      obtain ⟨r, hk, hrn, hp2⟩ := idsBox_spec σ' l1 l1 _ hl1 hk
      obtain ⟨as', hk, has⟩ := renAVs_spec r as _ hk
      obtain ⟨σ2, hk, h1, h2⟩ := renSto_spec σ' r r _ hk
      obtain ⟨vals2, hA, hs2, hok2⟩ := ren_rel (cx := cxE) ⟨rfl, hpl⟩ (hp1.trans hp2) hrn h1 h2 hr2.s
      exact ⟨_, results_run hres hl _ _ w2 vs' hlen' hrun', _, _, σ2, vals2, rfl, hk, hs2, packA_ra (RenL.ra hA hok2 _ _ _ has hral)⟩
    · intro d hd
      rw [hr'.defers] at hd
      obtain ⟨D, h2, h3, h4, h5⟩ := hdf d hd
      exact ⟨D, h2, (hr'.s.fr.same D h3).trans h4, h5⟩
    · rw [hr'.defers]; exact honce
  intro e a' w' hp
  cases e with
  | normal => exact fin a' w' hp
  | ret => exact fin a' w' hp
  | exit i =>
    obtain ⟨_, _, _, _, _, _, _, hk⟩ := hp
    exact (show False from hk).elim
  | _ => exact hp.elim
end
end Go.Dv
end
section
/-
  Steps of a proof of 'Meets', each a small lemma that is applied.
-/
namespace Go.Dv

theorem wrap64 {n : Int} (h : -9223372036854775808 ≤ n ∧ n ≤ 9223372036854775807) : IntKind.i64.wrap n = n := by
  have hb : IntKind.i64.bits = 64 := rfl
  simp only [IntKind.wrap, IntKind.signed, hb]
  have : (2 : Int) ^ 64 = 18446744073709551616 := by decide
  have : (2 : Int) ^ (64 - 1) = 9223372036854775808 := by decide
  simp_all
  omega

theorem n64 {r n : Int} (hr : r = IntKind.i64.wrap n) (h : -9223372036854775808 ≤ n ∧ n ≤ 9223372036854775807) : r = n := hr.trans (wrap64 h)

theorem cmp {b : Bool} {p : Prop} (h : b = true ↔ p) : (b = true ∧ p) ∨ (b = false ∧ ¬ p) := by
  cases b with
  | true => exact .inl ⟨rfl, h.1 rfl⟩
  | false => exact .inr ⟨rfl, fun hp => by have := h.2 hp; cases this⟩

theorem N64 {n : Int} {K : Int → Prop} (h : -9223372036854775808 ≤ n ∧ n ≤ 9223372036854775807) (k : K n) : ∀ r : Int, r = IntKind.i64.wrap n → K r := fun r hr => by
  rw [n64 hr h]; exact k

theorem CMP {p : Prop} {K : Bool → Prop} (ht : p → K true) (hf : ¬ p → K false) : ∀ b : Bool, (b = true ↔ p) → K b := fun b hb => by
  cases b with
  | true => exact ht (hb.1 rfl)
  | false => exact hf fun hp => by have := hb.2 hp; cases this

theorem EQI {n : Int} {K : Int → Prop} (k : K n) : ∀ r : Int, r = n → K r := fun r hr => by subst hr; exact k

theorem ctx_nil {P : Program} : Sound P (ctxOf []) := ctx_sound [] (fun _ h => by cases h)
theorem ctx_cons {P : Program} {f : Nat} {S : Spec} {l : List (Nat × Spec)} (h : SoundAt P f S) (ht : Sound P (ctxOf l)) : Sound P (ctxOf ((f, S) :: l)) := by
  intro g
  show SoundAt P g (Bool.rec (motive := fun _ => Spec) (ctxOf l g) S (Nat.beq f g))
  cases hb : Nat.beq f g with
  | true =>
    have := Nat.eq_of_beq_eq_true hb
    subst this
    exact h
  | false => exact ht g
end Go.Dv
end
section
/-
  What a law's statement asks, out of the contract of its function: it returns true, and each argument reads behind the call as it read before.
-/
namespace Go.Dv
open Go Go.ChangeShapes Go.WideShapes Go.ChangeAt Go.RowKit

/-- A call of a function whose contract ends in true. -/
theorem calls_true {P : Program} {f : FuncId} {S : Spec} (h : SoundAt P f S) (hmu : S.mu = false) {W : World} {args : Array Value} {ps : List PV} (hrd : RdL (fun b => b < W.heap.size) W ps args.toList) (hrun : S.run ps fun r => r = .pv (.bool true)) :
    Calls P f args W fun e w' => e = .returned (.bool true) ∧ Below W.heap.size W w' := by
  refine (h.2.2.1 W (fun b => b < W.heap.size) ps args _ hmu (fun _ hb => hb) hrd hrun).2.mono fun e w' he => ?_
  obtain ⟨v, r, us, rfl, rfl, hb, hr, _⟩ := he
  simp only [RR, Rd] at hr
  exact ⟨by rw [hr.1], hb⟩

theorem trodAll_below {H : Type} {enc : TypeId × Value → H} {P : Program} (hl : laidOutB P = true) {W W' : World} (hb : Below W.heap.size W W') : ∀ (ts : List TypeId) (vs : List Value) (ds : List (DataW H)) (ps : List MemPlace),
    (∀ t ∈ ts, P.readableRec t = true ∧ t < P.types.size) → DataW.TrodAll enc P W 0 (fun _ => true) true ts vs ds ps → (∀ x ∈ ps, x.block < W.heap.size) → DataW.TrodAll enc P W' 0 (fun b => decide (b < W.heap.size)) true ts vs ds ps := by
  intro ts
  induction ts with
  | nil =>
    intro vs ds ps _ h _
    obtain ⟨rfl, rfl, rfl⟩ := trodAll_nil h
    exact trodAll_mk0
  | cons t ts ih =>
    intro vs ds ps ht h hlt
    obtain ⟨v, vs', d, ds', p, q, rfl, rfl, rfl, h1, h2⟩ := trodAll_cons h
    exact ⟨p, q, Below.trod hl (ht t (by simp)).1 (ht t (by simp)).2 h1 hb (fun x hx => hlt x (by simp [hx])), ih _ _ _ (fun t' h' => ht t' (by simp [h'])) h2 (fun x hx => hlt x (by simp [hx])), rfl⟩

/-- What the row asks behind the call. -/
theorem post_true {H : Type} {enc : TypeId × Value → H} {P : Program} (hl : laidOutB P = true) {f : Func} {s : ChangeSpec} {apart fresh handsOn : Bool} {W W' : World} {args : Array Value} {ds gs : List (DataW H)} {before : List MemPlace} {tb : TypeId}
    (hts : ∀ t ∈ f.params.toList, P.readableRec t = true ∧ t < P.types.size) (hrt : f.resultTypes = #[tb]) (hub : P.underlying tb = some .bool) (hvars : s.vars = [])
    (hfn : s.fn H (ds ++ gs) = { results := [.lit (.bool true)], args := ds })
    (hW : DataW.Whole enc P f.params.toList s.vars apart W args.toList ds gs before) (hb : Below W.heap.size W W') :
    s.post enc P f apart fresh handsOn false W args (.bool true) W' := by
  have hlt := hW.lt
  have hW' := hW
  obtain ⟨p, q, hA, hV, rfl, _, _⟩ := hW
  rw [hvars] at hV
  obtain ⟨rfl, rfl⟩ := trodVars_none hV
  refine ⟨ds, [], p ++ [], [], p, [], hW', ?_, ?_, ?_, Below.frame hb _, fun h => by cases h⟩
  · rw [hfn, hrt]
    exact trodAll_cons_mk (shut_bool hub _) trodAll_mk0
  · rw [hfn]
    exact trodAll_below hl hb _ _ _ _ hts hA (fun x hx => by simpa using hlt x (by simpa using hx))
  · rw [hfn, hvars]
    simp [DataW.TrodVars]
end Go.Dv
end
