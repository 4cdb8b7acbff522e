/-
  A part of the proof: own texts, laid together by a tool of our own: L06 F06n F06o F06p F06q F06r P06g F06s F06t F06u F06v P06h F06w F06x F06y F06z G06a.
-/
import Derived.Shelf.Strings.Builder1
import Derived.Shelf.Strings.Repeat
import Derived.Test.YtklihepoaoceoaaCd
import Derived.Test.YtklihepoaoceoaaWalks1
import Derived.Test.YtklihepoaoceoaaDv4
section
/-
  Contracts of the library's functions, out of the shelf: strings.Repeat, strings.Builder.
-/
namespace Go.Proofs
def Try.lays105_ren : Go.Shelf.Ren := ⟨fun | 105 => 40 | 212 => 67 | 99 => 68 | 165 => 69 | 166 => 53 | 170 => 54 | 169 => 55 | 263 => 82 | 264 => 83 | 206 => 84 | 240 => 74 | 241 => 85 | 276 => 88 | 277 => 95 | n => n, fun | 9 => 9 | 3 => 3 | 4 => 4 | 20 => 20 | 0 => 0 | 46 => 107 | 109 => 108 | 5 => 5 | 72 => 81 | 76 => 90 | 51 => 122 | 146 => 123 | 53 => 125 | 148 => 126 | 70 => 79 | 37 => 52 | 75 => 88 | 127 => 113 | 164 => 130 | 80 => 93 | n => n, fun | n => n⟩
theorem Try.lays105 : Go.Proofs.Lays.n105 Try.prog Try.lays105_ren := {
  mixed := by kernel_rfl
  f99 := Try.func68.trans (congrArg some (by kernel_rfl))
  f105 := Try.func40.trans (congrArg some (by kernel_rfl))
  f165 := Try.func69.trans (congrArg some (by kernel_rfl))
  f166 := Try.func53.trans (congrArg some (by kernel_rfl))
  f169 := Try.func55.trans (congrArg some (by kernel_rfl))
  f170 := Try.func54.trans (congrArg some (by kernel_rfl))
  f206 := Try.func84.trans (congrArg some (by kernel_rfl))
  f212 := Try.func67.trans (congrArg some (by kernel_rfl))
  f240 := Try.func74.trans (congrArg some (by kernel_rfl))
  f241 := Try.func85.trans (congrArg some (by kernel_rfl))
  f263 := Try.func82.trans (congrArg some (by kernel_rfl))
  f264 := Try.func83.trans (congrArg some (by kernel_rfl))
  f276 := Try.func88.trans (congrArg some (by kernel_rfl))
  f277 := Try.func95.trans (congrArg some (by kernel_rfl))
  t0 := Try.underlying0
  a0 := Try.isAgg0
  z0 := Try.sizeOf0
  v0 := Try.zeroValue0
  t3 := Try.underlying3
  a3 := Try.isAgg3
  z3 := Try.sizeOf3
  v3 := Try.zeroValue3
  t4 := Try.underlying4
  a4 := Try.isAgg4
  z4 := Try.sizeOf4
  v4 := Try.zeroValue4
  t5 := Try.underlying5
  a5 := Try.isAgg5
  z5 := Try.sizeOf5
  v5 := Try.zeroValue5
  t9 := Try.underlying9
  a9 := Try.isAgg9
  z9 := Try.sizeOf9
  v9 := Try.zeroValue9
  t20 := Try.underlying20
  a20 := Try.isAgg20
  z20 := Try.sizeOf20
  v20 := Try.zeroValue20
  t37 := Try.underlying52
  a37 := Try.isAgg52
  z37 := Try.sizeOf52
  v37 := Try.zeroValue52
  t46 := Try.underlying107
  a46 := Try.isAgg107
  z46 := Try.sizeOf107
  v46 := Try.zeroValue107
  t51 := Try.underlying122
  a51 := Try.isAgg122
  z51 := Try.sizeOf122
  v51 := Try.zeroValue122
  t53 := Try.underlying125
  a53 := Try.isAgg125
  z53 := Try.sizeOf125
  v53 := Try.zeroValue125
  t70 := Try.underlying79
  a70 := Try.isAgg79
  z70 := Try.sizeOf79
  v70 := Try.zeroValue79
  t72 := Try.underlying81
  a72 := Try.isAgg81
  z72 := Try.sizeOf81
  v72 := Try.zeroValue81
  t75 := Try.underlying88
  a75 := Try.isAgg88
  z75 := Try.sizeOf88
  v75 := Try.zeroValue88
  t76 := Try.underlying90
  a76 := Try.isAgg90
  z76 := Try.sizeOf90
  v76 := Try.zeroValue90
  t109 := Try.underlying108
  a109 := Try.isAgg108
  z109 := Try.sizeOf108
  v109 := Try.zeroValue108
  t127 := Try.underlying113
  a127 := Try.isAgg113
  z127 := Try.sizeOf113
  v127 := Try.zeroValue113
  t146 := Try.underlying123
  a146 := Try.isAgg123
  z146 := Try.sizeOf123
  v146 := Try.zeroValue123
  t148 := Try.underlying126
  a148 := Try.isAgg126
  z148 := Try.sizeOf126
  v148 := Try.zeroValue126
  t164 := Try.underlying130
  a164 := Try.isAgg130
  z164 := Try.sizeOf130
  v164 := Try.zeroValue130 }
theorem Try.Builder_Extra_105 : Builder.Extra Try.prog Try.lays105_ren := {
  sizeBuilder := by kernel_rfl
  liesBuilder := by kernel_rfl
  t5 := Try.underlying5
  a5 := Try.isAgg5
  z5 := Try.sizeOf5
  v5 := Try.zeroValue5
  infoByte := by kernel_rfl
  cellsByte := by kernel_rfl
  sizeByte := by kernel_rfl
  neB5 := by decide }
end Go.Proofs
namespace Go.Dv.Try
open Go Go.Dv Go.RowKit

def repN (l : List UInt8) : Nat → List UInt8
  | 0 => []
  | c + 1 => l ++ repN l c
theorem repN_eq (l : List UInt8) : ∀ c, Lib.repeatL l c = repN l c
  | 0 => rfl
  | c + 1 => by simp only [Lib.repeatL, repN, repN_eq l c]

/-- What a function owes that turns nothing and gives one value without addresses. -/
theorem at_flat {P : Program} {f : FuncId} (R : List PV → PV → Prop) (hent : Enters P f) (hflat : ∀ ps x, R ps x → x.flat) (h : ∀ (w : World) (ok : Nat → Prop) (ps : List PV) (x : PV) (vs : Array Value), RdL ok w ps vs.toList → R ps x → Calls P f vs w fun e w' => ∃ v, e = .returned v ∧ Rd (fun _ => False) w' x v ∧ Below w.heap.size w w') : SoundAt P f (fnSpec R) := by
  refine ⟨fun e => ((fnSpec_ok R).1 e).2, fun _ => ⟨rfl, rfl⟩, ?_, fun _ _ _ _ _ _ _ _ h => (show False from h).elim, fun _ _ _ _ _ _ _ _ e => (by cases e)⟩
  rintro w ok ps vs K _ hok hrd ⟨x, hx, hK⟩
  refine ⟨hent, (h w ok ps x vs hrd hx).mono ?_⟩
  rintro e w' ⟨v, rfl, h1, h2⟩
  exact ⟨v, .pv x, [], rfl, hK, h2, by simp only [RR]; exact ⟨rd_flat (hflat ps x hx) h1, trivial⟩, by simp, fun i j u t b _ hu => by simp at hu⟩

def R_Repeat (ps : List PV) (x : PV) : Prop := ∃ (l : List UInt8) (c : Int), ps = [.str l, .int .i64 c] ∧ (0 ≤ c ∧ c ≤ 1000000 ∧ l.length ≤ 1000000) ∧ x = .str (repN l c.toNat)
theorem at_Repeat : SoundAt Go.Proofs.Try.prog n_strings_Repeat (fnSpec R_Repeat) := by
  refine at_flat R_Repeat (Go.Proofs.enters_of Go.Proofs.Try.lays105.f105 (by kernel_rfl) rfl) ?_ ?_
  · rintro ps x ⟨l, c, rfl, _, rfl⟩; trivial
  · rintro w ok ps x vs hrd ⟨l, c, rfl, ⟨h1, h2, h3⟩, rfl⟩
    simp only [RdL, Rd] at hrd
    obtain ⟨_, _, e, rfl, _, _, rfl, rfl, rfl⟩ := hrd
    have : vs = #[.string ⟨l.toArray⟩, .int .i64 c] := by rw [← Array.toList_inj]; exact e
    subst this
    have hb : l.length * c.toNat ≤ 1000000 * 1000000 := Nat.mul_le_mul h3 (by omega)
    have := Go.Proofs.Any.strings_Repeat Go.Proofs.Try.lays105 Go.Proofs.Try.Builder_Extra_105 ⟨l.toArray⟩ c.toNat w (by omega) (by show l.length * c.toNat ≤ _; omega)
    rw [show ((c.toNat : Nat) : Int) = c by omega] at this
    refine this.mono ?_
    rintro e w' ⟨rfl, h⟩
    exact ⟨_, rfl, by simp only [Rd, repN_eq], h⟩

/-! ### strings.Builder -/
def nilP : PV := .val (.pointer none)
/-- A builder: never written; or used, with its bytes. -/
def bld0 : Sto := [.box T_strings_Builder [.pv nilP, .pv (.nil 1)]]
def bld1 (l : List UInt8) : Sto := [.box T_strings_Builder [.ref 0 0 0, .own 1], .row 5 1 true (l.map byteP)]

def M_copyCheck (xs : List AV) (σ : Sto) (K : AV → Sto → Prop) : Prop :=
  xs = [.ref 0 0 0] ∧ ((σ = bld0 ∧ K (.tup []) [.box T_strings_Builder [.ref 0 0 0, .pv (.nil 1)]]) ∨ ∃ l, σ = bld1 l ∧ K (.tup []) (bld1 l))

theorem enters_copyCheck : Enters Go.Proofs.Try.prog n_strings_Builder_copyCheck := Go.Proofs.enters_of Go.Proofs.Try.lays105.f240 (by kernel_rfl) rfl

theorem at_copyCheck : SoundAt Go.Proofs.Try.prog n_strings_Builder_copyCheck (mkM M_copyCheck) := by
  refine ⟨fun e => (by cases e), fun e => (by cases e), fun _ _ _ _ _ e => (by cases e), fun _ _ _ _ _ _ _ _ h => (show False from h).elim, ?_⟩
  rintro w ok hok σ0 vals0 xs vs K _ hrel hral ⟨rfl, hK⟩
  refine ⟨enters_copyCheck, ?_⟩
  simp only [RAL] at hral
  obtain ⟨v, _, hv, hra, rfl⟩ := hral
  have hvs : vs = #[v] := by rw [← Array.toList_inj]; exact hv
  subst hvs
  rcases hK with ⟨rfl, hK⟩ | ⟨l, rfl, hK⟩
  · have hl := hrel.len
    obtain ⟨u, rfl⟩ : ∃ u, vals0 = [u] := by
      cases vals0 with
      | nil => simp [bld0] at hl
      | cons u t => cases t with
        | nil => exact ⟨u, rfl⟩
        | cons _ _ => simp [bld0] at hl
    have hrb := hrel.sto 0 _ u rfl rfl
    obtain ⟨b, arr, rfl, hown, hb, h1, h2⟩ := hrb
    simp only [RA] at hra
    obtain ⟨_, _, _, hbox⟩ := hra
    obtain ⟨u, b', hu, hb', rfl⟩ := hbox _ rfl rfl
    simp at hu; subst hu; simp [blkOf] at hb'; subst hb'
    simp only [RAL, RA, Rd, nilP] at h2
    obtain ⟨x, r, e, ⟨rfl, _⟩, y, r2, rfl, rfl, rfl⟩ := h2
    have harr : arr = #[.pointer none, .slice none 0 0] := by rw [← Array.toList_inj]; exact e
    subst harr
    refine (Go.Proofs.Any.Builder_copyCheck_fresh { Go.Proofs.Try.lays105 with } Go.Proofs.Try.Builder_Extra_105.toX72 b w (by simp [World.cell?, hb]) (by simp [World.shape?, hb]; rfl) (by simp [World.frozen?, hb])).mono ?_
    rintro e w' ⟨rfl, rfl⟩
    have hne : ∀ k, k ≠ b → (w.setCell ⟨b, 0, none⟩ (.pointer (some ⟨b, 0, none⟩))).heap[k]? = w.heap[k]? := fun k hk => Below.heap_setCell _ _ _ _ hk
    have hnew : (w.setCell ⟨b, 0, none⟩ (.pointer (some ⟨b, 0, none⟩))).heap[b]? = some (.cells #[.pointer (some ⟨b, 0, none⟩), .slice none 0 0] T_strings_Builder (0, 0)) := by
      simp [World.setCell, Array.getElem?_modify, hb]
    obtain ⟨h3, _⟩ := hrel.write (id := 0) (s := .box T_strings_Builder [.pv nilP, .pv (.nil 1)]) (s' := .box T_strings_Builder [.ref 0 0 0, .pv (.nil 1)]) (u := .pointer (some ⟨b, 0, none⟩)) (g := b) rfl rfl rfl trivial rfl rfl hne (by simp [World.setCell]) rfl rfl rfl
      (fun _ => ⟨b, _, rfl, hown, hnew, by simp [AV.one, PV.one], by
        simp only [RAL, RA, Rd]
        refine ⟨_, _, rfl, ⟨by simp [bld0], ⟨_, rfl⟩, fun e sz ap els h => by simp [bld0] at h, fun e cs h => ⟨_, b, rfl, rfl, rfl⟩⟩, _, _, rfl, rfl, rfl⟩⟩)
    exact ⟨_, _, _, _, rfl, hK, h3, by simp only [RA]; exact ⟨#[], rfl, by simp [RAL]⟩⟩
  · obtain ⟨u, t, rfl⟩ : ∃ u t, vals0 = [u, t] := by
      have hl := hrel.len
      match vals0, hl with
      | [u, t], _ => exact ⟨u, t, rfl⟩
    have hrb := hrel.sto 0 _ u rfl rfl
    obtain ⟨b, arr, rfl, hown, hb, h1, h2⟩ := hrb
    simp only [RA] at hra
    obtain ⟨_, _, _, hbox⟩ := hra
    obtain ⟨u, b', hu, hb', rfl⟩ := hbox _ rfl rfl
    simp at hu; subst hu; simp [blkOf] at hb'; subst hb'
    simp only [RAL, RA] at h2
    obtain ⟨x, r, e, ⟨_, _, _, hx⟩, y, r2, rfl, hy, rfl⟩ := h2
    obtain ⟨u, b', hu, hb', rfl⟩ := hx _ rfl rfl
    simp at hu; subst hu; simp [blkOf] at hb'; subst hb'
    have harr : arr = #[.pointer (some ⟨b, 0, none⟩), y] := by rw [← Array.toList_inj]; exact e
    subst harr
    refine (Go.Proofs.Any.Builder_copyCheck_used { Go.Proofs.Try.lays105 with } Go.Proofs.Try.Builder_Extra_105.toX72 b w (by simp [World.cell?, hb])).mono ?_
    rintro e w' ⟨rfl, rfl⟩
    exact ⟨_, _, _, _, rfl, hK, hrel, by simp only [RA]; exact ⟨#[], rfl, by simp [RAL]⟩⟩

open Go.Shelf Go.Proofs in
set_option maxHeartbeats 2000000 in
set_option maxRecDepth 100000 in
theorem string_run (b g cap : Nat) (q : Value) (cur : Array Value) (l : List UInt8) (w : World) (hbk : w.heap[b]? = some (.cells #[q, .slice (some ⟨g, 0, none⟩) l.length cap] T_strings_Builder (0, 0))) (hg : w.heap[g]? = some (.cells cur 5 (0, 0))) (h0 : l ≠ []) (hnc : l.length ≤ cap) (hcm : cap ≤ maxLen) (hcs : cur.size = cap * 1)
    (htake : cur.toList.take (l.length * 1) = Lib.byteCells l) :
    Calls Go.Proofs.Try.prog 55 #[.pointer (some ⟨b, 0, none⟩)] w fun e w' => e = .returned (.string ⟨l.toArray⟩) ∧ (w'.os = w.os ∧ w'.tape = w.tape ∧ w'.output = w.output ∧ w'.heap.size = w.heap.size ∧ ∀ k, k ≠ g → w'.heap[k]? = w.heap[k]?) := by
  have hl0 : l.length ≠ 0 := by simpa using h0
  have L : Go.Proofs.Lays.n169 Go.Proofs.Try.prog Go.Proofs.Try.lays105_ren := { Go.Proofs.Try.lays105 with }
  have X := Go.Proofs.Try.Builder_Extra_105
  have hown : w.ownsRow 0 5 1 (.slice (some ⟨g, 0, none⟩) l.length cap) l.length (Lib.byteCells l) := ⟨by rw [Lib.byteCells_length, Nat.mul_one], .inr ⟨g, cap, cur, rfl, Nat.zero_le _, hg, hnc, hcm, hcs, htake⟩⟩
  have c1 : w.drew.cell? ⟨b, 1, none⟩ = some (.slice (some ⟨g, 0, none⟩) l.length cap) := by
    have : w.drew.heap[b]? = some (.cells #[q, .slice (some ⟨g, 0, none⟩) l.length cap] T_strings_Builder (0, 0)) := hbk
    rw [Lib.cell_of_heap this]; rfl
  have hSD : (Builtin.unsafeSliceData_ #[(Go.Proofs.Try.lays105_ren.t 37)] (Go.Proofs.Try.lays105_ren.t 127) #[.slice (some ⟨g, 0, none⟩) l.length cap]).run Go.Proofs.Try.prog w.drew = .ok (.pointer (some ⟨g, 0, none⟩)) w.drew :=
    Lib.run_unsafeSliceData_row _ _ _ _ _ _ (by omega)
  have hUS : (Builtin.unsafeString_ #[(Go.Proofs.Try.lays105_ren.t 127), (Go.Proofs.Try.lays105_ren.t 3)] (Go.Proofs.Try.lays105_ren.t 9) #[.pointer (some ⟨g, 0, none⟩), .int .i64 l.length]).run Go.Proofs.Try.prog w.drew = .ok (.string ⟨l.toArray⟩) (w.drew.freeze ⟨g, 0, none⟩ l.length) := by
    refine Lib.run_unsafeString_row w.drew (Go.Proofs.Try.lays105_ren.t 127) (Go.Proofs.Try.lays105_ren.t 3) (Go.Proofs.Try.lays105_ren.t 9) (Go.Proofs.Try.lays105_ren.t 5) L.t127 X.cellsByte g cur.size (by have hg' : w.drew.heap[g]? = some (.cells cur 5 (0, 0)) := hg; simp [World.shape?, hg']; rfl) l h0 (by omega) (by unfold maxLen at hcm; omega) ?_
    intro j x hx
    have := hown.cells (g := g) rfl j (.int .u8 x.toNat) (by simp [Lib.byteCells, hx])
    exact this
  have mixed := L.mixed
  have t72 := L.t72; have a72 := L.a72; have z72 := L.z72; have v72 := L.v72; have u72 := run_underlying L.t72
  have t70 := L.t70; have a70 := L.a70; have z70 := L.z70; have v70 := L.v70; have u70 := run_underlying L.t70
  have t37 := L.t37; have a37 := L.a37; have z37 := L.z37; have v37 := L.v37; have u37 := run_underlying L.t37
  have t127 := L.t127; have a127 := L.a127; have z127 := L.z127; have v127 := L.v127; have u127 := run_underlying L.t127
  have t3 := L.t3; have a3 := L.a3; have z3 := L.z3; have v3 := L.v3; have u3 := run_underlying L.t3
  have t9 := L.t9; have a9 := L.a9; have z9 := L.z9; have v9 := L.v9; have u9 := run_underlying L.t9
  have t5 := X.t5; have a5 := X.a5; have z5 := X.z5; have v5 := X.v5; have u5 := run_underlying X.t5
  have fin : ∀ n, (w.drew.freeze ⟨g, 0, none⟩ n).os = w.os ∧ (w.drew.freeze ⟨g, 0, none⟩ n).tape = w.tape ∧ (w.drew.freeze ⟨g, 0, none⟩ n).output = w.output ∧ (w.drew.freeze ⟨g, 0, none⟩ n).heap.size = w.heap.size ∧ ∀ k, k ≠ g → (w.drew.freeze ⟨g, 0, none⟩ n).heap[k]? = w.heap[k]? := by
    intro n
    unfold World.freeze
    split
    · exact ⟨rfl, rfl, rfl, rfl, fun _ _ => rfl⟩
    · refine ⟨rfl, rfl, rfl, by simp, fun k hk => ?_⟩
      simp only [Array.getElem?_modify]
      rw [if_neg (fun e => hk e.symm)]; rfl
  go_enter L.f169, Body.n169_ntmps Go.Proofs.Try.lays105_ren
  go_wp2
  go_region_o
  all_goals (go_wp2; go_ret; exact ⟨rfl, fin _⟩)

def M_String (xs : List AV) (σ : Sto) (K : AV → Sto → Prop) : Prop :=
  xs = [.ref 0 0 0] ∧ ∃ l : List UInt8, l ≠ [] ∧ σ = bld1 l ∧ K (.pv (.str l)) [.dead, .dead]

theorem at_String : SoundAt Go.Proofs.Try.prog n_strings_Builder_String (mkM M_String) := by
  refine ⟨fun e => (by cases e), fun e => (by cases e), fun _ _ _ _ _ e => (by cases e), fun _ _ _ _ _ _ _ _ h => (show False from h).elim, ?_⟩
  rintro w ok hok σ0 vals0 xs vs K _ hrel hral ⟨rfl, l, h0, rfl, hK⟩
  refine ⟨Go.Proofs.enters_of Go.Proofs.Try.lays105.f169 (by kernel_rfl) rfl, ?_⟩
  simp only [RAL] at hral
  obtain ⟨v, _, hv, hra, rfl⟩ := hral
  have hvs : vs = #[v] := by rw [← Array.toList_inj]; exact hv
  subst hvs
  obtain ⟨u, t, rfl⟩ : ∃ u t, vals0 = [u, t] := by
    have hl := hrel.len
    match vals0, hl with
    | [u, t], _ => exact ⟨u, t, rfl⟩
  have hrb := hrel.sto 0 _ u rfl rfl
  obtain ⟨b, arr, rfl, hown, hb, h1, h2⟩ := hrb
  simp only [RA] at hra
  obtain ⟨_, _, _, hbox⟩ := hra
  obtain ⟨u, b', hu, hb', rfl⟩ := hbox _ rfl rfl
  simp at hu; subst hu; simp [blkOf] at hb'; subst hb'
  simp only [RAL, RA] at h2
  obtain ⟨x, r, e, ⟨_, _, _, hx⟩, y, r2, rfl, hy, rfl⟩ := h2
  obtain ⟨u, b', hu, hb', rfl⟩ := hx _ rfl rfl
  simp at hu; subst hu; simp [blkOf] at hb'; subst hb'
  simp at hy; subst hy
  have harr : arr = #[.pointer (some ⟨b, 0, none⟩), t] := by rw [← Array.toList_inj]; exact e
  subst harr
  have hrow := hrel.sto 1 _ t rfl rfl
  obtain ⟨_, cells, h3, h4, h5, h6⟩ := hrow
  have hcells : cells = Lib.byteCells l := by
    rw [flat_bytes, rdL_bytes] at h6; exact h6
  subst hcells
  rw [List.length_map] at h3
  rcases h3.2 with ⟨_, hz⟩ | ⟨g, cap, cur, fr, rfl, hog, hg, hnc, hcm, hcs, htake, hfr⟩
  · exact absurd (List.eq_nil_of_length_eq_zero hz) h0
  have hfr0 : fr = (0, 0) := by
    rcases hfr with h | ⟨h, _⟩
    · exact h
    · cases h
  subst hfr0
  refine (string_run b g cap _ cur l w hb hg h0 hnc hcm hcs htake).mono ?_
  rintro e w' ⟨rfl, ho, ht, hou, hsz, hsame⟩
  refine ⟨_, .pv (.str l), [.dead, .dead], [.pointer (some ⟨b, 0, none⟩), .slice (some ⟨g, 0, none⟩) l.length cap], rfl, hK, ?_, by simp only [RA, Rd]⟩
  have hnm : ∀ b2, ¬ Mut [Blk.dead, Blk.dead] [Value.pointer (some ⟨b, 0, none⟩), Value.slice (some ⟨g, 0, none⟩) l.length cap] b2 := by
    rintro b2 ⟨i, s, v, hi, hl, _⟩
    rcases i with _ | _ | i
    · cases hi; cases hl
    · cases hi; cases hl
    · simp at hi
  refine ⟨⟨ho, ht, hou, by rw [hsz]; exact Nat.le_refl _, fun k hk hno => hsame k (fun e => hno (e ▸ hog))⟩, hrel.one, rfl, fun i s v hi hv => ?_, fun i j s t u v b2 _ hi _ hl => ?_, ⟨by rw [hsz]; exact Nat.le_refl _, fun _ h => h.elim, fun b2 hm => absurd hm (hnm b2)⟩, ⟨fun i v h => h, by simp [mcx, bld1], fun i hi e sz ap els h => ?_, fun i hi s h hbx => ?_⟩⟩
  · rcases i with _ | _ | i
    · cases hi; trivial
    · cases hi; trivial
    · simp at hi
  · rcases i with _ | _ | i
    · cases hi; cases hl
    · cases hi; cases hl
    · simp at hi
  · rcases i with _ | _ | i
    · cases h
    · cases h
    · simp at h
  · rcases i with _ | _ | i
    · cases h; cases hbx
    · cases h; cases hbx
    · simp at h
end Go.Dv.Try
end
section
/-
  Contracts of chapter 6: strings.Builder's methods, bytes of tokens.
-/
namespace Go.Dv.Try
open Go Go.Dv

/-- A builder that has been written once more. -/
def bld2 (l : List UInt8) : Sto := [.box T_strings_Builder [.ref 0 0 0, .own 2], .dead, .row 5 1 true (l.map byteP)]
def nilI : PV := .val .nilIface

def M_WriteByte (xs : List AV) (σ : Sto) (K : AV → Sto → Prop) : Prop :=
  ∃ b : UInt8, xs = [.ref 0 0 0, .pv (byteP b)] ∧ ((σ = bld0 ∧ K (.pv nilI) (bld1 [b])) ∨ ∃ l : List UInt8, l.length ≤ 1000000 ∧ σ = bld1 l ∧ K (.pv nilI) (bld2 (l ++ [b])))
theorem meets_WriteByte : MeetsM (ctxOf [(n_strings_Builder_copyCheck, mkM M_copyCheck)]) s_strings_Builder_WriteByte c_strings_Builder_WriteByte r_strings_Builder_WriteByte (mkM M_WriteByte) := by
  rintro _ _ K ⟨b, rfl, ⟨rfl, hK⟩ | ⟨l, hl, rfl, hK⟩⟩
  · refine ⟨rfl, .inl ⟨rfl, ?_⟩⟩
    refine ⟨rfl, ?_⟩
    refine ⟨⟨by simp, by simp⟩, ?_⟩
    refine ⟨rfl, ?_⟩
    exact hK
  · refine ⟨rfl, .inr ⟨l, rfl, ?_⟩⟩
    refine ⟨rfl, ?_⟩
    refine ⟨⟨by rw [List.length_map]; show (l.length + 1) * 1 ≤ _; omega, by rw [List.length_map]; show l.length + 1 ≤ _; omega⟩, ?_⟩
    refine ⟨rfl, ?_⟩
    rw [show bld2 (l ++ [b]) = [.box T_strings_Builder [.ref 0 0 0, .own 2], .dead, .row 5 1 true (l.map byteP ++ [byteP b])] by simp [bld2]] at hK
    exact hK

def M_WriteString (xs : List AV) (σ : Sto) (K : AV → Sto → Prop) : Prop :=
  ∃ s : List UInt8, xs = [.ref 0 0 0, .pv (.str s)] ∧ ∃ l : List UInt8, l.length ≤ 1000000 ∧ s.length ≤ 1000000 ∧ σ = bld1 l ∧ K (.tup [.pv (pI s.length), .pv nilI]) (bld2 (l ++ s))
theorem meets_WriteString : MeetsM (ctxOf [(n_strings_Builder_copyCheck, mkM M_copyCheck)]) s_strings_Builder_WriteString c_strings_Builder_WriteString r_strings_Builder_WriteString (mkM M_WriteString) := by
  rintro _ _ K ⟨s, rfl, l, hl, hs, rfl, hK⟩
  refine ⟨rfl, .inr ⟨l, rfl, ?_⟩⟩
  refine ⟨⟨by rw [List.length_map, List.length_map]; omega, by rw [List.length_map, List.length_map]; omega⟩, ?_⟩
  refine ⟨rfl, ?_⟩
  rw [show bld2 (l ++ s) = [.box T_strings_Builder [.ref 0 0 0, .own 2], .dead, .row 5 1 true (l.map byteP ++ s.map byteP)] by simp [bld2]] at hK
  exact hK

def M_Len (xs : List AV) (σ : Sto) (K : AV → Sto → Prop) : Prop :=
  ∃ l : List UInt8, xs = [.ref 0 0 0] ∧ σ = bld1 l ∧ K (.pv (pI l.length)) (bld1 l)
theorem meets_Len : MeetsM (ctxOf []) s_strings_Builder_Len c_strings_Builder_Len r_strings_Builder_Len (mkM M_Len) := by
  rintro _ _ K ⟨l, rfl, rfl, hK⟩
  refine fun _ => ?_
  rw [List.length_map]
  exact hK
end Go.Dv.Try
end
section
/-
  Contracts of chapter 6: chunks.
-/
namespace Go.Dv.Try
open Go Go.Dv

theorem shl64 {x s : Int} (hx : 0 ≤ x) (hs : 0 ≤ s ∧ s ≤ 63) (h : x.toNat * 2 ^ s.toNat ≤ 9223372036854775807) : IntKind.i64.wrap (x * 2 ^ min s.toNat IntKind.i64.bits) = ((x.toNat * 2 ^ s.toNat : Nat) : Int) := by
  have hb : IntKind.i64.bits = 64 := rfl
  have : min s.toNat IntKind.i64.bits = s.toNat := by omega
  rw [this]
  have e : x * 2 ^ s.toNat = ((x.toNat * 2 ^ s.toNat : Nat) : Int) := by
    rw [Int.natCast_mul, Int.natCast_pow, show ((x.toNat : Nat) : Int) = x by omega]; rfl
  rw [e]
  exact wrap64 (by omega)

def R_tokenBytes (ps : List PV) (x : PV) : Prop := ∃ (t : Tok) (a : Nat), ps = [t.pv, pI a] ∧ TokOk t a ∧ x = .str (tokB t a)
theorem meets_tokenBytes : Meets (ctxOf [(n_compress_isCopy, fnSpec R_compress_isCopy), (n_compress_shift, fnSpec R_compress_shift), (n_compress_word, fnSpec R_word)]) s_compress_tokenBytes c_compress_tokenBytes r_compress_tokenBytes (fnSpec R_tokenBytes) := by
  rintro _ K ⟨_, ⟨t, a, rfl, ht, rfl⟩, hK⟩
  refine ⟨_, ⟨t, rfl, rfl⟩, ?_⟩
  refine fun b hb => ?_
  have ht' := ht
  unfold TokOk at ht'
  rcases cmp hb with ⟨rfl, h⟩ | ⟨rfl, h⟩
  · have hd : t.d = 0 := by
      unfold Tok.copy at h
      simpa using h
    rw [if_neg (by omega)] at ht'
    refine fun x hx => ?_
    rw [wrapU8] at hx
    refine ⟨rfl, ?_⟩
    refine ⟨tokB t a, ?_, ?_⟩
    · unfold tokB
      rw [if_neg (by omega), byteP_of (n := x) (by omega)]
      show [byteP (byteN x.toNat)] = [byteP (byteN t.b.toNat)]
      congr 3; omega
    exact ⟨.pv (.str _), rfl, trivial, hK⟩
  · have hd : t.d ≠ 0 := by
      intro e
      apply h
      unfold Tok.copy
      simp [e]
    rw [if_pos hd] at ht'
    have hc := code_lt ht hd
    have hs := shiftN_le (a := a) (by omega)
    have hs2 := shiftN_ge a
    refine ⟨by kernel_rfl, ?_⟩
    refine fun x hx => ?_
    obtain rfl := n64 hx (by omega)
    refine ⟨_, ⟨a, rfl, ⟨by omega, by omega⟩, rfl⟩, ?_⟩
    unfold shiftZ
    rw [Int.toNat_natCast]
    refine fun x hx => ?_
    obtain rfl := n64 hx (by omega)
    have es : (16 - (shiftN a : Int)).toNat = 16 - shiftN a := by omega
    have ed : (t.d - 1).toNat = t.d.toNat - 1 := by omega
    refine ⟨by omega, ?_⟩
    refine fun x hx => ?_
    rw [shl64 (by omega) (by omega) (by rw [es, ed]; omega), es, ed] at hx
    subst hx
    generalize hp : (t.d.toNat - 1) * 2 ^ (16 - shiftN a) = p at hc
    refine fun x hx => ?_
    obtain rfl := n64 hx (by omega)
    refine fun x hx => ?_
    obtain rfl := n64 hx (by omega)
    refine ⟨_, ⟨_, rfl, by omega, rfl⟩, ?_⟩
    refine ⟨.pv (.str _), ?_, trivial, hK⟩
    show PV.str (tokB t a) = PV.str (wordN _)
    unfold tokB
    rw [if_pos hd, hp]
    congr 2; omega

theorem toksOk_len : ∀ (l : List Tok) (a : Nat), ToksOk l a → l ≠ [] → a + l.length ≤ 4096 := by
  intro l
  induction l with
  | nil => intro a _ h; exact absurd rfl h
  | cons t l ih =>
    intro a h _
    obtain ⟨h1, h2⟩ := h
    have h3 := tok_made h1
    by_cases hl : l = []
    · subst hl; simp; omega
    · have := ih _ h2 hl
      simp only [List.length_cons]; omega

theorem tokB_len (t : Tok) (a : Nat) : 1 ≤ (tokB t a).length ∧ (tokB t a).length ≤ 2 := by
  unfold tokB wordN
  split <;> simp
theorem bytesT_len : ∀ (l : List Tok) (a : Nat), (bytesT l a).length ≤ 2 * l.length := by
  intro l
  induction l with
  | nil => intro a; simp [bytesT]
  | cons t l ih =>
    intro a
    have := ih (a + t.made.toNat)
    have h := tokB_len t a
    simp only [bytesT, List.length_append, List.length_cons]; omega
theorem bodyRun_len : ∀ (n : Nat) (l : List Tok) (a : Nat), (bodyRun n l a).length ≤ 3 * l.length := by
  intro n
  induction n with
  | zero => intro l a; simp [bodyRun]
  | succ n ih =>
    intro l a
    unfold bodyRun
    split
    · simp
    · rename_i hl
      have : 0 < l.length := List.length_pos_iff.2 hl
      have h1 := bytesT_len (l.take 8) a
      have h2 := ih (l.drop 8) (posT (l.take 8) a)
      simp only [List.length_cons, List.length_append]
      rw [List.length_take] at h1
      rw [List.length_drop] at h2
      omega

theorem bodyRun_same (l : List Tok) (a : Nat) : ∀ (j n : Nat), l.length ≤ n → bodyRun (n + j) l a = bodyRun n l a := by
  intro j
  induction j with
  | zero => intro n _; rfl
  | succ j ih => intro n hn; rw [← Nat.add_assoc, ← bodyRun_more (n + j) l a (by omega), ih n hn]

/-- The builder of a chunk: so many bytes. -/
def bldO (out : List UInt8) : Sto := match out with | [] => bld0 | _ => bld1 out

def S_chunk : Spec := mkS true false fun ps K => ∃ l : List Tok, ps = [.sl 3 (l.map Tok.pv)] ∧ (l ≠ [] ∧ ToksOk l 0) ∧
  (4096 < (bodyN l).length → K (.tup [.pv (.str []), .pv (pI 8)])) ∧ ((bodyN l).length ≤ 4096 → K (.tup [.pv (.str (headN (bodyN l).length true ++ bodyN l)), .pv (pI 0)]))
theorem cut_take {α : Type} (n : Nat) (l : List α) : cut 0 n l = l.take n := by simp [cut]
theorem cut_drop {α : Type} (n : Nat) (l : List α) : cut n l.length l = l.drop n := by simp [cut]

theorem meets_chunk : Meets (ctxOf [(n_compress_isCopy, fnSpec R_compress_isCopy), (n_compress_tokenBytes, fnSpec R_tokenBytes), (n_compress_made, fnSpec R_compress_made), (n_strings_Builder_WriteByte, mkM M_WriteByte), (n_strings_Builder_WriteString, mkM M_WriteString), (n_strings_Builder_Len, mkM M_Len), (n_strings_Builder_String, mkM M_String), (n_compress_head, fnSpec R_head)]) s_compress_chunk c_compress_chunk r_compress_chunk S_chunk := by
  rintro _ K ⟨l, rfl, ⟨hne, hok⟩, hK1, hK2⟩
  have hlen := toksOk_len l 0 hok hne
  have hbl := bodyRun_len l.length l 0
  refine ⟨fun m env σ => ∃ (out : List UInt8) (l' : List Tok) (a : Nat), (l'.length = m ∧ ToksOk l' a ∧ l'.length ≤ l.length ∧ bodyN l = out ++ bodyRun m l' a ∧ (l' = [] → out ≠ [])) ∧ σ = bldO out ∧ env = [(0, .pv (.sl 3 (l'.map Tok.pv))), (4, .ref 0 0 0), (5, .pv (pI a))], l.length, ⟨[], l, 0, ⟨rfl, hok, Nat.le_refl _, rfl, fun h => absurd h hne⟩, rfl, rfl⟩, ?_⟩
  rintro m env σ ⟨out, l', a, ⟨hm, hok', hle, hrun, hout⟩, rfl, rfl⟩
  have hol : out.length ≤ 3 * l.length := by
    have : (bodyN l).length = _ := congrArg List.length hrun
    unfold bodyN at this
    rw [List.length_append] at this; omega
  refine fun _ => ?_
  rw [List.length_map]
  refine fun b hb => ?_
  rcases cmp hb with ⟨rfl, h⟩ | ⟨rfl, h⟩
  · cases m with
    | zero => omega
    | succ m =>
    have hl' : l' ≠ [] := by intro e; subst e; simp at h
    refine fun _ => ?_
    rw [List.length_map]
    refine fun x hx => ?_
    have hx : x = ((min l'.length 8 : Nat) : Int) := by omega
    subst hx
    have e19 : cut 0 ((min l'.length 8 : Nat) : Int).toNat (l'.map Tok.pv) = (l'.take 8).map Tok.pv := by
      rw [Int.toNat_natCast, cut_take, ← List.map_take]
      congr 1
      rcases Nat.le_total l'.length 8 with h8 | h8
      · rw [Nat.min_eq_left h8, List.take_length, List.take_of_length_le h8]
      · rw [Nat.min_eq_right h8]
    have e0 : cut ((min l'.length 8 : Nat) : Int).toNat (l'.map Tok.pv).length (l'.map Tok.pv) = (l'.drop 8).map Tok.pv := by
      rw [Int.toNat_natCast, cut_drop, ← List.map_drop]
      congr 1
      rcases Nat.le_total l'.length 8 with h8 | h8
      · rw [Nat.min_eq_left h8, List.drop_length, List.drop_of_length_le h8]
      · rw [Nat.min_eq_right h8]
    obtain ⟨g, hgd⟩ : ∃ g, l'.take 8 = g := ⟨_, rfl⟩
    have hgl8 : g.length ≤ 8 := by rw [← hgd, List.length_take]; omega
    have hokg : ToksOk g a := by
      rw [← List.take_append_drop 8 l', toksOk_append, hgd] at hok'
      exact hok'.1
    rw [hgd] at e19
    refine ⟨⟨by omega, by rw [List.length_map]; omega⟩, ?_⟩
    refine fun _ => ?_
    cases out with
    | nil =>
      refine ⟨fun m2 env σ => ∃ g1 g2 : List Tok, (g1 ++ g2 = g ∧ g2.length = m2) ∧ σ = bldO [] ∧ env = [(0, .pv (.sl 3 (l'.map Tok.pv))), (4, .ref 0 0 0), (5, .pv (pI (posT g1 a))), (6, .pv (.int .u8 (signN 0 g1))), (7, .pv (.str (bytesT g1 a))), (8, .pv (pI (min l'.length 8 : Nat))), (19, .pv (.sl 3 (g.map Tok.pv))), (20, .pv (pI g.length)), (21, .pv (pI g1.length))], g.length, ⟨[], g, ⟨rfl, rfl⟩, rfl, ?_⟩, ?_⟩
      · show [(0, AV.pv (.sl 3 (l'.map Tok.pv))), (4, .ref 0 0 0), (5, .pv (pI a)), (6, .pv (.int .u8 0)), (7, .pv (.str [])), (8, .pv (pI (min l'.length 8 : Nat))), (19, .pv (.sl 3 (cut 0 ((min l'.length 8 : Nat) : Int).toNat (l'.map Tok.pv)))), (20, .pv (pI ((cut 0 ((min l'.length 8 : Nat) : Int).toNat (l'.map Tok.pv)).length : Nat))), (21, .pv (pI 0))] = _
        rw [e19, List.length_map]; rfl
      rintro m2 env σ ⟨g1, g2, ⟨hg, hm2⟩, rfl, rfl⟩
      have hgl : g1.length + g2.length = g.length := by rw [← hg, List.length_append]
      refine fun b hb => ?_
      rcases cmp hb with ⟨rfl, h2⟩ | ⟨rfl, h2⟩
      · cases g2 with
        | nil => simp at hgl; omega
        | cons t g2 =>
        simp only [List.length_cons] at hgl
        have hokt : TokOk t (posT g1 a) ∧ ToksOk g2 (posT g1 a + t.made.toNat) := by
          rw [← hg, toksOk_append] at hokg
          exact hokg.2
        have hmt := tok_made hokt.1
        have hbT := bytesT_len g1 a
        have htB := tokB_len t (posT g1 a)
        have hsg := signN_lt g1 0
        have hp8 : 2 ^ g1.length ≤ 2 ^ 7 := Nat.pow_le_pow_right (by omega) (by omega)
        have hp0 := Nat.two_pow_pos g1.length
        rw [Nat.zero_add] at hsg
        refine ⟨t.pv, ⟨by omega, by rw [Int.toNat_natCast, List.getElem?_map, ← hg, List.getElem?_append_right (Nat.le_refl _), Nat.sub_self]; rfl⟩, ?_⟩
        refine ⟨rfl, ?_⟩
        have next : ∀ x : Int, x = (posT g1 a : Int) + t.made → x = (posT (g1 ++ [t]) a : Nat) := by
          intro x hx
          rw [posT_append, hx]; simp only [posT]; omega
        cases hc : t.copy with
        | true =>
          have hd : t.d ≠ 0 := by unfold Tok.copy at hc; simpa using hc
          refine ⟨pB true, ⟨t, rfl, by rw [hc]⟩, ?_⟩
          refine ⟨by omega, ?_⟩
          refine fun x hx => ?_
          have hx : x = ((2 ^ g1.length : Nat) : Int) := by
            rw [hx]
            have e8 : min ((g1.length : Int)).toNat IntKind.u8.bits = g1.length := by
              have : IntKind.u8.bits = 8 := rfl
              omega
            rw [e8, Int.one_mul, show ((2 : Int) ^ g1.length) = ((2 ^ g1.length : Nat) : Int) by simp]
            exact wrap8n (by omega)
          subst hx
          refine fun x hx => ?_
          rw [or8 (by omega) (by omega), show 2 ^ g1.length = 2 ^ g1.length * 1 by omega, or_add (by omega)] at hx
          refine ⟨_, ⟨t, posT g1 a, rfl, hokt.1, rfl⟩, ?_⟩
          refine ⟨by omega, ?_⟩
          refine ⟨_, ⟨t, rfl, rfl⟩, ?_⟩
          refine fun y hy => ?_
          have hy := next y (n64 hy (by omega))
          subst hy
          refine fun z hz => ?_
          obtain rfl := n64 hz (by omega)
          refine ⟨g2.length, by simp at hm2; omega, g1 ++ [t], g2, ⟨by simp [hg], rfl⟩, rfl, ?_⟩
          have e6 : x = (signN 0 (g1 ++ [t]) : Nat) := by rw [hx, signN_append]; simp [signN, hd]
          have e7 : bytesT g1 a ++ tokB t (posT g1 a) = bytesT (g1 ++ [t]) a := by rw [bytesT_append]; simp [bytesT]
          have e21 : ((g1.length : Int) + 1) = ((g1 ++ [t]).length : Nat) := by simp
          rw [e6, e7, e21]
        | false =>
          have hd : ¬ t.d ≠ 0 := by unfold Tok.copy at hc; simpa using hc
          refine ⟨pB false, ⟨t, rfl, by rw [hc]⟩, ?_⟩
          refine ⟨_, ⟨t, posT g1 a, rfl, hokt.1, rfl⟩, ?_⟩
          refine ⟨by omega, ?_⟩
          refine ⟨_, ⟨t, rfl, rfl⟩, ?_⟩
          refine fun y hy => ?_
          have hy := next y (n64 hy (by omega))
          subst hy
          refine fun z hz => ?_
          obtain rfl := n64 hz (by omega)
          refine ⟨g2.length, by simp at hm2; omega, g1 ++ [t], g2, ⟨by simp [hg], rfl⟩, rfl, ?_⟩
          have e6 : signN 0 (g1 ++ [t]) = signN 0 g1 := by rw [signN_append]; simp [signN, hd]
          have e7 : bytesT g1 a ++ tokB t (posT g1 a) = bytesT (g1 ++ [t]) a := by rw [bytesT_append]; simp [bytesT]
          have e21 : ((g1.length : Int) + 1) = ((g1 ++ [t]).length : Nat) := by simp
          rw [e6, e7, e21]
      · have hg2 : g2 = [] := List.eq_nil_of_length_eq_zero (by omega)
        subst hg2
        rw [List.append_nil] at hg
        subst hg
        have hsg := signN_lt g1 0
        rw [Nat.zero_add] at hsg
        have hp8 : 2 ^ g1.length ≤ 2 ^ 8 := Nat.pow_le_pow_right (by omega) (by omega)
        have hbT := bytesT_len g1 a
        refine ⟨byteN (signN 0 g1), ?_, .inl ⟨rfl, ?_⟩⟩
        · rw [byteP_of (by omega), Int.toNat_natCast]
        refine ⟨bytesT g1 a, rfl, [] ++ [byteN (signN 0 g1)], by simp only [List.length_append, List.length_cons, List.length_nil] at hol ⊢; omega, by omega, rfl, ?_⟩
        refine ⟨⟨by omega, by rw [List.length_map]; omega⟩, ?_⟩
        refine ⟨(l'.drop 8).length, by rw [List.length_drop]; omega, ([] ++ [byteN (signN 0 g1)]) ++ bytesT g1 a, l'.drop 8, posT g1 a, ⟨rfl, ?_, by rw [List.length_drop]; omega, ?_, fun _ => by simp⟩, ?_, ?_⟩
        · rw [← List.take_append_drop 8 l', toksOk_append, hgd] at hok'
          exact hok'.2
        · rw [hrun]
          rw [bodyRun, if_neg hl', hgd]
          have e := bodyRun_same (l'.drop 8) (posT g1 a) (m - (l'.drop 8).length) (l'.drop 8).length (Nat.le_refl _)
          rw [Nat.add_sub_cancel' (by rw [List.length_drop]; omega)] at e
          rw [e]
          simp
        · rfl
        · show [(0, AV.pv (.sl 3 (cut ((min l'.length 8 : Nat) : Int).toNat (l'.map Tok.pv).length (l'.map Tok.pv)))), (4, .ref 0 0 0), (5, .pv (pI (posT g1 a)))] = _
          rw [e0]
    | cons o os =>
      refine ⟨fun m2 env σ => ∃ g1 g2 : List Tok, (g1 ++ g2 = g ∧ g2.length = m2) ∧ σ = bldO (o :: os) ∧ env = [(0, .pv (.sl 3 (l'.map Tok.pv))), (4, .ref 0 0 0), (5, .pv (pI (posT g1 a))), (6, .pv (.int .u8 (signN 0 g1))), (7, .pv (.str (bytesT g1 a))), (8, .pv (pI (min l'.length 8 : Nat))), (19, .pv (.sl 3 (g.map Tok.pv))), (20, .pv (pI g.length)), (21, .pv (pI g1.length))], g.length, ⟨[], g, ⟨rfl, rfl⟩, rfl, ?_⟩, ?_⟩
      · show [(0, AV.pv (.sl 3 (l'.map Tok.pv))), (4, .ref 0 0 0), (5, .pv (pI a)), (6, .pv (.int .u8 0)), (7, .pv (.str [])), (8, .pv (pI (min l'.length 8 : Nat))), (19, .pv (.sl 3 (cut 0 ((min l'.length 8 : Nat) : Int).toNat (l'.map Tok.pv)))), (20, .pv (pI ((cut 0 ((min l'.length 8 : Nat) : Int).toNat (l'.map Tok.pv)).length : Nat))), (21, .pv (pI 0))] = _
        rw [e19, List.length_map]; rfl
      rintro m2 env σ ⟨g1, g2, ⟨hg, hm2⟩, rfl, rfl⟩
      have hgl : g1.length + g2.length = g.length := by rw [← hg, List.length_append]
      refine fun b hb => ?_
      rcases cmp hb with ⟨rfl, h2⟩ | ⟨rfl, h2⟩
      · cases g2 with
        | nil => simp at hgl; omega
        | cons t g2 =>
        simp only [List.length_cons] at hgl
        have hokt : TokOk t (posT g1 a) ∧ ToksOk g2 (posT g1 a + t.made.toNat) := by
          rw [← hg, toksOk_append] at hokg
          exact hokg.2
        have hmt := tok_made hokt.1
        have hbT := bytesT_len g1 a
        have htB := tokB_len t (posT g1 a)
        have hsg := signN_lt g1 0
        have hp8 : 2 ^ g1.length ≤ 2 ^ 7 := Nat.pow_le_pow_right (by omega) (by omega)
        have hp0 := Nat.two_pow_pos g1.length
        rw [Nat.zero_add] at hsg
        refine ⟨t.pv, ⟨by omega, by rw [Int.toNat_natCast, List.getElem?_map, ← hg, List.getElem?_append_right (Nat.le_refl _), Nat.sub_self]; rfl⟩, ?_⟩
        refine ⟨rfl, ?_⟩
        have next : ∀ x : Int, x = (posT g1 a : Int) + t.made → x = (posT (g1 ++ [t]) a : Nat) := by
          intro x hx
          rw [posT_append, hx]; simp only [posT]; omega
        cases hc : t.copy with
        | true =>
          have hd : t.d ≠ 0 := by unfold Tok.copy at hc; simpa using hc
          refine ⟨pB true, ⟨t, rfl, by rw [hc]⟩, ?_⟩
          refine ⟨by omega, ?_⟩
          refine fun x hx => ?_
          have hx : x = ((2 ^ g1.length : Nat) : Int) := by
            rw [hx]
            have e8 : min ((g1.length : Int)).toNat IntKind.u8.bits = g1.length := by
              have : IntKind.u8.bits = 8 := rfl
              omega
            rw [e8, Int.one_mul, show ((2 : Int) ^ g1.length) = ((2 ^ g1.length : Nat) : Int) by simp]
            exact wrap8n (by omega)
          subst hx
          refine fun x hx => ?_
          rw [or8 (by omega) (by omega), show 2 ^ g1.length = 2 ^ g1.length * 1 by omega, or_add (by omega)] at hx
          refine ⟨_, ⟨t, posT g1 a, rfl, hokt.1, rfl⟩, ?_⟩
          refine ⟨by omega, ?_⟩
          refine ⟨_, ⟨t, rfl, rfl⟩, ?_⟩
          refine fun y hy => ?_
          have hy := next y (n64 hy (by omega))
          subst hy
          refine fun z hz => ?_
          obtain rfl := n64 hz (by omega)
          refine ⟨g2.length, by simp at hm2; omega, g1 ++ [t], g2, ⟨by simp [hg], rfl⟩, rfl, ?_⟩
          have e6 : x = (signN 0 (g1 ++ [t]) : Nat) := by rw [hx, signN_append]; simp [signN, hd]
          have e7 : bytesT g1 a ++ tokB t (posT g1 a) = bytesT (g1 ++ [t]) a := by rw [bytesT_append]; simp [bytesT]
          have e21 : ((g1.length : Int) + 1) = ((g1 ++ [t]).length : Nat) := by simp
          rw [e6, e7, e21]
        | false =>
          have hd : ¬ t.d ≠ 0 := by unfold Tok.copy at hc; simpa using hc
          refine ⟨pB false, ⟨t, rfl, by rw [hc]⟩, ?_⟩
          refine ⟨_, ⟨t, posT g1 a, rfl, hokt.1, rfl⟩, ?_⟩
          refine ⟨by omega, ?_⟩
          refine ⟨_, ⟨t, rfl, rfl⟩, ?_⟩
          refine fun y hy => ?_
          have hy := next y (n64 hy (by omega))
          subst hy
          refine fun z hz => ?_
          obtain rfl := n64 hz (by omega)
          refine ⟨g2.length, by simp at hm2; omega, g1 ++ [t], g2, ⟨by simp [hg], rfl⟩, rfl, ?_⟩
          have e6 : signN 0 (g1 ++ [t]) = signN 0 g1 := by rw [signN_append]; simp [signN, hd]
          have e7 : bytesT g1 a ++ tokB t (posT g1 a) = bytesT (g1 ++ [t]) a := by rw [bytesT_append]; simp [bytesT]
          have e21 : ((g1.length : Int) + 1) = ((g1 ++ [t]).length : Nat) := by simp
          rw [e6, e7, e21]
      · have hg2 : g2 = [] := List.eq_nil_of_length_eq_zero (by omega)
        subst hg2
        rw [List.append_nil] at hg
        subst hg
        have hsg := signN_lt g1 0
        rw [Nat.zero_add] at hsg
        have hp8 : 2 ^ g1.length ≤ 2 ^ 8 := Nat.pow_le_pow_right (by omega) (by omega)
        have hbT := bytesT_len g1 a
        refine ⟨byteN (signN 0 g1), ?_, .inr ⟨o :: os, by omega, rfl, ?_⟩⟩
        · rw [byteP_of (by omega), Int.toNat_natCast]
        refine ⟨bytesT g1 a, rfl, (o :: os) ++ [byteN (signN 0 g1)], by simp only [List.length_append, List.length_cons, List.length_nil] at hol ⊢; omega, by omega, rfl, ?_⟩
        refine ⟨⟨by omega, by rw [List.length_map]; omega⟩, ?_⟩
        refine ⟨(l'.drop 8).length, by rw [List.length_drop]; omega, ((o :: os) ++ [byteN (signN 0 g1)]) ++ bytesT g1 a, l'.drop 8, posT g1 a, ⟨rfl, ?_, by rw [List.length_drop]; omega, ?_, fun _ => by simp⟩, ?_, ?_⟩
        · rw [← List.take_append_drop 8 l', toksOk_append, hgd] at hok'
          exact hok'.2
        · rw [hrun]
          rw [bodyRun, if_neg hl', hgd]
          have e := bodyRun_same (l'.drop 8) (posT g1 a) (m - (l'.drop 8).length) (l'.drop 8).length (Nat.le_refl _)
          rw [Nat.add_sub_cancel' (by rw [List.length_drop]; omega)] at e
          rw [e]
          simp
        · rfl
        · show [(0, AV.pv (.sl 3 (cut ((min l'.length 8 : Nat) : Int).toNat (l'.map Tok.pv).length (l'.map Tok.pv)))), (4, .ref 0 0 0), (5, .pv (pI (posT g1 a)))] = _
          rw [e0]
  · have hl' : l' = [] := List.eq_nil_of_length_eq_zero (by omega)
    subst hl'
    have hb : bodyN l = out := by
      rw [hrun]
      cases m with
      | zero => simp [bodyRun]
      | succ m => simp [bodyRun]
    rw [hb] at hK1 hK2
    cases out with
    | nil => exact absurd rfl (hout rfl)
    | cons o os =>
      refine ⟨o :: os, rfl, rfl, ?_⟩
      refine fun b hb => ?_
      rcases cmp hb with ⟨rfl, h2⟩ | ⟨rfl, h2⟩
      · exact ⟨[.pv _, .pv _], ⟨rfl, rfl, trivial⟩, ⟨trivial, trivial, trivial⟩, hK1 (by omega)⟩
      · have h3 : (o :: os).length ≤ 4096 := by omega
        refine ⟨o :: os, rfl, rfl, ?_⟩
        refine ⟨_, ⟨_, true, rfl, by simp only [List.length_cons] at h3 ⊢; omega, rfl⟩, ?_⟩
        refine ⟨rfl, o :: os, by simp, rfl, ?_⟩
        rw [Int.toNat_natCast]
        refine ⟨by simp [headN, wordN] at h3 ⊢; omega, ?_⟩
        exact ⟨[.pv (.str _), .pv _], ⟨rfl, rfl, trivial⟩, ⟨trivial, trivial, trivial⟩, hK2 h3⟩
end Go.Dv.Try
end
section
/-
  Contracts of chapter 6: data encoded.
-/
namespace Go.Dv.Try
open Go Go.Dv

theorem opt_ok (d : List UInt8) (h : d.length ≤ 4096) : ∀ (m a : Nat), a + m = d.length → ToksOk (optRun d (costsN d) m a) a := by
  intro m
  induction m using Nat.strongRecOn with
  | _ m ih =>
    intro a hm
    cases m with
    | zero => trivial
    | succ m =>
      have hmade := optAt_made d a (by omega)
      rw [optRun_step d m a hm]
      refine ⟨⟨by omega, ?_⟩, ih _ (by omega) _ (by omega)⟩
      unfold optAt
      split
      · rename_i hne
        have h1 := opt_find d a (by omega) hne
        have h2 := near_pos d a _ (by omega) h1.2.1
        have h3 := bestN_le d a
        have h4 : roomN d a ≤ longN a := Nat.min_le_left _ _
        unfold copyN
        simp only
        rw [if_pos (by omega)]
        refine ⟨trivial, ?_, ?_, ?_, ?_, ?_⟩ <;> omega
      · unfold litN
        have hlt : a < d.length := by omega
        have := (d[a]?.getD 0).toNat_lt
        simp only [ne_eq, not_true_eq_false, if_false, true_and]
        omega
theorem opt_toks (d : List UInt8) (h : d.length ≤ 4096) : ToksOk (optN d) 0 := opt_ok d h d.length 0 (by omega)
theorem opt_ne (d : List UInt8) (h : 0 < d.length) : optN d ≠ [] := by
  unfold optN
  obtain ⟨m, hm⟩ : ∃ m, d.length = m + 1 := ⟨d.length - 1, by omega⟩
  rw [hm, optRun_step d m 0 (by omega)]
  simp

/-- Data encoded. -/
def encN (d : List UInt8) : List UInt8 :=
  if (bodyN (optN d)).length < d.length then headN (bodyN (optN d)).length true ++ bodyN (optN d) else headN d.length false ++ d

theorem headN_len (n : Nat) (b : Bool) : (headN n b).length = 2 := rfl

def S_Encode : Spec := mkS true false fun ps K => ∃ d : List UInt8, ps = [.str d] ∧ ((dErr d.length ≠ 0 → K (.tup [.pv (.str []), .pv (pI (dErr d.length))])) ∧ (dErr d.length = 0 → K (.tup [.pv (.str (encN d)), .pv (pI 0)])))
theorem meets_Encode : Meets (ctxOf [(n_compress_dataErr, fnSpec R_ref06_DataErr), (n_compress_head, fnSpec R_head), (n_compress_data_optimal, S_optimal), (n_compress_chunk, S_chunk)]) s_compress_Encode c_compress_Encode r_compress_Encode S_Encode := by
  rintro _ K ⟨d, rfl, hK1, hK2⟩
  refine ⟨_, ⟨d, rfl, rfl⟩, ?_⟩
  refine fun b hb => ?_
  rcases cmp hb with ⟨rfl, h⟩ | ⟨rfl, h⟩
  · exact ⟨[.pv (.str _), .pv _], ⟨rfl, rfl, trivial⟩, ⟨trivial, trivial, trivial⟩, hK1 h⟩
  have h0 := dErr_zero h
  have hK := hK2 h0.2.2
  refine ⟨_, ⟨_, false, rfl, by omega, rfl⟩, ?_⟩
  rw [Int.toNat_natCast]
  refine ⟨by rw [headN_len]; omega, ?_⟩
  refine ⟨d, rfl, h0.1, ?_⟩
  refine ⟨optN d, rfl, ⟨opt_ne d h0.2.1, opt_toks d h0.1⟩, ?_, ?_⟩
  · intro h4
    refine fun b hb => ?_
    rcases cmp hb with ⟨rfl, h5⟩ | ⟨rfl, h5⟩
    · cases h5
    · have e : encN d = headN d.length false ++ d := by unfold encN; rw [if_neg (by omega)]
      rw [e] at hK
      exact ⟨[.pv (.str _), .pv _], ⟨rfl, rfl, trivial⟩, ⟨trivial, trivial, trivial⟩, hK⟩
  · intro h4
    refine fun b hb => ?_
    rcases cmp hb with ⟨rfl, h5⟩ | ⟨rfl, h5⟩
    · refine fun b hb => ?_
      rw [List.length_append, List.length_append, headN_len, headN_len] at hb
      rcases cmp hb with ⟨rfl, h6⟩ | ⟨rfl, h6⟩
      · have e : encN d = headN (bodyN (optN d)).length true ++ bodyN (optN d) := by unfold encN; rw [if_pos (by omega)]
        rw [e] at hK
        exact ⟨[.pv (.str _), .pv _], ⟨rfl, rfl, trivial⟩, ⟨trivial, trivial, trivial⟩, hK⟩
      · have e : encN d = headN d.length false ++ d := by unfold encN; rw [if_neg (by omega)]
        rw [e] at hK
        exact ⟨[.pv (.str _), .pv _], ⟨rfl, rfl, trivial⟩, ⟨trivial, trivial, trivial⟩, hK⟩
    · exact absurd rfl h5

end Go.Dv.Try
end
section
/-
  Chapter 6: the examples hold; the first laws.
-/
namespace Go.Dv.Try
open Go Go.Dv

end Go.Dv.Try
end
section
/-
  Chapter 6: the first laws.
-/
namespace Go.Dv.Try
open Go Go.Dv

end Go.Dv.Try
end
section
/-
  Plain laws of chapter 6: the bytes of tokens, one token after the other.
-/
namespace Go.Dv.Try
open Go Go.Dv

end Go.Dv.Try
end
section
/-
  Contracts of chapter 6: the reference's body and its encoding.
-/
namespace Go.Dv.Try
open Go Go.Dv

theorem getTok {g1 g2 l : List Tok} {t : Tok} (h : g1 ++ t :: g2 = l) {i : Int} (hi : i = g1.length) : (l.map Tok.pv)[i.toNat]? = some t.pv := by
  subst h; subst hi
  rw [Int.toNat_natCast, List.getElem?_map, List.getElem?_append_right (Nat.le_refl _), Nat.sub_self]; rfl

end Go.Dv.Try
end
section
/-
  Contracts of chapter 6: the reference's encoding; the law of optimal tokens.
-/
namespace Go.Dv.Try
open Go Go.Dv

theorem body_ne (l : List Tok) (h : l ≠ []) : 0 < (bodyN l).length := by
  unfold bodyN
  cases l with
  | nil => exact absurd rfl h
  | cons t l => simp [bodyRun]

end Go.Dv.Try
end
section
/-
  Contracts of chapter 6: costs checked; the law of costs.
-/
namespace Go.Dv.Try
open Go Go.Dv

end Go.Dv.Try
end
section
/-
  What the laws' arguments of chapter 6 are.
-/
namespace Go.Dv.Try
open Go Go.Dv

end Go.Dv.Try
end
section
/-
  Plain laws of chapter 6: errors of tokens; what tokens make.
-/
namespace Go.Dv.Try
open Go Go.Dv

/-- The error of a token at a position. -/
def tokErr (t : Tok) (a : Nat) : Int :=
  if 4096 ≤ a then 8
  else if t.d ≠ 0 then
    (if t.b ≠ 0 then 3 else if ¬ (1 ≤ t.d ∧ t.d ≤ a ∧ 3 ≤ t.l ∧ t.l ≤ longN a) then 2 else if 4096 < a + t.l then 8 else 0)
  else (if t.l ≠ 0 then 3 else if ¬ (0 ≤ t.b ∧ t.b ≤ 255) then 2 else 0)

theorem tokErr_ok {t : Tok} {a : Nat} : tokErr t a = 0 ↔ TokOk t a := by
  unfold tokErr TokOk
  by_cases h : 4096 ≤ a
  · rw [if_pos h]; constructor
    · intro h; cases h
    · intro h'; omega
  · rw [if_neg h]
    by_cases hd : t.d ≠ 0
    · rw [if_pos hd, if_pos hd]
      split
      · constructor
        · intro h; cases h
        · intro h'; omega
      · split
        · constructor
          · intro h; cases h
          · intro h'; omega
        · split
          · constructor
            · intro h; cases h
            · intro h'; omega
          · constructor
            · intro _; omega
            · intro _; rfl
    · rw [if_neg hd, if_neg hd]
      split
      · constructor
        · intro h; cases h
        · intro h'; omega
      · split
        · constructor
          · intro h; cases h
          · intro h'; omega
        · constructor
          · intro _; omega
          · intro _; rfl

/-- The first token that may not stand, by its number; its error. -/
def checkRun : List Tok → Nat → Nat → Int × Int
  | [], _, _ => (0, 0)
  | t :: l, i, a => if tokErr t a ≠ 0 then ((i : Int), tokErr t a) else checkRun l (i + 1) (a + t.made.toNat)
def checkN (l : List Tok) : Int × Int := if l = [] then (0, 17) else checkRun l 0 0

theorem checkRun_ok : ∀ (l : List Tok) (i a : Nat), (checkRun l i a).2 = 0 ↔ ToksOk l a := by
  intro l
  induction l with
  | nil => intro i a; simp [checkRun, ToksOk]
  | cons t l ih =>
    intro i a
    unfold checkRun ToksOk
    split
    · rename_i h
      constructor
      · intro h'; exact absurd h' h
      · intro h'; exact absurd (tokErr_ok.2 h'.1) h
    · rename_i h
      rw [ih]
      have := tokErr_ok.1 (Decidable.of_not_not h)
      simp [this]
theorem checkRun_zero : ∀ (l : List Tok) (i a : Nat), (checkRun l i a).2 = 0 → (checkRun l i a).1 = 0 := by
  intro l
  induction l with
  | nil => intro i a _; rfl
  | cons t l ih =>
    intro i a h
    unfold checkRun at h ⊢
    split
    · rename_i h'
      rw [if_pos h'] at h; exact absurd h h'
    · rename_i h'
      rw [if_neg h'] at h; exact ih _ _ h
theorem checkN_zero {l : List Tok} (h : (checkN l).2 = 0) : (checkN l).1 = 0 ∧ l ≠ [] ∧ ToksOk l 0 := by
  unfold checkN at h ⊢
  split at h
  · cases h
  · rename_i hl
    rw [if_neg hl]
    exact ⟨checkRun_zero _ _ _ h, hl, (checkRun_ok _ _ _).1 h⟩
/-- Bytes copied from so far behind. -/
def copyOut : Nat → Nat → List UInt8 → List UInt8
  | 0, _, out => out
  | n + 1, d, out => copyOut n d (out ++ [out[out.length - d]?.getD 0])
theorem copyOut_len : ∀ (n d : Nat) (out : List UInt8), (copyOut n d out).length = out.length + n := by
  intro n
  induction n with
  | zero => intro d out; rfl
  | succ n ih => intro d out; simp only [copyOut, ih, List.length_append, List.length_cons, List.length_nil]; omega
/-- What a token makes, behind what is there. -/
def expT (t : Tok) (out : List UInt8) : List UInt8 := if t.d ≠ 0 then copyOut t.l.toNat t.d.toNat out else out ++ [byteN t.b.toNat]
def expRun : List Tok → List UInt8 → List UInt8
  | [], out => out
  | t :: l, out => expRun l (expT t out)
def expN (l : List Tok) : List UInt8 := expRun l []

theorem expT_len {t : Tok} {a : Nat} (h : TokOk t a) (out : List UInt8) : (expT t out).length = out.length + t.made.toNat := by
  unfold TokOk at h
  unfold expT Tok.made
  split
  · rw [copyOut_len]
  · simp
theorem expRun_len : ∀ (l : List Tok) (out : List UInt8) (a : Nat), ToksOk l a → (expRun l out).length + a = out.length + posT l a := by
  intro l
  induction l with
  | nil => intro out a _; simp [expRun, posT]
  | cons t l ih =>
    intro out a h
    obtain ⟨h1, h2⟩ := h
    have h3 := ih (expT t out) _ h2
    have h4 := expT_len h1 out
    simp only [expRun, posT]
    omega
theorem posT_le : ∀ (l : List Tok) (a : Nat), ToksOk l a → a ≤ 4096 → posT l a ≤ 4096 := by
  intro l
  induction l with
  | nil => intro a _ h; exact h
  | cons t l ih =>
    intro a h _
    have := tok_made h.1
    exact ih _ h.2 (by omega)
end Go.Dv.Try
end
section
/-
  Contracts of chapter 6: errors of tokens.
-/
namespace Go.Dv.Try
open Go Go.Dv

theorem NOT_t {K : Bool → Prop} (k : K false) : ∀ r : Bool, (r = true ↔ true = false) → K r := fun r hr => by
  cases r with
  | false => exact k
  | true => exact absurd (hr.1 rfl) (by decide)
theorem NOT_f {K : Bool → Prop} (k : K true) : ∀ r : Bool, (r = true ↔ false = false) → K r := fun r hr => by
  cases r with
  | false => exact absurd (hr.2 rfl) (by decide)
  | true => exact k

def R_tokenErr (ps : List PV) (x : PV) : Prop := ∃ (t : Tok) (a : Nat), ps = [t.pv, pI a] ∧ a ≤ 4096 ∧ x = pI (tokErr t a)

theorem first2 (a b : Int) : firstZ [a, b] = if a = 0 then b else a := by
  show (if a = 0 then (if b = 0 then 0 else b) else a) = _
  by_cases h : b = 0
  · rw [if_pos h, h]
  · rw [if_neg h]
theorem unless_t (e : Int) : unlessZ true e = 0 := rfl
theorem unless_f (e : Int) : unlessZ false e = e := rfl

end Go.Dv.Try
end
section
/-
  Contracts of chapter 6: errors of tokens in the program.
-/
namespace Go.Dv.Try
open Go Go.Dv

theorem tokErr_big {t : Tok} {a : Nat} (h : ¬ (a : Int) < 4096) : tokErr t a = 8 := by unfold tokErr; rw [if_pos (by omega)]
theorem tokErr_c3 {t : Tok} {a : Nat} (h : (a : Int) < 4096) (hd : t.d ≠ 0) (hb : t.b ≠ 0) : tokErr t a = 3 := by unfold tokErr; rw [if_neg (by omega), if_pos hd, if_pos hb]
theorem tokErr_c {t : Tok} {a : Nat} (h : (a : Int) < 4096) (hd : t.d ≠ 0) (hb : t.b = 0) : tokErr t a = if ¬ (1 ≤ t.d ∧ t.d ≤ a ∧ 3 ≤ t.l ∧ t.l ≤ longN a) then 2 else if 4096 < a + t.l then 8 else 0 := by unfold tokErr; rw [if_neg (by omega), if_pos hd, if_neg (by omega)]
theorem tokErr_l3 {t : Tok} {a : Nat} (h : (a : Int) < 4096) (hd : ¬ t.d ≠ 0) (hb : t.l ≠ 0) : tokErr t a = 3 := by unfold tokErr; rw [if_neg (by omega), if_neg hd, if_pos hb]
theorem tokErr_l {t : Tok} {a : Nat} (h : (a : Int) < 4096) (hd : ¬ t.d ≠ 0) (hb : t.l = 0) : tokErr t a = if ¬ (0 ≤ t.b ∧ t.b ≤ 255) then 2 else 0 := by unfold tokErr; rw [if_neg (by omega), if_neg hd, if_neg (by omega)]

theorem meets_tokenErr : Meets (ctxOf [(n_compress_isCopy, fnSpec R_compress_isCopy), (n_compress_unless, fnSpec R_compress_unless), (n_compress_first, fnSpec R_compress_first), (n_compress_within, fnSpec R_compress_within), (n_compress_longest, fnSpec R_compress_longest), (n_compress_made, fnSpec R_compress_made)]) s_compress_tokenErr c_compress_tokenErr r_compress_tokenErr (fnSpec R_tokenErr) := by
  rintro _ K ⟨_, ⟨t, a, rfl, ha, rfl⟩, hK⟩
  refine ⟨by kernel_rfl, ?_⟩
  refine fun b hb => ?_
  refine ⟨_, ⟨b, 8, rfl, rfl⟩, ?_⟩
  have big := @tokErr_big t a
  cases hc : t.copy with
  | true =>
    have hd : t.d ≠ 0 := by unfold Tok.copy at hc; simpa using hc
    refine ⟨pB true, ⟨t, rfl, by rw [hc]⟩, ?_⟩
    refine fun e he => ?_
    rcases cmp he with ⟨rfl, h1⟩ | ⟨rfl, h1⟩
    · refine ⟨_, ⟨true, 3, rfl, rfl⟩, ?_⟩
      refine ⟨rfl, ?_⟩
      refine ⟨_, ⟨[unlessZ b 8, unlessZ true 3], rfl, rfl⟩, ?_⟩
      rcases cmp hb with ⟨rfl, h⟩ | ⟨rfl, h⟩
      · refine fun q hq => ?_
        rcases cmp hq with ⟨rfl, h2⟩ | ⟨rfl, h2⟩
        · exact absurd rfl h2
        refine ⟨_, ⟨_, _, _, rfl, rfl⟩, ?_⟩
        refine ⟨pB true, ⟨t, rfl, by rw [hc]⟩, ?_⟩
        refine ⟨by kernel_rfl, ?_⟩
        by_cases h2 : 1 ≤ t.d ∧ t.d ≤ a
        · refine ⟨pB true, ⟨_, _, _, rfl, pB_eq (by simpa using h2)⟩, ?_⟩
          refine ⟨_, ⟨a, rfl, by omega, rfl⟩, ?_⟩
          refine ⟨_, ⟨_, _, _, rfl, rfl⟩, ?_⟩
          refine ⟨by kernel_rfl, ?_⟩
          refine ⟨_, ⟨decide (3 ≤ t.l ∧ t.l ≤ longZ a), 2, rfl, rfl⟩, ?_⟩
          refine ⟨_, ⟨t, rfl, rfl⟩, ?_⟩
          refine fun x hx => ?_
          obtain rfl := n64 hx (by omega)
          refine fun c hc2 => ?_
          refine ⟨_, ⟨c, 8, rfl, rfl⟩, ?_⟩
          refine ⟨rfl, ?_⟩
          refine ⟨_, ⟨[unlessZ (decide (3 ≤ t.l ∧ t.l ≤ longZ a)) 2, unlessZ c 8], rfl, rfl⟩, ?_⟩
          refine ⟨.pv (pI _), pI_eq ?_, trivial, hK⟩
          rw [first2, tokErr_c h hd h1]
          have hm : t.made = t.l := by unfold Tok.made; rw [if_pos hd]
          rw [hm] at hc2
          unfold longZ
          rw [Int.toNat_natCast]
          by_cases h3 : 3 ≤ t.l ∧ t.l ≤ (longN a : Int)
          · rw [decide_eq_true h3, unless_t, if_pos rfl, if_neg (fun hn => hn ⟨h2.1, h2.2, h3⟩)]
            rcases cmp hc2 with ⟨rfl, h4⟩ | ⟨rfl, h4⟩
            · rw [if_neg (by omega)]; rfl
            · rw [if_pos (by omega)]; rfl
          · rw [decide_eq_false h3, unless_f, if_neg (show ¬ (2 : Int) = 0 by decide), if_pos (fun hn => h3 hn.2.2)]
        · refine ⟨pB false, ⟨_, _, _, rfl, pB_eq (by simpa using h2)⟩, ?_⟩
          refine ⟨by kernel_rfl, ?_⟩
          refine ⟨_, ⟨false, 2, rfl, rfl⟩, ?_⟩
          refine ⟨_, ⟨t, rfl, rfl⟩, ?_⟩
          refine fun x hx => ?_
          obtain rfl := n64 hx (by omega)
          refine fun c hc2 => ?_
          refine ⟨_, ⟨c, 8, rfl, rfl⟩, ?_⟩
          refine ⟨rfl, ?_⟩
          refine ⟨_, ⟨[unlessZ false 2, unlessZ c 8], rfl, rfl⟩, ?_⟩
          refine ⟨.pv (pI _), pI_eq ?_, trivial, hK⟩
          rw [first2, unless_f, if_neg (by decide)]
          rw [tokErr_c h hd h1, if_pos (fun hn => h2 ⟨hn.1, hn.2.1⟩)]
      · refine fun q hq => ?_
        rcases cmp hq with ⟨rfl, h2⟩ | ⟨rfl, h2⟩
        · refine ⟨.pv (pI _), pI_eq ?_, trivial, hK⟩
          rw [big h]; rfl
        · exact absurd (by decide) h2
    · refine ⟨pB true, ⟨t, rfl, by rw [hc]⟩, ?_⟩
      refine NOT_t ?_
      refine ⟨_, ⟨false, 3, rfl, rfl⟩, ?_⟩
      refine ⟨rfl, ?_⟩
      refine ⟨_, ⟨[unlessZ b 8, unlessZ false 3], rfl, rfl⟩, ?_⟩
      refine fun q hq => ?_
      rcases cmp hb with ⟨rfl, h⟩ | ⟨rfl, h⟩
      · rcases cmp hq with ⟨rfl, h2⟩ | ⟨rfl, h2⟩
        · refine ⟨.pv (pI _), pI_eq ?_, trivial, hK⟩
          rw [tokErr_c3 h hd h1]; rfl
        · exact absurd (by decide) h2
      · rcases cmp hq with ⟨rfl, h2⟩ | ⟨rfl, h2⟩
        · refine ⟨.pv (pI _), pI_eq ?_, trivial, hK⟩
          rw [big h]; rfl
        · exact absurd (by decide) h2
  | false =>
    have hd : ¬ t.d ≠ 0 := by unfold Tok.copy at hc; simpa using hc
    have hm : t.made = 1 := by unfold Tok.made; rw [if_neg hd]
    refine ⟨pB false, ⟨t, rfl, by rw [hc]⟩, ?_⟩
    refine ⟨pB false, ⟨t, rfl, by rw [hc]⟩, ?_⟩
    refine NOT_f ?_
    refine fun e he => ?_
    refine ⟨_, ⟨e, 3, rfl, rfl⟩, ?_⟩
    refine ⟨rfl, ?_⟩
    refine ⟨_, ⟨[unlessZ b 8, unlessZ e 3], rfl, rfl⟩, ?_⟩
    refine fun q hq => ?_
    rcases cmp hb with ⟨rfl, h⟩ | ⟨rfl, h⟩
    · rcases cmp he with ⟨rfl, h1⟩ | ⟨rfl, h1⟩
      · rcases cmp hq with ⟨rfl, h2⟩ | ⟨rfl, h2⟩
        · exact absurd rfl h2
        refine ⟨_, ⟨_, _, _, rfl, rfl⟩, ?_⟩
        refine ⟨pB false, ⟨t, rfl, by rw [hc]⟩, ?_⟩
        refine ⟨by kernel_rfl, ?_⟩
        refine ⟨_, ⟨decide (0 ≤ t.b ∧ t.b ≤ 255), 2, rfl, rfl⟩, ?_⟩
        refine ⟨_, ⟨t, rfl, rfl⟩, ?_⟩
        refine fun x hx => ?_
        obtain rfl := n64 hx (by omega)
        refine fun c hc2 => ?_
        refine ⟨_, ⟨c, 8, rfl, rfl⟩, ?_⟩
        refine ⟨rfl, ?_⟩
        refine ⟨_, ⟨[unlessZ (decide (0 ≤ t.b ∧ t.b ≤ 255)) 2, unlessZ c 8], rfl, rfl⟩, ?_⟩
        refine ⟨.pv (pI _), pI_eq ?_, trivial, hK⟩
        rw [hm] at hc2
        rw [first2, tokErr_l h hd h1]
        by_cases h3 : 0 ≤ t.b ∧ t.b ≤ 255
        · rw [decide_eq_true h3, unless_t, if_pos rfl, if_neg (fun hn => hn h3)]
          rcases cmp hc2 with ⟨rfl, h4⟩ | ⟨rfl, h4⟩
          · rfl
          · omega
        · rw [decide_eq_false h3, unless_f, if_neg (show ¬ (2 : Int) = 0 by decide), if_pos h3]
      · rcases cmp hq with ⟨rfl, h2⟩ | ⟨rfl, h2⟩
        · refine ⟨.pv (pI _), pI_eq ?_, trivial, hK⟩
          rw [tokErr_l3 h hd h1]; rfl
        · exact absurd (by decide) h2
    · have h8 : firstZ [unlessZ false 8, unlessZ e 3] = 8 := rfl
      rcases cmp hq with ⟨rfl, h2⟩ | ⟨rfl, h2⟩
      · refine ⟨.pv (pI _), pI_eq ?_, trivial, hK⟩
        rw [big h, h8]
      · exact absurd (by rw [h8]; decide) h2
end Go.Dv.Try
end
section
/-
  Contracts of chapter 6: tokens checked.
-/
namespace Go.Dv.Try
open Go Go.Dv

def S_CheckTokens : Spec := mkS true false fun ps K => ∃ l : List Tok, ps = [.sl 3 (l.map Tok.pv)] ∧ l.length ≤ 5000 ∧ K (.tup [.pv (pI (checkN l).1), .pv (pI (checkN l).2)])

theorem meets_CheckTokens : Meets (ctxOf [(n_compress_tokenErr, fnSpec R_tokenErr), (n_compress_made, fnSpec R_compress_made)]) s_compress_CheckTokens c_compress_CheckTokens r_compress_CheckTokens S_CheckTokens := by
  rintro _ K ⟨l, rfl, hl, hK⟩
  refine fun _ => ?_
  refine fun b hb => ?_
  rw [List.length_map] at hb
  rcases cmp hb with ⟨rfl, h⟩ | ⟨rfl, h⟩
  · have : l = [] := List.eq_nil_of_length_eq_zero (by omega)
    subst this
    exact ⟨[.pv (pI _), .pv (pI _)], ⟨rfl, rfl, trivial⟩, ⟨trivial, trivial, trivial⟩, hK⟩
  have hne : l ≠ [] := by intro e; subst e; exact h rfl
  have hc : checkN l = checkRun l 0 0 := by unfold checkN; rw [if_neg hne]
  rw [hc] at hK
  refine fun _ => ?_
  rw [List.length_map]
  refine ⟨fun m env σ => ∃ (g1 g2 : List Tok) (a : Nat), (g1 ++ g2 = l ∧ g2.length = m ∧ a ≤ 4096 ∧ checkRun l 0 0 = checkRun g2 g1.length a) ∧ σ = [] ∧ env = [(4, .pv (pI a)), (11, .pv (.sl 3 (l.map Tok.pv))), (12, .pv (pI l.length)), (13, .pv (pI g1.length))], l.length, ⟨[], l, 0, ⟨rfl, rfl, by omega, rfl⟩, rfl, rfl⟩, ?_⟩
  rintro m env σ ⟨g1, g2, a, ⟨hg, hm, ha, hrun⟩, rfl, rfl⟩
  have hgl : g1.length + g2.length = l.length := by rw [← hg, List.length_append]
  refine fun b hb => ?_
  rcases cmp hb with ⟨rfl, h2⟩ | ⟨rfl, h2⟩
  · cases g2 with
    | nil => simp at hgl; omega
    | cons t g2 =>
    simp only [List.length_cons] at hgl hm
    refine ⟨_, ⟨by omega, getTok hg rfl⟩, ?_⟩
    refine ⟨rfl, ?_⟩
    refine ⟨_, ⟨t, a, rfl, ha, rfl⟩, ?_⟩
    refine fun b hb => ?_
    rcases cmp hb with ⟨rfl, h3⟩ | ⟨rfl, h3⟩
    · refine ⟨[.pv (pI _), .pv (pI _)], ⟨rfl, rfl, trivial⟩, ⟨trivial, trivial, trivial⟩, ?_⟩
      rw [hrun, checkRun, if_pos h3] at hK
      exact hK
    · have hok := tokErr_ok.1 (Decidable.of_not_not h3)
      have hmt := tok_made hok
      refine ⟨_, ⟨t, rfl, rfl⟩, ?_⟩
      refine fun x hx => ?_
      obtain rfl := n64 hx (by omega)
      refine fun x hx => ?_
      obtain rfl := n64 hx (by omega)
      refine ⟨g2.length, by omega, g1 ++ [t], g2, a + t.made.toNat, ⟨by simp [hg], rfl, by omega, ?_⟩, rfl, ?_⟩
      · rw [hrun, checkRun, if_neg h3]; simp
      · rw [show ((a + t.made.toNat : Nat) : Int) = (a : Int) + t.made by omega, List.length_append]; rfl
  · have : g2 = [] := List.eq_nil_of_length_eq_zero (by omega)
    subst this
    rw [hrun] at hK
    exact ⟨[.pv (pI _), .pv (pI _)], ⟨rfl, rfl, trivial⟩, ⟨trivial, trivial, trivial⟩, hK⟩

end Go.Dv.Try
end
section
/-
  Contracts of chapter 6: what tokens make.
-/
namespace Go.Dv.Try
open Go Go.Dv

theorem copyOut_succ : ∀ (k d : Nat) (out : List UInt8), copyOut (k + 1) d out = copyOut k d out ++ [(copyOut k d out)[(copyOut k d out).length - d]?.getD 0] := by
  intro k
  induction k with
  | zero => intro d out; rfl
  | succ k ih =>
    intro d out
    show copyOut (k + 1) d (out ++ [out[out.length - d]?.getD 0]) = _
    rw [ih]
    rfl

def S_expanded : Spec := mkS true false fun ps K => ∃ l : List Tok, ps = [.sl 3 (l.map Tok.pv)] ∧ ToksOk l 0 ∧ K (.pv (.str (expN l)))

theorem meets_expanded : Meets (ctxOf [(n_compress_isCopy, fnSpec R_compress_isCopy)]) s_compress_expanded c_compress_expanded r_compress_expanded S_expanded := by
  rintro _ K ⟨l, rfl, hok, hK⟩
  have hlen : l.length ≤ 4096 := by
    by_cases h : l = []
    · subst h; simp
    · have := toksOk_len l 0 hok h; omega
  refine fun _ => ?_
  rw [List.length_map]
  refine ⟨fun m env σ => ∃ (g1 g2 : List Tok) (out : List UInt8), (g1 ++ g2 = l ∧ g2.length = m ∧ ToksOk g2 out.length ∧ out.length ≤ 4096 ∧ expN l = expRun g2 out) ∧ σ = [.row 5 1 true (out.map byteP)] ∧ env = [(3, .own 0), (6, .pv (.sl 3 (l.map Tok.pv))), (7, .pv (pI l.length)), (8, .pv (pI g1.length))], l.length, ⟨[], l, [], ⟨rfl, rfl, hok, by simp, rfl⟩, rfl, rfl⟩, ?_⟩
  rintro m env σ ⟨g1, g2, out, ⟨hg, hm, hok2, hout, hrun⟩, rfl, rfl⟩
  have hgl : g1.length + g2.length = l.length := by rw [← hg, List.length_append]
  refine fun b hb => ?_
  rcases cmp hb with ⟨rfl, h2⟩ | ⟨rfl, h2⟩
  · cases g2 with
    | nil => simp at hgl; omega
    | cons t g2 =>
    simp only [List.length_cons] at hgl hm
    obtain ⟨hokt, hokr⟩ := hok2
    have hmt := tok_made hokt
    have hto := hokt
    unfold TokOk at hto
    refine ⟨_, ⟨by omega, getTok hg rfl⟩, ?_⟩
    refine ⟨rfl, ?_⟩
    cases hc : t.copy with
    | false =>
      have hd : ¬ t.d ≠ 0 := by unfold Tok.copy at hc; simpa using hc
      have hm1 : t.made = 1 := by unfold Tok.made; rw [if_neg hd]
      rw [if_neg hd] at hto
      refine ⟨pB false, ⟨t, rfl, by rw [hc]⟩, ?_⟩
      refine NOT_f ?_
      refine fun x hx => ?_
      rw [wrapU8] at hx
      refine ⟨rfl, ?_⟩
      refine ⟨⟨by simp; omega, by simp; omega⟩, ?_⟩
      refine fun y hy => ?_
      obtain rfl := n64 hy (by omega)
      have e : expT t out = out ++ [byteN t.b.toNat] := by unfold expT; rw [if_neg hd]
      refine ⟨g2.length, by omega, g1 ++ [t], g2, expT t out, ⟨by simp [hg], rfl, ?_, ?_, ?_⟩, ?_, ?_⟩
      · rw [expT_len hokt]; exact hokr
      · rw [expT_len hokt]; omega
      · rw [hrun]; rfl
      · rw [e, byteP_of (n := x) (by omega), List.map_append, show x.toNat = t.b.toNat by omega]; rfl
      · rw [List.length_append]; rfl
    | true =>
      have hd : t.d ≠ 0 := by unfold Tok.copy at hc; simpa using hc
      have hm1 : t.made = t.l := by unfold Tok.made; rw [if_pos hd]
      rw [if_pos hd] at hto
      refine ⟨pB true, ⟨t, rfl, by rw [hc]⟩, ?_⟩
      refine NOT_t ?_
      refine ⟨fun m2 env σ => ∃ k : Nat, (k + m2 = t.l) ∧ σ = [.row 5 1 true ((copyOut k t.d.toNat out).map byteP), .box T_api_CompressToken [.pv (pI t.d), .pv (pI t.l), .pv (pI t.b)]] ∧ env = [(3, .own 0), (5, .ref 1 0 0), (6, .pv (.sl 3 (l.map Tok.pv))), (7, .pv (pI l.length)), (8, .pv (pI g1.length)), (22, .pv (pI t.l)), (23, .pv (pI k))], t.l.toNat, ⟨0, by omega, rfl, rfl⟩, ?_⟩
      rintro m2 env σ ⟨k, hk, rfl, rfl⟩
      have hcl := copyOut_len k t.d.toNat out
      refine fun b hb => ?_
      rcases cmp hb with ⟨rfl, h3⟩ | ⟨rfl, h3⟩
      · refine fun _ => ?_
        rw [List.length_map]
        refine fun x hx => ?_
        obtain rfl := n64 hx (by omega)
        obtain ⟨v, hv⟩ : ∃ v, (copyOut k t.d.toNat out)[(copyOut k t.d.toNat out).length - t.d.toNat]? = some v := by rw [List.getElem?_eq_getElem (by omega)]; exact ⟨_, rfl⟩
        refine ⟨⟨by omega, by rw [List.length_map]; omega⟩, byteP v, ?_, ?_⟩
        · rw [List.getElem?_map, show (((copyOut k t.d.toNat out).length : Int) - t.d).toNat = (copyOut k t.d.toNat out).length - t.d.toNat by omega, hv]; rfl
        refine ⟨rfl, ?_⟩
        refine ⟨⟨by simp; omega, by simp; omega⟩, ?_⟩
        refine fun y hy => ?_
        obtain rfl := n64 hy (by omega)
        refine ⟨m2 - 1, by omega, k + 1, by omega, ?_, rfl⟩
        rw [copyOut_succ, hv, List.map_append]; rfl
      · have ek : k = t.l.toNat := by omega
        subst ek
        have e : expT t out = copyOut t.l.toNat t.d.toNat out := by unfold expT; rw [if_pos hd]
        refine fun y hy => ?_
        obtain rfl := n64 hy (by omega)
        refine ⟨g2.length, by omega, g1 ++ [t], g2, expT t out, ⟨by simp [hg], rfl, ?_, ?_, ?_⟩, ?_, ?_⟩
        · rw [expT_len hokt]; exact hokr
        · rw [expT_len hokt]; omega
        · rw [hrun]; rfl
        · rw [e]
        · rw [List.length_append]; rfl
  · have : g2 = [] := List.eq_nil_of_length_eq_zero (by omega)
    subst this
    rw [hrun] at hK
    refine ⟨out, rfl, ?_⟩
    exact ⟨.pv (.str _), rfl, trivial, hK⟩
end Go.Dv.Try
end
section
/-
  Contracts of chapter 6: chunks of tokens; the law of tokens.
-/
namespace Go.Dv.Try
open Go Go.Dv

end Go.Dv.Try
end
