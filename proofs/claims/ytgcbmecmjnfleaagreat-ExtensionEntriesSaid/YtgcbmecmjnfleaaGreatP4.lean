/- Own work: parts of the proof, shortened and laid together by a tool of our own. -/
import Derived.Test.YtgcbmecmjnfleaaGreatP3
import Derived.Test.YtgcbmecmjnfleaaGreatProg
import Derived.KernelRfl
import Derived.Shelf.Strings.Search1
import Derived.MapKept
set_option linter.defProp false
set_option linter.unusedSimpArgs false
set_option linter.unusedVariables false
open List renaming getElem?_eq_getElem→zak, length_append→zae, mem_of_getElem?→zad, length_map→zan, append_assoc→zah, drop_eq_getElem_cons→zcn, take_of_length_le→za1, length_cons→zap, length_nil→zaZ, drop_eq_nil_of_le→zcd, map_append→zaD, take_add_one→zct, getElem?_take_of_lt→zcu, length_replicate→zaq, append_nil→zaY, map_replicate→zcx, getLast?_eq_getElem?→zb8, nil_append→za0, length_pos_iff→zcE, getElem?_map→zbC, any_eq_false→zcG, getElem_mem→zcI, length_set→zaL
open Decidable renaming not_not→zba
open Bool renaming false_eq_true→zaG, eq_iff_iff→zaM
open And renaming intro→zco
open Nat renaming lt_or_eq_of_le→zcp, le_of_lt_succ→zcr, le_refl→zaj
open Int renaming ediv_ediv_of_nonneg→zcq, eq_ofNat_of_zero_le→zcs, toNat_natCast→zcl, pow_succ→zcv, mul_le_mul_of_nonpos_left→zcw, ediv_neg_of_neg_of_pos→zcy, emod_eq_zero_of_dvd→zcz, dvd_of_emod_eq_zero→zcA, le_ediv_iff_mul_le→zcC, pow_nonneg→zcD, emod_lt_of_pos→zcF, tmod_eq_emod→zcJ, ediv_le_self→zcK, emod_nonneg→zcL
open UInt8 renaming toNat_inj→zcB, toNat_lt→zch
open Array renaming toList_inj→zcH
set_option maxHeartbeats 16000000
noncomputable section
namespace Go.Dv.Try
open Go Go.Dv Go.Dv.Sh
abbrev RL:=List (Nat×Option (Bool×Nat))
def mixed:Go.Proofs.Tryz.prog.follows .mixedOrders=true:=bP
abbrev bQ:Program:=Go.Proofs.Tryz.prog
abbrev ma:Nat:=225
def aBQ:PC:=.region [o 4 (.mv (.const (.bool false)))]
def aBI:PC:=.region [c 16 10 [],u 17 16]
def aBE:PC:=.region [o 4 (.mv (.const (.bool false)))]
def aBv:PC:=.region [m 18 0,n 19 18,B 20 .gtr 19 40,m 21 20,Q 21 (m 22 1),Q 21 (o 23 (.lenS (t 22))),Q 21 (B 24 .gtr 23 2100),o 25 (.pick (t 21) (.const (.bool true)) (t 24))]
def aBU:PC:=.region [o 4 (.mv (.const (.bool true)))]
def aBW:PC:=.region [M 5 0]
def aBD:PC:=.region [m 26 5,m 27 0,n 28 27,b 29 .lss 26 28]
def aBO:PC:=.region [m 32 0,m 33 5,i 34 6 32 33,f 35 0 34,f 36 1 35,l 37 36,o 38 (.lenS (t 37)),B 39 .gtr 38 60]
def aBy:PC:=.region [o 4 (.mv (.const (.bool true)))]
def aBB:PC:=.region [m 30 5,B 31 .add 30 1,m 5 31]
def ayw:PC:=.loop [0,1,5] (.seq (.seq aBD (.cond (t 29) .skip (.exit 0))) (.seq (.block 1 (.seq aBO (.cond (t 39) (.seq aBy .ret) .skip))) aBB))
def atl:PC:=.region [o 41 (.bslice 80 6 []),m 42 0,o 43 (.app 80 6 56 (t 41) (t 42)),c 44 45 [t 43],m 40 44,e 45 40 0,e 46 40 1,m 6 45,m 7 46]
def avu:PC:=.region [o 48 (.bslice 80 6 []),m 49 0,o 50 (.app 80 6 56 (t 48) (t 49)),c 51 46 [t 50],m 47 51,e 52 47 0,e 53 47 1,m 8 52,m 9 53]
def atW:PC:=.region [m 55 1,c 56 47 [t 55],m 54 56,e 57 54 0,e 58 54 1,m 10 57,m 11 58]
def atq:PC:=.region [m 60 0,c 61 48 [t 60],m 59 61,e 62 59 0,e 63 59 1,m 12 62,m 13 63]
def ax1:PC:=.region [m 65 1,c 66 49 [t 65],m 64 66,e 67 64 0,e 68 64 1,m 14 67,m 15 68]
def at5:PC:=.region [m 69 7,m 70 13,b 71 .neq 69 70,m 72 71,Q 72 (m 73 6),Q 72 (m 74 12),Q 72 (b 75 .neq 73 74),o 76 (.pick (t 72) (.const (.bool true)) (t 75)),m 77 76,Q 77 (m 78 11),Q 77 (m 79 15),Q 77 (b 80 .neq 78 79),o 81 (.pick (t 77) (.const (.bool true)) (t 80)),m 82 81,Q 82 (m 83 10),Q 82 (m 84 14),Q 82 (c 85 31 [t 83,t 84]),Q 82 (u 86 85),o 87 (.pick (t 82) (.const (.bool true)) (t 86))]
def ayS:PC:=.region [o 4 (.mv (.const (.bool false)))]
def auj:PC:=.region [m 88 13,B 89 .neq 88 0]
def ayU:PC:=.region [m 90 9,m 91 13,b 92 .eql 90 91,m 93 92,q 93 (m 94 8),q 93 (o 95 (.bin .eql (t 94) (.const (.string (ByteArray.mk (Array.mk [])))))),o 96 (.pick (t 93) (t 95) (.const (.bool false))),m 4 96]
def ax6:PC:=.region [m 97 9,B 98 .eql 97 0,m 99 98,q 99 (m 100 8),q 99 (m 101 0),q 99 (c 102 50 [t 101]),q 99 (b 103 .eql 100 102),o 104 (.pick (t 99) (t 103) (.const (.bool false))),m 4 104]
def kN:PC:=.seq aBQ (.seq (.seq aBI (.cond (t 17) (.seq aBE .ret) .skip)) (.seq (.seq aBv (.cond (t 25) (.seq aBU .ret) .skip)) (.seq (.seq aBW (.block 0 ayw)) (.seq atl (.seq avu (.seq atW (.seq atq (.seq ax1 (.seq (.seq at5 (.cond (t 87) (.seq ayS .ret) .skip)) (.seq (.seq auj (.cond (t 89) (.seq ayU .ret) .skip)) (.seq ax6 .ret)))))))))))
def kE:List Nat:=[0,1,4,5,6,7,8,9,10,11,12,13,14,15]
def kr:RL:=[⟨4,none⟩]
def ug:aj bQ 8 kN kE kr 2:=⟨Go.Proofs.Tryz.f8,_,[.tmp 4],by kernel_rfl,by kernel_rfl,rfl,by kernel_rfl,by kernel_rfl,by kernel_rfl,by decide,by decide⟩
def av8:PC:=.region [o 0 (.mv (.const (.bool false)))]
def aum:PC:=.region [c 12 52 [],c 13 14 [t 12],m 11 13,e 14 11 0,e 15 11 1,m 1 14,m 2 15]
def avX:PC:=.region [c 17 52 [],c 18 53 [],c 19 18 [t 17,t 18,.const (.slice none 0 0)],m 16 19,e 20 16 0,e 21 16 1,o 3 (.alloc 42 (.agg [.nil 2,.nil 8,.str [],.nil 2])),s 4 3 20,m 4 21]
def auy:PC:=.region [L 23 4 3,c 24 26 [t 23],m 22 24,e 25 22 0,e 26 22 1,m 5 25,m 6 26]
def awm:PC:=.region [m 27 2,B 28 .neq 27 0,m 29 28,Q 29 (m 30 1),Q 29 (B 31 .neq 30 4),o 32 (.pick (t 29) (.const (.bool true)) (t 31)),m 33 32,Q 33 (m 34 4),Q 33 (B 35 .neq 34 0),o 36 (.pick (t 33) (.const (.bool true)) (t 35)),m 37 36,Q 37 (f 38 1 3),Q 37 (l 39 38),Q 37 (n 40 39),Q 37 (B 41 .neq 40 4),o 42 (.pick (t 37) (.const (.bool true)) (t 41)),m 43 42,Q 43 (m 44 6),Q 43 (B 45 .neq 44 0),o 46 (.pick (t 43) (.const (.bool true)) (t 45)),m 47 46,Q 47 (m 48 5),Q 47 (n 49 48),Q 47 (B 50 .neq 49 4),o 51 (.pick (t 47) (.const (.bool true)) (t 50))]
def aua:PC:=.region [o 0 (.mv (.const (.bool false)))]
def ayA:PC:=.region [L 53 4 3,o 54 (.build [.int .i64 0,.str [],.int .i64 0] [⟨0,⟨1,k 128⟩⟩,⟨1,⟨1,.const (.string (ByteArray.mk (Array.mk [98])))⟩⟩]),c 55 27 [t 53,t 54],m 52 55,e 56 52 0,e 57 52 1,m 7 56,m 8 57]
def azs:PC:=.region [m 59 5,c 60 46 [t 59],m 58 60,e 61 58 0,e 62 58 1,m 9 61,m 10 62]
def auK:PC:=.region [f 63 1 3,l 64 63,o 65 (.idxA 8 (t 64) (k 0)),f 66 7 65,l 67 66,c 68 39 [t 67],B 69 .eql 68 200,m 70 69,q 70 (m 71 5),q 70 (o 72 (.idxA 6 (t 71) (k 2))),q 70 (L 73 6 72),q 70 (o 74 (.build [.int .i64 0,.str [],.int .i64 0] [⟨0,⟨1,k 128⟩⟩,⟨1,⟨1,.const (.string (ByteArray.mk (Array.mk [98])))⟩⟩])),q 70 (o 75 (.build [.int .i64 0,.int .i64 0] [⟨0,⟨1,k 30⟩⟩,⟨1,⟨1,k 4⟩⟩])),q 70 (o 76 (.build [.int .i64 0,.str [],.int .i64 0,.int .i64 0,.int .i64 0,.int .i64 0] [⟨0,⟨3,t 74⟩⟩,⟨3,⟨2,t 75⟩⟩])),q 70 (o 77 (.eqs false [0,1,0,0,0,0] (t 73) (t 76))),o 78 (.pick (t 70) (t 77) (.const (.bool false))),m 79 78,q 79 (m 80 8),q 79 (B 81 .eql 80 0),o 82 (.pick (t 79) (t 81) (.const (.bool false))),m 83 82,q 83 (m 84 7),q 83 (B 85 .eql 84 2),o 86 (.pick (t 83) (t 85) (.const (.bool false))),m 87 86,q 87 (m 88 10),q 87 (B 89 .eql 88 0),o 90 (.pick (t 87) (t 89) (.const (.bool false))),m 91 90,q 91 (m 92 9),q 91 (o 93 (.lenS (t 92))),q 91 (B 94 .eql 93 128),o 95 (.pick (t 91) (t 94) (.const (.bool false))),m 0 95]
def By:PC:=.seq av8 (.seq aum (.seq avX (.seq auy (.seq (.seq awm (.cond (t 51) (.seq aua .ret) .skip)) (.seq ayA (.seq azs (.seq auK .ret)))))))
def BB:List Nat:=[0,1,2,3,4,5,6,7,8,9,10]
def Bh:RL:=[⟨0,none⟩]
def Lf:aj bQ 10 By BB Bh 0:=⟨Go.Proofs.Tryz.f10,_,[.tmp 0],by kernel_rfl,by kernel_rfl,rfl,by kernel_rfl,by kernel_rfl,by kernel_rfl,by decide,by decide⟩
def azu:PC:=.region [o 1 (.box 24 (t 0)),M 2 0,M 3 0]
def axg:PC:=.region [f 8 0 1,l 9 8,B 10 .eql 9 1,m 11 10,Q 11 (f 12 0 1),Q 11 (l 13 12),Q 11 (B 14 .eql 13 3),o 15 (.pick (t 11) (.const (.bool true)) (t 14)),m 4 15]
def ay0:PC:=.region [m 16 4,u 17 16,m 18 17,Q 18 (f 19 1 1),Q 18 (l 20 19),Q 18 (c 21 54 [t 20,k 0,k 65535]),Q 18 (u 22 21),o 23 (.pick (t 18) (.const (.bool true)) (t 22)),m 24 23,Q 24 (f 25 2 1),Q 24 (l 26 25),Q 24 (c 27 54 [t 26,k 0,k 2147483647]),Q 24 (u 28 27),o 29 (.pick (t 24) (.const (.bool true)) (t 28))]
def axd:PC:=.region [M 2 0,M 3 2]
def azt:PC:=.region [f 31 3 1,l 32 31,c 33 55 [t 32],m 30 33,e 34 30 0,e 35 30 1,m 5 34,m 6 35]
def at6:PC:=.region [m 36 6,B 37 .neq 36 0]
def auI:PC:=.region [m 38 5,m 39 6,m 2 38,m 3 39]
def au3:PC:=.region [f 40 3 1,l 41 40,c 42 56 [t 41,.func 57],m 7 42]
def avv:PC:=.region [m 43 7,B 44 .geq 43 0]
def att:PC:=.region [m 45 7,m 2 45,M 3 15]
def agx:PC:=.region [f 46 3 1,l 47 46,c 48 58 [t 47,.func 59],e 49 48 0,e 50 48 1,m 2 49,m 3 50]
def l0:PC:=.seq azu (.seq axg (.seq (.seq ay0 (.cond (t 29) (.seq axd .ret) .skip)) (.seq (.seq azt (.seq at6 (.cond (t 37) (.seq auI .ret) .skip))) (.seq (.seq au3 (.seq avv (.cond (t 44) (.seq att .ret) .skip))) (.seq agx .ret)))))
def me:List Nat:=[0,1,2,3,4,5,6,7]
def mr:RL:=[⟨2,none⟩,⟨3,none⟩]
def wv:aj bQ 12 l0 me mr 1:=⟨Go.Proofs.Tryz.f12,_,[.tmp 2,.tmp 3],by kernel_rfl,by kernel_rfl,rfl,by kernel_rfl,by kernel_rfl,by kernel_rfl,by decide,by decide⟩
def avG:PC:=.region [o 1 (.box 24 (t 0)),M 2 0,M 3 0]
def axI:PC:=.region [L 10 4 1,c 11 12 [t 10],m 9 11,e 12 9 0,e 13 9 1,m 4 12,m 5 13]
def avP:PC:=.region [m 14 5,B 15 .neq 14 0]
def axH:PC:=.region [m 16 5,M 2 0,m 3 16]
def aus:PC:=.region [f 18 3 1,l 19 18,c 20 62 [t 19],m 17 20,e 21 17 0,e 22 17 1,m 6 21,m 7 22]
def avx:PC:=.region [f 23 3 1,l 24 23,c 25 63 [t 24,.func 64],m 8 25]
def azA:PC:=.region [m 26 7,u 27 26,m 28 27,q 28 (m 29 8),q 28 (m 30 29),Q 30 (m 31 6),Q 30 (n 32 31),Q 30 (B 33 .gtr 32 12),q 28 (o 34 (.pick (t 30) (.const (.bool true)) (t 33))),o 35 (.pick (t 28) (t 34) (.const (.bool false)))]
def awT:PC:=.region [M 2 0,M 3 16]
def axW:PC:=.region [m 36 6,n 37 36,m 2 37,M 3 0]
def oq:PC:=.seq avG (.seq (.seq axI (.seq avP (.cond (t 15) (.seq axH .ret) .skip))) (.seq aus (.seq avx (.seq (.seq azA (.cond (t 35) (.seq awT .ret) .skip)) (.seq axW .ret)))))
def oe:List Nat:=[0,1,2,3,5,6,7,8]
def o9:RL:=[⟨2,none⟩,⟨3,none⟩]
def yd:aj bQ 14 oq oe o9 1:=⟨Go.Proofs.Tryz.f14,_,[.tmp 2,.tmp 3],by kernel_rfl,by kernel_rfl,rfl,by kernel_rfl,by kernel_rfl,by kernel_rfl,by decide,by decide⟩
def au0:PC:=.region [o 3 (.box 24 (t 0)),o 4 (.box 38 (t 1)),o 6 (.alloc 42 (.agg [.nil 2,.nil 8,.str [],.nil 2])),M 7 0]
def awj:PC:=.region [L 18 4 3,c 19 14 [t 18],m 17 19,e 20 17 0,e 21 17 1,m 8 20,m 9 21]
def axu:PC:=.region [m 22 9,B 23 .neq 22 0]
def av5:PC:=.region [o 24 (.build [.nil 2,.nil 8,.str [],.nil 2] []),m 25 9,s 4 6 24,m 7 25]
def auw:PC:=.region [l 27 4,o 28 (.mkf 71 [t 4]),c 29 70 [t 27,t 28],m 26 29,e 30 26 0,e 31 26 1,m 10 30,m 11 31]
def ayQ:PC:=.region [m 32 11,B 33 .neq 32 0]
def axP:PC:=.region [o 34 (.build [.nil 2,.nil 8,.str [],.nil 2] []),m 35 11,s 4 6 34,m 7 35]
def azI:PC:=.region [l 36 4,n 37 36,m 38 8,b 39 .neq 37 38]
def avk:PC:=.region [o 40 (.build [.nil 2,.nil 8,.str [],.nil 2] []),s 4 6 40,M 7 10]
def auN:PC:=.region [m 41 2,c 42 76 [t 41,.func 77],m 12 42]
def alD:PC:=.region [m 44 2,c 45 78 [t 44],m 43 45,e 46 43 0,e 47 43 1,m 13 46,m 14 47]
def arQ:PC:=.region [m 48 14,B 49 .neq 48 0,m 50 49,Q 50 (m 51 12),o 52 (.pick (t 50) (.const (.bool true)) (t 51))]
def ak4:PC:=.region [o 53 (.build [.nil 2,.nil 8,.str [],.nil 2] []),m 54 14,o 55 (.bslice 27 1 [t 54,k 3]),c 56 74 [t 55],s 4 6 53,m 7 56]
def aon:PC:=.region [L 57 4 3,l 58 4,c 59 79 [t 57,t 58],m 15 59]
def al_:PC:=.region [m 60 15,m 61 2,c 62 80 [t 60,t 61],m 16 62]
def akA:PC:=.region [m 63 16,B 64 .neq 63 0]
def alk:PC:=.region [o 65 (.build [.nil 2,.nil 8,.str [],.nil 2] []),m 66 16,s 4 6 65,m 7 66]
def alJ:PC:=.region [m 67 15,o 68 (.nilck (t 67)),f 69 0 68,L 70 4 69,s 4 6 70,M 7 0]
def rK:PC:=.seq au0 (.seq awj (.seq (.seq axu (.cond (t 23) (.seq av5 .ret) .skip)) (.seq (.seq auw (.seq ayQ (.cond (t 33) (.seq axP .ret) .skip))) (.seq (.seq azI (.cond (t 39) (.seq avk .ret) .skip)) (.seq auN (.seq (.seq alD (.seq arQ (.cond (t 52) (.seq ak4 .ret) .skip))) (.seq aon (.seq (.seq al_ (.seq akA (.cond (t 64) (.seq alk .ret) .skip))) (.seq alJ .ret)))))))))
def sB:List Nat:=[0,1,2,3,4,6,7,8,9,11,12,14,15,16]
def se:RL:=[⟨6,some (⟨true,4⟩)⟩,⟨7,none⟩]
def Cp:aj bQ 18 rK sB se 3:=⟨Go.Proofs.Tryz.f18,_,[.cell 6 42,.tmp 7],by kernel_rfl,by kernel_rfl,rfl,by kernel_rfl,by kernel_rfl,by kernel_rfl,by decide,by decide⟩
def at2:PC:=.region [o 1 (.box 42 (t 0)),M 2 0,M 3 0]
def atZ:PC:=.region [f 10 1 1,l 11 10,n 12 11,m 4 12]
def avN:PC:=.draw [m 13 4,B 14 .gtr 13 0,c 15 60 [t 14,k 17],f 16 0 1,l 17 16,N 18 17,m 19 4,b 20 .eql 18 19,c 21 60 [t 20,k 10],m 22 4,B 23 .leq 22 12,c 24 60 [t 23,k 8],o 25 (.bslP 27 1 [t 15,t 21,t 24]),c 26 74 [t 25],m 5 26] [[],[0],[1],[],[3],[4],[],[5,6],[7,2],[],[9],[10,8],[2,8,11],[12,11],[13,13,0,1,2,3,4,5,6,7,8,9,10,11,12,13]]
def avR:PC:=.region [m 27 5,B 28 .neq 27 0]
def atX:PC:=.region [m 29 5,M 2 0,m 3 29]
def azP:PC:=.region [f 31 1 1,l 32 31,o 33 (.mkf 90 [t 1]),c 34 89 [t 32,t 33],m 30 34,e 35 30 0,e 36 30 1,m 6 35,m 7 36]
def axe:PC:=.region [m 37 7,B 38 .neq 37 0]
def azH:PC:=.region [m 39 6,m 40 7,m 2 39,m 3 40]
def av3:PC:=.drawD [L 42 4 1,c 43 92 [t 42],f 44 0 1,l 45 44,f 46 3 1,l 47 46,c 48 18 [t 43,t 45,t 47],m 41 48,e 49 41 0,e 50 41 1,o 8 (.alloc 42 (.agg [.nil 2,.nil 8,.str [],.nil 2])),s 4 8 49,m 9 50] [[],[0],[],[2],[],[4],[1,3,5,1],[6],[7],[7],[],[10,8,6,0,1,2,3,4,5,6,7,8,10],[9,11,0,1,2,3,4,5,6,7,8,9,10,11]]
def azn:PC:=.region [m 51 9,B 52 .eql 51 0,m 53 52,q 53 (L 54 4 8),q 53 (L 55 4 1),q 53 (c 56 93 [t 54,t 55]),o 57 (.pick (t 53) (t 56) (.const (.bool false))),c 58 60 [t 57,k 19],M 2 0,m 3 58]
def mG:PC:=.seq at2 (.seq atZ (.seq (.seq avN (.seq avR (.cond (t 28) (.seq atX .ret) .skip))) (.seq (.seq azP (.seq axe (.cond (t 38) (.seq azH .ret) .skip))) (.seq av3 (.seq azn .ret)))))
def l6:List Nat:=[0,1,2,3,4,5,6,7,8,9]
def mz:RL:=[⟨2,none⟩,⟨3,none⟩]
def wH:aj bQ 23 mG l6 mz 1:=⟨Go.Proofs.Tryz.f23,_,[.tmp 2,.tmp 3],by kernel_rfl,by kernel_rfl,rfl,by kernel_rfl,by kernel_rfl,by kernel_rfl,by decide,by decide⟩
def aw1:PC:=.region [o 1 (.box 42 (t 0)),o 2 (.nilR 80 6),M 3 0]
def atm:PC:=.region [L 5 4 1,c 6 95 [t 5],m 4 6]
def atD:PC:=.region [m 7 4,B 8 .neq 7 0]
def avi:PC:=.region [m 9 4,o 2 (.nilR 80 6),m 3 9]
def axy:PC:=.drawD [L 10 4 1,c 11 92 [t 10],f 12 0 1,l 13 12,c 14 79 [t 11,t 13],o 15 (.nilck (t 14)),f 16 5 15,l 17 16,m 2 17,M 3 0] [[],[0],[],[2],[1,3,1],[4],[5],[6],[7,4,0,1,2,3,4,5,6,7],[8,0,1,2,3,4,5,6,7,8]]
def ng:PC:=.seq aw1 (.seq (.seq atm (.seq atD (.cond (t 8) (.seq avi .ret) .skip))) (.seq axy .ret))
def na:List Nat:=[0,1,2,3,4]
def nt:RL:=[⟨2,none⟩,⟨3,none⟩]
def xO:aj bQ 26 ng na nt 1:=⟨Go.Proofs.Tryz.f26,_,[.tmp 2,.tmp 3],by kernel_rfl,by kernel_rfl,rfl,by kernel_rfl,by kernel_rfl,by kernel_rfl,by decide,by decide⟩
def ayL:PC:=.region [o 2 (.box 42 (t 0)),o 3 (.box 51 (t 1)),M 4 0,M 5 0]
def atn:PC:=.draw [L 10 4 2,c 11 95 [t 10],L 12 3 3,c 13 96 [t 12],o 14 (.bslP 27 1 [t 11,t 13]),c 15 74 [t 14],m 6 15] [[],[0],[],[2,1],[1,3],[4,3],[5,5,0,1,2,3,4,5]]
def aty:PC:=.region [m 16 6,B 17 .neq 16 0]
def awy:PC:=.region [m 18 6,M 4 0,m 5 18]
def at8:PC:=.region [L 20 4 2,L 21 3 3,c 22 97 [t 20,t 21],m 19 22,e 23 19 0,e 24 19 1,e 25 19 2,m 7 23,m 8 24,m 9 25]
def axX:PC:=.region [m 26 7,m 27 9,m 4 26,m 5 27]
def qk:PC:=.seq ayL (.seq (.seq atn (.seq aty (.cond (t 17) (.seq awy .ret) .skip))) (.seq at8 (.seq axX .ret)))
def qd:List Nat:=[0,1,2,3,4,5,6,7,9]
def pM:RL:=[⟨4,none⟩,⟨5,none⟩]
def A3:aj bQ 27 qk qd pM 2:=⟨Go.Proofs.Tryz.f27,_,[.tmp 4,.tmp 5],by kernel_rfl,by kernel_rfl,rfl,by kernel_rfl,by kernel_rfl,by kernel_rfl,by decide,by decide⟩
def axi:PC:=.region [o 4 (.mv (.const (.bool false)))]
def ayx:PC:=.region [m 6 0,n 7 6,m 8 1,n 9 8,b 10 .neq 7 9]
def aw7:PC:=.region [o 4 (.mv (.const (.bool false)))]
def avD:PC:=.region [M 5 0]
def avw:PC:=.region [m 11 5,m 12 0,n 13 12,b 14 .lss 11 13]
def axt:PC:=.draw [m 17 0,m 18 5,i 19 6 17 18,L 20 6 19,m 21 1,m 22 5,i 23 6 21 22,L 24 6 23,o 25 (.eqs true [0,1,0,0,0,0] (t 20) (t 24))] [[],[],[0,1],[2],[],[],[4,5],[6],[3,7]]
def awk:PC:=.region [o 4 (.mv (.const (.bool false)))]
def av9:PC:=.region [m 15 5,B 16 .add 15 1,m 5 16]
def ayh:PC:=.loop [0,1,5] (.seq (.seq avw (.cond (t 14) .skip (.exit 0))) (.seq (.block 1 (.seq axt (.cond (t 25) (.seq awk .ret) .skip))) av9))
def ave:PC:=.region [o 4 (.mv (.const (.bool true)))]
def ql:PC:=.seq axi (.seq (.seq ayx (.cond (t 10) (.seq aw7 .ret) .skip)) (.seq (.seq avD (.block 0 ayh)) (.seq ave .ret)))
def qG:List Nat:=[0,1,4,5]
def qn:RL:=[⟨4,none⟩]
def AU:aj bQ 31 ql qG qn 2:=⟨Go.Proofs.Tryz.f31,_,[.tmp 4],by kernel_rfl,by kernel_rfl,rfl,by kernel_rfl,by kernel_rfl,by kernel_rfl,by decide,by decide⟩
def azk:PC:=.region [o 1 (.box 51 (t 0)),M 2 0]
def avF:PC:=.region [f 3 0 1,l 4 3,c 5 102 [t 4],u 6 5,m 7 6,Q 7 (f 8 0 1),Q 7 (l 9 8),Q 7 (B 10 .eql 9 32),o 11 (.pick (t 7) (.const (.bool true)) (t 10))]
def axj:PC:=.region [M 2 15]
def awF:PC:=.region [f 12 1 1,l 13 12,c 14 103 [t 13],u 15 14]
def atj:PC:=.region [M 2 4]
def awJ:PC:=.region [f 16 2 1,l 17 16,c 18 66 [t 17,k 0,k 4096],u 19 18]
def atF:PC:=.region [M 2 2]
def auX:PC:=.region [M 2 0]
def y4:PC:=.seq azk (.seq (.seq avF (.cond (t 11) (.seq axj .ret) .skip)) (.seq (.seq awF (.cond (t 15) (.seq atj .ret) .skip)) (.seq (.seq awJ (.cond (t 19) (.seq atF .ret) .skip)) (.seq auX .ret))))
def zj:List Nat:=[0,1,2]
def ya:RL:=[⟨2,none⟩]
def IC:aj bQ 33 y4 zj ya 1:=⟨Go.Proofs.Tryz.f33,_,[.tmp 2],by kernel_rfl,by kernel_rfl,rfl,by kernel_rfl,by kernel_rfl,by kernel_rfl,by decide,by decide⟩
def av4:PC:=.region [M 2 0]
def avn:PC:=.region [M 3 0]
def awA:PC:=.region [M 4 0]
def azi:PC:=.region [m 5 4,m 6 0,n 7 6,b 8 .lss 5 7]
def ayC:PC:=.region [m 11 3,m 12 0,m 13 4,i 14 11 12 13,L 15 11 14,c 16 40 [t 15],o 17 (.lenS (t 16)),b 18 .add 11 17,m 3 18]
def ays:PC:=.region [m 9 4,B 10 .add 9 1,m 4 10]
def avp:PC:=.loop [0,3,4] (.seq (.seq azi (.cond (t 8) .skip (.exit 0))) (.seq (.block 1 ayC) ays))
def azb:PC:=.region [m 19 3,m 2 19]
def Ez:PC:=.seq av4 (.seq avn (.seq (.seq awA (.block 0 avp)) (.seq azb .ret)))
def DS:List Nat:=[0,2,3,4]
def DC:RL:=[⟨2,none⟩]
def OQ:aj bQ 39 Ez DS DC 1:=⟨Go.Proofs.Tryz.f39,_,[.tmp 2],by kernel_rfl,by kernel_rfl,rfl,by kernel_rfl,by kernel_rfl,by kernel_rfl,by decide,by decide⟩
def ayG:PC:=.region [o 1 (.box 71 (t 0)),o 2 (.mv (.const (.string (ByteArray.mk (Array.mk [])))))]
def aye:PC:=.draw [f 9 5 1,l 10 9,M 3 24,m 4 10] [[],[0],[],[1,2,0,1,2]]
def avm:PC:=.region [f 11 4 1,l 12 11,u 13 12]
def ayr:PC:=.region [f 14 7 1,l 15 14,c 16 106 [t 15],M 3 40,m 4 16]
def avd:PC:=.region [m 17 3,f 18 1 1,l 19 18,o 20 (.lenS (t 19)),b 21 .add 17 20,c 22 86 [t 21,k 8],o 23 (.bin .mul (k 8) (t 22)),m 5 23]
def auG:PC:=.draw [f 24 4 1,l 25 24,u 26 25,c 27 108 [t 26],c 28 107 [t 27,k 1],f 29 1 1,l 30 29,o 31 (.lenS (t 30)),c 32 107 [t 31,k 1],b 33 .add 28 32,m 34 3,c 35 107 [t 34,k 2],b 36 .add 33 35,f 37 3 1,l 38 37,c 39 107 [t 38,k 2],b 40 .add 36 39,f 41 2 1,l 42 41,c 43 107 [t 42,k 2],b 44 .add 40 43,m 6 44] [[],[0],[1],[2],[3,3],[],[5],[6],[7,4],[4,8],[],[10,8],[9,11],[],[13],[14,11],[12,15],[],[17],[18,15],[16,19],[20,19,0,1,2,3,4,5,6,7,8,9,10,11,12,13,14,15,16,17,18,19,20]]
def azj:PC:=.region [f 45 4 1,l 46 45]
def at4:PC:=.region [m 47 6,f 48 5 1,l 49 48,o 50 (.lenS (t 49)),c 51 107 [t 50,k 4],b 52 .add 47 51,m 53 5,c 54 107 [t 53,k 4],b 55 .add 52 54,m 6 55]
def auF:PC:=.draw [f 56 6 1,l 57 56,f 58 7 1,l 59 58,c 60 84 [t 59],b 61 .add 57 60,B 62 .sub 61 1,c 63 109 [t 62,k 4294967296],m 7 63] [[],[0],[],[2],[3],[1,4],[5],[6,4],[7,7,0,1,2,3,4,5,6,7]]
def axA:PC:=.draw [m 64 6,f 65 6 1,l 66 65,c 67 107 [t 66,k 4],b 68 .add 64 67,m 69 7,c 70 107 [t 69,k 4],b 71 .add 68 70,m 72 5,c 73 107 [t 72,k 2],b 74 .add 71 73,c 75 110 [k 2],b 76 .add 74 75,f 77 8 1,l 78 77,c 79 107 [t 78,k 4],b 80 .add 76 79,f 81 9 1,l 82 81,c 83 107 [t 82,k 4],b 84 .add 80 83,f 85 10 1,l 86 85,c 87 107 [t 86,k 4],b 88 .add 84 87,m 6 88] [[],[],[1],[2],[0,3],[],[5,3],[4,6],[],[8,6],[7,9],[9],[10,11],[],[13],[14,11],[12,15],[],[17],[18,15],[16,19],[],[21],[22,19],[20,23],[24,23,0,1,2,3,4,5,6,7,8,9,10,11,12,13,14,15,16,17,18,19,20,21,22,23,24]]
def agF:PC:=.draw [m 89 6,f 90 1 1,l 91 90,b 92 .add 89 91,m 93 5,m 94 3,b 95 .sub 93 94,f 96 1 1,l 97 96,o 98 (.lenS (t 97)),b 99 .sub 95 98,c 100 110 [t 99],b 101 .add 92 100,m 102 4,b 103 .add 101 102,c 104 111 [t 103],o 105 (.bin .add (t 104) (.const (.string (ByteArray.mk (Array.mk []))))),m 6 105] [[],[],[1],[0,2],[],[],[4,5],[],[7],[8],[6,9],[10],[3,11],[],[12,13],[14,11],[15],[16,15,0,1,2,3,4,5,6,7,8,9,10,11,12,13,14,15,16]]
def alW:PC:=.region [m 106 6,o 107 (.lenS (t 106)),B 108 .add 107 8,c 109 86 [t 108,k 8],o 110 (.bin .mul (k 8) (t 109)),m 8 110]
def aka:PC:=.region [f 111 0 1,l 112 111,c 113 107 [t 112,k 4],m 114 8,c 115 107 [t 114,k 4],b 116 .add 113 115,m 117 6,b 118 .add 116 117,m 2 118]
def zF:PC:=.seq ayG (.seq aye (.seq (.seq avm (.cond (t 13) ayr .skip)) (.seq avd (.seq auG (.seq (.seq azj (.cond (t 46) at4 (.seq auF axA))) (.seq agF (.seq alW (.seq aka .ret))))))))
def zk:List Nat:=[0,1,2,3,4,5,6,7,8]
def x_:RL:=[⟨2,none⟩]
def Ii:aj bQ 40 zF zk x_ 1:=⟨Go.Proofs.Tryz.f40,_,[.tmp 2],by kernel_rfl,by kernel_rfl,rfl,by kernel_rfl,by kernel_rfl,by kernel_rfl,by decide,by decide⟩
def auo:PC:=.region [o 1 (.box 57 (t 0)),M 2 0,M 3 0]
def awt:PC:=.region [l 4 1,n 5 4,B 6 .gtr 5 32]
def axq:PC:=.region [M 2 0,M 3 8]
def ax5:PC:=.region [l 7 1,o 8 (.mkf 119 [t 1]),c 9 118 [t 7,t 8],e 10 9 0,e 11 9 1,m 2 10,m 3 11]
def kK:PC:=.seq auo (.seq (.seq awt (.cond (t 6) (.seq axq .ret) .skip)) (.seq ax5 .ret))
def kS:List Nat:=[0,1,2,3]
def kU:RL:=[⟨2,none⟩,⟨3,none⟩]
def ur:aj bQ 45 kK kS kU 1:=⟨Go.Proofs.Tryz.f45,_,[.tmp 2,.tmp 3],by kernel_rfl,by kernel_rfl,rfl,by kernel_rfl,by kernel_rfl,by kernel_rfl,by decide,by decide⟩
def ay9:PC:=.region [o 2 (.mv (.const (.string (ByteArray.mk (Array.mk []))))),M 3 0]
def awL:PC:=.region [m 7 0,c 8 45 [t 7],m 6 8,e 9 6 0,e 10 6 1,m 4 9,m 5 10]
def azy:PC:=.region [m 11 5,B 12 .neq 11 0]
def ay6:PC:=.region [m 13 5,o 2 (.mv (.const (.string (ByteArray.mk (Array.mk []))))),m 3 13]
def axJ:PC:=.region [m 14 0,c 15 123 [t 14],m 2 15,M 3 0]
def kf:PC:=.seq ay9 (.seq (.seq awL (.seq azy (.cond (t 12) (.seq ay6 .ret) .skip))) (.seq axJ .ret))
def j8:List Nat:=[0,2,3,5]
def jT:RL:=[⟨2,none⟩,⟨3,none⟩]
def sR:aj bQ 46 kf j8 jT 1:=⟨Go.Proofs.Tryz.f46,_,[.tmp 2,.tmp 3],by kernel_rfl,by kernel_rfl,rfl,by kernel_rfl,by kernel_rfl,by kernel_rfl,by decide,by decide⟩
def atG:PC:=.region [o 2 (.nilR 80 6),M 3 0]
def avj:PC:=.region [m 11 0,o 12 (.lenS (t 11)),B 13 .gtr 12 2048]
def ayn:PC:=.region [o 2 (.nilR 80 6),M 3 8]
def auz:PC:=.region [o 4 (.nilR 80 6)]
def au9:PC:=.region [m 14 0,m 5 14]
def avS:PC:=.region [m 15 5,o 16 (.bin .neq (t 15) (.const (.string (ByteArray.mk (Array.mk [])))))]
def ayz:PC:=.region [m 17 5,o 18 (.lenS (t 17)),B 19 .lss 18 26]
def axc:PC:=.region [o 2 (.nilR 80 6),M 3 3]
def azB:PC:=.region [m 20 5,c 21 124 [t 20,k 6,k 1],m 22 5,c 23 124 [t 22,k 4,k 2],m 6 21,m 7 23]
def ayI:PC:=.region [m 24 7,m 25 5,o 26 (.lenS (t 25)),b 27 .gtr 24 26,m 28 27,Q 28 (m 29 6),Q 28 (o 30 (.bin .add (k 26) (t 29))),Q 28 (m 31 7),Q 28 (b 32 .gtr 30 31),o 33 (.pick (t 28) (.const (.bool true)) (t 32))]
def arY:PC:=.region [o 2 (.nilR 80 6),M 3 3]
def apq:PC:=.drawD [m 34 5,c 35 124 [t 34,k 0,k 4],m 36 5,m 37 6,o 38 (.bin .add (k 26) (t 37)),o 39 (.slcS (t 36) (some (k 26)) (some (t 38))),m 40 5,c 41 124 [t 40,k 8,k 4],o 42 (.build [.int .i64 0,.str [],.int .i64 0] [⟨0,⟨1,t 35⟩⟩,⟨1,⟨1,t 39⟩⟩,⟨2,⟨1,t 41⟩⟩]),m 43 5,c 44 124 [t 43,k 12,k 4],m 45 5,c 46 124 [t 45,k 16,k 2],o 47 (.build [.int .i64 0,.int .i64 0] [⟨0,⟨1,t 44⟩⟩,⟨1,⟨1,t 46⟩⟩]),m 48 5,c 49 124 [t 48,k 18,k 2],o 50 (.build [.int .i64 0,.str [],.int .i64 0,.int .i64 0,.int .i64 0,.int .i64 0] [⟨0,⟨3,t 42⟩⟩,⟨3,⟨2,t 47⟩⟩,⟨5,⟨1,t 49⟩⟩]),o 8 (.alloc 80 (.agg [.int .i64 0,.str [],.int .i64 0,.int .i64 0,.int .i64 0,.int .i64 0])),s 6 8 50] [[],[0],[],[],[3],[2,4],[],[6,1],[1,5,7],[],[9,7],[],[11,10],[10,12],[],[14,12],[8,13,15],[],[17,16,15,0,1,2,3,4,5,6,7,8,9,10,11,12,13,14,15,16,17]]
def amU:PC:=.draw [L 51 6 8,c 52 125 [t 51],m 53 5,m 54 7,o 55 (.slcS (t 53) none (some (t 54))),b 56 .neq 52 55] [[],[0],[],[],[2,3],[1,4]]
def ahN:PC:=.region [o 2 (.nilR 80 6),M 3 3]
def akk:PC:=.region [m 57 4,L 58 6 8,o 59 (.bslice 80 6 [t 58]),o 60 (.app 80 6 56 (t 57) (t 59)),m 4 60]
def ak9:PC:=.region [m 61 5,m 62 7,o 63 (.slcS (t 61) (some (t 62)) none),m 5 63]
def aqD:PC:=.loop [4,5] (.seq (.seq avS (.cond (t 16) .skip (.exit 0))) (.block 1 (.seq (.seq ayz (.cond (t 19) (.seq axc .ret) .skip)) (.seq azB (.seq (.seq ayI (.cond (t 33) (.seq arY .ret) .skip)) (.seq apq (.seq (.seq amU (.cond (t 56) (.seq ahN .ret) .skip)) (.seq akk ak9))))))))
def apu:PC:=.region [m 65 4,c 66 45 [t 65],m 64 66,e 67 64 0,e 68 64 1,m 9 67,m 10 68]
def anm:PC:=.region [m 69 10,B 70 .neq 69 0]
def ajX:PC:=.region [m 71 10,o 2 (.nilR 80 6),m 3 71]
def ai1:PC:=.region [m 72 4,m 2 72,M 3 0]
def j0:PC:=.seq atG (.seq (.seq avj (.cond (t 13) (.seq ayn .ret) .skip)) (.seq auz (.seq (.seq au9 (.block 0 aqD)) (.seq (.seq apu (.seq anm (.cond (t 70) (.seq ajX .ret) .skip))) (.seq ai1 .ret)))))
def j9:List Nat:=[0,2,3,4,5,6,7,8,10]
def jV:RL:=[⟨2,none⟩,⟨3,none⟩]
def sY:aj bQ 47 j0 j9 jV 1:=⟨Go.Proofs.Tryz.f47,_,[.tmp 2,.tmp 3],by kernel_rfl,by kernel_rfl,rfl,by kernel_rfl,by kernel_rfl,by kernel_rfl,by decide,by decide⟩
def atC:PC:=.region [M 2 0,M 3 0]
def auU:PC:=.region [m 7 0,n 8 7,B 9 .gtr 8 32]
def avh:PC:=.region [M 2 0,M 3 8]
def awP:PC:=.region [M 4 0]
def axf:PC:=.region [m 10 4,m 11 0,n 12 11,b 13 .lss 10 12]
def ayM:PC:=.region [m 16 0,m 17 4,i 18 6 16 17,f 19 0 18,L 20 3 19,c 21 33 [t 20],m 5 21]
def azO:PC:=.region [m 22 5,B 23 .eql 22 0]
def atw:PC:=.region [m 24 0,m 25 4,i 26 6 24 25,f 27 3 26,L 28 2 27,c 29 98 [t 28],m 5 29]
def ayY:PC:=.region [m 30 5,B 31 .eql 30 0,m 32 31,q 32 (m 33 0),q 32 (m 34 4),q 32 (i 35 6 33 34),q 32 (f 36 5 35),q 32 (l 37 36),q 32 (c 38 66 [t 37,k 0,k 65535]),q 32 (u 39 38),o 40 (.pick (t 32) (t 39) (.const (.bool false)))]
def av_:PC:=.region [M 5 2]
def al6:PC:=.draw [m 41 5,B 42 .eql 41 0,m 43 42,q 43 (m 44 4),q 43 (B 45 .gtr 44 0),o 46 (.pick (t 43) (t 45) (.const (.bool false))),m 47 46,q 47 (m 48 0),q 47 (m 49 4),q 47 (B 50 .sub 49 1),q 47 (i 51 6 48 50),q 47 (f 52 0 51),q 47 (L 53 3 52),q 47 (m 54 0),q 47 (m 55 4),q 47 (i 56 6 54 55),q 47 (f 57 0 56),q 47 (L 58 3 57),q 47 (c 59 100 [t 53,t 58]),q 47 (B 60 .gtr 59 0),o 61 (.pick (t 47) (t 60) (.const (.bool false)))] [[],[0],[1],[2],[3,2],[2,4],[5,2],[6],[6],[8,6],[7,9,6],[10,6],[11,6],[6],[6],[13,14,6],[15,6],[16,6],[12,17,6,6],[18,6],[6,19]]
def alQ:PC:=.region [M 5 9]
def ahK:PC:=.draw [m 62 5,B 63 .eql 62 0,m 64 63,q 64 (m 65 4),q 64 (B 66 .gtr 65 0),o 67 (.pick (t 64) (t 66) (.const (.bool false))),m 68 67,q 68 (m 69 0),q 68 (m 70 4),q 68 (B 71 .sub 70 1),q 68 (i 72 6 69 71),q 68 (f 73 0 72),q 68 (L 74 3 73),q 68 (m 75 0),q 68 (m 76 4),q 68 (i 77 6 75 76),q 68 (f 78 0 77),q 68 (L 79 3 78),q 68 (o 80 (.eqs false [0,1,0] (t 74) (t 79))),o 81 (.pick (t 68) (t 80) (.const (.bool false))),m 82 81,q 82 (m 83 0),q 82 (m 84 4),q 82 (i 85 6 83 84),q 82 (f 86 0 85),q 82 (f 87 0 86),q 82 (l 88 87),q 82 (B 89 .neq 88 48),o 90 (.pick (t 82) (t 89) (.const (.bool false)))] [[],[0],[1],[2],[3,2],[2,4],[5,2],[6],[6],[8,6],[7,9,6],[10,6],[11,6],[6],[6],[13,14,6],[15,6],[16,6],[12,17,6],[6,18],[19,6],[20],[20],[21,22,20],[23,20],[24,20],[25,20],[26,20],[20,27]]
def als:PC:=.region [M 5 5]
def aiU:PC:=.region [M 6 0]
def aqu:PC:=.region [m 91 6,m 92 4,b 93 .lss 91 92,m 94 93,q 94 (m 95 5),q 94 (B 96 .eql 95 0),o 97 (.pick (t 94) (t 96) (.const (.bool false)))]
def am7:PC:=.draw [m 100 0,m 101 6,i 102 6 100 101,f 103 3 102,L 104 2 103,m 105 0,m 106 4,i 107 6 105 106,f 108 3 107,L 109 2 108,o 110 (.eqs false [0,0] (t 104) (t 109)),m 111 110,q 111 (m 112 0),q 111 (m 113 6),q 111 (i 114 6 112 113),q 111 (f 115 5 114),q 111 (l 116 115),q 111 (m 117 0),q 111 (m 118 4),q 111 (i 119 6 117 118),q 111 (f 120 5 119),q 111 (l 121 120),q 111 (b 122 .eql 116 121),o 123 (.pick (t 111) (t 122) (.const (.bool false)))] [[],[],[0,1],[2],[3],[],[],[5,6],[7],[8],[4,9],[10],[11],[11],[12,13,11],[14,11],[15,11],[11],[11],[17,18,11],[19,11],[20,11],[16,21,11],[11,22]]
def ame:PC:=.region [M 5 23]
def akw:PC:=.region [m 98 6,B 99 .add 98 1,m 6 99]
def aiJ:PC:=.loop [0,4,5,6] (.seq (.seq aqu (.cond (t 97) .skip (.exit 2))) (.seq (.block 3 (.seq am7 (.cond (t 123) ame .skip))) akw))
def akx:PC:=.region [m 124 5,B 125 .neq 124 0]
def aor:PC:=.region [m 126 4,m 127 5,m 2 126,m 3 127]
def aiT:PC:=.region [m 14 4,B 15 .add 14 1,m 4 15]
def anf:PC:=.loop [0,4] (.seq (.seq axf (.cond (t 13) .skip (.exit 0))) (.seq (.block 1 (.seq ayM (.seq (.seq azO (.cond (t 23) atw .skip)) (.seq (.seq ayY (.cond (t 40) av_ .skip)) (.seq (.seq al6 (.cond (t 61) alQ .skip)) (.seq (.seq ahK (.cond (t 90) als .skip)) (.seq (.seq aiU (.block 2 aiJ)) (.seq akx (.cond (t 125) (.seq aor .ret) .skip))))))))) aiT))
def agq:PC:=.region [M 2 0,M 3 0]
def oa:PC:=.seq atC (.seq (.seq auU (.cond (t 9) (.seq avh .ret) .skip)) (.seq (.seq awP (.block 0 anf)) (.seq agq .ret)))
def n8:List Nat:=[0,2,3,4,5,6]
def nW:RL:=[⟨2,none⟩,⟨3,none⟩]
def zt:aj bQ 48 oa n8 nW 1:=⟨Go.Proofs.Tryz.f48,_,[.tmp 2,.tmp 3],by kernel_rfl,by kernel_rfl,rfl,by kernel_rfl,by kernel_rfl,by kernel_rfl,by decide,by decide⟩
def ayt:PC:=.region [o 2 (.nilR 80 6),M 3 0]
def axU:PC:=.region [m 10 0,o 11 (.lenS (t 10)),B 12 .gtr 11 2048]
def azf:PC:=.region [o 2 (.nilR 80 6),M 3 8]
def azq:PC:=.region [o 4 (.nilR 80 6)]
def axT:PC:=.region [M 5 0]
def avs:PC:=.region [m 13 5,m 14 0,o 15 (.lenS (t 14)),b 16 .lss 13 15]
def azg:PC:=.region [m 17 5,B 18 .add 17 26,m 19 0,o 20 (.lenS (t 19)),b 21 .gtr 18 20]
def aw2:PC:=.region [o 2 (.nilR 80 6),M 3 3]
def au2:PC:=.region [m 22 5,B 23 .add 22 26,m 24 0,m 25 5,B 26 .add 25 6,o 27 (.idx (t 24) (t 26)),o 28 (.conv (.toInt .i64) (t 27)),b 29 .add 23 28,m 6 29]
def avO:PC:=.region [m 30 6,m 31 0,o 32 (.lenS (t 31)),b 33 .gtr 30 32]
def aiq:PC:=.region [o 2 (.nilR 80 6),M 3 3]
def aoe:PC:=.drawD [m 34 0,m 35 5,c 36 126 [t 34,t 35,k 4],m 37 0,m 38 5,B 39 .add 38 26,m 40 6,o 41 (.slcS (t 37) (some (t 39)) (some (t 40))),m 42 0,m 43 5,B 44 .add 43 8,c 45 126 [t 42,t 44,k 4],o 46 (.build [.int .i64 0,.str [],.int .i64 0] [⟨0,⟨1,t 36⟩⟩,⟨1,⟨1,t 41⟩⟩,⟨2,⟨1,t 45⟩⟩]),m 47 0,m 48 5,B 49 .add 48 12,c 50 126 [t 47,t 49,k 4],m 51 0,m 52 5,B 53 .add 52 16,c 54 126 [t 51,t 53,k 2],o 55 (.build [.int .i64 0,.int .i64 0] [⟨0,⟨1,t 50⟩⟩,⟨1,⟨1,t 54⟩⟩]),m 56 0,m 57 5,B 58 .add 57 18,c 59 126 [t 56,t 58,k 2],o 60 (.build [.int .i64 0,.str [],.int .i64 0,.int .i64 0,.int .i64 0,.int .i64 0] [⟨0,⟨3,t 46⟩⟩,⟨3,⟨2,t 55⟩⟩,⟨5,⟨1,t 59⟩⟩]),o 7 (.alloc 80 (.agg [.int .i64 0,.str [],.int .i64 0,.int .i64 0,.int .i64 0,.int .i64 0])),s 6 7 60] [[],[],[0,1],[],[],[4],[],[3,5,6],[],[],[9],[8,10,2],[2,7,11],[],[],[14],[13,15,11],[],[],[18],[17,19,16],[16,20],[],[],[23],[22,24,20],[12,21,25],[],[27,26,25,0,1,2,3,4,5,6,7,8,9,10,11,12,13,14,15,16,17,18,19,20,21,22,23,24,25,26,27]]
def ajJ:PC:=.region [L 61 6 7,c 62 127 [t 61],m 8 62]
def af4:PC:=.region [m 63 5,m 64 8,o 65 (.lenS (t 64)),b 66 .add 63 65,m 67 0,o 68 (.lenS (t 67)),b 69 .gtr 66 68,m 70 69,Q 70 (m 71 0),Q 70 (m 72 5),Q 70 (m 73 5),Q 70 (m 74 8),Q 70 (o 75 (.lenS (t 74))),Q 70 (b 76 .add 73 75),Q 70 (o 77 (.slcS (t 71) (some (t 72)) (some (t 76)))),Q 70 (m 78 8),Q 70 (b 79 .neq 77 78),o 80 (.pick (t 70) (.const (.bool true)) (t 79))]
def arj:PC:=.region [o 2 (.nilR 80 6),M 3 3]
def amP:PC:=.region [m 81 4,L 82 6 7,o 83 (.bslice 80 6 [t 82]),o 84 (.app 80 6 56 (t 81) (t 83)),m 4 84]
def aiO:PC:=.region [m 85 5,m 86 8,o 87 (.lenS (t 86)),b 88 .add 85 87,m 5 88]
def amk:PC:=.loop [0,4,5] (.seq (.seq avs (.cond (t 16) .skip (.exit 0))) (.block 1 (.seq (.seq azg (.cond (t 21) (.seq aw2 .ret) .skip)) (.seq au2 (.seq (.seq avO (.cond (t 33) (.seq aiq .ret) .skip)) (.seq aoe (.seq ajJ (.seq (.seq af4 (.cond (t 80) (.seq arj .ret) .skip)) (.seq amP aiO)))))))))
def arn:PC:=.region [m 89 4,c 90 51 [t 89],m 9 90]
def ai4:PC:=.region [m 91 9,B 92 .neq 91 0]
def aja:PC:=.region [m 93 9,o 2 (.nilR 80 6),m 3 93]
def akW:PC:=.region [m 94 4,m 2 94,M 3 0]
def zA:PC:=.seq ayt (.seq (.seq axU (.cond (t 12) (.seq azf .ret) .skip)) (.seq azq (.seq (.seq axT (.block 0 amk)) (.seq (.seq arn (.seq ai4 (.cond (t 92) (.seq aja .ret) .skip))) (.seq akW .ret)))))
def yM:List Nat:=[0,2,3,4,5,6,7,8,9]
def yx:RL:=[⟨2,none⟩,⟨3,none⟩]
def KC:aj bQ 49 zA yM yx 1:=⟨Go.Proofs.Tryz.f49,_,[.tmp 2,.tmp 3],by kernel_rfl,by kernel_rfl,rfl,by kernel_rfl,by kernel_rfl,by kernel_rfl,by decide,by decide⟩
def atM:PC:=.region [o 2 (.mv (.const (.string (ByteArray.mk (Array.mk [])))))]
def aue:PC:=.region [o 3 (.mv (.const (.string (ByteArray.mk (Array.mk [])))))]
def axw:PC:=.region [M 4 0]
def azd:PC:=.region [m 5 4,m 6 0,n 7 6,b 8 .lss 5 7]
def atx:PC:=.region [m 11 3,m 12 0,m 13 4,i 14 6 12 13,L 15 6 14,c 16 127 [t 15],b 17 .add 11 16,m 3 17]
def avV:PC:=.region [m 9 4,B 10 .add 9 1,m 4 10]
def auZ:PC:=.loop [0,3,4] (.seq (.seq azd (.cond (t 8) .skip (.exit 0))) (.seq (.block 1 atx) avV))
def aza:PC:=.region [m 18 3,m 2 18]
def yB:PC:=.seq atM (.seq aue (.seq (.seq axw (.block 0 auZ)) (.seq aza .ret)))
def yW:List Nat:=[0,2,3,4]
def zU:RL:=[⟨2,none⟩]
def H2:aj bQ 50 yB yW zU 1:=⟨Go.Proofs.Tryz.f50,_,[.tmp 2],by kernel_rfl,by kernel_rfl,rfl,by kernel_rfl,by kernel_rfl,by kernel_rfl,by decide,by decide⟩
def atz:PC:=.region [M 2 0]
def awK:PC:=.region [m 6 0,c 7 48 [t 6],m 5 7,e 8 5 0,e 9 5 1,m 3 8,m 4 9]
def ato:PC:=.region [m 10 4,m 2 10]
def sm:PC:=.seq atz (.seq awK (.seq ato .ret))
def sG:List Nat:=[0,2,4]
def rm:RL:=[⟨2,none⟩]
def Ch:aj bQ 51 sm sG rm 1:=⟨Go.Proofs.Tryz.f51,_,[.tmp 2],by kernel_rfl,by kernel_rfl,rfl,by kernel_rfl,by kernel_rfl,by kernel_rfl,by decide,by decide⟩
def aub:PC:=.region [o 0 (.alloc 24 (.agg [.int .i64 0,.int .i64 0,.int .i64 0,.nil 11]))]
def awn:PC:=.region [c 4 110 [k 24],o 5 (.build [.int .i64 0,.str [],.int .i64 0,.int .i64 0,.bool false,.str [],.int .i64 0,.nil 2,.int .i64 0,.int .i64 0,.int .i64 0] [⟨0,⟨1,k 16⟩⟩,⟨4,⟨1,.const (.bool true)⟩⟩,⟨5,⟨1,t 4⟩⟩]),o 6 (.bslice 71 11 [t 5]),o 7 (.build [.int .i64 0,.int .i64 0,.int .i64 0,.nil 11] [⟨0,⟨1,k 1⟩⟩,⟨1,⟨1,k 1⟩⟩,⟨3,⟨1,t 6⟩⟩]),o 1 (.alloc 24 (.agg [.int .i64 0,.int .i64 0,.int .i64 0,.nil 11])),s 4 1 7]
def atY:PC:=.region [o 8 (.bslice 9 1 [.const (.string (ByteArray.mk (Array.mk [97]))),.const (.string (ByteArray.mk (Array.mk [98]))),.const (.string (ByteArray.mk (Array.mk [99])))]),m 2 8]
def azN:PC:=.region [M 3 0]
def azl:PC:=.region [m 9 3,B 10 .lss 9 3]
def axx:PC:=.drawD [f 13 3 1,l 14 13,m 15 2,m 16 3,i 17 1 15 16,l 18 17,m 19 3,B 20 .add 19 1,c 21 110 [k 200],o 22 (.build [.int .i64 0,.str [],.int .i64 0,.int .i64 0,.bool false,.str [],.int .i64 0,.nil 2,.int .i64 0,.int .i64 0,.int .i64 0] [⟨0,⟨1,k 128⟩⟩,⟨1,⟨1,t 18⟩⟩,⟨2,⟨1,t 20⟩⟩,⟨4,⟨1,.const (.bool true)⟩⟩,⟨5,⟨1,t 21⟩⟩]),o 23 (.bslP 71 11 [t 22]),o 24 (.app 71 11 120 (t 14) (t 23)),f 25 3 1,s 1 25 24] [[],[0],[],[],[2,3],[4],[],[6],[],[5,7,8],[9],[1,10,8],[0,1,2,3,4,5,6,7,8,9,10,11],[12,11,11,0,1,2,3,4,5,6,7,8,9,10,11]]
def atr:PC:=.region [m 11 3,B 12 .add 11 1,m 3 12]
def azp:PC:=.loop [0,1,2,3] (.seq (.seq azl (.cond (t 10) .skip (.exit 0))) (.seq (.block 1 axx) atr))
def axB:PC:=.region [L 26 4 1,s 4 0 26]
def Dn:PC:=.seq aub (.seq awn (.seq atY (.seq (.seq azN (.block 0 azp)) (.seq axB .ret))))
def DZ:List Nat:=[0,1,2,3]
def CP:RL:=[⟨0,some (⟨true,4⟩)⟩]
def Nh:aj bQ 52 Dn DZ CP 0:=⟨Go.Proofs.Tryz.f52,_,[.cell 0 24],by kernel_rfl,by kernel_rfl,rfl,by kernel_rfl,by kernel_rfl,by kernel_rfl,by decide,by decide⟩
def aw4:PC:=.region [o 0 (.nilR 76 2)]
def axp:PC:=.region [o 1 (.build [.int .i64 0,.int .i64 0] [⟨0,⟨1,k 20⟩⟩,⟨1,⟨1,k 1⟩⟩]),o 2 (.build [.int .i64 0,.int .i64 0] [⟨0,⟨1,k 21⟩⟩,⟨1,⟨1,k 1⟩⟩]),o 3 (.build [.int .i64 0,.int .i64 0] [⟨0,⟨1,k 30⟩⟩,⟨1,⟨1,k 4⟩⟩]),o 4 (.build [.int .i64 0,.int .i64 0] [⟨0,⟨1,k 31⟩⟩,⟨1,⟨1,k 1⟩⟩]),o 5 (.bslice 76 2 [t 1,t 2,t 3,t 4]),m 0 5]
def C2:PC:=.seq aw4 (.seq axp .ret)
def Eg:List Nat:=[0]
def D0:RL:=[⟨0,none⟩]
def NZ:aj bQ 53 C2 Eg D0 0:=⟨Go.Proofs.Tryz.f53,_,[.tmp 0],by kernel_rfl,by kernel_rfl,rfl,by kernel_rfl,by kernel_rfl,by kernel_rfl,by decide,by decide⟩
def awR:PC:=.region [o 6 (.mv (.const (.bool false)))]
def awD:PC:=.region [m 7 1,m 8 0,b 9 .leq 7 8,m 10 9,q 10 (m 11 0),q 10 (m 12 2),q 10 (b 13 .leq 11 12),o 14 (.pick (t 10) (t 13) (.const (.bool false))),m 6 14]
def rh:PC:=.seq awR (.seq awD .ret)
def rz:List Nat:=[0,1,2,6]
def rI:RL:=[⟨6,none⟩]
def B_:aj bQ 54 rh rz rI 3:=⟨Go.Proofs.Tryz.f54,_,[.tmp 6],by kernel_rfl,by kernel_rfl,rfl,by kernel_rfl,by kernel_rfl,by kernel_rfl,by decide,by decide⟩
def axm:PC:=.region [M 2 0,M 3 0]
def atJ:PC:=.region [m 8 0,n 9 8,B 10 .gtr 9 32]
def auT:PC:=.region [M 2 0,M 3 8]
def auL:PC:=.region [m 11 0,n 12 11,M 13 0]
def ayf:PC:=.region [b 14 .lss 13 12]
def avB:PC:=.region [m 15 13,i 16 11 11 13,L 17 11 16,o 5 (.alloc 71 (.agg [.int .i64 0,.str [],.int .i64 0,.int .i64 0,.bool false,.str [],.int .i64 0,.nil 2,.int .i64 0,.int .i64 0,.int .i64 0])),m 4 15,s 11 5 17]
def auJ:PC:=.region [m 18 0,m 19 4,c 20 128 [t 18,t 19],m 6 20]
def awc:PC:=.region [m 21 4,B 22 .gtr 21 0]
def ax9:PC:=.region [m 23 0,m 24 4,B 25 .sub 24 1,i 26 11 23 25,L 27 11 26,o 7 (.alloc 71 (.agg [.int .i64 0,.str [],.int .i64 0,.int .i64 0,.bool false,.str [],.int .i64 0,.nil 2,.int .i64 0,.int .i64 0,.int .i64 0])),s 11 7 27]
def axF:PC:=.draw [m 28 6,L 29 11 7,L 30 11 5,c 31 131 [t 29,t 30],B 32 .leq 31 0,c 33 130 [t 32,k 9],L 34 11 7,L 35 11 5,c 36 132 [t 34,t 35],u 37 36,m 38 37,Q 38 (f 39 0 5),Q 38 (l 40 39),Q 38 (B 41 .eql 40 48),o 42 (.pick (t 38) (.const (.bool true)) (t 41)),c 43 130 [t 42,k 5],o 44 (.bslP 27 1 [t 28,t 33,t 43]),c 45 129 [t 44],m 6 45] [[],[],[],[1,2],[3],[4,3],[],[],[6,7,5],[8],[9,8],[10],[11,10],[12,10],[10,13],[14,10],[0,5,15],[16,15],[17,17,0,1,2,3,4,5,6,7,8,9,10,11,12,13,14,15,16,17]]
def agt:PC:=.region [m 46 6,B 47 .neq 46 0]
def aia:PC:=.region [m 48 4,m 49 6,m 2 48,m 3 49]
def ahf:PC:=.region [B 50 .add 13 1,m 13 50]
def anI:PC:=.loop [0,11,12,13] (.seq ayf (.seq (.cond (t 14) .skip (.exit 0)) (.seq (.block 1 (.seq avB (.seq auJ (.seq (.seq awc (.cond (t 22) (.seq ax9 axF) .skip)) (.seq agt (.cond (t 47) (.seq aia .ret) .skip)))))) ahf)))
def aoR:PC:=.region [M 2 0,M 3 0]
def my:PC:=.seq axm (.seq (.seq atJ (.cond (t 10) (.seq auT .ret) .skip)) (.seq (.seq auL (.block 0 anI)) (.seq aoR .ret)))
def mh:List Nat:=[0,2,3,4,5,6,7,11,12,13]
def l_:RL:=[⟨2,none⟩,⟨3,none⟩]
def wj:aj bQ 55 my mh l_ 1:=⟨Go.Proofs.Tryz.f55,_,[.tmp 2,.tmp 3],by kernel_rfl,by kernel_rfl,rfl,by kernel_rfl,by kernel_rfl,by kernel_rfl,by decide,by decide⟩
def aws:PC:=.region [M 4 0]
def axR:PC:=.region [m 6 0,n 7 6,M 8 0]
def azC:PC:=.region [b 9 .lss 8 7]
def au_:PC:=.region [m 10 8,m 5 10]
def avo:PC:=.region [m 11 1,m 12 0,m 13 5,i 14 11 12 13,L 15 11 14,o 16 (.callv (t 11) [t 15])]
def auQ:PC:=.region [m 17 5,m 4 17]
def ayE:PC:=.region [B 18 .add 8 1,m 8 18]
def atT:PC:=.loop [0,1,7,8] (.seq azC (.seq (.cond (t 9) .skip (.exit 0)) (.seq (.block 1 (.seq au_ (.seq avo (.cond (t 16) (.seq auQ .ret) .skip)))) ayE)))
def auP:PC:=.region [M 4 (-1)]
def bz:PC:=.seq aws (.seq (.seq axR (.block 0 atT)) (.seq auP .ret))
def bC:List Nat:=[0,1,4,5,7,8]
def bD:RL:=[⟨4,none⟩]
def dL:aj bQ 56 bz bC bD 2:=⟨Go.Proofs.Tryz.f56,_,[.tmp 4],by kernel_rfl,by kernel_rfl,rfl,by kernel_rfl,by kernel_rfl,by kernel_rfl,by decide,by decide⟩
def axD:PC:=.region [o 1 (.box 71 (t 0)),o 2 (.mv (.const (.bool false)))]
def aur:PC:=.region [f 3 0 1,l 4 3,B 5 .eql 4 32,m 2 5]
def jX:PC:=.seq axD (.seq aur .ret)
def j6:List Nat:=[0,1,2]
def jW:RL:=[⟨2,none⟩]
def sQ:aj bQ 57 jX j6 jW 1:=⟨Go.Proofs.Tryz.f57,_,[.tmp 2],by kernel_rfl,by kernel_rfl,rfl,by kernel_rfl,by kernel_rfl,by kernel_rfl,by decide,by decide⟩
def ay5:PC:=.region [M 4 0,M 5 0]
def awO:PC:=.region [m 9 0,n 10 9,M 11 0]
def awG:PC:=.region [b 12 .lss 11 10]
def awf:PC:=.region [m 13 11,i 14 11 9 11,L 15 11 14,o 7 (.alloc 71 (.agg [.int .i64 0,.str [],.int .i64 0,.int .i64 0,.bool false,.str [],.int .i64 0,.nil 2,.int .i64 0,.int .i64 0,.int .i64 0])),m 6 13,s 11 7 15]
def ayT:PC:=.region [m 16 1,m 17 6,L 18 11 7,o 19 (.callv (t 16) [t 17,t 18]),m 8 19]
def avf:PC:=.region [m 20 8,B 21 .neq 20 0]
def auv:PC:=.region [m 22 6,m 23 8,m 4 22,m 5 23]
def ay_:PC:=.region [B 24 .add 11 1,m 11 24]
def auh:PC:=.loop [1,9,10,11] (.seq awG (.seq (.cond (t 12) .skip (.exit 0)) (.seq (.block 1 (.seq awf (.seq ayT (.seq avf (.cond (t 21) (.seq auv .ret) .skip))))) ay_)))
def axZ:PC:=.region [M 4 0,M 5 0]
def eG:PC:=.seq ay5 (.seq (.seq awO (.block 0 auh)) (.seq axZ .ret))
def eI:List Nat:=[0,1,4,5,6,7,8,9,10,11]
def eC:RL:=[⟨4,none⟩,⟨5,none⟩]
def iO:aj bQ 58 eG eI eC 2:=⟨Go.Proofs.Tryz.f58,_,[.tmp 4,.tmp 5],by kernel_rfl,by kernel_rfl,rfl,by kernel_rfl,by kernel_rfl,by kernel_rfl,by decide,by decide⟩
def atS:PC:=.region [o 3 (.box 71 (t 1)),M 4 0]
def ax8:PC:=.region [f 5 2 3,l 6 5,B 7 .lss 6 65535,c 8 60 [t 7,k 2],m 4 8]
def kb:PC:=.seq atS (.seq ax8 .ret)
def jR:List Nat:=[1,3,4]
def j7:RL:=[⟨4,none⟩]
def sS:aj bQ 59 kb jR j7 2:=⟨Go.Proofs.Tryz.f59,_,[.tmp 4],by kernel_rfl,by kernel_rfl,rfl,by kernel_rfl,by kernel_rfl,by kernel_rfl,by decide,by decide⟩
def ayl:PC:=.region [M 4 0]
def azE:PC:=.region [m 5 0]
def ayb:PC:=.region [M 4 0]
def azc:PC:=.region [m 6 1,m 4 6]
def rG:PC:=.seq ayl (.seq (.seq azE (.cond (t 5) (.seq ayb .ret) .skip)) (.seq azc .ret))
def sr:List Nat:=[0,1,4]
def sE:RL:=[⟨4,none⟩]
def B0:aj bQ 60 rG sr sE 2:=⟨Go.Proofs.Tryz.f60,_,[.tmp 4],by kernel_rfl,by kernel_rfl,rfl,by kernel_rfl,by kernel_rfl,by kernel_rfl,by decide,by decide⟩
def ayH:PC:=.region [o 2 (.nilR 22 1),o 3 (.mv (.const (.bool false)))]
def ats:PC:=.region [m 7 0,c 8 65 [t 7],B 9 .leq 8 440]
def at0:PC:=.region [m 10 0,o 11 (.bslice 22 1 [t 10]),m 2 11,o 3 (.mv (.const (.bool true)))]
def ax2:PC:=.region [o 12 (.mksl 22 1 24 (.nil 11) (k 1) (k 1)),m 2 12]
def awp:PC:=.region [m 13 0,n 14 13,M 15 0]
def auc:PC:=.region [b 16 .lss 15 14]
def axC:PC:=.region [i 17 11 13 15,L 18 11 17,o 5 (.alloc 71 (.agg [.int .i64 0,.str [],.int .i64 0,.int .i64 0,.bool false,.str [],.int .i64 0,.nil 2,.int .i64 0,.int .i64 0,.int .i64 0])),s 11 5 18]
def auH:PC:=.region [m 19 2,n 20 19,B 21 .sub 20 1,m 6 21]
def axo:PC:=.region [L 33 11 5,c 34 133 [t 33],m 32 34]
def ax4:PC:=.drawD [m 35 2,m 36 2,o 37 (.idxA 1 (t 36) (k 0)),l 38 37,L 39 11 5,o 40 (.bslP 71 11 [t 39]),o 41 (.app 71 11 120 (t 38) (t 40)),o 42 (.idxA 1 (t 35) (k 0)),s 1 42 41] [[],[],[1],[2],[],[4],[3,5],[0,0,1,2,3,4,5,6],[7,6,6,0,1,2,3,4,5,6]]
def agv:PC:=.drawD [m 44 6,B 45 .eql 44 0,m 46 45,Q 46 (m 47 2),Q 46 (m 48 6),Q 46 (i 49 1 47 48),Q 46 (l 50 49),Q 46 (c 51 65 [t 50]),Q 46 (L 52 11 5),Q 46 (o 53 (.bslP 71 11 [t 52])),Q 46 (c 54 65 [t 53]),Q 46 (b 55 .add 51 54),Q 46 (B 56 .gtr 55 440),o 57 (.pick (t 46) (.const (.bool true)) (t 56)),m 43 57] [[],[0],[1],[2],[2],[3,4,2],[5,2],[6,2,2],[2],[8,2],[9,7,2],[7,10,2],[11,2],[2,12],[13,10]]
def ajr:PC:=.region [m 58 2,L 59 11 5,o 60 (.bslice 71 11 [t 59]),o 61 (.bslice 22 1 [t 60]),o 62 (.app 22 1 24 (t 58) (t 61)),m 2 62]
def ait:PC:=.drawD [m 22 2,m 23 6,m 24 2,m 25 6,i 26 1 24 25,l 27 26,L 28 11 5,o 29 (.bslP 71 11 [t 28]),o 30 (.app 71 11 120 (t 27) (t 29)),i 31 1 22 23,s 1 31 30] [[],[],[],[],[2,3],[4],[],[6],[5,7],[0,1,0,1,2,3,4,5,6,7,8],[9,8,8,0,1,2,3,4,5,6,7,8]]
def aoU:PC:=.region [B 63 .add 15 1,m 15 63]
def agO:PC:=.loop [2,13,14,15] (.seq auc (.seq (.cond (t 16) .skip (.exit 0)) (.seq (.block 1 (.seq axC (.seq auH (.block 2 (.seq axo (.cond (t 32) ax4 (.seq agv (.cond (t 43) ajr ait)))))))) aoU)))
def alZ:PC:=.region [m 64 2,m 2 64,o 3 (.mv (.const (.bool false)))]
def rH:PC:=.seq ayH (.seq (.seq ats (.cond (t 9) (.seq at0 .ret) .skip)) (.seq ax2 (.seq (.seq awp (.block 0 agO)) (.seq alZ .ret))))
def sH:List Nat:=[0,2,3,5,6,13,14,15]
def rW:RL:=[⟨2,none⟩,⟨3,none⟩]
def B5:aj bQ 62 rH sH rW 1:=⟨Go.Proofs.Tryz.f62,_,[.tmp 2,.tmp 3],by kernel_rfl,by kernel_rfl,rfl,by kernel_rfl,by kernel_rfl,by kernel_rfl,by decide,by decide⟩
def atV:PC:=.region [o 4 (.mv (.const (.bool false)))]
def auY:PC:=.region [m 5 0,m 6 1,c 7 56 [t 5,t 6],B 8 .geq 7 0,m 4 8]
def bp:PC:=.seq atV (.seq auY .ret)
def bo:List Nat:=[0,1,4]
def bq:RL:=[⟨4,none⟩]
def dv:aj bQ 63 bp bo bq 2:=⟨Go.Proofs.Tryz.f63,_,[.tmp 4],by kernel_rfl,by kernel_rfl,rfl,by kernel_rfl,by kernel_rfl,by kernel_rfl,by decide,by decide⟩
def aya:PC:=.region [o 1 (.box 71 (t 0)),o 2 (.mv (.const (.bool false)))]
def atU:PC:=.region [L 3 11 1,o 4 (.bslice 71 11 [t 3]),c 5 65 [t 4],B 6 .gtr 5 440,m 2 6]
def lj:PC:=.seq aya (.seq atU .ret)
def ll:List Nat:=[0,1,2]
def lJ:RL:=[⟨2,none⟩]
def vF:aj bQ 64 lj ll lJ 1:=⟨Go.Proofs.Tryz.f64,_,[.tmp 2],by kernel_rfl,by kernel_rfl,rfl,by kernel_rfl,by kernel_rfl,by kernel_rfl,by decide,by decide⟩
def ayo:PC:=.region [M 2 0]
def at7:PC:=.region [M 3 0]
def aui:PC:=.region [m 8 0,n 9 8,M 10 0]
def atH:PC:=.region [b 11 .lss 10 9]
def ayi:PC:=.region [i 12 11 8 10,L 13 11 12,o 5 (.alloc 71 (.agg [.int .i64 0,.str [],.int .i64 0,.int .i64 0,.bool false,.str [],.int .i64 0,.nil 2,.int .i64 0,.int .i64 0,.int .i64 0])),s 11 5 13]
def ayk:PC:=.region [L 15 11 5,c 16 134 [t 15],m 14 16,e 17 14 0,e 18 14 1,m 6 17,m 7 18]
def at3:PC:=.region [m 19 3,m 20 6,b 21 .add 19 20,m 3 21]
def azh:PC:=.region [B 22 .add 10 1,m 10 22]
def azz:PC:=.loop [3,8,9,10] (.seq atH (.seq (.cond (t 11) .skip (.exit 0)) (.seq (.block 1 (.seq ayi (.seq ayk at3))) azh)))
def at9:PC:=.region [m 23 3,m 2 23]
def uU:PC:=.seq ayo (.seq at7 (.seq (.seq aui (.block 0 azz)) (.seq at9 .ret)))
def vK:List Nat:=[0,2,3,5,6,8,9,10]
def vM:RL:=[⟨2,none⟩]
def FC:aj bQ 65 uU vK vM 1:=⟨Go.Proofs.Tryz.f65,_,[.tmp 2],by kernel_rfl,by kernel_rfl,rfl,by kernel_rfl,by kernel_rfl,by kernel_rfl,by decide,by decide⟩
def awZ:PC:=.region [o 6 (.mv (.const (.bool false)))]
def azm:PC:=.region [m 7 1,m 8 0,b 9 .leq 7 8,m 10 9,q 10 (m 11 0),q 10 (m 12 2),q 10 (b 13 .leq 11 12),o 14 (.pick (t 10) (t 13) (.const (.bool false))),m 6 14]
def Bo:PC:=.seq awZ (.seq azm .ret)
def BP:List Nat:=[0,1,2,6]
def BL:RL:=[⟨6,none⟩]
def Li:aj bQ 66 Bo BP BL 3:=⟨Go.Proofs.Tryz.f66,_,[.tmp 6],by kernel_rfl,by kernel_rfl,rfl,by kernel_rfl,by kernel_rfl,by kernel_rfl,by decide,by decide⟩
def avI:PC:=.region [M 4 0,M 5 0]
def awu:PC:=.region [m 9 0,n 10 9,M 11 0]
def av2:PC:=.region [b 12 .lss 11 10]
def azD:PC:=.region [m 13 11,i 14 2 9 11,L 15 2 14,o 7 (.alloc 76 (.agg [.int .i64 0,.int .i64 0])),m 6 13,s 2 7 15]
def ayZ:PC:=.region [m 16 1,m 17 6,L 18 2 7,o 19 (.callv (t 16) [t 17,t 18]),m 8 19]
def au4:PC:=.region [m 20 8,B 21 .neq 20 0]
def awS:PC:=.region [m 22 6,m 23 8,m 4 22,m 5 23]
def axM:PC:=.region [B 24 .add 11 1,m 11 24]
def ayp:PC:=.loop [1,9,10,11] (.seq av2 (.seq (.cond (t 12) .skip (.exit 0)) (.seq (.block 1 (.seq azD (.seq ayZ (.seq au4 (.cond (t 21) (.seq awS .ret) .skip))))) axM)))
def axE:PC:=.region [M 4 0,M 5 0]
def gd:PC:=.seq avI (.seq (.seq awu (.block 0 ayp)) (.seq axE .ret))
def ga:List Nat:=[0,1,4,5,6,7,8,9,10,11]
def fZ:RL:=[⟨4,none⟩,⟨5,none⟩]
def kz:aj bQ 70 gd ga fZ 2:=⟨Go.Proofs.Tryz.f70,_,[.tmp 4,.tmp 5],by kernel_rfl,by kernel_rfl,rfl,by kernel_rfl,by kernel_rfl,by kernel_rfl,by decide,by decide⟩
def ayd:PC:=.region [o 4 (.box 76 (t 1)),M 5 0]
def auf:PC:=.region [l 7 2,m 8 0,o 9 (.slcR 2 (t 7) none (some (t 8))),o 10 (.mkf 73 [t 4]),c 11 72 [t 9,t 10],m 6 11]
def awV:PC:=.region [L 12 2 4,c 13 75 [t 12],m 14 6,u 15 14,c 16 60 [t 15,k 23],o 17 (.bslice 27 1 [t 13,t 16]),c 18 74 [t 17],m 5 18]
def nn:PC:=.seq ayd (.seq auf (.seq awV .ret))
def nj:List Nat:=[0,1,2,4,5,6]
def nb:RL:=[⟨5,none⟩]
def xP:aj bQ 71 nn nj nb 3:=⟨Go.Proofs.Tryz.f71,_,[.tmp 5],by kernel_rfl,by kernel_rfl,rfl,by kernel_rfl,by kernel_rfl,by kernel_rfl,by decide,by decide⟩
def atQ:PC:=.region [o 4 (.mv (.const (.bool false)))]
def avZ:PC:=.region [m 5 0,m 6 1,c 7 137 [t 5,t 6],B 8 .geq 7 0,m 4 8]
def bX:PC:=.seq atQ (.seq avZ .ret)
def bZ:List Nat:=[0,1,4]
def bU:RL:=[⟨4,none⟩]
def eO:aj bQ 72 bX bZ bU 2:=⟨Go.Proofs.Tryz.f72,_,[.tmp 4],by kernel_rfl,by kernel_rfl,rfl,by kernel_rfl,by kernel_rfl,by kernel_rfl,by decide,by decide⟩
def ax0:PC:=.region [o 2 (.box 76 (t 0)),o 3 (.mv (.const (.bool false)))]
def axa:PC:=.region [f 4 0 2,l 5 4,f 6 0 1,l 7 6,b 8 .eql 5 7,m 3 8]
def kT:PC:=.seq ax0 (.seq axa .ret)
def kx:List Nat:=[0,1,2,3]
def kJ:RL:=[⟨3,none⟩]
def uh:aj bQ 73 kT kx kJ 2:=⟨Go.Proofs.Tryz.f73,_,[.tmp 3],by kernel_rfl,by kernel_rfl,rfl,by kernel_rfl,by kernel_rfl,by kernel_rfl,by decide,by decide⟩
def awd:PC:=.region [M 2 0]
def azG:PC:=.region [m 5 0,n 6 5,M 7 0]
def axh:PC:=.region [b 8 .lss 7 6]
def awQ:PC:=.region [i 9 1 5 7,l 10 9,m 4 10]
def atE:PC:=.region [m 11 4,B 12 .neq 11 0]
def au1:PC:=.region [m 13 4,m 2 13]
def awq:PC:=.region [B 14 .add 7 1,m 7 14]
def atL:PC:=.loop [5,6,7] (.seq axh (.seq (.cond (t 8) .skip (.exit 0)) (.seq (.block 1 (.seq awQ (.seq atE (.cond (t 12) (.seq au1 .ret) .skip)))) awq)))
def aw0:PC:=.region [M 2 0]
def tF:PC:=.seq awd (.seq (.seq azG (.block 0 atL)) (.seq aw0 .ret))
def tR:List Nat:=[0,2,4,5,6,7]
def tw:RL:=[⟨2,none⟩]
def Ds:aj bQ 74 tF tR tw 1:=⟨Go.Proofs.Tryz.f74,_,[.tmp 2],by kernel_rfl,by kernel_rfl,rfl,by kernel_rfl,by kernel_rfl,by kernel_rfl,by decide,by decide⟩
def ayR:PC:=.region [o 1 (.box 76 (t 0)),M 2 0]
def axS:PC:=.region [f 3 0 1,l 4 3,c 5 54 [t 4,k 0,k 95],m 6 5,q 6 (f 7 1 1),q 6 (l 8 7),q 6 (c 9 54 [t 8,k 1,k 65535]),o 10 (.pick (t 6) (t 9) (.const (.bool false))),c 11 60 [t 10,k 2],m 2 11]
def r9:PC:=.seq ayR (.seq axS .ret)
def r_:List Nat:=[0,1,2]
def so:RL:=[⟨2,none⟩]
def B3:aj bQ 75 r9 r_ so 1:=⟨Go.Proofs.Tryz.f75,_,[.tmp 2],by kernel_rfl,by kernel_rfl,rfl,by kernel_rfl,by kernel_rfl,by kernel_rfl,by decide,by decide⟩
def ayK:PC:=.region [o 4 (.mv (.const (.bool false)))]
def atu:PC:=.region [m 5 0,m 6 1,c 7 138 [t 5,t 6],B 8 .geq 7 0,m 4 8]
def bY:PC:=.seq ayK (.seq atu .ret)
def bW:List Nat:=[0,1,4]
def b_:RL:=[⟨4,none⟩]
def eV:aj bQ 76 bY bW b_ 2:=⟨Go.Proofs.Tryz.f76,_,[.tmp 4],by kernel_rfl,by kernel_rfl,rfl,by kernel_rfl,by kernel_rfl,by kernel_rfl,by decide,by decide⟩
def aw6:PC:=.region [o 1 (.box 123 (t 0)),o 2 (.mv (.const (.bool false)))]
def awM:PC:=.region [f 3 0 1,l 4 3,B 5 .eql 4 (-1),m 2 5]
def nu:PC:=.seq aw6 (.seq awM .ret)
def m_:List Nat:=[0,1,2]
def mZ:RL:=[⟨2,none⟩]
def xV:aj bQ 77 nu m_ mZ 1:=⟨Go.Proofs.Tryz.f77,_,[.tmp 2],by kernel_rfl,by kernel_rfl,rfl,by kernel_rfl,by kernel_rfl,by kernel_rfl,by decide,by decide⟩
def ay1:PC:=.region [M 2 0,M 3 0]
def aww:PC:=.region [m 8 0,n 9 8,B 10 .gtr 9 64]
def ayj:PC:=.region [M 2 0,M 3 8]
def awU:PC:=.region [o 4 (.mkarr 180 1 (.bool false) 512)]
def ayv:PC:=.region [m 11 0,n 12 11,M 13 0]
def avK:PC:=.region [b 14 .lss 13 12]
def azL:PC:=.region [m 15 13,i 16 2 11 13,L 17 2 16,o 6 (.alloc 123 (.agg [.int .i64 0,.int .i64 0])),m 5 15,s 2 6 17]
def awN:PC:=.region [L 18 2 6,c 19 139 [t 18],m 7 19]
def ay2:PC:=.region [m 20 7,B 21 .neq 20 0]
def awa:PC:=.region [m 22 5,m 23 7,m 2 22,m 3 23]
def ahH:PC:=.draw [m 24 5,B 25 .gtr 24 0,m 26 25,q 26 (m 27 0),q 26 (m 28 5),q 26 (B 29 .sub 28 1),q 26 (i 30 2 27 29),q 26 (L 31 2 30),q 26 (L 32 2 6),q 26 (c 33 140 [t 31,t 32]),o 34 (.pick (t 26) (t 33) (.const (.bool false)))] [[],[0],[1],[2],[2],[4,2],[3,5,2],[6,2],[2],[7,8,2,2],[2,9]]
def amx:PC:=.region [m 35 5,m 2 35,M 3 3]
def ap9:PC:=.region [L 36 2 6,c 37 141 [t 4,t 36],u 38 37]
def akg:PC:=.region [m 39 5,m 2 39,M 3 23]
def al0:PC:=.region [B 40 .add 13 1,m 13 40]
def ahb:PC:=.loop [0,4,11,12,13] (.seq avK (.seq (.cond (t 14) .skip (.exit 0)) (.seq (.block 1 (.seq azL (.seq (.seq awN (.seq ay2 (.cond (t 21) (.seq awa .ret) .skip))) (.seq (.seq ahH (.cond (t 34) (.seq amx .ret) .skip)) (.seq ap9 (.cond (t 38) (.seq akg .ret) .skip)))))) al0)))
def aqG:PC:=.region [m 41 0,c 42 143 [t 41],B 43 .leq 42 4096,c 44 142 [t 43,k 8],M 2 0,m 3 44]
def vw:PC:=.seq ay1 (.seq (.seq aww (.cond (t 10) (.seq ayj .ret) .skip)) (.seq awU (.seq (.seq ayv (.block 0 ahb)) (.seq aqG .ret))))
def ve:List Nat:=[0,2,3,4,5,6,7,11,12,13]
def vk:RL:=[⟨2,none⟩,⟨3,none⟩]
def FK:aj bQ 78 vw ve vk 1:=⟨Go.Proofs.Tryz.f78,_,[.tmp 2,.tmp 3],by kernel_rfl,by kernel_rfl,rfl,by kernel_rfl,by kernel_rfl,by kernel_rfl,by decide,by decide⟩
def av6:PC:=.region [o 2 (.box 24 (t 0)),o 4 (.mv (.const (.pointer none)))]
def av0:PC:=.region [f 14 3 2,l 15 14,c 16 62 [t 15],m 13 16,e 17 13 0,e 18 13 1,m 5 17,m 6 18]
def auu:PC:=.region [m 19 6,o 20 (.build [.nil 2,.nil 8,.str [],.nil 2,.bool false,.nil 6] [⟨4,⟨1,t 19⟩⟩]),o 21 (.box 130 (t 20)),m 7 21]
def avY:PC:=.region [m 22 7,m 23 1,c 24 114 [t 23],o 25 (.nilck (t 22)),f 26 0 25,f 27 0 26,s 1 27 24]
def ay8:PC:=.region [m 28 5,n 29 28,M 30 0]
def awE:PC:=.region [b 31 .lss 30 29]
def awX:PC:=.region [m 32 30,i 33 1 28 30,l 34 33,m 8 32,m 9 34]
def azv:PC:=.drawD [m 35 1,m 36 8,i 37 2 35 36,f 38 1 37,l 39 38,f 40 2 2,l 41 40,m 42 1,o 43 (.idxA 2 (t 42) (k 0)),L 44 2 43,o 45 (.build [.int .i64 0,.int .i64 0,.int .i64 0,.int .i64 0,.int .i64 0,.int .i64 0,.int .i64 0,.nil 11] [⟨0,⟨1,t 39⟩⟩,⟨2,⟨1,k 1⟩⟩,⟨6,⟨1,t 41⟩⟩,⟨3,⟨2,t 44⟩⟩]),o 10 (.alloc 78 (.agg [.int .i64 0,.int .i64 0,.int .i64 0,.int .i64 0,.int .i64 0,.int .i64 0,.int .i64 0,.nil 11])),s 8 10 45] [[],[],[0,1],[2],[3],[],[5],[],[7],[8],[4,6,9],[],[11,10,0,1,2,3,4,5,6,7,8,9,10,11]]
def ayJ:PC:=.region [m 46 8,B 47 .eql 46 0]
def azr:PC:=.drawD [f 48 0 2,l 49 48,f 50 1 2,l 51 50,o 52 (.build [.int .i64 0,.int .i64 0] []),f 53 2 10,s 1 53 49,f 54 1 10,s 1 54 51,f 55 3 10,s 2 55 52] [[],[0],[],[2],[],[0,1],[5,1,0,1],[0,1,2,3,5,6],[7,3,6,0,1,2,3,5,6],[0,1,2,3,4,5,6,7,8],[9,4,8,0,1,2,3,4,5,6,7,8]]
def aoo:PC:=.region [m 56 9,n 57 56,M 58 0]
def aqq:PC:=.region [b 59 .lss 58 57]
def ajT:PC:=.region [m 60 58,i 61 11 56 58,L 62 11 61,o 12 (.alloc 71 (.agg [.int .i64 0,.str [],.int .i64 0,.int .i64 0,.bool false,.str [],.int .i64 0,.nil 2,.int .i64 0,.int .i64 0,.int .i64 0])),m 11 60,s 11 12 62]
def ai_:PC:=.region [m 63 6]
def aoh:PC:=.region [f 64 2 12,l 65 64,m 11 65]
def akv:PC:=.drawD [f 66 7 10,l 67 66,L 68 11 12,m 69 11,c 70 116 [t 68,t 69],o 71 (.bslP 71 11 [t 70]),o 72 (.app 71 11 120 (t 67) (t 71)),f 73 7 10,s 1 73 72] [[],[0],[],[],[2,3],[4],[1,5,4],[0,1,2,3,4,5,6],[7,6,6,0,1,2,3,4,5,6]]
def ao5:PC:=.region [f 74 5 10,l 75 74,m 76 11,B 77 .add 76 1,o 78 (.mm true (t 75) (t 77)),f 79 5 10,s 1 79 78]
def amb:PC:=.drawD [m 80 7,m 81 7,o 82 (.nilck (t 81)),f 83 5 82,l 84 83,L 85 11 12,c 86 113 [t 85],m 87 1,m 88 8,i 89 2 87 88,L 90 2 89,m 91 11,o 92 (.build [.int .i64 0,.str [],.int .i64 0,.int .i64 0,.int .i64 0,.int .i64 0] [⟨0,⟨3,t 86⟩⟩,⟨3,⟨2,t 90⟩⟩,⟨5,⟨1,t 91⟩⟩]),o 93 (.bslP 80 6 [t 92]),o 94 (.app 80 6 56 (t 84) (t 93)),o 95 (.nilck (t 80)),f 96 5 95,s 1 96 94] [[],[],[1],[2],[3],[],[5],[],[],[7,8],[9],[],[6,10,11],[12],[4,13,6],[0,0,1,2,3,4,5,6,7,8,9,10,11,12,13,14],[15,0,1,2,3,4,5,6,7,8,9,10,11,12,13,14],[16,14,14,0,1,2,3,4,5,6,7,8,9,10,11,12,13,14]]
def ajW:PC:=.region [B 97 .add 58 1,m 58 97]
def ahj:PC:=.loop [1,2,6,7,8,10,28,29,30,56,57,58] (.seq aqq (.seq (.cond (t 59) .skip (.exit 2)) (.seq (.block 3 (.seq ajT (.seq (.seq ai_ (.cond (t 63) aoh .skip)) (.seq akv (.seq ao5 amb))))) ajW)))
def aq1:PC:=.drawD [m 98 7,m 99 7,o 100 (.nilck (t 99)),f 101 0 100,f 102 1 101,l 103 102,L 104 8 10,o 105 (.bslP 78 8 [t 104]),o 106 (.app 78 8 80 (t 103) (t 105)),o 107 (.nilck (t 98)),f 108 0 107,f 109 1 108,s 1 109 106] [[],[],[1],[2],[3],[4],[],[6],[5,7],[0,0,1,2,3,4,5,6,7,8],[9,0,1,2,3,4,5,6,7,8],[10,0,1,2,3,4,5,6,7,8],[11,8,8,0,1,2,3,4,5,6,7,8]]
def ah8:PC:=.region [B 110 .add 30 1,m 30 110]
def ajz:PC:=.loop [1,2,6,7,28,29,30] (.seq awE (.seq (.cond (t 31) .skip (.exit 0)) (.seq (.block 1 (.seq awX (.seq azv (.seq (.seq ayJ (.cond (t 47) azr .skip)) (.seq (.seq aoo (.block 2 ahj)) aq1))))) ah8)))
def arN:PC:=.region [m 111 7,m 4 111]
def p7:PC:=.seq av6 (.seq av0 (.seq auu (.seq avY (.seq (.seq ay8 (.block 0 ajz)) (.seq arN .ret)))))
def p8:List Nat:=[0,1,2,4,5,6,7,8,9,10,11,12,28,29,30,56,57,58]
def pU:RL:=[⟨4,none⟩]
def A6:aj bQ 79 p7 p8 pU 2:=⟨Go.Proofs.Tryz.f79,_,[.tmp 4],by kernel_rfl,by kernel_rfl,rfl,by kernel_rfl,by kernel_rfl,by kernel_rfl,by decide,by decide⟩
def azx:PC:=.region [M 4 0]
def aut:PC:=.region [m 10 0,o 11 (.nilck (t 10)),f 12 5 11,l 13 12,c 14 123 [t 13],m 5 14]
def axL:PC:=.region [m 15 0,o 16 (.nilck (t 15)),f 17 0 16,f 18 1 17,l 19 18,o 20 (.idxA 8 (t 19) (k 0)),m 6 20]
def avA:PC:=.region [m 21 6,o 22 (.nilck (t 21)),f 23 5 22,l 24 23,m 25 5,o 26 (.build [.int .i64 0,.str [],.int .i64 0,.int .i64 0,.bool false,.str [],.int .i64 0,.nil 2,.int .i64 0,.int .i64 0,.int .i64 0] [⟨0,⟨1,k 32⟩⟩,⟨2,⟨1,t 24⟩⟩,⟨4,⟨1,.const (.bool true)⟩⟩,⟨5,⟨1,t 25⟩⟩]),o 7 (.alloc 71 (.agg [.int .i64 0,.str [],.int .i64 0,.int .i64 0,.bool false,.str [],.int .i64 0,.nil 2,.int .i64 0,.int .i64 0,.int .i64 0])),s 11 7 26]
def ayW:PC:=.region [m 27 0,o 28 (.nilck (t 27)),f 29 4 28,l 30 29,m 31 30,Q 31 (m 32 0),Q 31 (L 33 11 7),Q 31 (c 34 144 [t 32,t 33]),o 35 (.pick (t 31) (.const (.bool true)) (t 34)),m 8 35]
def ax3:PC:=.region [M 9 0]
def axO:PC:=.region [m 36 8,u 37 36]
def azK:PC:=.region [m 38 5,o 39 (.lenS (t 38)),B 40 .add 39 256,B 41 .sub 40 1,B 42 .quo 41 256,m 9 42]
def azM:PC:=.region [m 43 1,c 44 145 [t 43],m 45 9,b 46 .neq 44 45]
def atI:PC:=.region [M 4 2]
def aos:PC:=.region [m 47 0,o 48 (.nilck (t 47)),f 49 4 48,l 50 49]
def anF:PC:=.region [M 4 0]
def aqV:PC:=.region [m 51 8,u 52 51]
def akZ:PC:=.drawD [m 53 6,o 54 (.nilck (t 53)),f 55 5 54,l 56 55,m 57 1,c 58 115 [t 57],m 59 9,B 60 .mul 59 256,m 61 5,o 62 (.lenS (t 61)),m 63 5,o 64 (.lenS (t 63)),o 65 (.build [.int .i64 0,.str [],.int .i64 0,.int .i64 0,.bool false,.str [],.int .i64 0,.nil 2,.int .i64 0,.int .i64 0,.int .i64 0] [⟨0,⟨1,k 32⟩⟩,⟨2,⟨1,t 56⟩⟩,⟨7,⟨1,t 58⟩⟩,⟨8,⟨1,t 60⟩⟩,⟨9,⟨1,t 62⟩⟩,⟨10,⟨1,t 64⟩⟩]),s 11 7 65] [[],[0],[1],[2],[],[4],[],[6],[],[8],[],[10],[3,5,7,9,11],[12,5,0,1,2,3,4,5,6,7,8,9,10,11,12]]
def anT:PC:=.region [m 66 0,m 67 0,m 68 5,m 69 1,c 70 115 [t 69],o 71 (.nilck (t 66)),f 72 0 71,f 73 2 72,s 1 73 68,o 74 (.nilck (t 67)),f 75 0 74,f 76 3 75,s 1 76 70]
def akO:PC:=.region [m 77 6,o 78 (.nilck (t 77)),f 79 5 78,l 80 79,B 81 .add 80 1,o 82 (.nilck (t 77)),f 83 5 82,s 1 83 81]
def ah1:PC:=.drawD [m 84 6,m 85 6,o 86 (.nilck (t 85)),f 87 7 86,l 88 87,L 89 11 7,o 90 (.bslP 71 11 [t 89]),o 91 (.app 71 11 120 (t 88) (t 90)),o 92 (.nilck (t 84)),f 93 7 92,s 1 93 91] [[],[],[1],[2],[3],[],[5],[4,6],[0,0,1,2,3,4,5,6,7],[8,0,1,2,3,4,5,6,7],[9,7,7,0,1,2,3,4,5,6,7]]
def ak2:PC:=.drawD [m 94 5,o 95 (.lenS (t 94)),B 96 .leq 95 2048,c 97 60 [t 96,k 8],m 98 6,o 99 (.nilck (t 98)),f 100 7 99,l 101 100,c 102 65 [t 101],B 103 .leq 102 440,c 104 60 [t 103,k 16],o 105 (.bslP 27 1 [t 97,t 104]),c 106 74 [t 105],m 4 106] [[],[0],[1],[2],[],[4],[5],[6],[7,3],[8],[9,8],[3,10],[11,10],[12,12,0,1,2,3,4,5,6,7,8,9,10,11,12]]
def kR:PC:=.seq azx (.seq aut (.seq axL (.seq avA (.seq ayW (.seq ax3 (.seq (.seq axO (.cond (t 37) azK .skip)) (.seq (.seq azM (.cond (t 46) (.seq atI .ret) .skip)) (.seq (.seq aos (.cond (t 50) (.seq anF .ret) .skip)) (.seq (.seq aqV (.cond (t 52) (.seq akZ anT) .skip)) (.seq akO (.seq ah1 (.seq ak2 .ret))))))))))))
def kQ:List Nat:=[0,1,4,5,6,7,8,9]
def kD:RL:=[⟨4,none⟩]
def ue:aj bQ 80 kR kQ kD 2:=⟨Go.Proofs.Tryz.f80,_,[.tmp 4],by kernel_rfl,by kernel_rfl,rfl,by kernel_rfl,by kernel_rfl,by kernel_rfl,by decide,by decide⟩
def av1:PC:=.region [M 2 0]
def aup:PC:=.region [M 3 0]
def ay7:PC:=.region [M 4 0]
def axK:PC:=.region [m 5 4,m 6 0,n 7 6,b 8 .lss 5 7]
def atB:PC:=.region [m 11 3,m 12 0,m 13 4,i 14 2 12 13,f 15 1 14,l 16 15,b 17 .add 11 16,m 3 17]
def auW:PC:=.region [m 9 4,B 10 .add 9 1,m 4 10]
def azw:PC:=.loop [0,3,4] (.seq (.seq axK (.cond (t 8) .skip (.exit 0))) (.seq (.block 1 atB) auW))
def au7:PC:=.region [m 18 3,m 2 18]
def zo:PC:=.seq av1 (.seq aup (.seq (.seq ay7 (.block 0 azw)) (.seq au7 .ret)))
def yu:List Nat:=[0,2,3,4]
def yX:RL:=[⟨2,none⟩]
def H4:aj bQ 84 zo yu yX 1:=⟨Go.Proofs.Tryz.f84,_,[.tmp 2],by kernel_rfl,by kernel_rfl,rfl,by kernel_rfl,by kernel_rfl,by kernel_rfl,by decide,by decide⟩
def ava:PC:=.region [o 1 (.box 71 (t 0)),o 2 (.alloc 51 (.agg [.int .i64 0,.str [],.int .i64 0]))]
def ayF:PC:=.region [f 3 0 1,l 4 3,f 5 1 1,l 6 5,f 7 6 1,l 8 7,o 9 (.build [.int .i64 0,.str [],.int .i64 0] [⟨0,⟨1,t 4⟩⟩,⟨1,⟨1,t 6⟩⟩,⟨2,⟨1,t 8⟩⟩]),s 3 2 9]
def LG:PC:=.seq ava (.seq ayF .ret)
def Lk:List Nat:=[0,1,2]
def LK:RL:=[⟨2,some (⟨true,3⟩)⟩]
def ay3:PC:=.region [M 4 0]
def awv:PC:=.region [m 5 0,o 6 (.un .neg (t 5)),m 7 1,c 8 147 [t 6,t 7],o 9 (.un .neg (t 8)),m 4 9]
def FZ:PC:=.seq ay3 (.seq awv .ret)
def Gb:List Nat:=[0,1,4]
def Gd:RL:=[⟨4,none⟩]
def Qq:aj bQ 86 FZ Gb Gd 2:=⟨Go.Proofs.Tryz.f86,_,[.tmp 4],by kernel_rfl,by kernel_rfl,rfl,by kernel_rfl,by kernel_rfl,by kernel_rfl,by decide,by decide⟩
def atP:PC:=.region [M 4 0,M 5 0]
def avy:PC:=.region [m 9 0,n 10 9,M 11 0]
def avT:PC:=.region [b 12 .lss 11 10]
def auM:PC:=.region [m 13 11,i 14 8 9 11,L 15 8 14,o 7 (.alloc 78 (.agg [.int .i64 0,.int .i64 0,.int .i64 0,.int .i64 0,.int .i64 0,.int .i64 0,.int .i64 0,.nil 11])),m 6 13,s 8 7 15]
def avb:PC:=.region [m 16 1,m 17 6,L 18 8 7,o 19 (.callv (t 16) [t 17,t 18]),m 8 19]
def avJ:PC:=.region [m 20 8,B 21 .neq 20 0]
def avr:PC:=.region [m 22 6,m 23 8,m 4 22,m 5 23]
def au6:PC:=.region [B 24 .add 11 1,m 11 24]
def ayN:PC:=.loop [1,9,10,11] (.seq avT (.seq (.cond (t 12) .skip (.exit 0)) (.seq (.block 1 (.seq auM (.seq avb (.seq avJ (.cond (t 21) (.seq avr .ret) .skip))))) au6)))
def auq:PC:=.region [M 4 0,M 5 0]
def ff:PC:=.seq atP (.seq (.seq avy (.block 0 ayN)) (.seq auq .ret))
def fh:List Nat:=[0,1,4,5,6,7,8,9,10,11]
def fg:RL:=[⟨4,none⟩,⟨5,none⟩]
def jl:aj bQ 89 ff fh fg 2:=⟨Go.Proofs.Tryz.f89,_,[.tmp 4,.tmp 5],by kernel_rfl,by kernel_rfl,rfl,by kernel_rfl,by kernel_rfl,by kernel_rfl,by decide,by decide⟩
def awo:PC:=.region [o 4 (.box 78 (t 1)),M 5 0]
def axn:PC:=.region [L 9 8 4,c 10 91 [t 9],m 8 10,e 11 8 0,e 12 8 1,m 6 11,m 7 12]
def ayB:PC:=.region [f 13 0 2,l 14 13,m 15 0,i 16 2 14 15,L 17 2 16,c 18 75 [t 17],m 19 7,o 20 (.bslice 27 1 [t 18,t 19]),c 21 74 [t 20],m 5 21]
def kh:PC:=.seq awo (.seq axn (.seq ayB .ret))
def jS:List Nat:=[0,1,2,4,5,7]
def ke:RL:=[⟨5,none⟩]
def sX:aj bQ 90 kh jS ke 3:=⟨Go.Proofs.Tryz.f90,_,[.tmp 5],by kernel_rfl,by kernel_rfl,rfl,by kernel_rfl,by kernel_rfl,by kernel_rfl,by decide,by decide⟩
def avW:PC:=.region [o 1 (.box 78 (t 0)),M 2 0,M 3 0]
def aw9:PC:=.region [f 10 0 1,l 11 10,c 12 148 [t 11,k 1,k 65535],m 13 12,q 13 (f 14 1 1),q 13 (l 15 14),q 13 (c 16 148 [t 15,k 0,k 65535]),o 17 (.pick (t 13) (t 16) (.const (.bool false))),m 18 17,q 18 (f 19 2 1),q 18 (l 20 19),q 18 (c 21 148 [t 20,k 0,k 3]),o 22 (.pick (t 18) (t 21) (.const (.bool false))),m 23 22,q 23 (f 24 5 1),q 23 (l 25 24),q 23 (c 26 148 [t 25,k 0,k 65535]),o 27 (.pick (t 23) (t 26) (.const (.bool false))),m 28 27,q 28 (f 29 6 1),q 28 (l 30 29),q 28 (c 31 148 [t 30,k 0,k 2147483647]),o 32 (.pick (t 28) (t 31) (.const (.bool false))),m 4 32]
def avE:PC:=.region [f 33 2 1,l 34 33,B 35 .eql 34 0,m 36 35,q 36 (f 37 7 1),q 36 (l 38 37),q 36 (n 39 38),q 36 (B 40 .eql 39 0),o 41 (.pick (t 36) (t 40) (.const (.bool false))),m 42 41,q 42 (f 43 1 1),q 42 (l 44 43),q 42 (B 45 .eql 44 0),o 46 (.pick (t 42) (t 45) (.const (.bool false))),m 47 46,q 47 (f 48 3 1),q 47 (L 49 2 48),q 47 (o 50 (.build [.int .i64 0,.int .i64 0] [])),q 47 (o 51 (.eqs false [0,0] (t 49) (t 50))),o 52 (.pick (t 47) (t 51) (.const (.bool false))),m 53 52,q 53 (f 54 5 1),q 53 (l 55 54),q 53 (B 56 .eql 55 0),o 57 (.pick (t 53) (t 56) (.const (.bool false))),m 5 57]
def auC:PC:=.draw [m 58 4,c 59 150 [t 58,k 2],f 60 3 1,L 61 2 60,c 62 151 [t 61],L 63 8 1,c 64 152 [t 63],m 65 64,Q 65 (m 66 5),o 67 (.pick (t 65) (.const (.bool true)) (t 66)),c 68 150 [t 67,k 3],o 69 (.bslP 27 1 [t 59,t 62,t 68]),c 70 149 [t 69],m 6 70] [[],[0],[],[2],[3,1],[],[5,4],[6,6],[7],[7,8],[9,7],[1,4,10],[11,10],[12,12,0,1,2,3,4,5,6,7,8,9,10,11,12]]
def awb:PC:=.region [m 71 6,B 72 .neq 71 0]
def awC:PC:=.region [m 73 6,M 2 0,m 3 73]
def awe:PC:=.region [f 75 7 1,l 76 75,c 77 55 [t 76],m 74 77,e 78 74 0,e 79 74 1,m 7 78,m 8 79]
def awW:PC:=.region [m 80 8,B 81 .neq 80 0]
def awh:PC:=.region [m 82 7,m 83 8,m 2 82,m 3 83]
def auA:PC:=.region [f 84 7 1,l 85 84,o 86 (.mkf 153 [t 1]),c 87 56 [t 85,t 86],m 9 87]
def ajd:PC:=.region [m 88 9,B 89 .geq 88 0]
def apS:PC:=.region [m 90 9,m 2 90,M 3 9]
def art:PC:=.region [f 91 7 1,l 92 91,c 93 154 [t 92],B 94 .leq 93 440,c 95 150 [t 94,k 16],M 2 0,m 3 95]
def n6:PC:=.seq avW (.seq aw9 (.seq avE (.seq (.seq auC (.seq awb (.cond (t 72) (.seq awC .ret) .skip))) (.seq (.seq awe (.seq awW (.cond (t 81) (.seq awh .ret) .skip))) (.seq (.seq auA (.seq ajd (.cond (t 89) (.seq apS .ret) .skip))) (.seq art .ret))))))
def oM:List Nat:=[0,1,2,3,4,5,6,7,8,9]
def n5:RL:=[⟨2,none⟩,⟨3,none⟩]
def yw:aj bQ 91 n6 oM n5 1:=⟨Go.Proofs.Tryz.f91,_,[.tmp 2,.tmp 3],by kernel_rfl,by kernel_rfl,rfl,by kernel_rfl,by kernel_rfl,by kernel_rfl,by decide,by decide⟩
def au8:PC:=.region [o 1 (.box 42 (t 0)),o 2 (.alloc 24 (.agg [.int .i64 0,.int .i64 0,.int .i64 0,.nil 11]))]
def awH:PC:=.region [f 10 1 1,l 11 10,o 12 (.idxA 8 (t 11) (k 0)),L 13 8 12,o 3 (.alloc 78 (.agg [.int .i64 0,.int .i64 0,.int .i64 0,.int .i64 0,.int .i64 0,.int .i64 0,.int .i64 0,.nil 11])),s 8 3 13]
def av7:PC:=.region [f 14 2 3,l 15 14,f 16 1 3,l 17 16,f 18 6 3,l 19 18,o 20 (.build [.int .i64 0,.int .i64 0,.int .i64 0,.nil 11] [⟨0,⟨1,t 15⟩⟩,⟨1,⟨1,t 17⟩⟩,⟨2,⟨1,t 19⟩⟩]),o 4 (.alloc 24 (.agg [.int .i64 0,.int .i64 0,.int .i64 0,.nil 11])),s 4 4 20]
def axY:PC:=.region [f 21 1 1,l 22 21,n 23 22,M 24 0]
def azF:PC:=.region [b 25 .lss 24 23]
def avt:PC:=.region [i 26 8 22 24,L 27 8 26,o 6 (.alloc 78 (.agg [.int .i64 0,.int .i64 0,.int .i64 0,.int .i64 0,.int .i64 0,.int .i64 0,.int .i64 0,.nil 11])),s 8 6 27]
def ati:PC:=.region [f 28 7 6,l 29 28,n 30 29,M 31 0]
def avC:PC:=.region [b 32 .lss 31 30]
def axv:PC:=.region [i 33 11 29 31,L 34 11 33,o 8 (.alloc 71 (.agg [.int .i64 0,.str [],.int .i64 0,.int .i64 0,.bool false,.str [],.int .i64 0,.nil 2,.int .i64 0,.int .i64 0,.int .i64 0])),s 11 8 34]
def at1:PC:=.region [L 35 11 8,c 36 155 [t 35],u 37 36]
def akT:PC:=.drawD [f 38 3 4,l 39 38,L 40 11 8,f 41 2 8,l 42 41,c 43 116 [t 40,t 42],o 44 (.bslP 71 11 [t 43]),o 45 (.app 71 11 120 (t 39) (t 44)),f 46 3 4,s 1 46 45] [[],[0],[],[],[3],[2,4],[5],[1,6,5],[0,1,2,3,4,5,6,7],[8,7,7,0,1,2,3,4,5,6,7]]
def ahp:PC:=.region [B 47 .add 31 1,m 31 47]
def amV:PC:=.loop [2,3,4,22,23,24,29,30,31] (.seq avC (.seq (.cond (t 32) .skip (.exit 2)) (.seq (.block 3 (.seq axv (.seq at1 (.cond (t 37) akT .skip)))) ahp)))
def alA:PC:=.region [B 48 .add 24 1,m 24 48]
def anY:PC:=.loop [2,3,4,22,23,24] (.seq azF (.seq (.cond (t 25) .skip (.exit 0)) (.seq (.block 1 (.seq avt (.seq ati (.block 2 amV)))) alA)))
def ak1:PC:=.region [f 49 7 3,l 50 49,c 51 63 [t 50,.func 155],u 52 51]
def aht:PC:=.region [L 53 4 4,s 4 2 53]
def ak_:PC:=.region [f 54 3 4,l 55 54,c 56 156 [t 55,.func 157]]
def alY:PC:=.region [f 57 3 4,l 58 57,n 59 58,M 60 0]
def apv:PC:=.region [b 61 .lss 60 59]
def aiN:PC:=.region [m 62 60,m 9 62]
def aqA:PC:=.region [f 63 3 4,l 64 63,m 65 9,m 66 9,i 67 11 64 65,f 68 2 67,s 1 68 66]
def aj1:PC:=.region [B 69 .add 60 1,m 60 69]
def aqp:PC:=.loop [2,4,59,60] (.seq apv (.seq (.cond (t 61) .skip (.exit 4)) (.seq (.block 5 (.seq aiN aqA)) aj1)))
def ahi:PC:=.region [L 70 4 4,s 4 2 70]
def oJ:PC:=.seq au8 (.seq awH (.seq av7 (.seq (.seq axY (.block 0 anY)) (.seq (.seq ak1 (.cond (t 52) (.seq aht .ret) .skip)) (.seq ak_ (.seq (.seq alY (.block 4 aqp)) (.seq ahi .ret)))))))
def ow:List Nat:=[0,1,2,3,4,6,8,9,22,23,24,29,30,31,59,60]
def oH:RL:=[⟨2,some (⟨true,4⟩)⟩]
def x8:aj bQ 92 oJ ow oH 1:=⟨Go.Proofs.Tryz.f92,_,[.cell 2 24],by kernel_rfl,by kernel_rfl,rfl,by kernel_rfl,by kernel_rfl,by kernel_rfl,by decide,by decide⟩
def awB:PC:=.region [o 2 (.box 42 (t 0)),o 3 (.box 42 (t 1)),o 4 (.mv (.const (.bool false)))]
def avq:PC:=.region [f 5 0 2,l 6 5,f 7 0 3,l 8 7,c 9 158 [t 6,t 8],m 10 9,q 10 (f 11 2 2),q 10 (l 12 11),q 10 (f 13 2 3),q 10 (l 14 13),q 10 (b 15 .eql 12 14),o 16 (.pick (t 10) (t 15) (.const (.bool false))),m 17 16,q 17 (f 18 3 2),q 17 (l 19 18),q 17 (f 20 3 3),q 17 (l 21 20),q 17 (c 22 159 [t 19,t 21]),o 23 (.pick (t 17) (t 22) (.const (.bool false))),m 24 23,q 24 (f 25 1 2),q 24 (l 26 25),q 24 (f 27 1 3),q 24 (l 28 27),q 24 (c 29 160 [t 26,t 28,.func 161]),o 30 (.pick (t 24) (t 29) (.const (.bool false))),m 4 30]
def nf:PC:=.seq awB (.seq avq .ret)
def ns:List Nat:=[0,1,2,3,4]
def nh:RL:=[⟨4,none⟩]
def xI:aj bQ 93 nf ns nh 2:=⟨Go.Proofs.Tryz.f93,_,[.tmp 4],by kernel_rfl,by kernel_rfl,rfl,by kernel_rfl,by kernel_rfl,by kernel_rfl,by decide,by decide⟩
def atk:PC:=.region [o 1 (.box 42 (t 0)),M 2 0]
def atO:PC:=.region [L 6 4 1,c 7 23 [t 6],m 5 7,e 8 5 0,e 9 5 1,m 3 8,m 4 9]
def aug:PC:=.region [m 10 4,m 2 10]
def o5:PC:=.seq atk (.seq atO (.seq aug .ret))
def oo:List Nat:=[0,1,2,4]
def ov:RL:=[⟨2,none⟩]
def yY:aj bQ 95 o5 oo ov 1:=⟨Go.Proofs.Tryz.f95,_,[.tmp 2],by kernel_rfl,by kernel_rfl,rfl,by kernel_rfl,by kernel_rfl,by kernel_rfl,by decide,by decide⟩
def avU:PC:=.region [o 1 (.box 51 (t 0)),M 2 0]
def axr:PC:=.draw [f 3 0 1,l 4 3,c 5 163 [t 4],c 6 60 [t 5,k 15],f 7 1 1,l 8 7,o 9 (.bin .eql (t 8) (.const (.string (ByteArray.mk (Array.mk []))))),m 10 9,Q 10 (f 11 1 1),Q 10 (l 12 11),Q 10 (c 13 164 [t 12]),Q 10 (B 14 .eql 13 0),o 15 (.pick (t 10) (.const (.bool true)) (t 14)),c 16 60 [t 15,k 4],f 17 2 1,l 18 17,c 19 54 [t 18,k 0,k 4096],c 20 60 [t 19,k 2],o 21 (.bslP 27 1 [t 6,t 16,t 20]),c 22 74 [t 21],m 2 22] [[],[0],[1],[2,2],[],[4],[5],[6,3],[7],[8,7],[9,7,7],[10,7],[7,11],[12,10],[],[14],[15,13],[16,16],[3,13,17],[18,17],[19,19,0,1,2,3,4,5,6,7,8,9,10,11,12,13,14,15,16,17,18,19]]
def rR:PC:=.seq avU (.seq axr .ret)
def rU:List Nat:=[0,1,2]
def q_:RL:=[⟨2,none⟩]
def Ck:aj bQ 96 rR rU q_ 1:=⟨Go.Proofs.Tryz.f96,_,[.tmp 2],by kernel_rfl,by kernel_rfl,rfl,by kernel_rfl,by kernel_rfl,by kernel_rfl,by decide,by decide⟩
def azo:PC:=.region [o 2 (.box 42 (t 0)),o 3 (.box 51 (t 1)),M 4 0,M 5 0,M 6 0]
def axV:PC:=.region [f 10 1 2,l 11 10,n 12 11,M 13 0]
def ayg:PC:=.region [b 14 .lss 13 12]
def auD:PC:=.region [m 15 13,i 16 8 11 13,L 17 8 16,o 8 (.alloc 78 (.agg [.int .i64 0,.int .i64 0,.int .i64 0,.int .i64 0,.int .i64 0,.int .i64 0,.int .i64 0,.nil 11])),m 7 15,s 8 8 17]
def aw5:PC:=.region [f 18 7 8,l 19 18,o 20 (.mkf 165 [t 3]),c 21 56 [t 19,t 20],m 9 21]
def avc:PC:=.region [m 22 9,B 23 .geq 22 0]
def auE:PC:=.region [m 24 7,m 25 9,m 4 24,m 5 25,M 6 0]
def axz:PC:=.region [B 26 .add 13 1,m 13 26]
def auO:PC:=.loop [3,11,12,13] (.seq ayg (.seq (.cond (t 14) .skip (.exit 0)) (.seq (.block 1 (.seq auD (.seq aw5 (.seq avc (.cond (t 23) (.seq auE .ret) .skip))))) axz)))
def atv:PC:=.region [M 4 0,M 5 0,M 6 6]
def tD:PC:=.seq azo (.seq (.seq axV (.block 0 auO)) (.seq atv .ret))
def tu:List Nat:=[0,1,2,3,4,5,6,7,8,9,11,12,13]
def tL:RL:=[⟨4,none⟩,⟨5,none⟩,⟨6,none⟩]
def D1:aj bQ 97 tD tu tL 2:=⟨Go.Proofs.Tryz.f97,_,[.tmp 4,.tmp 5,.tmp 6],by kernel_rfl,by kernel_rfl,rfl,by kernel_rfl,by kernel_rfl,by kernel_rfl,by decide,by decide⟩
def avz:PC:=.region [o 1 (.box 76 (t 0)),M 2 0]
def atA:PC:=.region [f 3 0 1,l 4 3,c 5 66 [t 4,k 0,k 95],u 6 5,m 7 6,Q 7 (f 8 1 1),Q 7 (l 9 8),Q 7 (c 10 66 [t 9,k 1,k 65535]),Q 7 (u 11 10),o 12 (.pick (t 7) (.const (.bool true)) (t 11))]
def azJ:PC:=.region [M 2 2]
def aym:PC:=.region [M 2 0]
def zx:PC:=.seq avz (.seq (.seq atA (.cond (t 12) (.seq azJ .ret) .skip)) (.seq aym .ret))
def yT:List Nat:=[0,1,2]
def zP:RL:=[⟨2,none⟩]
def Kv:aj bQ 98 zx yT zP 1:=⟨Go.Proofs.Tryz.f98,_,[.tmp 2],by kernel_rfl,by kernel_rfl,rfl,by kernel_rfl,by kernel_rfl,by kernel_rfl,by decide,by decide⟩
def akB:PC:=.region [o 2 (.box 51 (t 0)),o 3 (.box 51 (t 1)),M 4 0]
def agp:PC:=.region [f 6 0 2,l 7 6,f 8 0 3,l 9 8,c 10 166 [t 7,t 9],m 5 10]
def am8:PC:=.region [m 11 5,B 12 .neq 11 0]
def al9:PC:=.region [m 13 5,m 4 13]
def ajh:PC:=.region [f 14 1 2,l 15 14,f 16 1 3,l 17 16,b 18 .lss 15 17]
def ao2:PC:=.region [M 4 (-1)]
def aju:PC:=.region [f 19 1 2,l 20 19,f 21 1 3,l 22 21,b 23 .gtr 20 22]
def apj:PC:=.region [M 4 1]
def ajO:PC:=.region [f 24 2 2,l 25 24,f 26 2 3,l 27 26,c 28 166 [t 25,t 27],m 4 28]
def qv:PC:=.seq akB (.seq (.seq agp (.seq am8 (.cond (t 12) (.seq al9 .ret) .skip))) (.seq (.seq ajh (.cond (t 18) (.seq ao2 .ret) .skip)) (.seq (.seq aju (.cond (t 23) (.seq apj .ret) .skip)) (.seq ajO .ret))))
def qF:List Nat:=[0,1,2,3,4,5]
def qD:RL:=[⟨4,none⟩]
def AP:aj bQ 100 qv qF qD 2:=⟨Go.Proofs.Tryz.f100,_,[.tmp 4],by kernel_rfl,by kernel_rfl,rfl,by kernel_rfl,by kernel_rfl,by kernel_rfl,by decide,by decide⟩
def ahU:PC:=.region [o 2 (.mv (.const (.bool false)))]
def aqR:PC:=.region [o 3 (.bslice 3 1 [k 16,k 32,k 48,k 64,k 96,k 112,k 128,k 144,k 160,k 176,k 192]),m 4 0,c 5 167 [t 3,t 4],m 2 5]
def zn:PC:=.seq ahU (.seq aqR .ret)
def zh:List Nat:=[0,2]
def zc:RL:=[⟨2,none⟩]
def KH:aj bQ 102 zn zh zc 1:=⟨Go.Proofs.Tryz.f102,_,[.tmp 2],by kernel_rfl,by kernel_rfl,rfl,by kernel_rfl,by kernel_rfl,by kernel_rfl,by decide,by decide⟩
def aq7:PC:=.region [o 2 (.mv (.const (.bool false)))]
def ajp:PC:=.region [m 3 0,o 4 (.bin .eql (t 3) (.const (.string (ByteArray.mk (Array.mk []))))),m 5 4,Q 5 (m 6 0),Q 5 (c 7 168 [t 6]),Q 5 (B 8 .eql 7 0),o 9 (.pick (t 5) (.const (.bool true)) (t 8)),m 2 9]
def ly:PC:=.seq aq7 (.seq ajp .ret)
def lP:List Nat:=[0,2]
def lI:RL:=[⟨2,none⟩]
def uB:aj bQ 103 ly lP lI 1:=⟨Go.Proofs.Tryz.f103,_,[.tmp 2],by kernel_rfl,by kernel_rfl,rfl,by kernel_rfl,by kernel_rfl,by kernel_rfl,by decide,by decide⟩
def aml:PC:=.region [o 2 (.mv (.const (.string (ByteArray.mk (Array.mk [])))))]
def apb:PC:=.region [o 3 (.mv (.const (.string (ByteArray.mk (Array.mk []))))),M 4 0]
def aov:PC:=.region [M 5 0]
def agh:PC:=.region [m 8 5,m 9 0,n 10 9,b 11 .lss 8 10]
def anN:PC:=.region [m 14 0,m 15 5,i 16 2 14 15,f 17 1 16,l 18 17,c 19 171 [t 18],m 6 19]
def aks:PC:=.region [m 20 0,m 21 5,i 22 2 20 21,f 23 0 22,l 24 23,B 25 .eql 24 (-1)]
def amq:PC:=.region [m 26 3,m 27 6,o 28 (.lenS (t 27)),c 29 107 [t 28,k 1],b 30 .add 26 29,m 31 6,b 32 .add 30 31,m 3 32]
def aoG:PC:=.region [m 33 0,m 34 5,i 35 2 33 34,f 36 0 35,l 37 36,m 38 4,b 39 .sub 37 38,c 40 171 [t 39],m 7 40]
def aiZ:PC:=.region [m 41 0,m 42 5,i 43 2 41 42,f 44 0 43,l 45 44,m 4 45]
def ama:PC:=.region [m 46 3,m 47 6,o 48 (.lenS (t 47)),m 49 7,o 50 (.lenS (t 49)),o 51 (.bin .mul (k 16) (t 50)),b 52 .add 48 51,c 53 107 [t 52,k 1],b 54 .add 46 53,m 55 6,b 56 .add 54 55,m 57 7,b 58 .add 56 57,m 3 58]
def ac6:PC:=.region [m 12 5,B 13 .add 12 1,m 5 13]
def adk:PC:=.loop [0,3,4,5] (.seq (.seq agh (.cond (t 11) .skip (.exit 0))) (.seq (.block 1 (.seq anN (.seq (.seq aks (.cond (t 25) (.seq amq (.exit 1)) .skip)) (.seq aoG (.seq aiZ ama))))) ac6))
def abI:PC:=.region [m 59 3,c 60 110 [k 1],b 61 .add 59 60,m 2 61]
def zJ:PC:=.seq aml (.seq apb (.seq (.seq aov (.block 0 adk)) (.seq abI .ret)))
def yQ:List Nat:=[0,2,3,4,5,6,7]
def zi:RL:=[⟨2,none⟩]
def Kw:aj bQ 106 zJ yQ zi 1:=⟨Go.Proofs.Tryz.f106,_,[.tmp 2],by kernel_rfl,by kernel_rfl,rfl,by kernel_rfl,by kernel_rfl,by kernel_rfl,by decide,by decide⟩
def apf:PC:=.region [o 4 (.mv (.const (.string (ByteArray.mk (Array.mk [])))))]
def aqv:PC:=.region [o 5 (.nilR 5 1)]
def aqP:PC:=.region [M 6 0]
def alP:PC:=.region [m 7 6,m 8 1,b 9 .lss 7 8]
def agz:PC:=.region [m 12 5,m 13 0,B 14 .rem 13 256,o 15 (.conv (.toInt .u8) (t 14)),o 16 (.bslice 5 1 [t 15]),o 17 (.app 5 1 1 (t 12) (t 16)),m 5 17]
def arX:PC:=.region [m 18 0,B 19 .quo 18 256,m 0 19]
def aiu:PC:=.region [m 10 6,B 11 .add 10 1,m 6 11]
def aqX:PC:=.loop [0,1,5,6] (.seq (.seq alP (.cond (t 9) .skip (.exit 0))) (.seq (.block 1 (.seq agz arX)) aiu))
def ain:PC:=.region [m 20 5,o 21 (.conv .bts (t 20)),m 4 21]
def BN:PC:=.seq apf (.seq aqv (.seq (.seq aqP (.block 0 aqX)) (.seq ain .ret)))
def Be:List Nat:=[0,1,4,5,6]
def BH:RL:=[⟨4,none⟩]
def LI:aj bQ 107 BN Be BH 2:=⟨Go.Proofs.Tryz.f107,_,[.tmp 4],by kernel_rfl,by kernel_rfl,rfl,by kernel_rfl,by kernel_rfl,by kernel_rfl,by decide,by decide⟩
def anu:PC:=.region [M 2 0]
def air:PC:=.region [m 3 0]
def ahM:PC:=.region [M 2 1]
def amM:PC:=.region [M 2 0]
def Ip:PC:=.seq anu (.seq (.seq air (.cond (t 3) (.seq ahM .ret) .skip)) (.seq amM .ret))
def Kt:List Nat:=[0,2]
def J2:RL:=[⟨2,none⟩]
def TL:aj bQ 108 Ip Kt J2 1:=⟨Go.Proofs.Tryz.f108,_,[.tmp 2],by kernel_rfl,by kernel_rfl,rfl,by kernel_rfl,by kernel_rfl,by kernel_rfl,by decide,by decide⟩
def aru:PC:=.region [M 4 0]
def aqe:PC:=.region [m 5 0,m 6 1,b 7 .rem 5 6,m 0 7]
def apt:PC:=.region [m 8 0,B 9 .lss 8 0]
def af6:PC:=.region [m 10 0,m 11 1,b 12 .add 10 11,m 0 12]
def aqz:PC:=.region [m 13 0,m 4 13]
def IH:PC:=.seq aru (.seq aqe (.seq (.seq apt (.cond (t 9) af6 .skip)) (.seq aqz .ret)))
def KJ:List Nat:=[0,1,4]
def KN:RL:=[⟨4,none⟩]
def TB:aj bQ 109 IH KJ KN 2:=⟨Go.Proofs.Tryz.f109,_,[.tmp 4],by kernel_rfl,by kernel_rfl,rfl,by kernel_rfl,by kernel_rfl,by kernel_rfl,by decide,by decide⟩
def ag0:PC:=.region [o 2 (.mv (.const (.string (ByteArray.mk (Array.mk [])))))]
def ale:PC:=.region [m 3 0,o 4 (.mm false (t 3) (k 200000)),o 5 (.mm true (k 0) (t 4)),o 6 (.mksl 5 1 1 (.int .u8 0) (t 5) (t 5)),o 7 (.conv .bts (t 6)),m 2 7]
def Dt:PC:=.seq ag0 (.seq ale .ret)
def C6:List Nat:=[0,2]
def CK:RL:=[⟨2,none⟩]
def NJ:aj bQ 110 Dt C6 CK 1:=⟨Go.Proofs.Tryz.f110,_,[.tmp 2],by kernel_rfl,by kernel_rfl,rfl,by kernel_rfl,by kernel_rfl,by kernel_rfl,by decide,by decide⟩
def agZ:PC:=.region [o 2 (.mv (.const (.string (ByteArray.mk (Array.mk [])))))]
def aoT:PC:=.region [m 3 0,m 4 0,o 5 (.lenS (t 4)),c 6 86 [t 5,k 8],o 7 (.bin .mul (k 8) (t 6)),m 8 0,o 9 (.lenS (t 8)),b 10 .sub 7 9,c 11 110 [t 10],b 12 .add 3 11,m 2 12]
def yj:PC:=.seq agZ (.seq aoT .ret)
def zz:List Nat:=[0,2]
def zM:RL:=[⟨2,none⟩]
def Kj:aj bQ 111 yj zz zM 1:=⟨Go.Proofs.Tryz.f111,_,[.tmp 2],by kernel_rfl,by kernel_rfl,rfl,by kernel_rfl,by kernel_rfl,by kernel_rfl,by decide,by decide⟩
def amO:PC:=.region [o 1 (.box 71 (t 0)),M 2 0]
def agP:PC:=.draw [f 4 0 1,l 5 4,c 6 172 [t 5],c 7 130 [t 6,k 15],f 8 1 1,l 9 8,c 10 173 [t 9],f 11 2 1,l 12 11,c 13 174 [t 12,k 0,k 65535],m 14 13,q 14 (f 15 3 1),q 14 (l 16 15),q 14 (c 17 174 [t 16,k 0,k 7]),o 18 (.pick (t 14) (t 17) (.const (.bool false))),c 19 130 [t 18,k 2],o 20 (.bslP 27 1 [t 7,t 10,t 19]),c 21 129 [t 20],m 3 21] [[],[0],[1],[2,2],[],[4],[5,3],[],[7],[8,6],[9,9],[10],[11,10],[12,10,10],[10,13],[14,13],[3,6,15],[16,15],[17,17,0,1,2,3,4,5,6,7,8,9,10,11,12,13,14,15,16,17]]
def agm:PC:=.region [m 22 3,B 23 .neq 22 0]
def amt:PC:=.region [m 24 3,m 2 24]
def ajG:PC:=.region [f 25 4 1,l 26 25]
def af_:PC:=.region [L 27 11 1,c 28 175 [t 27],m 3 28]
def am1:PC:=.region [L 29 11 1,c 30 176 [t 29],m 3 30]
def aky:PC:=.region [m 31 3,B 32 .neq 31 0]
def amr:PC:=.region [m 33 3,m 2 33]
def ap6:PC:=.region [L 34 11 1,c 35 177 [t 34],o 36 (.lenS (t 35)),B 37 .leq 36 440,c 38 130 [t 37,k 16],m 2 38]
def jA:PC:=.seq amO (.seq agP (.seq (.seq agm (.cond (t 23) (.seq amt .ret) .skip)) (.seq (.seq ajG (.cond (t 26) af_ am1)) (.seq (.seq aky (.cond (t 32) (.seq amr .ret) .skip)) (.seq ap6 .ret)))))
def jB:List Nat:=[0,1,2,3]
def jF:RL:=[⟨2,none⟩]
def sJ:aj bQ 112 jA jB jF 1:=⟨Go.Proofs.Tryz.f112,_,[.tmp 2],by kernel_rfl,by kernel_rfl,rfl,by kernel_rfl,by kernel_rfl,by kernel_rfl,by decide,by decide⟩
def ami:PC:=.region [o 1 (.box 71 (t 0)),o 2 (.alloc 51 (.agg [.int .i64 0,.str [],.int .i64 0]))]
def aqI:PC:=.region [f 3 0 1,l 4 3,f 5 1 1,l 6 5,f 7 6 1,l 8 7,o 9 (.build [.int .i64 0,.str [],.int .i64 0] [⟨0,⟨1,t 4⟩⟩,⟨1,⟨1,t 6⟩⟩,⟨2,⟨1,t 8⟩⟩]),s 3 2 9]
def tJ:PC:=.seq ami (.seq aqI .ret)
def tx:List Nat:=[0,1,2]
def ta:RL:=[⟨2,some (⟨true,3⟩)⟩]
def Er:aj bQ 113 tJ tx ta 1:=⟨Go.Proofs.Tryz.f113,_,[.cell 2 51],by kernel_rfl,by kernel_rfl,rfl,by kernel_rfl,by kernel_rfl,by kernel_rfl,by decide,by decide⟩
def amg:PC:=.region [o 2 (.nilR 76 2)]
def arz:PC:=.region [m 3 0,o 4 (.isnil false (t 3))]
def an3:PC:=.region [o 2 (.nilR 76 2)]
def akD:PC:=.region [o 5 (.bslice 76 2 []),m 6 0,o 7 (.app 76 2 16 (t 5) (t 6)),m 2 7]
def cH:PC:=.seq amg (.seq (.seq arz (.cond (t 4) (.seq an3 .ret) .skip)) (.seq akD .ret))
def cJ:List Nat:=[0,2]
def cU:RL:=[⟨2,none⟩]
def fR:aj bQ 114 cH cJ cU 1:=⟨Go.Proofs.Tryz.f114,_,[.tmp 2],by kernel_rfl,by kernel_rfl,rfl,by kernel_rfl,by kernel_rfl,by kernel_rfl,by decide,by decide⟩
def ajj:PC:=.region [o 2 (.nilR 123 2)]
def anC:PC:=.region [m 3 0,o 4 (.isnil false (t 3))]
def apL:PC:=.region [o 2 (.nilR 123 2)]
def aoJ:PC:=.region [o 5 (.bslice 123 2 []),m 6 0,o 7 (.app 123 2 16 (t 5) (t 6)),m 2 7]
def cM:PC:=.seq ajj (.seq (.seq anC (.cond (t 4) (.seq apL .ret) .skip)) (.seq aoJ .ret))
def cO:List Nat:=[0,2]
def cT:RL:=[⟨2,none⟩]
def fV:aj bQ 115 cM cO cT 1:=⟨Go.Proofs.Tryz.f115,_,[.tmp 2],by kernel_rfl,by kernel_rfl,rfl,by kernel_rfl,by kernel_rfl,by kernel_rfl,by decide,by decide⟩
def aoV:PC:=.region [o 2 (.box 71 (t 0)),o 4 (.alloc 71 (.agg [.int .i64 0,.str [],.int .i64 0,.int .i64 0,.bool false,.str [],.int .i64 0,.nil 2,.int .i64 0,.int .i64 0,.int .i64 0]))]
def aq3:PC:=.region [f 5 7 2,l 6 5,c 7 115 [t 6],f 8 7 2,s 1 8 7]
def ahQ:PC:=.region [m 9 1,f 10 2 2,s 1 10 9]
def apT:PC:=.region [L 11 11 2,s 11 4 11]
def sa:PC:=.seq aoV (.seq aq3 (.seq ahQ (.seq apT .ret)))
def rk:List Nat:=[0,1,2,4]
def rO:RL:=[⟨4,some (⟨true,11⟩)⟩]
def Cw:aj bQ 116 sa rk rO 2:=⟨Go.Proofs.Tryz.f116,_,[.cell 4 71],by kernel_rfl,by kernel_rfl,rfl,by kernel_rfl,by kernel_rfl,by kernel_rfl,by decide,by decide⟩
def alO:PC:=.region [M 4 0,M 5 0]
def ahO:PC:=.region [m 9 0,n 10 9,M 11 0]
def amB:PC:=.region [b 12 .lss 11 10]
def apo:PC:=.region [m 13 11,i 14 6 9 11,L 15 6 14,o 7 (.alloc 80 (.agg [.int .i64 0,.str [],.int .i64 0,.int .i64 0,.int .i64 0,.int .i64 0])),m 6 13,s 6 7 15]
def aiC:PC:=.region [m 16 1,m 17 6,L 18 6 7,o 19 (.callv (t 16) [t 17,t 18]),m 8 19]
def aox:PC:=.region [m 20 8,B 21 .neq 20 0]
def apF:PC:=.region [m 22 6,m 23 8,m 4 22,m 5 23]
def ag4:PC:=.region [B 24 .add 11 1,m 11 24]
def akh:PC:=.loop [1,9,10,11] (.seq amB (.seq (.cond (t 12) .skip (.exit 0)) (.seq (.block 1 (.seq apo (.seq aiC (.seq aox (.cond (t 21) (.seq apF .ret) .skip))))) ag4)))
def amY:PC:=.region [M 4 0,M 5 0]
def ez:PC:=.seq alO (.seq (.seq ahO (.block 0 akh)) (.seq amY .ret))
def ew:List Nat:=[0,1,4,5,6,7,8,9,10,11]
def eJ:RL:=[⟨4,none⟩,⟨5,none⟩]
def iS:aj bQ 118 ez ew eJ 2:=⟨Go.Proofs.Tryz.f118,_,[.tmp 4,.tmp 5],by kernel_rfl,by kernel_rfl,rfl,by kernel_rfl,by kernel_rfl,by kernel_rfl,by decide,by decide⟩
def aq_:PC:=.region [o 4 (.box 80 (t 1)),M 5 0]
def ajk:PC:=.draw [f 9 0 4,L 10 3 9,c 11 96 [t 10],f 12 3 4,L 13 2 12,c 14 75 [t 13],f 15 5 4,l 16 15,c 17 54 [t 16,k 0,k 65535],c 18 60 [t 17,k 2],o 19 (.bslP 27 1 [t 11,t 14,t 18]),c 20 74 [t 19],m 6 20] [[],[0],[1],[],[3],[4,2],[],[6],[7,5],[8,8],[2,5,9],[10,9],[11,11,0,1,2,3,4,5,6,7,8,9,10,11]]
def al2:PC:=.region [m 21 0,B 22 .gtr 21 0]
def aoC:PC:=.region [l 23 2,m 24 0,B 25 .sub 24 1,i 26 6 23 25,f 27 0 26,L 28 3 27,o 7 (.alloc 51 (.agg [.int .i64 0,.str [],.int .i64 0])),s 3 7 28]
def ags:PC:=.draw [m 29 6,L 30 3 7,f 31 0 4,L 32 3 31,c 33 120 [t 30,t 32],B 34 .leq 33 0,c 35 60 [t 34,k 9],L 36 3 7,f 37 0 4,L 38 3 37,o 39 (.eqs true [0,1,0] (t 36) (t 38)),m 40 39,Q 40 (f 41 0 4),Q 40 (f 42 0 41),Q 40 (l 43 42),Q 40 (B 44 .eql 43 48),o 45 (.pick (t 40) (.const (.bool true)) (t 44)),c 46 60 [t 45,k 5],o 47 (.bslP 27 1 [t 29,t 35,t 46]),c 48 74 [t 47],m 6 48] [[],[],[],[2],[1,3],[4],[5,4],[],[],[8],[7,9],[10,6],[11],[12,11],[13,11],[14,11],[11,15],[16,11],[0,6,17],[18,17],[19,19,0,1,2,3,4,5,6,7,8,9,10,11,12,13,14,15,16,17,18,19]]
def ahs:PC:=.region [l 49 2,m 50 0,o 51 (.slcR 6 (t 49) none (some (t 50))),o 52 (.mkf 122 [t 4]),c 53 121 [t 51,t 52],m 8 53]
def ahc:PC:=.region [m 54 6,m 55 8,u 56 55,c 57 60 [t 56,k 23],o 58 (.bslice 27 1 [t 54,t 57]),c 59 74 [t 58],m 5 59]
def i_:PC:=.seq aq_ (.seq ajk (.seq (.seq al2 (.cond (t 22) (.seq aoC ags) .skip)) (.seq ahs (.seq ahc .ret))))
def jc:List Nat:=[0,1,2,4,5,6,7,8]
def jd:RL:=[⟨5,none⟩]
def qN:aj bQ 119 i_ jc jd 3:=⟨Go.Proofs.Tryz.f119,_,[.tmp 5],by kernel_rfl,by kernel_rfl,rfl,by kernel_rfl,by kernel_rfl,by kernel_rfl,by decide,by decide⟩
def aqw:PC:=.region [o 2 (.box 51 (t 0)),o 3 (.box 51 (t 1)),M 4 0]
def ap8:PC:=.draw [f 5 0 2,l 6 5,f 7 0 3,l 8 7,c 9 181 [t 6,t 8],f 10 1 2,l 11 10,f 12 1 3,l 13 12,c 14 182 [t 11,t 13],f 15 2 2,l 16 15,f 17 2 3,l 18 17,c 19 181 [t 16,t 18],o 20 (.bslP 3 1 [t 9,t 14,t 19]),c 21 180 [t 20],m 4 21] [[],[0],[],[2],[1,3],[],[5],[],[7],[6,8,4],[],[10],[],[12],[11,13,9],[4,9,14],[15,14],[16,16,0,1,2,3,4,5,6,7,8,9,10,11,12,13,14,15,16]]
def qp:PC:=.seq aqw (.seq ap8 .ret)
def pX:List Nat:=[0,1,2,3,4]
def qB:RL:=[⟨4,none⟩]
def AI:aj bQ 120 qp pX qB 2:=⟨Go.Proofs.Tryz.f120,_,[.tmp 4],by kernel_rfl,by kernel_rfl,rfl,by kernel_rfl,by kernel_rfl,by kernel_rfl,by decide,by decide⟩
def ana:PC:=.region [o 4 (.mv (.const (.bool false)))]
def apx:PC:=.region [m 5 0,m 6 1,c 7 183 [t 5,t 6],B 8 .geq 7 0,m 4 8]
def bn:PC:=.seq ana (.seq apx .ret)
def bt:List Nat:=[0,1,4]
def bm:RL:=[⟨4,none⟩]
def du:aj bQ 121 bn bt bm 2:=⟨Go.Proofs.Tryz.f121,_,[.tmp 4],by kernel_rfl,by kernel_rfl,rfl,by kernel_rfl,by kernel_rfl,by kernel_rfl,by decide,by decide⟩
def amj:PC:=.region [o 2 (.box 80 (t 0)),o 3 (.mv (.const (.bool false)))]
def arI:PC:=.region [f 4 3 1,L 5 2 4,f 6 3 2,L 7 2 6,o 8 (.eqs false [0,0] (t 5) (t 7)),m 9 8,q 9 (f 10 5 1),q 9 (l 11 10),q 9 (f 12 5 2),q 9 (l 13 12),q 9 (b 14 .eql 11 13),o 15 (.pick (t 9) (t 14) (.const (.bool false))),m 3 15]
def h_:PC:=.seq amj (.seq arI .ret)
def g_:List Nat:=[0,1,2,3]
def ij:RL:=[⟨3,none⟩]
def nH:aj bQ 122 h_ g_ ij 2:=⟨Go.Proofs.Tryz.f122,_,[.tmp 3],by kernel_rfl,by kernel_rfl,rfl,by kernel_rfl,by kernel_rfl,by kernel_rfl,by decide,by decide⟩
def aoL:PC:=.region [o 2 (.mv (.const (.string (ByteArray.mk (Array.mk [])))))]
def agR:PC:=.region [o 3 (.mv (.const (.string (ByteArray.mk (Array.mk [])))))]
def agV:PC:=.region [m 6 0,n 7 6,M 8 0]
def amT:PC:=.region [b 9 .lss 8 7]
def aqL:PC:=.region [i 10 6 6 8,L 11 6 10,o 5 (.alloc 80 (.agg [.int .i64 0,.str [],.int .i64 0,.int .i64 0,.int .i64 0,.int .i64 0])),s 6 5 11]
def akM:PC:=.region [m 12 3,L 13 6 5,c 14 125 [t 13],b 15 .add 12 14,m 3 15]
def akN:PC:=.region [B 16 .add 8 1,m 8 16]
def af1:PC:=.loop [3,6,7,8] (.seq amT (.seq (.cond (t 9) .skip (.exit 0)) (.seq (.block 1 (.seq aqL akM)) akN)))
def ag1:PC:=.region [m 17 3,m 2 17]
def pW:PC:=.seq aoL (.seq agR (.seq (.seq agV (.block 0 af1)) (.seq ag1 .ret)))
def qg:List Nat:=[0,2,3,5,6,7,8]
def qq:RL:=[⟨2,none⟩]
def AN:aj bQ 123 pW qg qq 1:=⟨Go.Proofs.Tryz.f123,_,[.tmp 2],by kernel_rfl,by kernel_rfl,rfl,by kernel_rfl,by kernel_rfl,by kernel_rfl,by decide,by decide⟩
def agc:PC:=.region [M 6 0]
def amG:PC:=.region [M 7 0]
def anO:PC:=.region [m 9 2,B 10 .sub 9 1,m 8 10]
def afY:PC:=.region [m 11 8,B 12 .geq 11 0]
def alu:PC:=.region [m 15 7,o 16 (.bin .shl (t 15) (.const (.int .u64 8))),m 17 0,m 18 1,m 19 8,b 20 .add 18 19,o 21 (.idx (t 17) (t 20)),o 22 (.conv (.toInt .i64) (t 21)),b 23 .or 16 22,m 7 23]
def arO:PC:=.region [m 13 8,B 14 .sub 13 1,m 8 14]
def aiY:PC:=.loop [0,1,7,8] (.seq (.seq afY (.cond (t 12) .skip (.exit 0))) (.seq (.block 1 alu) arO))
def arA:PC:=.region [m 24 7,m 6 24]
def wO:PC:=.seq agc (.seq amG (.seq (.seq anO (.block 0 aiY)) (.seq arA .ret)))
def wU:List Nat:=[0,1,2,6,7,8]
def xr:RL:=[⟨6,none⟩]
def GZ:aj bQ 124 wO wU xr 3:=⟨Go.Proofs.Tryz.f124,_,[.tmp 6],by kernel_rfl,by kernel_rfl,rfl,by kernel_rfl,by kernel_rfl,by kernel_rfl,by decide,by decide⟩
def ajE:PC:=.region [o 1 (.box 80 (t 0)),o 2 (.mv (.const (.string (ByteArray.mk (Array.mk [])))))]
def akQ:PC:=.region [f 4 0 1,f 5 1 4,l 6 5,o 7 (.lenS (t 6)),o 8 (.bin .add (k 26) (t 7)),B 9 .add 8 8,B 10 .sub 9 1,B 11 .quo 10 8,B 12 .mul 11 8,o 13 (.mksl 5 1 1 (.int .u8 0) (t 12) (t 12)),m 3 13]
def arH:PC:=.region [m 14 3,f 15 0 1,f 16 0 15,l 17 16,c 18 184 [t 14,k 0,k 4,t 17]]
def ajs:PC:=.region [m 19 3,m 20 3,n 21 20,c 22 184 [t 19,k 4,k 2,t 21]]
def aim:PC:=.region [m 23 3,f 24 0 1,f 25 1 24,l 26 25,o 27 (.lenS (t 26)),c 28 184 [t 23,k 6,k 1,t 27]]
def ahI:PC:=.region [m 29 3,c 30 184 [t 29,k 7,k 1,k 26]]
def arG:PC:=.region [m 31 3,f 32 0 1,f 33 2 32,l 34 33,c 35 184 [t 31,k 8,k 4,t 34]]
def apy:PC:=.region [m 36 3,f 37 3 1,f 38 0 37,l 39 38,c 40 184 [t 36,k 12,k 4,t 39]]
def akE:PC:=.region [m 41 3,f 42 3 1,f 43 1 42,l 44 43,c 45 184 [t 41,k 16,k 2,t 44]]
def ahL:PC:=.region [m 46 3,f 47 5 1,l 48 47,c 49 184 [t 46,k 18,k 2,t 48]]
def adM:PC:=.drawD [m 50 3,o 51 (.slcR 1 (t 50) (some (k 26)) none),f 52 0 1,f 53 1 52,l 54 53,o 55 (.cpyS (t 51) (t 54))] [[],[0],[],[2],[3],[1,4]]
def adn:PC:=.region [m 56 3,o 57 (.conv .bts (t 56)),m 2 57]
def th:PC:=.seq ajE (.seq akQ (.seq arH (.seq ajs (.seq aim (.seq ahI (.seq arG (.seq apy (.seq akE (.seq ahL (.seq adM (.seq adn .ret)))))))))))
def tg:List Nat:=[0,1,2,3]
def tE:RL:=[⟨2,none⟩]
def C9:aj bQ 125 th tg tE 1:=⟨Go.Proofs.Tryz.f125,_,[.tmp 2],by kernel_rfl,by kernel_rfl,rfl,by kernel_rfl,by kernel_rfl,by kernel_rfl,by decide,by decide⟩
def anc:PC:=.region [M 6 0]
def aqE:PC:=.region [M 7 0]
def ajx:PC:=.region [m 9 2,B 10 .sub 9 1,m 8 10]
def aiI:PC:=.region [m 11 8,B 12 .geq 11 0]
def anw:PC:=.region [m 15 7,B 16 .mul 15 256,m 17 0,m 18 1,m 19 8,b 20 .add 18 19,o 21 (.idx (t 17) (t 20)),o 22 (.conv (.toInt .i64) (t 21)),b 23 .add 16 22,m 7 23]
def ani:PC:=.region [m 13 8,B 14 .sub 13 1,m 8 14]
def aqW:PC:=.loop [0,1,7,8] (.seq (.seq aiI (.cond (t 12) .skip (.exit 0))) (.seq (.block 1 anw) ani))
def amz:PC:=.region [m 24 7,m 6 24]
def wP:PC:=.seq anc (.seq aqE (.seq (.seq ajx (.block 0 aqW)) (.seq amz .ret)))
def xF:List Nat:=[0,1,2,6,7,8]
def wN:RL:=[⟨6,none⟩]
def GI:aj bQ 126 wP xF wN 3:=⟨Go.Proofs.Tryz.f126,_,[.tmp 6],by kernel_rfl,by kernel_rfl,rfl,by kernel_rfl,by kernel_rfl,by kernel_rfl,by decide,by decide⟩
def ap3:PC:=.region [o 1 (.box 80 (t 0)),o 2 (.mv (.const (.string (ByteArray.mk (Array.mk [])))))]
def apA:PC:=.region [f 5 0 1,f 6 1 5,l 7 6,o 8 (.lenS (t 7)),o 9 (.bin .add (k 26) (t 8)),c 10 86 [t 9,k 8],o 11 (.bin .mul (k 8) (t 10)),m 3 11]
def ak5:PC:=.draw [f 12 0 1,f 13 0 12,l 14 13,c 15 107 [t 14,k 4],m 16 3,c 17 107 [t 16,k 2],b 18 .add 15 17,f 19 0 1,f 20 1 19,l 21 20,o 22 (.lenS (t 21)),c 23 107 [t 22,k 1],b 24 .add 18 23,c 25 107 [k 26,k 1],b 26 .add 24 25,f 27 0 1,f 28 2 27,l 29 28,c 30 107 [t 29,k 4],b 31 .add 26 30,f 32 3 1,f 33 0 32,l 34 33,c 35 107 [t 34,k 4],b 36 .add 31 35,f 37 3 1,f 38 1 37,l 39 38,c 40 107 [t 39,k 2],b 41 .add 36 40,f 42 5 1,l 43 42,c 44 107 [t 43,k 2],b 45 .add 41 44,m 4 45] [[],[0],[1],[2],[],[4,3],[3,5],[],[7],[8],[9],[10,5],[6,11],[11],[12,13],[],[15],[16],[17,13],[14,18],[],[20],[21],[22,18],[19,23],[],[25],[26],[27,23],[24,28],[],[30],[31,28],[29,32],[33,32,0,1,2,3,4,5,6,7,8,9,10,11,12,13,14,15,16,17,18,19,20,21,22,23,24,25,26,27,28,29,30,31,32,33]]
def aq8:PC:=.draw [m 46 4,m 47 4,o 48 (.lenS (t 47)),o 49 (.bin .sub (k 26) (t 48)),c 50 110 [t 49],b 51 .add 46 50,f 52 0 1,f 53 1 52,l 54 53,b 55 .add 51 54,m 4 55] [[],[],[1],[2],[3],[0,4],[],[6],[7],[5,8],[9,4,0,1,2,3,4,5,6,7,8,9]]
def aoZ:PC:=.region [m 56 4,m 57 3,m 58 4,o 59 (.lenS (t 58)),b 60 .sub 57 59,c 61 110 [t 60],b 62 .add 56 61,m 2 62]
def zr:PC:=.seq ap3 (.seq apA (.seq ak5 (.seq aq8 (.seq aoZ .ret))))
def y5:List Nat:=[0,1,2,3,4]
def yn:RL:=[⟨2,none⟩]
def Kr:aj bQ 127 zr y5 yn 1:=⟨Go.Proofs.Tryz.f127,_,[.tmp 2],by kernel_rfl,by kernel_rfl,rfl,by kernel_rfl,by kernel_rfl,by kernel_rfl,by decide,by decide⟩
def apd:PC:=.region [o 2 (.box 22 (t 0)),o 3 (.box 3 (t 1)),M 4 0]
def an4:PC:=.region [l 6 2,l 7 3,o 8 (.slcR 11 (t 6) none (some (t 7))),o 9 (.mkf 185 [t 2,t 3]),c 10 63 [t 8,t 9],m 5 10]
def ahr:PC:=.region [l 11 2,l 12 3,i 13 11 11 12,L 14 11 13,c 15 112 [t 14],m 16 5,u 17 16,c 18 130 [t 17,k 23],o 19 (.bslice 27 1 [t 15,t 18]),c 20 129 [t 19],m 4 20]
def mY:PC:=.seq apd (.seq an4 (.seq ahr .ret))
def nr:List Nat:=[0,1,2,3,4,5]
def nq:RL:=[⟨4,none⟩]
def xL:aj bQ 128 mY nr nq 2:=⟨Go.Proofs.Tryz.f128,_,[.tmp 4],by kernel_rfl,by kernel_rfl,rfl,by kernel_rfl,by kernel_rfl,by kernel_rfl,by decide,by decide⟩
def arL:PC:=.region [M 2 0]
def ah_:PC:=.region [m 5 0,n 6 5,M 7 0]
def aog:PC:=.region [b 8 .lss 7 6]
def al1:PC:=.region [i 9 1 5 7,l 10 9,m 4 10]
def agj:PC:=.region [m 11 4,B 12 .neq 11 0]
def akm:PC:=.region [m 13 4,m 2 13]
def agU:PC:=.region [B 14 .add 7 1,m 7 14]
def amH:PC:=.loop [5,6,7] (.seq aog (.seq (.cond (t 8) .skip (.exit 0)) (.seq (.block 1 (.seq al1 (.seq agj (.cond (t 12) (.seq akm .ret) .skip)))) agU)))
def arh:PC:=.region [M 2 0]
def tm:PC:=.seq arL (.seq (.seq ah_ (.block 0 amH)) (.seq arh .ret))
def tO:List Nat:=[0,2,4,5,6,7]
def tH:RL:=[⟨2,none⟩]
def Dh:aj bQ 129 tm tO tH 1:=⟨Go.Proofs.Tryz.f129,_,[.tmp 2],by kernel_rfl,by kernel_rfl,rfl,by kernel_rfl,by kernel_rfl,by kernel_rfl,by decide,by decide⟩
def am0:PC:=.region [M 4 0]
def amL:PC:=.region [m 5 0]
def agl:PC:=.region [M 4 0]
def anK:PC:=.region [m 6 1,m 4 6]
def rj:PC:=.seq am0 (.seq (.seq amL (.cond (t 5) (.seq agl .ret) .skip)) (.seq anK .ret))
def rS:List Nat:=[0,1,4]
def sf:RL:=[⟨4,none⟩]
def B9:aj bQ 130 rj rS sf 2:=⟨Go.Proofs.Tryz.f130,_,[.tmp 4],by kernel_rfl,by kernel_rfl,rfl,by kernel_rfl,by kernel_rfl,by kernel_rfl,by decide,by decide⟩
def aro:PC:=.region [o 2 (.box 71 (t 0)),o 3 (.box 71 (t 1)),M 4 0]
def ajL:PC:=.draw [f 5 0 2,l 6 5,f 7 0 3,l 8 7,c 9 181 [t 6,t 8],f 10 1 2,l 11 10,f 12 1 3,l 13 12,c 14 182 [t 11,t 13],f 15 6 2,l 16 15,f 17 6 3,l 18 17,c 19 181 [t 16,t 18],f 20 2 2,l 21 20,f 22 2 3,l 23 22,c 24 181 [t 21,t 23],o 25 (.bslP 3 1 [t 9,t 14,t 19,t 24]),c 26 180 [t 25],m 4 26] [[],[0],[],[2],[1,3],[],[5],[],[7],[6,8,4],[],[10],[],[12],[11,13,9],[],[15],[],[17],[16,18,14],[4,9,14,19],[20,19],[21,21,0,1,2,3,4,5,6,7,8,9,10,11,12,13,14,15,16,17,18,19,20,21]]
def p_:PC:=.seq aro (.seq ajL .ret)
def qm:List Nat:=[0,1,2,3,4]
def qj:RL:=[⟨4,none⟩]
def A_:aj bQ 131 p_ qm qj 2:=⟨Go.Proofs.Tryz.f131,_,[.tmp 4],by kernel_rfl,by kernel_rfl,rfl,by kernel_rfl,by kernel_rfl,by kernel_rfl,by decide,by decide⟩
def ag_:PC:=.region [o 2 (.box 71 (t 0)),o 3 (.box 71 (t 1)),o 4 (.mv (.const (.bool false)))]
def aje:PC:=.region [f 5 0 2,l 6 5,f 7 0 3,l 8 7,b 9 .eql 6 8,m 10 9,q 10 (f 11 1 2),q 10 (l 12 11),q 10 (f 13 1 3),q 10 (l 14 13),q 10 (b 15 .eql 12 14),o 16 (.pick (t 10) (t 15) (.const (.bool false))),m 17 16,q 17 (f 18 6 2),q 17 (l 19 18),q 17 (f 20 6 3),q 17 (l 21 20),q 17 (b 22 .eql 19 21),o 23 (.pick (t 17) (t 22) (.const (.bool false))),m 4 23]
def pL:PC:=.seq ag_ (.seq aje .ret)
def pN:List Nat:=[0,1,2,3,4]
def qC:RL:=[⟨4,none⟩]
def AQ:aj bQ 132 pL pN qC 2:=⟨Go.Proofs.Tryz.f132,_,[.tmp 4],by kernel_rfl,by kernel_rfl,rfl,by kernel_rfl,by kernel_rfl,by kernel_rfl,by decide,by decide⟩
def apJ:PC:=.region [o 1 (.box 71 (t 0)),o 2 (.mv (.const (.bool false)))]
def alp:PC:=.region [f 3 0 1,l 4 3,B 5 .eql 4 16,m 2 5]
def rv:PC:=.seq apJ (.seq alp .ret)
def rJ:List Nat:=[0,1,2]
def su:RL:=[⟨2,none⟩]
def Cj:aj bQ 133 rv rJ su 1:=⟨Go.Proofs.Tryz.f133,_,[.tmp 2],by kernel_rfl,by kernel_rfl,rfl,by kernel_rfl,by kernel_rfl,by kernel_rfl,by decide,by decide⟩
def anU:PC:=.region [o 1 (.box 71 (t 0)),M 2 0,M 3 0]
def ah9:PC:=.region [L 7 11 1,c 8 186 [t 7],m 6 8,e 9 6 0,e 10 6 1,m 4 9,m 5 10]
def aop:PC:=.region [m 11 4,o 12 (.lenS (t 11)),m 13 5,m 2 12,m 3 13]
def qb:PC:=.seq anU (.seq ah9 (.seq aop .ret))
def qz:List Nat:=[0,1,2,3,4,5]
def p6:RL:=[⟨2,none⟩,⟨3,none⟩]
def A7:aj bQ 134 qb qz p6 1:=⟨Go.Proofs.Tryz.f134,_,[.tmp 2,.tmp 3],by kernel_rfl,by kernel_rfl,rfl,by kernel_rfl,by kernel_rfl,by kernel_rfl,by decide,by decide⟩
def af9:PC:=.region [M 4 0]
def amJ:PC:=.region [m 6 0,n 7 6,M 8 0]
def alK:PC:=.region [b 9 .lss 8 7]
def ajc:PC:=.region [m 10 8,m 5 10]
def aoj:PC:=.region [m 11 1,m 12 0,m 13 5,i 14 2 12 13,L 15 2 14,o 16 (.callv (t 11) [t 15])]
def alm:PC:=.region [m 17 5,m 4 17]
def anZ:PC:=.region [B 18 .add 8 1,m 8 18]
def ajC:PC:=.loop [0,1,7,8] (.seq alK (.seq (.cond (t 9) .skip (.exit 0)) (.seq (.block 1 (.seq ajc (.seq aoj (.cond (t 16) (.seq alm .ret) .skip)))) anZ)))
def aom:PC:=.region [M 4 (-1)]
def cl:PC:=.seq af9 (.seq (.seq amJ (.block 0 ajC)) (.seq aom .ret))
def cp:List Nat:=[0,1,4,5,7,8]
def ck:RL:=[⟨4,none⟩]
def fk:aj bQ 137 cl cp ck 2:=⟨Go.Proofs.Tryz.f137,_,[.tmp 4],by kernel_rfl,by kernel_rfl,rfl,by kernel_rfl,by kernel_rfl,by kernel_rfl,by decide,by decide⟩
def amA:PC:=.region [M 4 0]
def amW:PC:=.region [m 6 0,n 7 6,M 8 0]
def anD:PC:=.region [b 9 .lss 8 7]
def ao6:PC:=.region [m 10 8,m 5 10]
def ang:PC:=.region [m 11 1,m 12 0,m 13 5,i 14 2 12 13,L 15 2 14,o 16 (.callv (t 11) [t 15])]
def amf:PC:=.region [m 17 5,m 4 17]
def akp:PC:=.region [B 18 .add 8 1,m 8 18]
def arb:PC:=.loop [0,1,7,8] (.seq anD (.seq (.cond (t 9) .skip (.exit 0)) (.seq (.block 1 (.seq ao6 (.seq ang (.cond (t 16) (.seq amf .ret) .skip)))) akp)))
def ao4:PC:=.region [M 4 (-1)]
def cn:PC:=.seq amA (.seq (.seq amW (.block 0 arb)) (.seq ao4 .ret))
def cj:List Nat:=[0,1,4,5,7,8]
def cq:RL:=[⟨4,none⟩]
def fc:aj bQ 138 cn cj cq 2:=⟨Go.Proofs.Tryz.f138,_,[.tmp 4],by kernel_rfl,by kernel_rfl,rfl,by kernel_rfl,by kernel_rfl,by kernel_rfl,by decide,by decide⟩
def am9:PC:=.region [o 1 (.box 123 (t 0)),M 2 0]
def aih:PC:=.region [L 3 2 1,c 4 187 [t 3]]
def aoz:PC:=.region [f 5 1 1,l 6 5,c 7 188 [t 6,k 1,k 4096],c 8 142 [t 7,k 2],m 2 8]
def aob:PC:=.region [f 9 0 1,l 10 9,c 11 188 [t 10,k 0,k 511],u 12 11]
def ans:PC:=.region [M 2 2]
def aiD:PC:=.region [f 13 1 1,l 14 13,f 15 0 1,l 16 15,o 17 (.bin .sub (k 512) (t 16)),c 18 188 [t 14,k 1,t 17],c 19 142 [t 18,k 2],m 2 19]
def wV:PC:=.seq am9 (.seq (.seq aih (.cond (t 4) (.seq aoz .ret) .skip)) (.seq (.seq aob (.cond (t 12) (.seq ans .ret) .skip)) (.seq aiD .ret)))
def xd:List Nat:=[0,1,2]
def xA:RL:=[⟨2,none⟩]
def He:aj bQ 139 wV xd xA 1:=⟨Go.Proofs.Tryz.f139,_,[.tmp 2],by kernel_rfl,by kernel_rfl,rfl,by kernel_rfl,by kernel_rfl,by kernel_rfl,by decide,by decide⟩
def alx:PC:=.region [o 2 (.box 123 (t 0)),o 3 (.box 123 (t 1)),o 4 (.mv (.const (.bool false)))]
def ajM:PC:=.draw [L 5 2 2,c 6 187 [t 5],L 7 2 3,c 8 187 [t 7],o 9 (.eqb false (t 6) (t 8)),m 10 9,q 10 (L 11 2 2),q 10 (c 12 187 [t 11]),q 10 (m 13 12),Q 13 (f 14 0 2),Q 13 (l 15 14),Q 13 (f 16 1 2),Q 13 (l 17 16),Q 13 (b 18 .add 15 17),Q 13 (f 19 0 3),Q 13 (l 20 19),Q 13 (b 21 .eql 18 20),q 10 (o 22 (.pick (t 13) (.const (.bool true)) (t 21))),o 23 (.pick (t 10) (t 22) (.const (.bool false))),m 4 23] [[],[0],[],[2,1],[1,3],[4,3],[5],[6,5,5],[7,7,5],[8],[9,8],[8],[11,8],[10,12,8],[8],[14,8],[13,15,8],[8,16,5],[5,17],[18,8,0,1,2,3,4,5,6,7,8,9,10,11,12,13,14,15,16,17,18]]
def Ek:PC:=.seq alx (.seq ajM .ret)
def Ew:List Nat:=[0,1,2,3,4]
def Ey:RL:=[⟨4,none⟩]
def Nr:aj bQ 140 Ek Ew Ey 2:=⟨Go.Proofs.Tryz.f140,_,[.tmp 4],by kernel_rfl,by kernel_rfl,rfl,by kernel_rfl,by kernel_rfl,by kernel_rfl,by decide,by decide⟩
def aoS:PC:=.region [o 3 (.box 123 (t 1)),o 4 (.mv (.const (.bool false)))]
def anS:PC:=.region [L 7 2 3,c 8 187 [t 7]]
def ajR:PC:=.region [o 4 (.mv (.const (.bool true)))]
def aqx:PC:=.region [o 5 (.mv (.const (.bool true)))]
def alM:PC:=.region [f 9 0 3,l 10 9,m 6 10]
def apk:PC:=.region [m 11 6,f 12 0 3,l 13 12,f 14 1 3,l 15 14,b 16 .add 13 15,b 17 .lss 11 16]
def apY:PC:=.region [m 20 5,m 21 20,q 21 (m 22 0),q 21 (m 23 6),q 21 (o 24 (.nilck (t 22))),q 21 (o 25 (.idxAr 512 1 (t 24) (t 23))),q 21 (l 26 25),q 21 (u 27 26),o 28 (.pick (t 21) (t 27) (.const (.bool false))),m 5 28]
def ahD:PC:=.region [m 29 0,m 30 6,o 31 (.nilck (t 29)),o 32 (.idxAr 512 1 (t 31) (t 30)),O (.store 1 (t 32) (.const (.bool true)))]
def ahy:PC:=.region [m 18 6,B 19 .add 18 1,m 6 19]
def aiL:PC:=.loop [0,3,5,6] (.seq (.seq apk (.cond (t 17) .skip (.exit 0))) (.seq (.block 1 (.seq apY ahD)) ahy))
def aee:PC:=.region [m 33 5,m 4 33]
def uC:PC:=.seq aoS (.seq (.seq anS (.cond (t 8) (.seq ajR .ret) .skip)) (.seq aqx (.seq (.seq alM (.block 0 aiL)) (.seq aee .ret))))
def uF:List Nat:=[0,1,3,4,5,6]
def vh:RL:=[⟨4,none⟩]
def E4:aj bQ 141 uC uF vh 2:=⟨Go.Proofs.Tryz.f141,_,[.tmp 4],by kernel_rfl,by kernel_rfl,rfl,by kernel_rfl,by kernel_rfl,by kernel_rfl,by decide,by decide⟩
def aq2:PC:=.region [M 4 0]
def amp:PC:=.region [m 5 0]
def ald:PC:=.region [M 4 0]
def amX:PC:=.region [m 6 1,m 4 6]
def Bk:PC:=.seq aq2 (.seq (.seq amp (.cond (t 5) (.seq ald .ret) .skip)) (.seq amX .ret))
def BW:List Nat:=[0,1,4]
def BV:RL:=[⟨4,none⟩]
def Ls:aj bQ 142 Bk BW BV 2:=⟨Go.Proofs.Tryz.f142,_,[.tmp 4],by kernel_rfl,by kernel_rfl,rfl,by kernel_rfl,by kernel_rfl,by kernel_rfl,by decide,by decide⟩
def apM:PC:=.region [M 2 0]
def anp:PC:=.region [M 3 0]
def alq:PC:=.region [m 6 0,n 7 6,M 8 0]
def anz:PC:=.region [b 9 .lss 8 7]
def arF:PC:=.region [i 10 2 6 8,L 11 2 10,o 5 (.alloc 123 (.agg [.int .i64 0,.int .i64 0])),s 2 5 11]
def aoD:PC:=.region [m 12 3,f 13 1 5,l 14 13,b 15 .add 12 14,m 3 15]
def ams:PC:=.region [B 16 .add 8 1,m 8 16]
def akl:PC:=.loop [3,6,7,8] (.seq anz (.seq (.cond (t 9) .skip (.exit 0)) (.seq (.block 1 (.seq arF aoD)) ams)))
def ak6:PC:=.region [m 17 3,m 2 17]
def BJ:PC:=.seq apM (.seq anp (.seq (.seq alq (.block 0 akl)) (.seq ak6 .ret)))
def Bu:List Nat:=[0,2,3,5,6,7,8]
def BT:RL:=[⟨2,none⟩]
def Lp:aj bQ 143 BJ Bu BT 1:=⟨Go.Proofs.Tryz.f143,_,[.tmp 2],by kernel_rfl,by kernel_rfl,rfl,by kernel_rfl,by kernel_rfl,by kernel_rfl,by decide,by decide⟩
def alL:PC:=.region [o 3 (.box 71 (t 1)),o 4 (.mv (.const (.bool false)))]
def anv:PC:=.drawD [f 5 5 3,l 6 5,o 7 (.lenS (t 6)),B 8 .leq 7 400,m 9 8,q 9 (m 10 0),q 9 (o 11 (.nilck (t 10))),q 9 (f 12 0 11),q 9 (f 13 1 12),q 9 (l 14 13),q 9 (o 15 (.idxA 8 (t 14) (k 0))),q 9 (f 16 7 15),q 9 (l 17 16),q 9 (c 18 65 [t 17]),q 9 (L 19 11 3),q 9 (o 20 (.bslP 71 11 [t 19])),q 9 (c 21 65 [t 20]),q 9 (b 22 .add 18 21),q 9 (B 23 .leq 22 440),o 24 (.pick (t 9) (t 23) (.const (.bool false))),m 4 24] [[],[0],[1],[2],[3],[4],[5,4],[6,4],[7,4],[8,4],[9,4],[10,4],[11,4],[12,4,4],[4],[14,4],[15,13,4],[13,16,4],[17,4],[4,18],[19,16,0,1,2,3,4,5,6,7,8,9,10,11,12,13,14,15,16,17,18,19]]
def kg:PC:=.seq alL (.seq anv .ret)
def jZ:List Nat:=[0,1,3,4]
def j5:RL:=[⟨4,none⟩]
def sP:aj bQ 144 kg jZ j5 2:=⟨Go.Proofs.Tryz.f144,_,[.tmp 4],by kernel_rfl,by kernel_rfl,rfl,by kernel_rfl,by kernel_rfl,by kernel_rfl,by decide,by decide⟩
def ajV:PC:=.region [M 2 0]
def aqM:PC:=.region [M 3 0]
def aik:PC:=.region [m 6 0,n 7 6,M 8 0]
def alX:PC:=.region [b 9 .lss 8 7]
def apQ:PC:=.region [i 10 2 6 8,L 11 2 10,o 5 (.alloc 123 (.agg [.int .i64 0,.int .i64 0])),s 2 5 11]
def aqC:PC:=.region [m 12 3,f 13 1 5,l 14 13,b 15 .add 12 14,m 3 15]
def agd:PC:=.region [B 16 .add 8 1,m 8 16]
def akR:PC:=.loop [3,6,7,8] (.seq alX (.seq (.cond (t 9) .skip (.exit 0)) (.seq (.block 1 (.seq apQ aqC)) agd)))
def an8:PC:=.region [m 17 3,m 2 17]
def nU:PC:=.seq ajV (.seq aqM (.seq (.seq aik (.block 0 akR)) (.seq an8 .ret)))
def o3:List Nat:=[0,2,3,5,6,7,8]
def oX:RL:=[⟨2,none⟩]
def zD:aj bQ 145 nU o3 oX 1:=⟨Go.Proofs.Tryz.f145,_,[.tmp 2],by kernel_rfl,by kernel_rfl,rfl,by kernel_rfl,by kernel_rfl,by kernel_rfl,by decide,by decide⟩
def aj3:PC:=.region [M 4 0]
def agX:PC:=.region [m 6 0,m 7 1,b 8 .quo 6 7,m 5 8]
def ahu:PC:=.region [m 9 0,m 10 1,b 11 .rem 9 10,B 12 .lss 11 0]
def alj:PC:=.region [m 13 5,B 14 .sub 13 1,m 5 14]
def aol:PC:=.region [m 15 5,m 4 15]
def EF:PC:=.seq aj3 (.seq agX (.seq (.seq ahu (.cond (t 12) alj .skip)) (.seq aol .ret)))
def DR:List Nat:=[0,1,4,5]
def EB:RL:=[⟨4,none⟩]
def OC:aj bQ 147 EF DR EB 2:=⟨Go.Proofs.Tryz.f147,_,[.tmp 4],by kernel_rfl,by kernel_rfl,rfl,by kernel_rfl,by kernel_rfl,by kernel_rfl,by decide,by decide⟩
def ahR:PC:=.region [o 6 (.mv (.const (.bool false)))]
def alF:PC:=.region [m 7 1,m 8 0,b 9 .leq 7 8,m 10 9,q 10 (m 11 0),q 10 (m 12 2),q 10 (b 13 .leq 11 12),o 14 (.pick (t 10) (t 13) (.const (.bool false))),m 6 14]
def xC:PC:=.seq ahR (.seq alF .ret)
def wX:List Nat:=[0,1,2,6]
def wT:RL:=[⟨6,none⟩]
def Hf:aj bQ 148 xC wX wT 3:=⟨Go.Proofs.Tryz.f148,_,[.tmp 6],by kernel_rfl,by kernel_rfl,rfl,by kernel_rfl,by kernel_rfl,by kernel_rfl,by decide,by decide⟩
def aoA:PC:=.region [M 2 0]
def ao0:PC:=.region [m 5 0,n 6 5,M 7 0]
def anj:PC:=.region [b 8 .lss 7 6]
def am4:PC:=.region [i 9 1 5 7,l 10 9,m 4 10]
def ajY:PC:=.region [m 11 4,B 12 .neq 11 0]
def apl:PC:=.region [m 13 4,m 2 13]
def akC:PC:=.region [B 14 .add 7 1,m 7 14]
def akS:PC:=.loop [5,6,7] (.seq anj (.seq (.cond (t 8) .skip (.exit 0)) (.seq (.block 1 (.seq am4 (.seq ajY (.cond (t 12) (.seq apl .ret) .skip)))) akC)))
def aqr:PC:=.region [M 2 0]
def zB:PC:=.seq aoA (.seq (.seq ao0 (.block 0 akS)) (.seq aqr .ret))
def yJ:List Nat:=[0,2,4,5,6,7]
def yi:RL:=[⟨2,none⟩]
def Jr:aj bQ 149 zB yJ yi 1:=⟨Go.Proofs.Tryz.f149,_,[.tmp 2],by kernel_rfl,by kernel_rfl,rfl,by kernel_rfl,by kernel_rfl,by kernel_rfl,by decide,by decide⟩
def ajo:PC:=.region [M 4 0]
def ajN:PC:=.region [m 5 0]
def amc:PC:=.region [M 4 0]
def anG:PC:=.region [m 6 1,m 4 6]
def wZ:PC:=.seq ajo (.seq (.seq ajN (.cond (t 5) (.seq amc .ret) .skip)) (.seq anG .ret))
def wS:List Nat:=[0,1,4]
def xb:RL:=[⟨4,none⟩]
def GX:aj bQ 150 wZ wS xb 2:=⟨Go.Proofs.Tryz.f150,_,[.tmp 4],by kernel_rfl,by kernel_rfl,rfl,by kernel_rfl,by kernel_rfl,by kernel_rfl,by decide,by decide⟩
def arD:PC:=.region [o 1 (.box 76 (t 0)),M 2 0]
def anP:PC:=.region [L 3 2 1,o 4 (.build [.int .i64 0,.int .i64 0] []),o 5 (.eqs false [0,0] (t 3) (t 4))]
def aqF:PC:=.region [M 2 0]
def aqZ:PC:=.region [L 6 2 1,c 7 192 [t 6],m 2 7]
def vH:PC:=.seq arD (.seq (.seq anP (.cond (t 5) (.seq aqF .ret) .skip)) (.seq aqZ .ret))
def vz:List Nat:=[0,1,2]
def uZ:RL:=[⟨2,none⟩]
def FO:aj bQ 151 vH vz uZ 1:=⟨Go.Proofs.Tryz.f151,_,[.tmp 2],by kernel_rfl,by kernel_rfl,rfl,by kernel_rfl,by kernel_rfl,by kernel_rfl,by decide,by decide⟩
def ah6:PC:=.region [o 1 (.box 78 (t 0)),o 2 (.mv (.const (.bool false)))]
def agi:PC:=.region [f 3 2 1,l 4 3,B 5 .and 4 1,B 6 .neq 5 0,m 2 6]
def xt:PC:=.seq ah6 (.seq agi .ret)
def xj:List Nat:=[0,1,2]
def xn:RL:=[⟨2,none⟩]
def GN:aj bQ 152 xt xj xn 1:=⟨Go.Proofs.Tryz.f152,_,[.tmp 2],by kernel_rfl,by kernel_rfl,rfl,by kernel_rfl,by kernel_rfl,by kernel_rfl,by decide,by decide⟩
def aj2:PC:=.region [o 2 (.box 71 (t 0)),o 3 (.mv (.const (.bool false)))]
def aoi:PC:=.region [f 4 2 2,l 5 4,f 6 5 1,l 7 6,b 8 .geq 5 7,m 3 8]
def lR:PC:=.seq aj2 (.seq aoi .ret)
def lG:List Nat:=[0,1,2,3]
def lK:RL:=[⟨3,none⟩]
def ux:aj bQ 153 lR lG lK 2:=⟨Go.Proofs.Tryz.f153,_,[.tmp 3],by kernel_rfl,by kernel_rfl,rfl,by kernel_rfl,by kernel_rfl,by kernel_rfl,by decide,by decide⟩
def ao9:PC:=.region [M 2 0]
def ark:PC:=.region [M 3 0]
def al4:PC:=.region [m 8 0,n 9 8,M 10 0]
def ai8:PC:=.region [b 11 .lss 10 9]
def ajA:PC:=.region [i 12 11 8 10,L 13 11 12,o 5 (.alloc 71 (.agg [.int .i64 0,.str [],.int .i64 0,.int .i64 0,.bool false,.str [],.int .i64 0,.nil 2,.int .i64 0,.int .i64 0,.int .i64 0])),s 11 5 13]
def agk:PC:=.region [L 15 11 5,c 16 134 [t 15],m 14 16,e 17 14 0,e 18 14 1,m 6 17,m 7 18]
def aki:PC:=.region [m 19 3,m 20 6,b 21 .add 19 20,m 3 21]
def apW:PC:=.region [B 22 .add 10 1,m 10 22]
def apB:PC:=.loop [3,8,9,10] (.seq ai8 (.seq (.cond (t 11) .skip (.exit 0)) (.seq (.block 1 (.seq ajA (.seq agk aki))) apW)))
def alH:PC:=.region [m 23 3,m 2 23]
def xx:PC:=.seq ao9 (.seq ark (.seq (.seq al4 (.block 0 apB)) (.seq alH .ret)))
def xz:List Nat:=[0,2,3,5,6,8,9,10]
def xq:RL:=[⟨2,none⟩]
def GR:aj bQ 154 xx xz xq 1:=⟨Go.Proofs.Tryz.f154,_,[.tmp 2],by kernel_rfl,by kernel_rfl,rfl,by kernel_rfl,by kernel_rfl,by kernel_rfl,by decide,by decide⟩
def alz:PC:=.region [o 1 (.box 71 (t 0)),o 2 (.mv (.const (.bool false)))]
def ajH:PC:=.region [f 3 0 1,l 4 3,B 5 .eql 4 32,m 2 5]
def ru:PC:=.seq alz (.seq ajH .ret)
def rA:List Nat:=[0,1,2]
def rV:RL:=[⟨2,none⟩]
def Cm:aj bQ 155 ru rA rV 1:=⟨Go.Proofs.Tryz.f155,_,[.tmp 2],by kernel_rfl,by kernel_rfl,rfl,by kernel_rfl,by kernel_rfl,by kernel_rfl,by decide,by decide⟩
def aji:PC:=.region [m 4 0,m 5 0,n 6 5,m 7 1,c 8 193 [t 4,t 6,t 7]]
def bh:PC:=aji
def bf:List Nat:=[0,1]
def bg:RL:=[]
def de:aj bQ 156 bh bf bg 2:=⟨Go.Proofs.Tryz.f156,_,[],by kernel_rfl,by kernel_rfl,rfl,by kernel_rfl,by kernel_rfl,by kernel_rfl,by decide,by decide⟩
def aoN:PC:=.region [o 2 (.box 71 (t 0)),o 3 (.box 71 (t 1)),M 4 0]
def apZ:PC:=.draw [L 5 11 2,c 6 113 [t 5],L 7 11 3,c 8 113 [t 7],c 9 120 [t 6,t 8],m 4 9] [[],[0],[],[2,1],[1,3,3],[4,4,0,1,2,3,4]]
def lq:PC:=.seq aoN (.seq apZ .ret)
def lA:List Nat:=[0,1,2,3,4]
def lB:RL:=[⟨4,none⟩]
def vI:aj bQ 157 lq lA lB 2:=⟨Go.Proofs.Tryz.f157,_,[.tmp 4],by kernel_rfl,by kernel_rfl,rfl,by kernel_rfl,by kernel_rfl,by kernel_rfl,by decide,by decide⟩
def ahJ:PC:=.region [o 4 (.mv (.const (.bool false)))]
def aqU:PC:=.region [m 6 0,n 7 6,m 8 1,n 9 8,b 10 .neq 7 9]
def anx:PC:=.region [o 4 (.mv (.const (.bool false)))]
def ahC:PC:=.region [m 11 0,n 12 11,M 13 0]
def an_:PC:=.region [b 14 .lss 13 12]
def aj7:PC:=.region [m 15 13,m 5 15]
def alg:PC:=.draw [m 16 0,m 17 5,i 18 2 16 17,L 19 2 18,m 20 1,m 21 5,i 22 2 20 21,L 23 2 22,o 24 (.eqs true [0,0] (t 19) (t 23))] [[],[],[0,1],[2],[],[],[4,5],[6],[3,7]]
def amm:PC:=.region [o 4 (.mv (.const (.bool false)))]
def ala:PC:=.region [B 25 .add 13 1,m 13 25]
def aq5:PC:=.loop [0,1,12,13] (.seq an_ (.seq (.cond (t 14) .skip (.exit 0)) (.seq (.block 1 (.seq aj7 (.seq alg (.cond (t 24) (.seq amm .ret) .skip)))) ala)))
def acb:PC:=.region [o 4 (.mv (.const (.bool true)))]
def cQ:PC:=.seq ahJ (.seq (.seq aqU (.cond (t 10) (.seq anx .ret) .skip)) (.seq (.seq ahC (.block 0 aq5)) (.seq acb .ret)))
def cP:List Nat:=[0,1,4,5,12,13]
def cR:RL:=[⟨4,none⟩]
def fP:aj bQ 158 cQ cP cR 2:=⟨Go.Proofs.Tryz.f158,_,[.tmp 4],by kernel_rfl,by kernel_rfl,rfl,by kernel_rfl,by kernel_rfl,by kernel_rfl,by decide,by decide⟩
def ajS:PC:=.region [o 4 (.mv (.const (.bool false)))]
def akc:PC:=.region [m 6 0,n 7 6,m 8 1,n 9 8,b 10 .neq 7 9]
def aqQ:PC:=.region [o 4 (.mv (.const (.bool false)))]
def aqt:PC:=.region [m 11 0,n 12 11,M 13 0]
def anW:PC:=.region [b 14 .lss 13 12]
def akX:PC:=.region [m 15 13,m 5 15]
def aqy:PC:=.draw [m 16 0,m 17 5,i 18 2 16 17,L 19 2 18,m 20 1,m 21 5,i 22 2 20 21,L 23 2 22,o 24 (.eqs true [0,0] (t 19) (t 23))] [[],[],[0,1],[2],[],[],[4,5],[6],[3,7]]
def am6:PC:=.region [o 4 (.mv (.const (.bool false)))]
def ako:PC:=.region [B 25 .add 13 1,m 13 25]
def akq:PC:=.loop [0,1,12,13] (.seq anW (.seq (.cond (t 14) .skip (.exit 0)) (.seq (.block 1 (.seq akX (.seq aqy (.cond (t 24) (.seq am6 .ret) .skip)))) ako)))
def abL:PC:=.region [o 4 (.mv (.const (.bool true)))]
def cN:PC:=.seq ajS (.seq (.seq akc (.cond (t 10) (.seq aqQ .ret) .skip)) (.seq (.seq aqt (.block 0 akq)) (.seq abL .ret)))
def cK:List Nat:=[0,1,4,5,12,13]
def cS:RL:=[⟨4,none⟩]
def fW:aj bQ 159 cN cK cS 2:=⟨Go.Proofs.Tryz.f159,_,[.tmp 4],by kernel_rfl,by kernel_rfl,rfl,by kernel_rfl,by kernel_rfl,by kernel_rfl,by decide,by decide⟩
def aho:PC:=.region [o 6 (.mv (.const (.bool false)))]
def ahP:PC:=.region [m 10 0,n 11 10,m 12 1,n 13 12,b 14 .neq 11 13]
def ann:PC:=.region [o 6 (.mv (.const (.bool false)))]
def akV:PC:=.region [m 15 0,n 16 15,M 17 0]
def agI:PC:=.region [b 18 .lss 17 16]
def ard:PC:=.region [m 19 17,i 20 8 15 17,L 21 8 20,o 8 (.alloc 78 (.agg [.int .i64 0,.int .i64 0,.int .i64 0,.int .i64 0,.int .i64 0,.int .i64 0,.int .i64 0,.nil 11])),m 7 19,s 8 8 21]
def aqS:PC:=.region [m 22 1,m 23 7,i 24 8 22 23,L 25 8 24,o 9 (.alloc 78 (.agg [.int .i64 0,.int .i64 0,.int .i64 0,.int .i64 0,.int .i64 0,.int .i64 0,.int .i64 0,.nil 11])),s 8 9 25]
def ago:PC:=.region [m 26 2,L 27 8 8,L 28 8 9,o 29 (.callv (t 26) [t 27,t 28]),u 30 29]
def agn:PC:=.region [o 6 (.mv (.const (.bool false)))]
def aiG:PC:=.region [B 31 .add 17 1,m 17 31]
def abx:PC:=.loop [1,2,15,16,17] (.seq agI (.seq (.cond (t 18) .skip (.exit 0)) (.seq (.block 1 (.seq ard (.seq aqS (.seq ago (.cond (t 30) (.seq agn .ret) .skip))))) aiG)))
def ab8:PC:=.region [o 6 (.mv (.const (.bool true)))]
def aP:PC:=.seq aho (.seq (.seq ahP (.cond (t 14) (.seq ann .ret) .skip)) (.seq (.seq akV (.block 0 abx)) (.seq ab8 .ret)))
def aQ:List Nat:=[0,1,2,6,7,8,9,15,16,17]
def aN:RL:=[⟨6,none⟩]
def bj:aj bQ 160 aP aQ aN 3:=⟨Go.Proofs.Tryz.f160,_,[.tmp 6],by kernel_rfl,by kernel_rfl,rfl,by kernel_rfl,by kernel_rfl,by kernel_rfl,by decide,by decide⟩
def ahY:PC:=.region [o 2 (.box 78 (t 0)),o 3 (.box 78 (t 1)),o 4 (.mv (.const (.bool false)))]
def aj4:PC:=.region [f 5 0 2,l 6 5,f 7 0 3,l 8 7,b 9 .eql 6 8,m 10 9,q 10 (f 11 1 2),q 10 (l 12 11),q 10 (f 13 1 3),q 10 (l 14 13),q 10 (b 15 .eql 12 14),o 16 (.pick (t 10) (t 15) (.const (.bool false))),m 17 16,q 17 (f 18 2 2),q 17 (l 19 18),q 17 (f 20 2 3),q 17 (l 21 20),q 17 (b 22 .eql 19 21),o 23 (.pick (t 17) (t 22) (.const (.bool false))),m 24 23,q 24 (f 25 3 2),q 24 (L 26 2 25),q 24 (f 27 3 3),q 24 (L 28 2 27),q 24 (o 29 (.eqs false [0,0] (t 26) (t 28))),o 30 (.pick (t 24) (t 29) (.const (.bool false))),m 31 30,q 31 (f 32 5 2),q 31 (l 33 32),q 31 (f 34 5 3),q 31 (l 35 34),q 31 (b 36 .eql 33 35),o 37 (.pick (t 31) (t 36) (.const (.bool false))),m 38 37,q 38 (f 39 6 2),q 38 (l 40 39),q 38 (f 41 6 3),q 38 (l 42 41),q 38 (b 43 .eql 40 42),o 44 (.pick (t 38) (t 43) (.const (.bool false))),m 45 44,q 45 (f 46 7 2),q 45 (l 47 46),q 45 (f 48 7 3),q 45 (l 49 48),q 45 (c 50 162 [t 47,t 49]),o 51 (.pick (t 45) (t 50) (.const (.bool false))),m 4 51]
def kC:PC:=.seq ahY (.seq aj4 .ret)
def kO:List Nat:=[0,1,2,3,4]
def kv:RL:=[⟨4,none⟩]
def ui:aj bQ 161 kC kO kv 2:=⟨Go.Proofs.Tryz.f161,_,[.tmp 4],by kernel_rfl,by kernel_rfl,rfl,by kernel_rfl,by kernel_rfl,by kernel_rfl,by decide,by decide⟩
def aoP:PC:=.region [o 4 (.mv (.const (.bool false)))]
def agA:PC:=.region [m 5 0,m 6 1,c 7 194 [t 5,t 6,.func 195],m 4 7]
def jo:PC:=.seq aoP (.seq agA .ret)
def jr:List Nat:=[0,1,4]
def jm:RL:=[⟨4,none⟩]
def rX:aj bQ 162 jo jr jm 2:=⟨Go.Proofs.Tryz.f162,_,[.tmp 4],by kernel_rfl,by kernel_rfl,rfl,by kernel_rfl,by kernel_rfl,by kernel_rfl,by decide,by decide⟩
def age:PC:=.region [o 2 (.mv (.const (.bool false)))]
def alN:PC:=.region [m 3 0]
def apH:PC:=.region [B 5 .eql 3 16,m 4 5]
def agr:PC:=.region [B 6 .eql 3 48,m 4 6]
def amv:PC:=.region [B 7 .eql 3 64,m 4 7]
def ah5:PC:=.region [B 8 .eql 3 96,m 4 8]
def aiW:PC:=.region [B 9 .eql 3 112,m 4 9]
def aoB:PC:=.region [B 10 .eql 3 128,m 4 10]
def ak8:PC:=.region [B 11 .eql 3 144,m 4 11]
def akL:PC:=.region [B 12 .eql 3 160,m 4 12]
def adm:PC:=.region [B 13 .eql 3 176,m 4 13]
def abJ:PC:=.region [B 14 .eql 3 192,m 4 14]
def abZ:PC:=.region [o 2 (.mv (.const (.bool true)))]
def ade:PC:=.region [o 2 (.mv (.const (.bool false)))]
def oS:PC:=.seq age (.seq (.seq alN (.block 0 (.seq (.seq apH (.cond (t 4) .skip (.seq agr (.cond (t 4) .skip (.seq amv (.cond (t 4) .skip (.seq ah5 (.cond (t 4) .skip (.seq aiW (.cond (t 4) .skip (.seq aoB (.cond (t 4) .skip (.seq ak8 (.cond (t 4) .skip (.seq akL (.cond (t 4) .skip (.seq adm (.cond (t 4) .skip abJ)))))))))))))))))) (.cond (t 4) (.seq abZ .ret) .skip)))) (.seq ade .ret))
def n9:List Nat:=[0,2,3,4]
def oK:RL:=[⟨2,none⟩]
def yp:aj bQ 163 oS n9 oK 1:=⟨Go.Proofs.Tryz.f163,_,[.tmp 2],by kernel_rfl,by kernel_rfl,rfl,by kernel_rfl,by kernel_rfl,by kernel_rfl,by decide,by decide⟩
def alh:PC:=.region [M 2 0]
def aoc:PC:=.region [m 3 0,o 4 (.lenS (t 3)),B 5 .leq 4 32,c 6 197 [t 5,k 8],m 7 0,c 8 198 [t 7],c 9 197 [t 8,k 4],o 10 (.bslice 27 1 [t 6,t 9]),c 11 196 [t 10],m 2 11]
def tW:PC:=.seq alh (.seq aoc .ret)
def tv:List Nat:=[0,2]
def tt:RL:=[⟨2,none⟩]
def DT:aj bQ 164 tW tv tt 1:=⟨Go.Proofs.Tryz.f164,_,[.tmp 2],by kernel_rfl,by kernel_rfl,rfl,by kernel_rfl,by kernel_rfl,by kernel_rfl,by decide,by decide⟩
def apm:PC:=.region [o 2 (.box 71 (t 0)),o 3 (.mv (.const (.bool false)))]
def arE:PC:=.draw [L 4 11 2,c 5 155 [t 4],u 6 5,m 7 6,q 7 (L 8 11 2),q 7 (c 9 113 [t 8]),q 7 (L 10 3 1),q 7 (o 11 (.eqs false [0,1,0] (t 9) (t 10))),o 12 (.pick (t 7) (t 11) (.const (.bool false))),m 3 12] [[],[0],[1],[2,1],[3],[4,3,3],[3],[5,6,3],[3,7],[8,5,0,1,2,3,4,5,6,7,8]]
def nV:PC:=.seq apm (.seq arE .ret)
def oz:List Nat:=[0,1,2,3]
def n4:RL:=[⟨3,none⟩]
def y7:aj bQ 165 nV oz n4 2:=⟨Go.Proofs.Tryz.f165,_,[.tmp 3],by kernel_rfl,by kernel_rfl,rfl,by kernel_rfl,by kernel_rfl,by kernel_rfl,by decide,by decide⟩
def am5:PC:=.region [M 4 0]
def ahm:PC:=.region [m 5 0,m 6 1,b 7 .lss 5 6]
def an9:PC:=.region [M 4 (-1)]
def ag6:PC:=.region [m 8 0,m 9 1,b 10 .gtr 8 9]
def amw:PC:=.region [M 4 1]
def aoI:PC:=.region [M 4 0]
def xm:PC:=.seq am5 (.seq (.seq ahm (.cond (t 7) (.seq an9 .ret) .skip)) (.seq (.seq ag6 (.cond (t 10) (.seq amw .ret) .skip)) (.seq aoI .ret)))
def xy:List Nat:=[0,1,4]
def xp:RL:=[⟨4,none⟩]
def GS:aj bQ 166 xm xy xp 2:=⟨Go.Proofs.Tryz.f166,_,[.tmp 4],by kernel_rfl,by kernel_rfl,rfl,by kernel_rfl,by kernel_rfl,by kernel_rfl,by decide,by decide⟩
def aqs:PC:=.region [o 4 (.mv (.const (.bool false)))]
def ahE:PC:=.region [M 5 0]
def ari:PC:=.region [m 6 5,m 7 0,n 8 7,b 9 .lss 6 8]
def akK:PC:=.region [m 12 0,m 13 5,i 14 1 12 13,l 15 14,m 16 1,b 17 .eql 15 16]
def akr:PC:=.region [o 4 (.mv (.const (.bool true)))]
def akP:PC:=.region [m 10 5,B 11 .add 10 1,m 5 11]
def anr:PC:=.loop [0,1,5] (.seq (.seq ari (.cond (t 9) .skip (.exit 0))) (.seq (.block 1 (.seq akK (.cond (t 17) (.seq akr .ret) .skip))) akP))
def aiE:PC:=.region [o 4 (.mv (.const (.bool false)))]
def Ic:PC:=.seq aqs (.seq (.seq ahE (.block 0 anr)) (.seq aiE .ret))
def Je:List Nat:=[0,1,4,5]
def JX:RL:=[⟨4,none⟩]
def TR:aj bQ 167 Ic Je JX 2:=⟨Go.Proofs.Tryz.f167,_,[.tmp 4],by kernel_rfl,by kernel_rfl,rfl,by kernel_rfl,by kernel_rfl,by kernel_rfl,by decide,by decide⟩
def ajU:PC:=.region [M 2 0]
def alB:PC:=.region [m 4 0,o 5 (.lenS (t 4)),B 6 .gtr 5 32]
def ahx:PC:=.region [M 2 8]
def amh:PC:=.region [m 7 0,o 8 (.bin .eql (t 7) (.const (.string (ByteArray.mk (Array.mk []))))),m 9 8,Q 9 (m 10 0),Q 9 (o 11 (.bin .eql (t 10) (.const (.string (ByteArray.mk (Array.mk [46])))))),o 12 (.pick (t 9) (.const (.bool true)) (t 11)),m 13 12,Q 13 (m 14 0),Q 13 (o 15 (.bin .eql (t 14) (.const (.string (ByteArray.mk (Array.mk [46,46])))))),o 16 (.pick (t 13) (.const (.bool true)) (t 15)),m 17 16,Q 17 (m 18 0),Q 17 (m 19 0),Q 17 (o 20 (.lenS (t 19))),Q 17 (B 21 .sub 20 1),Q 17 (o 22 (.idx (t 18) (t 21))),Q 17 (o 23 (.bin .eql (t 22) (.const (.int .u8 32)))),o 24 (.pick (t 17) (.const (.bool true)) (t 23)),m 25 24,Q 25 (m 26 0),Q 25 (m 27 0),Q 25 (o 28 (.lenS (t 27))),Q 25 (B 29 .sub 28 1),Q 25 (o 30 (.idx (t 26) (t 29))),Q 25 (o 31 (.bin .eql (t 30) (.const (.int .u8 46)))),o 32 (.pick (t 25) (.const (.bool true)) (t 31))]
def apg:PC:=.region [M 2 4]
def ao_:PC:=.region [M 3 0]
def alV:PC:=.region [m 33 3,m 34 0,o 35 (.lenS (t 34)),b 36 .lss 33 35]
def aj_:PC:=.region [m 39 0,m 40 3,o 41 (.idx (t 39) (t 40)),c 42 199 [t 41],u 43 42]
def an2:PC:=.region [M 2 4]
def aod:PC:=.region [m 37 3,B 38 .add 37 1,m 3 38]
def ac7:PC:=.loop [0,3] (.seq (.seq alV (.cond (t 36) .skip (.exit 0))) (.seq (.block 1 (.seq aj_ (.cond (t 43) (.seq an2 .ret) .skip))) aod))
def adD:PC:=.region [M 2 0]
def w_:PC:=.seq ajU (.seq (.seq alB (.cond (t 6) (.seq ahx .ret) .skip)) (.seq (.seq amh (.cond (t 32) (.seq apg .ret) .skip)) (.seq (.seq ao_ (.block 0 ac7)) (.seq adD .ret))))
def xk:List Nat:=[0,2,3]
def xw:RL:=[⟨2,none⟩]
def GY:aj bQ 168 w_ xk xw 1:=⟨Go.Proofs.Tryz.f168,_,[.tmp 2],by kernel_rfl,by kernel_rfl,rfl,by kernel_rfl,by kernel_rfl,by kernel_rfl,by decide,by decide⟩
def aiz:PC:=.region [o 2 (.mv (.const (.string (ByteArray.mk (Array.mk [])))))]
def ajF:PC:=.region [m 3 0,c 4 66 [t 3,k (-128),k 127]]
def ahg:PC:=.region [m 5 0,c 6 109 [t 5,k 256],c 7 107 [t 6,k 1],m 2 7]
def arC:PC:=.region [m 8 0,c 9 109 [t 8,k 65536],c 10 107 [t 9,k 2],m 2 10]
def yO:PC:=.seq aiz (.seq (.seq ajF (.cond (t 4) (.seq ahg .ret) .skip)) (.seq arC .ret))
def yk:List Nat:=[0,2]
def zg:RL:=[⟨2,none⟩]
def Js:aj bQ 171 yO yk zg 1:=⟨Go.Proofs.Tryz.f171,_,[.tmp 2],by kernel_rfl,by kernel_rfl,rfl,by kernel_rfl,by kernel_rfl,by kernel_rfl,by decide,by decide⟩
def ais:PC:=.region [o 2 (.mv (.const (.bool false)))]
def afV:PC:=.region [c 6 200 [],m 7 0,o 8 (.look true (t 6) (t 7)),m 5 8,e 9 5 0,e 10 5 1,m 3 9,m 4 10]
def ao7:PC:=.region [m 11 4,m 2 11]
def sL:PC:=.seq ais (.seq afV (.seq ao7 .ret))
def rr:List Nat:=[0,2,4]
def sy:RL:=[⟨2,none⟩]
def Ci:aj bQ 172 sL rr sy 1:=⟨Go.Proofs.Tryz.f172,_,[.tmp 2],by kernel_rfl,by kernel_rfl,rfl,by kernel_rfl,by kernel_rfl,by kernel_rfl,by decide,by decide⟩
def ap4:PC:=.region [M 2 0]
def alG:PC:=.region [m 3 0,o 4 (.bin .eql (t 3) (.const (.string (ByteArray.mk (Array.mk []))))),m 5 4,Q 5 (m 6 0),Q 5 (c 7 164 [t 6]),Q 5 (B 8 .eql 7 0),o 9 (.pick (t 5) (.const (.bool true)) (t 8)),c 10 130 [t 9,k 4],m 2 10]
def qc:PC:=.seq ap4 (.seq alG .ret)
def qe:List Nat:=[0,2]
def qA:RL:=[⟨2,none⟩]
def AK:aj bQ 173 qc qe qA 1:=⟨Go.Proofs.Tryz.f173,_,[.tmp 2],by kernel_rfl,by kernel_rfl,rfl,by kernel_rfl,by kernel_rfl,by kernel_rfl,by decide,by decide⟩
def ajK:PC:=.region [o 6 (.mv (.const (.bool false)))]
def akj:PC:=.region [m 7 1,m 8 0,b 9 .leq 7 8,m 10 9,q 10 (m 11 0),q 10 (m 12 2),q 10 (b 13 .leq 11 12),o 14 (.pick (t 10) (t 13) (.const (.bool false))),m 6 14]
def si:PC:=.seq ajK (.seq akj .ret)
def sn:List Nat:=[0,1,2,6]
def q9:RL:=[⟨6,none⟩]
def Cn:aj bQ 174 si sn q9 3:=⟨Go.Proofs.Tryz.f174,_,[.tmp 6],by kernel_rfl,by kernel_rfl,rfl,by kernel_rfl,by kernel_rfl,by kernel_rfl,by decide,by decide⟩
def aqB:PC:=.region [o 1 (.box 71 (t 0)),M 2 0]
def ah4:PC:=.region [f 4 7 1,l 5 4,n 6 5,B 7 .eql 6 0,m 8 7,q 8 (f 9 6 1),q 8 (l 10 9),q 8 (B 11 .eql 10 0),o 12 (.pick (t 8) (t 11) (.const (.bool false))),m 13 12,q 13 (f 14 8 1),q 13 (l 15 14),q 13 (B 16 .eql 15 0),o 17 (.pick (t 13) (t 16) (.const (.bool false))),m 18 17,q 18 (f 19 9 1),q 18 (l 20 19),q 18 (B 21 .eql 20 0),o 22 (.pick (t 18) (t 21) (.const (.bool false))),m 23 22,q 23 (f 24 10 1),q 23 (l 25 24),q 23 (B 26 .eql 25 0),o 27 (.pick (t 23) (t 26) (.const (.bool false))),m 3 27]
def ajm:PC:=.draw [m 28 3,c 29 130 [t 28,k 3],f 30 5 1,l 31 30,o 32 (.lenS (t 31)),B 33 .leq 32 400,c 34 130 [t 33,k 8],o 35 (.bslP 27 1 [t 29,t 34]),c 36 129 [t 35],m 2 36] [[],[0],[],[2],[3],[4],[5,1],[1,6],[7,6],[8,8,0,1,2,3,4,5,6,7,8]]
def lN:PC:=.seq aqB (.seq ah4 (.seq ajm .ret))
def lM:List Nat:=[0,1,2,3]
def lx:RL:=[⟨2,none⟩]
def uW:aj bQ 175 lN lM lx 1:=⟨Go.Proofs.Tryz.f175,_,[.tmp 2],by kernel_rfl,by kernel_rfl,rfl,by kernel_rfl,by kernel_rfl,by kernel_rfl,by decide,by decide⟩
def aoX:PC:=.region [o 1 (.box 71 (t 0)),M 2 0]
def aln:PC:=.drawD [c 9 200 [],f 10 0 1,l 11 10,o 12 (.look false (t 9) (t 11)),u 13 12,c 14 130 [t 13,k 20],f 15 5 1,l 16 15,o 17 (.bin .eql (t 16) (.const (.string (ByteArray.mk (Array.mk []))))),c 18 130 [t 17,k 3],f 19 6 1,l 20 19,c 21 174 [t 20,k 0,k 4096],c 22 130 [t 21,k 2],o 23 (.bslP 27 1 [t 14,t 18,t 22]),c 24 129 [t 23],m 3 24] [[],[],[1],[0,2],[3],[4,0],[],[6],[7],[8,5],[],[10],[11,9],[12,12],[5,9,13],[14,13],[15,15,0,1,2,3,4,5,6,7,8,9,10,11,12,13,14,15]]
def agJ:PC:=.region [m 25 3,B 26 .neq 25 0]
def ahB:PC:=.region [m 27 3,m 2 27]
def alo:PC:=.region [f 29 7 1,l 30 29,c 31 78 [t 30],m 28 31,e 32 28 0,e 33 28 1,m 4 32,m 5 33]
def agG:PC:=.region [m 34 5,B 35 .neq 34 0]
def aiQ:PC:=.region [m 36 5,m 2 36]
def amI:PC:=.region [f 37 6 1,l 38 37,B 39 .gtr 38 0,m 6 39]
def aoO:PC:=.region [f 40 8 1,l 41 40,B 42 .neq 41 0,m 43 42,Q 43 (f 44 9 1),Q 43 (l 45 44),Q 43 (B 46 .neq 45 0),o 47 (.pick (t 43) (.const (.bool true)) (t 46)),m 48 47,Q 48 (f 49 10 1),Q 48 (l 50 49),Q 48 (B 51 .neq 50 0),o 52 (.pick (t 48) (.const (.bool true)) (t 51)),m 7 52]
def aq0:PC:=.region [f 53 8 1,l 54 53,c 55 174 [t 54,k 0,k 1048576],m 56 55,q 56 (f 57 9 1),q 56 (l 58 57),q 56 (c 59 174 [t 58,k 0,k 1048576]),o 60 (.pick (t 56) (t 59) (.const (.bool false))),m 61 60,q 61 (f 62 10 1),q 61 (l 63 62),q 61 (c 64 174 [t 63,k 0,k 1048576]),o 65 (.pick (t 61) (t 64) (.const (.bool false))),m 8 65]
def aen:PC:=.draw [m 66 6,u 67 66,m 68 67,Q 68 (f 69 7 1),Q 68 (l 70 69),Q 68 (N 71 70),Q 68 (B 72 .gtr 71 0),o 73 (.pick (t 68) (.const (.bool true)) (t 72)),c 74 130 [t 73,k 17],f 75 6 1,l 76 75,L 77 11 1,c 78 201 [t 77],b 79 .add 76 78,B 80 .leq 79 4096,c 81 130 [t 80,k 8],m 82 6,u 83 82,m 84 83,Q 84 (m 85 7),Q 84 (u 86 85),o 87 (.pick (t 84) (.const (.bool true)) (t 86)),c 88 130 [t 87,k 3],m 89 8,c 90 130 [t 89,k 2],f 91 10 1,l 92 91,f 93 9 1,l 94 93,b 95 .leq 92 94,c 96 130 [t 95,k 9],o 97 (.bslP 27 1 [t 74,t 81,t 88,t 90,t 96]),c 98 129 [t 97],m 2 98] [[],[0],[1],[2],[3,2],[4,2],[5,2],[2,6],[7,2],[],[9],[],[11,8],[10,12],[13],[14,12],[],[16],[17,15],[18],[19,18],[18,20],[21,18],[],[23,22],[],[25],[],[27],[26,28],[29,24],[8,15,22,24,30],[31,30],[32,32,0,1,2,3,4,5,6,7,8,9,10,11,12,13,14,15,16,17,18,19,20,21,22,23,24,25,26,27,28,29,30,31,32]]
def o7:PC:=.seq aoX (.seq (.seq aln (.seq agJ (.cond (t 26) (.seq ahB .ret) .skip))) (.seq (.seq alo (.seq agG (.cond (t 35) (.seq aiQ .ret) .skip))) (.seq amI (.seq aoO (.seq aq0 (.seq aen .ret))))))
def oV:List Nat:=[0,1,2,3,5,6,7,8]
def oO:RL:=[⟨2,none⟩]
def yG:aj bQ 176 o7 oV oO 1:=⟨Go.Proofs.Tryz.f176,_,[.tmp 2],by kernel_rfl,by kernel_rfl,rfl,by kernel_rfl,by kernel_rfl,by kernel_rfl,by decide,by decide⟩
def akf:PC:=.region [o 1 (.box 71 (t 0)),o 2 (.mv (.const (.string (ByteArray.mk (Array.mk [])))))]
def agH:PC:=.region [f 7 5 1,l 8 7,m 3 8]
def ahW:PC:=.region [f 9 4 1,l 10 9,u 11 10]
def aq4:PC:=.region [f 13 7 1,l 14 13,c 15 202 [t 14],m 12 15,e 16 12 0,e 17 12 1,m 3 16]
def aiH:PC:=.region [f 18 4 1,l 19 18,c 20 203 [t 19],m 4 20]
def an7:PC:=.region [m 21 4,f 22 1 1,l 23 22,o 24 (.lenS (t 23)),b 25 .add 21 24,c 26 204 [t 25],m 5 26]
def ajb:PC:=.region [m 27 5,m 28 3,o 29 (.lenS (t 28)),b 30 .add 27 29,c 31 204 [t 30],o 32 (.mksl 5 1 1 (.int .u8 0) (t 31) (t 31)),m 6 32]
def agQ:PC:=.region [m 33 6,f 34 0 1,l 35 34,c 36 205 [t 33,k 0,k 4,t 35]]
def agw:PC:=.region [m 37 6,m 38 6,n 39 38,c 40 205 [t 37,k 4,k 4,t 39]]
def akn:PC:=.region [m 41 6,f 42 1 1,l 43 42,o 44 (.lenS (t 43)),c 45 205 [t 41,k 9,k 1,t 44]]
def ac4:PC:=.region [m 46 6,m 47 4,c 48 205 [t 46,k 10,k 2,t 47]]
def acV:PC:=.region [m 49 6,f 50 3 1,l 51 50,c 52 205 [t 49,k 12,k 2,t 51]]
def acD:PC:=.region [m 53 6,f 54 2 1,l 55 54,c 56 205 [t 53,k 14,k 2,t 55]]
def ab4:PC:=.region [f 57 4 1,l 58 57]
def abV:PC:=.region [m 59 6,m 60 3,o 61 (.lenS (t 60)),c 62 205 [t 59,k 16,k 4,t 61]]
def adT:PC:=.region [m 63 6,m 64 5,c 65 205 [t 63,k 20,k 4,t 64]]
def adv:PC:=.region [m 66 6,c 67 205 [t 66,k 8,k 1,k 1]]
def adZ:PC:=.region [m 68 6,f 69 6 1,l 70 69,c 71 205 [t 68,k 16,k 4,t 70]]
def acG:PC:=.draw [m 72 6,f 73 6 1,l 74 73,L 75 11 1,c 76 201 [t 75],b 77 .add 74 76,B 78 .sub 77 1,c 79 205 [t 72,k 20,k 4,t 78]] [[],[],[1],[],[3],[2,4],[5],[0,6,4]]
def acY:PC:=.region [m 80 6,m 81 5,c 82 205 [t 80,k 24,k 2,t 81]]
def abr:PC:=.region [m 83 6,f 84 8 1,l 85 84,c 86 205 [t 83,k 28,k 4,t 85]]
def ad1:PC:=.region [m 87 6,f 88 9 1,l 89 88,c 90 205 [t 87,k 32,k 4,t 89]]
def acR:PC:=.region [m 91 6,f 92 10 1,l 93 92,c 94 205 [t 91,k 36,k 4,t 93]]
def acX:PC:=.drawD [m 95 6,m 96 4,o 97 (.slcR 1 (t 95) (some (t 96)) none),f 98 1 1,l 99 98,o 100 (.cpyS (t 97) (t 99))] [[],[],[0,1],[],[3],[2,4]]
def abv:PC:=.region [m 101 6,m 102 5,o 103 (.slcR 1 (t 101) (some (t 102)) none),m 104 3,o 105 (.cpyS (t 103) (t 104))]
def adV:PC:=.region [m 106 6,o 107 (.conv .bts (t 106)),m 2 107]
def qw:PC:=.seq akf (.seq agH (.seq (.seq ahW (.cond (t 11) aq4 .skip)) (.seq aiH (.seq an7 (.seq ajb (.seq agQ (.seq agw (.seq akn (.seq ac4 (.seq acV (.seq acD (.seq (.seq ab4 (.cond (t 58) (.seq abV adT) (.seq adv (.seq adZ (.seq acG (.seq acY (.seq abr (.seq ad1 acR)))))))) (.seq acX (.seq abv (.seq adV .ret)))))))))))))))
def qE:List Nat:=[0,1,2,3,4,5,6]
def pZ:RL:=[⟨2,none⟩]
def A4:aj bQ 177 qw qE pZ 1:=⟨Go.Proofs.Tryz.f177,_,[.tmp 2],by kernel_rfl,by kernel_rfl,rfl,by kernel_rfl,by kernel_rfl,by kernel_rfl,by decide,by decide⟩
def ahq:PC:=.region [M 2 0]
def agY:PC:=.region [M 3 0]
def aoH:PC:=.region [m 6 0,n 7 6,M 8 0]
def alc:PC:=.region [b 9 .lss 8 7]
def ai2:PC:=.region [i 10 1 6 8,l 11 10,m 5 11]
def ajq:PC:=.region [m 12 5,m 13 3,b 14 .neq 12 13]
def an5:PC:=.region [m 15 5,m 2 15]
def amR:PC:=.region [B 16 .add 8 1,m 8 16]
def arP:PC:=.loop [3,6,7,8] (.seq alc (.seq (.cond (t 9) .skip (.exit 0)) (.seq (.block 1 (.seq ai2 (.seq ajq (.cond (t 14) (.seq an5 .ret) .skip)))) amR)))
def apD:PC:=.region [m 17 3,m 2 17]
def Dj:PC:=.seq ahq (.seq agY (.seq (.seq aoH (.block 0 arP)) (.seq apD .ret)))
def D3:List Nat:=[0,2,3,5,6,7,8]
def C3:RL:=[⟨2,none⟩]
def NO:aj bQ 180 Dj D3 C3 1:=⟨Go.Proofs.Tryz.f180,_,[.tmp 2],by kernel_rfl,by kernel_rfl,rfl,by kernel_rfl,by kernel_rfl,by kernel_rfl,by decide,by decide⟩
def al5:PC:=.region [M 4 0]
def apa:PC:=.region [m 7 0,c 8 207 [t 7],m 5 8]
def apE:PC:=.region [m 9 1,c 10 207 [t 9],m 6 10]
def akG:PC:=.region [m 11 5]
def al7:PC:=.region [m 12 6]
def apz:PC:=.region [M 4 0]
def akU:PC:=.region [M 4 (-1)]
def apN:PC:=.region [m 13 6]
def an1:PC:=.region [M 4 1]
def apK:PC:=.region [m 14 0,m 15 1,b 16 .lss 14 15]
def adB:PC:=.region [M 4 (-1)]
def abW:PC:=.region [m 17 0,m 18 1,b 19 .gtr 17 18]
def acN:PC:=.region [M 4 1]
def adh:PC:=.region [M 4 0]
def tK:PC:=.seq al5 (.seq apa (.seq apE (.seq (.seq akG (.cond (t 11) (.seq (.seq al7 (.cond (t 12) (.seq apz .ret) .skip)) (.seq akU .ret)) .skip)) (.seq (.seq apN (.cond (t 13) (.seq an1 .ret) .skip)) (.seq (.seq apK (.cond (t 16) (.seq adB .ret) .skip)) (.seq (.seq abW (.cond (t 19) (.seq acN .ret) .skip)) (.seq adh .ret)))))))
def tI:List Nat:=[0,1,4,5,6]
def tM:RL:=[⟨4,none⟩]
def DH:aj bQ 181 tK tI tM 2:=⟨Go.Proofs.Tryz.f181,_,[.tmp 4],by kernel_rfl,by kernel_rfl,rfl,by kernel_rfl,by kernel_rfl,by kernel_rfl,by decide,by decide⟩
def alv:PC:=.region [M 4 0]
def akd:PC:=.region [m 7 0,c 8 208 [t 7],m 5 8]
def anL:PC:=.region [m 9 1,c 10 208 [t 9],m 6 10]
def af5:PC:=.region [m 11 5]
def aof:PC:=.region [m 12 6]
def arZ:PC:=.region [M 4 0]
def aj0:PC:=.region [M 4 (-1)]
def akF:PC:=.region [m 13 6]
def are:PC:=.region [M 4 1]
def anh:PC:=.region [m 14 0,m 15 1,b 16 .lss 14 15]
def aeo:PC:=.region [M 4 (-1)]
def aeh:PC:=.region [m 17 0,m 18 1,b 19 .gtr 17 18]
def adl:PC:=.region [M 4 1]
def adX:PC:=.region [M 4 0]
def oD:PC:=.seq alv (.seq akd (.seq anL (.seq (.seq af5 (.cond (t 11) (.seq (.seq aof (.cond (t 12) (.seq arZ .ret) .skip)) (.seq aj0 .ret)) .skip)) (.seq (.seq akF (.cond (t 13) (.seq are .ret) .skip)) (.seq (.seq anh (.cond (t 16) (.seq aeo .ret) .skip)) (.seq (.seq aeh (.cond (t 19) (.seq adl .ret) .skip)) (.seq adX .ret)))))))
def oh:List Nat:=[0,1,4,5,6]
def oi:RL:=[⟨4,none⟩]
def y3:aj bQ 182 oD oh oi 2:=⟨Go.Proofs.Tryz.f182,_,[.tmp 4],by kernel_rfl,by kernel_rfl,rfl,by kernel_rfl,by kernel_rfl,by kernel_rfl,by decide,by decide⟩
def ahl:PC:=.region [M 4 0]
def ajw:PC:=.region [m 6 0,n 7 6,M 8 0]
def ahV:PC:=.region [b 9 .lss 8 7]
def akb:PC:=.region [m 10 8,m 5 10]
def aph:PC:=.region [m 11 1,m 12 0,m 13 5,i 14 6 12 13,L 15 6 14,o 16 (.callv (t 11) [t 15])]
def aqY:PC:=.region [m 17 5,m 4 17]
def apV:PC:=.region [B 18 .add 8 1,m 8 18]
def ajf:PC:=.loop [0,1,7,8] (.seq ahV (.seq (.cond (t 9) .skip (.exit 0)) (.seq (.block 1 (.seq akb (.seq aph (.cond (t 16) (.seq aqY .ret) .skip)))) apV)))
def aiw:PC:=.region [M 4 (-1)]
def bx:PC:=.seq ahl (.seq (.seq ajw (.block 0 ajf)) (.seq aiw .ret))
def bB:List Nat:=[0,1,4,5,7,8]
def bw:RL:=[⟨4,none⟩]
def dK:aj bQ 183 bx bB bw 2:=⟨Go.Proofs.Tryz.f183,_,[.tmp 4],by kernel_rfl,by kernel_rfl,rfl,by kernel_rfl,by kernel_rfl,by kernel_rfl,by decide,by decide⟩
def aqm:PC:=.region [m 9 2,M 10 0]
def aq6:PC:=.region [b 11 .lss 10 9]
def aqf:PC:=.region [m 12 10,m 8 12]
def ao1:PC:=.region [m 13 0,m 14 1,m 15 8,b 16 .add 14 15,m 17 3,o 18 (.conv (.toInt .u8) (t 17)),i 19 1 13 16,s 1 19 18]
def agb:PC:=.region [m 20 3,o 21 (.bin .shr (t 20) (.const (.int .u64 8))),m 3 21]
def ak7:PC:=.region [B 22 .add 10 1,m 10 22]
def amF:PC:=.loop [0,1,3,9,10] (.seq aq6 (.seq (.cond (t 11) .skip (.exit 0)) (.seq (.block 1 (.seq aqf (.seq ao1 agb))) ak7)))
def xl:PC:=.seq aqm (.block 0 amF)
def wQ:List Nat:=[0,1,2,3,8,9,10]
def xh:RL:=[]
def GU:aj bQ 184 xl wQ xh 4:=⟨Go.Proofs.Tryz.f184,_,[],by kernel_rfl,by kernel_rfl,rfl,by kernel_rfl,by kernel_rfl,by kernel_rfl,by decide,by decide⟩
def aqa:PC:=.region [o 3 (.box 71 (t 0)),o 4 (.mv (.const (.bool false)))]
def aql:PC:=.draw [f 5 2 3,l 6 5,l 7 1,l 8 2,i 9 11 7 8,f 10 2 9,l 11 10,b 12 .eql 6 11,m 4 12] [[],[0],[],[],[2,3],[4],[5],[1,6],[7,0,1,2,3,4,5,6,7]]
def kA:PC:=.seq aqa (.seq aql .ret)
def kL:List Nat:=[0,1,2,3,4]
def kB:RL:=[⟨4,none⟩]
def uj:aj bQ 185 kA kL kB 3:=⟨Go.Proofs.Tryz.f185,_,[.tmp 4],by kernel_rfl,by kernel_rfl,rfl,by kernel_rfl,by kernel_rfl,by kernel_rfl,by decide,by decide⟩
def arw:PC:=.region [o 1 (.box 71 (t 0)),o 2 (.mv (.const (.string (ByteArray.mk (Array.mk []))))),M 3 0]
def apO:PC:=.region [L 5 11 1,c 6 112 [t 5],m 4 6]
def am_:PC:=.region [m 7 4,B 8 .neq 7 0]
def apP:PC:=.region [m 9 4,o 2 (.mv (.const (.string (ByteArray.mk (Array.mk []))))),m 3 9]
def arl:PC:=.region [L 10 11 1,c 11 177 [t 10],m 2 11,M 3 0]
def fX:PC:=.seq arw (.seq (.seq apO (.seq am_ (.cond (t 8) (.seq apP .ret) .skip))) (.seq arl .ret))
def fQ:List Nat:=[0,1,2,3,4]
def fT:RL:=[⟨2,none⟩,⟨3,none⟩]
def qI:aj bQ 186 fX fQ fT 1:=⟨Go.Proofs.Tryz.f186,_,[.tmp 2,.tmp 3],by kernel_rfl,by kernel_rfl,rfl,by kernel_rfl,by kernel_rfl,by kernel_rfl,by decide,by decide⟩
def aiM:PC:=.region [o 1 (.box 123 (t 0)),o 2 (.mv (.const (.bool false)))]
def arx:PC:=.region [f 3 0 1,l 4 3,B 5 .eql 4 (-1),m 2 5]
def Bg:PC:=.seq aiM (.seq arx .ret)
def BF:List Nat:=[0,1,2]
def BD:RL:=[⟨2,none⟩]
def Lj:aj bQ 187 Bg BF BD 1:=⟨Go.Proofs.Tryz.f187,_,[.tmp 2],by kernel_rfl,by kernel_rfl,rfl,by kernel_rfl,by kernel_rfl,by kernel_rfl,by decide,by decide⟩
def ajD:PC:=.region [o 6 (.mv (.const (.bool false)))]
def arS:PC:=.region [m 7 1,m 8 0,b 9 .leq 7 8,m 10 9,q 10 (m 11 0),q 10 (m 12 2),q 10 (b 13 .leq 11 12),o 14 (.pick (t 10) (t 13) (.const (.bool false))),m 6 14]
def BI:PC:=.seq ajD (.seq arS .ret)
def Bs:List Nat:=[0,1,2,6]
def Bq:RL:=[⟨6,none⟩]
def LW:aj bQ 188 BI Bs Bq 3:=⟨Go.Proofs.Tryz.f188,_,[.tmp 6],by kernel_rfl,by kernel_rfl,rfl,by kernel_rfl,by kernel_rfl,by kernel_rfl,by decide,by decide⟩
def alE:PC:=.region [o 1 (.box 76 (t 0)),M 2 0]
def arM:PC:=.region [f 3 0 1,l 4 3,c 5 148 [t 4,k 0,k 95],m 6 5,q 6 (f 7 1 1),q 6 (l 8 7),q 6 (c 9 148 [t 8,k 1,k 65535]),o 10 (.pick (t 6) (t 9) (.const (.bool false))),c 11 150 [t 10,k 2],m 2 11]
def wY:PC:=.seq alE (.seq arM .ret)
def xo:List Nat:=[0,1,2]
def xg:RL:=[⟨2,none⟩]
def Hg:aj bQ 192 wY xo xg 1:=⟨Go.Proofs.Tryz.f192,_,[.tmp 2],by kernel_rfl,by kernel_rfl,rfl,by kernel_rfl,by kernel_rfl,by kernel_rfl,by decide,by decide⟩
def aj6:PC:=.region [M 6 20]
def ajP:PC:=.region [m 10 6,M 7 0,m 8 10]
def aoW:PC:=.region [m 11 8,m 12 1,b 13 .leq 11 12]
def arJ:PC:=.region [m 14 0,m 15 7,m 16 8,m 17 2,c 18 210 [t 14,t 15,t 16,t 17]]
def ajI:PC:=.region [m 19 8,m 7 19]
def arB:PC:=.region [m 20 8,m 21 6,b 22 .add 20 21,m 8 22]
def anl:PC:=.loop [0,1,2,6,7,8] (.seq (.seq aoW (.cond (t 13) .skip (.exit 0))) (.block 1 (.seq arJ (.seq ajI arB))))
def ai7:PC:=.region [m 23 0,m 24 7,m 25 1,m 26 2,c 27 210 [t 23,t 24,t 25,t 26]]
def agS:PC:=.region [m 28 6,m 29 1,b 30 .lss 28 29]
def arK:PC:=.region [m 31 6,o 32 (.bin .mul (k 2) (t 31)),M 7 0,m 8 32]
def adJ:PC:=.region [m 33 8,m 34 1,b 35 .leq 33 34]
def aei:PC:=.region [m 36 0,m 37 7,m 38 7,m 39 6,b 40 .add 38 39,m 41 8,m 42 2,c 43 211 [t 36,t 37,t 40,t 41,t 42]]
def ac8:PC:=.region [m 44 8,m 7 44]
def adr:PC:=.region [m 45 8,m 46 6,o 47 (.bin .mul (k 2) (t 46)),b 48 .add 45 47,m 8 48]
def adw:PC:=.loop [0,1,2,6,7,8] (.seq (.seq adJ (.cond (t 35) .skip (.exit 4))) (.block 5 (.seq aei (.seq ac8 adr))))
def acM:PC:=.region [m 49 7,m 50 6,b 51 .add 49 50,m 9 51]
def abR:PC:=.region [m 52 9,m 53 1,b 54 .lss 52 53]
def acu:PC:=.region [m 55 0,m 56 7,m 57 9,m 58 1,m 59 2,c 60 211 [t 55,t 56,t 57,t 58,t 59]]
def abU:PC:=.region [m 61 6,B 62 .mul 61 2,m 6 62]
def abG:PC:=.loop [0,1,2,6] (.seq (.seq agS (.cond (t 30) .skip (.exit 2))) (.block 3 (.seq arK (.seq (.block 4 adw) (.seq (.seq acM (.seq abR (.cond (t 54) acu .skip))) abU)))))
def dE:PC:=.seq aj6 (.seq ajP (.seq (.block 0 anl) (.seq ai7 (.block 2 abG))))
def dz:List Nat:=[0,1,2,6,7,8,9]
def dC:RL:=[]
def gK:aj bQ 193 dE dz dC 3:=⟨Go.Proofs.Tryz.f193,_,[],by kernel_rfl,by kernel_rfl,rfl,by kernel_rfl,by kernel_rfl,by kernel_rfl,by decide,by decide⟩
def agB:PC:=.region [o 6 (.mv (.const (.bool false)))]
def ag5:PC:=.region [m 10 0,n 11 10,m 12 1,n 13 12,b 14 .neq 11 13]
def aoE:PC:=.region [o 6 (.mv (.const (.bool false)))]
def aiB:PC:=.region [m 15 0,n 16 15,M 17 0]
def aha:PC:=.region [b 18 .lss 17 16]
def ag2:PC:=.region [m 19 17,i 20 11 15 17,L 21 11 20,o 8 (.alloc 71 (.agg [.int .i64 0,.str [],.int .i64 0,.int .i64 0,.bool false,.str [],.int .i64 0,.nil 2,.int .i64 0,.int .i64 0,.int .i64 0])),m 7 19,s 11 8 21]
def ars:PC:=.region [m 22 1,m 23 7,i 24 11 22 23,L 25 11 24,o 9 (.alloc 71 (.agg [.int .i64 0,.str [],.int .i64 0,.int .i64 0,.bool false,.str [],.int .i64 0,.nil 2,.int .i64 0,.int .i64 0,.int .i64 0])),s 11 9 25]
def anE:PC:=.region [m 26 2,L 27 11 8,L 28 11 9,o 29 (.callv (t 26) [t 27,t 28]),u 30 29]
def ahZ:PC:=.region [o 6 (.mv (.const (.bool false)))]
def anR:PC:=.region [B 31 .add 17 1,m 17 31]
def acK:PC:=.loop [1,2,15,16,17] (.seq aha (.seq (.cond (t 18) .skip (.exit 0)) (.seq (.block 1 (.seq ag2 (.seq ars (.seq anE (.cond (t 30) (.seq ahZ .ret) .skip))))) anR)))
def aec:PC:=.region [o 6 (.mv (.const (.bool true)))]
def aH:PC:=.seq agB (.seq (.seq ag5 (.cond (t 14) (.seq aoE .ret) .skip)) (.seq (.seq aiB (.block 0 acK)) (.seq aec .ret)))
def aG:List Nat:=[0,1,2,6,7,8,9,15,16,17]
def aI:RL:=[⟨6,none⟩]
def aX:aj bQ 194 aH aG aI 3:=⟨Go.Proofs.Tryz.f194,_,[.tmp 6],by kernel_rfl,by kernel_rfl,rfl,by kernel_rfl,by kernel_rfl,by kernel_rfl,by decide,by decide⟩
def aib:PC:=.region [o 2 (.box 71 (t 0)),o 3 (.box 71 (t 1)),o 4 (.mv (.const (.bool false)))]
def alR:PC:=.draw [L 5 11 2,c 6 113 [t 5],L 7 11 3,c 8 113 [t 7],o 9 (.eqs false [0,1,0] (t 6) (t 8)),m 10 9,q 10 (f 11 2 2),q 10 (l 12 11),q 10 (f 13 2 3),q 10 (l 14 13),q 10 (b 15 .eql 12 14),o 16 (.pick (t 10) (t 15) (.const (.bool false))),m 17 16,q 17 (f 18 3 2),q 17 (l 19 18),q 17 (f 20 3 3),q 17 (l 21 20),q 17 (b 22 .eql 19 21),o 23 (.pick (t 17) (t 22) (.const (.bool false))),m 24 23,q 24 (f 25 4 2),q 24 (l 26 25),q 24 (f 27 4 3),q 24 (l 28 27),q 24 (o 29 (.eqb false (t 26) (t 28))),o 30 (.pick (t 24) (t 29) (.const (.bool false))),m 31 30,q 31 (f 32 5 2),q 31 (l 33 32),q 31 (f 34 5 3),q 31 (l 35 34),q 31 (b 36 .eql 33 35),o 37 (.pick (t 31) (t 36) (.const (.bool false))),m 38 37,q 38 (f 39 7 2),q 38 (l 40 39),q 38 (f 41 7 3),q 38 (l 42 41),q 38 (c 43 159 [t 40,t 42]),o 44 (.pick (t 38) (t 43) (.const (.bool false))),m 45 44,q 45 (f 46 8 2),q 45 (l 47 46),q 45 (f 48 8 3),q 45 (l 49 48),q 45 (b 50 .eql 47 49),o 51 (.pick (t 45) (t 50) (.const (.bool false))),m 52 51,q 52 (f 53 9 2),q 52 (l 54 53),q 52 (f 55 9 3),q 52 (l 56 55),q 52 (b 57 .eql 54 56),o 58 (.pick (t 52) (t 57) (.const (.bool false))),m 59 58,q 59 (f 60 10 2),q 59 (l 61 60),q 59 (f 62 10 3),q 59 (l 63 62),q 59 (b 64 .eql 61 63),o 65 (.pick (t 59) (t 64) (.const (.bool false))),m 4 65] [[],[0],[],[2,1],[1,3],[4,3],[5],[6,5],[5],[8,5],[7,9,5],[5,10],[11,5],[12],[13,12],[12],[15,12],[14,16,12],[12,17],[18,12],[19],[20,19],[19],[22,19],[21,23,19],[19,24],[25,19],[26],[27,26],[26],[29,26],[28,30,26],[26,31],[32,26],[33],[34,33],[33],[36,33],[35,37,33,33],[33,38],[39,38],[40],[41,40],[40],[43,40],[42,44,40],[40,45],[46,40],[47],[48,47],[47],[50,47],[49,51,47],[47,52],[53,47],[54],[55,54],[54],[57,54],[56,58,54],[54,59],[60,54,0,1,2,3,4,5,6,7,8,9,10,11,12,13,14,15,16,17,18,19,20,21,22,23,24,25,26,27,28,29,30,31,32,33,34,35,36,37,38,39,40,41,42,43,44,45,46,47,48,49,50,51,52,53,54,55,56,57,58,59,60]]
def iz:PC:=.seq aib (.seq alR .ret)
def iy:List Nat:=[0,1,2,3,4]
def iw:RL:=[⟨4,none⟩]
def oy:aj bQ 195 iz iy iw 2:=⟨Go.Proofs.Tryz.f195,_,[.tmp 4],by kernel_rfl,by kernel_rfl,rfl,by kernel_rfl,by kernel_rfl,by kernel_rfl,by decide,by decide⟩
def arq:PC:=.region [M 2 0]
def arR:PC:=.region [m 5 0,n 6 5,M 7 0]
def aiP:PC:=.region [b 8 .lss 7 6]
def ap5:PC:=.region [i 9 1 5 7,l 10 9,m 4 10]
def aj8:PC:=.region [m 11 4,B 12 .neq 11 0]
def anq:PC:=.region [m 13 4,m 2 13]
def alb:PC:=.region [B 14 .add 7 1,m 7 14]
def aqo:PC:=.loop [5,6,7] (.seq aiP (.seq (.cond (t 8) .skip (.exit 0)) (.seq (.block 1 (.seq ap5 (.seq aj8 (.cond (t 12) (.seq anq .ret) .skip)))) alb)))
def ar0:PC:=.region [M 2 0]
def Bx:PC:=.seq arq (.seq (.seq arR (.block 0 aqo)) (.seq ar0 .ret))
def Bc:List Nat:=[0,2,4,5,6,7]
def Bd:RL:=[⟨2,none⟩]
def Lr:aj bQ 196 Bx Bc Bd 1:=⟨Go.Proofs.Tryz.f196,_,[.tmp 2],by kernel_rfl,by kernel_rfl,rfl,by kernel_rfl,by kernel_rfl,by kernel_rfl,by decide,by decide⟩
def ag9:PC:=.region [M 4 0]
def aiF:PC:=.region [m 5 0]
def amn:PC:=.region [M 4 0]
def aoY:PC:=.region [m 6 1,m 4 6]
def y8:PC:=.seq ag9 (.seq (.seq aiF (.cond (t 5) (.seq amn .ret) .skip)) (.seq aoY .ret))
def ym:List Nat:=[0,1,4]
def yo:RL:=[⟨4,none⟩]
def Iz:aj bQ 197 y8 ym yo 2:=⟨Go.Proofs.Tryz.f197,_,[.tmp 4],by kernel_rfl,by kernel_rfl,rfl,by kernel_rfl,by kernel_rfl,by kernel_rfl,by decide,by decide⟩
def al3:PC:=.region [o 2 (.mv (.const (.bool false)))]
def anJ:PC:=.region [m 3 0,o 4 (.bin .neq (t 3) (.const (.string (ByteArray.mk (Array.mk []))))),m 5 4,q 5 (m 6 0),q 5 (o 7 (.lenS (t 6))),q 5 (B 8 .leq 7 32),o 9 (.pick (t 5) (t 8) (.const (.bool false))),m 10 9,q 10 (m 11 0),q 10 (c 12 212 [t 11,.func 213]),o 13 (.pick (t 10) (t 12) (.const (.bool false))),m 14 13,q 14 (m 15 0),q 14 (o 16 (.bin .neq (t 15) (.const (.string (ByteArray.mk (Array.mk [46,46])))))),o 17 (.pick (t 14) (t 16) (.const (.bool false))),m 18 17,q 18 (m 19 0),q 18 (c 20 214 [t 19,.const (.string (ByteArray.mk (Array.mk [32])))]),q 18 (u 21 20),o 22 (.pick (t 18) (t 21) (.const (.bool false))),m 23 22,q 23 (m 24 0),q 23 (c 25 214 [t 24,.const (.string (ByteArray.mk (Array.mk [46])))]),q 23 (u 26 25),o 27 (.pick (t 23) (t 26) (.const (.bool false))),m 2 27]
def wR:PC:=.seq al3 (.seq anJ .ret)
def xf:List Nat:=[0,2]
def wW:RL:=[⟨2,none⟩]
def G_:aj bQ 198 wR xf wW 1:=⟨Go.Proofs.Tryz.f198,_,[.tmp 2],by kernel_rfl,by kernel_rfl,rfl,by kernel_rfl,by kernel_rfl,by kernel_rfl,by decide,by decide⟩
def agE:PC:=.region [o 2 (.mv (.const (.bool false)))]
def aij:PC:=.region [m 4 0,o 5 (.bin .lss (t 4) (.const (.int .u8 32))),m 6 5,Q 6 (m 7 0),Q 6 (o 8 (.bin .gtr (t 7) (.const (.int .u8 126)))),o 9 (.pick (t 6) (.const (.bool true)) (t 8))]
def akJ:PC:=.region [o 2 (.mv (.const (.bool false)))]
def ag3:PC:=.region [M 3 0]
def aoq:PC:=.region [m 10 3,B 11 .lss 10 9]
def ajv:PC:=.region [m 14 3,o 15 (.idx (.const (.string (ByteArray.mk (Array.mk [34,42,47,58,60,62,63,92,124])))) (t 14)),m 16 0,b 17 .eql 15 16]
def ai9:PC:=.region [o 2 (.mv (.const (.bool false)))]
def akI:PC:=.region [m 12 3,B 13 .add 12 1,m 3 13]
def ahh:PC:=.loop [0,3] (.seq (.seq aoq (.cond (t 11) .skip (.exit 0))) (.seq (.block 1 (.seq ajv (.cond (t 17) (.seq ai9 .ret) .skip))) akI))
def aou:PC:=.region [o 2 (.mv (.const (.bool true)))]
def Bv:PC:=.seq agE (.seq (.seq aij (.cond (t 9) (.seq akJ .ret) .skip)) (.seq (.seq ag3 (.block 0 ahh)) (.seq aou .ret)))
def BM:List Nat:=[0,2,3]
def Bm:RL:=[⟨2,none⟩]
def LJ:aj bQ 199 Bv BM Bm 1:=⟨Go.Proofs.Tryz.f199,_,[.tmp 2],by kernel_rfl,by kernel_rfl,rfl,by kernel_rfl,by kernel_rfl,by kernel_rfl,by decide,by decide⟩
def apR:PC:=.region [o 1 (.box 71 (t 0)),M 2 0]
def amE:PC:=.region [M 3 0]
def aii:PC:=.region [f 6 7 1,l 7 6,n 8 7,M 9 0]
def ajl:PC:=.region [b 10 .lss 9 8]
def aqh:PC:=.region [i 11 2 7 9,L 12 2 11,o 5 (.alloc 123 (.agg [.int .i64 0,.int .i64 0])),s 2 5 12]
def anA:PC:=.region [m 13 3,f 14 1 5,l 15 14,b 16 .add 13 15,m 3 16]
def ai3:PC:=.region [B 17 .add 9 1,m 9 17]
def aiA:PC:=.loop [3,7,8,9] (.seq ajl (.seq (.cond (t 10) .skip (.exit 0)) (.seq (.block 1 (.seq aqh anA)) ai3)))
def agN:PC:=.region [m 18 3,m 2 18]
def oF:PC:=.seq apR (.seq amE (.seq (.seq aii (.block 0 aiA)) (.seq agN .ret)))
def n_:List Nat:=[0,1,2,3,5,7,8,9]
def oE:RL:=[⟨2,none⟩]
def yR:aj bQ 201 oF n_ oE 1:=⟨Go.Proofs.Tryz.f201,_,[.tmp 2],by kernel_rfl,by kernel_rfl,rfl,by kernel_rfl,by kernel_rfl,by kernel_rfl,by decide,by decide⟩
def arT:PC:=.region [o 2 (.mv (.const (.string (ByteArray.mk (Array.mk []))))),M 3 0]
def akz:PC:=.region [m 11 0,o 12 (.bslice 39 1 [t 11]),c 13 215 [t 12],m 4 13]
def afW:PC:=.region [m 14 4,B 15 .neq 14 0]
def agf:PC:=.region [m 16 4,o 2 (.mv (.const (.string (ByteArray.mk (Array.mk []))))),m 3 16]
def akY:PC:=.region [o 5 (.nilR 5 1)]
def an6:PC:=.region [M 6 0]
def aoy:PC:=.region [m 17 0,n 18 17,M 19 0]
def ao3:PC:=.region [b 20 .lss 19 18]
def arp:PC:=.region [i 21 2 17 19,L 22 2 21,o 8 (.alloc 123 (.agg [.int .i64 0,.int .i64 0])),s 2 8 22]
def aqK:PC:=.region [f 23 1 8,l 24 23,c 25 216 [t 24],m 9 25]
def ad5:PC:=.region [M 10 0]
def abw:PC:=.region [L 26 2 8,c 27 187 [t 26],u 28 27]
def acH:PC:=.region [f 29 0 8,l 30 29,m 31 6,b 32 .sub 30 31,c 33 216 [t 32],m 10 33]
def acy:PC:=.region [m 34 5,m 35 10,o 36 (.bin .shl (t 35) (.const (.int .u64 4))),m 37 9,b 38 .or 36 37,o 39 (.conv (.toInt .u8) (t 38)),o 40 (.bslice 5 1 [t 39]),o 41 (.app 5 1 1 (t 34) (t 40)),m 5 41]
def abK:PC:=.region [m 42 5,f 43 1 8,l 44 43,m 45 9,c 46 217 [t 44,t 45],o 47 (.app 5 1 1 (t 42) (t 46)),m 5 47]
def acd:PC:=.region [L 48 2 8,c 49 187 [t 48],u 50 49]
def abA:PC:=.region [m 51 5,f 52 0 8,l 53 52,m 54 6,b 55 .sub 53 54,m 56 10,c 57 217 [t 55,t 56],o 58 (.app 5 1 1 (t 51) (t 57)),m 5 58]
def abD:PC:=.region [f 59 0 8,l 60 59,m 6 60]
def abM:PC:=.region [B 61 .add 19 1,m 19 61]
def ad8:PC:=.loop [5,6,17,18,19] (.seq ao3 (.seq (.cond (t 20) .skip (.exit 0)) (.seq (.block 1 (.seq arp (.seq aqK (.seq ad5 (.seq (.seq abw (.cond (t 28) acH .skip)) (.seq acy (.seq abK (.seq acd (.cond (t 50) (.seq abA abD) .skip))))))))) abM)))
def abY:PC:=.region [m 62 5,o 63 (.bslice 5 1 [.const (.int .u8 0)]),o 64 (.app 5 1 1 (t 62) (t 63)),o 65 (.conv .bts (t 64)),m 2 65,M 3 0]
def tS:PC:=.seq arT (.seq (.seq akz (.seq afW (.cond (t 15) (.seq agf .ret) .skip))) (.seq akY (.seq an6 (.seq (.seq aoy (.block 0 ad8)) (.seq abY .ret)))))
def tj:List Nat:=[0,2,3,4,5,6,8,9,10,17,18,19]
def tP:RL:=[⟨2,none⟩,⟨3,none⟩]
def Dg:aj bQ 202 tS tj tP 1:=⟨Go.Proofs.Tryz.f202,_,[.tmp 2,.tmp 3],by kernel_rfl,by kernel_rfl,rfl,by kernel_rfl,by kernel_rfl,by kernel_rfl,by decide,by decide⟩
def ail:PC:=.region [M 2 0]
def ali:PC:=.region [m 3 0]
def alT:PC:=.region [M 2 24]
def aqN:PC:=.region [M 2 40]
def uG:PC:=.seq ail (.seq (.seq ali (.cond (t 3) (.seq alT .ret) .skip)) (.seq aqN .ret))
def vq:List Nat:=[0,2]
def vf:RL:=[⟨2,none⟩]
def FI:aj bQ 203 uG vq vf 1:=⟨Go.Proofs.Tryz.f203,_,[.tmp 2],by kernel_rfl,by kernel_rfl,rfl,by kernel_rfl,by kernel_rfl,by kernel_rfl,by decide,by decide⟩
def aoa:PC:=.region [M 2 0]
def anV:PC:=.region [m 3 0,B 4 .add 3 8,B 5 .sub 4 1,B 6 .quo 5 8,B 7 .mul 6 8,m 2 7]
def qh:PC:=.seq aoa (.seq anV .ret)
def pP:List Nat:=[0,2]
def qx:RL:=[⟨2,none⟩]
def AT:aj bQ 204 qh pP qx 1:=⟨Go.Proofs.Tryz.f204,_,[.tmp 2],by kernel_rfl,by kernel_rfl,rfl,by kernel_rfl,by kernel_rfl,by kernel_rfl,by decide,by decide⟩
def ank:PC:=.region [m 9 2,M 10 0]
def aqH:PC:=.region [b 11 .lss 10 9]
def aic:PC:=.region [m 12 10,m 8 12]
def ake:PC:=.region [m 13 0,m 14 1,m 15 8,b 16 .add 14 15,m 17 3,o 18 (.conv (.toInt .u8) (t 17)),i 19 1 13 16,s 1 19 18]
def apw:PC:=.region [m 20 3,o 21 (.bin .shr (t 20) (.const (.int .u64 8))),m 3 21]
def ahd:PC:=.region [B 22 .add 10 1,m 10 22]
def ahe:PC:=.loop [0,1,3,9,10] (.seq aqH (.seq (.cond (t 11) .skip (.exit 0)) (.seq (.block 1 (.seq aic (.seq ake apw))) ahd)))
def pn:PC:=.seq ank (.block 0 ahe)
def pq:List Nat:=[0,1,2,3,8,9,10]
def pA:RL:=[]
def GP:aj bQ 205 pn pq pA 4:=⟨Go.Proofs.Tryz.f205,_,[],by kernel_rfl,by kernel_rfl,rfl,by kernel_rfl,by kernel_rfl,by kernel_rfl,by decide,by decide⟩
def apU:PC:=.region [o 2 (.mv (.const (.bool false)))]
def ag8:PC:=.region [m 3 0,m 4 0,b 5 .neq 3 4,m 2 5]
def xD:PC:=.seq apU (.seq ag8 .ret)
def xe:List Nat:=[0,2]
def xc:RL:=[⟨2,none⟩]
def G7:aj bQ 207 xD xe xc 1:=⟨Go.Proofs.Tryz.f207,_,[.tmp 2],by kernel_rfl,by kernel_rfl,rfl,by kernel_rfl,by kernel_rfl,by kernel_rfl,by decide,by decide⟩
def anM:PC:=.region [o 2 (.mv (.const (.bool false)))]
def anH:PC:=.region [m 3 0,m 4 0,b 5 .neq 3 4,m 2 5]
def rp:PC:=.seq anM (.seq anH .ret)
def sA:List Nat:=[0,2]
def rP:RL:=[⟨2,none⟩]
def CA:aj bQ 208 rp sA rP 1:=⟨Go.Proofs.Tryz.f208,_,[.tmp 2],by kernel_rfl,by kernel_rfl,rfl,by kernel_rfl,by kernel_rfl,by kernel_rfl,by decide,by decide⟩
def anb:PC:=.region [m 10 1,B 11 .add 10 1,m 8 11]
def alr:PC:=.region [m 12 8,m 13 2,b 14 .lss 12 13]
def aqk:PC:=.region [m 17 8,m 9 17]
def ahX:PC:=.draw [m 18 9,m 19 1,b 20 .gtr 18 19,m 21 20,q 21 (m 22 3),q 21 (m 23 0),q 21 (m 24 9),q 21 (i 25 11 23 24),q 21 (L 26 11 25),q 21 (m 27 0),q 21 (m 28 9),q 21 (B 29 .sub 28 1),q 21 (i 30 11 27 29),q 21 (L 31 11 30),q 21 (o 32 (.callv (t 22) [t 26,t 31])),q 21 (B 33 .lss 32 0),o 34 (.pick (t 21) (t 33) (.const (.bool false)))] [[],[],[0,1],[2],[3],[3],[3],[5,6,3],[7,3],[3],[3],[10,3],[9,11,3],[12,3],[4,8,13,3,3],[14,3],[3,15]]
def ai5:PC:=.drawD [m 37 0,m 38 9,m 39 0,m 40 9,B 41 .sub 40 1,m 42 0,m 43 9,B 44 .sub 43 1,i 45 11 42 44,L 46 11 45,m 47 0,m 48 9,i 49 11 47 48,L 50 11 49,i 51 11 37 38,s 11 51 46,i 52 11 39 41,s 11 52 50] [[],[],[],[],[3],[],[],[6],[5,7],[8],[],[],[10,11],[12],[0,1,0,1,5,6,7,8,9,13],[14,9,0,1,5,6,7,8,9,13],[2,4,0,1,2,3,4,5,6,7,8,9,10,11,12,13,14,15],[16,13,15,0,1,2,3,4,5,6,7,8,9,10,11,12,13,14,15]]
def amN:PC:=.region [m 35 9,B 36 .sub 35 1,m 9 36]
def an0:PC:=.loop [0,1,2,3,8,9] (.seq (.seq ahX (.cond (t 34) .skip (.exit 2))) (.seq (.block 3 ai5) amN))
def ai0:PC:=.region [m 15 8,B 16 .add 15 1,m 8 16]
def alU:PC:=.loop [0,1,2,3,8] (.seq (.seq alr (.cond (t 14) .skip (.exit 0))) (.seq (.block 1 (.seq aqk (.block 2 an0))) ai0))
def cB:PC:=.seq anb (.block 0 alU)
def cD:List Nat:=[0,1,2,3,8,9]
def cC:RL:=[]
def fy:aj bQ 210 cB cD cC 4:=⟨Go.Proofs.Tryz.f210,_,[],by kernel_rfl,by kernel_rfl,rfl,by kernel_rfl,by kernel_rfl,by kernel_rfl,by decide,by decide⟩
def alw:PC:=.region [m 25 2,m 26 1,b 27 .sub 25 26,B 28 .eql 27 1]
def aqi:PC:=.region [m 29 2,m 10 29]
def aj9:PC:=.region [m 30 3,m 11 30]
def aqn:PC:=.region [m 31 10,m 32 11,b 33 .lss 31 32]
def aga:PC:=.region [m 34 10,m 35 11,b 36 .add 34 35,o 37 (.conv (.toInt .u64) (t 36)),o 38 (.bin .shr (t 37) (.const (.int .u64 1))),o 39 (.conv (.toInt .i64) (t 38)),m 12 39]
def ak3:PC:=.draw [m 40 4,m 41 0,m 42 12,i 43 11 41 42,L 44 11 43,m 45 0,m 46 1,i 47 11 45 46,L 48 11 47,o 49 (.callv (t 40) [t 44,t 48]),B 50 .lss 49 0] [[],[],[],[1,2],[3],[],[],[5,6],[7],[0,4,8],[9]]
def af8:PC:=.region [m 51 12,B 52 .add 51 1,m 10 52]
def aku:PC:=.region [m 53 12,m 11 53]
def ahv:PC:=.loop [0,1,4,10,11] (.seq (.seq aqn (.cond (t 33) .skip (.exit 0))) (.block 1 (.seq aga (.seq ak3 (.cond (t 50) af8 aku)))))
def agC:PC:=.region [m 54 1,m 13 54]
def acL:PC:=.region [m 55 13,m 56 10,B 57 .sub 56 1,b 58 .lss 55 57]
def ad6:PC:=.drawD [m 61 0,m 62 13,m 63 0,m 64 13,B 65 .add 64 1,m 66 0,m 67 13,B 68 .add 67 1,i 69 11 66 68,L 70 11 69,m 71 0,m 72 13,i 73 11 71 72,L 74 11 73,i 75 11 61 62,s 11 75 70,i 76 11 63 65,s 11 76 74] [[],[],[],[],[3],[],[],[6],[5,7],[8],[],[],[10,11],[12],[0,1,0,1,5,6,7,8,9,13],[14,9,0,1,5,6,7,8,9,13],[2,4,0,1,2,3,4,5,6,7,8,9,10,11,12,13,14,15],[16,13,15,0,1,2,3,4,5,6,7,8,9,10,11,12,13,14,15]]
def acs:PC:=.region [m 59 13,B 60 .add 59 1,m 13 60]
def aer:PC:=.loop [0,10,13] (.seq (.seq acL (.cond (t 58) .skip (.exit 2))) (.seq (.block 3 ad6) acs))
def ac_:PC:=.region [m 77 3,m 78 2,b 79 .sub 77 78,B 80 .eql 79 1]
def ad_:PC:=.region [m 81 1,m 14 81]
def ac2:PC:=.region [m 82 2,m 15 82]
def ab9:PC:=.region [m 83 14,m 84 15,b 85 .lss 83 84]
def ace:PC:=.region [m 86 14,m 87 15,b 88 .add 86 87,o 89 (.conv (.toInt .u64) (t 88)),o 90 (.bin .shr (t 89) (.const (.int .u64 1))),o 91 (.conv (.toInt .i64) (t 90)),m 16 91]
def acO:PC:=.draw [m 92 4,m 93 0,m 94 2,i 95 11 93 94,L 96 11 95,m 97 0,m 98 16,i 99 11 97 98,L 100 11 99,o 101 (.callv (t 92) [t 96,t 100]),B 102 .lss 101 0,u 103 102] [[],[],[],[1,2],[3],[],[],[5,6],[7],[0,4,8],[9],[10]]
def ab3:PC:=.region [m 104 16,B 105 .add 104 1,m 14 105]
def aca:PC:=.region [m 106 16,m 15 106]
def adA:PC:=.loop [0,2,4,14,15] (.seq (.seq ab9 (.cond (t 85) .skip (.exit 4))) (.block 5 (.seq ace (.seq acO (.cond (t 103) ab3 aca)))))
def aem:PC:=.region [m 107 2,m 17 107]
def aek:PC:=.region [m 108 17,m 109 14,b 110 .gtr 108 109]
def aci:PC:=.drawD [m 113 0,m 114 17,m 115 0,m 116 17,B 117 .sub 116 1,m 118 0,m 119 17,B 120 .sub 119 1,i 121 11 118 120,L 122 11 121,m 123 0,m 124 17,i 125 11 123 124,L 126 11 125,i 127 11 113 114,s 11 127 122,i 128 11 115 117,s 11 128 126] [[],[],[],[],[3],[],[],[6],[5,7],[8],[],[],[10,11],[12],[0,1,0,1,5,6,7,8,9,13],[14,9,0,1,5,6,7,8,9,13],[2,4,0,1,2,3,4,5,6,7,8,9,10,11,12,13,14,15],[16,13,15,0,1,2,3,4,5,6,7,8,9,10,11,12,13,14,15]]
def acW:PC:=.region [m 111 17,B 112 .sub 111 1,m 17 112]
def abB:PC:=.loop [0,14,17] (.seq (.seq aek (.cond (t 110) .skip (.exit 6))) (.seq (.block 7 aci) acW))
def acx:PC:=.region [m 129 1,m 130 3,b 131 .add 129 130,o 132 (.conv (.toInt .u64) (t 131)),o 133 (.bin .shr (t 132) (.const (.int .u64 1))),o 134 (.conv (.toInt .i64) (t 133)),m 18 134]
def abO:PC:=.region [m 135 18,m 136 2,b 137 .add 135 136,m 19 137]
def ad4:PC:=.region [M 20 0,M 21 0]
def acg:PC:=.region [m 138 2,m 139 18,b 140 .gtr 138 139]
def adI:PC:=.region [m 141 19,m 142 3,b 143 .sub 141 142,m 20 143]
def abo:PC:=.region [m 144 18,m 21 144]
def ab6:PC:=.region [m 145 1,m 20 145]
def adb:PC:=.region [m 146 2,m 21 146]
def ac3:PC:=.region [m 147 19,B 148 .sub 147 1,m 22 148]
def abQ:PC:=.region [m 149 20,m 150 21,b 151 .lss 149 150]
def acj:PC:=.region [m 152 20,m 153 21,b 154 .add 152 153,o 155 (.conv (.toInt .u64) (t 154)),o 156 (.bin .shr (t 155) (.const (.int .u64 1))),o 157 (.conv (.toInt .i64) (t 156)),m 23 157]
def adH:PC:=.draw [m 158 4,m 159 0,m 160 22,m 161 23,b 162 .sub 160 161,i 163 11 159 162,L 164 11 163,m 165 0,m 166 23,i 167 11 165 166,L 168 11 167,o 169 (.callv (t 158) [t 164,t 168]),B 170 .lss 169 0,u 171 170] [[],[],[],[],[2,3],[1,4],[5],[],[],[7,8],[9],[0,6,10],[11],[12]]
def aby:PC:=.region [m 172 23,B 173 .add 172 1,m 20 173]
def abN:PC:=.region [m 174 23,m 21 174]
def acS:PC:=.loop [0,1,2,3,4,18,19,20,21,22] (.seq (.seq abQ (.cond (t 151) .skip (.exit 8))) (.block 9 (.seq acj (.seq adH (.cond (t 171) aby abN)))))
def ab2:PC:=.region [m 175 19,m 176 20,b 177 .sub 175 176,m 24 177]
def acr:PC:=.region [m 178 20,m 179 2,b 180 .lss 178 179,m 181 180,q 181 (m 182 2),q 181 (m 183 24),q 181 (b 184 .lss 182 183),o 185 (.pick (t 181) (t 184) (.const (.bool false)))]
def ab0:PC:=.region [m 186 0,m 187 20,m 188 2,m 189 24,m 190 4,c 191 218 [t 186,t 187,t 188,t 189,t 190]]
def ab5:PC:=.region [m 192 1,m 193 20,b 194 .lss 192 193,m 195 194,q 195 (m 196 20),q 195 (m 197 18),q 195 (b 198 .lss 196 197),o 199 (.pick (t 195) (t 198) (.const (.bool false)))]
def abq:PC:=.region [m 200 0,m 201 1,m 202 20,m 203 18,m 204 4,c 205 211 [t 200,t 201,t 202,t 203,t 204]]
def acQ:PC:=.region [m 206 18,m 207 24,b 208 .lss 206 207,m 209 208,q 209 (m 210 24),q 209 (m 211 3),q 209 (b 212 .lss 210 211),o 213 (.pick (t 209) (t 212) (.const (.bool false)))]
def ab7:PC:=.region [m 214 0,m 215 18,m 216 24,m 217 3,m 218 4,c 219 211 [t 214,t 215,t 216,t 217,t 218]]
def dh:PC:=.seq (.seq alw (.cond (t 28) (.seq aqi (.seq aj9 (.seq (.block 0 ahv) (.seq (.seq agC (.block 2 aer)) .ret)))) .skip)) (.seq (.seq ac_ (.cond (t 80) (.seq ad_ (.seq ac2 (.seq (.block 4 adA) (.seq (.seq aem (.block 6 abB)) .ret)))) .skip)) (.seq acx (.seq abO (.seq ad4 (.seq (.seq acg (.cond (t 140) (.seq adI abo) (.seq ab6 adb))) (.seq ac3 (.seq (.block 8 acS) (.seq ab2 (.seq (.seq acr (.cond (t 185) ab0 .skip)) (.seq (.seq ab5 (.cond (t 199) abq .skip)) (.seq acQ (.cond (t 213) ab7 .skip))))))))))))
def df:List Nat:=[0,1,2,3,4,10,11,12,13,14,15,16,17,18,19,20,21,22,23,24]
def dg:RL:=[]
def gz:aj bQ 211 dh df dg 5:=⟨Go.Proofs.Tryz.f211,_,[],by kernel_rfl,by kernel_rfl,rfl,by kernel_rfl,by kernel_rfl,by kernel_rfl,by decide,by decide⟩
def ap0:PC:=.region [o 3 (.box 202 (t 1)),o 4 (.mv (.const (.bool false)))]
def aiy:PC:=.region [m 5 0,o 6 (.conv (.stb 5) (t 5)),o 7 (.mkf 220 [t 3]),c 8 219 [t 6,t 7],u 9 8,m 4 9]
def uA:PC:=.seq ap0 (.seq aiy .ret)
def vJ:List Nat:=[0,1,3,4]
def vo:RL:=[⟨4,none⟩]
def Fw:aj bQ 212 uA vJ vo 2:=⟨Go.Proofs.Tryz.f212,_,[.tmp 4],by kernel_rfl,by kernel_rfl,rfl,by kernel_rfl,by kernel_rfl,by kernel_rfl,by decide,by decide⟩
def aoF:PC:=.region [o 2 (.mv (.const (.bool false)))]
def ap7:PC:=.region [m 3 0,o 4 (.bin .leq (.const (.int .u8 32)) (t 3)),m 5 4,q 5 (m 6 0),q 5 (o 7 (.bin .leq (t 6) (.const (.int .u8 126)))),o 8 (.pick (t 5) (t 7) (.const (.bool false))),m 9 8,q 9 (m 10 0),q 9 (c 11 221 [.const (.string (ByteArray.mk (Array.mk [34,42,47,58,60,62,63,92,124]))),t 10]),q 9 (B 12 .lss 11 0),o 13 (.pick (t 9) (t 12) (.const (.bool false))),m 2 13]
def qt:PC:=.seq aoF (.seq ap7 .ret)
def pR:List Nat:=[0,2]
def qf:RL:=[⟨2,none⟩]
def A9:aj bQ 213 qt pR qf 1:=⟨Go.Proofs.Tryz.f213,_,[.tmp 2],by kernel_rfl,by kernel_rfl,rfl,by kernel_rfl,by kernel_rfl,by kernel_rfl,by decide,by decide⟩
def aot:PC:=.region [o 4 (.mv (.const (.bool false)))]
def anQ:PC:=.region [m 5 0,m 6 1,c 7 222 [t 5,t 6],m 4 7]
def p9:PC:=.seq aot (.seq anQ .ret)
def qy:List Nat:=[0,1,4]
def pQ:RL:=[⟨4,none⟩]
def A5:aj bQ 214 p9 qy pQ 2:=⟨Go.Proofs.Tryz.f214,_,[.tmp 4],by kernel_rfl,by kernel_rfl,rfl,by kernel_rfl,by kernel_rfl,by kernel_rfl,by decide,by decide⟩
def amd:PC:=.region [M 2 0]
def alI:PC:=.region [m 7 0,n 8 7,M 9 0]
def ajg:PC:=.region [b 10 .lss 9 8]
def aqg:PC:=.region [i 11 1 7 9,l 12 11,m 4 12]
def ajQ:PC:=.region [m 14 4,c 15 78 [t 14],m 13 15,e 16 13 0,e 17 13 1,m 5 16,m 6 17]
def ag7:PC:=.region [m 18 6,B 19 .neq 18 0]
def arc:PC:=.region [m 20 6,m 2 20]
def aiV:PC:=.region [B 21 .add 9 1,m 9 21]
def apc:PC:=.loop [7,8,9] (.seq ajg (.seq (.cond (t 10) .skip (.exit 0)) (.seq (.block 1 (.seq aqg (.seq ajQ (.seq ag7 (.cond (t 19) (.seq arc .ret) .skip))))) aiV)))
def ahn:PC:=.region [M 2 0]
def zN:PC:=.seq amd (.seq (.seq alI (.block 0 apc)) (.seq ahn .ret))
def yI:List Nat:=[0,2,4,6,7,8,9]
def ze:RL:=[⟨2,none⟩]
def HX:aj bQ 215 zN yI ze 1:=⟨Go.Proofs.Tryz.f215,_,[.tmp 2],by kernel_rfl,by kernel_rfl,rfl,by kernel_rfl,by kernel_rfl,by kernel_rfl,by decide,by decide⟩
def amS:PC:=.region [M 2 0]
def aow:PC:=.region [M 3 1]
def ajt:PC:=.draw [m 4 0,m 5 3,o 6 (.bin .mul (k 8) (t 5)),B 7 .sub 6 1,o 8 (.bin .shl (k (-1)) (t 7)),m 9 3,o 10 (.bin .mul (k 8) (t 9)),B 11 .sub 10 1,o 12 (.bin .shl (k 1) (t 11)),B 13 .sub 12 1,c 14 188 [t 4,t 8,t 13],u 15 14] [[],[],[1],[2],[3],[],[5],[6],[7],[8],[0,4,9],[10]]
def aiR:PC:=.region [m 16 3,B 17 .add 16 1,m 3 17]
def aoM:PC:=.loop [0,3] (.seq (.seq ajt (.cond (t 15) .skip (.exit 0))) (.block 1 aiR))
def aj5:PC:=.region [m 18 3,m 2 18]
def Bp:PC:=.seq amS (.seq aow (.seq (.block 0 aoM) (.seq aj5 .ret)))
def Bn:List Nat:=[0,2,3]
def BQ:RL:=[⟨2,none⟩]
def Lu:aj bQ 216 Bp Bn BQ 1:=⟨Go.Proofs.Tryz.f216,_,[.tmp 2],by kernel_rfl,by kernel_rfl,rfl,by kernel_rfl,by kernel_rfl,by kernel_rfl,by decide,by decide⟩
def afX:PC:=.region [o 4 (.nilR 5 1)]
def ahT:PC:=.region [o 5 (.nilR 5 1)]
def aps:PC:=.region [m 6 1,M 7 0]
def amo:PC:=.region [b 8 .lss 7 6]
def aoQ:PC:=.region [m 9 5,m 10 0,o 11 (.conv (.toInt .u8) (t 10)),o 12 (.bslice 5 1 [t 11]),o 13 (.app 5 1 1 (t 9) (t 12)),m 5 13]
def apr:PC:=.region [m 14 0,o 15 (.bin .shr (t 14) (.const (.int .u64 8))),m 0 15]
def aoK:PC:=.region [B 16 .add 7 1,m 7 16]
def akH:PC:=.loop [0,5,6,7] (.seq amo (.seq (.cond (t 8) .skip (.exit 0)) (.seq (.block 1 (.seq aoQ apr)) aoK)))
def ahA:PC:=.region [m 17 5,m 4 17]
def Br:PC:=.seq afX (.seq ahT (.seq (.seq aps (.block 0 akH)) (.seq ahA .ret)))
def Bz:List Nat:=[0,1,4,5,6,7]
def BX:RL:=[⟨4,none⟩]
def Ly:aj bQ 217 Br Bz BX 2:=⟨Go.Proofs.Tryz.f217,_,[.tmp 4],by kernel_rfl,by kernel_rfl,rfl,by kernel_rfl,by kernel_rfl,by kernel_rfl,by decide,by decide⟩
def aif:PC:=.region [m 12 2,m 13 1,b 14 .sub 12 13,m 10 14]
def aqb:PC:=.region [m 15 3,m 16 2,b 17 .sub 15 16,m 11 17]
def arv:PC:=.region [m 18 10,m 19 11,b 20 .neq 18 19]
def aqj:PC:=.region [m 21 10,m 22 11,b 23 .gtr 21 22]
def af7:PC:=.region [m 24 0,m 25 2,m 26 10,b 27 .sub 25 26,m 28 2,m 29 11,m 30 4,c 31 223 [t 24,t 27,t 28,t 29,t 30]]
def agW:PC:=.region [m 32 10,m 33 11,b 34 .sub 32 33,m 10 34]
def ajZ:PC:=.region [m 35 0,m 36 2,m 37 10,b 38 .sub 36 37,m 39 2,m 40 11,b 41 .add 39 40,m 42 10,b 43 .sub 41 42,m 44 10,m 45 4,c 46 223 [t 35,t 38,t 43,t 44,t 45]]
def aq9:PC:=.region [m 47 11,m 48 10,b 49 .sub 47 48,m 11 49]
def agK:PC:=.loop [0,2,4,10,11] (.seq (.seq arv (.cond (t 20) .skip (.exit 0))) (.block 1 (.seq aqj (.cond (t 23) (.seq af7 agW) (.seq ajZ aq9)))))
def amu:PC:=.region [m 50 0,m 51 2,m 52 10,b 53 .sub 51 52,m 54 2,m 55 10,m 56 4,c 57 223 [t 50,t 53,t 54,t 55,t 56]]
def dB:PC:=.seq aif (.seq aqb (.seq (.block 0 agK) amu))
def dF:List Nat:=[0,1,2,3,4,10,11]
def dA:RL:=[]
def gN:aj bQ 218 dB dF dA 5:=⟨Go.Proofs.Tryz.f218,_,[],by kernel_rfl,by kernel_rfl,rfl,by kernel_rfl,by kernel_rfl,by kernel_rfl,by decide,by decide⟩
def alf:PC:=.region [o 4 (.mv (.const (.bool false)))]
def ary:PC:=.region [m 5 0,m 6 1,c 7 224 [t 5,t 6],B 8 .geq 7 0,m 4 8]
def gW:PC:=.seq alf (.seq ary .ret)
def gX:List Nat:=[0,1,4]
def gY:RL:=[⟨4,none⟩]
def mR:aj bQ 219 gW gX gY 2:=⟨Go.Proofs.Tryz.f219,_,[.tmp 4],by kernel_rfl,by kernel_rfl,rfl,by kernel_rfl,by kernel_rfl,by kernel_rfl,by decide,by decide⟩
def amZ:PC:=.region [o 3 (.mv (.const (.bool false)))]
def agM:PC:=.region [l 4 1,m 5 0,o 6 (.callv (t 4) [t 5]),u 7 6,m 3 7]
def qu:PC:=.seq amZ (.seq agM .ret)
def pO:List Nat:=[0,1,3]
def pT:RL:=[⟨3,none⟩]
def AH:aj bQ 220 qu pO pT 2:=⟨Go.Proofs.Tryz.f220,_,[.tmp 3],by kernel_rfl,by kernel_rfl,rfl,by kernel_rfl,by kernel_rfl,by kernel_rfl,by decide,by decide⟩
def aly:PC:=.region [M 4 0]
def apX:PC:=.region [m 5 0,m 6 1,c 7 225 [t 5,t 6],m 4 7]
def qa:PC:=.seq aly (.seq apX .ret)
def qo:List Nat:=[0,1,4]
def pY:RL:=[⟨4,none⟩]
def AM:aj bQ 221 qa qo pY 2:=⟨Go.Proofs.Tryz.f221,_,[.tmp 4],by kernel_rfl,by kernel_rfl,rfl,by kernel_rfl,by kernel_rfl,by kernel_rfl,by decide,by decide⟩
def afZ:PC:=.region [o 4 (.mv (.const (.bool false)))]
def aqd:PC:=.region [m 5 0,o 6 (.lenS (t 5)),m 7 1,o 8 (.lenS (t 7)),b 9 .geq 6 8,m 10 9,q 10 (m 11 0),q 10 (m 12 0),q 10 (o 13 (.lenS (t 12))),q 10 (m 14 1),q 10 (o 15 (.lenS (t 14))),q 10 (b 16 .sub 13 15),q 10 (o 17 (.slcS (t 11) (some (t 16)) none)),q 10 (m 18 1),q 10 (b 19 .eql 17 18),o 20 (.pick (t 10) (t 19) (.const (.bool false))),m 4 20]
def gS:PC:=.seq afZ (.seq aqd .ret)
def gH:List Nat:=[0,1,4]
def gJ:RL:=[⟨4,none⟩]
def mE:aj bQ 222 gS gH gJ 2:=⟨Go.Proofs.Tryz.f222,_,[.tmp 4],by kernel_rfl,by kernel_rfl,rfl,by kernel_rfl,by kernel_rfl,by kernel_rfl,by decide,by decide⟩
def ahz:PC:=.region [M 10 0]
def arV:PC:=.region [m 11 10,m 12 3,b 13 .lss 11 12]
def apI:PC:=.drawD [m 16 0,m 17 1,m 18 10,b 19 .add 17 18,m 20 0,m 21 2,m 22 10,b 23 .add 21 22,m 24 0,m 25 2,m 26 10,b 27 .add 25 26,i 28 11 24 27,L 29 11 28,m 30 0,m 31 1,m 32 10,b 33 .add 31 32,i 34 11 30 33,L 35 11 34,i 36 11 16 19,s 11 36 29,i 37 11 20 23,s 11 37 35] [[],[],[],[1,2],[],[],[],[5,6],[],[],[],[9,10],[8,11],[12],[],[],[],[15,16],[14,17],[18],[0,3,0,1,2,3,8,9,10,11,12,13,19],[20,13,0,1,2,3,8,9,10,11,12,13,19],[4,7,0,1,2,3,4,5,6,7,8,9,10,11,12,13,14,15,16,17,18,19,20,21],[22,19,21,0,1,2,3,4,5,6,7,8,9,10,11,12,13,14,15,16,17,18,19,20,21]]
def aqJ:PC:=.region [m 14 10,B 15 .add 14 1,m 10 15]
def agu:PC:=.loop [0,1,2,3,10] (.seq (.seq arV (.cond (t 13) .skip (.exit 0))) (.seq (.block 1 apI) aqJ))
def da:PC:=.seq ahz (.block 0 agu)
def c7:List Nat:=[0,1,2,3,10]
def c_:RL:=[]
def gn:aj bQ 223 da c7 c_ 5:=⟨Go.Proofs.Tryz.f223,_,[],by kernel_rfl,by kernel_rfl,rfl,by kernel_rfl,by kernel_rfl,by kernel_rfl,by decide,by decide⟩
def agD:PC:=.region [M 4 0]
def apn:PC:=.region [m 6 0,n 7 6,M 8 0]
def aiX:PC:=.region [b 9 .lss 8 7]
def ahk:PC:=.region [m 10 8,m 5 10]
def af0:PC:=.region [m 11 1,m 12 0,m 13 5,i 14 1 12 13,l 15 14,o 16 (.callv (t 11) [t 15])]
def am2:PC:=.region [m 17 5,m 4 17]
def ajy:PC:=.region [B 18 .add 8 1,m 8 18]
def amD:PC:=.loop [0,1,7,8] (.seq aiX (.seq (.cond (t 9) .skip (.exit 0)) (.seq (.block 1 (.seq ahk (.seq af0 (.cond (t 16) (.seq am2 .ret) .skip)))) ajy)))
def ahF:PC:=.region [M 4 (-1)]
def iE:PC:=.seq agD (.seq (.seq apn (.block 0 amD)) (.seq ahF .ret))
def iM:List Nat:=[0,1,4,5,7,8]
def iI:RL:=[⟨4,none⟩]
def pD:aj bQ 224 iE iM iI 2:=⟨Go.Proofs.Tryz.f224,_,[.tmp 4],by kernel_rfl,by kernel_rfl,rfl,by kernel_rfl,by kernel_rfl,by kernel_rfl,by decide,by decide⟩
end Go.Dv.Try
namespace Go.Proofs
def Tryz.Qt:Go.Shelf.Ren:=⟨λ|217=>225|266=>226|n=>n,λt=>t,λg=>g⟩
def Tryz.Um:Go.Proofs.Lays.n217 Tryz.prog Tryz.Qt:={
 mixed:=by kernel_rfl
 f217:=Tryz.func225.trans (congrArg some (by kernel_rfl))
 f266:=Tryz.func226.trans (congrArg some (by kernel_rfl))
 t3:=Tryz.underlying3
 a3:=Tryz.isAgg3
 z3:=Tryz.sizeOf3
 v3:=Tryz.zeroValue3
 t5:=Tryz.underlying5
 a5:=Tryz.isAgg5
 z5:=Tryz.sizeOf5
 v5:=Tryz.zeroValue5
 t9:=Tryz.underlying9
 a9:=Tryz.isAgg9
 z9:=Tryz.sizeOf9
 v9:=Tryz.zeroValue9 }
end Go.Proofs
namespace Go.Dv.Try
open Go Go.Dv Go.RowKit
def abX{P:Program}{f:FuncId}(R:List PV->PV->Prop)(sZ:Enters P f)(R4:∀ps x,R ps x->x.flat)(h:∀(w:World) (ok:Nat->Prop) (ps:List PV) (x:PV) (vs:Array Value),cE ok w ps vs.toList->R ps x->Calls P f vs w λe w'=>∃v,e=.returned v/\Rd (λ_=>False) w' x v/\Below w.heap.size w w'):bM P f (ah R):=by
 refine⟨λe=>((Mi R).1 e).2,λ_=>⟨rfl,rfl⟩,?_,λ_ _ _ _ _ _ _ _ h=>(show False from h).elim,λ_ _ _ _ _ _ _ _ e=>(by cases e)⟩;rintro w ok ps vs K _ ep iY ⟨x,hx,hK⟩;refine⟨sZ,(h w ok ps x vs iY hx).mono ?_⟩;rintro e w' ⟨v,rfl,h1,h2⟩;exact⟨v,.pv x,[],rfl,hK,h2,by simp only[RR];exact⟨Uw (R4 ps x hx) h1,trivial⟩,by simp,λi j u t b _ hu=>by simp at hu⟩
def lE(ps:List PV)(x:PV):Prop:=∃(l:List UInt8) (c:UInt8),ps=[.str l,aR c]/\x=pI (Lib.indexByte l c)
def Nd:bM Go.Proofs.Tryz.prog ma (ah lE):=by
 refine abX lE (Go.Proofs.enters_of Go.Proofs.Tryz.Um.f217 (by kernel_rfl) rfl) ?_ ?_
 ·rintro ps x ⟨l,c,rfl,rfl⟩;trivial
 ·rintro w ok ps x vs iY ⟨l,c,rfl,rfl⟩;simp only[cE,Rd,aR]at iY;obtain⟨_,_,e,rfl,_,_,rfl,rfl,rfl⟩:=iY;have:vs= #[.string ⟨l.toArray⟩,.int .u8 (c.toNat:Nat)]:=by rw[<-zcH];exact e
  subst this;refine(Go.Proofs.Any.stringslite_IndexByte Go.Proofs.Tryz.Um ⟨l.toArray⟩ (c.toNat:Nat) w).mono ?_;rintro e w' ⟨rfl,rfl⟩;refine⟨_,rfl,?_,Below.refl _ _⟩;simp only[Rd,pI];simp
end Go.Dv.Try
namespace Go.Dv.Try
open Go Go.Dv
inductive Sl(α:Type) where
 |nil
 |sl (l:List α)
def Sl.l{α:Type}:Sl α->List α
 |nil=>[]
 |sl l=>l
def Sl.pv{α:Type}(f:α->PV)(sz:Nat):Sl α->PV
 |nil=>.nil sz
 |sl l=>.sl sz (l.map f)
def jH{α:Type}{f:α->PV}{sz:Nat}{s:Sl α}{K:Nat->List PV->Prop}(k:K sz (s.l.map f)):uO [] (.pv (s.pv f sz)) K:=by
 cases s<;>exact k
def IXA{α:Type}{f:α->PV}{sz:Nat}{s:Sl α}{i:Nat}{K:PV->Prop}(h:i<s.l.length)(k:∀x,s.l[i]?=some x->K (f x)):
 (match s.pv f sz with
   | .sl s ak=>(match Nat.beq s sz with
    |true=>∃y,(0<=(i:Int)/\ak[(i:Int).toNat]?=some y)/\K y
    |false=>False)
   |_=>False):=by
 cases s with
 |nil=>exact absurd h uX
 |sl l=>
  show(match Nat.beq sz sz with|true=>∃y,(0<=(i:Int)/\(l.map f)[(i:Int).toNat]?=some y)/\K y|false=>False);rw[Nat.beq_refl];exact⟨f l[i],⟨aa,by rw[zcl,zbC,show l[i]?=some l[i]from zak h];rfl⟩,k _ (zak h)⟩
def dI{α:Type}{f:α->PV}{sz:Nat}{s:Sl α}{i:Nat}{x:α}{K:PV->Prop}(h:s.l[i]?=some x)(k:K (f x)):
 (match s.pv f sz with
   | .sl s ak=>(match Nat.beq s sz with
    |true=>∃y,(0<=(i:Int)/\ak[(i:Int).toNat]?=some y)/\K y
    |false=>False)
   |_=>False):=IXA (aZ h) (λ_ h'=>get_inj h h'▸k)
def Xf{α:Type}{f:α->PV}{sz:Nat}{s:Sl α}{i:Int}{x:α}{K:PV->Prop}(h0:0<=i)(h:s.l[i.toNat]?=some x)(k:K (f x)):
 (match s.pv f sz with
   | .sl s ak=>(match Nat.beq s sz with
    |true=>∃y,(0<=i/\ak[i.toNat]?=some y)/\K y
    |false=>False)
   |_=>False):=by
 obtain⟨n,rfl⟩:=zcs h0;exact dI o8 k
def Sl.cells{α:Type}{f:α->PV}{sz:Nat}{s:Sl α}:(s.pv f sz).cells=[s.pv f sz]:=by cases s<;>rfl
structure Rn where
 s:Int
 n:Int
deriving DecidableEq
def Rn.pv(r:Rn):PV:=.agg [pI r.s,pI r.n]
abbrev Rs:=Sl Rn
abbrev x4(s:Sl Rn):PV:=s.pv Rn.pv 2
def W5(l:List Rn):∀x∈l.map Rn.pv,x.flat:=by
 intro x hx;obtain⟨t,_,rfl⟩:=List.mem_map.1 hx;simp[Rn.pv,PV.flat,PV.one,PV.S9]
structure At where
 ty:Int
 nm:List UInt8
 id:Int
 fl:Int
 rs:Bool
 vl:List UInt8
 ft:Int
 rn:Sl Rn
 al:Int
 sz:Int
 vd:Int
def At.pv(a:At):PV:=.agg [pI a.ty,.str a.nm,pI a.id,pI a.fl,pB a.rs,.str a.vl,pI a.ft,x4 a.rn,pI a.al,pI a.sz,pI a.vd]
def Jb(lone:Bool)(R:List PV->RV->Prop):LO (gR lone R):=⟨λe=>fJ,λ_ _ h=>h,rfl⟩
def bF:List Int->Int
 |[]=>0
 |e::l=>if e=0 then bF l else e
def lL(l:List Int)(n:Nat)(h:∀j,j<n->l[j]?=some 0):bF l=bF (l.drop n):=by
 induction n generalizing l with
 |zero=>rfl
 |succ n ih=>
  cases l with
  |nil=>rfl
  |cons e l=>
   have:=h 0 aa;simp at this;subst this;exact ih l λj hj=>by simpa using h (j+1) aa
def eM(ps:List PV)(x:PV):Prop:=∃l:List Int,ps=[.sl 1 (l.map pI)]/\x=pI (bF l)
def gx:ay (ax []) tO tm tH (ah eM):=by
 rintro _ K ⟨_,⟨l,rfl,rfl⟩,hK⟩;refine λhl=>?_
 rw[zan]at hl;refine⟨λm env σ=>∃n:Nat,(n+m=l.length∧∀j,j<n->l[j]?=some 0)/\σ=[]/\env=[(5,.pv (.sl 1 (l.map pI))),eN 6 ((l.map pI).length:Nat),eN 7 n],l.length,⟨0,⟨aa,λj hj=>aa⟩,rfl,rfl⟩,?_⟩;rintro m env σ ⟨n,⟨hn,h0⟩,rfl,rfl⟩;refine λb hb=>?_
 rw[zan]at hb;rcases cmp hb with⟨rfl,h⟩|⟨rfl,h⟩
 ·have aS:n<l.length:=by omega
  refine⟨pI l[n],⟨aa,?_⟩,?_⟩
  ·show(l.map pI)[n]?=some (pI l[n]);simp[aS]
  refine λb hb=>?_
  rcases cmp hb with⟨rfl,h⟩|⟨rfl,h⟩
  ·refine⟨.pv (pI _),fH ?_,trivial,hK⟩;rw[lL l n h0,zcn aS];simp[bF,h]
  ·refine λx hx=>?_
   replace hx:=n64 hx aa;subst hx;refine⟨m-1,aa,n+1,⟨aa,λj hj=>?_⟩,rfl,rfl⟩;by_cases hjn:j<n
   ·exact h0 j hjn
   ·have:j=n:=by omega
    subst this;rw[zak aS];simpa using h
 ·refine⟨.pv (pI _),fH ?_,trivial,hK⟩;rw[lL l n h0,zcd aa];rfl
def DB:ay (ax []) Bc Bx Bd (ah eM):=gx
def xS:ay (ax []) tR tF tw (ah eM):=gx
def Cb:ay (ax []) yJ zB yi (ah eM):=gx
def db(ps:List PV)(x:PV):Prop:=∃(ok:Bool) (e:Int),ps=[pB ok,pI e]/\x=pI (if ok=true then 0 else e)
def ej:ay (ax []) rS rj sf (ah db):=by
 rintro _ K ⟨_,⟨ok,e,rfl,rfl⟩,hK⟩;cases ok with
 |true=>exact aB
 |false=>exact aB
def B8:ay (ax []) ym y8 yo (ah db):=ej
def D8:ay (ax []) BW Bk BV (ah db):=ej
def vX:ay (ax []) sr rG sE (ah db):=ej
def AZ:ay (ax []) wS wZ xb (ah db):=ej
def ed(ps:List PV)(p:Prop):Prop:=∃n lo hi:Int,ps=[pI n,pI lo,pI hi]/\p=(lo<=n/\n<=hi)
def fS:ay (ax []) sn si q9 (eX ed):=by
 rintro _ K ⟨_,⟨n,lo,hi,rfl,rfl⟩,hK⟩
 (repeat'((conv=>whnf);first|refine cA (λ_=>?_) (λ_=>?_)|fail))<;>try(conv=>whnf)
 all_goals exact Kd
def Dw:ay (ax []) BP Bo BL (eX ed):=by
 rintro _ K ⟨_,⟨n,lo,hi,rfl,rfl⟩,hK⟩
 (repeat'((conv=>whnf);first|refine cA (λ_=>?_) (λ_=>?_)|fail))<;>try(conv=>whnf)
 all_goals exact Kd
def Dp:ay (ax []) Bs BI Bq (eX ed):=fS
def wD:ay (ax []) rz rh rI (eX ed):=fS
def AL:ay (ax []) wX xC wT (eX ed):=fS
def y6(ps:List PV)(p:Prop):Prop:=∃r:Rn,ps=[r.pv]/\p=(r.s= -1)
def N_:ay (ax []) BF Bg BD (eX y6):=by
 rintro _ K ⟨_,⟨r,rfl,rfl⟩,hK⟩
 (repeat'((conv=>whnf);first|refine cA (λ_=>?_) (λ_=>?_)|fail))<;>try(conv=>whnf)
 all_goals exact Kd
def oT(r:Rn):Prop:=if r.s= -1 then 1<=r.n/\r.n<=4096 else(0<=r.s/\r.s<=511)/\1<=r.n/\r.n<=512-r.s
instance (r:Rn):Decidable (oT r):=by unfold oT;infer_instance
def Kb(ps:List PV)(x:PV):Prop:=∃r:Rn,ps=[r.pv]/\x=pI (if oT r then 0 else 2)
def Jt:ay (ax [(187,eX y6),(188,eX ed),(142,ah db)]) xd wV xA (ah Kb):=by
 rintro _ K ⟨_,⟨r,rfl,rfl⟩,hK⟩;unfold oT at hK
 (repeat'(refine uR ?_;first|refine dJ aa ?_|refine dY ?_|refine gj ?_|refine cA (λ_=>?_) (λ_=>?_)|refine⟨_,⟨_,rfl,rfl⟩,?_⟩|refine⟨_,⟨_,_,rfl,rfl⟩,?_⟩|refine⟨_,⟨_,_,_,rfl,rfl⟩,?_⟩|fail))<;>try(conv=>whnf)
 all_goals(refine⟨.pv (pI _),fH ?_,trivial,hK⟩;simp[*])
def zy(a b:Rn):Prop:=(a.s= -1↔b.s= -1)/\(a.s= -1\/a.s+a.n=b.s)
instance (a b:Rn):Decidable (zy a b):=by unfold zy;infer_instance
def rnB(r:Rn):Prop:= -1000000000000<=r.s/\r.s<=1000000000000/\ -1000000000000<=r.n/\r.n<=1000000000000
def oT.b{r:Rn}(h:oT r):rnB r:=by unfold oT at h;unfold rnB;split at h<;>omega
def UG(ps:List PV)(p:Prop):Prop:=∃a b:Rn,ps=[a.pv,b.pv]/\(rnB a/\rnB b)/\p=zy a b
def Rm:ay (ax [(187,eX y6)]) Ew Ek Ey (eX UG):=by
 rintro _ K ⟨_,⟨a,b,rfl,⟨ha,hb⟩,rfl⟩,hK⟩;unfold zy at hK;unfold rnB at ha hb
 (repeat'(refine uR ?_;first|refine dJ aa ?_|refine dY ?_|refine gj ?_|refine ai aa ?_|refine ar aa ?_|refine ai af ?_|refine ar af ?_|refine cA (λ_=>?_) (λ_=>?_)|refine cw ?_|refine⟨_,⟨_,rfl,rfl⟩,?_⟩|fail))<;>try(conv=>whnf)
 all_goals exact mi
def Rn.has(r:Rn)(c:Nat):Bool:=decide (r.s≠ -1/\r.s<=c/\(c:Int)<r.s+r.n)
abbrev Qo(L:List Bool):cu:=.row 180 1 false (L.map PV.bool)
structure XB(L:List Bool)(f:Nat->Bool):Prop where
 len:L.length=512
 get:∀c,c<512->L[c]?=some (f c)
def XB.set{L:List Bool}{f:Nat->Bool}(h:XB L f)(i:Nat):XB (L.set i true) (λc=>f c||decide (c=i)):=by
 refine⟨by simp[h.len],λc hc=>?_⟩;by_cases e:i=c
 ·subst e;simp[h.len,hc]
 ·rw[List.getElem?_set_ne e,h.get c hc];simp[Ne.symm e]
def XB.congr{L:List Bool}{f g:Nat->Bool}(h:XB L f)(e:∀c,c<512->f c=g c):XB L g:=⟨h.len,λc hc=>(e c hc)▸h.get c hc⟩
def aaA(xs:List AV)(σ:aw)(K:AV->aw->Prop):Prop:=∃(r:Rn) (f:Nat->Bool) (L:List Bool),xs=[.ref 0 0 0,.pv r.pv]/\(oT r/\XB L f)/\σ=[Qo L]∧∀(ok:Bool) (L':List Bool),(ok=true↔∀c,c<512->r.has c=true->f c=false)->XB L' (λc=>f c||r.has c)->K (.pv (pB ok)) [Qo L']
def Rn.CV(r:Rn)(n:Nat)(c:Nat):Bool:=decide (r.s<=c/\(c:Int)<r.s+n)
def Tz:ki (ax [(187,eX y6)]) uF uC vh (x3 aaA):=by
 rintro _ _ K ⟨r,f,L,rfl,⟨hr,hL⟩,rfl,hK⟩;unfold oT at hr
 (repeat'(refine uR ?_;first|refine cA (λ_=>?_) (λ_=>?_)|refine⟨_,⟨_,rfl,rfl⟩,?_⟩|fail))<;>try(conv=>whnf)
 ·exact hK true L (by simp[Rn.has, *]) (hL.congr λc _=>by simp[Rn.has, *])
 ·rename_i hs;rw[if_neg hs]at hr;refine⟨λm env σ=>∃(n:Nat) (ok:Bool) (L:List Bool),(n+m=r.n.toNat/\(ok=true↔∀c,c<512->r.CV n c=true->f c=false)/\XB L (λc=>f c||r.CV n c))/\σ=[Qo L,.box 123 [.pv (pI r.s),.pv (pI r.n)]]/\env=[(0,.ref 0 0 0),(3,.ref 1 0 0),(5,.pv (pB ok)),eN 6 (r.s+n)],r.n.toNat,⟨0,true,L,⟨aa,by simp[Rn.CV];omega,hL.congr λc _=>by simp[Rn.CV];omega⟩,rfl,ae⟩,?_⟩;rintro m env σ ⟨n,ok,L,⟨hn,ep,hL⟩,rfl,rfl⟩;have hgo:∀c,r.CV (n+1) c=(r.CV n c||decide (c=(r.s+n).toNat)):=λc=>by
   unfold Rn.CV;rw[zaM];simp;omega
  have Hm:XB (L.set (r.s+n).toNat true) (λc=>f c||r.CV (n+1) c):=(hL.set (r.s+n).toNat).congr λc _=>by rw[hgo c,Bool.or_assoc]
  have aDd:r.CV n (r.s+n).toNat=false:=by unfold Rn.CV;simp;omega
  have xY:n<r.n.toNat->L[(r.s+n).toNat]?=some (f (r.s+n).toNat):=λh=>by rw[hL.get _ aa,aDd,Bool.or_false]
  have e:r.s+((n+1:Nat):Int)=r.s+(n:Int)+1:=aa;have pK:n<r.n.toNat->((∀c,c<512->r.CV (n+1) c=true->f c=false)↔(∀c,c<512->r.CV n c=true->f c=false)/\f (r.s+n).toNat=false):=λh=>by
   constructor
   ·intro h1;exact⟨λc hc hh=>h1 c hc (by rw[hgo,hh];rfl),h1 _ aa (by rw[hgo];simp)⟩
   ·rintro⟨h1,h2⟩ c hc hh;rw[hgo,Bool.or_eq_true,decide_eq_true_iff]at hh;rcases hh with hh|hh
    ·exact h1 c hc hh
    ·rw[hh];exact h2
  have vU:¬n<r.n.toNat→∀c,r.CV n c=r.has c:=λh c=>by unfold Rn.CV Rn.has;rw[zaM];simp;omega
  cases ok
  ·(repeat'((conv=>whnf);first|refine zco ⟨by rw[zan];exact hL.len,aa,aa⟩ ?_|refine avH (xY aa) ?_|refine dJ aa ?_|refine cA (λ_=>?_) (λ_=>?_)|refine cw ?_|fail))<;>try(conv=>whnf)
   ·refine⟨m-1,aa,n+1,false,_,⟨aa,?_,Hm⟩,congrArg (λx=>[cu.row 180 1 false x,_]) jL,by rw[e]⟩;rw[pK aa,<-ep];simp
   ·refine hK false L (by simpa only[vU aa]using ep) (hL.congr λc _=>by rw[vU aa])
  ·(repeat'((conv=>whnf);first|refine zco ⟨by rw[zan];exact hL.len,aa,aa⟩ ?_|refine avH (xY aa) ?_|refine dJ aa ?_|refine cA (λ_=>?_) (λ_=>?_)|refine cw ?_|fail))<;>try(conv=>whnf)
   ·rename_i hf;refine⟨m-1,aa,n+1,true,_,⟨aa,?_,Hm⟩,congrArg (λx=>[cu.row 180 1 false x,_]) jL,by rw[e]⟩;rw[pK aa,<-ep];simp[hf]
   ·rename_i hf;refine⟨m-1,aa,n+1,false,_,⟨aa,?_,Hm⟩,congrArg (λx=>[cu.row 180 1 false x,_]) jL,by rw[e]⟩;rw[pK aa,<-ep];simpa using hf
   ·refine hK true L (by simpa only[vU aa]using ep) (hL.congr λc _=>by rw[vU aa])
def fI(l:List Rn):Int:=(l.map λr=>r.n).sum
def Yd(l m:List Rn):fI (l++m)=fI l+fI m:=by simp[fI]
def Mt{l:List Rn}{i:Nat}{r:Rn}(h:l[i]?=some r):fI (l.take (i+1))=fI (l.take i)+r.n:=by
 rw[zct,h,Yd];simp[fI]
def rnS(l:List Rn):Prop:=l.length<=1000∧∀r∈l,-1000000000000<=r.n/\r.n<=1000000000000
def rnS.sum{l:List Rn}(h:rnS l):∀i,i<=l.length-> -1000000000000*i<=fI (l.take i)/\fI (l.take i)<=1000000000000*i:=by
 intro i
 induction i with
 |zero=>intro _;simp[fI]
 |succ i ih=>
  intro hi;have hx:=zak (show i<l.length by omega);rw[Mt hx];have h1:=ih aa;have h2:=h.2 _ (zcI (show i<l.length by omega));omega
def vO(ps:List PV)(x:PV):Prop:=∃s:Rs,ps=[x4 s]/\rnS s.l/\x=pI (fI s.l)
def N7:ay (ax []) Bu BJ BT (ah vO):=by
 rintro _ K ⟨_,⟨s,rfl,hs,rfl⟩,hK⟩
 (repeat'((conv=>whnf);first|refine jH ?_|refine gF λ_=>?_|fail))<;>try(conv=>whnf)
 refine⟨λm env σ=>∃(n:Nat),n+m=s.l.length/\σ=[]/\env=[eN 3 (fI (s.l.take n)),(6,.pv (x4 s)),eN 7 s.l.length,eN 8 n],s.l.length,⟨0,aa,rfl,rfl⟩,?_⟩;rintro m env σ ⟨n,hn,rfl,rfl⟩;have hb:=hs.sum n aa;have hl:=hs.1
 (repeat'((conv=>whnf);first|(refine IXA aa (λx hx=>?_);have:=hs.2 x (zad hx))|refine dJ aa ?_|refine cA (λ_=>?_) (λ_=>?_)|refine cw ?_|fail))<;>try(conv=>whnf)
 ·exact D_
 ·rw[za1 aa];exact aB
def dc(f:Nat->Int):Nat->Nat->Int×Int
 |_,0=>(0,0)
 |i,n+1=>if f i=0 then dc f (i+1) n else((i:Int),f i)
def P2{f:Nat->Int}{i n:Nat}(h:f i≠0):dc f i (n+1)=((i:Int),f i):=if_neg h
def Xb{f:Nat->Int}{i n:Nat}(h:f i=0):dc f i (n+1)=dc f (i+1) n:=if_pos h
def Gp{f:Nat->Int}{i n:Nat}(h:∀j,j<i->f j=0):∀k,k<=i->i<=n->dc f k (n-k)=dc f i (n-i):=by
 intro k
 induction hd:i-k generalizing k with
 |zero=>intro h1 _;have:k=i:=by omega
        subst this;rfl
 |succ d ih=>
  intro h1 h2;rw[<-ih (k+1) aa aa h2,show n-k=(n-(k+1))+1 by omega,Xb (h k aa)]
def nI{f:Nat->Int}{i n:Nat}(h:∀j,j<i->f j=0)(hi:i<n)(hf:f i≠0):dc f 0 n=((i:Int),f i):=by
 have:=Gp (n:=n) h 0 aa aa;rw[Nat.sub_zero]at this;rw[this,show n-i=(n-i-1)+1 by omega,P2 hf]
def eD{f:Nat->Int}{n:Nat}(h:∀j,j<n->f j=0):dc f 0 n=(0,0):=by
 have:=Gp (n:=n) h 0 aa (zaj _);rw[Nat.sub_zero,Nat.sub_self]at this;rw[this];rfl
def nJ{f:Nat->Int}{n:Nat}(h:(dc f 0 n).2=0):∀j,j<n->f j=0:=by
 intro j hj;refine Classical.byContradiction λqY=>?_
 have:∀i k,(∃j,i<=j/\j<i+k/\f j≠0)->(dc f i k).2≠0:=by
  intro i k
  induction k generalizing i with
  |zero=>rintro⟨j,h1,h2,_⟩;omega
  |succ k ih=>
   rintro⟨j,h1,h2,h3⟩;unfold dc;split
   ·rename_i h0;refine ih (i+1) ⟨j,?_,aa,h3⟩;rcases zcp h1 with h4|h4
    ·omega
    ·subst h4;exact absurd h0 h3
   ·assumption
 exact this 0 n ⟨j,aa,aa,qY⟩ h
def tG(a b:Rn):Prop:=a.s≠ -1/\b.s≠ -1/\a.s<b.s+b.n/\b.s<a.s+a.n
instance (a b:Rn):Decidable (tG a b):=by unfold tG;infer_instance
def Pa(l:List Rn)(i:Nat):Int:=match l[i]? with
 |none=>0
 |some r=>if ¬oT r then 2 else if 0<i/\(∃p,l[i-1]?=some p/\zy p r)then 3 else if ∃k,k<i∧∃p,l[k]?=some p/\tG p r then 23 else 0
def IS{l:List Rn}{i:Nat}{r:Rn}(h:l[i]?=some r)(h0:Pa l i=0):oT r:=by
 unfold Pa at h0;rw[h]at h0;refine Classical.byContradiction λhr=>?_
 simp[hr]at h0
def dD(l:List Rn):Int×Int:=if 64<l.length then(0,8)else if (dc (Pa l) 0 l.length).2≠0 then dc (Pa l) 0 l.length else(0,if fI l<=4096 then 0 else 8)
def jY(l:List Rn):Int:=(dD l).2
def SS{l:List Rn}(hl:l.length<=1000)(h:∀j,j<l.length->Pa l j=0):rnS l:=by
 refine⟨hl,λr hr=>?_⟩;obtain⟨i,hi⟩:=ee.1 hr;have:=(IS hi (h i (aZ hi))).b;unfold rnB at this;omega
def XR{l:List Rn}{n:Nat}{x p:Rn}(hx:l[n]?=some x)(h:oT x)(hn:0<n)(hp:l[n-1]?=some p)(hj:zy p x):Pa l n=3:=by
 unfold Pa;rw[hx];simp only[h,not_true_eq_false,if_false];rw[if_pos ⟨hn,p,hp,hj⟩]
def Vk{l:List Rn}{n:Nat}{x:Rn}(hx:l[n]?=some x)(h:oT x)(hj:∀p,0<n->l[n-1]?=some p→¬zy p x)(hd:∃k,k<n∧∃p,l[k]?=some p/\tG p x):Pa l n=23:=by
 unfold Pa;rw[hx];simp only[h,not_true_eq_false,if_false];rw[if_neg (by rintro⟨h1,p,h2,h3⟩;exact hj p h1 h2 h3),if_pos hd]
def Pz{l:List Rn}{n:Nat}{x:Rn}(hx:l[n]?=some x)(h:oT x)(hj:∀p,0<n->l[n-1]?=some p→¬zy p x)(hd:¬ ∃k,k<n∧∃p,l[k]?=some p/\tG p x):Pa l n=0:=by
 unfold Pa;rw[hx];simp only[h,not_true_eq_false,if_false];rw[if_neg (by rintro⟨h1,p,h2,h3⟩;exact hj p h1 h2 h3),if_neg hd]
def I9{p q:Rn}(hp:oT p)(hq:oT q):tG p q↔∃c:Nat,c<512/\p.has c=true/\q.has c=true:=by
 unfold oT at hp hq;unfold tG Rn.has;simp only[decide_eq_true_iff];constructor
 ·rintro⟨h1,h2,h3,h4⟩;rw[if_neg h1]at hp;rw[if_neg h2]at hq;exact⟨(max p.s q.s).toNat,aa,⟨h1,aa,aa⟩,⟨h2,aa,aa⟩⟩
 ·rintro⟨c,_,⟨h1,h2,h3⟩,⟨h4,h5,h6⟩⟩;exact⟨h1,h4,aa,aa⟩
def U1(ps:List PV)(r:RV):Prop:=∃s:Rs,ps=[x4 s]/\r=.tup [.pv (pI (dD s.l).1),.pv (pI (dD s.l).2)]
def abu{l:List Rn}(h:64<l.length):dD l=(0,8):=by unfold dD;rw[if_pos h]
def OR{l:List Rn}{n:Nat}{e:Int}(hl:l.length<=64)(h0:∀k,k<n->Pa l k=0)(aS:n<l.length)(he:Pa l n=e)(qY:e≠0):dD l=((n:Int),e):=by
 unfold dD;rw[if_neg aa,nI h0 aS (by rw[he];exact qY),he,if_pos qY]
def UW{l:List Rn}(hl:l.length<=64)(h0:∀k,k<l.length->Pa l k=0):dD l=(0,if fI l<=4096 then 0 else 8):=by
 unfold dD;rw[if_neg aa,eD h0,if_neg ae]
def IM:ay (ax []) yu zo yX (ah vO):=by
 rintro _ K ⟨_,⟨s,rfl,hs,rfl⟩,hK⟩;have hl:=hs.1
 (conv=>whnf)
 refine⟨λm env σ=>∃(n:Nat),n+m=s.l.length/\σ=[]/\env=[(0,.pv (x4 s)),eN 3 (fI (s.l.take n)),eN 4 n],s.l.length,⟨0,aa,rfl,rfl⟩,?_⟩;rintro m env σ ⟨n,hn,rfl,rfl⟩;have hb:=hs.sum n aa
 (repeat'((conv=>whnf);first|refine jH ?_|(refine IXA aa (λx hx=>?_);have:=hs.2 x (zad hx))|refine dJ aa ?_|refine cA (λ_=>?_) (λ_=>?_)|refine gF λ_=>?_|fail))<;>try(conv=>whnf)
 ·exact D_
 ·rw[za1 aa];exact aB
def zH(l:List Rn)(n c:Nat):Bool:=(l.take n).any λr=>r.has c
def FV{l:List Rn}{n c:Nat}{x:Rn}(h:l[n]?=some x):zH l (n+1) c=(zH l n c||x.has c):=by
 unfold zH;rw[zct,h];simp
def Ab{l:List Rn}{n:Nat}{x:Rn}(h0:∀k,k<n->Pa l k=0)(hx:oT x):(∃k,k<n∧∃p,l[k]?=some p/\tG p x)↔¬ ∀c,c<512->x.has c=true->zH l n c=false:=by
 constructor
 ·rintro⟨k,hk,p,hp,hs⟩ h;obtain⟨c,h1,h2,h3⟩:=(I9 (IS hp (h0 k hk)) hx).1 hs;have h4:=h c h1 h3;unfold zH at h4;rw[zcG]at h4;exact h4 p (zad (by rw[zcu hk];exact hp)) h2
 ·intro h;refine Classical.byContradiction λhn=>h λc hc hh=>?_
  unfold zH;rw[zcG];intro p hp hpc;obtain⟨k,hk⟩:=ee.1 hp;have Xz:k<n:=by have:=aZ hk;simp at this;omega
  rw[zcu Xz]at hk;exact hn ⟨k,Xz,p,hk,(I9 (IS hk (h0 k Xz)) hx).2 ⟨c,hc,hpc,hh⟩⟩
def aBV(l:List Rn):XB (List.replicate 512 false) (zH l 0):=⟨zaq,λc hc=>by rw[List.getElem?_replicate,if_pos hc];rfl⟩
def GH:ay (ax [(139,ah Kb),(140,eX UG),(141,x3 aaA),(143,ah vO),(142,ah db)]) ve vw vk (gR true U1):=by
 rintro _ K ⟨_,⟨s,rfl,rfl⟩,hK⟩
 (repeat'((conv=>whnf);first|refine jH ?_|refine cA (λ_=>?_) (λ_=>?_)|refine gF λ_=>?_|fail))<;>try(conv=>whnf)
 ·rename_i h;rw[abu aa]at hK;exact aO
 rename_i h;refine⟨λm env σ=>∃(n:Nat) (L:List Bool),(n+m=s.l.length/\(∀k,k<n->Pa s.l k=0)/\XB L (zH s.l n))/\σ=[Qo L]/\env=[(0,.pv (x4 s)),(4,.ref 0 0 0),(11,.pv (x4 s)),eN 12 s.l.length,eN 13 n],s.l.length,⟨0,List.replicate 512 false,⟨aa,λk hk=>aa,aBV _⟩,by unfold Qo;rw[zcx],rfl⟩,?_⟩;rintro m env σ ⟨n,L,⟨hn,h0,hL⟩,rfl,rfl⟩;by_cases aS:n<s.l.length
 ·obtain⟨x,hx⟩:∃x,s.l[n]?=some x:=⟨_,zak aS⟩
  by_cases vW:oT x
  case neg=>
   have hv:dD s.l=((n:Int),2):=OR aa h0 aS (by unfold Pa;rw[hx];simp[vW]) af;rw[hv]at hK
   (repeat'((conv=>whnf);first|refine dI hx ?_|refine⟨_,⟨x,rfl,rfl⟩,?_⟩|refine ai (by rw[if_neg vW];decide) ?_|refine ai aa ?_|refine cw ?_|fail))<;>try(conv=>whnf)
   rw[if_neg vW];exact aO
  by_cases KX:0<n
  ·obtain⟨p,hp⟩:∃p,s.l[n-1]?=some p:=⟨_,zak aa⟩
   (repeat'((conv=>whnf);first|refine dI hx ?_|refine Xf (x:=p) aa uL ?_|refine⟨_,⟨x,rfl,rfl⟩,?_⟩|refine ar (λh=>h (if_pos vW)) ?_|refine⟨_,⟨p,x,rfl,⟨(IS hp (h0 _ aa)).b,vW.b⟩,rfl⟩,?_⟩|refine⟨x,_,L,rfl,⟨vW,hL⟩,rfl,λok L' ep hL'=>?_⟩|refine dJ aa ?_|refine ai aa ?_|refine cA (λ_=>?_) (λ_=>?_)|refine cw ?_|fail))<;>try(conv=>whnf)
   ·rename_i hj;have hv:dD s.l=((n:Int),3):=OR aa h0 aS (XR hx vW KX hp hj) af;rw[hv]at hK;exact aO
   ·rename_i hj hd;have hv:dD s.l=((n:Int),23):=OR aa h0 aS (Vk hx vW (λq _ hq=>by rw[hp]at hq;cases hq;exact hj) ((Ab h0 vW).2 λh=>by rw[ep.2 h]at hd;cases hd)) af;rw[hv]at hK;exact aO
   ·rename_i hj hd;have hz:=Pz hx vW (λq _ hq=>by rw[hp]at hq;cases hq;exact hj) (λh=>(Ab h0 vW).1 h (ep.1 (by simpa using hd)));exact⟨m-1,aa,n+1,L',⟨aa,λk hk=>by
     rcases zcp (zcr hk)with h1|h1
     ·exact h0 k h1
     ·rw[h1];exact hz,hL'.congr λc _=>(FV hx).symm⟩,rfl,rfl⟩
  ·(repeat'((conv=>whnf);first|refine dI hx ?_|refine⟨_,⟨x,rfl,rfl⟩,?_⟩|refine ar (λh=>h (if_pos vW)) ?_|refine⟨x,_,L,rfl,⟨vW,hL⟩,rfl,λok L' ep hL'=>?_⟩|refine dJ aa ?_|refine ai aa ?_|refine ar aa ?_|refine cA (λ_=>?_) (λ_=>?_)|refine cw ?_|fail))<;>try(conv=>whnf)
   ·rename_i hd;have hv:dD s.l=((n:Int),23):=OR aa h0 aS (Vk hx vW (λq h _=>absurd h KX) ((Ab h0 vW).2 λh=>by rw[ep.2 h]at hd;cases hd)) af;rw[hv]at hK;exact aO
   ·rename_i hd;have hz:=Pz hx vW (λq h _=>absurd h KX) (λh=>(Ab h0 vW).1 h (ep.1 (by simpa using hd)));exact⟨m-1,aa,n+1,L',⟨aa,λk hk=>by
     rcases zcp (zcr hk)with h1|h1
     ·exact h0 k h1
     ·rw[h1];exact hz,hL'.congr λc _=>(FV hx).symm⟩,rfl,rfl⟩
 ·(repeat'((conv=>whnf);first|refine⟨_,⟨s,rfl,SS aa (λj hj=>h0 j aa),rfl⟩,?_⟩|(refine ko ?_;first|refine ar aa ?_|refine cA (λ_=>?_) (λ_=>?_)|refine⟨_,⟨_,_,rfl,rfl⟩,?_⟩|fail)))<;>try(conv=>whnf)
  ·rename_i hs;rw[UW aa (λk hk=>h0 k aa),if_pos aa]at hK;exact aO
  ·rename_i hs;rw[UW aa (λk hk=>h0 k aa),if_neg aa]at hK;exact aO
def Cu(ps:List PV)(x:PV):Prop:=∃n m:Int,ps=[pI n,pI m]/\(0<m/\m<=4611686018427387904)/\x=pI (n%m)
def Ik:ay (ax []) KJ IH KN (ah Cu):=by
 rintro _ K ⟨_,⟨n,m,rfl,⟨h1,h2⟩,rfl⟩,hK⟩;refine⟨aa,?_⟩;refine λx hx=>?_
 have s8:x=if 0<=n\/n%m=0 then n%m else n%m-m:=by
  rw[hx,zcJ];have hd:(m ∣ n)↔n%m=0:=⟨λh=>zcz h,λh=>zcA h⟩
  have:(m.natAbs:Int)=m:=aa;split
  ·rename_i h;rw[hd]at h;rw[if_pos h];omega
  ·rename_i h;rw[hd]at h;rw[if_neg h];omega
 have hm1:=zcL n (show m≠0 by omega);have hm2:=zcF n h1;clear hx;generalize n%m=q at*;refine λb hb=>?_
 rcases cmp hb with⟨rfl,h⟩|⟨rfl,h⟩
 ·refine λy hy=>?_
  replace hy:=n64 hy (by split at s8<;>omega);refine⟨.pv (pI _),fH ?_,trivial,hK⟩;split at s8<;>omega
 ·refine⟨.pv (pI _),fH ?_,trivial,hK⟩;split at s8<;>omega
def Vq(ps:List PV)(x:PV):Prop:=∃n m:Int,ps=[pI n,pI m]/\(0<m/\m<=1000000/\ -4611686018427387904<=n/\n<=4611686018427387904)/\x=pI (n/m)
def RE:ay (ax []) DR EF EB (ah Vq):=by
 rintro _ K ⟨_,⟨n,m,rfl,⟨h1,h2,h3,h4⟩,rfl⟩,hK⟩;have hd:n.tdiv m=if 0<=n\/m ∣ n then n/m else n/m+1:=by
  rw[Int.tdiv_eq_ediv];have:m.sign=1:=Int.sign_eq_one_of_pos h1;rw[this];split<;>omega
 have hr:n.tmod m=if 0<=n\/m ∣ n then n%m else n%m-m:=by
  rw[zcJ];have:(m.natAbs:Int)=m:=aa;split<;>omega
 have hm1:=zcL n (show m≠0 by omega);have hm2:=zcF n h1;have hdv:(m ∣ n)↔n%m=0:=⟨λh=>zcz h,λh=>zcA h⟩
 have vT: -4611686018427387904<=n/m:=by
  rw[zcC h1];have: -4611686018427387904*m<= -4611686018427387904*1:=zcw aa aa;omega
 have mN:n/m<=4611686018427387904:=by
  by_cases hn:0<=n
  ·have:=zcK m hn;omega
  ·have:=zcy (show n<0 by omega) h1;omega
 refine⟨aa,?_⟩;refine λx hx=>?_
 rw[hd]at hx;have hx:=n64 hx (by split<;>omega);rw[hx];refine⟨aa,?_⟩;refine λy hy=>?_
 rw[hr]at hy;rw[hy];refine λb hb=>?_
 rcases cmp hb with⟨rfl,h⟩|⟨rfl,h⟩
 ·refine λz hz=>?_
  have hz:=n64 hz (by split<;>omega);rw[hz];refine⟨.pv (pI _),fH ?_,trivial,hK⟩;split at h
  ·omega
  ·rename_i hc;rw[if_neg hc];omega
 ·refine⟨.pv (pI _),fH ?_,trivial,hK⟩;split at h
  ·rename_i hc;rw[if_pos hc]
  ·omega
def YV(n m:Int):Int:=0-(0-n)/m
def NG(ps:List PV)(x:PV):Prop:=∃n m:Int,ps=[pI n,pI m]/\(0<m/\m<=1000000/\ -1000000000000<=n/\n<=1000000000000)/\x=pI (YV n m)
def amK{n m:Int}(h:0<m)(hn: -1000000000000<=n/\n<=1000000000000): -1000000000000<=n/m/\n/m<=1000000000000:=by
 have vT: -1000000000000<=n/m:=by
  rw[zcC h];have: -1000000000000*m<= -1000000000000*1:=zcw aa aa;omega
 have mN:n/m<=1000000000000:=by
  by_cases hn:0<=n
  ·have:=zcK m hn;omega
  ·have:=zcy (show n<0 by omega) h;omega
 exact⟨vT,mN⟩
def SV:ay (ax [(147,ah Vq)]) Gb FZ Gd (ah NG):=by
 rintro _ K ⟨_,⟨n,m,rfl,⟨h1,h2,h3,h4⟩,rfl⟩,hK⟩;have hb:=amK (n:=0-n) h1 aa
 (repeat'(refine uR ?_;first|refine dJ aa ?_|refine⟨_,⟨_,_,rfl,zE,rfl⟩,?_⟩|fail))<;>try(conv=>whnf)
 exact aB
def ae2(ps:List PV)(x:PV):Prop:=∃b:Bool,ps=[pB b]/\x=pI (if b=true then 1 else 0)
def Wd:ay (ax []) Kt Ip J2 (ah ae2):=by
 rintro _ K ⟨_,⟨b,rfl,rfl⟩,hK⟩;cases b
 ·exact aB
 ·exact aB
def ae1(ps:List PV)(p:Prop):Prop:=∃(l:List Int) (n:Int),ps=[.sl 1 (l.map pI),pI n]/\l.length<=1000000/\p=(n∈l)
def WA:ay (ax []) Je Ic JX (eX ae1):=by
 rintro _ K ⟨_,⟨l,x,rfl,hl,rfl⟩,hK⟩
 (conv=>whnf)
 refine⟨λm env σ=>∃(n:Nat),(n+m=l.length∧∀k,k<n->l[k]?≠some x)/\σ=[]/\env=[(0,.pv (.sl 1 (l.map pI))),eN 1 x,eN 5 n],l.length,⟨0,⟨aa,λk hk=>aa⟩,rfl,rfl⟩,?_⟩;rintro m env σ ⟨n,⟨hn,h0⟩,rfl,rfl⟩
 (repeat'((conv=>whnf);first|refine dJ aa ?_|refine cA (λ_=>?_) (λ_=>?_)|refine gF λ_=>?_|refine aBZ aa (λ_ _=>?_)|fail))<;>try(conv=>whnf)
 ·rename_i y hy he;exact⟨.pv (.bool _),rfl,trivial,hK true (by simp only[true_iff];exact he▸zad hy)⟩
 ·rename_i y hy he;exact⟨m-1,aa,n+1,⟨aa,λk hk hq=>by
   rcases zcp (zcr hk)with h1|h1
   ·exact h0 k h1 hq
   ·subst h1;rw[hy]at hq;cases hq;exact he rfl⟩,rfl,rfl⟩
 ·refine⟨.pv (.bool _),rfl,trivial,hK false ?_⟩;simp only[zaG,false_iff];intro hx;obtain⟨k,hk⟩:=ee.1 hx;exact h0 k oA hk
def aq(n:Int):Nat->List UInt8
 |0=>[]
 |k+1=>CJ (n%256).toNat::aq (n/256) k
def dn(k:Nat):∀n,(aq n k).length=k:=by
 induction k with
 |zero=>intro n;rfl
 |succ k ih=>intro n;simp[aq,ih]
def Ka(k:Nat):∀n,aq n (k+1)=aq n k++[CJ (n/256^k%256).toNat]:=by
 induction k with
 |zero=>intro n;simp[aq]
 |succ k ih=>
  intro n;rw[aq,ih (n/256),aq,zcq af];simp[zcv,Int.mul_comm]
def u8P(n:Int):PV.int .u8 (n%256)=aR (CJ (n%256).toNat):=aar aa
def zL(ps:List PV)(x:PV):Prop:=∃(n:Int) (k:Nat),ps=[pI n,pI k]/\(0<=n/\n<=9223372036854775807/\k<=1000)/\x=.str (aq n k)
def OF:ay (ax []) Be BN BH (ah zL):=by
 rintro _ K ⟨_,⟨n,k,rfl,⟨h1,h2,h3⟩,rfl⟩,hK⟩
 (conv=>whnf)
 refine⟨λm env σ=>∃(i:Nat) (q:Int),(i+m=k/\q=n/256^i/\0<=q/\q<=n)/\σ=[.row 5 1 true ((aq n i).map aR)]/\env=[eN 0 q,eN 1 k,(5,.own 0),eN 6 i],k,⟨0,n,⟨aa,ae,aa,aa⟩,rfl,rfl⟩,?_⟩;rintro m env σ ⟨i,q,⟨hi,hq,hq0,hqn⟩,rfl,rfl⟩;have hll:=dn i n
 (repeat'((conv=>whnf);first|refine dJ aa ?_|refine cA (λ_=>?_) (λ_=>?_)|refine QUO aa ?_|refine REM aa ?_|refine U8 aa ?_|refine BTS ?_|refine cw ?_|refine zco jD ?_|fail))<;>try(conv=>whnf)
 ·refine⟨m-1,aa,i+1,q/256,⟨aa,?_,aa,aa⟩,?_,rfl⟩
  ·rw[hq,zcq (zcD af),zcv]
  ·rw[Ka,zaD,<-hq];exact congrArg (λx=>[cu.row 5 1 true (_++[x])]) (u8P q)
 ·have:i=k:=by omega
  subst this;exact im
def xU(B:List UInt8)(at_:Nat)(bs:List UInt8):List UInt8:=B.take at_++bs++B.drop (at_+bs.length)
def ZM{B bs:List UInt8}{at_:Nat}(h:at_+bs.length<=B.length):(xU B at_ bs).length=B.length:=by unfold xU;simp;omega
def Pq(B:List UInt8)(at_:Nat):xU B at_ []=B:=by unfold xU;simp
def W_{B bs:List UInt8}{at_:Nat}{b:UInt8}(h:at_+bs.length<B.length):(xU B at_ bs).set (at_+bs.length) b=xU B at_ (bs++[b]):=by
 unfold xU;rw[List.set_append_right _ _ aT];have e:at_+bs.length-(B.take at_++bs).length=0:=aT;rw[e,zcn h,List.set_cons_zero];simp[Nat.add_assoc]
def aze{n:Int}{K:Int->Prop}(k:K (n/256)):0<=(8:Int)∧∀r:Int,r=n.fdiv (2^min (8:Int).toNat IntKind.i64.bits)->K r:=by
 refine⟨af,λr hr=>?_⟩;have e8:min (8:Int).toNat IntKind.i64.bits=8:=af;rw[e8,Int.fdiv_eq_ediv_of_nonneg _ af]at hr;rw[hr];exact k
def ae4(xs:List AV)(σ:aw)(K:AV->aw->Prop):Prop:=∃(B:List UInt8) (at_ k:Nat) (n:Int),xs=[.own 0,.pv (pI at_),.pv (pI k),.pv (pI n)]/\(at_+k<=B.length/\B.length<=1000000)/\σ=[.row 5 1 true (B.map aR)]/\K (.tup []) [.row 5 1 true ((xU B at_ (aq n k)).map aR)]
def MQ:ki (ax []) pq pn pA (x3 ae4):=by
 rintro _ _ K ⟨B,at_,k,n,rfl,⟨h1,h2⟩,rfl,hK⟩
 (conv=>whnf)
 refine⟨λm env σ=>∃(i:Nat),i+m=k/\σ=[.row 5 1 true ((xU B at_ (aq n i)).map aR)]/\env=[(0,.own 0),eN 1 at_,eN 3 (n/256^i),eN 9 k,eN 10 i],k,⟨0,aa,by simp[aq,Pq],ae⟩,?_⟩;rintro m env σ ⟨i,hi,rfl,rfl⟩;have hll:=dn i n;have HR:=ZM (B:=B) (at_:=at_) (bs:=aq n i) aa
 (repeat'((conv=>whnf);first|refine aze ?_|refine dJ aa ?_|refine cA (λ_=>?_) (λ_=>?_)|refine U8m ?_|refine OWN aa ?_|refine atK aa (λ_ _ _=>?_)|refine cw ?_|fail))<;>try(conv=>whnf)
 ·refine⟨m-1,aa,i+1,aa,?_,?_⟩
  ·rw[Ka,<-W_ aa,<-jL,hll];exact congrArg (λx=>[cu.row 5 1 true (List.set _ _ x)]) (u8P _)
  ·rw[zcv,<-zcq (zcD af)];rfl
 ·have:i=k:=by omega
  subst this;exact hK
def dU:List UInt8->Int
 |[]=>0
 |b::l=>b.toNat+256*dU l
def OX(l:List UInt8):0<=dU l/\dU l<256^l.length:=by
 induction l with
 |nil=>simp[dU]
 |cons b l ih=>
  have:=b.toNat_lt;simp only[dU,zap,zcv];omega
def YF{k:Nat}(h:k<=6):(256:Int)^k<=281474976710656:=by
 have h1:(256:Nat)^k<=256^6:=Nat.pow_le_pow_right af h;have h2:(256:Nat)^6=281474976710656:=af;have h3:((256:Int)^k)=((256^k:Nat):Int):=ae;rw[h3];omega
def Ji{s:List UInt8}{a b:Nat}{x:UInt8}(h:s[a]?=some x)(hab:a<b)(hb:b<=s.length):cut a b s=x::cut (a+1) b s:=by
 unfold cut;have hl:a<(s.take b).length:=aT;rw[zcn hl];congr 1;have:(s.take b)[a]?=some x:=by rw[zcu hab];exact h
 rw[zak hl]at this;exact Option.some.inj this
def rB(ps:List PV)(x:PV):Prop:=∃(s:List UInt8) (at_ k:Nat),ps=[.str s,pI at_,pI k]/\(at_+k<=s.length/\s.length<=1000000/\k<=6)/\x=pI (dU (cut at_ (at_+k) s))
def ORB{n:Int}{b:Nat}(hn:0<=n/\n<=4503599627370496)(hb:b<256):hY .or .i64 (n*256) (b:Int)=n*256+b:=by
 obtain⟨m,rfl⟩:=zcs hn.1;have e:((m:Int)*256)=((2^8*m:Nat):Int):=aT;rw[e,awY aa aa,Nat.or_comm,Zz (k:=8) hb];simp;omega
def aBY{n:Int}{K:Int->Prop}(h:0<=n/\n<=4503599627370496)(k:K (n*256)):0<=(8:Int)∧∀r:Int,r=IntKind.i64.wrap (n*2^min (8:Int).toNat IntKind.i64.bits)->K r:=by
 refine⟨af,λr hr=>?_⟩;have e8:(2:Int)^min (8:Int).toNat IntKind.i64.bits=256:=af;rw[e8,wrap64 aa]at hr;rw[hr];exact k
def aBH{n:Int}{b:Nat}{K:Int->Prop}(hn:0<=n/\n<=4503599627370496)(hb:b<256)(k:K (n*256+b)):∀r:Int,r=hY .or .i64 (n*256) (b:Int)->K r:=λr hr=>by rw[hr,ORB hn hb];exact k
def VT:ay (ax []) wU wO xr (ah rB):=by
 rintro _ K ⟨_,⟨s,at_,k,rfl,⟨h1,h2,h3⟩,rfl⟩,hK⟩
 (repeat'((conv=>whnf);first|refine dJ aa ?_|fail))<;>try(conv=>whnf)
 refine⟨λm env σ=>m<=k/\σ=[]/\env=[(0,.pv (.str s)),eN 1 at_,eN 7 (dU (cut (at_+m) (at_+k) s)),eN 8 (m-1)],k,⟨aa,rfl,Qu⟩,?_⟩;rintro m env σ ⟨hm,rfl,rfl⟩;have hb:=OX (cut (at_+m) (at_+k) s);have hp:=YF (k:=(cut (at_+m) (at_+k) s).length) C5;rcases m with _|m
 ·(repeat'((conv=>whnf);first|refine ar aa ?_|fail))<;>try(conv=>whnf)
  exact aB
 obtain⟨x,hx⟩:∃x,s[at_+m]?=some x:=⟨_,zak aa⟩
 have hxb:=zch x;have e1:(((m+1:Nat):Int)-1)=(m:Int):=aa;have e2:dU (cut (at_+m) (at_+k) s)=x.toNat+256*dU (cut (at_+(m+1)) (at_+k) s):=by rw[Ji hx aa aa];rfl
 (repeat'((conv=>whnf);first|refine aBY aa ?_|refine⟨x,⟨aa,PE⟩,?_⟩|refine aBH aa (zch _) ?_|refine dJ aa ?_|refine ai aa ?_|fail))<;>try(conv=>whnf)
 refine⟨m,aa,aa,rfl,?_⟩;rw[e2,show(x.toNat:Int)+256*dU (cut (at_+(m+1)) (at_+k) s)=dU (cut (at_+(m+1)) (at_+k) s)*256+x.toNat by omega,e1]
def Kg:ay (ax []) xF wP wN (ah rB):=by
 rintro _ K ⟨_,⟨s,at_,k,rfl,⟨h1,h2,h3⟩,rfl⟩,hK⟩
 (repeat'((conv=>whnf);first|refine dJ aa ?_|fail))<;>try(conv=>whnf)
 refine⟨λm env σ=>m<=k/\σ=[]/\env=[(0,.pv (.str s)),eN 1 at_,eN 7 (dU (cut (at_+m) (at_+k) s)),eN 8 (m-1)],k,⟨aa,rfl,Qu⟩,?_⟩;rintro m env σ ⟨hm,rfl,rfl⟩;have hb:=OX (cut (at_+m) (at_+k) s);have hp:=YF (k:=(cut (at_+m) (at_+k) s).length) C5;rcases m with _|m
 ·(repeat'((conv=>whnf);first|refine ar aa ?_|fail))<;>try(conv=>whnf)
  exact aB
 obtain⟨x,hx⟩:∃x,s[at_+m]?=some x:=⟨_,zak aa⟩
 have hxb:=zch x;have e1:(((m+1:Nat):Int)-1)=(m:Int):=aa;have e2:dU (cut (at_+m) (at_+k) s)=x.toNat+256*dU (cut (at_+(m+1)) (at_+k) s):=by rw[Ji hx aa aa];rfl
 (repeat'((conv=>whnf);first|refine⟨x,⟨aa,PE⟩,?_⟩|refine dJ aa ?_|refine ai aa ?_|fail))<;>try(conv=>whnf)
 refine⟨m,aa,aa,rfl,?_⟩;rw[e2,show(x.toNat:Int)+256*dU (cut (at_+(m+1)) (at_+k) s)=dU (cut (at_+(m+1)) (at_+k) s)*256+x.toNat by omega,e1]
def ab(n:Nat):List UInt8:=List.replicate n 0
def Au(ps:List PV)(x:PV):Prop:=∃n:Int,ps=[pI n]/\(-1000000000000<=n/\n<=200000)/\x=.str (ab n.toNat)
def Qz:ay (ax []) C6 Dt CK (ah Au):=by
 rintro _ K ⟨_,⟨n,rfl,h,rfl⟩,hK⟩
 (repeat'((conv=>whnf);first|refine MAX ?_|refine MIN ?_|refine Vu ?_|refine⟨ab n.toNat,by unfold ab;rw[zcx,show(max 0 (min n 200000)).toNat=n.toNat by omega];rfl,?_⟩|fail))<;>try(conv=>whnf)
 exact im
def Sr(n:Int):Nat:=if-128<=n/\n<=127 then 1 else 2
def sgB(n:Int):List UInt8:=aq n (Sr n)
def Ou(k:Nat):∀n:Int,aq (n%256^k) k=aq n k:=by
 induction k with
 |zero=>intro n;rfl
 |succ k ih=>
  intro n;have hp:(0:Int)<256^k:=Int.pow_pos af;rw[aq,aq,zcv,Int.mul_comm];have e1:n%(256*256^k)%256=n%256:=Int.emod_emod_of_dvd _ (Int.dvd_mul_right _ _);have e2:n%(256*256^k)/256=n/256%256^k:=by
   rw[Int.emod_def,Int.mul_assoc,Int.sub_mul_ediv_left _ _ af,Int.emod_def,zcq af]
  rw[e1,e2,ih]
def I8(ps:List PV)(x:PV):Prop:=∃n:Int,ps=[pI n]/\(-1000000<=n/\n<=1000000)/\x=.str (sgB n)
def J0:ay (ax [(66,eX ed),(107,ah zL),(109,ah Cu)]) yk yO zg (ah I8):=by
 rintro _ K ⟨_,⟨n,rfl,h,rfl⟩,hK⟩;unfold sgB Sr at hK
 (repeat'((conv=>whnf);first|refine⟨_,⟨_,1,rfl,⟨aa,aa,af⟩,rfl⟩,?_⟩|refine⟨_,⟨_,2,rfl,⟨aa,aa,af⟩,rfl⟩,?_⟩|refine⟨_,⟨_,256,rfl,af,rfl⟩,?_⟩|refine⟨_,⟨_,65536,rfl,af,rfl⟩,?_⟩|(refine ko ?_;first|refine cA (λ_=>?_) (λ_=>?_)|refine⟨_,⟨_,_,_,rfl,rfl⟩,?_⟩|fail)))<;>try(conv=>whnf)
 ·rename_i hc;rw[if_pos hc,<-Ou 1 n]at hK;exact im
 ·rename_i hc;rw[if_neg hc,<-Ou 2 n]at hK;exact im
def EQV{n v:Int}{K:Int->Prop}(h:n=v)(k:K v):∀r:Int,r=n->K r:=λr hr=>by rw[hr,h];exact k
def QM(ps:List PV)(x:PV):Prop:=∃n:Int,ps=[pI n]/\(-32768<=n/\n<=32767)/\x=pI (Sr n)
def N1:ay (ax [(188,eX ed)]) Bn Bp BQ (ah QM):=by
 rintro _ K ⟨_,⟨n,rfl,h,rfl⟩,hK⟩;unfold Sr at hK
 (conv=>whnf)
 refine⟨λm env σ=>(m=1/\σ=[]/\env=[eN 0 n,eN 3 1])\/(m=0∧¬(-128<=n/\n<=127)/\σ=[]/\env=[eN 0 n,eN 3 2]),1,.inl ⟨rfl,rfl,rfl⟩,?_⟩;rintro m env σ (⟨rfl,rfl,rfl⟩|⟨rfl,hn,rfl,rfl⟩)
 ·(repeat'((conv=>whnf);first|refine EQV (v:= -128) af ?_|refine EQV (v:=128) af ?_|(refine ko ?_;first|refine dJ aa ?_|refine dY ?_|refine gj ?_|refine cA (λ_=>?_) (λ_=>?_)|refine cw ?_|refine⟨_,⟨_,_,_,rfl,rfl⟩,?_⟩|refine Vu ?_|fail)))<;>try(conv=>whnf)
  ·rename_i hc;rw[if_pos aa]at hK;exact aB
  ·rename_i hc;exact⟨0,af,.inr ⟨rfl,aa,rfl,rfl⟩⟩
 ·(repeat'((conv=>whnf);first|refine EQV (v:= -32768) af ?_|refine EQV (v:=32768) af ?_|(refine ko ?_;first|refine dJ aa ?_|refine dY ?_|refine ai aa ?_|refine cw ?_|refine⟨_,⟨_,_,_,rfl,rfl⟩,?_⟩|refine Vu ?_|fail)))<;>try(conv=>whnf)
  rw[if_neg hn]at hK;exact aB
def iC(l:List UInt8):∀x∈l.map aR,x.flat:=by
 intro x hx;obtain⟨t,_,rfl⟩:=List.mem_map.1 hx;trivial
def Qv(ps:List PV)(r:RV):Prop:=∃(n:Int) (k:Nat),ps=[pI n,pI k]/\k<=1000/\r=.fresh 5 1 ((aq n k).map aR)
def NU:ay (ax []) Bz Br BX (gR true Qv):=by
 rintro _ K ⟨_,⟨n,k,rfl,hk,rfl⟩,hK⟩
 (conv=>whnf)
 refine⟨λm env σ=>∃(i:Nat),i+m=k/\σ=[.row 5 1 true ((aq n i).map aR)]/\env=[eN 0 (n/256^i),(5,.own 0),eN 6 k,eN 7 i],k,⟨0,aa,rfl,ae⟩,?_⟩;rintro m env σ ⟨i,hi,rfl,rfl⟩;have hll:=dn i n
 (repeat'((conv=>whnf);first|refine aze ?_|refine dJ aa ?_|refine cA (λ_=>?_) (λ_=>?_)|refine U8m ?_|refine cw ?_|refine zco jD ?_|fail))<;>try(conv=>whnf)
 ·refine⟨m-1,aa,i+1,aa,?_,?_⟩
  ·rw[Ka,zaD];exact congrArg (λx=>[cu.row 5 1 true (_++[x])]) (u8P _)
  ·rw[zcv,<-zcq (zcD af)];rfl
 ·have:i=k:=by omega
  subst this;exact⟨.fresh _ _ _,⟨rfl,rfl,rfl,rfl⟩,iC _,hK⟩
def MF(ps:List PV)(x:PV):Prop:=∃ls:List Rs,ps=[.sl 1 (ls.map x4)]/\ls.length<=100/\x=pI (bF (ls.map λs=>jY s.l))
def Lo:ay (ax [(78,gR true U1)]) yI zN ze (ah MF):=by
 rintro _ K ⟨_,⟨ls,rfl,hl,rfl⟩,hK⟩
 (repeat'((conv=>whnf);first|refine gF λ_=>?_|fail))<;>try(conv=>whnf)
 refine⟨λm env σ=>∃(n:Nat),(n+m=ls.length∧∀j,j<n->(ls.map λs=>jY s.l)[j]?=some 0)/\σ=[]/\env=[(7,.pv (.sl 1 (ls.map x4))),eN 8 ls.length,eN 9 n],ls.length,⟨0,⟨aa,λj hj=>aa⟩,rfl,ae⟩,?_⟩;rintro m env σ ⟨n,⟨hn,h0⟩,rfl,rfl⟩;by_cases aS:n<ls.length
 ·obtain⟨s,hs⟩:∃s,ls[n]?=some s:=⟨_,zak aS⟩
  have hg:(ls.map λs=>jY s.l)[n]?=some (jY s.l):=by rw[zbC,hs];rfl
  (repeat'((conv=>whnf);first|refine aok hs ?_|refine⟨_,⟨s,rfl,rfl⟩,?_⟩|rw[Sl.cells]|refine dJ aa ?_|refine ai aa ?_|refine cA (λ_=>?_) (λ_=>?_)|fail))<;>try(conv=>whnf)
  ·rename_i qY;rw[lL _ n h0,zcn (aZ hg)]at hK;rw[zak (aZ hg)]at hg;rw[Option.some.inj hg]at hK;simp only[bF]at hK;rw[if_neg (show ¬jY s.l=0 from qY)]at hK;exact aB
  ·rename_i qY;refine⟨m-1,aa,n+1,⟨aa,λj hj=>?_⟩,rfl,rfl⟩;by_cases hjn:j<n
   ·exact h0 j hjn
   ·rw[show j=n by omega,hg];exact congrArg some (by unfold jY;simpa using qY)
 ·(repeat'((conv=>whnf);first|refine ar aa ?_|fail))<;>try(conv=>whnf)
  rw[lL _ n h0,zcd aT]at hK;exact aB
def K8(st:List UInt8×Int)(r:Rn):List UInt8×Int:=
 if r.s= -1 then(st.1++aq (Sr r.n) 1++sgB r.n,st.2)
 else(st.1++aq (Sr r.n+16*Sr (r.s-st.2)) 1++sgB r.n++sgB (r.s-st.2),r.s)
def sc(l:List Rn)(n:Nat):List UInt8×Int:=(l.take n).foldl K8 ([],0)
def lp{l:List Rn}{n:Nat}{x:Rn}(h:l[n]?=some x):sc l (n+1)=K8 (sc l n) x:=by
 unfold sc;rw[zct,h,List.foldl_append];rfl
def iZ(l:List Rn):List UInt8:=(sc l l.length).1++[0]
def Om(n:Int):(sgB n).length=Sr n:=dn _ _
def Fv(n:Int):1<=Sr n/\Sr n<=2:=by unfold Sr;split<;>omega
def yS(l:List Rn):∀n,n<=l.length->(sc l n).1.length<=5*n:=by
 intro n
 induction n with
 |zero=>intro _;simp[sc]
 |succ n ih=>
  intro h;rw[lp (zak (show n<l.length by omega))];have:=ih aa;have h1:=Fv l[n].n;have h2:=Fv (l[n].s-(sc l n).2);unfold K8;split<;>simp only[zae,Om,dn]<;>omega
def Mb{l:List Rn}(h:∀r∈l,oT r):∀n,n<=l.length->0<=(sc l n).2/\(sc l n).2<=511:=by
 intro n
 induction n with
 |zero=>intro _;simp[sc]
 |succ n ih=>
  intro hn;rw[lp (zak (show n<l.length by omega))];have:=ih aa;have h1:=h _ (zcI (show n<l.length by omega));unfold oT at h1;unfold K8;split
  ·exact this
  ·rename_i hc;rw[if_neg hc]at h1;show 0<=l[n].s/\l[n].s<=511;omega
def ju{l:List Rn}(h:jY l=0):l.length<=64/\(∀k,k<l.length->Pa l k=0)/\fI l<=4096∧∀r∈l,oT r:=by
 unfold jY dD at h;split at h
 ·cases h
 rename_i h1;split at h
 ·rename_i h2;exact absurd h h2
 rename_i h2;have h3:=nJ gu;refine⟨aa,h3,?_,λr hr=>?_⟩
 ·simp only at h;split at h
  ·assumption
  ·cases h
 ·obtain⟨i,hi⟩:=ee.1 hr;exact IS hi (h3 i (aZ hi))
def aBC{d:Int}{K:Int->Prop}(h:0<=d/\d<=1000)(k:K (d*16)):0<=(4:Int)∧∀r:Int,r=IntKind.i64.wrap (d*2^min (4:Int).toNat IntKind.i64.bits)->K r:=by
 refine⟨af,λr hr=>?_⟩;have e8:(2:Int)^min (4:Int).toNat IntKind.i64.bits=16:=af;rw[e8,wrap64 aa]at hr;rw[hr];exact k
def ORH{d s:Int}{K:Int->Prop}(h:0<=d/\d<=1000)(hs:0<=s/\s<16)(k:K (s+16*d)):∀r:Int,r=hY .or .i64 (d*16) s->K r:=λr hr=>by
 obtain⟨m,rfl⟩:=zcs h.1;obtain⟨n,rfl⟩:=zcs hs.1;have e:((m:Int)*16)=((2^4*m:Nat):Int):=aT;rw[e,awY aa aa,Nat.or_comm,Zz (k:=4) aa]at hr;rw[hr];have:(((n+2^4*m:Nat)):Int)=(n:Int)+16*(m:Int):=ae;rw[this];exact k
def ae0{v:Int}(h:0<=v/\v<256):PV.int .u8 v=aR (CJ (v%256).toNat):=by rw[<-u8P,Int.emod_eq_of_lt h.1 h.2]
def abz(s:Rs):SP 1 [x4 s]=true:=by cases s<;>rfl
def CI(ps:List PV)(r:RV):Prop:=∃s:Rs,ps=[x4 s]/\r=.tup [.pv (.str (if jY s.l=0 then iZ s.l else[])),.pv (pI (jY s.l))]
def EV:ay (ax [(215,ah MF),(187,eX y6),(216,ah QM),(217,gR true Qv)]) tj tS tP (gR true CI):=by
 rintro _ K ⟨_,⟨s,rfl,rfl⟩,hK⟩;have hf:bF (([s]:List Rs).map λs=>jY s.l)=jY s.l:=by simp only[List.map_cons,List.map_nil,bF];split<;>simp_all
 (repeat'((conv=>whnf);first|refine zco (abz s) ?_|refine⟨_,⟨[s],rfl,ae,rfl⟩,?_⟩|refine jH ?_|refine cA (λ_=>?_) (λ_=>?_)|refine gF λ_=>?_|fail))<;>try(conv=>whnf)
 ·rename_i qY;replace qY:jY s.l≠0:=hf▸qY;rw[if_neg qY,<-hf]at hK;exact aO
 rename_i hz _;have hz:jY s.l=0:=by refine Classical.byContradiction λh=>hz ?_;rw[hf];exact h
 rw[hz,if_pos rfl]at hK;obtain⟨hl,_,_,ep⟩:=ju hz;refine⟨λm env σ=>∃(n:Nat),(n+m=s.l.length)/\σ=[.row 5 1 true ((sc s.l n).1.map aR)]/\env=[(5,.own 0),eN 6 (sc s.l n).2,(17,.pv (x4 s)),eN 18 s.l.length,eN 19 n],s.l.length,⟨0,aa,rfl,by simp[sc]⟩,?_⟩;rintro m env σ ⟨n,hn,rfl,rfl⟩;have hlen:=yS s.l n aa;have BZ:=Mb ep n aa;by_cases aS:n<s.l.length
 ·obtain⟨x,hx⟩:∃x,s.l[n]?=some x:=⟨_,zak aS⟩
  have hxo:=ep x (zad hx);have hxb:(1<=x.n/\x.n<=4096)/\(x.s≠ -1->0<=x.s/\x.s<=511):=QK;have h1:=Fv x.n;have h2:=Fv (x.s-(sc s.l n).2);have h3:=dn (Sr x.n) x.n;have h4:=dn (Sr (x.s-(sc s.l n).2)) (x.s-(sc s.l n).2)
  (repeat'((conv=>whnf);first|refine dI hx ?_|refine aBC aa ?_|refine ORH aa aa ?_|refine⟨_,⟨_,_,rfl,aa,rfl⟩,?_⟩|refine⟨_,⟨x,rfl,rfl⟩,?_⟩|refine zco (by(simp only[zae,zan,zap,zaZ,dn];omega)) ?_|(refine ko ?_;first|refine dJ aa ?_|refine dY ?_|refine gj ?_|refine ai aa ?_|refine ar aa ?_|refine cA (λ_=>?_) (λ_=>?_)|refine U8 aa ?_|refine cw ?_|refine⟨_,⟨_,rfl,zE,rfl⟩,?_⟩|fail)))<;>try(conv=>whnf)
  ·rename_i hc;refine⟨m-1,aa,n+1,aa,?_,?_⟩
   ·rw[lp hx];unfold K8;rw[if_pos hc];simp only[zaD];exact congrArg (λz=>[cu.row 5 1 true (_++[z]++_)]) (ae0 (v:=Sr x.n) aa)
   ·rw[lp hx];unfold K8;rw[if_pos hc];rfl
  ·rename_i hc;refine⟨m-1,aa,n+1,aa,?_,?_⟩
   ·rw[lp hx];unfold K8;rw[if_neg hc];simp only[zaD];exact congrArg (λz=>[cu.row 5 1 true (_++[z]++_++_)]) (ae0 (v:=Sr x.n+16*Sr (x.s-(sc s.l n).2)) aa)
   ·rw[lp hx];unfold K8;rw[if_neg hc];rfl
 ·(repeat'((conv=>whnf);first|refine zco (by(simp only[zae,zan,zap,zaZ];omega)) ?_|(refine ko ?_;refine⟨(sc s.l n).1++[0],by simp[aR],?_⟩)|refine ar aa ?_|refine cw ?_|fail))<;>try(conv=>whnf)
  rw[iZ,<-show n=s.l.length by omega]at hK;exact aO
def HZ(ps:List PV)(x:PV):Prop:=∃s:Rs,ps=[x4 s]/\jY s.l=0/\x=.str (iZ s.l)
def J1:ay (ax [(171,ah I8),(107,ah zL),(110,ah Au)]) yQ zJ zi (ah HZ):=by
 rintro _ K ⟨_,⟨s,rfl,hz,rfl⟩,hK⟩;obtain⟨hl,_,_,ep⟩:=ju hz
 (conv=>whnf)
 refine⟨λm env σ=>∃(n:Nat),(n+m=s.l.length)/\σ=[]/\env=[(0,.pv (x4 s)),(3,.pv (.str (sc s.l n).1)),eN 4 (sc s.l n).2,eN 5 n],s.l.length,⟨0,aa,rfl,by simp[sc]⟩,?_⟩;rintro m env σ ⟨n,hn,rfl,rfl⟩;have hlen:=yS s.l n aa;have BZ:=Mb ep n aa;by_cases aS:n<s.l.length
 ·obtain⟨x,hx⟩:∃x,s.l[n]?=some x:=⟨_,zak aS⟩
  have hxo:=ep x (zad hx);have hxb:(1<=x.n/\x.n<=4096)/\(x.s≠ -1->0<=x.s/\x.s<=511):=QK;have h1:=Fv x.n;have h2:=Fv (x.s-(sc s.l n).2);have h3:=Om x.n;have h4:=Om (x.s-(sc s.l n).2)
  (repeat'((conv=>whnf);first|refine jH ?_|refine dI hx ?_|refine⟨_,⟨_,1,rfl,aa,rfl⟩,?_⟩|refine zco (by(simp only[zae,dn];omega)) ?_|(refine ko ?_;first|refine dJ aa ?_|refine ai aa ?_|refine cA (λ_=>?_) (λ_=>?_)|refine gF λ_=>?_|refine⟨_,⟨_,rfl,zE,rfl⟩,?_⟩|fail)))<;>try(conv=>whnf)
  ·rename_i hc;refine⟨m-1,aa,n+1,aa,rfl,?_⟩;rw[lp hx];unfold K8;rw[if_pos hc,<-h3];rfl
  ·rename_i hc;refine⟨m-1,aa,n+1,aa,rfl,?_⟩;rw[lp hx];unfold K8;rw[if_neg hc,<-h3,<-h4];rfl
 ·(repeat'((conv=>whnf);first|refine jH ?_|refine zco (by(simp only[zae,ab,zaq];omega)) ?_|refine⟨_,⟨1,rfl,af,rfl⟩,?_⟩|refine ar aa ?_|refine gF λ_=>?_|fail))<;>try(conv=>whnf)
  rw[iZ,<-show n=s.l.length by omega]at hK;exact im
end Go.Dv.Try
namespace Go.Dv.Try
open Go Go.Dv Go.RowKit
section
def WU:List UInt8:=[34,42,47,58,60,62,63,92,124]
def CU(c:UInt8):Prop:=(32<=c.toNat/\c.toNat<=126)/\c∉WU
instance (c:UInt8):Decidable (CU c):=by unfold CU;infer_instance
def wo(s:List UInt8):Prop:=s≠[]/\(∀b∈s,CU b)/\s.getLast?≠some 32/\s.getLast?≠some 46
instance (s:List UInt8):Decidable (wo s):=by unfold wo;infer_instance
def Jf(s:List UInt8):Int:=if 32<s.length then 8 else if wo s then 0 else 4
def cb(s:List UInt8):Prop:=s=[]\/Jf s=0
instance (s:List UInt8):Decidable (cb s):=by unfold cb;infer_instance
def ixb(l:List UInt8)(c:UInt8):Lib.indexByte l c<0↔c∉l:=by
 constructor
 ·intro h hc;have h1:=Lib.indexByte_ge l c;obtain⟨k,hk⟩:=ee.1 hc;exact Lib.indexByte_none (show Lib.indexByte l c= -1 by omega) k hk
 ·intro h;refine Classical.byContradiction λhn=>?_
  have:=(Lib.indexByte_some (l:=l) (c:=c) (o:=(Lib.indexByte l c).toNat) aa).1;exact h (zad this)
def Ha:ay (ax [(225,ah lE)]) qo qa pY (ah lE):=by
 rintro _ K ⟨_,⟨l,c,rfl,rfl⟩,hK⟩
 (repeat'((conv=>whnf);first|refine⟨_,⟨l,c,rfl,rfl⟩,?_⟩|fail))<;>try(conv=>whnf)
 exact aB
def HG(ps:List PV)(p:Prop):Prop:=∃c:UInt8,ps=[aR c]/\p=CU c
def Dx:ay (ax [(221,ah lE)]) pR qt qf (eX HG):=by
 rintro _ K ⟨_,⟨c,rfl,rfl⟩,hK⟩;have hc:=ixb WU c
 (repeat'((conv=>whnf);first|refine⟨_,⟨WU,c,rfl,rfl⟩,?_⟩|refine cA (λ_=>?_) (λ_=>?_)|fail))<;>try(conv=>whnf)
 all_goals exact⟨.pv (.bool _),rfl,trivial,hK _ (by unfold CU;rw[<-hc];simp only[zaG,true_iff,false_iff];omega)⟩
def Hx{α:Type}(p:α->Prop)[DecidablePred p]:List α->Int
 |[]=> -1
 |a::l=>if p a then 0 else if Hx p l<0 then-1 else Hx p l+1
section
variable {α:Type} {p:α->Prop} [DecidablePred p]
def zf{l:List α}(h:∀x∈l,¬p x):Hx p l= -1:=by
 induction l with
 |nil=>rfl
 |cons a l ih=>unfold Hx;rw[if_neg (h a ae),ih (λx hx=>h x kG)];rfl
def Tu{l:List α}{i:Nat}{x:α}(h0:∀j,j<i→∀y,l[j]?=some y→¬p y)(hx:l[i]?=some x)(hp:p x):Hx p l=i:=by
 induction i generalizing l with
 |zero=>
  cases l with
  |nil=>simp at hx
  |cons a l=>simp at hx;subst hx;unfold Hx;rw[if_pos hp];rfl
 |succ i ih=>
  cases l with
  |nil=>simp at hx
  |cons a l=>
   have:=ih (l:=l) (λj hj y hy=>h0 (j+1) aa y (by simpa using hy)) yK;unfold Hx;rw[if_neg (h0 0 aa a rfl),this,if_neg aa];omega
def Xa(l:List α):(Hx p l= -1∧∀x∈l,¬p x)∨∃i x,Hx p l=((i:Nat):Int)/\l[i]?=some x/\p x∧∀j,j<i→∀y,l[j]?=some y→¬p y:=by
 induction l with
 |nil=>exact .inl ⟨rfl,λx h=>cI⟩
 |cons a l ih=>
  by_cases ha:p a
  ·exact .inr ⟨0,a,by unfold Hx;rw[if_pos ha];rfl,rfl,ha,λj h=>aa⟩
  ·rcases ih with⟨h1,h2⟩|⟨i,x,h1,h2,h3,h4⟩
   ·refine .inl ⟨by unfold Hx;rw[if_neg ha,h1];rfl,λx hx=>?_⟩;rcases List.mem_cons.1 hx with rfl|hx
    ·exact ha
    ·exact h2 x hx
   ·refine .inr ⟨i+1,x,by unfold Hx;rw[if_neg ha,h1,if_neg aa];omega,gu,h3,λj hj y hy=>?_⟩;cases j with
    |zero=>simp at hy;subst hy;exact ha
    |succ j=>exact h4 j aa y (by simpa using hy)
def HD(l:List α):Hx p l<0↔∀x∈l,¬p x:=by
 rcases Xa (p:=p) l with⟨h1,h2⟩|⟨i,x,h1,h2,h3,_⟩
 ·rw[h1];exact⟨λ_=>h2,λ_=>af⟩
 ·rw[h1];exact⟨λh=>aa,λh=>absurd h3 (h x (zad h2))⟩
def IK(l:List α):0<=Hx p l↔∃x∈l,p x:=by
 have:=HD (p:=p) l;constructor
 ·intro h;refine Classical.byContradiction λhn=>?_
  have:=this.2 (λx hx hp=>hn ⟨x,hx,hp⟩);omega
 ·rintro⟨x,hx,hp⟩;refine Classical.byContradiction λhn=>?_
  exact this.1 aa x hx hp
end
def Ia(ps:List PV)(p:Prop):Prop:=∃c:UInt8,ps=[aR c,.cptr (.clo 213 [])]/\p=¬CU c
def Dk:ay (ax [(213,eX HG)]) pO qu pT (eX Ia):=by
 rintro _ K ⟨_,⟨c,rfl,rfl⟩,hK⟩
 (repeat'((conv=>whnf);first|refine⟨_,⟨c,rfl,rfl⟩,?_⟩|refine dY ?_|refine gj ?_|refine cA (λ_=>?_) (λ_=>?_)|fail))<;>try(conv=>whnf)
 all_goals exact mi
abbrev H8:PV:=.clo 220 [.cptr (.clo 213 [])]
def D4(ps:List PV)(x:PV):Prop:=∃l:List UInt8,ps=[.sl 1 (l.map aR),H8]/\l.length<=1000000/\x=pI (Hx (λc=>¬CU c) l)
def FP:ay (ax [(220,eX Ia)]) iM iE iI (ah D4):=by
 rintro _ K ⟨_,⟨l,rfl,hl,rfl⟩,hK⟩
 (repeat'((conv=>whnf);first|refine gF λ_=>?_|fail))<;>try(conv=>whnf)
 refine⟨λm env σ=>∃n:Nat,(n+m=l.length∧∀j,j<n→∀y,l[j]?=some y→¬ ¬CU y)/\σ=[]/\env=[(0,.pv (.sl 1 (l.map aR))),(1,.pv H8),eN 7 l.length,eN 8 n],l.length,⟨0,⟨aa,λj hj=>aa⟩,rfl,rfl⟩,?_⟩;rintro m env σ ⟨n,⟨hn,h0⟩,rfl,rfl⟩
 (repeat'((conv=>whnf);first|refine⟨_,⟨_,rfl,rfl⟩,?_⟩|refine dJ aa ?_|refine cA (λ_=>?_) (λ_=>?_)|refine ax7 aa (λ_ _ _=>?_)|fail))<;>try(conv=>whnf)
 ·rename_i x hx _ h;exact⟨.pv (pI _),fH (Tu h0 hx h),trivial,hK⟩
 ·rename_i x hx _ h;refine⟨m-1,aa,n+1,⟨aa,λj hj y hy=>?_⟩,rfl,rfl⟩;rcases zcp (zcr hj)with h1|h1
  ·exact h0 j h1 y hy
  ·subst h1;rw[hx]at hy;cases hy;exact h
 ·refine⟨.pv (pI _),fH (zf λx hx=>?_),trivial,hK⟩;obtain⟨k,hk⟩:=ee.1 hx;exact h0 k oA x hk
def xu(ps:List PV)(p:Prop):Prop:=∃l:List UInt8,ps=[.sl 1 (l.map aR),H8]/\l.length<=1000000/\p=∃c∈l,¬CU c
def AY:ay (ax [(224,ah D4)]) gX gW gY (eX xu):=by
 rintro _ K ⟨_,⟨l,rfl,hl,rfl⟩,hK⟩;rw[<-IK]at hK
 (repeat'((conv=>whnf);first|refine⟨_,⟨l,rfl,hl,rfl⟩,?_⟩|refine cA (λ_=>?_) (λ_=>?_)|fail))<;>try(conv=>whnf)
 all_goals exact ye
def JI(ps:List PV)(p:Prop):Prop:=∃l:List UInt8,ps=[.str l,.clo 213 []]/\l.length<=1000000/\p=∀c∈l,CU c
def JH:ay (ax [(219,eX xu)]) vJ uA vo (eX JI):=by
 rintro _ K ⟨_,⟨l,rfl,hl,rfl⟩,hK⟩;have e:(∀c∈l,CU c)↔¬ ∃c∈l,¬CU c:=ae;rw[e]at hK
 (repeat'((conv=>whnf);first|refine⟨_,⟨l,rfl,hl,rfl⟩,?_⟩|refine dY ?_|refine gj ?_|refine cA (λ_=>?_) (λ_=>?_)|refine Vu ?_|fail))<;>try(conv=>whnf)
 all_goals exact mi
def Af(ps:List PV)(p:Prop):Prop:=∃(s:List UInt8) (b:UInt8),ps=[.str s,.str [b]]/\s.length<=1000000/\p=(s.getLast?=some b)
def Wa(s:List UInt8)(b:UInt8):(1<=s.length/\s.drop (s.length-1)=[b])↔s.getLast?=some b:=by
 constructor
 ·rintro⟨h1,h2⟩;rw[<-List.take_append_drop (s.length-1) s,h2];simp
 ·intro h;have qY:s≠[]:=λe=>by subst e;simp at h
  have h1:0<s.length:=zcE.2 qY;refine⟨aa,?_⟩;rw[zb8]at h;rw[zcn (show s.length-1<s.length by omega),zcd aa];rw[zak (show s.length-1<s.length by omega)]at h;simpa using h
def EZ:ay (ax []) gH gS gJ (eX Af):=by
 rintro _ K ⟨_,⟨s,b,rfl,hs,rfl⟩,hK⟩;rw[<-Wa]at hK;have hl:([b]:List UInt8).length=1:=rfl;have e:cut ((s.length:Int)-(([b]:List UInt8).length:Int)).toNat s.length s=s.drop (s.length-1):=by
  rw[hl,show((s.length:Int)-((1:Nat):Int)).toNat=s.length-1 by omega];unfold cut;rw[List.take_length]
 (repeat'((conv=>whnf);first|refine dJ aa ?_|refine cA (λ_=>?_) (λ_=>?_)|refine Vu ?_|fail))<;>try(conv=>whnf)
 ·rename_i h1 h2;exact⟨.pv (.bool _),rfl,trivial,hK _ (by simp only[true_iff];exact⟨aa,e▸h2⟩)⟩
 ·rename_i h1 h2;exact⟨.pv (.bool _),rfl,trivial,hK _ (by simp only[zaG,false_iff];rw[<-e];exact λh=>h2 h.2)⟩
 ·rename_i h1;exact⟨.pv (.bool _),rfl,trivial,hK _ (by simp only[zaG,false_iff];omega)⟩
def GW:ay (ax [(222,eX Af)]) qy p9 pQ (eX Af):=by
 rintro _ K ⟨_,⟨s,b,rfl,hs,rfl⟩,hK⟩
 (repeat'((conv=>whnf);first|refine⟨_,⟨s,b,rfl,hs,rfl⟩,?_⟩|refine cA (λ_=>?_) (λ_=>?_)|fail))<;>try(conv=>whnf)
 all_goals exact mi
def Mc(ps:List PV)(p:Prop):Prop:=∃s:List UInt8,ps=[.str s]/\p=(wo s/\s.length<=32)
def LF:ay (ax [(212,eX JI),(214,eX Af)]) xf wR wW (eX Mc):=by
 rintro _ K ⟨_,⟨s,rfl,rfl⟩,hK⟩;unfold wo at hK
 (repeat'((conv=>whnf);first|refine⟨_,⟨s,rfl,aa,rfl⟩,?_⟩|refine⟨_,⟨s,32,rfl,aa,rfl⟩,?_⟩|refine⟨_,⟨s,46,rfl,aa,rfl⟩,?_⟩|refine dY ?_|refine gj ?_|refine cA (λ_=>?_) (λ_=>?_)|fail))<;>try(conv=>whnf)
 ·rename_i h;exact D7
 ·rename_i h;exact D7
 ·rename_i h1 h2 h3 h4 h5 h6;exact⟨.pv (.bool _),rfl,trivial,hK _ (by simp only[true_iff];exact⟨⟨h1,h3,h5,h6⟩,aa⟩)⟩
 ·rename_i h;have h:s=[46,46]:=zba.1 h;exact⟨.pv (.bool _),rfl,trivial,hK _ (by subst h;simp)⟩
 ·rename_i h;exact⟨.pv (.bool _),rfl,trivial,hK _ (by simp only[zaG,false_iff];exact λg=>h g.1.2.1)⟩
 ·rename_i h;exact⟨.pv (.bool _),rfl,trivial,hK _ (by simp only[zaG,false_iff];exact λg=>h aa)⟩
 ·rename_i h;exact⟨.pv (.bool _),rfl,trivial,hK _ (by simp only[zaG,false_iff];exact λg=>h g.1.1)⟩
def Dc(ps:List PV)(x:PV):Prop:=∃s:List UInt8,ps=[.str s]/\x=pI (Jf s)
def Hh:ay (ax [(197,ah db),(198,eX Mc),(196,ah eM)]) tv tW tt (ah Dc):=by
 rintro _ K ⟨_,⟨s,rfl,rfl⟩,hK⟩;unfold Jf at hK
 (repeat'((conv=>whnf);first|refine⟨_,⟨s,rfl,rfl⟩,?_⟩|refine⟨_,⟨_,_,rfl,rfl⟩,?_⟩|refine⟨_,⟨[_,_],rfl,rfl⟩,?_⟩|refine ar aa ?_|refine cA (λ_=>?_) (λ_=>?_)|refine cw ?_|fail))<;>try(conv=>whnf)
 ·rename_i h1 h2;rw[if_neg aa,if_pos h2.1]at hK;exact aB
 ·rename_i h1 h2;rw[if_neg aa,if_neg (λh=>h2 ⟨h,aa⟩)]at hK;exact aB
 ·rename_i h1;rw[if_pos aa]at hK;exact aB
end
end Go.Dv.Try
namespace Go.Dv.Try
open Go Go.Dv
def LH:ay (ax []) BM Bv Bm (eX HG):=by
 rintro _ K ⟨_,⟨c,rfl,rfl⟩,hK⟩;unfold CU at hK;have hc:=c.toNat_lt
 (repeat'((conv=>whnf);first|refine cA (λ_=>?_) (λ_=>?_)|fail))<;>try(conv=>whnf)
 ·exact⟨.pv (.bool _),rfl,trivial,hK _ aT⟩
 ·exact⟨.pv (.bool _),rfl,trivial,hK _ aT⟩
 refine⟨λm env σ=>∃n:Nat,(n+m=9∧∀j,j<n->WU[j]?≠some c)/\σ=[]/\env=[(0,.pv (aR c)),eN 3 n],9,⟨0,⟨aa,λj hj=>aa⟩,rfl,rfl⟩,?_⟩;rintro m env σ ⟨n,⟨hn,h0⟩,rfl,rfl⟩;have VR:WU.length=9:=rfl
 (repeat'((conv=>whnf);first|(refine aBM (l:=WU) aa (λ_ _=>?_))|refine dJ aa ?_|refine cA (λ_=>?_) (λ_=>?_)|fail))<;>try(conv=>whnf)
 ·rename_i x hx he;have he:x=c:=zcB.1 aa;exact⟨.pv (.bool _),rfl,trivial,hK _ (by simp only[zaG,false_iff];exact λh=>h.2 (he▸zad hx))⟩
 ·rename_i x hx he;refine⟨m-1,aa,n+1,⟨aa,λj hj hq=>?_⟩,rfl,rfl⟩;rcases zcp (zcr hj)with h1|h1
  ·exact h0 j h1 hq
  ·subst h1;rw[zcl,hq]at hx;cases hx;exact he rfl
 ·refine⟨.pv (.bool _),rfl,trivial,hK _ ?_⟩;simp only[true_iff];refine⟨aa,λhc=>?_⟩;obtain⟨k,hk⟩:=ee.1 hc;exact h0 k oA hk
def Lx:ay (ax [(199,eX HG)]) xk w_ xw (ah Dc):=by
 rintro _ K ⟨_,⟨s,rfl,rfl⟩,hK⟩;by_cases h0:s=[]
 ·subst h0
  (repeat'((conv=>whnf);first|refine ai af ?_|refine ar af ?_|fail))<;>try(conv=>whnf)
  exact aB
 have azY:0<s.length:=zcE.2 h0;obtain⟨b,hb⟩:∃b,s[s.length-1]?=some b:=⟨_,zak aa⟩
 have BZ:s.getLast?=some b:=by rw[zb8];exact hb
 have bad:(¬32<s.length)→¬wo s->K (.pv (pI 4)):=λh1 h2=>by unfold Jf at hK;rw[if_neg h1,if_neg h2]at hK;exact hK
 (repeat'((conv=>whnf);first|refine⟨b,⟨aa,by rw[show((s.length:Int)-1).toNat=s.length-1 by omega];exact hb⟩,?_⟩|refine dJ aa ?_|refine ar aa ?_|refine cA (λ_=>?_) (λ_=>?_)|fail))<;>try(conv=>whnf)
 ·rename_i h;unfold Jf at hK;rw[if_pos aa]at hK;exact aB
 ·rename_i h1 h2;have h2:s=[46]:=h2;exact⟨.pv (pI _),rfl,trivial,bad aa (by subst h2;unfold wo;simp)⟩
 ·rename_i h1 _ h2;have h2:s=[46,46]:=h2;exact⟨.pv (pI _),rfl,trivial,bad aa (by subst h2;unfold wo;simp)⟩
 ·rename_i h1 _ _ h2;have h2:b=32:=zcB.1 (by rw[show(32:UInt8).toNat=32 from rfl];omega);exact⟨.pv (pI _),rfl,trivial,bad aa (by subst h2;exact λh=>h.2.2.1 BZ)⟩
 ·rename_i h1 _ _ _ h2;have h2:b=46:=zcB.1 (by rw[show(46:UInt8).toNat=46 from rfl];omega);exact⟨.pv (pI _),rfl,trivial,bad aa (by subst h2;exact λh=>h.2.2.2 BZ)⟩
 rename_i g1 _ _ g2 g3;refine⟨λm env σ=>∃n:Nat,(n+m=s.length∧∀j,j<n→∀y,s[j]?=some y->CU y)/\σ=[]/\env=[(0,.pv (.str s)),eN 3 n],s.length,⟨0,⟨aa,λj hj=>aa⟩,rfl,rfl⟩,?_⟩;rintro m env σ ⟨n,⟨hn,hl⟩,rfl,rfl⟩
 (repeat'((conv=>whnf);first|refine⟨_,⟨_,rfl,rfl⟩,?_⟩|refine dJ aa ?_|refine dY ?_|refine gj ?_|refine cA (λ_=>?_) (λ_=>?_)|refine aBS aa (λ_ _ _=>?_)|fail))<;>try(conv=>whnf)
 ·rename_i x hx _ s8;refine⟨m-1,aa,n+1,⟨aa,λj hj y hy=>?_⟩,rfl,rfl⟩;rcases zcp (zcr hj)with h1|h1
  ·exact hl j h1 y hy
  ·subst h1;rw[zcl,hy]at hx;cases hx;first|exact s8|exact zba.1 s8
 ·rename_i x hx _ s8;exact⟨.pv (pI _),rfl,trivial,bad aa (λh=>s8 (h.2.1 x (zad hx)))⟩
 ·have ep:wo s:=by
   refine⟨h0,λy hy=>?_,?_,?_⟩
   ·obtain⟨k,hk⟩:=ee.1 hy;exact hl k oA y hk
   ·rw[BZ];intro h;cases h;exact g2 rfl
   ·rw[BZ];intro h;cases h;exact g3 rfl
  unfold Jf at hK;rw[if_neg aa,if_pos ep]at hK;exact aB
def Cz:List Int:=[16,32,48,64,96,112,128,144,160,176,192]
def LC:List Int:=[16,48,96,112,144]
def Kx(a:At):Prop:=a.ft=0/\a.al=0/\a.sz=0/\a.vd=0
instance (a:At):Decidable (Kx a):=by unfold Kx;infer_instance
def zO(a:At):Int:=if ¬(a.rn.l.length=0/\Kx a)then 3 else if 400<a.vl.length then 8 else 0
def mn(a:At):Prop:=(0<=a.al/\a.al<=1048576)/\(0<=a.sz/\a.sz<=1048576)/\(0<=a.vd/\a.vd<=1048576)
instance (a:At):Decidable (mn a):=by unfold mn;infer_instance
def yN(a:At):Int:=
 if a.ty∈LC then 20 else if a.vl≠[]then 3 else if ¬(0<=a.ft/\a.ft<=4096)then 2 else
 if jY a.rn.l≠0 then jY a.rn.l else if 0<a.ft/\a.rn.l.length=0 then 17 else
 if 4096<a.ft+fI a.rn.l then 8 else if 0<a.ft∧¬(a.al=0/\a.sz=0/\a.vd=0)then 3 else
 if ¬mn a then 2 else if a.sz<a.vd then 9 else 0
def pG(a:At):Prop:=(0<=a.id/\a.id<=65535)/\(0<=a.fl/\a.fl<=7)
instance (a:At):Decidable (pG a):=by unfold pG;infer_instance
def Du(a:At):Int:=if a.rs=true then zO a else yN a
def AX(a:At):Int:=if a.ty∉Cz then 15 else if ¬cb a.nm then 4 else if ¬pG a then 2 else Du a
def pf(n:Nat):Nat:=(n+7)/8*8
def x9(a:At):Nat:=if a.rs=true then 24 else 40
def JE(a:At):List UInt8:=if a.rs=true then a.vl else iZ a.rn.l
def Zt(a:At):Nat:=pf (x9 a+a.nm.length)
def uf(a:At):Nat:=pf (Zt a+(JE a).length)
def ae9(a:At):List UInt8:=
 if a.rs=true then aq a.vl.length 4++aq (Zt a) 4
 else aq a.ft 4++aq (a.ft+fI a.rn.l-1) 4++aq (Zt a) 2++ab 2++aq a.al 4++aq a.sz 4++aq a.vd 4
def ai6(a:At):List UInt8:=aq a.ty 4++aq (uf a) 4++aq (if a.rs=true then 0 else 1) 1++aq a.nm.length 1++aq (x9 a) 2++aq a.fl 2++aq a.id 2++ae9 a
def Cd(a:At):List UInt8:=ai6 a++a.nm++ab (Zt a-x9 a-a.nm.length)++JE a++ab (uf a-Zt a-(JE a).length)
def iu(a:At):Int:=if AX a≠0 then AX a else if 440<(Cd a).length then 16 else 0
def dX(n:Nat):n<=pf n/\pf n<n+8/\pf n%8=0:=by unfold pf;omega
def bS(n:Nat):(ab n).length=n:=zaq
def Yl(a:At):(ai6 a).length=x9 a:=by
 unfold ai6 ae9 x9;split<;>simp only[zae,dn,bS]
def sF(a:At):(Cd a).length=uf a:=by
 have h1:=dX (x9 a+a.nm.length);have h2:=dX (Zt a+(JE a).length);have h3:Zt a=pf (x9 a+a.nm.length):=rfl;have h4:uf a=pf (Zt a+(JE a).length):=rfl;unfold Cd;simp only[zae,Yl,bS];omega
def Gk{s:List UInt8}(h:cb s):s.length<=32:=by
 rcases h with rfl|h
 ·simp
 ·unfold Jf at h;split at h
  ·cases h
  ·omega
structure V5(a:At):Prop where
 ty:0<=a.ty/\a.ty<=192
 Cz:a.ty∈Cz
 nm:cb a.nm
 nmL:a.nm.length<=32
 idf:pG a
 rs:a.rs=true->a.rn.l.length=0/\Kx a/\a.vl.length<=400
 ot:a.rs=false->a.ty∉LC/\a.vl=[]/\(0<=a.ft/\a.ft<=4096)/\jY a.rn.l=0/\a.ft+fI a.rn.l<=4096/\mn a/\a.vd<=a.sz
def aeZ{n:Int}(h:n∈Cz):0<=n/\n<=192:=by
 unfold Cz at h;simp only[List.mem_cons,List.not_mem_nil,or_false]at h;omega
def V5.of{a:At}(h:AX a=0):V5 a:=by
 unfold AX at h;split at h
 ·cases h
 rename_i h1;have h1:=zba.1 h1;split at h
 ·cases h
 rename_i h2;have h2:=zba.1 h2;split at h
 ·cases h
 rename_i h3;have h3:=zba.1 h3;refine⟨aeZ h1,h1,h2,Gk h2,h3,λhr=>?_,λhr=>?_⟩
 ·unfold Du at h;rw[if_pos hr]at h;unfold zO at h;split at h
  ·cases h
  rename_i h4;have h4:=zba.1 h4;split at h
  ·cases h
  ·exact⟨h4.1,h4.2,aa⟩
 ·unfold Du at h;rw[hr,if_neg af]at h;unfold yN at h;split at h
  ·cases h
  rename_i g1;split at h
  ·cases h
  rename_i g2;split at h
  ·cases h
  rename_i g3;split at h
  ·rename_i g4;exact absurd h g4
  rename_i g4;split at h
  ·cases h
  split at h
  ·cases h
  rename_i g6;split at h
  ·cases h
  split at h
  ·cases h
  rename_i g8;split at h
  ·cases h
  rename_i g9;exact⟨g1,zba.1 g2,zba.1 g3,zba.1 g4,aa,zba.1 g8,aa⟩
def mA{a:At}(h:iu a=0):AX a=0/\(Cd a).length<=440:=by
 unfold iu at h;split at h
 ·rename_i h1;exact absurd h h1
 rename_i h1;split at h
 ·cases h
 ·exact⟨zba.1 h1,aa⟩
end Go.Dv.Try
namespace Go.Dv.Try
open Go Go.Dv Go.RowKit Go.MapKept
section
def My:List (Int×Bool):=[(16,true),(32,false),(48,true),(64,false),(96,true),(112,true),(128,false),(144,true),(160,false),(176,false),(192,false)]
structure MI(w0:World)(b:Nat)(l:List (Int×Bool))(w:World):Prop where
 b0:w0.heap.size<=b
 lt:b<w.heap.size
 is:∃es n,w.heap[b]?=some (.map es n)/\KO es l
 bel:Below w0.heap.size w0 w
def Vi:∀(l:List (Int×Bool)) (n:Int),n∉l.map Prod.fst->JC l n=none
 |[],_,_=>rfl
 |p::l,n,h=>by
  have h1:n≠p.1:=λe=>h (by simp[e])
  have hl:JC (p::l) n=(match decide (n=p.1)with|true=>some p.2|false=>JC l n):=rfl;rw[hl];simp only[h1,decide_false];exact Vi l n λhm=>h (by simp at hm ⊢;exact .inr hm)
def amy(w:World):∃w',(Instr.makeMap 204 none).run Go.Proofs.Tryz.prog w=.ok (.map (some w.heap.size)) w'/\MI w w.heap.size [] w':=by
 refine⟨w.alloc (.map #[] 0),by simp[Instr.makeMap,Result.andThen],zaj _,?_,⟨#[],0,(MapKept.heap_alloc w _).1,rfl⟩,?_⟩
 ·show w.heap.size<(w.heap.push _).size;rw[Array.size_push];omega
 ·exact(Below.refl _ _).alloc (zaj _) _
def l5{w0 w:World}{b:Nat}{l:List (Int×Bool)}{k:Int}{v:Bool}(h:MI w0 b l w)(hk:k∉l.map Prod.fst):
 ∃w',(Instr.mapUpdate 204 (.map (some b)) (.int .i64 k) (.bool v)).run Go.Proofs.Tryz.prog w=.ok () w'/\MI w0 b (l++[(k,v)]) w':=by
 obtain⟨h1,h2,⟨es,n,h3,h4⟩,h5⟩:=h;obtain⟨j,hj⟩:=B2 l es.toList k 0 h4;rw[Vi l k hk]at hj;have hm:=Go.Proofs.Tryz.underlying204;have hd:=Go.Proofs.Tryz.underlying3;refine⟨_,by simp[Instr.mapUpdate,run_underlying hm,MapKept.run_getObj_map h3,run_checkKey (k:=.int .i64 k) hd (by simp[IsKey]),run_findKey hd hj,run_setObj_map _ h3,Result.andThen];rfl,h1,?_,⟨_,_,(heap_set h3).1,?_⟩,?_⟩
 ·simpa using h2
 ·unfold KO at h4 ⊢;simp[h4]
 ·exact h5.trans ⟨rfl,rfl,rfl,ae,λr hr=>(heap_set h3).2 r aa⟩
open Go.Shelf Go.Proofs in
set_option maxRecDepth 100000 in
def WC(w:World):Calls Go.Proofs.Tryz.prog 200 #[] w λe w'=>∃b es n,e=.returned (.map (some b))/\w.heap.size<=b/\b<w'.heap.size/\w'.heap[b]?=some (.map es n)/\KO es My/\Below w.heap.size w w':=by
 have mixed:Go.Proofs.Tryz.prog.follows .mixedOrders=true:=mixed;have t3:=Go.Proofs.Tryz.underlying3;have a3:=Go.Proofs.Tryz.isAgg3;have z3:=Go.Proofs.Tryz.sizeOf3;have v3:=Go.Proofs.Tryz.zeroValue3;have t4:=Go.Proofs.Tryz.underlying4;have a4:=Go.Proofs.Tryz.isAgg4;have z4:=Go.Proofs.Tryz.sizeOf4;have v4:=Go.Proofs.Tryz.zeroValue4;have t204:=Go.Proofs.Tryz.underlying204;have aF7:=Go.Proofs.Tryz.isAgg204;have aF8:=Go.Proofs.Tryz.sizeOf204;have aF9:=Go.Proofs.Tryz.zeroValue204
 go_enter Go.Proofs.Tryz.func200,(show Go.Proofs.Tryz.f200.ntmps=3 from rfl)
 go_wp2
 obtain⟨w1,h1,h2⟩:=amy w;rw[h1];simp only[Result.andThen];rw[Oper.upon_value]
 go_wp2
 obtain⟨w2,e0,m0⟩:=l5 (k:=16) (v:=true) h2 af;rw[e0];simp only[Result.andThen];rw[Oper.upon_skip]
 go_wp2
 clear e0 h2;obtain⟨w3,e1,m1⟩:=l5 (k:=32) (v:=false) m0 af;rw[e1];simp only[Result.andThen];rw[Oper.upon_skip]
 go_wp2
 clear e1 m0;obtain⟨w4,e2,m2⟩:=l5 (k:=48) (v:=true) m1 af;rw[e2];simp only[Result.andThen];rw[Oper.upon_skip]
 go_wp2
 clear e2 m1;obtain⟨w5,e3,m3⟩:=l5 (k:=64) (v:=false) m2 af;rw[e3];simp only[Result.andThen];rw[Oper.upon_skip]
 go_wp2
 clear e3 m2;obtain⟨w6,e4,m4⟩:=l5 (k:=96) (v:=true) m3 af;rw[e4];simp only[Result.andThen];rw[Oper.upon_skip]
 go_wp2
 clear e4 m3;obtain⟨w7,e5,m5⟩:=l5 (k:=112) (v:=true) m4 af;rw[e5];simp only[Result.andThen];rw[Oper.upon_skip]
 go_wp2
 clear e5 m4;obtain⟨w8,e6,m6⟩:=l5 (k:=128) (v:=false) m5 af;rw[e6];simp only[Result.andThen];rw[Oper.upon_skip]
 go_wp2
 clear e6 m5;obtain⟨w9,e7,m7⟩:=l5 (k:=144) (v:=true) m6 af;rw[e7];simp only[Result.andThen];rw[Oper.upon_skip]
 go_wp2
 clear e7 m6;obtain⟨w10,e8,m8⟩:=l5 (k:=160) (v:=false) m7 af;rw[e8];simp only[Result.andThen];rw[Oper.upon_skip]
 go_wp2
 clear e8 m7;obtain⟨w11,e9,m9⟩:=l5 (k:=176) (v:=false) m8 af;rw[e9];simp only[Result.andThen];rw[Oper.upon_skip]
 go_wp2
 clear e9 m8;obtain⟨w12,e10,m10⟩:=l5 (k:=192) (v:=false) m9 af;rw[e10];simp only[Result.andThen];rw[Oper.upon_skip]
 go_wp2
 clear e10 m9
 go_ret
 obtain⟨h1,h2,⟨es,n,h3,h4⟩,h5⟩:=m10;exact⟨_,es,n,rfl,h1,h2,h3,h4,h5⟩
def HE(ps:List PV)(r:RV):Prop:=ps=[]/\r=.mp My
def aaz:bM Go.Proofs.Tryz.prog 200 (gR true HE):=by
 refine⟨λe=>fJ,λe=>fJ,?_,λ_ _ _ _ _ _ _ _ h=>(show False from h).elim,λ_ _ _ _ _ _ _ _ e=>fJ⟩;rintro w ok ps vs K _ ep iY ⟨r,⟨rfl,rfl⟩,hK⟩;simp only[cE]at iY;have:vs= #[]:=by rw[<-zcH];exact iY
 subst this;refine⟨Go.Proofs.enters_of Go.Proofs.Tryz.func200 bP rfl,(WC w).mono ?_⟩;rintro e w' ⟨b,es,n,rfl,h1,h2,h3,h4,h5⟩;refine⟨_,_,[.map (some b)],rfl,hK,h5,?_,?_,?_⟩
 ·simp only[RR];refine⟨trivial,b,es,n,rfl,⟨.inr h1,h2,?_⟩,h3,h4⟩;intro u hu;simp at hu;subst hu;intro e;cases e
 ·intro u hu b hb;simp at hu;subst hu;cases hb
 ·intro i j u t b _ hu _ hb;have:u∈([.map (some _)]:List Value):=zad hu;simp at this;subst this;cases hb
end
end Go.Dv.Try
namespace Go.Dv.Try
open Go Go.Dv
def auk(n:Int):(JC My n).isSome=true↔n∈Cz:=by
 unfold My JC Cz;simp only[]
 repeat'(split;·rename_i h;have:=of_decide_eq_true h;subst this;simp)
 rename_i h1 h2 h3 h4 h5 h6 h7 h8 h9 M7 Sv;simp at*;omega
def aqc(n:Int):(JC My n).getD false=true↔n∈LC:=by
 unfold My JC LC;simp only[]
 repeat'(split;·rename_i h;have:=of_decide_eq_true h;subst this;simp)
 rename_i h1 h2 h3 h4 h5 h6 h7 h8 h9 M7 Sv;simp at*;omega
def DO(ps:List PV)(p:Prop):Prop:=∃n:Int,ps=[pI n]/\p=(n∈Cz)
def O1:ay (ax [(200,gR true HE)]) rr sL sy (eX DO):=by
 rintro _ K ⟨_,⟨n,rfl,rfl⟩,hK⟩
 (repeat'((conv=>whnf);first|refine⟨_,⟨rfl,rfl⟩,?_⟩|fail))<;>try(conv=>whnf)
 exact⟨.pv (.bool _),rfl,trivial,hK _ (auk n)⟩
def B7(ps:List PV)(x:PV):Prop:=∃a:At,ps=[a.pv]/\rnS a.rn.l/\x=pI (fI a.rn.l)
def HY:ay (ax []) n_ oF oE (ah B7):=by
 rintro _ K ⟨_,⟨a,rfl,hs,rfl⟩,hK⟩
 (repeat'((conv=>whnf);first|refine jH ?_|refine gF λ_=>?_|fail))<;>try(conv=>whnf)
 refine⟨λm env σ=>∃(n:Nat),n+m=a.rn.l.length/\σ=[]/\env=[eN 3 (fI (a.rn.l.take n)),(7,.pv (x4 a.rn)),eN 8 a.rn.l.length,eN 9 n],a.rn.l.length,⟨0,aa,rfl,rfl⟩,?_⟩;rintro m env σ ⟨n,hn,rfl,rfl⟩;have hb:=hs.sum n aa;have hl:=hs.1
 (repeat'((conv=>whnf);first|(refine IXA aa (λx hx=>?_);have:=hs.2 x (zad hx))|refine dJ aa ?_|refine cA (λ_=>?_) (λ_=>?_)|refine cw ?_|fail))<;>try(conv=>whnf)
 ·exact D_
 ·rw[za1 aa];exact aB
def Rb(ps:List PV)(x:PV):Prop:=∃a:At,ps=[a.pv]/\x=pI (zO a)
def Nw:ay (ax [(130,ah db),(129,ah eM)]) lM lN lx (ah Rb):=by
 rintro _ K ⟨_,⟨a,rfl,rfl⟩,hK⟩;unfold zO Kx at hK
 (repeat'((conv=>whnf);first|refine jH ?_|(refine ko ?_;first|refine cA (λ_=>?_) (λ_=>?_)|refine gF λ_=>?_|refine cw ?_|refine⟨_,⟨_,_,rfl,rfl⟩,?_⟩|refine⟨_,⟨[_,_],rfl,rfl⟩,?_⟩|fail)))<;>try(conv=>whnf)
 all_goals(refine⟨.pv (pI _),fH ?_,trivial,hK⟩;simp only[bF,if_true,zaG,if_false,reduceCtorEq];(repeat' split)<;>first|rfl|omega)
def IP:ay (ax [(167,eX ae1)]) zh zn zc (eX DO):=by
 rintro _ K ⟨_,⟨n,rfl,rfl⟩,hK⟩
 (repeat'((conv=>whnf);first|refine⟨_,⟨Cz,n,rfl,af,rfl⟩,?_⟩|refine cA (λ_=>?_) (λ_=>?_)|refine cw ?_|fail))<;>try(conv=>whnf)
 all_goals exact mi
def MR(ps:List PV)(p:Prop):Prop:=∃s:List UInt8,ps=[.str s]/\p=cb s
def GO:ay (ax [(168,ah Dc)]) lP ly lI (eX MR):=by
 rintro _ K ⟨_,⟨s,rfl,rfl⟩,hK⟩;unfold cb at hK
 (repeat'((conv=>whnf);first|refine⟨_,⟨s,rfl,rfl⟩,?_⟩|refine cA (λ_=>?_) (λ_=>?_)|fail))<;>try(conv=>whnf)
 ·rename_i h;have h:s=[]:=h;exact D7
 ·rename_i h _;have h:s≠[]:=h;exact mF
 ·rename_i h _;have h:s≠[]:=h;exact mF
def JL(ps:List PV)(x:PV):Prop:=∃s:List UInt8,ps=[.str s]/\x=pI (if cb s then 0 else 4)
def Kl:ay (ax [(164,ah Dc),(130,ah db)]) qe qc qA (ah JL):=by
 rintro _ K ⟨_,⟨s,rfl,rfl⟩,hK⟩;unfold cb at hK
 (repeat'((conv=>whnf);first|refine⟨_,⟨s,rfl,rfl⟩,?_⟩|(refine ko ?_;first|refine cA (λ_=>?_) (λ_=>?_)|refine⟨_,⟨_,_,rfl,rfl⟩,?_⟩|fail)))<;>try(conv=>whnf)
 ·rename_i h;have h:s=[]:=h;exact⟨.pv (pI _),fH rM,trivial,hK⟩
 ·rename_i h _;have h:s≠[]:=h;exact⟨.pv (pI _),fH (by simp_all),trivial,hK⟩
 ·rename_i h _;have h:s≠[]:=h;exact⟨.pv (pI _),fH (by simp_all),trivial,hK⟩
def Q3(ps:List PV)(x:PV):Prop:=∃a:At,ps=[a.pv]/\x=pI (yN a)
def NY{l:List Rn}(h:jY l=0):rnS l:=SS (by have:=(ju h).1;omega) (ju h).2.1
def TI{l:List Rn}(h:jY l=0):0<=fI l/\fI l<=4096:=by
 refine⟨?_,(ju h).2.2.1⟩;have:=(ju h).2.2.2;clear h
 induction l with
 |nil=>exact Int.le_refl 0
 |cons r l ih=>
  have h1:=this r ae;have h2:=ih (λx hx=>this x kG);have:fI (r::l)=r.n+fI l:=by simp[fI]
  unfold oT at h1;split at h1<;>omega
def Zc{A bs:List UInt8}{z g at_:Nat}(e:at_=A.length+g)(h:g+bs.length<=z):xU (A++ab z) at_ bs=A++ab g++bs++ab (z-g-bs.length):=by
 subst e;unfold xU ab;rw[List.take_append,za1 aa,List.drop_append,zcd aa,za0,show A.length+g-A.length=g by omega,show A.length+g+bs.length-A.length=g+bs.length by omega,List.take_replicate,List.drop_replicate,show min g z=g by omega,show z-(g+bs.length)=z-g-bs.length by omega]
def YL{A X C bs:List UInt8}{at_:Nat}(e:at_=A.length)(h:X.length=bs.length):xU (A++(X++C)) at_ bs=A++(bs++C):=by
 subst e;unfold xU;rw[List.take_left,<-h,show A.length+X.length=(A++X).length by simp,<-zah A X C,List.drop_left,zah]
def cd:List UInt8->Nat->List UInt8->List UInt8
 |B,_,[]=>B
 |B,at_,b::bs=>cd (B.set at_ b) (at_+1) bs
def sI(bs:List UInt8):∀(B:List UInt8) (at_:Nat),(cd B at_ bs).length=B.length:=by
 induction bs with
 |nil=>intro B at_;rfl
 |cons b bs ih=>intro B at_;rw[cd,ih,zaL]
def WO{B bs:List UInt8}{at_:Nat}{b:UInt8}(h:at_+bs.length<B.length):xU B at_ (b::bs)=xU (B.set at_ b) (at_+1) bs:=by
 unfold xU;have h1:(B.set at_ b).take (at_+1)=B.take at_++[b]:=by
  rw[zct,List.take_set_of_le (zaj _),List.getElem?_set_self aa];rfl
 have h2:(B.set at_ b).drop (at_+1+bs.length)=B.drop (at_+(b::bs).length):=by
  rw[List.drop_set_of_lt aa];simp only[zap];congr 1;omega
 rw[h1,h2];simp
def HM(bs:List UInt8):∀(B:List UInt8) (at_:Nat),at_+bs.length<=B.length->cd B at_ bs=xU B at_ bs:=by
 induction bs with
 |nil=>intro B at_ _;rw[Pq];rfl
 |cons b bs ih=>
  intro B at_ h;simp only[zap]at h;rw[cd,ih _ _ (by rw[zaL];omega),WO aa]
def Ja(xs:List AV)(σ:aw)(K:AV->aw->Prop):Prop:=∃(B:List UInt8) (at_ k:Nat) (n:Int),xs=[.own 0,.pv (pI at_),.pv (pI k),.pv (pI n)]/\(at_+k<=B.length/\B.length<=1000000)/\σ=[.row 5 1 true (B.map aR)]/\K (.tup []) [.row 5 1 true ((cd B at_ (aq n k)).map aR)]
def Vm{xs:List AV}{σ:aw}{K:AV->aw->Prop}(h:Ja xs σ K):ae4 xs σ K:=by
 obtain⟨B,at_,k,n,h1,h2,h3,h4⟩:=h;rw[HM _ _ _ (by rw[dn];exact h2.1)]at h4;exact⟨B,at_,k,n,h1,h2,h3,h4⟩
def Tf:ki (ax []) pq pn pA (x3 Ja):=λxs σ K h=>MQ xs σ K (Vm h)
def OH:ki (ax []) wQ xl xh (x3 Ja):=λxs σ K h=>MQ xs σ K (Vm h)
def Ks{B ys:List UInt8}{lo n:Nat}(h:n=B.length-lo)(h2:lo+ys.length<=B.length):
 (B.map aR).take lo++(ys.map aR).take n++(B.map aR).drop (lo+min (ys.map aR).length n)=(cd B lo ys).map aR:=by
 rw[HM _ _ _ h2];unfold xU;have h3:(ys.map aR).take n=ys.map aR:=za1 (by rw[zan];omega);have h4:min (ys.map aR).length n=ys.length:=by rw[zan];omega
 rw[h3,h4,<-List.map_take,<-List.map_drop,zaD,zaD]
def JK(W:Nat):List.replicate W (PV.int .u8 0)=(ab W).map aR:=by unfold ab;rw[zcx];rfl
def XT(ps:List PV)(x:PV):Prop:=∃(b:Bool) (h:Int),ps=[pB b]/\h=(if b=true then 24 else 40)/\x=pI h
def Tc:ay (ax []) vq uG vf (ah XT):=by
 rintro _ K ⟨_,⟨b,h,rfl,rfl,rfl⟩,hK⟩;cases b
 ·exact aB
 ·exact aB
def MT(ps:List PV)(x:PV):Prop:=∃(n:Int) (m:Nat),ps=[pI n]/\(0<=n/\n<=1000000/\m=pf n.toNat)/\x=pI m
def K_:ay (ax []) pP qh qx (ah MT):=by
 rintro _ K ⟨_,⟨n,m,rfl,⟨h1,h2,rfl⟩,rfl⟩,hK⟩;unfold pf at hK
 (repeat'((conv=>whnf);first|refine dJ aa ?_|refine QUO aa ?_|fail))<;>try(conv=>whnf)
 refine⟨.pv (pI _),fH ?_,trivial,hK⟩;omega
def ca{P bs:List UInt8}{z g at_ n:Nat}(e:at_=P.length+g)(h:g+bs.length<=z)(e2:n=z-g-bs.length):cd (P++ab z) at_ bs=P++ab g++bs++ab n:=by
 rw[HM _ _ _ (by rw[zae,bS];omega),Zc e h,e2]
def YZ{P X C bs:List UInt8}{at_:Nat}(e:at_=P.length)(h:X.length=bs.length):cd (P++(X++C)) at_ bs=P++(bs++C):=by
 rw[HM _ _ _ (by simp only[zae];omega),YL e h]
def aej{ty fl id:Int}{nm vl:List UInt8}{W A:Nat}(h1:24+nm.length<=A)(h2:A+vl.length<=W):
 cd (cd (cd (cd (cd (cd (cd (cd (cd (cd (ab W) 0 (aq ty 4)) 4 (aq (W:Nat) 4)) 9 (aq (nm.length:Nat) 1)) 10 (aq 24 2)) 12 (aq fl 2)) 14 (aq id 2)) 16 (aq (vl.length:Nat) 4)) 20 (aq (A:Nat) 4)) 24 nm) A vl=
 aq ty 4++aq (W:Nat) 4++aq 0 1++aq (nm.length:Nat) 1++aq 24 2++aq fl 2++aq id 2++(aq (vl.length:Nat) 4++aq (A:Nat) 4)++nm++ab (A-24-nm.length)++vl++ab (W-A-vl.length):=by
 have s0:cd (([]:List UInt8)++ab (W)) 0 (aq ty 4)=([]:List UInt8)++ab 0++aq ty 4++ab (W-4):=ca (g:=0) bA aJ aJ;have s1:cd (([]:List UInt8)++ab 0++aq ty 4++ab (W-4)) 4 (aq (W:Nat) 4)=([]:List UInt8)++ab 0++aq ty 4++ab 0++aq (W:Nat) 4++ab (W-8):=ca (g:=0) bA aJ aJ;have s2:cd (([]:List UInt8)++ab 0++aq ty 4++ab 0++aq (W:Nat) 4++ab (W-8)) 9 (aq (nm.length:Nat) 1)=([]:List UInt8)++ab 0++aq ty 4++ab 0++aq (W:Nat) 4++ab 1++aq (nm.length:Nat) 1++ab (W-10):=ca (g:=1) bA aJ aJ;have s3:cd (([]:List UInt8)++ab 0++aq ty 4++ab 0++aq (W:Nat) 4++ab 1++aq (nm.length:Nat) 1++ab (W-10)) 10 (aq 24 2)=([]:List UInt8)++ab 0++aq ty 4++ab 0++aq (W:Nat) 4++ab 1++aq (nm.length:Nat) 1++ab 0++aq 24 2++ab (W-12):=ca (g:=0) bA aJ aJ;have s4:cd (([]:List UInt8)++ab 0++aq ty 4++ab 0++aq (W:Nat) 4++ab 1++aq (nm.length:Nat) 1++ab 0++aq 24 2++ab (W-12)) 12 (aq fl 2)=([]:List UInt8)++ab 0++aq ty 4++ab 0++aq (W:Nat) 4++ab 1++aq (nm.length:Nat) 1++ab 0++aq 24 2++ab 0++aq fl 2++ab (W-14):=ca (g:=0) bA aJ aJ;have s5:cd (([]:List UInt8)++ab 0++aq ty 4++ab 0++aq (W:Nat) 4++ab 1++aq (nm.length:Nat) 1++ab 0++aq 24 2++ab 0++aq fl 2++ab (W-14)) 14 (aq id 2)=([]:List UInt8)++ab 0++aq ty 4++ab 0++aq (W:Nat) 4++ab 1++aq (nm.length:Nat) 1++ab 0++aq 24 2++ab 0++aq fl 2++ab 0++aq id 2++ab (W-16):=ca (g:=0) bA aJ aJ;have s6:cd (([]:List UInt8)++ab 0++aq ty 4++ab 0++aq (W:Nat) 4++ab 1++aq (nm.length:Nat) 1++ab 0++aq 24 2++ab 0++aq fl 2++ab 0++aq id 2++ab (W-16)) 16 (aq (vl.length:Nat) 4)=([]:List UInt8)++ab 0++aq ty 4++ab 0++aq (W:Nat) 4++ab 1++aq (nm.length:Nat) 1++ab 0++aq 24 2++ab 0++aq fl 2++ab 0++aq id 2++ab 0++aq (vl.length:Nat) 4++ab (W-20):=ca (g:=0) bA aJ aJ
 have s7:cd (([]:List UInt8)++ab 0++aq ty 4++ab 0++aq (W:Nat) 4++ab 1++aq (nm.length:Nat) 1++ab 0++aq 24 2++ab 0++aq fl 2++ab 0++aq id 2++ab 0++aq (vl.length:Nat) 4++ab (W-20)) 20 (aq (A:Nat) 4)=([]:List UInt8)++ab 0++aq ty 4++ab 0++aq (W:Nat) 4++ab 1++aq (nm.length:Nat) 1++ab 0++aq 24 2++ab 0++aq fl 2++ab 0++aq id 2++ab 0++aq (vl.length:Nat) 4++ab 0++aq (A:Nat) 4++ab (W-24):=ca (g:=0) bA aJ aJ;have c1:cd (([]:List UInt8)++ab 0++aq ty 4++ab 0++aq (W:Nat) 4++ab 1++aq (nm.length:Nat) 1++ab 0++aq 24 2++ab 0++aq fl 2++ab 0++aq id 2++ab 0++aq (vl.length:Nat) 4++ab 0++aq (A:Nat) 4++ab (W-24)) 24 nm=([]:List UInt8)++ab 0++aq ty 4++ab 0++aq (W:Nat) 4++ab 1++aq (nm.length:Nat) 1++ab 0++aq 24 2++ab 0++aq fl 2++ab 0++aq id 2++ab 0++aq (vl.length:Nat) 4++ab 0++aq (A:Nat) 4++ab 0++nm++ab (W-24-nm.length):=ca (g:=0) bA aa aa;have c2:cd (([]:List UInt8)++ab 0++aq ty 4++ab 0++aq (W:Nat) 4++ab 1++aq (nm.length:Nat) 1++ab 0++aq 24 2++ab 0++aq fl 2++ab 0++aq id 2++ab 0++aq (vl.length:Nat) 4++ab 0++aq (A:Nat) 4++ab 0++nm++ab (W-24-nm.length)) A vl=([]:List UInt8)++ab 0++aq ty 4++ab 0++aq (W:Nat) 4++ab 1++aq (nm.length:Nat) 1++ab 0++aq 24 2++ab 0++aq fl 2++ab 0++aq id 2++ab 0++aq (vl.length:Nat) 4++ab 0++aq (A:Nat) 4++ab 0++nm++ab (A-24-nm.length)++vl++ab (W-A-vl.length):=ca (g:=A-24-nm.length) (by simp only[zae,dn,bS,zaZ];omega) aa aa;rw[show ab W=([]:List UInt8)++ab W from rfl,s0,s1,s2,s3,s4,s5,s6,s7,c1,c2];have z0:ab 0=[]:=rfl;have z1:ab 1=aq 0 1:=rfl;rw[z0,z1];simp only[za0,zaY,zah]
def adF{ty fl id ft la al sz vd:Int}{nm vl:List UInt8}{W A:Nat}(h1:40+nm.length<=A)(h2:A+vl.length<=W):
 cd (cd (cd (cd (cd (cd (cd (cd (cd (cd (cd (cd (cd (cd (cd (ab W) 0 (aq ty 4)) 4 (aq (W:Nat) 4)) 9 (aq (nm.length:Nat) 1)) 10 (aq 40 2)) 12 (aq fl 2)) 14 (aq id 2)) 8 (aq 1 1)) 16 (aq ft 4)) 20 (aq la 4)) 24 (aq (A:Nat) 2)) 28 (aq al 4)) 32 (aq sz 4)) 36 (aq vd 4)) 40 nm) A vl=
 aq ty 4++aq (W:Nat) 4++aq 1 1++aq (nm.length:Nat) 1++aq 40 2++aq fl 2++aq id 2++(aq ft 4++aq la 4++aq (A:Nat) 2++ab 2++aq al 4++aq sz 4++aq vd 4)++nm++ab (A-40-nm.length)++vl++ab (W-A-vl.length):=by
 have s0:cd (([]:List UInt8)++ab (W)) 0 (aq ty 4)=([]:List UInt8)++ab 0++aq ty 4++ab (W-4):=ca (g:=0) bA aJ aJ;have s1:cd (([]:List UInt8)++ab 0++aq ty 4++ab (W-4)) 4 (aq (W:Nat) 4)=([]:List UInt8)++ab 0++aq ty 4++ab 0++aq (W:Nat) 4++ab (W-8):=ca (g:=0) bA aJ aJ;have s2:cd (([]:List UInt8)++ab 0++aq ty 4++ab 0++aq (W:Nat) 4++ab (W-8)) 9 (aq (nm.length:Nat) 1)=([]:List UInt8)++ab 0++aq ty 4++ab 0++aq (W:Nat) 4++ab 1++aq (nm.length:Nat) 1++ab (W-10):=ca (g:=1) bA aJ aJ;have s3:cd (([]:List UInt8)++ab 0++aq ty 4++ab 0++aq (W:Nat) 4++ab 1++aq (nm.length:Nat) 1++ab (W-10)) 10 (aq 40 2)=([]:List UInt8)++ab 0++aq ty 4++ab 0++aq (W:Nat) 4++ab 1++aq (nm.length:Nat) 1++ab 0++aq 40 2++ab (W-12):=ca (g:=0) bA aJ aJ;have s4:cd (([]:List UInt8)++ab 0++aq ty 4++ab 0++aq (W:Nat) 4++ab 1++aq (nm.length:Nat) 1++ab 0++aq 40 2++ab (W-12)) 12 (aq fl 2)=([]:List UInt8)++ab 0++aq ty 4++ab 0++aq (W:Nat) 4++ab 1++aq (nm.length:Nat) 1++ab 0++aq 40 2++ab 0++aq fl 2++ab (W-14):=ca (g:=0) bA aJ aJ;have s5:cd (([]:List UInt8)++ab 0++aq ty 4++ab 0++aq (W:Nat) 4++ab 1++aq (nm.length:Nat) 1++ab 0++aq 40 2++ab 0++aq fl 2++ab (W-14)) 14 (aq id 2)=([]:List UInt8)++ab 0++aq ty 4++ab 0++aq (W:Nat) 4++ab 1++aq (nm.length:Nat) 1++ab 0++aq 40 2++ab 0++aq fl 2++ab 0++aq id 2++ab (W-16):=ca (g:=0) bA aJ aJ;have m:cd (([]:List UInt8)++ab 0++aq ty 4++ab 0++aq (W:Nat) 4++ab 1++aq (nm.length:Nat) 1++ab 0++aq 40 2++ab 0++aq fl 2++ab 0++aq id 2++ab (W-16)) 8 (aq 1 1)=([]:List UInt8)++ab 0++aq ty 4++ab 0++aq (W:Nat) 4++aq 1 1++aq (nm.length:Nat) 1++ab 0++aq 40 2++ab 0++aq fl 2++ab 0++aq id 2++ab (W-16):=by
  have:=YZ (P:=([]:List UInt8)++ab 0++aq ty 4++ab 0++aq (W:Nat) 4) (X:=ab 1) (C:=aq (nm.length:Nat) 1++(ab 0++(aq 40 2++(ab 0++(aq fl 2++(ab 0++(aq id 2++ab (W-16)))))))) (at_:=8) (bs:=aq 1 1) bA (by rw[dn,bS]);simp only[zah]at this ⊢;exact this
 have r0:cd (([]:List UInt8)++ab 0++aq ty 4++ab 0++aq (W:Nat) 4++aq 1 1++aq (nm.length:Nat) 1++ab 0++aq 40 2++ab 0++aq fl 2++ab 0++aq id 2++ab (W-16)) 16 (aq ft 4)=([]:List UInt8)++ab 0++aq ty 4++ab 0++aq (W:Nat) 4++aq 1 1++aq (nm.length:Nat) 1++ab 0++aq 40 2++ab 0++aq fl 2++ab 0++aq id 2++ab 0++aq ft 4++ab (W-20):=ca (g:=0) bA aJ aJ;have r1:cd (([]:List UInt8)++ab 0++aq ty 4++ab 0++aq (W:Nat) 4++aq 1 1++aq (nm.length:Nat) 1++ab 0++aq 40 2++ab 0++aq fl 2++ab 0++aq id 2++ab 0++aq ft 4++ab (W-20)) 20 (aq la 4)=([]:List UInt8)++ab 0++aq ty 4++ab 0++aq (W:Nat) 4++aq 1 1++aq (nm.length:Nat) 1++ab 0++aq 40 2++ab 0++aq fl 2++ab 0++aq id 2++ab 0++aq ft 4++ab 0++aq la 4++ab (W-24):=ca (g:=0) bA aJ aJ;have r2:cd (([]:List UInt8)++ab 0++aq ty 4++ab 0++aq (W:Nat) 4++aq 1 1++aq (nm.length:Nat) 1++ab 0++aq 40 2++ab 0++aq fl 2++ab 0++aq id 2++ab 0++aq ft 4++ab 0++aq la 4++ab (W-24)) 24 (aq (A:Nat) 2)=([]:List UInt8)++ab 0++aq ty 4++ab 0++aq (W:Nat) 4++aq 1 1++aq (nm.length:Nat) 1++ab 0++aq 40 2++ab 0++aq fl 2++ab 0++aq id 2++ab 0++aq ft 4++ab 0++aq la 4++ab 0++aq (A:Nat) 2++ab (W-26):=ca (g:=0) bA aJ aJ;have r3:cd (([]:List UInt8)++ab 0++aq ty 4++ab 0++aq (W:Nat) 4++aq 1 1++aq (nm.length:Nat) 1++ab 0++aq 40 2++ab 0++aq fl 2++ab 0++aq id 2++ab 0++aq ft 4++ab 0++aq la 4++ab 0++aq (A:Nat) 2++ab (W-26)) 28 (aq al 4)=([]:List UInt8)++ab 0++aq ty 4++ab 0++aq (W:Nat) 4++aq 1 1++aq (nm.length:Nat) 1++ab 0++aq 40 2++ab 0++aq fl 2++ab 0++aq id 2++ab 0++aq ft 4++ab 0++aq la 4++ab 0++aq (A:Nat) 2++ab 2++aq al 4++ab (W-32):=ca (g:=2) bA aJ aJ
 have r4:cd (([]:List UInt8)++ab 0++aq ty 4++ab 0++aq (W:Nat) 4++aq 1 1++aq (nm.length:Nat) 1++ab 0++aq 40 2++ab 0++aq fl 2++ab 0++aq id 2++ab 0++aq ft 4++ab 0++aq la 4++ab 0++aq (A:Nat) 2++ab 2++aq al 4++ab (W-32)) 32 (aq sz 4)=([]:List UInt8)++ab 0++aq ty 4++ab 0++aq (W:Nat) 4++aq 1 1++aq (nm.length:Nat) 1++ab 0++aq 40 2++ab 0++aq fl 2++ab 0++aq id 2++ab 0++aq ft 4++ab 0++aq la 4++ab 0++aq (A:Nat) 2++ab 2++aq al 4++ab 0++aq sz 4++ab (W-36):=ca (g:=0) bA aJ aJ;have r5:cd (([]:List UInt8)++ab 0++aq ty 4++ab 0++aq (W:Nat) 4++aq 1 1++aq (nm.length:Nat) 1++ab 0++aq 40 2++ab 0++aq fl 2++ab 0++aq id 2++ab 0++aq ft 4++ab 0++aq la 4++ab 0++aq (A:Nat) 2++ab 2++aq al 4++ab 0++aq sz 4++ab (W-36)) 36 (aq vd 4)=([]:List UInt8)++ab 0++aq ty 4++ab 0++aq (W:Nat) 4++aq 1 1++aq (nm.length:Nat) 1++ab 0++aq 40 2++ab 0++aq fl 2++ab 0++aq id 2++ab 0++aq ft 4++ab 0++aq la 4++ab 0++aq (A:Nat) 2++ab 2++aq al 4++ab 0++aq sz 4++ab 0++aq vd 4++ab (W-40):=ca (g:=0) bA aJ aJ;have c1:cd (([]:List UInt8)++ab 0++aq ty 4++ab 0++aq (W:Nat) 4++aq 1 1++aq (nm.length:Nat) 1++ab 0++aq 40 2++ab 0++aq fl 2++ab 0++aq id 2++ab 0++aq ft 4++ab 0++aq la 4++ab 0++aq (A:Nat) 2++ab 2++aq al 4++ab 0++aq sz 4++ab 0++aq vd 4++ab (W-40)) 40 nm=([]:List UInt8)++ab 0++aq ty 4++ab 0++aq (W:Nat) 4++aq 1 1++aq (nm.length:Nat) 1++ab 0++aq 40 2++ab 0++aq fl 2++ab 0++aq id 2++ab 0++aq ft 4++ab 0++aq la 4++ab 0++aq (A:Nat) 2++ab 2++aq al 4++ab 0++aq sz 4++ab 0++aq vd 4++ab 0++nm++ab (W-40-nm.length):=ca (g:=0) bA aa aa;have c2:cd (([]:List UInt8)++ab 0++aq ty 4++ab 0++aq (W:Nat) 4++aq 1 1++aq (nm.length:Nat) 1++ab 0++aq 40 2++ab 0++aq fl 2++ab 0++aq id 2++ab 0++aq ft 4++ab 0++aq la 4++ab 0++aq (A:Nat) 2++ab 2++aq al 4++ab 0++aq sz 4++ab 0++aq vd 4++ab 0++nm++ab (W-40-nm.length)) A vl=([]:List UInt8)++ab 0++aq ty 4++ab 0++aq (W:Nat) 4++aq 1 1++aq (nm.length:Nat) 1++ab 0++aq 40 2++ab 0++aq fl 2++ab 0++aq id 2++ab 0++aq ft 4++ab 0++aq la 4++ab 0++aq (A:Nat) 2++ab 2++aq al 4++ab 0++aq sz 4++ab 0++aq vd 4++ab 0++nm++ab (A-40-nm.length)++vl++ab (W-A-vl.length):=ca (g:=A-40-nm.length) (by simp only[zae,dn,bS,zaZ];omega) aa aa
 rw[show ab W=([]:List UInt8)++ab W from rfl,s0,s1,s2,s3,s4,s5,m,r0,r1,r2,r3,r4,r5,c1,c2];have z0:ab 0=[]:=rfl;rw[z0];simp only[za0,zaY,zah]
def FG(ps:List PV)(x:PV):Prop:=∃a:At,ps=[a.pv]/\AX a=0/\x=.str (Cd a)
def LB:ay (ax [(202,gR true CI),(203,ah XT),(204,ah MT),(205,x3 Ja),(201,ah B7)]) qE qw pZ (ah FG):=by
 rintro _ K ⟨_,⟨a,rfl,ha,rfl⟩,hK⟩;have hA:=V5.of ha;obtain⟨ty,nm,id,fl,rs,vl,ft,rn,al,sz,vd⟩:=a;have hnm:=hA.nmL;simp only at hnm;simp only[At.pv];cases rs with
 |true=>
  obtain⟨_,_,CD⟩:=hA.rs rfl;simp only at CD;have h1:=dX (24+nm.length);have h2:=dX (pf (24+nm.length)+vl.length);obtain⟨W,hW⟩:∃W,W=pf (pf (24+nm.length)+vl.length):=⟨_,rfl⟩
  obtain⟨A,hA⟩:∃A,A=pf (24+nm.length):=⟨_,rfl⟩
  rw[<-hA]at h1 h2 hW;rw[<-hW]at h2;have R7:∀B:List UInt8,B.length=W->(B.map aR).take (Int.toNat 24)++(nm.map aR).take ((B.map aR).length-Int.toNat 24)++(B.map aR).drop (Int.toNat 24+min (nm.map aR).length ((B.map aR).length-Int.toNat 24))=(cd B 24 nm).map aR:=
   λB hB=>Ks (lo:=24) vD aa
  have LZ:∀B:List UInt8,B.length=W->(B.map aR).take (A:Int).toNat++(vl.map aR).take ((B.map aR).length-(A:Int).toNat)++(B.map aR).drop ((A:Int).toNat+min (vl.map aR).length ((B.map aR).length-(A:Int).toNat))=(cd B A vl).map aR:=
   λB hB=>Ks (lo:=A) vD aa
  (repeat'((conv=>whnf);first|refine⟨_,⟨true,24,rfl,rfl,rfl⟩,?_⟩|(rw[JK,zcl])|(simp only[R7,LZ,sI,bS])|refine Or.inr ?_|refine zco (by(simp only[if_true,zan,sI,bS];omega)) ?_|refine⟨_,0,4,_,rfl,⟨aF,aF⟩,rfl,?_⟩|refine⟨_,4,4,_,rfl,⟨aF,aF⟩,rfl,?_⟩|refine⟨_,9,1,_,rfl,⟨aF,aF⟩,rfl,?_⟩|refine⟨_,10,2,_,rfl,⟨aF,aF⟩,rfl,?_⟩|refine⟨_,12,2,_,rfl,⟨aF,aF⟩,rfl,?_⟩|refine⟨_,14,2,_,rfl,⟨aF,aF⟩,rfl,?_⟩|refine⟨_,16,4,_,rfl,⟨aF,aF⟩,rfl,?_⟩|refine⟨_,20,4,_,rfl,⟨aF,aF⟩,rfl,?_⟩|refine⟨_,⟨_,W,rfl,⟨aa,aa,Is⟩,rfl⟩,?_⟩|(refine ko ?_;first|refine dJ aa ?_|refine dY ?_|refine gF λ_=>?_|refine BTS ?_|refine cw ?_|refine⟨_,⟨_,_,rfl,zE,rfl⟩,?_⟩|refine Vu ?_|fail)))<;>try(conv=>whnf)
  rw[show Cd ⟨ty,nm,id,fl,true,vl,ft,rn,al,sz,vd⟩=aq ty 4++aq (W:Nat) 4++aq 0 1++aq (nm.length:Nat) 1++aq 24 2++aq fl 2++aq id 2++(aq (vl.length:Nat) 4++aq (A:Nat) 4)++nm++ab (A-24-nm.length)++vl++ab (W-A-vl.length)from by rw[hW,hA];rfl,<-aej h1.1 h2.1]at hK;exact im
 |false=>
  obtain⟨_,rfl,hft,hz,hsm,kq,_⟩:=hA.ot rfl;simp only[mn]at hft hz hsm kq;have hs:=TI hz;have hrl:=(ju hz).1;have Xk:(iZ rn.l).length<=400:=by
   unfold iZ;have:=yS rn.l rn.l.length (zaj _);simp only[zae,zap,zaZ];omega
  obtain⟨vl,CD⟩:∃vl,vl=iZ rn.l:=⟨_,rfl⟩
  rw[<-CD]at Xk;have h1:=dX (40+nm.length);have h2:=dX (pf (40+nm.length)+vl.length);obtain⟨W,hW⟩:∃W,W=pf (pf (40+nm.length)+vl.length):=⟨_,rfl⟩
  obtain⟨A,hA⟩:∃A,A=pf (40+nm.length):=⟨_,rfl⟩
  rw[<-hA]at h1 h2 hW;rw[<-hW]at h2;have R7:∀B:List UInt8,B.length=W->(B.map aR).take (Int.toNat 40)++(nm.map aR).take ((B.map aR).length-Int.toNat 40)++(B.map aR).drop (Int.toNat 40+min (nm.map aR).length ((B.map aR).length-Int.toNat 40))=(cd B 40 nm).map aR:=
   λB hB=>Ks (lo:=40) vD aa
  have LZ:∀B:List UInt8,B.length=W->(B.map aR).take (A:Int).toNat++(vl.map aR).take ((B.map aR).length-(A:Int).toNat)++(B.map aR).drop ((A:Int).toNat+min (vl.map aR).length ((B.map aR).length-(A:Int).toNat))=(cd B A vl).map aR:=
   λB hB=>Ks (lo:=A) vD aa
  (repeat'((conv=>whnf);first|refine⟨_,⟨false,40,rfl,rfl,rfl⟩,?_⟩|refine⟨RV.tup [.pv (.str vl),.pv (pI 0)],⟨rn,rfl,by rw[hz,if_pos rfl,CD]⟩,?_⟩|(simp only[R7,LZ,sI,bS])|(rw[JK,zcl])|refine Or.inr ?_|refine zco (by(simp only[if_true,zan,sI,bS];omega)) ?_|refine⟨_,0,4,_,rfl,⟨aF,aF⟩,rfl,?_⟩|refine⟨_,4,4,_,rfl,⟨aF,aF⟩,rfl,?_⟩|refine⟨_,9,1,_,rfl,⟨aF,aF⟩,rfl,?_⟩|refine⟨_,10,2,_,rfl,⟨aF,aF⟩,rfl,?_⟩|refine⟨_,12,2,_,rfl,⟨aF,aF⟩,rfl,?_⟩|refine⟨_,14,2,_,rfl,⟨aF,aF⟩,rfl,?_⟩|refine⟨_,8,1,_,rfl,⟨aF,aF⟩,rfl,?_⟩|refine⟨_,16,4,_,rfl,⟨aF,aF⟩,rfl,?_⟩|refine⟨_,20,4,_,rfl,⟨aF,aF⟩,rfl,?_⟩|refine⟨_,24,2,_,rfl,⟨aF,aF⟩,rfl,?_⟩|refine⟨_,28,4,_,rfl,⟨aF,aF⟩,rfl,?_⟩|refine⟨_,32,4,_,rfl,⟨aF,aF⟩,rfl,?_⟩|refine⟨_,36,4,_,rfl,⟨aF,aF⟩,rfl,?_⟩|refine⟨_,⟨⟨ty,nm,id,fl,false,[],ft,rn,al,sz,vd⟩,rfl,NY hz,rfl⟩,?_⟩|refine⟨_,⟨_,W,rfl,⟨aa,aa,Is⟩,rfl⟩,?_⟩|(refine ko ?_;first|refine dJ aa ?_|refine ai af ?_|refine gF λ_=>?_|refine BTS ?_|refine cw ?_|refine⟨_,⟨_,_,rfl,zE,rfl⟩,?_⟩|refine Vu ?_|fail)))<;>try(conv=>whnf)
  rw[show Cd ⟨ty,nm,id,fl,false,[],ft,rn,al,sz,vd⟩=aq ty 4++aq (W:Nat) 4++aq 1 1++aq (nm.length:Nat) 1++aq 40 2++aq fl 2++aq id 2++(aq ft 4++aq (ft+fI rn.l-1) 4++aq (A:Nat) 2++ab 2++aq al 4++aq sz 4++aq vd 4)++nm++ab (A-40-nm.length)++vl++ab (W-A-vl.length)from by rw[hW,hA,CD];rfl,<-adF h1.1 h2.1]at hK;exact im
def ML{n:Int}{A:Nat}(h:0<=n)(e:A=pf n.toNat):pI ((A/8:Nat):Int)=pI (YV n 8):=by
 unfold YV;unfold pf at e;congr 1;omega
def adL(n:Int):aq (n%4294967296) 4=aq n 4:=Ou 4 n
def Rp(ps:List PV)(x:PV):Prop:=∃(s:List UInt8) (p:Nat),ps=[.str s]/\(s.length<=100000/\p=pf s.length-s.length)/\x=.str (s++ab p)
def OW:ay (ax [(86,ah NG),(110,ah Au)]) zz yj zM (ah Rp):=by
 rintro _ K ⟨_,⟨s,p,rfl,⟨hs,rfl⟩,rfl⟩,hK⟩;have h1:=dX s.length;obtain⟨A,hA⟩:∃A,A=pf s.length:=⟨_,rfl⟩
 rw[<-hA]at h1 hK;have hA8:(8:Int)*((A/8:Nat):Int)=A:=aa
 (repeat'((conv=>whnf);first|(rw[hA8])|refine⟨pI ((A/8:Nat):Int),⟨_,8,rfl,aa,ML aa JO⟩,?_⟩|refine⟨_,⟨_,rfl,aa,rfl⟩,?_⟩|refine zco (by(simp only[bS];omega)) ?_|refine dJ aa ?_|fail))<;>try(conv=>whnf)
 rw[show A-s.length=((A:Int)-s.length).toNat by omega]at hK;exact im
set_option maxRecDepth 8000 in
def Jo:ay (ax [(106,ah HZ),(86,ah NG),(107,ah zL),(108,ah ae2),(109,ah Cu),(84,ah vO),(110,ah Au),(111,ah Rp)]) zk zF x_ (ah FG):=by
 rintro _ K ⟨_,⟨a,rfl,ha,rfl⟩,hK⟩;have hA:=V5.of ha;obtain⟨ty,nm,id,fl,rs,vl,ft,rn,al,sz,vd⟩:=a;have hnm:=hA.nmL;have Nb:=hA.ty;have aDg:=hA.idf;simp only[pG]at hnm Nb aDg;simp only[At.pv];cases rs with
 |true=>
  obtain⟨_,_,CD⟩:=hA.rs rfl;simp only at CD;have h1:=dX (24+nm.length);have h2:=dX (pf (24+nm.length)+vl.length);obtain⟨W,hW⟩:∃W,W=pf (pf (24+nm.length)+vl.length):=⟨_,rfl⟩
  obtain⟨A,hA⟩:∃A,A=pf (24+nm.length):=⟨_,rfl⟩
  rw[<-hA]at h1 h2 hW;rw[<-hW]at h2;have hA8:(8:Int)*((A/8:Nat):Int)=A:=aa;have hW':W=(A+vl.length+7)/8*8:=hW;have hW8:(8:Int)*((W/8:Nat):Int)=W:=aa
  (repeat'((conv=>whnf);first|(rw[hA8])|refine⟨pI ((A/8:Nat):Int),⟨_,8,rfl,aa,ML aa JO⟩,?_⟩|refine⟨_,⟨_,1,rfl,aa,rfl⟩,?_⟩|refine⟨_,⟨_,2,rfl,aa,rfl⟩,?_⟩|refine⟨_,⟨_,4,rfl,aa,rfl⟩,?_⟩|refine⟨_,⟨_,rfl,aa,rfl⟩,?_⟩|refine zco sk ?_|(refine ko ?_;first|refine dJ aa ?_|refine dY ?_|refine cw ?_|refine⟨_,⟨_,rfl,rfl⟩,?_⟩|fail)))<;>try(conv=>whnf)
  obtain⟨S,hS⟩:∃S,S=aq (if false=true then 1 else 0) 1++aq (nm.length:Nat) 1++aq 24 2++aq fl 2++aq id 2++aq (vl.length:Nat) 4++aq (A:Nat) 4++nm++ab ((A:Int)-24-(nm.length:Nat)).toNat++vl++ab (W-A-vl.length):=⟨_,rfl⟩
  have hSl:S.length=W-8:=by rw[hS];simp only[zae,dn,bS];omega
  refine⟨.str S,⟨_,W-A-vl.length,rfl,⟨sk,Ps⟩,congrArg PV.str hS⟩,?_⟩;have hSn:S++({ data:={ toList:=[] } }:ByteArray).data.toList=S:=zaY S
  (repeat'((conv=>whnf);first|(rw[hW8])|(rw[hSn])|refine zco (by(simp only[zae,dn,zaZ];omega)) ?_|refine⟨pI ((W/8:Nat):Int),⟨_,8,rfl,aa,ML aa (by(unfold pf;omega))⟩,?_⟩|refine⟨_,⟨_,4,rfl,aa,rfl⟩,?_⟩|refine dJ aa ?_|fail))<;>try(conv=>whnf)
  rw[show Cd ⟨ty,nm,id,fl,true,vl,ft,rn,al,sz,vd⟩=aq ty 4++aq (W:Nat) 4++aq 0 1++aq (nm.length:Nat) 1++aq 24 2++aq fl 2++aq id 2++(aq (vl.length:Nat) 4++aq (A:Nat) 4)++nm++ab (A-24-nm.length)++vl++ab (W-A-vl.length)from by rw[hW,hA];rfl]at hK;have hSe:=congrArg (λx=>aq ty 4++aq (W:Nat) 4++x) hS;rw[show((A:Int)-24-(nm.length:Nat)).toNat=A-24-nm.length by omega]at hSe;simp only[zaG,if_false,zah]at hSe hK;rw[<-hSe]at hK;rw[<-zah]at hK;exact im
 |false=>
  obtain⟨_,rfl,hft,hz,hsm,kq,_⟩:=hA.ot rfl;simp only[mn]at hft hz hsm kq;have hs:=TI hz;have hrl:=(ju hz).1;have Xk:(iZ rn.l).length<=400:=by
   unfold iZ;have:=yS rn.l rn.l.length (zaj _);simp only[zae,zap,zaZ];omega
  obtain⟨vl,CD⟩:∃vl,vl=iZ rn.l:=⟨_,rfl⟩
  rw[<-CD]at Xk;have h1:=dX (40+nm.length);have h2:=dX (pf (40+nm.length)+vl.length);obtain⟨W,hW⟩:∃W,W=pf (pf (40+nm.length)+vl.length):=⟨_,rfl⟩
  obtain⟨A,hA⟩:∃A,A=pf (40+nm.length):=⟨_,rfl⟩
  rw[<-hA]at h1 h2 hW;rw[<-hW]at h2;have hA8:(8:Int)*((A/8:Nat):Int)=A:=aa;have hW':W=(A+vl.length+7)/8*8:=hW;have hW8:(8:Int)*((W/8:Nat):Int)=W:=aa
  (repeat'((conv=>whnf);first|(rw[adL])|(rw[hA8])|refine⟨.str vl,⟨rn,rfl,hz,congrArg PV.str CD⟩,?_⟩|refine⟨_,⟨rn,rfl,NY hz,rfl⟩,?_⟩|refine⟨_,⟨_,4294967296,rfl,af,rfl⟩,?_⟩|refine⟨pI ((A/8:Nat):Int),⟨_,8,rfl,aa,ML aa JO⟩,?_⟩|refine⟨_,⟨_,1,rfl,aa,rfl⟩,?_⟩|refine⟨_,⟨_,2,rfl,aa,rfl⟩,?_⟩|refine⟨_,⟨_,4,rfl,aa,rfl⟩,?_⟩|refine⟨_,⟨_,rfl,aa,rfl⟩,?_⟩|refine zco sk ?_|(refine ko ?_;first|refine dJ aa ?_|refine gj ?_|refine cw ?_|refine⟨_,⟨_,rfl,rfl⟩,?_⟩|fail)))<;>try(conv=>whnf)
  obtain⟨S,hS⟩:∃S,S=aq (if true=true then 1 else 0) 1++aq (nm.length:Nat) 1++aq 40 2++aq fl 2++aq id 2++aq ft 4++aq (ft+fI rn.l-1) 4++aq (A:Nat) 2++ab 2++aq al 4++aq sz 4++aq vd 4++nm++ab ((A:Int)-40-(nm.length:Nat)).toNat++vl++ab (W-A-vl.length):=⟨_,rfl⟩
  have hSl:S.length=W-8:=by rw[hS];simp only[zae,dn,bS];omega
  refine⟨.str S,⟨_,W-A-vl.length,rfl,⟨sk,Ps⟩,congrArg PV.str hS⟩,?_⟩;have hSn:S++({ data:={ toList:=[] } }:ByteArray).data.toList=S:=zaY S
  (repeat'((conv=>whnf);first|(rw[hW8])|(rw[hSn])|refine zco (by(simp only[zae,dn,zaZ];omega)) ?_|refine⟨pI ((W/8:Nat):Int),⟨_,8,rfl,aa,ML aa (by(unfold pf;omega))⟩,?_⟩|refine⟨_,⟨_,4,rfl,aa,rfl⟩,?_⟩|refine dJ aa ?_|fail))<;>try(conv=>whnf)
  rw[show Cd ⟨ty,nm,id,fl,false,[],ft,rn,al,sz,vd⟩=aq ty 4++aq (W:Nat) 4++aq 1 1++aq (nm.length:Nat) 1++aq 40 2++aq fl 2++aq id 2++(aq ft 4++aq (ft+fI rn.l-1) 4++aq (A:Nat) 2++ab 2++aq al 4++aq sz 4++aq vd 4)++nm++ab (A-40-nm.length)++vl++ab (W-A-vl.length)from by rw[hW,hA,CD];rfl]at hK;have hSe:=congrArg (λx=>aq ty 4++aq (W:Nat) 4++x) hS;rw[show((A:Int)-40-(nm.length:Nat)).toNat=A-40-nm.length by omega]at hSe;simp only[if_true,zah]at hSe hK;rw[<-hSe]at hK;rw[<-zah]at hK;exact im
def Wr{a:At}{c5 c6 c3 c2 c9:Bool}(hs:0<=a.ft)(h5:c5=true↔¬(0<a.ft/\a.rn.l.length=0))(h6:c6=true↔a.ft+fI a.rn.l<=4096)
 (h3:c3=true↔¬(0<a.ft∧¬(a.al=0/\a.sz=0/\a.vd=0))) (h2:c2=true↔mn a) (h9:c9=true↔a.vd<=a.sz):
 (if 0<a.ft/\a.rn.l.length=0 then 17 else if 4096<a.ft+fI a.rn.l then 8 else if 0<a.ft∧¬(a.al=0/\a.sz=0/\a.vd=0)then 3 else if ¬mn a then 2 else if a.sz<a.vd then 9 else 0)=
 bF [if c5=true then 0 else 17,if c6=true then 0 else 8,if c3=true then 0 else 3,if c2=true then 0 else 2,if c9=true then 0 else 9]:=by
 simp only[bF,h5,h6,h3,h2,h9]
 (repeat' split)<;>first|rfl|omega|contradiction
set_option maxRecDepth 8000 in
def ON:ay (ax [(200,gR true HE),(130,ah db),(129,ah eM),(174,eX ed),(78,gR true U1),(201,ah B7)]) oV o7 oO (ah Q3):=by
 rintro _ K ⟨_,⟨a,rfl,rfl⟩,hK⟩
 (repeat'((conv=>whnf);first|refine⟨_,⟨rfl,rfl⟩,?_⟩|refine λ(b:Bool) hb=>?_|(refine ko ?_;first|refine cw ?_|refine⟨_,⟨_,_,rfl,rfl⟩,?_⟩|refine⟨_,⟨_,_,_,rfl,rfl⟩,?_⟩|refine⟨_,⟨[_,_,_],rfl,rfl⟩,?_⟩|fail)))<;>try(conv=>whnf)
 rename_i b2 h2 b3 h3 b4 h4;have h2:b2=true↔a.ty∉LC:=by rw[h2,<-aqc];simp
 have h3:b3=true↔a.vl=[]:=h3;have e1:bF [if b2=true then 0 else 20,if b3=true then 0 else 3,if b4=true then 0 else 2]=if a.ty∈LC then 20 else if a.vl≠[]then 3 else if ¬(0<=a.ft/\a.ft<=4096)then 2 else 0:=by
  simp only[bF,h2,h3,h4];by_cases g1:a.ty∈LC<;>by_cases g2:a.vl=[]<;>by_cases g3:0<=a.ft/\a.ft<=4096<;>simp[g1,g2,g3]
 rw[e1]at hb;unfold yN at hK;cases b with
 |true=>
  have hb:=hb.1 rfl;refine⟨.pv (pI _),fH ?_,trivial,hK⟩;rw[e1];by_cases g1:a.ty∈LC
  ·simp[g1]
  by_cases g2:a.vl=[]
  ·by_cases g3:0<=a.ft/\a.ft<=4096
   ·exact absurd (by simp[g1,g2,g3]) hb
   ·simp[g1,g2,g3]
  ·simp[g1,g2]
 |false=>
 have hb:¬_:=λh=>absurd (hb.2 h) af
 have g1:a.ty∉LC:=λh=>hb rM
 have g2:a.vl=[]:=zba.1 λh=>hb (by simp[h,g1])
 have g3:0<=a.ft/\a.ft<=4096:=zba.1 λh=>hb (by simp[h,g1,g2])
 rw[if_neg g1,if_neg (λh=>h g2),if_neg (λh=>h g3)]at hK;clear hb e1 h2 h3 h4;by_cases hz:jY a.rn.l=0
 case neg=>
  rw[if_pos hz]at hK
  (repeat'((conv=>whnf);first|refine⟨_,⟨a.rn,rfl,rfl⟩,?_⟩|refine ai hz ?_|fail))<;>try(conv=>whnf)
  exact aB
 rw[if_neg (λh=>h hz)]at hK;have hs:=TI hz;have hlm:(List.map Rn.pv a.rn.l).length=a.rn.l.length:=zan _
 (repeat'((conv=>whnf);first|refine jH ?_|refine⟨_,⟨a.rn,rfl,rfl⟩,?_⟩|refine ar (λh=>h hz) ?_|refine⟨_,⟨a,rfl,NY hz,rfl⟩,?_⟩|(refine λ(b5:Bool) (hb5:b5=true↔(0:Int)<((List.map Rn.pv a.rn.l).length:Nat))=>?_)|(refine λ(b6:Bool) (hb6:b6=true↔a.ft+fI a.rn.l<=4096)=>?_)|(refine λ(b7:Bool) (hb7:b7=true↔a.vd<=a.sz)=>?_)|refine⟨_,⟨[_,_,_,_,_],rfl,rfl⟩,?_⟩|(refine ko ?_;first|refine dJ aa ?_|refine dY ?_|refine gj ?_|refine ai aa ?_|refine cA (λ_=>?_) (λ_=>?_)|refine cw ?_|refine⟨_,⟨_,_,rfl,rfl⟩,?_⟩|refine⟨_,⟨_,_,_,rfl,rfl⟩,?_⟩|fail)))<;>try(conv=>whnf)
 all_goals
  refine⟨.pv (pI _),fH (Wr (a:=a) aa ?_ ?_ ?_ ?_ ?_),trivial,hK⟩;all_goals first
   |(rw[hb6];done)
   |(rw[hb7];done)
   |(simp only[true_iff];(try unfold mn);omega)
   |(simp only[zaG,false_iff];(try unfold mn);omega)
   |(rw[hb5,hlm];omega)
def OV(ps:List PV)(x:PV):Prop:=∃a:At,ps=[a.pv]/\a.nm.length<=1000000/\x=pI (iu a)
def W9{a:At}(h1:a.ty∈Cz)(h2:cb a.nm)(h3:pG a):AX a=Du a:=by
 unfold AX;rw[if_neg (λh=>h h1),if_neg (λh=>h h2),if_neg (λh=>h h3)]
def acC(a:At):iu a=if a.ty∉Cz then 15 else if ¬cb a.nm then 4 else if ¬pG a then 2 else if Du a≠0 then Du a else if 440<(Cd a).length then 16 else 0:=by
 unfold iu AX;by_cases h1:a.ty∈Cz<;>by_cases h2:cb a.nm<;>by_cases h3:pG a<;>simp[h1,h2,h3]
def HJ(p q r:Prop)[Decidable p][Decidable q][Decidable r](c1 c3:Bool)(h1:c1=true↔p)(h3:c3=true↔r):bF [if c1=true then 0 else 15,if q then 0 else 4,if c3=true then 0 else 2]=if ¬p then 15 else if ¬q then 4 else if ¬r then 2 else 0:=by
 simp only[bF,h1,h3];by_cases g1:p<;>by_cases g2:q<;>by_cases g3:r<;>simp[g1,g2,g3]
def zw:ay (ax [(172,eX DO),(130,ah db),(173,ah JL),(174,eX ed),(129,ah eM),(175,ah Rb),(176,ah Q3),(177,ah FG)]) jB jA jF (ah OV):=by
 rintro _ K ⟨_,⟨a,rfl,hn,rfl⟩,hK⟩;rw[acC]at hK;obtain⟨ty,nm,id,fl,rs,vl,ft,rn,al,sz,vd⟩:=a;simp only at hn hK;simp only[At.pv];by_cases g:ty∈Cz/\cb nm/\pG ⟨ty,nm,id,fl,rs,vl,ft,rn,al,sz,vd⟩
 ·obtain⟨g1,g2,g3⟩:=g;rw[if_neg (λh=>h g1),if_neg (λh=>h g2),if_neg (λh=>h g3)]at hK;have e0:bF [if true=true then 0 else 15,if cb nm then 0 else 4,if true=true then 0 else 2]=0:=by simp[bF,g2]
  have g4:=g3;simp only[pG]at g4;have h0:AX ⟨ty,nm,id,fl,rs,vl,ft,rn,al,sz,vd⟩=Du ⟨ty,nm,id,fl,rs,vl,ft,rn,al,sz,vd⟩:=W9 g1 g2 g3;by_cases hk:Du ⟨ty,nm,id,fl,rs,vl,ft,rn,al,sz,vd⟩=0
  ·rw[if_neg (λh=>h hk)]at hK;rw[hk]at h0;cases rs with
   |true=>
    have kV:zO ⟨ty,nm,id,fl,true,vl,ft,rn,al,sz,vd⟩=0:=hk
    (repeat'((conv=>whnf);first|refine ai g1 ?_|refine ai g4.1 ?_|refine ai g4.2 ?_|refine ar (λh=>h e0) ?_|refine ar (λh=>h kV) ?_|refine⟨_,⟨nm,rfl,rfl⟩,?_⟩|refine⟨_,⟨[_,_,_],rfl,rfl⟩,?_⟩|refine⟨_,⟨⟨ty,nm,id,fl,true,vl,ft,rn,al,sz,vd⟩,rfl,rfl⟩,?_⟩|refine⟨_,⟨⟨ty,nm,id,fl,true,vl,ft,rn,al,sz,vd⟩,rfl,h0,rfl⟩,?_⟩|(refine ko ?_;first|refine cA (λ_=>?_) (λ_=>?_)|refine cw ?_|refine⟨_,⟨_,rfl,rfl⟩,?_⟩|refine⟨_,⟨_,_,rfl,rfl⟩,?_⟩|refine⟨_,⟨_,_,_,rfl,rfl⟩,?_⟩|fail)))<;>try(conv=>whnf)
    ·rw[if_neg aa]at hK;exact aB
    ·rw[if_pos aa]at hK;exact aB
   |false=>
    have kV:yN ⟨ty,nm,id,fl,false,vl,ft,rn,al,sz,vd⟩=0:=hk
    (repeat'((conv=>whnf);first|refine ai g1 ?_|refine ai g4.1 ?_|refine ai g4.2 ?_|refine ar (λh=>h e0) ?_|refine ar (λh=>h kV) ?_|refine⟨_,⟨nm,rfl,rfl⟩,?_⟩|refine⟨_,⟨[_,_,_],rfl,rfl⟩,?_⟩|refine⟨_,⟨⟨ty,nm,id,fl,false,vl,ft,rn,al,sz,vd⟩,rfl,rfl⟩,?_⟩|refine⟨_,⟨⟨ty,nm,id,fl,false,vl,ft,rn,al,sz,vd⟩,rfl,h0,rfl⟩,?_⟩|(refine ko ?_;first|refine cA (λ_=>?_) (λ_=>?_)|refine cw ?_|refine⟨_,⟨_,rfl,rfl⟩,?_⟩|refine⟨_,⟨_,_,rfl,rfl⟩,?_⟩|refine⟨_,⟨_,_,_,rfl,rfl⟩,?_⟩|fail)))<;>try(conv=>whnf)
    ·rw[if_neg aa]at hK;exact aB
    ·rw[if_pos aa]at hK;exact aB
  ·rw[if_pos hk]at hK;clear h0;cases rs with
   |true=>
    have kV:zO ⟨ty,nm,id,fl,true,vl,ft,rn,al,sz,vd⟩≠0:=hk
    (repeat'((conv=>whnf);first|refine ai g1 ?_|refine ai g4.1 ?_|refine ai g4.2 ?_|refine ar (λh=>h e0) ?_|refine ai kV ?_|refine⟨_,⟨nm,rfl,rfl⟩,?_⟩|refine⟨_,⟨[_,_,_],rfl,rfl⟩,?_⟩|refine⟨_,⟨⟨ty,nm,id,fl,true,vl,ft,rn,al,sz,vd⟩,rfl,rfl⟩,?_⟩|(refine ko ?_;first|refine cw ?_|refine⟨_,⟨_,rfl,rfl⟩,?_⟩|refine⟨_,⟨_,_,rfl,rfl⟩,?_⟩|refine⟨_,⟨_,_,_,rfl,rfl⟩,?_⟩|fail)))<;>try(conv=>whnf)
    exact aB
   |false=>
    have kV:yN ⟨ty,nm,id,fl,false,vl,ft,rn,al,sz,vd⟩≠0:=hk
    (repeat'((conv=>whnf);first|refine ai g1 ?_|refine ai g4.1 ?_|refine ai g4.2 ?_|refine ar (λh=>h e0) ?_|refine ai kV ?_|refine⟨_,⟨nm,rfl,rfl⟩,?_⟩|refine⟨_,⟨[_,_,_],rfl,rfl⟩,?_⟩|refine⟨_,⟨⟨ty,nm,id,fl,false,vl,ft,rn,al,sz,vd⟩,rfl,rfl⟩,?_⟩|(refine ko ?_;first|refine cw ?_|refine⟨_,⟨_,rfl,rfl⟩,?_⟩|refine⟨_,⟨_,_,rfl,rfl⟩,?_⟩|refine⟨_,⟨_,_,_,rfl,rfl⟩,?_⟩|fail)))<;>try(conv=>whnf)
    exact aB
 ·have qY:(if ¬ty∈Cz then 15 else if ¬cb nm then 4 else if ¬pG ⟨ty,nm,id,fl,rs,vl,ft,rn,al,sz,vd⟩then 2 else(0:Int))≠0:=by
   by_cases h1:ty∈Cz<;>by_cases h2:cb nm<;>by_cases h3:pG ⟨ty,nm,id,fl,rs,vl,ft,rn,al,sz,vd⟩<;>simp_all
  have hK:K (.pv (pI (if ¬ty∈Cz then 15 else if ¬cb nm then 4 else if ¬pG ⟨ty,nm,id,fl,rs,vl,ft,rn,al,sz,vd⟩then 2 else 0))):=by
   have e:∀x:Int,(if ¬ty∈Cz then 15 else if ¬cb nm then 4 else if ¬pG ⟨ty,nm,id,fl,rs,vl,ft,rn,al,sz,vd⟩then 2 else x)=(if ¬ty∈Cz then 15 else if ¬cb nm then 4 else if ¬pG ⟨ty,nm,id,fl,rs,vl,ft,rn,al,sz,vd⟩then 2 else 0):=by
    intro x;by_cases h1:ty∈Cz<;>by_cases h2:cb nm<;>by_cases h3:pG ⟨ty,nm,id,fl,rs,vl,ft,rn,al,sz,vd⟩<;>simp_all
   rw[e]at hK;exact hK
  (repeat'((conv=>whnf);first|(refine λ(b1:Bool) (vT:b1=true↔ty∈Cz)=>?_)|refine⟨_,⟨nm,rfl,rfl⟩,?_⟩|refine⟨_,⟨[_,_,_],rfl,rfl⟩,?_⟩|(refine ai (by rw[HJ (ty∈Cz) (cb nm) (pG ⟨ty,nm,id,fl,rs,vl,ft,rn,al,sz,vd⟩) b1 true vT (by simp only[pG,true_iff];omega)];exact qY) ?_)|(refine ai (by rw[HJ (ty∈Cz) (cb nm) (pG ⟨ty,nm,id,fl,rs,vl,ft,rn,al,sz,vd⟩) b1 false vT (by simp only[pG,zaG,false_iff];omega)];exact qY) ?_)|(refine ko ?_;first|refine cA (λ_=>?_) (λ_=>?_)|refine cw ?_|refine⟨_,⟨_,rfl,rfl⟩,?_⟩|refine⟨_,⟨_,_,rfl,rfl⟩,?_⟩|refine⟨_,⟨_,_,_,rfl,rfl⟩,?_⟩|fail)))<;>try(conv=>whnf)
  all_goals
   first
    |(rw[<-HJ (ty∈Cz) (cb nm) (pG ⟨ty,nm,id,fl,rs,vl,ft,rn,al,sz,vd⟩) b1 true vT (by simp only[pG,true_iff];omega)]at hK;exact aB)
    |(rw[<-HJ (ty∈Cz) (cb nm) (pG ⟨ty,nm,id,fl,rs,vl,ft,rn,al,sz,vd⟩) b1 false vT (by simp only[pG,zaG,false_iff];omega)]at hK;exact aB)
def xN:ay (ax [(112,ah OV),(177,ah FG)]) fQ fX fT (gR true λps r=>∃a:At,ps=[a.pv]/\a.nm.length<=1000000/\r=.tup [.pv (.str (if iu a=0 then Cd a else[])),.pv (pI (iu a))]):=by
 rintro _ K ⟨_,⟨a,rfl,hn,rfl⟩,hK⟩;by_cases h:iu a=0
 ·rw[h,if_pos rfl]at hK
  (repeat'((conv=>whnf);first|refine⟨_,⟨a,rfl,hn,rfl⟩,?_⟩|refine ar (λe=>e h) ?_|refine⟨_,⟨a,rfl,(mA h).1,rfl⟩,?_⟩|fail))<;>try(conv=>whnf)
  exact aO
 ·rw[if_neg h]at hK
  (repeat'((conv=>whnf);first|refine⟨_,⟨a,rfl,hn,rfl⟩,?_⟩|refine ai h ?_|fail))<;>try(conv=>whnf)
  exact aO
abbrev O_(a b:List UInt8):Prop:=Op.bytesLess a b=true
def DW{a b:UInt8}{x y:List UInt8}:O_ (a::x) (b::y)↔a<b\/(a=b/\O_ x y):=by
 show(decide (a<b)||(a==b&&Op.bytesLess x y))=true↔_;simp
def rF:∀x:List UInt8,¬O_ x x
 |[]=>by unfold O_ Op.bytesLess;simp
 |a::x=>by
  rw[DW];rintro(h|⟨_,h⟩)
  ·exact absurd h (UInt8.lt_irrefl a)
  ·exact rF x h
def DA:∀x y:List UInt8,O_ x y\/x=y\/O_ y x
 |[],[]=>.inr (.inl rfl)
 |[],_::_=>.inl rfl
 |_::_,[]=>.inr (.inr rfl)
 |a::x,b::y=>by
  rw[DW,DW];rcases UInt8.lt_or_lt_of_ne (a:=a) (b:=b) |>λf=>(Classical.em (a=b)).imp_right f with h|h|h
  ·subst h;rcases DA x y with h|h|h
   ·exact .inl (.inr ⟨rfl,h⟩)
   ·exact .inr (.inl (by rw[h]))
   ·exact .inr (.inr (.inr ⟨rfl,h⟩))
  ·exact .inl (.inl h)
  ·exact .inr (.inr (.inl h))
def Mn:∀{x y z:List UInt8},O_ x y->O_ y z->O_ x z
 |_,_,[],_,h=>by unfold O_ Op.bytesLess at h;simp at h
 |_,[],_::_,h,_=>by unfold O_ Op.bytesLess at h;simp at h
 |[],_::_,_::_,_,_=>rfl
 |a::x,b::y,c::z,h1,h2=>by
  rw[DW]at h1 h2 ⊢;rcases h1 with h1|⟨rfl,h1⟩
  ·rcases h2 with h2|⟨rfl,_⟩
   ·exact .inl (UInt8.lt_trans h1 h2)
   ·exact .inl h1
  ·rcases h2 with h2|⟨rfl,h2⟩
   ·exact .inl h2
   ·exact .inr ⟨rfl,Mn h1 h2⟩
def De(x y:List UInt8):Int:=if O_ x y then-1 else if O_ y x then 1 else 0
def ES(a b:Int):Int:=if a<b then-1 else if b<a then 1 else 0
def Ag{x y:List UInt8}:De x y=0↔x=y:=by
 unfold De;constructor
 ·intro h;split at h
  ·cases h
  ·split at h
   ·cases h
   ·rename_i h1 h2;rcases DA x y with h|h|h
    ·exact absurd h h1
    ·exact h
    ·exact absurd h h2
 ·rintro rfl;rw[if_neg (rF x),if_neg (rF x)]
def Am{a b:Int}:ES a b=0↔a=b:=JG
structure Ky where
 ty:Int
 nm:List UInt8
 ft:Int
deriving DecidableEq
def Ky.pv(k:Ky):PV:=.agg [pI k.ty,.str k.nm,pI k.ft]
def At.key(a:At):Ky:=⟨a.ty,a.nm,a.ft⟩
def lH(a b:Ky):Int:=if ES a.ty b.ty≠0 then ES a.ty b.ty else if De a.nm b.nm≠0 then De a.nm b.nm else ES a.ft b.ft
def QO(a b:At):Int:=if lH a.key b.key≠0 then lH a.key b.key else ES a.id b.id
def Ct{a b:Ky}:lH a b=0↔a=b:=by
 obtain⟨t1,n1,f1⟩:=a;obtain⟨t2,n2,f2⟩:=b;have h1:=Am (a:=t1) (b:=t2);have h2:=Ag (x:=n1) (y:=n2);have h3:=Am (a:=f1) (b:=f2);unfold lH;simp only[Ky.mk.injEq];by_cases g1:ES t1 t2=0
 ·by_cases g2:De n1 n2=0
  ·have e1:=h1.1 g1;have e2:=h2.1 g2;subst e1 e2;simp only[g1,g2,ne_eq,not_true_eq_false,if_false,h3,true_and]
  ·simp only[g1,g2,ne_eq,not_true_eq_false,if_false,not_false_eq_true,if_true,false_iff];exact λh=>g2 (h2.2 h.2.1)
 ·simp only[g1,ne_eq,not_false_eq_true,if_true,false_iff];exact λh=>g1 (h1.2 h.1)
def JJ(ps:List PV)(x:PV):Prop:=∃a b:Int,ps=[pI a,pI b]/\x=pI (ES a b)
def Tn(ps:List PV)(x:PV):Prop:=∃a b:List UInt8,ps=[.str a,.str b]/\x=pI (De a b)
def afk(ps:List PV)(p:Prop):Prop:=∃a:Int,ps=[pI a]/\p=False
def afm(ps:List PV)(p:Prop):Prop:=∃a:List UInt8,ps=[.str a]/\p=False
def Gx:ay (ax []) xe xD xc (eX afk):=by
 rintro _ K ⟨_,⟨a,rfl,rfl⟩,hK⟩
 (repeat'((conv=>whnf);first|refine ar aa ?_|fail))<;>try(conv=>whnf)
 all_goals exact mF
def B1:ay (ax []) sA rp rP (eX afm):=by
 rintro _ K ⟨_,⟨a,rfl,rfl⟩,hK⟩
 (repeat'((conv=>whnf);first|refine ar (λh=>h rfl) ?_|fail))<;>try(conv=>whnf)
 exact⟨.pv (.bool _),rfl,trivial,hK _ ae⟩
def DL:ay (ax [(207,eX afk)]) tI tK tM (ah JJ):=by
 rintro _ K ⟨_,⟨a,b,rfl,rfl⟩,hK⟩;unfold ES at hK
 (repeat'((conv=>whnf);first|(refine ar (p:=False) id ?_)|refine⟨_,⟨_,rfl,rfl⟩,?_⟩|refine cA (λ_=>?_) (λ_=>?_)|fail))<;>try(conv=>whnf)
 all_goals(refine⟨.pv (pI _),fH ?_,trivial,hK⟩;(repeat' split)<;>first|rfl|omega)
def zd:ay (ax [(208,eX afm)]) oh oD oi (ah Tn):=by
 rintro _ K ⟨_,⟨a,b,rfl,rfl⟩,hK⟩;unfold De at hK
 (repeat'((conv=>whnf);first|(refine ar (p:=False) id ?_)|refine⟨_,⟨_,rfl,rfl⟩,?_⟩|refine cA (λ_=>?_) (λ_=>?_)|fail))<;>try(conv=>whnf)
 ·rename_i h;rw[if_pos h]at hK;exact aB
 ·rename_i h1 h2;have h3:O_ b a:=by
   rcases DA a b with h|h|h
   ·exact absurd h h1
   ·exact absurd (.inr h) h2
   ·exact h
  rw[if_neg h1,if_pos h3]at hK;exact aB
 ·rename_i h1 h2;have h3:a=b:=(zba.1 h2).resolve_left h1;subst h3;rw[if_neg h1,if_neg h1]at hK;exact aB
def GJ:ay (ax []) xy xm xp (ah JJ):=by
 rintro _ K ⟨_,⟨a,b,rfl,rfl⟩,hK⟩;unfold ES at hK
 (repeat'((conv=>whnf);first|refine cA (λ_=>?_) (λ_=>?_)|fail))<;>try(conv=>whnf)
 all_goals(refine⟨.pv (pI _),fH ?_,trivial,hK⟩;(repeat' split)<;>first|rfl|omega)
def Y7:ay (ax []) D3 Dj C3 (ah eM):=by
 rintro _ K ⟨_,⟨l,rfl,rfl⟩,hK⟩;refine λhl=>?_
 rw[zan]at hl;refine⟨λm env σ=>∃n:Nat,(n+m=l.length∧∀j,j<n->l[j]?=some 0)/\σ=[]/\env=[eN 3 0,(6,.pv (.sl 1 (l.map pI))),eN 7 ((l.map pI).length:Nat),eN 8 n],l.length,⟨0,⟨aa,λj hj=>aa⟩,rfl,rfl⟩,?_⟩;rintro m env σ ⟨n,⟨hn,h0⟩,rfl,rfl⟩;refine λb hb=>?_
 rw[zan]at hb;rcases cmp hb with⟨rfl,h⟩|⟨rfl,h⟩
 ·have aS:n<l.length:=by omega
  refine⟨pI l[n],⟨aa,?_⟩,?_⟩
  ·show(l.map pI)[n]?=some (pI l[n]);simp[aS]
  refine λb hb=>?_
  rcases cmp hb with⟨rfl,h⟩|⟨rfl,h⟩
  ·refine⟨.pv (pI _),fH ?_,trivial,hK⟩;rw[lL l n h0,zcn aS];simp[bF,h]
  ·refine λx hx=>?_
   replace hx:=n64 hx aa;subst hx;refine⟨m-1,aa,n+1,⟨aa,λj hj=>?_⟩,rfl,rfl⟩;by_cases hjn:j<n
   ·exact h0 j hjn
   ·have:j=n:=by omega
    subst this;rw[zak aS];simpa using h
 ·refine⟨.pv (pI _),fH ?_,trivial,hK⟩;rw[lL l n h0,zcd aa];rfl
def YI(k:Ky):k.pv.flat:=by simp[Ky.pv,PV.flat,PV.one,PV.S9]
def Ad(ps:List PV)(x:PV):Prop:=∃a:At,ps=[a.pv]/\x=a.key.pv
def Lb:ay (ax []) Lk LG LK (ah Ad):=by
 rintro _ K ⟨_,⟨a,rfl,rfl⟩,hK⟩
 (repeat'((conv=>whnf);first|refine cw ?_|fail))<;>try(conv=>whnf)
 exact⟨.pv a.key.pv,rfl,YI _,hK⟩
def QC:ay (ax []) tx tJ ta (ah Ad):=Lb
def Ig(ps:List PV)(x:PV):Prop:=∃a b:Ky,ps=[a.pv,b.pv]/\x=pI (lH a b)
def aap(ps:List PV)(x:PV):Prop:=∃a b:At,ps=[a.pv,b.pv]/\x=pI (QO a b)
def N0(a b c:Int):bF [a,b,c]=if a≠0 then a else if b≠0 then b else c:=by
 simp only[bF];(repeat' split)<;>simp_all
def ao8(a b c d:Int):bF [a,b,c,d]=if (if a≠0 then a else if b≠0 then b else c)≠0 then(if a≠0 then a else if b≠0 then b else c)else d:=by
 simp only[bF];(repeat' split)<;>simp_all
def KP:ay (ax [(181,ah JJ),(182,ah Tn),(180,ah eM)]) pX qp qB (ah Ig):=by
 rintro _ K ⟨_,⟨a,b,rfl,rfl⟩,hK⟩
 (repeat'((conv=>whnf);first|refine⟨_,⟨[_,_,_],rfl,rfl⟩,?_⟩|(refine ko ?_;first|refine cw ?_|refine⟨_,⟨_,_,rfl,rfl⟩,?_⟩|fail)))<;>try(conv=>whnf)
 refine⟨.pv (pI _),fH ?_,trivial,hK⟩;rw[N0];rfl
def Ju:ay (ax [(181,ah JJ),(182,ah Tn),(180,ah eM)]) qm p_ qj (ah aap):=by
 rintro _ K ⟨_,⟨a,b,rfl,rfl⟩,hK⟩
 (repeat'((conv=>whnf);first|refine⟨_,⟨[_,_,_,_],rfl,rfl⟩,?_⟩|(refine ko ?_;first|refine cw ?_|refine⟨_,⟨_,_,rfl,rfl⟩,?_⟩|fail)))<;>try(conv=>whnf)
 refine⟨.pv (pI _),fH ?_,trivial,hK⟩;rw[ao8];rfl
def AR:ay (ax [(166,ah JJ)]) qF qv qD (ah Ig):=by
 rintro _ K ⟨_,⟨a,b,rfl,rfl⟩,hK⟩;unfold lH at hK
 (repeat'(refine uR ?_;first|refine cA (λ_=>?_) (λ_=>?_)|refine⟨_,⟨_,_,rfl,rfl⟩,?_⟩|fail))<;>try(conv=>whnf)
 ·rename_i h;rw[if_pos h]at hK;exact aB
 ·rename_i h1 h2;have e:De a.nm b.nm= -1:=if_pos h2;rw[if_neg h1,if_pos (by rw[e];decide),e]at hK;exact aB
 ·rename_i h1 h2 h3;have h4:O_ b.nm a.nm:=by
   rcases DA a.nm b.nm with h|h|h
   ·exact absurd h h2
   ·exact absurd (.inr h) h3
   ·exact h
  have e:De a.nm b.nm=1:=by unfold De;rw[if_neg h2,if_pos h4]
  rw[if_neg h1,if_pos (by rw[e];decide),e]at hK;exact aB
 ·rename_i h1 h2 h3;have h4:a.nm=b.nm:=(zba.1 h3).resolve_left h2;have e:De a.nm b.nm=0:=Ag.2 h4;rw[if_neg h1,if_neg (by rw[e];decide)]at hK;exact aB
def MA(ps:List PV)(p:Prop):Prop:=∃a b:At,ps=[a.pv,b.pv]/\p=(a.key=b.key)
def Ln:ay (ax []) pN pL qC (eX MA):=by
 rintro _ K ⟨_,⟨a,b,rfl,rfl⟩,hK⟩;unfold At.key at hK;simp only[Ky.mk.injEq]at hK
 (repeat'((conv=>whnf);first|refine cA (λ_=>?_) (λ_=>?_)|fail))<;>try(conv=>whnf)
 all_goals exact mF
abbrev As:=Sl At
abbrev nd(s:As):PV:=s.pv At.pv 11
def I7(l:List At)(i:Nat):Prop:=∃k,k<i∧∃y a,l[k]?=some y/\l[i]?=some a/\y.id=a.id
instance (l:List At) (i:Nat):Decidable (I7 l i):=Classical.propDecidable _
def Sm(l:List At)(i:Nat):Int:=match l[i]? with
 |none=>0
 |some a=>if iu a≠0 then iu a else if I7 l i then 23 else 0
def nxE(p a:At):Int:=if 0<QO p a then 9 else if p.key=a.key/\a.ty≠48 then 5 else 0
def A1(l:List At)(i:Nat):Int:=match l[i]? with
 |none=>0
 |some a=>if Sm l i≠0 then Sm l i else if i=0 then 0 else match l[i-1]? with
  |none=>0
  |some p=>nxE p a
def cG(l:List At):Int×Int:=if 32<l.length then(0,8)else dc (A1 l) 0 l.length
def Yy{l:List At}{a:At}(h:l[0]?=some a):A1 l 0=Sm l 0:=by
 unfold A1;rw[h];simp only[if_true];split
 ·rfl
 ·rename_i h;exact(zba.1 h).symm
def TP{l:List At}{n:Nat}{p a:At}(h:l[n]?=some a)(h0:0<n)(hp:l[n-1]?=some p):A1 l n=if Sm l n≠0 then Sm l n else nxE p a:=by
 unfold A1;rw[h,hp];simp only[show ¬n=0 by omega,if_false]
def adz{l:List At}(h:32<l.length):cG l=(0,8):=if_pos h
def NW{l:List At}{n:Nat}{e:Int}(hl:l.length<=32)(h0:∀k,k<n->A1 l k=0)(aS:n<l.length)(he:A1 l n=e)(qY:e≠0):cG l=((n:Int),e):=by
 unfold cG;rw[if_neg aa,nI h0 aS (by rw[he];exact qY),he]
def acF{l:List At}(hl:l.length<=32)(h0:∀k,k<l.length->A1 l k=0):cG l=(0,0):=by
 unfold cG;rw[if_neg aa,eD h0]
def fF(a:At):Nat:=if iu a=0 then uf a else 0
def Cs(a:At):fF a<=440:=by
 unfold fF;split
 ·rename_i h;have:=(mA h).2;rw[sF]at this;exact this
 ·omega
def Tm(l:List At):Prop:=l.length<=1000∧∀a∈l,a.nm.length<=1000000
def afb(ps:List PV)(r:RV):Prop:=∃a:At,ps=[a.pv]/\a.nm.length<=1000000/\r=.tup [.pv (.str (if iu a=0 then Cd a else[])),.pv (pI (iu a))]
def E3(ps:List PV)(r:RV):Prop:=∃a:At,ps=[a.pv]/\a.nm.length<=1000000/\r=.tup [.pv (pI (fF a)),.pv (pI (iu a))]
def LR:ay (ax [(186,gR true afb)]) qz qb p6 (gR true E3):=by
 rintro _ K ⟨_,⟨a,rfl,hn,rfl⟩,hK⟩;have e:(if iu a=0 then Cd a else[]).length=fF a:=by unfold fF;split<;>simp[sF]
 (repeat'((conv=>whnf);first|refine⟨_,⟨a,rfl,hn,rfl⟩,?_⟩|fail))<;>try(conv=>whnf)
 rw[<-e]at hK;exact aO
def cz(l:List At):Nat:=(l.map fF).sum
def Mo{l:List At}{i:Nat}{r:At}(h:l[i]?=some r):cz (l.take (i+1))=cz (l.take i)+fF r:=by
 unfold cz;rw[zct,h];simp
def EW(l:List At):cz l<=440*l.length:=by
 induction l with
 |nil=>exact zaj 0
 |cons a l ih=>
  have:=Cs a;have e:cz (a::l)=fF a+cz l:=vu;simp only[e,zap];omega
def mb(ps:List PV)(x:PV):Prop:=∃s:As,ps=[nd s]/\Tm s.l/\x=pI (cz s.l)
def I0:ay (ax [(134,gR true E3)]) vK uU vM (ah mb):=by
 rintro _ K ⟨_,⟨s,rfl,hs,rfl⟩,hK⟩;have hl:=hs.1
 (repeat'((conv=>whnf);first|refine jH ?_|refine gF λ_=>?_|fail))<;>try(conv=>whnf)
 refine⟨λm env σ=>∃(n:Nat),n+m=s.l.length/\σ=[]/\env=[eN 3 (cz (s.l.take n)),(8,.pv (nd s)),eN 9 s.l.length,eN 10 n],s.l.length,⟨0,aa,rfl,rfl⟩,?_⟩;rintro m env σ ⟨n,hn,rfl,rfl⟩;have hb:=EW (s.l.take n);have mN:(s.l.take n).length<=1000:=om
 (repeat'((conv=>whnf);first|(refine IXA aa (λx hx=>?_);have Pb:=hs.2 x (zad hx);have s8:=Cs x)|(refine⟨_,⟨_,rfl,Pb,rfl⟩,?_⟩)|refine dJ aa ?_|refine cA (λ_=>?_) (λ_=>?_)|refine cw ?_|fail))<;>try(conv=>whnf)
 ·skip
  exact⟨m-1,aa,n+1,aa,rfl,by rw[Mo hx];rfl⟩
 ·rw[za1 aa];exact aB
def Np:ay (ax [(134,gR true E3)]) xz xx xq (ah mb):=I0
end Go.Dv.Try
end
