/-
  The IR of functions of the program, printed by our own tool
  Codes as plain data: what the two checks say of the ways ..
  The arguments of a code as plain data: the two ways to ..
  Contracts: codes of the reference (Few, Own, Named, cases).
  Contracts: the reference's check of names and of cases.
  Contracts: the reference's check of one instruction
  Contracts: the reference's check of the ways through a code.
  Contracts: the reference's walk over the ways through a ..
  Contracts: the reference's check of a code.
  Contracts: the reference's Check.
  Contracts: the program's check of names, of cases, of keys.
  Contracts: the program's check of one instruction
  Contracts: the program's walk over the ways through a code: ..
-/
import Derived.Test.YtdcdijfndhdnkaaGreatDoorPad
set_option linter.all false
set_option linter.defProp false
set_option linter.unusedSimpArgs false
set_option linter.unusedVariables false
open Nat (reduceEqDiff)
namespace Go.Ir
open Go.Proofs
variable {P : Program} {W0 : World} {nt n : Nat} {Q : Exit → St → Prop} {env : Env} {σ : Sto}
def f5_11:IC:=.seq (.block 1 (.seq (.ops [o1 12 (.faddr (.t 1) 0),o1 13 (.load (.t 12) 1 false),m1 14 3,o1 15 (.iaddr (.t 13) (.t 14) 9 1),o1 16 (.load (.t 15) 1 false),o1 17 (.lenS (.t 16)),o1 18 (.bin .gtr (.t 17) (ci 100))] [1,3,18] []) (.cond (.t 18) (.seq (.ops [o1 2 (.mv (.c (.b false)))] [2] []) .ret) .skip))) (.ops [m1 10 3,o1 11 (.bin .add (.t 10) (ci 1)),m1 3 11] [1,3] [])
def f5_7:IC:=.seq (.seq (.ops [m1 5 3,o1 6 (.faddr (.t 1) 0),o1 7 (.load (.t 6) 1 false),o1 8 (.lenL (.t 7)),o1 9 (.bin .lss (.t 5) (.t 8))] [1,3,9] []) (.cond (.t 9) .skip (.exit 0))) f5_11
def f5_28:IC:=.seq (.block 3 (.seq (.ops [o1 26 (.faddr (.t 1) 1),o1 27 (.load (.t 26) 1 false),m1 28 4,o1 29 (.iaddr (.t 27) (.t 28) 65 4),o1 30 (.faddr (.t 29) 3),o1 31 (.load (.t 30) 1 false),o1 32 (.lenS (.t 31)),o1 33 (.bin .gtr (.t 32) (ci 300))] [1,4,33] []) (.cond (.t 33) (.seq (.ops [o1 2 (.mv (.c (.b false)))] [2] []) .ret) .skip))) (.ops [m1 24 4,o1 25 (.bin .add (.t 24) (ci 1)),m1 4 25] [1,4] [])
def f5_24:IC:=.seq (.seq (.ops [m1 19 4,o1 20 (.faddr (.t 1) 1),o1 21 (.load (.t 20) 1 false),o1 22 (.lenL (.t 21)),o1 23 (.bin .lss (.t 19) (.t 22))] [1,4,23] []) (.cond (.t 23) .skip (.exit 2))) f5_28
def f5_36:IC:=.seq (.ops [o1 34 (.faddr (.t 1) 0),o1 35 (.load (.t 34) 1 false),o1 36 (.lenL (.t 35)),o1 37 (.bin .leq (.t 36) (ci 30)),m1 38 37,⟨some 39,.faddr (.t 1) 1,some (38,true),[]⟩,⟨some 40,.load (.t 39) 1 false,some (38,true),[]⟩,⟨some 41,.lenL (.t 40),some (38,true),[]⟩,⟨some 42,.bin .leq (.t 41) (ci 400),some (38,true),[]⟩,o1 43 (.pick (.t 38) (.t 42) (.c (.b false))),m1 2 43] [2] []) .ret
def f5_2:IC:=.seq (.seq (.ops [o1 3 (.mv (ci 0))] [1,3] []) (.block 0 (.loop f5_7))) (.seq (.seq (.ops [o1 4 (.mv (ci 0))] [1,4] []) (.block 2 (.loop f5_24))) f5_36)
def f5_0:IC:=.seq (.ops [o1 1 (.box (.t 0)),o1 2 (.mv (.c (.b false)))] [1] []) f5_2
@[push_cast]def f5R:List R:=[.t 2]
@[push_cast]def f5e:=aWv f5_11.eq_1<|aWv f5_7.eq_1<|aWv f5_28.eq_1<|aWv f5_24.eq_1<|aWv f5_36.eq_1<|aWv f5_2.eq_1<|aWu f5_0.eq_1
theorem f5ok:okFn Tryz.prog 5 44 f5_0 f5R=true:=by kernel_rfl
def f7_13:IC:=.seq (.block 1 (.ops [o1 15 (.faddr (.t 3) 1),o1 16 (.load (.t 15) 1 false),o1 17 (.faddr (.t 1) 1),o1 18 (.load (.t 17) 1 false),m1 19 4,o1 20 (.iaddr (.t 18) (.t 19) 65 4),o1 21 (.load (.t 20) 4 true),o1 22 (.msl false 69 4 [.t 21]),o1 23 (.app (.t 16) (.t 22) 69 4),o1 24 (.faddr (.t 3) 1),o0 (.store (.t 24) (.t 23) 1)] [1,2,3,4] [[0,1],[2,3],[3,5],[4,5],[5,6],[6,7],[1,8],[3,5,6,7,8],[5,6,7,8],[6,7,8],[7,8],[1,10],[3,10],[5,10],[6,10],[8,10],[9,10]])) (.ops [m1 13 4,o1 14 (.bin .add (.t 13) (ci 1)),m1 4 14] [1,2,3,4] [])
def f7_9:IC:=.seq (.seq (.ops [m1 8 4,o1 9 (.faddr (.t 1) 1),o1 10 (.load (.t 9) 1 false),o1 11 (.lenL (.t 10)),o1 12 (.bin .lss (.t 8) (.t 11))] [1,2,3,4,12] []) (.cond (.t 12) .skip (.exit 0))) f7_13
def f7_4:IC:=.seq (.seq (.ops [o1 4 (.mv (ci 0))] [1,2,3,4] []) (.block 0 (.loop f7_9))) (.seq (.ops [o1 25 (.load (.t 3) 2 true),o0 (.store (.t 2) (.t 25) 2)] [2] []) .ret)
def f7_2:IC:=.seq (.ops [o1 5 (.faddr (.t 1) 0),o1 6 (.load (.t 5) 1 false),o1 7 (.build [.nil,.nil] [(0,1,(.t 6))]),o1 3 (.alloc (.agg [.nil,.nil])),o0 (.store (.t 3) (.t 7) 2)] [1,2,3] []) f7_4
def f7_0:IC:=.seq (.ops [o1 1 (.box (.t 0)),o1 2 (.alloc (.agg [.nil,.nil]))] [1,2] []) f7_2
@[push_cast]def f7R:List R:=[.c 2 2 true]
@[push_cast]def f7e:=aWv f7_13.eq_1<|aWv f7_9.eq_1<|aWv f7_4.eq_1<|aWv f7_2.eq_1<|aWu f7_0.eq_1
theorem f7ok:okFn Tryz.prog 7 26 f7_0 f7R=true:=by kernel_rfl
def f53_11:IC:=.seq (.block 1 (.seq (.ops [m1 10 0,m1 11 3,o1 12 (.iaddr (.t 10) (.t 11) 9 1),o1 13 (.load (.t 12) 1 false),o1 14 (.call 92 [.t 13]),o1 15 (.not (.t 14)),m1 16 15,⟨some 17,.mv (.t 0),some (16,false),[]⟩,⟨some 18,.mv (.t 3),some (16,false),[]⟩,⟨some 19,.slL (.t 17) none (some (.t 18)) 1,some (16,false),[]⟩,⟨some 20,.mv (.t 0),some (16,false),[]⟩,⟨some 21,.mv (.t 3),some (16,false),[]⟩,⟨some 22,.iaddr (.t 20) (.t 21) 9 1,some (16,false),[]⟩,⟨some 23,.load (.t 22) 1 false,some (16,false),[]⟩,⟨some 24,.call 93 [.t 19,.t 23],some (16,false),[]⟩,o1 25 (.pick (.t 16) (.c (.b true)) (.t 24))] [0,3,25] [[0,2],[1,2],[2,3],[3,4],[4,5],[5,6],[6,7],[6,8],[6,9],[7,9],[8,9],[6,10],[6,11],[6,12],[10,12],[11,12],[6,13],[12,13],[6,14],[9,14],[13,14],[6,15],[14,15]]) (.cond (.t 25) (.seq (.ops [o1 2 (.mv (.c (.b false)))] [2] []) .ret) .skip))) (.ops [m1 8 3,o1 9 (.bin .add (.t 8) (ci 1)),m1 3 9] [0,3] [])
def f53_7:IC:=.seq (.seq (.ops [m1 4 3,m1 5 0,o1 6 (.lenL (.t 5)),o1 7 (.bin .lss (.t 4) (.t 6))] [0,3,7] []) (.cond (.t 7) .skip (.exit 0))) f53_11
def f53_19:IC:=.seq (.ops [m1 26 0,o1 27 (.lenL (.t 26)),o1 28 (.bin .leq (.t 27) (ci 20)),m1 2 28] [2] []) .ret
def f53_0:IC:=.seq (.ops [o1 2 (.mv (.c (.b false)))] [0] []) (.seq (.seq (.ops [o1 3 (.mv (ci 0))] [0,3] []) (.block 0 (.loop f53_7))) f53_19)
@[push_cast]def f53R:List R:=[.t 2]
@[push_cast]def f53e:=aWv f53_11.eq_1<|aWv f53_7.eq_1<|aWv f53_19.eq_1<|aWu f53_0.eq_1
theorem f53ok:okFn Tryz.prog 53 29 f53_0 f53R=true:=by kernel_rfl
def f95_23:IC:=.ops [m1 46 5,m1 47 7,o1 48 (.msl false 9 1 [.t 47]),o1 49 (.app (.t 46) (.t 48) 9 1),m1 5 49] [1,2,5,6] []
def f95_17:IC:=.seq (.seq (.ops [o1 32 (.faddr (.t 2) 1),o1 33 (.load (.t 32) 1 false),m1 34 1,o1 35 (.iaddr (.t 33) (.t 34) 65 4),o1 36 (.faddr (.t 35) 2),o1 37 (.load (.t 36) 1 false),m1 38 7,o1 39 (.call 128 [.t 37,.t 38]),o1 40 (.not (.t 39)),m1 41 40,⟨some 42,.mv (.t 5),some (41,false),[]⟩,⟨some 43,.mv (.t 7),some (41,false),[]⟩,⟨some 44,.calls 93 [.t 42,.t 43],some (41,false),[]⟩,o1 45 (.pick (.t 41) (.c (.b true)) (.t 44))] [1,2,5,6,7,45] []) (.cond (.t 45) (.seq (.ops [o1 4 (.mv (.c (.b false)))] [4] []) .ret) .skip)) f95_23
def f95_13:IC:=.seq (.block 1 (.seq (.ops [o1 26 (.faddr (.t 2) 1),o1 27 (.load (.t 26) 1 false),m1 28 6,o1 29 (.iaddr (.t 27) (.t 28) 65 4),o1 30 (.faddr (.t 29) 3),o1 31 (.load (.t 30) 1 false),m1 7 31] [1,2,5,6,7] []) f95_17)) (.ops [m1 24 6,o1 25 (.bin .add (.t 24) (ci 1)),m1 6 25] [1,2,5,6] [])
def f95_9:IC:=.seq (.seq (.ops [m1 10 6,o1 11 (.faddr (.t 2) 1),o1 12 (.load (.t 11) 1 false),o1 13 (.lenL (.t 12)),o1 14 (.bin .lss (.t 10) (.t 13)),m1 15 14,⟨some 16,.faddr (.t 2) 1,some (15,true),[]⟩,⟨some 17,.load (.t 16) 1 false,some (15,true),[]⟩,⟨some 18,.mv (.t 6),some (15,true),[]⟩,⟨some 19,.iaddr (.t 17) (.t 18) 65 4,some (15,true),[]⟩,⟨some 20,.faddr (.t 19) 0,some (15,true),[]⟩,⟨some 21,.load (.t 20) 1 false,some (15,true),[]⟩,⟨some 22,.bin .eql (.t 21) (ci 11),some (15,true),[]⟩,o1 23 (.pick (.t 15) (.t 22) (.c (.b false)))] [1,2,5,6,23] []) (.cond (.t 23) .skip (.exit 0))) f95_13
def f95_25:IC:=.seq (.ops [m1 50 5,o1 51 (.lenL (.t 50)),o1 52 (.bin .leq (.t 51) (ci 20)),m1 53 52,⟨some 54,.mv (.t 5),some (53,true),[]⟩,⟨some 55,.calls 93 [.t 54,(.c (.s [111,116,104,101,114]))],some (53,true),[]⟩,o1 56 (.pick (.t 53) (.t 55) (.c (.b false))),m1 4 56] [4] []) .ret
def f95_4:IC:=.seq (.seq (.ops [m1 8 1,o1 9 (.bin .add (.t 8) (ci 1)),m1 6 9] [1,2,5,6] []) (.block 0 (.loop f95_9))) f95_25
def f95_0:IC:=.seq (.ops [o1 2 (.box (.t 0)),o1 4 (.mv (.c (.b false)))] [1,2] []) (.seq (.ops [o1 5 (.mv (.c .nil))] [1,2,5] []) f95_4)
@[push_cast]def f95R:List R:=[.t 4]
@[push_cast]def f95e:=aWv f95_23.eq_1<|aWv f95_17.eq_1<|aWv f95_13.eq_1<|aWv f95_9.eq_1<|aWv f95_25.eq_1<|aWv f95_4.eq_1<|aWu f95_0.eq_1
theorem f95ok:okFn Tryz.prog 95 57 f95_0 f95R=true:=by kernel_rfl
def f54_27:IC:=.seq (.ops [o1 106 (.faddr (.t 5) 3),o1 107 (.load (.t 106) 1 false),o1 108 (.bin .neq (.t 107) (.c (.s []))),m1 4 108] [4] []) .ret
def f54_41:IC:=.cond (.t 109) .skip (.ops [o1 114 (.bin .eql (.t 103) (ci 9)),m1 109 114] [1,2,5,103,109] [])
def f54_38:IC:=.cond (.t 109) .skip (.seq (.ops [o1 113 (.bin .eql (.t 103) (ci 7)),m1 109 113] [1,2,5,103,109] []) f54_41)
def f54_35:IC:=.cond (.t 109) .skip (.seq (.ops [o1 112 (.bin .eql (.t 103) (ci 4)),m1 109 112] [1,2,5,103,109] []) f54_38)
def f54_32:IC:=.cond (.t 109) .skip (.seq (.ops [o1 111 (.bin .eql (.t 103) (ci 3)),m1 109 111] [1,2,5,103,109] []) f54_35)
def f54_44:IC:=.seq (.ops [o1 115 (.faddr (.t 5) 3),o1 116 (.load (.t 115) 1 false),o1 117 (.call 92 [.t 116]),m1 4 117] [4] []) .ret
def f54_49:IC:=.seq (.ops [o1 120 (.faddr (.t 5) 3),o1 121 (.load (.t 120) 1 false),o1 122 (.bin .eql (.t 121) (.c (.s []))),m1 123 122,⟨some 124,.faddr (.t 5) 3,some (123,false),[]⟩,⟨some 125,.load (.t 124) 1 false,some (123,false),[]⟩,⟨some 126,.bin .eql (.t 125) (.c (.s [105,110,116,101,103,101,114])),some (123,false),[]⟩,o1 127 (.pick (.t 123) (.c (.b true)) (.t 126)),m1 128 127,⟨some 129,.faddr (.t 5) 3,some (128,false),[]⟩,⟨some 130,.load (.t 129) 1 false,some (128,false),[]⟩,⟨some 131,.bin .eql (.t 130) (.c (.s [112,101,114,99,101,110,116])),some (128,false),[]⟩,o1 132 (.pick (.t 128) (.c (.b true)) (.t 131)),m1 4 132] [4] []) .ret
def f54_54:IC:=.seq (.ops [o1 135 (.faddr (.t 5) 3),o1 136 (.load (.t 135) 1 false),o1 137 (.call 94 [.t 136]),m1 4 137] [4] []) .ret
def f54_59:IC:=.seq (.ops [o1 140 (.faddr (.t 5) 3),o1 141 (.load (.t 140) 1 false),o1 142 (.bin .eql (.t 141) (.c (.s []))),m1 143 142,⟨some 144,.faddr (.t 5) 2,some (143,true),[]⟩,⟨some 145,.load (.t 144) 1 false,some (143,true),[]⟩,⟨some 146,.call 67 [.t 145],some (143,true),[]⟩,o1 147 (.pick (.t 143) (.t 146) (.c (.b false))),m1 148 147,⟨some 149,.load (.t 2) 2 true,some (148,true),[]⟩,⟨some 150,.mv (.t 1),some (148,true),[]⟩,⟨some 151,.call 95 [.t 149,.t 150],some (148,true),[]⟩,o1 152 (.pick (.t 148) (.t 151) (.c (.b false))),m1 4 152] [4] []) .ret
def f54_64:IC:=.seq (.ops [m1 155 1,o1 156 (.bin .gtr (.t 155) (ci 0)),m1 157 156,⟨some 158,.faddr (.t 2) 1,some (157,true),[]⟩,⟨some 159,.load (.t 158) 1 false,some (157,true),[]⟩,⟨some 160,.mv (.t 1),some (157,true),[]⟩,⟨some 161,.bin .sub (.t 160) (ci 1),some (157,true),[]⟩,⟨some 162,.iaddr (.t 159) (.t 161) 65 4,some (157,true),[]⟩,⟨some 163,.faddr (.t 162) 0,some (157,true),[]⟩,⟨some 164,.load (.t 163) 1 false,some (157,true),[]⟩,⟨some 165,.bin .eql (.t 164) (ci 10),some (157,true),[]⟩,⟨some 166,.mv (.t 165),some (157,true),[]⟩,⟨some 167,.faddr (.t 2) 1,some (166,false),[]⟩,⟨some 168,.load (.t 167) 1 false,some (166,false),[]⟩,⟨some 169,.mv (.t 1),some (166,false),[]⟩,⟨some 170,.bin .sub (.t 169) (ci 1),some (166,false),[]⟩,⟨some 171,.iaddr (.t 168) (.t 170) 65 4,some (166,false),[]⟩,⟨some 172,.faddr (.t 171) 0,some (166,false),[]⟩,⟨some 173,.load (.t 172) 1 false,some (166,false),[]⟩,⟨some 174,.bin .eql (.t 173) (ci 11),some (166,false),[]⟩,⟨some 175,.pick (.t 166) (.c (.b true)) (.t 174),some (157,true),[]⟩,o1 176 (.pick (.t 157) (.t 175) (.c (.b false))),m1 4 176] [4] []) .ret
def f54_69:IC:=.cond (.t 177) .skip (.ops [o1 179 (.bin .eql (.t 103) (ci 12)),m1 177 179] [1,2,5,103,177] [])
def f54_72:IC:=.seq (.ops [o1 180 (.faddr (.t 5) 3),o1 181 (.load (.t 180) 1 false),o1 182 (.bin .eql (.t 181) (.c (.s []))),m1 4 182] [4] []) .ret
def f54_77:IC:=.seq (.ops [o1 185 (.faddr (.t 5) 3),o1 186 (.load (.t 185) 1 false),o1 187 (.bin .eql (.t 186) (.c (.s []))),m1 188 187,⟨some 189,.mv (.t 1),some (188,true),[]⟩,⟨some 190,.faddr (.t 2) 1,some (188,true),[]⟩,⟨some 191,.load (.t 190) 1 false,some (188,true),[]⟩,⟨some 192,.lenL (.t 191),some (188,true),[]⟩,⟨some 193,.bin .sub (.t 192) (ci 1),some (188,true),[]⟩,⟨some 194,.bin .eql (.t 189) (.t 193),some (188,true),[]⟩,o1 195 (.pick (.t 188) (.t 194) (.c (.b false))),m1 4 195] [4] []) .ret
def f54_74:IC:=.seq (.ops [o1 184 (.bin .eql (.t 103) (ci 13)),m1 183 184] [1,2,5,183] []) (.cond (.t 183) f54_77 .skip)
def f54_66:IC:=.seq (.seq (.ops [o1 178 (.bin .eql (.t 103) (ci 5)),m1 177 178] [1,2,5,103,177] []) f54_69) (.cond (.t 177) f54_72 f54_74)
def f54_61:IC:=.seq (.ops [o1 154 (.bin .eql (.t 103) (ci 11)),m1 153 154] [1,2,5,103,153] []) (.cond (.t 153) f54_64 f54_66)
def f54_56:IC:=.seq (.ops [o1 139 (.bin .eql (.t 103) (ci 10)),m1 138 139] [1,2,5,103,138] []) (.cond (.t 138) f54_59 f54_61)
def f54_51:IC:=.seq (.ops [o1 134 (.bin .eql (.t 103) (ci 8)),m1 133 134] [1,2,5,103,133] []) (.cond (.t 133) f54_54 f54_56)
def f54_46:IC:=.seq (.ops [o1 119 (.bin .eql (.t 103) (ci 6)),m1 118 119] [1,2,5,103,118] []) (.cond (.t 118) f54_49 f54_51)
def f54_29:IC:=.seq (.seq (.ops [o1 110 (.bin .eql (.t 103) (ci 2)),m1 109 110] [1,2,5,103,109] []) f54_32) (.cond (.t 109) f54_44 f54_46)
def f54_23:IC:=.block 0 (.seq (.ops [o1 105 (.bin .eql (.t 103) (ci 1)),m1 104 105] [1,2,5,103,104] []) (.cond (.t 104) f54_27 f54_29))
def f54_20:IC:=.seq (.seq (.ops [o1 102 (.faddr (.t 5) 0),o1 103 (.load (.t 102) 1 false)] [1,2,5,103] []) f54_23) (.seq (.ops [o1 4 (.mv (.c (.b false)))] [4] []) .ret)
def f54_14:IC:=.seq (.seq (.ops [m1 38 6,m1 39 38,⟨some 40,.faddr (.t 5) 1,some (39,true),[]⟩,⟨some 41,.load (.t 40) 1 false,some (39,true),[]⟩,⟨some 42,.bin .lss (.t 41) (ci 0),some (39,true),[]⟩,⟨some 43,.mv (.t 42),some (39,true),[]⟩,⟨some 44,.faddr (.t 5) 1,some (43,false),[]⟩,⟨some 45,.load (.t 44) 1 false,some (43,false),[]⟩,⟨some 46,.faddr (.t 2) 0,some (43,false),[]⟩,⟨some 47,.load (.t 46) 1 false,some (43,false),[]⟩,⟨some 48,.lenL (.t 47),some (43,false),[]⟩,⟨some 49,.bin .geq (.t 45) (.t 48),some (43,false),[]⟩,⟨some 50,.pick (.t 43) (.c (.b true)) (.t 49),some (39,true),[]⟩,o1 51 (.pick (.t 39) (.t 50) (.c (.b false))),m1 52 51,⟨some 53,.mv (.t 7),some (52,false),[]⟩,⟨some 54,.mv (.t 53),some (52,false),[]⟩,⟨some 55,.faddr (.t 5) 1,some (54,true),[]⟩,⟨some 56,.load (.t 55) 1 false,some (54,true),[]⟩,⟨some 57,.mv (.t 1),some (54,true),[]⟩,⟨some 58,.bin .leq (.t 56) (.t 57),some (54,true),[]⟩,⟨some 59,.mv (.t 58),some (54,true),[]⟩,⟨some 60,.faddr (.t 5) 1,some (59,false),[]⟩,⟨some 61,.load (.t 60) 1 false,some (59,false),[]⟩,⟨some 62,.faddr (.t 2) 1,some (59,false),[]⟩,⟨some 63,.load (.t 62) 1 false,some (59,false),[]⟩,⟨some 64,.lenL (.t 63),some (59,false),[]⟩,⟨some 65,.bin .geq (.t 61) (.t 64),some (59,false),[]⟩,⟨some 66,.pick (.t 59) (.c (.b true)) (.t 65),some (54,true),[]⟩,⟨some 67,.mv (.t 66),some (54,true),[]⟩,⟨some 68,.faddr (.t 2) 1,some (67,false),[]⟩,⟨some 69,.load (.t 68) 1 false,some (67,false),[]⟩,⟨some 70,.faddr (.t 5) 1,some (67,false),[]⟩,⟨some 71,.load (.t 70) 1 false,some (67,false),[]⟩,⟨some 72,.iaddr (.t 69) (.t 71) 65 4,some (67,false),[]⟩,⟨some 73,.faddr (.t 72) 0,some (67,false),[]⟩,⟨some 74,.load (.t 73) 1 false,some (67,false),[]⟩,⟨some 75,.bin .eql (.t 74) (ci 11),some (67,false),[]⟩,⟨some 76,.pick (.t 67) (.c (.b true)) (.t 75),some (54,true),[]⟩,⟨some 77,.pick (.t 54) (.t 76) (.c (.b false)),some (52,false),[]⟩,o1 78 (.pick (.t 52) (.c (.b true)) (.t 77)),m1 79 78,⟨some 80,.mv (.t 6),some (79,false),[]⟩,⟨some 81,.not (.t 80),some (79,false),[]⟩,⟨some 82,.mv (.t 81),some (79,false),[]⟩,⟨some 83,.mv (.t 7),some (82,true),[]⟩,⟨some 84,.not (.t 83),some (82,true),[]⟩,⟨some 85,.pick (.t 82) (.t 84) (.c (.b false)),some (79,false),[]⟩,⟨some 86,.mv (.t 85),some (79,false),[]⟩,⟨some 87,.faddr (.t 5) 1,some (86,true),[]⟩,⟨some 88,.load (.t 87) 1 false,some (86,true),[]⟩,⟨some 89,.bin .neq (.t 88) (ci 0),some (86,true),[]⟩,⟨some 90,.pick (.t 86) (.t 89) (.c (.b false)),some (79,false),[]⟩,o1 91 (.pick (.t 79) (.c (.b true)) (.t 90)),m1 92 91,⟨some 93,.faddr (.t 5) 0,some (92,false),[]⟩,⟨some 94,.load (.t 93) 1 false,some (92,false),[]⟩,⟨some 95,.bin .neq (.t 94) (ci 10),some (92,false),[]⟩,⟨some 96,.mv (.t 95),some (92,false),[]⟩,⟨some 97,.faddr (.t 5) 2,some (96,true),[]⟩,⟨some 98,.load (.t 97) 1 false,some (96,true),[]⟩,⟨some 99,.bin .neq (.t 98) (ci 0),some (96,true),[]⟩,⟨some 100,.pick (.t 96) (.t 99) (.c (.b false)),some (92,false),[]⟩,o1 101 (.pick (.t 92) (.c (.b true)) (.t 100))] [1,2,5,101] []) (.cond (.t 101) (.seq (.ops [o1 4 (.mv (.c (.b false)))] [4] []) .ret) .skip)) f54_20
def f54_12:IC:=.seq (.ops [o1 30 (.faddr (.t 5) 0),o1 31 (.load (.t 30) 1 false),o1 32 (.bin .eql (.t 31) (ci 11)),m1 33 32,⟨some 34,.faddr (.t 5) 0,some (33,false),[]⟩,⟨some 35,.load (.t 34) 1 false,some (33,false),[]⟩,⟨some 36,.bin .eql (.t 35) (ci 12),some (33,false),[]⟩,o1 37 (.pick (.t 33) (.c (.b true)) (.t 36)),m1 7 37] [1,2,5,6,7] []) f54_14
def f54_10:IC:=.seq (.ops [o1 22 (.faddr (.t 5) 0),o1 23 (.load (.t 22) 1 false),o1 24 (.bin .geq (.t 23) (ci 5)),m1 25 24,⟨some 26,.faddr (.t 5) 0,some (25,true),[]⟩,⟨some 27,.load (.t 26) 1 false,some (25,true),[]⟩,⟨some 28,.bin .leq (.t 27) (ci 10),some (25,true),[]⟩,o1 29 (.pick (.t 25) (.t 28) (.c (.b false))),m1 6 29] [1,2,5,6] []) f54_12
def f54_8:IC:=.seq (.ops [o1 17 (.faddr (.t 2) 1),o1 18 (.load (.t 17) 1 false),m1 19 1,o1 20 (.iaddr (.t 18) (.t 19) 65 4),o1 21 (.load (.t 20) 4 true),o1 5 (.alloc (.agg [(.i .i64 0),(.i .i64 0),(.i .i64 0),(.s [])])),o0 (.store (.t 5) (.t 21) 4)] [1,2,5] []) f54_10
def f54_2:IC:=.seq (.seq (.ops [m1 8 1,o1 9 (.bin .lss (.t 8) (ci 0)),m1 10 9,⟨some 11,.mv (.t 1),some (10,false),[]⟩,⟨some 12,.faddr (.t 2) 1,some (10,false),[]⟩,⟨some 13,.load (.t 12) 1 false,some (10,false),[]⟩,⟨some 14,.lenL (.t 13),some (10,false),[]⟩,⟨some 15,.bin .geq (.t 11) (.t 14),some (10,false),[]⟩,o1 16 (.pick (.t 10) (.c (.b true)) (.t 15))] [1,2,16] []) (.cond (.t 16) (.seq (.ops [o1 4 (.mv (.c (.b false)))] [4] []) .ret) .skip)) f54_8
def f54_0:IC:=.seq (.ops [o1 2 (.box (.t 0)),o1 4 (.mv (.c (.b false)))] [1,2] []) f54_2
@[push_cast]def f54R:List R:=[.t 4]
@[push_cast]def f54e:=aWv f54_27.eq_1<|aWv f54_41.eq_1<|aWv f54_38.eq_1<|aWv f54_35.eq_1<|aWv f54_32.eq_1<|aWv f54_44.eq_1<|aWv f54_49.eq_1<|aWv f54_54.eq_1<|aWv f54_59.eq_1<|aWv f54_64.eq_1<|aWv f54_69.eq_1<|aWv f54_72.eq_1<|aWv f54_77.eq_1<|aWv f54_74.eq_1<|aWv f54_66.eq_1<|aWv f54_61.eq_1<|aWv f54_56.eq_1<|aWv f54_51.eq_1<|aWv f54_46.eq_1<|aWv f54_29.eq_1<|aWv f54_23.eq_1<|aWv f54_20.eq_1<|aWv f54_14.eq_1<|aWv f54_12.eq_1<|aWv f54_10.eq_1<|aWv f54_8.eq_1<|aWv f54_2.eq_1<|aWu f54_0.eq_1
theorem f54ok:okFn Tryz.prog 54 196 f54_0 f54R=true:=by kernel_rfl
def f96_20:IC:=.seq (.block 2 (.ops [m1 33 5,o1 34 (.faddr (.t 2) 1),o1 35 (.load (.t 34) 1 false),m1 36 6,o1 37 (.iaddr (.t 35) (.t 36) 65 4),o1 38 (.faddr (.t 37) 1),o1 39 (.load (.t 38) 1 false),o1 40 (.msl false 3 1 [.t 39]),o1 41 (.app (.t 33) (.t 40) 3 1),m1 5 41] [2,5,6] [])) (.ops [m1 31 6,o1 32 (.bin .add (.t 31) (ci 1)),m1 6 32] [2,5,6] [])
def f96_16:IC:=.seq (.seq (.ops [m1 17 6,o1 18 (.faddr (.t 2) 1),o1 19 (.load (.t 18) 1 false),o1 20 (.lenL (.t 19)),o1 21 (.bin .lss (.t 17) (.t 20)),m1 22 21,⟨some 23,.faddr (.t 2) 1,some (22,true),[]⟩,⟨some 24,.load (.t 23) 1 false,some (22,true),[]⟩,⟨some 25,.mv (.t 6),some (22,true),[]⟩,⟨some 26,.iaddr (.t 24) (.t 25) 65 4,some (22,true),[]⟩,⟨some 27,.faddr (.t 26) 0,some (22,true),[]⟩,⟨some 28,.load (.t 27) 1 false,some (22,true),[]⟩,⟨some 29,.bin .eql (.t 28) (ci 11),some (22,true),[]⟩,o1 30 (.pick (.t 22) (.t 29) (.c (.b false)))] [2,5,6,30] []) (.cond (.t 30) .skip (.exit 1))) f96_20
def f96_11:IC:=.seq (.seq (.ops [m1 15 1,o1 16 (.bin .add (.t 15) (ci 1)),m1 6 16] [2,5,6] []) (.block 1 (.loop f96_16))) (.seq (.ops [m1 42 5,m1 4 42] [4] []) .ret)
def f96_29:IC:=.seq (.ops [o1 45 (.faddr (.t 2) 1),o1 46 (.load (.t 45) 1 false),m1 47 1,o1 48 (.iaddr (.t 46) (.t 47) 65 4),o1 49 (.faddr (.t 48) 1),o1 50 (.load (.t 49) 1 false),o1 51 (.msl false 3 1 [.t 50]),m1 4 51] [4] []) .ret
def f96_31:IC:=.seq (.ops [o1 53 (.bin .eql (.t 12) (ci 13)),m1 52 53] [1,52] []) (.cond (.t 52) (.seq (.ops [o1 4 (.mv (.c .nil))] [4] []) .ret) .skip)
def f96_26:IC:=.seq (.ops [o1 44 (.bin .eql (.t 12) (ci 12)),m1 43 44] [1,2,12,43] []) (.cond (.t 43) f96_29 f96_31)
def f96_5:IC:=.block 0 (.seq (.ops [o1 14 (.bin .eql (.t 12) (ci 10)),m1 13 14] [1,2,12,13] []) (.cond (.t 13) (.seq (.ops [o1 5 (.mv (.c .nil))] [1,2,5] []) f96_11) f96_26))
def f96_36:IC:=.seq (.ops [m1 54 1,o1 55 (.bin .add (.t 54) (ci 1)),o1 56 (.msl false 3 1 [.t 55]),m1 4 56] [4] []) .ret
def f96_2:IC:=.seq (.seq (.ops [o1 7 (.faddr (.t 2) 1),o1 8 (.load (.t 7) 1 false),m1 9 1,o1 10 (.iaddr (.t 8) (.t 9) 65 4),o1 11 (.faddr (.t 10) 0),o1 12 (.load (.t 11) 1 false)] [1,2,12] []) f96_5) f96_36
def f96_0:IC:=.seq (.ops [o1 2 (.box (.t 0)),o1 4 (.mv (.c .nil))] [1,2] []) f96_2
@[push_cast]def f96R:List R:=[.t 4]
@[push_cast]def f96e:=aWv f96_20.eq_1<|aWv f96_16.eq_1<|aWv f96_11.eq_1<|aWv f96_29.eq_1<|aWv f96_31.eq_1<|aWv f96_26.eq_1<|aWv f96_5.eq_1<|aWv f96_36.eq_1<|aWv f96_2.eq_1<|aWu f96_0.eq_1
theorem f96ok:okFn Tryz.prog 96 57 f96_0 f96R=true:=by kernel_rfl
def f97_17:IC:=.seq (.block 1 (.seq (.ops [m1 17 0,m1 18 5,o1 19 (.iaddr (.t 17) (.t 18) 9 1),o1 20 (.load (.t 19) 1 false),m1 21 1,m1 22 5,o1 23 (.iaddr (.t 21) (.t 22) 9 1),o1 24 (.load (.t 23) 1 false),o1 25 (.bin .neq (.t 20) (.t 24))] [0,1,5,25] [[0,2],[1,2],[2,3],[4,6],[5,6],[6,7],[3,8],[7,8]]) (.cond (.t 25) (.seq (.ops [o1 4 (.mv (.c (.b false)))] [4] []) .ret) .skip))) (.ops [m1 15 5,o1 16 (.bin .add (.t 15) (ci 1)),m1 5 16] [0,1,5] [])
def f97_13:IC:=.seq (.seq (.ops [m1 11 5,m1 12 0,o1 13 (.lenL (.t 12)),o1 14 (.bin .lss (.t 11) (.t 13))] [0,1,5,14] []) (.cond (.t 14) .skip (.exit 0))) f97_17
def f97_8:IC:=.seq (.seq (.ops [o1 5 (.mv (ci 0))] [0,1,5] []) (.block 0 (.loop f97_13))) (.seq (.ops [o1 4 (.mv (.c (.b true)))] [4] []) .ret)
def f97_2:IC:=.seq (.seq (.ops [m1 6 0,o1 7 (.lenL (.t 6)),m1 8 1,o1 9 (.lenL (.t 8)),o1 10 (.bin .neq (.t 7) (.t 9))] [0,1,10] []) (.cond (.t 10) (.seq (.ops [o1 4 (.mv (.c (.b false)))] [4] []) .ret) .skip)) f97_8
def f97_0:IC:=.seq (.ops [o1 4 (.mv (.c (.b false)))] [0,1] []) f97_2
@[push_cast]def f97R:List R:=[.t 4]
@[push_cast]def f97e:=aWv f97_17.eq_1<|aWv f97_13.eq_1<|aWv f97_8.eq_1<|aWv f97_2.eq_1<|aWu f97_0.eq_1
theorem f97ok:okFn Tryz.prog 97 26 f97_0 f97R=true:=by kernel_rfl
def f55_38:IC:=.ops [o1 56 (.msl true 9 1 []),m1 57 8,o1 58 (.app (.t 56) (.t 57) 9 1),o1 59 (.faddr (.t 7) 3),⟨some 60,.load (.t 59) 1 false,none,[.t 56]⟩,o1 61 (.msl false 9 1 [.t 60]),o1 62 (.app (.t 58) (.t 61) 9 1),m1 8 62] [1,4,5,6,8] [[0,2],[1,2],[3,4],[4,5],[2,6],[4,5,6],[5,6],[1,7],[6,7]]
def f55_43:IC:=.ops [o1 83 (.faddr (.t 7) 0),o1 84 (.load (.t 83) 1 false),o1 85 (.bin .eql (.t 84) (ci 13)),m1 86 85,⟨some 87,.mv (.t 8),some (86,true),[]⟩,⟨some 88,.lenL (.t 87),some (86,true),[]⟩,⟨some 89,.bin .gtr (.t 88) (ci 0),some (86,true),[]⟩,o1 90 (.pick (.t 86) (.t 89) (.c (.b false))),m1 63 90] [1,4,5,6,7,8,63] []
def f55_50:IC:=.ops [m1 97 8,m1 98 8,o1 99 (.lenL (.t 98)),o1 100 (.bin .sub (.t 99) (ci 1)),o1 101 (.slL (.t 97) none (some (.t 100)) 1),m1 8 101] [1,4,5,6,8] []
def f55_47:IC:=.seq (.ops [o1 94 (.faddr (.t 7) 0),o1 95 (.load (.t 94) 1 false),o1 96 (.bin .eql (.t 95) (ci 3)),m1 93 96] [1,4,5,6,8,93] []) (.cond (.t 93) f55_50 .skip)
def f55_39:IC:=.seq (.seq (.ops [o1 64 (.faddr (.t 7) 0),o1 65 (.load (.t 64) 1 false),o1 66 (.bin .eql (.t 65) (ci 3)),m1 67 66,⟨some 68,.mv (.t 8),some (67,true),[]⟩,⟨some 69,.lenL (.t 68),some (67,true),[]⟩,⟨some 70,.bin .eql (.t 69) (ci 0),some (67,true),[]⟩,⟨some 71,.mv (.t 70),some (67,true),[]⟩,⟨some 72,.mv (.t 8),some (71,false),[]⟩,⟨some 73,.mv (.t 8),some (71,false),[]⟩,⟨some 74,.lenL (.t 73),some (71,false),[]⟩,⟨some 75,.bin .sub (.t 74) (ci 1),some (71,false),[]⟩,⟨some 76,.iaddr (.t 72) (.t 75) 9 1,some (71,false),[]⟩,⟨some 77,.load (.t 76) 1 false,some (71,false),[]⟩,⟨some 78,.faddr (.t 7) 3,some (71,false),[]⟩,⟨some 79,.load (.t 78) 1 false,some (71,false),[]⟩,⟨some 80,.bin .neq (.t 77) (.t 79),some (71,false),[]⟩,⟨some 81,.pick (.t 71) (.c (.b true)) (.t 80),some (67,true),[]⟩,o1 82 (.pick (.t 67) (.t 81) (.c (.b false))),m1 63 82] [1,4,5,6,7,8,63] [[0,1],[1,2],[2,3],[3,4],[3,5],[4,5],[3,6],[5,6],[3,7],[6,7],[7,8],[7,9],[7,10],[9,10],[7,11],[10,11],[7,12],[8,12],[11,12],[7,13],[12,13],[7,14],[7,15],[14,15],[7,16],[13,16],[15,16],[3,17],[7,17],[16,17],[3,18],[17,18],[18,19]]) (.cond (.t 63) .skip f55_43)) (.cond (.t 63) (.seq (.ops [m1 91 4,m1 92 6,m1 2 91,m1 3 92] [2,3] []) .ret) f55_47)
def f55_53:IC:=.ops [o1 102 (.load (.t 1) 2 true),m1 103 6,o1 104 (.call 96 [.t 102,.t 103]),m1 9 104] [1,4,5,6,8,9] []
def f55_68:IC:=.ops [m1 139 4,m1 140 11,m1 141 8,o1 142 (.build [(.b false),.nil] [(0,1,(.c (.b true))),(1,1,(.t 141))]),o1 143 (.iaddr (.t 139) (.t 140) 184 2),o0 (.store (.t 143) (.t 142) 2)] [1,4,5,6,8,9,10] []
def f55_66:IC:=.seq (.ops [m1 115 5,m1 116 11,m1 117 5,m1 118 11,o1 119 (.iaddr (.t 117) (.t 118) 4 1),o1 120 (.load (.t 119) 1 false),m1 121 120,⟨some 122,.mv (.t 4),some (121,false),[]⟩,⟨some 123,.mv (.t 11),some (121,false),[]⟩,⟨some 124,.iaddr (.t 122) (.t 123) 184 2,some (121,false),[]⟩,⟨some 125,.faddr (.t 124) 0,some (121,false),[]⟩,⟨some 126,.load (.t 125) 1 false,some (121,false),[]⟩,⟨some 127,.mv (.t 126),some (121,false),[]⟩,⟨some 128,.mv (.t 4),some (127,true),[]⟩,⟨some 129,.mv (.t 11),some (127,true),[]⟩,⟨some 130,.iaddr (.t 128) (.t 129) 184 2,some (127,true),[]⟩,⟨some 131,.faddr (.t 130) 1,some (127,true),[]⟩,⟨some 132,.load (.t 131) 1 false,some (127,true),[]⟩,⟨some 133,.mv (.t 8),some (127,true),[]⟩,⟨some 134,.call 97 [.t 132,.t 133],some (127,true),[]⟩,⟨some 135,.not (.t 134),some (127,true),[]⟩,⟨some 136,.pick (.t 127) (.t 135) (.c (.b false)),some (121,false),[]⟩,o1 137 (.pick (.t 121) (.c (.b true)) (.t 136)),o1 138 (.iaddr (.t 115) (.t 116) 4 1),o0 (.store (.t 138) (.t 137) 1)] [1,4,5,6,8,9,10,11] []) f55_68
def f55_62:IC:=.seq (.block 4 (.seq (.ops [m1 111 9,m1 112 10,o1 113 (.iaddr (.t 111) (.t 112) 3 1),o1 114 (.load (.t 113) 1 false),m1 11 114] [1,4,5,6,8,9,10,11] []) f55_66)) (.ops [m1 109 10,o1 110 (.bin .add (.t 109) (ci 1)),m1 10 110] [1,4,5,6,8,9,10] [])
def f55_58:IC:=.seq (.seq (.ops [m1 105 10,m1 106 9,o1 107 (.lenL (.t 106)),o1 108 (.bin .lss (.t 105) (.t 107))] [1,4,5,6,8,9,10,108] []) (.cond (.t 108) .skip (.exit 3))) f55_62
def f55_51:IC:=.seq (.wk f55_53) (.seq (.ops [o1 10 (.mv (ci 0))] [1,4,5,6,8,9,10] []) (.block 3 (.loop f55_58)))
def f55_33:IC:=.seq (.block 2 (.seq (.ops [o1 53 (.faddr (.t 7) 0),o1 54 (.load (.t 53) 1 false),o1 55 (.bin .eql (.t 54) (ci 2)),m1 52 55] [1,4,5,6,7,8,52] []) (.cond (.t 52) f55_38 f55_39))) f55_51
def f55_31:IC:=.seq (.ops [m1 47 4,m1 48 6,o1 49 (.iaddr (.t 47) (.t 48) 184 2),o1 50 (.faddr (.t 49) 1),o1 51 (.load (.t 50) 1 false),m1 8 51] [1,4,5,6,7,8] []) f55_33
def f55_29:IC:=.seq (.ops [o1 42 (.faddr (.t 1) 1),o1 43 (.load (.t 42) 1 false),m1 44 6,o1 45 (.iaddr (.t 43) (.t 44) 65 4),o1 46 (.load (.t 45) 4 true),o1 7 (.alloc (.agg [(.i .i64 0),(.i .i64 0),(.i .i64 0),(.s [])])),o0 (.store (.t 7) (.t 46) 4)] [1,4,5,6,7] []) f55_31
def f55_23:IC:=.seq (.seq (.ops [m1 36 5,m1 37 6,o1 38 (.iaddr (.t 36) (.t 37) 4 1),o1 39 (.load (.t 38) 1 false)] [1,4,5,6,39] []) (.cond (.t 39) (.seq (.ops [m1 40 4,m1 41 6,m1 2 40,m1 3 41] [2,3] []) .ret) .skip)) f55_29
def f55_17:IC:=.seq (.block 1 (.seq (.seq (.ops [m1 30 4,m1 31 6,o1 32 (.iaddr (.t 30) (.t 31) 184 2),o1 33 (.faddr (.t 32) 0),o1 34 (.load (.t 33) 1 false),o1 35 (.not (.t 34))] [1,4,5,6,35] []) (.cond (.t 35) (.exit 1) .skip)) f55_23)) (.ops [m1 28 6,o1 29 (.bin .add (.t 28) (ci 1)),m1 6 29] [1,4,5,6] [])
def f55_13:IC:=.seq (.seq (.ops [m1 23 6,o1 24 (.faddr (.t 1) 1),o1 25 (.load (.t 24) 1 false),o1 26 (.lenL (.t 25)),o1 27 (.bin .lss (.t 23) (.t 26))] [1,4,5,6,27] []) (.cond (.t 27) .skip (.exit 0))) f55_17
def f55_8:IC:=.seq (.seq (.ops [o1 6 (.mv (ci 0))] [1,4,5,6] []) (.block 0 (.loop f55_13))) (.seq (.ops [m1 144 4,m1 2 144,o1 3 (.mv (ci (-1)))] [2,3] []) .ret)
def f55_6:IC:=.seq (.ops [m1 20 4,o1 21 (.iaddr (.t 20) (ci 0) 184 2),o1 22 (.faddr (.t 21) 0),o0 (.store (.t 22) (.c (.b true)) 1)] [1,4,5] []) f55_8
def f55_4:IC:=.seq (.ops [o1 16 (.faddr (.t 1) 1),o1 17 (.load (.t 16) 1 false),o1 18 (.lenL (.t 17)),o1 19 (.mksl (.t 18) (.t 18) (.b false) 4 1),m1 5 19] [1,4,5] []) f55_6
def f55_2:IC:=.seq (.ops [o1 12 (.faddr (.t 1) 1),o1 13 (.load (.t 12) 1 false),o1 14 (.lenL (.t 13)),o1 15 (.mksl (.t 14) (.t 14) (.agg [(.b false),.nil]) 184 2),m1 4 15] [1,4] []) f55_4
def f55_0:IC:=.seq (.ops [o1 1 (.box (.t 0)),o1 2 (.mv (.c .nil)),o1 3 (.mv (ci 0))] [1] []) f55_2
@[push_cast]def f55R:List R:=[.t 2,.t 3]
@[push_cast]def f55e:=aWv f55_38.eq_1<|aWv f55_43.eq_1<|aWv f55_50.eq_1<|aWv f55_47.eq_1<|aWv f55_39.eq_1<|aWv f55_53.eq_1<|aWv f55_68.eq_1<|aWv f55_66.eq_1<|aWv f55_62.eq_1<|aWv f55_58.eq_1<|aWv f55_51.eq_1<|aWv f55_33.eq_1<|aWv f55_31.eq_1<|aWv f55_29.eq_1<|aWv f55_23.eq_1<|aWv f55_17.eq_1<|aWv f55_13.eq_1<|aWv f55_8.eq_1<|aWv f55_6.eq_1<|aWv f55_4.eq_1<|aWv f55_2.eq_1<|aWu f55_0.eq_1
theorem f55ok:okFn Tryz.prog 55 145 f55_0 f55R=true:=by kernel_rfl
def f34_23:IC:=.seq (.block 1 (.seq (.ops [o1 22 (.load (.t 1) 2 true),m1 23 4,o1 24 (.call 54 [.t 22,.t 23]),o1 25 (.not (.t 24))] [1,4,25] []) (.cond (.t 25) (.seq (.ops [m1 26 4,m1 2 26,o1 3 (.mv (ci 4))] [2,3] []) .ret) .skip))) (.ops [m1 20 4,o1 21 (.bin .add (.t 20) (ci 1)),m1 4 21] [1,4] [])
def f34_19:IC:=.seq (.seq (.ops [m1 15 4,o1 16 (.faddr (.t 1) 1),o1 17 (.load (.t 16) 1 false),o1 18 (.lenL (.t 17)),o1 19 (.bin .lss (.t 15) (.t 18))] [1,4,19] []) (.cond (.t 19) .skip (.exit 0))) f34_23
def f34_35:IC:=.seq (.ops [o1 43 (.faddr (.t 1) 1),o1 44 (.load (.t 43) 1 false),o1 45 (.lenL (.t 44)),m1 2 45,o1 3 (.mv (ci 4))] [2,3] []) .ret
def f34_40:IC:=.seq (.ops [m1 51 6,o1 52 (.bin .geq (.t 51) (ci 0))] [6,52] []) (.cond (.t 52) (.seq (.ops [m1 53 6,m1 2 53,o1 3 (.mv (ci 7))] [2,3] []) .ret) .skip)
def f34_37:IC:=.seq (.seq (.ops [o1 47 (.load (.t 1) 2 true),o1 48 (.call 55 [.t 47]),m1 46 48,o1 49 (.ext (.t 46) 0),o1 50 (.ext (.t 46) 1),m1 5 49,m1 6 50] [6] []) f34_40) (.seq (.ops [o1 2 (.mv (ci 0)),o1 3 (.mv (ci 0))] [2,3] []) .ret)
def f34_31:IC:=.seq (.seq (.ops [o1 27 (.faddr (.t 1) 1),o1 28 (.load (.t 27) 1 false),o1 29 (.lenL (.t 28)),o1 30 (.bin .eql (.t 29) (ci 0)),m1 31 30,⟨some 32,.faddr (.t 1) 1,some (31,false),[]⟩,⟨some 33,.load (.t 32) 1 false,some (31,false),[]⟩,⟨some 34,.faddr (.t 1) 1,some (31,false),[]⟩,⟨some 35,.load (.t 34) 1 false,some (31,false),[]⟩,⟨some 36,.lenL (.t 35),some (31,false),[]⟩,⟨some 37,.bin .sub (.t 36) (ci 1),some (31,false),[]⟩,⟨some 38,.iaddr (.t 33) (.t 37) 65 4,some (31,false),[]⟩,⟨some 39,.faddr (.t 38) 0,some (31,false),[]⟩,⟨some 40,.load (.t 39) 1 false,some (31,false),[]⟩,⟨some 41,.bin .neq (.t 40) (ci 13),some (31,false),[]⟩,o1 42 (.pick (.t 31) (.c (.b true)) (.t 41))] [1,42] []) (.cond (.t 42) f34_35 .skip)) f34_37
def f34_8:IC:=.seq (.seq (.ops [o1 11 (.faddr (.t 1) 1),o1 12 (.load (.t 11) 1 false),o1 13 (.lenL (.t 12)),o1 14 (.bin .gtr (.t 13) (ci 10000))] [1,14] []) (.cond (.t 14) (.seq (.ops [o1 2 (.mv (ci 0)),o1 3 (.mv (ci 6))] [2,3] []) .ret) .skip)) (.seq (.seq (.ops [o1 4 (.mv (ci 0))] [1,4] []) (.block 0 (.loop f34_19))) f34_31)
def f34_2:IC:=.seq (.seq (.ops [o1 7 (.faddr (.t 1) 0),o1 8 (.load (.t 7) 1 false),o1 9 (.call 53 [.t 8]),o1 10 (.not (.t 9))] [1,10] []) (.cond (.t 10) (.seq (.ops [o1 2 (.mv (ci 0)),o1 3 (.mv (ci 1))] [2,3] []) .ret) .skip)) f34_8
def f34_0:IC:=.seq (.ops [o1 1 (.box (.t 0)),o1 2 (.mv (ci 0)),o1 3 (.mv (ci 0))] [1] []) f34_2
@[push_cast]def f34R:List R:=[.t 2,.t 3]
@[push_cast]def f34e:=aWv f34_23.eq_1<|aWv f34_19.eq_1<|aWv f34_35.eq_1<|aWv f34_40.eq_1<|aWv f34_37.eq_1<|aWv f34_31.eq_1<|aWv f34_8.eq_1<|aWv f34_2.eq_1<|aWu f34_0.eq_1
theorem f34ok:okFn Tryz.prog 34 54 f34_0 f34R=true:=by kernel_rfl
def f20_2:IC:=.seq (.ops [o1 6 (.load (.t 1) 2 true),o1 7 (.call 34 [.t 6]),m1 5 7,o1 8 (.ext (.t 5) 0),o1 9 (.ext (.t 5) 1),m1 3 8,m1 4 9] [4] []) (.seq (.ops [m1 10 4,o1 11 (.bin .eql (.t 10) (ci 0)),m1 2 11] [2] []) .ret)
def f20_0:IC:=.seq (.ops [o1 1 (.box (.t 0)),o1 2 (.mv (.c (.b false)))] [1] []) f20_2
@[push_cast]def f20R:List R:=[.t 2]
@[push_cast]def f20e:=aWv f20_2.eq_1<|aWu f20_0.eq_1
theorem f20ok:okFn Tryz.prog 20 12 f20_0 f20R=true:=by kernel_rfl
def f8_30:IC:=.ops [o1 34 (.faddr (.t 6) 0),o1 35 (.load (.t 34) 1 false),o1 36 (.bin .add (ci 2) (.t 35)),o1 37 (.bin .sub (.t 36) (ci 5)),m1 7 37] [1,4,5,6,7] []
def f8_33:IC:=.cond (.t 38) (.ops [o1 42 (.faddr (.t 6) 2),o1 43 (.load (.t 42) 1 false),m1 7 43] [1,4,5,6,7] []) (.exit 1)
def f8_31:IC:=.seq (.ops [o1 39 (.faddr (.t 6) 0),o1 40 (.load (.t 39) 1 false),o1 41 (.bin .eql (.t 40) (ci 10)),m1 38 41] [1,4,5,6,38] []) f8_33
def f8_37:IC:=.seq (.seq (.ops [m1 58 9,o1 59 (.not (.t 58))] [1,5,8,59] []) (.cond (.t 59) (.seq (.ops [o1 2 (.mv (.c .nil)),o1 3 (.mv (ci 11))] [2,3] []) .ret) .skip)) (.ops [m1 60 8,m1 4 60] [1,4,5] [])
def f8_35:IC:=.seq (.ops [m1 45 4,o1 46 (.faddr (.t 1) 0),o1 47 (.load (.t 46) 1 false),o1 48 (.faddr (.t 6) 1),o1 49 (.load (.t 48) 1 false),o1 50 (.iaddr (.t 47) (.t 49) 9 1),o1 51 (.load (.t 50) 1 false),m1 52 7,o1 53 (.call 22 [.t 52]),o1 54 (.build [(.s []),(.i .i64 0)] [(0,1,(.t 51)),(1,1,(.t 53))]),o1 55 (.call 21 [.t 45,.t 54]),m1 44 55,o1 56 (.ext (.t 44) 0),o1 57 (.ext (.t 44) 1),m1 8 56,m1 9 57] [1,5,8,9] [[1,2],[3,4],[2,5],[4,5],[5,6],[7,8],[6,9],[8,9],[0,10],[9,10],[10,11],[11,12],[11,13],[12,14],[13,15]]) f8_37
def f8_25:IC:=.seq (.block 2 (.seq (.ops [o1 26 (.faddr (.t 6) 0),o1 27 (.load (.t 26) 1 false),o1 28 (.bin .geq (.t 27) (ci 5)),m1 29 28,⟨some 30,.faddr (.t 6) 0,some (29,true),[]⟩,⟨some 31,.load (.t 30) 1 false,some (29,true),[]⟩,⟨some 32,.bin .leq (.t 31) (ci 9),some (29,true),[]⟩,o1 33 (.pick (.t 29) (.t 32) (.c (.b false))),m1 25 33] [1,4,5,6,25] []) (.cond (.t 25) f8_30 f8_31))) f8_35
def f8_19:IC:=.seq (.block 1 (.seq (.ops [o1 20 (.faddr (.t 1) 1),o1 21 (.load (.t 20) 1 false),m1 22 5,o1 23 (.iaddr (.t 21) (.t 22) 65 4),o1 24 (.load (.t 23) 4 true),o1 6 (.alloc (.agg [(.i .i64 0),(.i .i64 0),(.i .i64 0),(.s [])])),o0 (.store (.t 6) (.t 24) 4)] [1,4,5,6] []) (.seq (.ops [o1 7 (.mv (ci 0))] [1,4,5,6] []) f8_25))) (.ops [m1 18 5,o1 19 (.bin .add (.t 18) (ci 1)),m1 5 19] [1,4,5] [])
def f8_15:IC:=.seq (.seq (.ops [m1 13 5,o1 14 (.faddr (.t 1) 1),o1 15 (.load (.t 14) 1 false),o1 16 (.lenL (.t 15)),o1 17 (.bin .lss (.t 13) (.t 16))] [1,4,5,17] []) (.cond (.t 17) .skip (.exit 0))) f8_19
def f8_10:IC:=.seq (.seq (.ops [o1 5 (.mv (ci 0))] [1,4,5] []) (.block 0 (.loop f8_15))) (.seq (.ops [m1 61 4,m1 2 61,o1 3 (.mv (ci 0))] [2,3] []) .ret)
def f8_2:IC:=.seq (.seq (.ops [o1 10 (.load (.t 1) 2 true),o1 11 (.call 20 [.t 10]),o1 12 (.not (.t 11))] [1,12] []) (.cond (.t 12) (.seq (.ops [o1 2 (.mv (.c .nil)),o1 3 (.mv (ci 1))] [2,3] []) .ret) .skip)) (.seq (.ops [o1 4 (.mv (.c .nil))] [1,4] []) f8_10)
def f8_0:IC:=.seq (.ops [o1 1 (.box (.t 0)),o1 2 (.mv (.c .nil)),o1 3 (.mv (ci 0))] [1] []) f8_2
@[push_cast]def f8R:List R:=[.t 2,.t 3]
@[push_cast]def f8e:=aWv f8_30.eq_1<|aWv f8_33.eq_1<|aWv f8_31.eq_1<|aWv f8_37.eq_1<|aWv f8_35.eq_1<|aWv f8_25.eq_1<|aWv f8_19.eq_1<|aWv f8_15.eq_1<|aWv f8_10.eq_1<|aWv f8_2.eq_1<|aWu f8_0.eq_1
theorem f8ok:okFn Tryz.prog 8 62 f8_0 f8R=true:=by kernel_rfl
def f21_21:IC:=.seq (.ops [m1 38 6,m1 39 7,m1 40 8,o1 41 (.iaddr (.t 38) (.t 39) 63 2),o1 42 (.faddr (.t 41) 1),o0 (.store (.t 42) (.t 40) 1)] [6,9] []) (.seq (.ops [m1 43 6,m1 44 9,m1 4 43,m1 5 44] [4,5] []) .ret)
def f21_19:IC:=.seq (.ops [m1 28 6,m1 29 7,o1 30 (.iaddr (.t 28) (.t 29) 63 2),o1 31 (.faddr (.t 30) 1),o1 32 (.load (.t 31) 1 false),o1 33 (.faddr (.t 3) 1),o1 34 (.load (.t 33) 1 false),o1 35 (.call 35 [.t 32,.t 34]),m1 27 35,o1 36 (.ext (.t 27) 0),o1 37 (.ext (.t 27) 1),m1 8 36,m1 9 37] [6,7,8,9] [[0,2],[1,2],[2,3],[3,4],[5,6],[4,7],[6,7],[7,8],[8,9],[8,10],[9,11],[10,12]]) f21_21
def f21_28:IC:=.seq (.ops [o1 53 (.msl true 63 2 []),m1 54 0,m1 55 7,o1 56 (.slL (.t 54) none (some (.t 55)) 2),o1 57 (.app (.t 53) (.t 56) 63 2),⟨some 58,.load (.t 3) 2 true,none,[.t 53]⟩,o1 59 (.msl false 63 2 [.t 58]),o1 60 (.app (.t 57) (.t 59) 63 2),m1 61 0,m1 62 7,o1 63 (.slL (.t 61) (some (.t 62)) none 2),o1 64 (.app (.t 60) (.t 63) 63 2),m1 4 64,o1 5 (.mv (.c (.b true)))] [4,5] [[1,3],[2,3],[0,4],[3,4],[5,6],[4,7],[5,6,7],[6,7],[8,10],[9,10],[4,7,11],[5,6,7,11],[7,11],[10,11],[11,12]]) .ret
def f21_25:IC:=.seq (.ops [m1 45 6,m1 46 7,o1 47 (.iaddr (.t 45) (.t 46) 63 2),o1 48 (.faddr (.t 47) 0),o1 49 (.load (.t 48) 1 false),o1 50 (.faddr (.t 3) 0),o1 51 (.load (.t 50) 1 false),o1 52 (.bin .gtr (.t 49) (.t 51))] [0,3,6,7,52] [[0,2],[1,2],[2,3],[3,4],[5,6],[4,7],[6,7]]) (.cond (.t 52) f21_28 .skip)
def f21_13:IC:=.seq (.block 1 (.seq (.seq (.ops [m1 19 6,m1 20 7,o1 21 (.iaddr (.t 19) (.t 20) 63 2),o1 22 (.faddr (.t 21) 0),o1 23 (.load (.t 22) 1 false),o1 24 (.faddr (.t 3) 0),o1 25 (.load (.t 24) 1 false),o1 26 (.bin .eql (.t 23) (.t 25))] [0,3,6,7,26] [[0,2],[1,2],[2,3],[3,4],[5,6],[4,7],[6,7]]) (.cond (.t 26) f21_19 .skip)) f21_25)) (.ops [m1 17 7,o1 18 (.bin .add (.t 17) (ci 1)),m1 7 18] [0,3,6,7] [])
def f21_9:IC:=.seq (.seq (.ops [m1 13 7,m1 14 6,o1 15 (.lenL (.t 14)),o1 16 (.bin .lss (.t 13) (.t 15))] [0,3,6,7,16] []) (.cond (.t 16) .skip (.exit 0))) f21_13
def f21_31:IC:=.seq (.ops [m1 65 6,o1 66 (.load (.t 3) 2 true),o1 67 (.msl false 63 2 [.t 66]),o1 68 (.app (.t 65) (.t 67) 63 2),m1 4 68,o1 5 (.mv (.c (.b true)))] [4,5] []) .ret
def f21_2:IC:=.seq (.ops [o1 10 (.msl true 63 2 []),m1 11 0,o1 12 (.app (.t 10) (.t 11) 63 2),m1 6 12] [0,3,6] []) (.seq (.seq (.ops [o1 7 (.mv (ci 0))] [0,3,6,7] []) (.block 0 (.loop f21_9))) f21_31)
def f21_0:IC:=.seq (.ops [o1 3 (.box (.t 1)),o1 4 (.mv (.c .nil)),o1 5 (.mv (.c (.b false)))] [0,3] []) f21_2
@[push_cast]def f21R:List R:=[.t 4,.t 5]
@[push_cast]def f21e:=aWv f21_21.eq_1<|aWv f21_19.eq_1<|aWv f21_28.eq_1<|aWv f21_25.eq_1<|aWv f21_13.eq_1<|aWv f21_9.eq_1<|aWv f21_31.eq_1<|aWv f21_2.eq_1<|aWu f21_0.eq_1
theorem f21ok:okFn Tryz.prog 21 69 f21_0 f21R=true:=by kernel_rfl
def f22_18:IC:=.seq (.ops [o1 9 (.bin .eql (.t 3) (ci 7)),m1 6 9] [3,6] []) (.cond (.t 6) .skip (.ops [o1 10 (.bin .eql (.t 3) (ci 8)),m1 6 10] [3,6] []))
def f22_14:IC:=.cond (.t 6) .skip (.seq (.ops [o1 8 (.bin .eql (.t 3) (ci 4)),m1 6 8] [3,6] []) (.cond (.t 6) .skip f22_18))
def f22_35:IC:=.seq (.ops [o1 16 (.bin .eql (.t 3) (ci 9)),m1 15 16] [15] []) (.cond (.t 15) (.seq (.ops [o1 2 (.mv (ci 1))] [2] []) .ret) .skip)
def f22_30:IC:=.seq (.ops [o1 14 (.bin .eql (.t 3) (ci 6)),m1 13 14] [3,13] []) (.cond (.t 13) (.seq (.ops [o1 2 (.mv (ci 4))] [2] []) .ret) f22_35)
def f22_25:IC:=.seq (.ops [o1 12 (.bin .eql (.t 3) (ci 5)),m1 11 12] [3,11] []) (.cond (.t 11) (.seq (.ops [o1 2 (.mv (ci 3))] [2] []) .ret) f22_30)
def f22_11:IC:=.seq (.seq (.ops [o1 7 (.bin .eql (.t 3) (ci 3)),m1 6 7] [3,6] []) f22_14) (.cond (.t 6) (.seq (.ops [o1 2 (.mv (ci 2))] [2] []) .ret) f22_25)
def f22_5:IC:=.block 0 (.seq (.ops [o1 5 (.bin .eql (.t 3) (ci 2)),m1 4 5] [3,4] []) (.cond (.t 4) (.seq (.ops [o1 2 (.mv (ci 0))] [2] []) .ret) f22_11))
def f22_0:IC:=.seq (.ops [o1 2 (.mv (ci 0))] [0] []) (.seq (.seq (.ops [m1 3 0] [3] []) f22_5) (.seq (.ops [o1 2 (.mv (ci (-1)))] [2] []) .ret))
@[push_cast]def f22R:List R:=[.t 2]
@[push_cast]def f22e:=aWv f22_18.eq_1<|aWv f22_14.eq_1<|aWv f22_35.eq_1<|aWv f22_30.eq_1<|aWv f22_25.eq_1<|aWv f22_11.eq_1<|aWv f22_5.eq_1<|aWu f22_0.eq_1
theorem f22ok:okFn Tryz.prog 22 17 f22_0 f22R=true:=by kernel_rfl
def f35_13:IC:=.ops [m1 19 1,o1 20 (.bin .eql (.t 19) (ci 0)),m1 21 20,⟨some 22,.mv (.t 0),some (21,true),[]⟩,⟨some 23,.bin .neq (.t 22) (ci 4),some (21,true),[]⟩,o1 24 (.pick (.t 21) (.t 23) (.c (.b false))),m1 15 24] [0,1,15] []
def f35_19:IC:=.cond (.t 26) (.seq (.ops [m1 33 1,m1 4 33,o1 5 (.mv (.c (.b true)))] [4,5] []) .ret) .skip
def f35_17:IC:=.seq (.ops [m1 27 0,o1 28 (.bin .eql (.t 27) (ci 0)),m1 29 28,⟨some 30,.mv (.t 1),some (29,true),[]⟩,⟨some 31,.bin .neq (.t 30) (ci 4),some (29,true),[]⟩,o1 32 (.pick (.t 29) (.t 31) (.c (.b false))),m1 26 32] [1,26] []) f35_19
def f35_14:IC:=.cond (.t 15) (.seq (.ops [m1 25 0,m1 4 25,o1 5 (.mv (.c (.b true)))] [4,5] []) .ret) f35_17
def f35_9:IC:=.seq (.seq (.ops [m1 16 0,m1 17 1,o1 18 (.bin .eql (.t 16) (.t 17)),m1 15 18] [0,1,15] []) (.cond (.t 15) .skip f35_13)) f35_14
def f35_6:IC:=.cond (.t 6) (.seq (.ops [o1 4 (.mv (ci 0)),o1 5 (.mv (.c (.b false)))] [4,5] []) .ret) f35_9
def f35_2:IC:=.seq (.block 0 (.seq (.ops [m1 7 0,o1 8 (.call 56 [.t 7]),o1 9 (.not (.t 8)),m1 10 9,⟨some 11,.mv (.t 1),some (10,false),[]⟩,⟨some 12,.call 56 [.t 11],some (10,false),[]⟩,⟨some 13,.not (.t 12),some (10,false),[]⟩,o1 14 (.pick (.t 10) (.c (.b true)) (.t 13)),m1 6 14] [0,1,6] []) f35_6)) (.seq (.ops [o1 4 (.mv (ci 0)),o1 5 (.mv (.c (.b false)))] [4,5] []) .ret)
def f35_0:IC:=.seq (.ops [o1 4 (.mv (ci 0)),o1 5 (.mv (.c (.b false)))] [0,1] []) f35_2
@[push_cast]def f35R:List R:=[.t 4,.t 5]
@[push_cast]def f35e:=aWv f35_13.eq_1<|aWv f35_19.eq_1<|aWv f35_17.eq_1<|aWv f35_14.eq_1<|aWv f35_9.eq_1<|aWv f35_6.eq_1<|aWv f35_2.eq_1<|aWu f35_0.eq_1
theorem f35ok:okFn Tryz.prog 35 34 f35_0 f35R=true:=by kernel_rfl
def f56_2:IC:=.seq (.ops [m1 3 0,o1 4 (.bin .geq (.t 3) (ci 0)),m1 5 4,⟨some 6,.mv (.t 0),some (5,true),[]⟩,⟨some 7,.bin .leq (.t 6) (ci 4),some (5,true),[]⟩,o1 8 (.pick (.t 5) (.t 7) (.c (.b false))),m1 2 8] [2] []) .ret
def f56_0:IC:=.seq (.ops [o1 2 (.mv (.c (.b false)))] [0] []) f56_2
@[push_cast]def f56R:List R:=[.t 2]
@[push_cast]def f56e:=aWv f56_2.eq_1<|aWu f56_0.eq_1
theorem f56ok:okFn Tryz.prog 56 9 f56_0 f56R=true:=by kernel_rfl
def f9_17:IC:=.seq (.block 1 (.seq (.ops [m1 17 0,m1 18 5,o1 19 (.iaddr (.t 17) (.t 18) 63 2),o1 20 (.load (.t 19) 2 true),m1 21 1,m1 22 5,o1 23 (.iaddr (.t 21) (.t 22) 63 2),o1 24 (.load (.t 23) 2 true),o1 25 (.pu (.eqs true [(0,.str),(1,.int)]) [.t 20,.t 24])] [0,1,5,25] [[0,2],[1,2],[2,3],[4,6],[5,6],[6,7],[3,8],[7,8]]) (.cond (.t 25) (.seq (.ops [o1 4 (.mv (.c (.b false)))] [4] []) .ret) .skip))) (.ops [m1 15 5,o1 16 (.bin .add (.t 15) (ci 1)),m1 5 16] [0,1,5] [])
def f9_13:IC:=.seq (.seq (.ops [m1 11 5,m1 12 0,o1 13 (.lenL (.t 12)),o1 14 (.bin .lss (.t 11) (.t 13))] [0,1,5,14] []) (.cond (.t 14) .skip (.exit 0))) f9_17
def f9_8:IC:=.seq (.seq (.ops [o1 5 (.mv (ci 0))] [0,1,5] []) (.block 0 (.loop f9_13))) (.seq (.ops [o1 4 (.mv (.c (.b true)))] [4] []) .ret)
def f9_2:IC:=.seq (.seq (.ops [m1 6 0,o1 7 (.lenL (.t 6)),m1 8 1,o1 9 (.lenL (.t 8)),o1 10 (.bin .neq (.t 7) (.t 9))] [0,1,10] []) (.cond (.t 10) (.seq (.ops [o1 4 (.mv (.c (.b false)))] [4] []) .ret) .skip)) f9_8
def f9_0:IC:=.seq (.ops [o1 4 (.mv (.c (.b false)))] [0,1] []) f9_2
@[push_cast]def f9R:List R:=[.t 4]
@[push_cast]def f9e:=aWv f9_17.eq_1<|aWv f9_13.eq_1<|aWv f9_8.eq_1<|aWv f9_2.eq_1<|aWu f9_0.eq_1
theorem f9ok:okFn Tryz.prog 9 26 f9_0 f9R=true:=by kernel_rfl
def f47_23:IC:=.ops [m1 21 3,m1 22 5,o0 (.wrm (.mput .str) (.t 21) [.t 22,(.c (.b true))])] [0,3,7,8,9] []
def f47_17:IC:=.seq (.seq (.ops [m1 13 5,o1 14 (.call 74 [.t 13]),o1 15 (.not (.t 14)),m1 16 15,⟨some 17,.mv (.t 3),some (16,false),[]⟩,⟨some 18,.mv (.t 5),some (16,false),[]⟩,⟨some 19,.rdm (.mget .str (.b false) false) (.t 17) [.t 18],some (16,false),[]⟩,o1 20 (.pick (.t 16) (.c (.b true)) (.t 19))] [0,3,5,7,8,9,20] []) (.cond (.t 20) (.seq (.ops [o1 2 (.mv (.c (.b false)))] [2] []) .ret) .skip)) f47_23
def f47_13:IC:=.seq (.block 1 (.seq (.ops [o1 11 (.iaddr (.t 7) (.t 9) 9 1),o1 12 (.load (.t 11) 1 false),m1 5 12] [0,3,5,7,8,9] []) f47_17)) (.ops [o1 23 (.bin .add (.t 9) (ci 1)),m1 9 23] [0,3,7,8,9] [])
def f47_9:IC:=.seq (.ops [o1 10 (.bin .lss (.t 9) (.t 8))] [0,3,7,8,9,10] []) (.seq (.cond (.t 10) .skip (.exit 0)) f47_13)
def f47_25:IC:=.seq (.ops [m1 24 0,o1 25 (.lenL (.t 24)),o1 26 (.bin .leq (.t 25) (ci 20)),m1 2 26] [2] []) .ret
def f47_4:IC:=.seq (.seq (.ops [m1 7 0,o1 8 (.lenL (.t 7)),o1 9 (.mv (ci 0))] [0,3,7,8,9] []) (.block 0 (.loop f47_9))) f47_25
def f47_0:IC:=.seq (.ops [o1 2 (.mv (.c (.b false)))] [0] []) (.seq (.ops [o1 6 (.mkm .mkmap []),m1 3 6] [0,3] []) f47_4)
@[push_cast]def f47R:List R:=[.t 2]
@[push_cast]def f47e:=aWv f47_23.eq_1<|aWv f47_17.eq_1<|aWv f47_13.eq_1<|aWv f47_9.eq_1<|aWv f47_25.eq_1<|aWv f47_4.eq_1<|aWu f47_0.eq_1
theorem f47ok:okFn Tryz.prog 47 27 f47_0 f47R=true:=by kernel_rfl
def f155_2:IC:=.seq (.ops [o1 3 (.msl false 9 1 [(.c (.s [122,101,114,111])),(.c (.s [111,110,101])),(.c (.s [116,119,111])),(.c (.s [102,101,119])),(.c (.s [109,97,110,121])),(.c (.s [111,116,104,101,114]))]),m1 4 0,o1 5 (.call 189 [.t 3,.t 4]),m1 2 5] [2] []) .ret
def f155_0:IC:=.seq (.ops [o1 2 (.mv (.c (.b false)))] [0] []) f155_2
@[push_cast]def f155R:List R:=[.t 2]
@[push_cast]def f155e:=aWv f155_2.eq_1<|aWu f155_0.eq_1
theorem f155ok:okFn Tryz.prog 155 6 f155_0 f155R=true:=by kernel_rfl
def f118_10:IC:=.seq (.ops [m1 16 1,o1 17 (.call 155 [.t 16]),m1 18 17,⟨some 19,.mv (.t 6),some (18,false),[]⟩,⟨some 20,.mv (.t 19),some (18,false),[]⟩,⟨some 21,.mv (.t 5),some (20,true),[]⟩,⟨some 22,.call 156 [.t 21],some (20,true),[]⟩,⟨some 23,.pick (.t 20) (.t 22) (.c (.b false)),some (18,false),[]⟩,o1 24 (.pick (.t 18) (.c (.b true)) (.t 23)),m1 4 24] [4] []) .ret
def f118_8:IC:=.seq (.ops [m1 12 1,o1 13 (.call 154 [.t 12,(.c (.s [61]))]),m1 11 13,o1 14 (.ext (.t 11) 0),o1 15 (.ext (.t 11) 1),m1 5 14,m1 6 15] [1,5,6] []) f118_10
def f118_2:IC:=.seq (.seq (.ops [m1 7 0,o1 8 (.bin .eql (.t 7) (ci 9))] [1,8] []) (.cond (.t 8) (.seq (.ops [m1 9 1,o1 10 (.call 74 [.t 9]),m1 4 10] [4] []) .ret) .skip)) f118_8
def f118_0:IC:=.seq (.ops [o1 4 (.mv (.c (.b false)))] [0,1] []) f118_2
@[push_cast]def f118R:List R:=[.t 4]
@[push_cast]def f118e:=aWv f118_10.eq_1<|aWv f118_8.eq_1<|aWv f118_2.eq_1<|aWu f118_0.eq_1
theorem f118ok:okFn Tryz.prog 118 25 f118_0 f118R=true:=by kernel_rfl
def f76_17:IC:=.seq (.ops [m1 14 4,o1 15 (.bin .lss (.t 14) (.c (.i .u8 97))),m1 16 15,⟨some 17,.mv (.t 4),some (16,false),[]⟩,⟨some 18,.bin .gtr (.t 17) (.c (.i .u8 122)),some (16,false),[]⟩,o1 19 (.pick (.t 16) (.c (.b true)) (.t 18))] [0,6,7,19] []) (.cond (.t 19) (.seq (.ops [o1 2 (.mv (.c (.b false)))] [2] []) .ret) .skip)
def f76_15:IC:=.seq (.ops [m1 10 0,m1 11 3,o1 12 (.idx (.t 10) (.t 11)),o1 13 (.pu (.bit .or) [.t 12,(.c (.i .u8 32))]),m1 4 13] [0,4,6,7] []) f76_17
def f76_11:IC:=.seq (.block 1 (.seq (.ops [m1 9 7,m1 3 9] [0,3,6,7] []) f76_15)) (.ops [o1 20 (.bin .add (.t 7) (ci 1)),m1 7 20] [0,6,7] [])
def f76_7:IC:=.seq (.ops [o1 8 (.bin .lss (.t 7) (.t 6))] [0,6,7,8] []) (.seq (.cond (.t 8) .skip (.exit 0)) f76_11)
def f76_23:IC:=.seq (.ops [m1 21 0,o1 22 (.bin .neq (.t 21) (.c (.s []))),m1 23 22,⟨some 24,.mv (.t 0),some (23,true),[]⟩,⟨some 25,.lenS (.t 24),some (23,true),[]⟩,⟨some 26,.bin .leq (.t 25) (ci 40),some (23,true),[]⟩,o1 27 (.pick (.t 23) (.t 26) (.c (.b false))),m1 2 27] [2] []) .ret
def f76_2:IC:=.seq (.seq (.ops [m1 5 0,o1 6 (.lenS (.t 5)),o1 7 (.mv (ci 0))] [0,6,7] []) (.block 0 (.loop f76_7))) f76_23
def f76_0:IC:=.seq (.ops [o1 2 (.mv (.c (.b false)))] [0] []) f76_2
@[push_cast]def f76R:List R:=[.t 2]
@[push_cast]def f76e:=aWv f76_17.eq_1<|aWv f76_15.eq_1<|aWv f76_11.eq_1<|aWv f76_7.eq_1<|aWv f76_23.eq_1<|aWv f76_2.eq_1<|aWu f76_0.eq_1
theorem f76ok:okFn Tryz.prog 76 28 f76_0 f76R=true:=by kernel_rfl
def f80_7:IC:=.seq (.seq (.ops [m1 8 5,o1 9 (.faddr (.t 2) 1),o1 10 (.load (.t 9) 1 false),o1 11 (.lenL (.t 10)),o1 12 (.bin .lss (.t 8) (.t 11)),m1 13 12,⟨some 14,.faddr (.t 2) 1,some (13,true),[]⟩,⟨some 15,.load (.t 14) 1 false,some (13,true),[]⟩,⟨some 16,.mv (.t 5),some (13,true),[]⟩,⟨some 17,.iaddr (.t 15) (.t 16) 69 4,some (13,true),[]⟩,⟨some 18,.faddr (.t 17) 0,some (13,true),[]⟩,⟨some 19,.load (.t 18) 1 false,some (13,true),[]⟩,⟨some 20,.bin .eql (.t 19) (ci 11),some (13,true),[]⟩,o1 21 (.pick (.t 13) (.t 20) (.c (.b false)))] [1,2,5,21] []) (.cond (.t 21) .skip (.exit 0))) (.block 1 (.ops [m1 22 5,o1 23 (.bin .add (.t 22) (ci 1)),m1 5 23] [1,2,5] []))
def f80_13:IC:=.seq (.ops [o1 24 (.faddr (.t 2) 1),o1 25 (.load (.t 24) 1 false),m1 26 1,o1 27 (.bin .add (.t 26) (ci 1)),m1 28 5,o1 29 (.slL (.t 25) (some (.t 27)) (some (.t 28)) 4),m1 4 29] [4] []) .ret
def f80_2:IC:=.seq (.ops [m1 6 1,o1 7 (.bin .add (.t 6) (ci 1)),m1 5 7] [1,2,5] []) (.seq (.block 0 (.loop f80_7)) f80_13)
def f80_0:IC:=.seq (.ops [o1 2 (.box (.t 0)),o1 4 (.mv (.c .nil))] [1,2] []) f80_2
@[push_cast]def f80R:List R:=[.t 4]
@[push_cast]def f80e:=aWv f80_7.eq_1<|aWv f80_13.eq_1<|aWv f80_2.eq_1<|aWu f80_0.eq_1
theorem f80ok:okFn Tryz.prog 80 30 f80_0 f80R=true:=by kernel_rfl
def f77_25:IC:=.ops [m1 35 6,o1 36 (.faddr (.t 8) 3),o1 37 (.load (.t 36) 1 false),o0 (.wrm (.mput .str) (.t 35) [.t 37,(.c (.b true))])] [1,2,5,6,13,14,15] []
def f77_19:IC:=.seq (.seq (.ops [o1 19 (.faddr (.t 2) 1),o1 20 (.load (.t 19) 1 false),m1 21 1,o1 22 (.iaddr (.t 20) (.t 21) 69 4),o1 23 (.faddr (.t 22) 2),o1 24 (.load (.t 23) 1 false),o1 25 (.faddr (.t 8) 3),o1 26 (.load (.t 25) 1 false),o1 27 (.call 118 [.t 24,.t 26]),o1 28 (.not (.t 27)),m1 29 28,⟨some 30,.mv (.t 6),some (29,false),[]⟩,⟨some 31,.faddr (.t 8) 3,some (29,false),[]⟩,⟨some 32,.load (.t 31) 1 false,some (29,false),[]⟩,⟨some 33,.rdm (.mget .str (.b false) false) (.t 30) [.t 32],some (29,false),[]⟩,o1 34 (.pick (.t 29) (.c (.b true)) (.t 33))] [1,2,5,6,8,13,14,15,34] [[0,1],[1,3],[2,3],[3,4],[4,5],[6,7],[5,8],[7,8],[8,9],[9,10],[10,11],[10,12],[10,13],[12,13],[10,14],[11,14],[13,14],[10,15],[14,15]]) (.cond (.t 34) (.seq (.ops [o1 4 (.mv (.c (.b false)))] [4] []) .ret) .skip)) f77_25
def f77_15:IC:=.seq (.block 1 (.seq (.ops [o1 17 (.iaddr (.t 13) (.t 15) 69 4),o1 18 (.load (.t 17) 4 true),o1 8 (.alloc (.agg [(.i .i64 0),(.i .i64 0),(.i .i64 0),(.s [])])),o0 (.store (.t 8) (.t 18) 4)] [1,2,5,6,8,13,14,15] []) f77_19)) (.ops [o1 38 (.bin .add (.t 15) (ci 1)),m1 15 38] [1,2,5,6,13,14,15] [])
def f77_11:IC:=.seq (.ops [o1 16 (.bin .lss (.t 15) (.t 14))] [1,2,5,6,13,14,15,16] []) (.seq (.cond (.t 16) .skip (.exit 0)) f77_15)
def f77_27:IC:=.seq (.ops [o1 39 (.faddr (.t 2) 1),o1 40 (.load (.t 39) 1 false),m1 41 1,o1 42 (.iaddr (.t 40) (.t 41) 69 4),o1 43 (.faddr (.t 42) 2),o1 44 (.load (.t 43) 1 false),o1 45 (.call 43 [.t 44]),m1 46 45,⟨some 47,.mv (.t 5),some (46,true),[]⟩,⟨some 48,.lenL (.t 47),some (46,true),[]⟩,⟨some 49,.bin .geq (.t 48) (ci 1),some (46,true),[]⟩,o1 50 (.pick (.t 46) (.t 49) (.c (.b false))),m1 51 50,⟨some 52,.mv (.t 5),some (51,true),[]⟩,⟨some 53,.lenL (.t 52),some (51,true),[]⟩,⟨some 54,.bin .leq (.t 53) (ci 20),some (51,true),[]⟩,o1 55 (.pick (.t 51) (.t 54) (.c (.b false))),m1 56 55,⟨some 57,.mv (.t 6),some (56,true),[]⟩,⟨some 58,.rdm (.mget .str (.b false) false) (.t 57) [(.c (.s [111,116,104,101,114]))],some (56,true),[]⟩,o1 59 (.pick (.t 56) (.t 58) (.c (.b false))),m1 4 59] [4] []) .ret
def f77_6:IC:=.seq (.seq (.ops [m1 13 5,o1 14 (.lenL (.t 13)),o1 15 (.mv (ci 0))] [1,2,5,6,13,14,15] []) (.block 0 (.loop f77_11))) f77_27
def f77_2:IC:=.seq (.ops [o1 9 (.load (.t 2) 2 true),m1 10 1,o1 11 (.call 80 [.t 9,.t 10]),m1 5 11] [1,2,5] []) (.seq (.ops [o1 12 (.mkm .mkmap []),m1 6 12] [1,2,5,6] []) f77_6)
def f77_0:IC:=.seq (.ops [o1 2 (.box (.t 0)),o1 4 (.mv (.c (.b false)))] [1,2] []) f77_2
@[push_cast]def f77R:List R:=[.t 4]
@[push_cast]def f77e:=aWv f77_25.eq_1<|aWv f77_19.eq_1<|aWv f77_15.eq_1<|aWv f77_11.eq_1<|aWv f77_27.eq_1<|aWv f77_6.eq_1<|aWv f77_2.eq_1<|aWu f77_0.eq_1
theorem f77ok:okFn Tryz.prog 77 60 f77_0 f77R=true:=by kernel_rfl
def f78_2:IC:=.seq (.ops [m1 7 2,m1 8 1,o1 9 (.bin .gtr (.t 7) (.t 8)),m1 10 9,⟨some 11,.mv (.t 2),some (10,true),[]⟩,⟨some 12,.faddr (.t 3) 1,some (10,true),[]⟩,⟨some 13,.load (.t 12) 1 false,some (10,true),[]⟩,⟨some 14,.lenL (.t 13),some (10,true),[]⟩,⟨some 15,.bin .lss (.t 11) (.t 14),some (10,true),[]⟩,o1 16 (.pick (.t 10) (.t 15) (.c (.b false))),m1 17 16,⟨some 18,.faddr (.t 3) 1,some (17,true),[]⟩,⟨some 19,.load (.t 18) 1 false,some (17,true),[]⟩,⟨some 20,.mv (.t 2),some (17,true),[]⟩,⟨some 21,.iaddr (.t 19) (.t 20) 69 4,some (17,true),[]⟩,⟨some 22,.faddr (.t 21) 0,some (17,true),[]⟩,⟨some 23,.load (.t 22) 1 false,some (17,true),[]⟩,⟨some 24,.bin .neq (.t 23) (ci 11),some (17,true),[]⟩,o1 25 (.pick (.t 17) (.t 24) (.c (.b false))),m1 6 25] [6] []) .ret
def f78_0:IC:=.seq (.ops [o1 3 (.box (.t 0)),o1 6 (.mv (.c (.b false)))] [1,2,3] []) f78_2
@[push_cast]def f78R:List R:=[.t 6]
@[push_cast]def f78e:=aWv f78_2.eq_1<|aWu f78_0.eq_1
theorem f78ok:okFn Tryz.prog 78 26 f78_0 f78R=true:=by kernel_rfl
def f75_8:IC:=.seq (.ops [o1 25 (.build [(.b false),(.b false),(.b false)] []),o0 (.store (.t 2) (.t 25) 3),o1 3 (.mv (.c (.b false)))] [2,3] []) .ret
def f75_10:IC:=.seq (.ops [m1 26 0,o1 27 (.pu (.aidx 14 3) [.t 4,.t 26]),o1 28 (.load (.t 27) 3 true),o0 (.store (.t 2) (.t 28) 3),o1 3 (.mv (.c (.b true)))] [2,3] []) .ret
def f75_4:IC:=.seq (.seq (.ops [m1 19 0,o1 20 (.bin .lss (.t 19) (ci 1)),m1 21 20,⟨some 22,.mv (.t 0),some (21,false),[]⟩,⟨some 23,.bin .gtr (.t 22) (ci 13),some (21,false),[]⟩,o1 24 (.pick (.t 21) (.c (.b true)) (.t 23))] [0,2,4,24] []) (.cond (.t 24) f75_8 .skip)) f75_10
def f75_2:IC:=.seq (.ops [o1 5 (.build [(.b false),(.b false),(.b false)] [(2,1,(.c (.b true)))]),o1 6 (.build [(.b false),(.b false),(.b false)] [(2,1,(.c (.b true)))]),o1 7 (.build [(.b false),(.b false),(.b false)] [(2,1,(.c (.b true)))]),o1 8 (.build [(.b false),(.b false),(.b false)] [(2,1,(.c (.b true)))]),o1 9 (.build [(.b false),(.b false),(.b false)] [(0,1,(.c (.b true)))]),o1 10 (.build [(.b false),(.b false),(.b false)] [(0,1,(.c (.b true))),(2,1,(.c (.b true)))]),o1 11 (.build [(.b false),(.b false),(.b false)] [(0,1,(.c (.b true))),(2,1,(.c (.b true)))]),o1 12 (.build [(.b false),(.b false),(.b false)] [(0,1,(.c (.b true))),(2,1,(.c (.b true)))]),o1 13 (.build [(.b false),(.b false),(.b false)] [(0,1,(.c (.b true))),(2,1,(.c (.b true)))]),o1 14 (.build [(.b false),(.b false),(.b false)] [(0,1,(.c (.b true))),(1,1,(.c (.b true)))]),o1 15 (.build [(.b false),(.b false),(.b false)] [(0,1,(.c (.b true))),(2,1,(.c (.b true)))]),o1 16 (.build [(.b false),(.b false),(.b false)] [(0,1,(.c (.b true)))]),o1 17 (.build [(.b false),(.b false),(.b false)] []),o1 18 (.build [(.b false),(.b false),(.b false),(.b false),(.b false),(.b false),(.b false),(.b false),(.b false),(.b false),(.b false),(.b false),(.b false),(.b false),(.b false),(.b false),(.b false),(.b false),(.b false),(.b false),(.b false),(.b false),(.b false),(.b false),(.b false),(.b false),(.b false),(.b false),(.b false),(.b false),(.b false),(.b false),(.b false),(.b false),(.b false),(.b false),(.b false),(.b false),(.b false),(.b false),(.b false),(.b false)] [(3,3,(.t 5)),(6,3,(.t 6)),(9,3,(.t 7)),(12,3,(.t 8)),(15,3,(.t 9)),(18,3,(.t 10)),(21,3,(.t 11)),(24,3,(.t 12)),(27,3,(.t 13)),(30,3,(.t 14)),(33,3,(.t 15)),(36,3,(.t 16)),(39,3,(.t 17))]),o1 4 (.alloc (.agg [(.b false),(.b false),(.b false),(.b false),(.b false),(.b false),(.b false),(.b false),(.b false),(.b false),(.b false),(.b false),(.b false),(.b false),(.b false),(.b false),(.b false),(.b false),(.b false),(.b false),(.b false),(.b false),(.b false),(.b false),(.b false),(.b false),(.b false),(.b false),(.b false),(.b false),(.b false),(.b false),(.b false),(.b false),(.b false),(.b false),(.b false),(.b false),(.b false),(.b false),(.b false),(.b false)])),o0 (.store (.t 4) (.t 18) 42)] [0,2,4] []) f75_4
def f75_0:IC:=.seq (.ops [o1 2 (.alloc (.agg [(.b false),(.b false),(.b false)])),o1 3 (.mv (.c (.b false)))] [0,2] []) f75_2
@[push_cast]def f75R:List R:=[.c 2 3 true,.t 3]
@[push_cast]def f75e:=aWv f75_8.eq_1<|aWv f75_10.eq_1<|aWv f75_4.eq_1<|aWv f75_2.eq_1<|aWu f75_0.eq_1
theorem f75ok:okFn Tryz.prog 75 29 f75_0 f75R=true:=by kernel_rfl
def f48_31:IC:=.seq (.ops [o1 85 (.faddr (.t 5) 3),o1 86 (.load (.t 85) 1 false),o1 87 (.bin .neq (.t 86) (.c (.s []))),m1 4 87] [4] []) .ret
def f48_43:IC:=.seq (.ops [o1 92 (.bin .eql (.t 82) (ci 7)),m1 88 92] [1,2,5,82,88] []) (.cond (.t 88) .skip (.ops [o1 93 (.bin .eql (.t 82) (ci 9)),m1 88 93] [1,2,5,82,88] []))
def f48_40:IC:=.seq (.ops [o1 91 (.bin .eql (.t 82) (ci 4)),m1 88 91] [1,2,5,82,88] []) (.cond (.t 88) .skip f48_43)
def f48_37:IC:=.seq (.ops [o1 90 (.bin .eql (.t 82) (ci 3)),m1 88 90] [1,2,5,82,88] []) (.cond (.t 88) .skip f48_40)
def f48_48:IC:=.seq (.ops [o1 94 (.faddr (.t 5) 3),o1 95 (.load (.t 94) 1 false),o1 96 (.call 74 [.t 95]),m1 4 96] [4] []) .ret
def f48_53:IC:=.seq (.ops [o1 99 (.faddr (.t 5) 3),o1 100 (.load (.t 99) 1 false),o1 101 (.bin .eql (.t 100) (.c (.s []))),m1 102 101,⟨some 103,.faddr (.t 5) 3,some (102,false),[]⟩,⟨some 104,.load (.t 103) 1 false,some (102,false),[]⟩,⟨some 105,.bin .eql (.t 104) (.c (.s [105,110,116,101,103,101,114])),some (102,false),[]⟩,o1 106 (.pick (.t 102) (.c (.b true)) (.t 105)),m1 107 106,⟨some 108,.faddr (.t 5) 3,some (107,false),[]⟩,⟨some 109,.load (.t 108) 1 false,some (107,false),[]⟩,⟨some 110,.bin .eql (.t 109) (.c (.s [112,101,114,99,101,110,116])),some (107,false),[]⟩,o1 111 (.pick (.t 107) (.c (.b true)) (.t 110)),m1 4 111] [4] []) .ret
def f48_58:IC:=.seq (.ops [o1 114 (.faddr (.t 5) 3),o1 115 (.load (.t 114) 1 false),o1 116 (.call 76 [.t 115]),m1 4 116] [4] []) .ret
def f48_63:IC:=.seq (.ops [o1 119 (.load (.t 2) 2 true),m1 120 1,o1 121 (.call 77 [.t 119,.t 120]),m1 4 121] [4] []) .ret
def f48_68:IC:=.seq (.ops [m1 124 1,o1 125 (.bin .gtr (.t 124) (ci 0)),m1 126 125,⟨some 127,.faddr (.t 2) 1,some (126,true),[]⟩,⟨some 128,.load (.t 127) 1 false,some (126,true),[]⟩,⟨some 129,.mv (.t 1),some (126,true),[]⟩,⟨some 130,.bin .sub (.t 129) (ci 1),some (126,true),[]⟩,⟨some 131,.iaddr (.t 128) (.t 130) 69 4,some (126,true),[]⟩,⟨some 132,.faddr (.t 131) 0,some (126,true),[]⟩,⟨some 133,.load (.t 132) 1 false,some (126,true),[]⟩,⟨some 134,.bin .eql (.t 133) (ci 10),some (126,true),[]⟩,⟨some 135,.mv (.t 134),some (126,true),[]⟩,⟨some 136,.faddr (.t 2) 1,some (135,false),[]⟩,⟨some 137,.load (.t 136) 1 false,some (135,false),[]⟩,⟨some 138,.mv (.t 1),some (135,false),[]⟩,⟨some 139,.bin .sub (.t 138) (ci 1),some (135,false),[]⟩,⟨some 140,.iaddr (.t 137) (.t 139) 69 4,some (135,false),[]⟩,⟨some 141,.faddr (.t 140) 0,some (135,false),[]⟩,⟨some 142,.load (.t 141) 1 false,some (135,false),[]⟩,⟨some 143,.bin .eql (.t 142) (ci 11),some (135,false),[]⟩,⟨some 144,.pick (.t 135) (.c (.b true)) (.t 143),some (126,true),[]⟩,o1 145 (.pick (.t 126) (.t 144) (.c (.b false))),m1 146 145,⟨some 147,.load (.t 2) 2 true,some (146,true),[]⟩,⟨some 148,.mv (.t 1),some (146,true),[]⟩,⟨some 149,.faddr (.t 5) 1,some (146,true),[]⟩,⟨some 150,.load (.t 149) 1 false,some (146,true),[]⟩,⟨some 151,.call 78 [.t 147,.t 148,.t 150],some (146,true),[]⟩,o1 152 (.pick (.t 146) (.t 151) (.c (.b false))),m1 4 152] [4] []) .ret
def f48_73:IC:=.seq (.ops [o1 155 (.load (.t 2) 2 true),m1 156 1,o1 157 (.faddr (.t 5) 1),o1 158 (.load (.t 157) 1 false),o1 159 (.call 78 [.t 155,.t 156,.t 158]),m1 4 159] [4] []) .ret
def f48_78:IC:=.seq (.ops [m1 162 1,o1 163 (.faddr (.t 2) 1),o1 164 (.load (.t 163) 1 false),o1 165 (.lenL (.t 164)),o1 166 (.bin .sub (.t 165) (ci 1)),o1 167 (.bin .eql (.t 162) (.t 166)),m1 4 167] [4] []) .ret
def f48_75:IC:=.seq (.ops [o1 161 (.bin .eql (.t 82) (ci 13)),m1 160 161] [1,2,160] []) (.cond (.t 160) f48_78 .skip)
def f48_70:IC:=.seq (.ops [o1 154 (.bin .eql (.t 82) (ci 12)),m1 153 154] [1,2,5,82,153] []) (.cond (.t 153) f48_73 f48_75)
def f48_65:IC:=.seq (.ops [o1 123 (.bin .eql (.t 82) (ci 11)),m1 122 123] [1,2,5,82,122] []) (.cond (.t 122) f48_68 f48_70)
def f48_60:IC:=.seq (.ops [o1 118 (.bin .eql (.t 82) (ci 10)),m1 117 118] [1,2,5,82,117] []) (.cond (.t 117) f48_63 f48_65)
def f48_55:IC:=.seq (.ops [o1 113 (.bin .eql (.t 82) (ci 8)),m1 112 113] [1,2,5,82,112] []) (.cond (.t 112) f48_58 f48_60)
def f48_50:IC:=.seq (.ops [o1 98 (.bin .eql (.t 82) (ci 6)),m1 97 98] [1,2,5,82,97] []) (.cond (.t 97) f48_53 f48_55)
def f48_33:IC:=.seq (.seq (.ops [o1 89 (.bin .eql (.t 82) (ci 2)),m1 88 89] [1,2,5,82,88] []) (.cond (.t 88) .skip f48_37)) (.cond (.t 88) f48_48 f48_50)
def f48_27:IC:=.block 0 (.seq (.ops [o1 84 (.bin .eql (.t 82) (ci 1)),m1 83 84] [1,2,5,82,83] []) (.cond (.t 83) f48_31 f48_33))
def f48_24:IC:=.seq (.seq (.ops [o1 81 (.faddr (.t 5) 0),o1 82 (.load (.t 81) 1 false)] [1,2,5,82] []) f48_27) (.seq (.ops [o1 4 (.mv (.c (.b true)))] [4] []) .ret)
def f48_18:IC:=.seq (.seq (.ops [o1 60 (.faddr (.t 5) 0),o1 61 (.load (.t 60) 1 false),o1 62 (.bin .geq (.t 61) (ci 5)),m1 63 62,⟨some 64,.faddr (.t 5) 0,some (63,true),[]⟩,⟨some 65,.load (.t 64) 1 false,some (63,true),[]⟩,⟨some 66,.bin .leq (.t 65) (ci 10),some (63,true),[]⟩,o1 67 (.pick (.t 63) (.t 66) (.c (.b false))),m1 68 67,⟨some 69,.faddr (.t 5) 1,some (68,true),[]⟩,⟨some 70,.load (.t 69) 1 false,some (68,true),[]⟩,⟨some 71,.bin .lss (.t 70) (ci 0),some (68,true),[]⟩,⟨some 72,.mv (.t 71),some (68,true),[]⟩,⟨some 73,.faddr (.t 5) 1,some (72,false),[]⟩,⟨some 74,.load (.t 73) 1 false,some (72,false),[]⟩,⟨some 75,.faddr (.t 2) 0,some (72,false),[]⟩,⟨some 76,.load (.t 75) 1 false,some (72,false),[]⟩,⟨some 77,.lenL (.t 76),some (72,false),[]⟩,⟨some 78,.bin .geq (.t 74) (.t 77),some (72,false),[]⟩,⟨some 79,.pick (.t 72) (.c (.b true)) (.t 78),some (68,true),[]⟩,o1 80 (.pick (.t 68) (.t 79) (.c (.b false)))] [1,2,5,80] []) (.cond (.t 80) (.seq (.ops [o1 4 (.mv (.c (.b false)))] [4] []) .ret) .skip)) f48_24
def f48_12:IC:=.seq (.seq (.ops [m1 28 7,o1 29 (.not (.t 28)),m1 30 29,⟨some 31,.faddr (.t 6) 0,some (30,false),[]⟩,⟨some 32,.load (.t 31) 1 false,some (30,false),[]⟩,⟨some 33,.not (.t 32),some (30,false),[]⟩,⟨some 34,.mv (.t 33),some (30,false),[]⟩,⟨some 35,.faddr (.t 5) 1,some (34,true),[]⟩,⟨some 36,.load (.t 35) 1 false,some (34,true),[]⟩,⟨some 37,.bin .neq (.t 36) (ci 0),some (34,true),[]⟩,⟨some 38,.pick (.t 34) (.t 37) (.c (.b false)),some (30,false),[]⟩,o1 39 (.pick (.t 30) (.c (.b true)) (.t 38)),m1 40 39,⟨some 41,.faddr (.t 6) 1,some (40,false),[]⟩,⟨some 42,.load (.t 41) 1 false,some (40,false),[]⟩,⟨some 43,.not (.t 42),some (40,false),[]⟩,⟨some 44,.mv (.t 43),some (40,false),[]⟩,⟨some 45,.faddr (.t 5) 2,some (44,true),[]⟩,⟨some 46,.load (.t 45) 1 false,some (44,true),[]⟩,⟨some 47,.bin .neq (.t 46) (ci 0),some (44,true),[]⟩,⟨some 48,.pick (.t 44) (.t 47) (.c (.b false)),some (40,false),[]⟩,o1 49 (.pick (.t 40) (.c (.b true)) (.t 48)),m1 50 49,⟨some 51,.faddr (.t 6) 2,some (50,false),[]⟩,⟨some 52,.load (.t 51) 1 false,some (50,false),[]⟩,⟨some 53,.not (.t 52),some (50,false),[]⟩,⟨some 54,.mv (.t 53),some (50,false),[]⟩,⟨some 55,.faddr (.t 5) 3,some (54,true),[]⟩,⟨some 56,.load (.t 55) 1 false,some (54,true),[]⟩,⟨some 57,.bin .neq (.t 56) (.c (.s [])),some (54,true),[]⟩,⟨some 58,.pick (.t 54) (.t 57) (.c (.b false)),some (50,false),[]⟩,o1 59 (.pick (.t 50) (.c (.b true)) (.t 58))] [1,2,5,59] []) (.cond (.t 59) (.seq (.ops [o1 4 (.mv (.c (.b false)))] [4] []) .ret) .skip)) f48_18
def f48_10:IC:=.seq (.ops [o1 23 (.faddr (.t 5) 0),o1 24 (.load (.t 23) 1 false),o1 25 (.call 75 [.t 24]),m1 22 25,o1 26 (.ext (.t 22) 0),o1 27 (.ext (.t 22) 1),o1 6 (.alloc (.agg [(.b false),(.b false),(.b false)])),o0 (.store (.t 6) (.t 26) 3),m1 7 27] [1,2,5,6,7] []) f48_12
def f48_8:IC:=.seq (.ops [o1 17 (.faddr (.t 2) 1),o1 18 (.load (.t 17) 1 false),m1 19 1,o1 20 (.iaddr (.t 18) (.t 19) 69 4),o1 21 (.load (.t 20) 4 true),o1 5 (.alloc (.agg [(.i .i64 0),(.i .i64 0),(.i .i64 0),(.s [])])),o0 (.store (.t 5) (.t 21) 4)] [1,2,5] []) f48_10
def f48_2:IC:=.seq (.seq (.ops [m1 8 1,o1 9 (.bin .lss (.t 8) (ci 0)),m1 10 9,⟨some 11,.mv (.t 1),some (10,false),[]⟩,⟨some 12,.faddr (.t 2) 1,some (10,false),[]⟩,⟨some 13,.load (.t 12) 1 false,some (10,false),[]⟩,⟨some 14,.lenL (.t 13),some (10,false),[]⟩,⟨some 15,.bin .geq (.t 11) (.t 14),some (10,false),[]⟩,o1 16 (.pick (.t 10) (.c (.b true)) (.t 15))] [1,2,16] []) (.cond (.t 16) (.seq (.ops [o1 4 (.mv (.c (.b false)))] [4] []) .ret) .skip)) f48_8
def f48_0:IC:=.seq (.ops [o1 2 (.box (.t 0)),o1 4 (.mv (.c (.b false)))] [1,2] []) f48_2
@[push_cast]def f48R:List R:=[.t 4]
@[push_cast]def f48e:=aWv f48_31.eq_1<|aWv f48_43.eq_1<|aWv f48_40.eq_1<|aWv f48_37.eq_1<|aWv f48_48.eq_1<|aWv f48_53.eq_1<|aWv f48_58.eq_1<|aWv f48_63.eq_1<|aWv f48_68.eq_1<|aWv f48_73.eq_1<|aWv f48_78.eq_1<|aWv f48_75.eq_1<|aWv f48_70.eq_1<|aWv f48_65.eq_1<|aWv f48_60.eq_1<|aWv f48_55.eq_1<|aWv f48_50.eq_1<|aWv f48_33.eq_1<|aWv f48_27.eq_1<|aWv f48_24.eq_1<|aWv f48_18.eq_1<|aWv f48_12.eq_1<|aWv f48_10.eq_1<|aWv f48_8.eq_1<|aWv f48_2.eq_1<|aWu f48_0.eq_1
theorem f48ok:okFn Tryz.prog 48 168 f48_0 f48R=true:=by kernel_rfl
def f119_16:IC:=.ops [m1 25 0,o1 26 (.nilck (.t 25)),o1 27 (.faddr (.t 26) 1),o1 28 (.load (.t 27) 1 false),m1 29 1,o1 30 (.nilck (.t 29)),o1 31 (.faddr (.t 30) 1),o1 32 (.load (.t 31) 1 false),m1 0 28,m1 1 32] [0,1] [[0,1],[1,2],[2,3],[4,5],[5,6],[6,7],[0,8],[3,8],[4,9],[7,9]]
def f119_9:IC:=.block 1 (.seq (.seq (.ops [m1 16 0,o1 17 (.nilck (.t 16)),o1 18 (.faddr (.t 17) 0),o1 19 (.load (.t 18) 1 false),m1 20 1,o1 21 (.nilck (.t 20)),o1 22 (.faddr (.t 21) 0),o1 23 (.load (.t 22) 1 false),o1 24 (.bin .neq (.t 19) (.t 23))] [0,1,24] [[0,1],[1,2],[2,3],[4,5],[5,6],[6,7],[3,8],[7,8]]) (.cond (.t 24) (.seq (.ops [o1 4 (.mv (.c (.b false)))] [4] []) .ret) .skip)) f119_16)
def f119_5:IC:=.seq (.seq (.ops [m1 5 0,o1 6 (.pu (.nilq .p true) [.t 5]),m1 7 6,⟨some 8,.mv (.t 1),some (7,true),[]⟩,⟨some 9,.pu (.nilq .p true) [.t 8],some (7,true),[]⟩,o1 10 (.pick (.t 7) (.t 9) (.c (.b false))),m1 11 10,⟨some 12,.mv (.t 0),some (11,true),[]⟩,⟨some 13,.mv (.t 1),some (11,true),[]⟩,⟨some 14,.eqr true (.t 12) (.t 13),some (11,true),[]⟩,o1 15 (.pick (.t 11) (.t 14) (.c (.b false)))] [0,1,15] []) (.cond (.t 15) .skip (.exit 0))) f119_9
def f119_2:IC:=.seq (.block 0 (.loop f119_5)) (.seq (.ops [m1 33 0,m1 34 1,o1 35 (.eqr false (.t 33) (.t 34)),m1 4 35] [4] []) .ret)
def f119_0:IC:=.seq (.ops [o1 4 (.mv (.c (.b false)))] [0,1] []) f119_2
@[push_cast]def f119R:List R:=[.t 4]
@[push_cast]def f119e:=aWv f119_16.eq_1<|aWv f119_9.eq_1<|aWv f119_5.eq_1<|aWv f119_2.eq_1<|aWu f119_0.eq_1
theorem f119ok:okFn Tryz.prog 119 36 f119_0 f119R=true:=by kernel_rfl
def f79_4:IC:=.seq (.ops [m1 13 0,o1 14 (.nilck (.t 13)),o1 15 (.faddr (.t 14) 4),o1 16 (.load (.t 15) 1 false),m1 17 1,m1 18 0,o1 19 (.nilck (.t 18)),o1 20 (.faddr (.t 19) 4),o1 21 (.load (.t 20) 1 false),m1 22 1,o1 23 (.iaddr (.t 21) (.t 22) 4 1),o1 24 (.load (.t 23) 1 false),m1 25 24,⟨some 26,.mv (.t 0),some (25,false),[]⟩,⟨some 27,.nilck (.t 26),some (25,false),[]⟩,⟨some 28,.faddr (.t 27) 2,some (25,false),[]⟩,⟨some 29,.load (.t 28) 1 false,some (25,false),[]⟩,⟨some 30,.mv (.t 1),some (25,false),[]⟩,⟨some 31,.iaddr (.t 29) (.t 30) 165 1,some (25,false),[]⟩,⟨some 32,.load (.t 31) 1 false,some (25,false),[]⟩,⟨some 33,.mv (.t 2),some (25,false),[]⟩,⟨some 34,.callr 119 [.t 32,.t 33],some (25,false),[]⟩,⟨some 35,.not (.t 34),some (25,false),[]⟩,o1 36 (.pick (.t 25) (.c (.b true)) (.t 35)),o1 37 (.iaddr (.t 16) (.t 17) 4 1),o0 (.store (.t 37) (.t 36) 1)] [] [[0,1],[1,2],[2,3],[5,6],[6,7],[7,8],[8,10],[9,10],[10,11],[11,12],[12,13],[12,14],[13,14],[12,15],[14,15],[12,16],[15,16],[12,17],[12,18],[16,18],[17,18],[12,19],[18,19],[12,20],[12,21],[19,21],[20,21],[12,22],[21,22],[12,23],[22,23],[3,24],[4,24],[3,25],[8,25],[10,25],[11,25],[16,25],[18,25],[19,25],[21,25],[23,25],[24,25]]) .ret
def f79_6:IC:=.ops [m1 38 0,o1 39 (.nilck (.t 38)),o1 40 (.faddr (.t 39) 3),o1 41 (.load (.t 40) 1 false),m1 42 1,m1 43 0,o1 44 (.nilck (.t 43)),o1 45 (.faddr (.t 44) 2),o1 46 (.load (.t 45) 1 false),m1 47 1,m1 48 2,o1 49 (.iaddr (.t 41) (.t 42) 4 1),o0 (.store (.t 49) (.c (.b true)) 1),o1 50 (.iaddr (.t 46) (.t 47) 165 1),o0 (.store (.t 50) (.t 48) 1)] [] [[0,1],[1,2],[2,3],[5,6],[6,7],[7,8],[3,11],[4,11],[3,12],[8,12],[11,12],[8,13],[9,13],[12,13],[3,14],[8,14],[10,14],[11,14],[12,14],[13,14]]
def f79_0:IC:=.seq (.seq (.ops [m1 6 0,o1 7 (.nilck (.t 6)),o1 8 (.faddr (.t 7) 3),o1 9 (.load (.t 8) 1 false),m1 10 1,o1 11 (.iaddr (.t 9) (.t 10) 4 1),o1 12 (.load (.t 11) 1 false)] [0,1,2,12] []) (.cond (.t 12) f79_4 .skip)) f79_6
@[push_cast]def f79R:List R:=[]
@[push_cast]def f79e:=aWv f79_4.eq_1<|aWv f79_6.eq_1<|aWu f79_0.eq_1
theorem f79ok:okFn Tryz.prog 79 51 f79_0 f79R=true:=by kernel_rfl
def f49_24:IC:=.ops [m1 44 0,o1 45 (.faddr (.t 6) 1),o1 46 (.load (.t 45) 1 false),m1 47 5,o1 48 (.calls 79 [.t 44,.t 46,.t 47])] [] []
def f49_40:IC:=.ops [m1 62 0,o1 63 (.faddr (.t 8) 1),o1 64 (.load (.t 63) 1 false),m1 65 5,o1 66 (.calls 79 [.t 62,.t 64,.t 65])] [0,5,56,57,58] []
def f49_36:IC:=.seq (.block 2 (.seq (.ops [o1 60 (.iaddr (.t 56) (.t 58) 69 4),o1 61 (.load (.t 60) 4 true),o1 8 (.alloc (.agg [(.i .i64 0),(.i .i64 0),(.i .i64 0),(.s [])])),o0 (.store (.t 8) (.t 61) 4)] [0,5,8,56,57,58] []) f49_40)) (.ops [o1 67 (.bin .add (.t 58) (ci 1)),m1 58 67] [0,5,56,57,58] [])
def f49_32:IC:=.seq (.ops [o1 59 (.bin .lss (.t 58) (.t 57))] [0,5,56,57,58,59] []) (.seq (.cond (.t 59) .skip (.exit 1)) f49_36)
def f49_28:IC:=.seq (.ops [m1 51 0,o1 52 (.nilck (.t 51)),o1 53 (.faddr (.t 52) 0),o1 54 (.load (.t 53) 2 true),m1 55 1,o1 56 (.call 80 [.t 54,.t 55]),o1 57 (.lenL (.t 56)),o1 58 (.mv (ci 0))] [0,5,56,57,58] []) (.block 1 (.loop f49_32))
def f49_45:IC:=.ops [m1 70 0,m1 71 1,o1 72 (.bin .add (.t 71) (ci 1)),o1 73 (.faddr (.t 6) 3),o1 74 (.load (.t 73) 1 false),m1 75 5,o1 76 (.build [(.s []),.np] [(0,1,(.t 74)),(1,1,(.t 75))]),o1 77 (.box (.t 76)),o1 78 (.calls 79 [.t 70,.t 72,.t 77])] [] []
def f49_55:IC:=.ops [m1 92 0,m1 93 1,o1 94 (.bin .add (.t 93) (ci 1)),m1 95 5,o1 96 (.nilck (.t 95)),o1 97 (.faddr (.t 96) 1),o1 98 (.load (.t 97) 1 false),o1 99 (.calls 79 [.t 92,.t 94,.t 98])] [] []
def f49_49:IC:=.seq (.seq (.ops [m1 81 5,o1 82 (.pu (.nilq .p false) [.t 81]),m1 83 82,⟨some 84,.mv (.t 5),some (83,false),[]⟩,⟨some 85,.nilck (.t 84),some (83,false),[]⟩,⟨some 86,.faddr (.t 85) 0,some (83,false),[]⟩,⟨some 87,.load (.t 86) 1 false,some (83,false),[]⟩,⟨some 88,.faddr (.t 6) 3,some (83,false),[]⟩,⟨some 89,.load (.t 88) 1 false,some (83,false),[]⟩,⟨some 90,.bin .neq (.t 87) (.t 89),some (83,false),[]⟩,o1 91 (.pick (.t 83) (.c (.b true)) (.t 90))] [0,1,5,91] [[0,1],[1,2],[2,3],[2,4],[3,4],[2,5],[4,5],[2,6],[5,6],[2,7],[2,8],[7,8],[2,9],[6,9],[8,9],[2,10],[9,10]]) (.cond (.t 91) (.seq (.ops [o1 4 (.mv (.c (.b false)))] [4] []) .ret) .skip)) f49_55
def f49_56:IC:=.ops [m1 33 0,m1 34 1,o1 35 (.bin .add (.t 34) (ci 1)),m1 36 5,o1 37 (.calls 79 [.t 33,.t 35,.t 36])] [] []
def f49_46:IC:=.seq (.ops [o1 80 (.bin .eql (.t 32) (ci 3)),m1 79 80] [0,1,5,6,79] []) (.cond (.t 79) f49_49 f49_56)
def f49_42:IC:=.seq (.ops [o1 69 (.bin .eql (.t 32) (ci 2)),m1 68 69] [0,1,5,6,32,68] []) (.cond (.t 68) f49_45 f49_46)
def f49_25:IC:=.seq (.ops [o1 50 (.bin .eql (.t 32) (ci 10)),m1 49 50] [0,1,5,6,32,49] []) (.cond (.t 49) f49_28 f49_42)
def f49_21:IC:=.seq (.ops [o1 43 (.bin .eql (.t 32) (ci 12)),m1 42 43] [0,1,5,6,32,42] []) (.cond (.t 42) f49_24 f49_25)
def f49_18:IC:=.cond (.t 38) (.seq (.ops [m1 40 5,o1 41 (.pu (.nilq .p false) [.t 40]),m1 4 41] [4] []) .ret) f49_21
def f49_15:IC:=.block 0 (.seq (.ops [o1 39 (.bin .eql (.t 32) (ci 13)),m1 38 39] [0,1,5,6,32,38] []) f49_18)
def f49_10:IC:=.seq (.seq (.ops [m1 23 0,o1 24 (.nilck (.t 23)),o1 25 (.faddr (.t 24) 0),o1 26 (.faddr (.t 25) 1),o1 27 (.load (.t 26) 1 false),m1 28 1,o1 29 (.iaddr (.t 27) (.t 28) 69 4),o1 30 (.load (.t 29) 4 true),o1 6 (.alloc (.agg [(.i .i64 0),(.i .i64 0),(.i .i64 0),(.s [])])),o0 (.store (.t 6) (.t 30) 4)] [0,1,5,6] []) (.seq (.ops [o1 31 (.faddr (.t 6) 0),o1 32 (.load (.t 31) 1 false)] [0,1,5,6,32] []) f49_15)) (.seq (.ops [o1 4 (.mv (.c (.b true)))] [4] []) .ret)
def f49_8:IC:=.seq (.ops [m1 16 0,o1 17 (.nilck (.t 16)),o1 18 (.faddr (.t 17) 2),o1 19 (.load (.t 18) 1 false),m1 20 1,o1 21 (.iaddr (.t 19) (.t 20) 165 1),o1 22 (.load (.t 21) 1 false),m1 5 22] [0,1,5] []) f49_10
def f49_2:IC:=.seq (.seq (.ops [m1 9 0,o1 10 (.nilck (.t 9)),o1 11 (.faddr (.t 10) 4),o1 12 (.load (.t 11) 1 false),m1 13 1,o1 14 (.iaddr (.t 12) (.t 13) 4 1),o1 15 (.load (.t 14) 1 false)] [0,1,15] []) (.cond (.t 15) (.seq (.ops [o1 4 (.mv (.c (.b false)))] [4] []) .ret) .skip)) f49_8
def f49_0:IC:=.seq (.ops [o1 4 (.mv (.c (.b false)))] [0,1] []) f49_2
@[push_cast]def f49R:List R:=[.t 4]
@[push_cast]def f49e:=aWv f49_24.eq_1<|aWv f49_40.eq_1<|aWv f49_36.eq_1<|aWv f49_32.eq_1<|aWv f49_28.eq_1<|aWv f49_45.eq_1<|aWv f49_55.eq_1<|aWv f49_49.eq_1<|aWv f49_56.eq_1<|aWv f49_46.eq_1<|aWv f49_42.eq_1<|aWv f49_25.eq_1<|aWv f49_21.eq_1<|aWv f49_18.eq_1<|aWv f49_15.eq_1<|aWv f49_10.eq_1<|aWv f49_8.eq_1<|aWv f49_2.eq_1<|aWu f49_0.eq_1
theorem f49ok:okFn Tryz.prog 49 100 f49_0 f49R=true:=by kernel_rfl
def f29_5:IC:=.cond (.t 12) (.seq (.ops [o1 2 (.mv (.c .np)),o1 3 (.mv (ci 0)),o1 4 (.mv (ci 1))] [2,3,4] []) .ret) .skip
def f29_13:IC:=.cond (.t 17) (.seq (.ops [o1 2 (.mv (.c .np)),o1 3 (.mv (ci 0)),o1 4 (.mv (ci 6))] [2,3,4] []) .ret) .skip
def f29_31:IC:=.cond (.t 27) (.seq (.ops [m1 28 6,o1 2 (.mv (.c .np)),m1 3 28,o1 4 (.mv (ci 4))] [2,3,4] []) .ret) .skip
def f29_29:IC:=.seq (.ops [o1 24 (.load (.t 1) 2 true),m1 25 6,o1 26 (.call 48 [.t 24,.t 25]),o1 27 (.not (.t 26))] [1,5,6,20,21,27] []) f29_31
def f29_25:IC:=.seq (.block 1 (.seq (.ops [m1 23 21,m1 6 23] [1,5,6,20,21] []) f29_29)) (.ops [o1 29 (.bin .add (.t 21) (ci 1)),m1 21 29] [1,5,20,21] [])
def f29_21:IC:=.seq (.ops [o1 22 (.bin .lss (.t 21) (.t 20))] [1,5,20,21,22] []) (.seq (.cond (.t 22) .skip (.exit 0)) f29_25)
def f29_38:IC:=.cond (.t 41) (.seq (.ops [m1 42 5,o1 2 (.mv (.c .np)),m1 3 42,o1 4 (.mv (ci 4))] [2,3,4] []) .ret) .skip
def f29_60:IC:=.cond (.t 73) (.seq (.ops [m1 74 8,o1 2 (.mv (.c .np)),m1 3 74,o1 4 (.mv (ci 7))] [2,3,4] []) .ret) .skip
def f29_58:IC:=.seq (.opxq [m1 61 7,o1 62 (.nilck (.t 61)),o1 63 (.faddr (.t 62) 3),o1 64 (.load (.t 63) 1 false),m1 65 8,o1 66 (.iaddr (.t 64) (.t 65) 4 1),o1 67 (.load (.t 66) 1 false),m1 68 67,⟨some 69,.mv (.t 7),some (68,true),[]⟩,⟨some 70,.mv (.t 8),some (68,true),[]⟩] [7,8,57,58,68,69,70] 71 68 true 49 [(.t 69),(.t 70)] [⟨some 72,.not (.t 71),some (68,true),[]⟩,o1 73 (.pick (.t 68) (.t 72) (.c (.b false)))] [7,8,57,58,73]) f29_60
def f29_54:IC:=.seq (.block 3 (.seq (.ops [m1 60 58,m1 8 60] [7,8,57,58] []) f29_58)) (.ops [o1 75 (.bin .add (.t 58) (ci 1)),m1 58 75] [7,57,58] [])
def f29_50:IC:=.seq (.ops [o1 59 (.bin .lss (.t 58) (.t 57))] [7,57,58,59] []) (.seq (.cond (.t 59) .skip (.exit 2)) f29_54)
def f29_45:IC:=.seq (.seq (.ops [m1 57 5,o1 58 (.mv (ci 0))] [7,57,58] []) (.block 2 (.loop f29_50))) (.seq (.ops [m1 76 7,m1 2 76,o1 3 (.mv (ci 0)),o1 4 (.mv (ci 0))] [2,3,4] []) .ret)
def f29_43:IC:=.seq (.ops [m1 52 7,o1 53 (.nilck (.t 52)),o1 54 (.faddr (.t 53) 3),o1 55 (.load (.t 54) 1 false),o1 56 (.iaddr (.t 55) (ci 0) 4 1),o0 (.store (.t 56) (.c (.b true)) 1)] [5,7] []) f29_45
def f29_41:IC:=.seq (.ops [o1 43 (.load (.t 1) 2 true),m1 44 5,o1 45 (.mksl (.t 44) (.t 44) .np 165 1),m1 46 5,o1 47 (.mksl (.t 46) (.t 46) (.b false) 4 1),m1 48 5,o1 49 (.mksl (.t 48) (.t 48) (.b false) 4 1),o1 50 (.build [.nil,.nil,.nil,.nil,.nil] [(0,2,(.t 43)),(2,1,(.t 45)),(3,1,(.t 47)),(4,1,(.t 49))]),o1 51 (.box (.t 50)),m1 7 51] [5,7] [[1,2],[3,4],[5,6],[0,7],[2,7],[4,7],[6,7],[7,8],[8,9]]) f29_43
def f29_35:IC:=.seq (.seq (.ops [m1 30 5,o1 31 (.bin .eql (.t 30) (ci 0)),m1 32 31,⟨some 33,.faddr (.t 1) 1,some (32,false),[]⟩,⟨some 34,.load (.t 33) 1 false,some (32,false),[]⟩,⟨some 35,.mv (.t 5),some (32,false),[]⟩,⟨some 36,.bin .sub (.t 35) (ci 1),some (32,false),[]⟩,⟨some 37,.iaddr (.t 34) (.t 36) 69 4,some (32,false),[]⟩,⟨some 38,.faddr (.t 37) 0,some (32,false),[]⟩,⟨some 39,.load (.t 38) 1 false,some (32,false),[]⟩,⟨some 40,.bin .neq (.t 39) (ci 13),some (32,false),[]⟩,o1 41 (.pick (.t 32) (.c (.b true)) (.t 40))] [1,5,41] []) f29_38) f29_41
def f29_16:IC:=.seq (.seq (.ops [o1 18 (.faddr (.t 1) 1),o1 19 (.load (.t 18) 1 false),o1 20 (.lenL (.t 19)),o1 21 (.mv (ci 0))] [1,5,20,21] []) (.block 0 (.loop f29_21))) f29_35
def f29_10:IC:=.seq (.seq (.ops [m1 16 5,o1 17 (.bin .gtr (.t 16) (ci 10000))] [1,5,17] []) f29_13) f29_16
def f29_8:IC:=.seq (.ops [o1 13 (.faddr (.t 1) 1),o1 14 (.load (.t 13) 1 false),o1 15 (.lenL (.t 14)),m1 5 15] [1,5] []) f29_10
def f29_2:IC:=.seq (.seq (.ops [o1 9 (.faddr (.t 1) 0),o1 10 (.load (.t 9) 1 false),o1 11 (.call 47 [.t 10]),o1 12 (.not (.t 11))] [1,12] []) f29_5) f29_8
def f29_0:IC:=.seq (.ops [o1 1 (.box (.t 0)),o1 2 (.mv (.c .np)),o1 3 (.mv (ci 0)),o1 4 (.mv (ci 0))] [1] []) f29_2
@[push_cast]def f29R:List R:=[.t 2,.t 3,.t 4]
@[push_cast]def f29e:=aWv f29_5.eq_1<|aWv f29_13.eq_1<|aWv f29_31.eq_1<|aWv f29_29.eq_1<|aWv f29_25.eq_1<|aWv f29_21.eq_1<|aWv f29_38.eq_1<|aWv f29_60.eq_1<|aWv f29_58.eq_1<|aWv f29_54.eq_1<|aWv f29_50.eq_1<|aWv f29_45.eq_1<|aWv f29_43.eq_1<|aWv f29_41.eq_1<|aWv f29_35.eq_1<|aWv f29_16.eq_1<|aWv f29_10.eq_1<|aWv f29_8.eq_1<|aWv f29_2.eq_1<|aWu f29_0.eq_1
theorem f29ok:okFn Tryz.prog 29 77 f29_0 f29R=true:=by kernel_rfl
def f15_2:IC:=.seq (.ops [o1 5 (.load (.t 1) 2 true),o1 6 (.call 29 [.t 5]),m1 4 6,o1 7 (.ext (.t 4) 0),o1 8 (.ext (.t 4) 1),o1 9 (.ext (.t 4) 2),m1 2 8,m1 3 9] [2,3] []) (.seq (.ops [m1 10 2,m1 11 3,m1 2 10,m1 3 11] [2,3] []) .ret)
def f15_0:IC:=.seq (.ops [o1 1 (.box (.t 0)),o1 2 (.mv (ci 0)),o1 3 (.mv (ci 0))] [1] []) f15_2
@[push_cast]def f15R:List R:=[.t 2,.t 3]
@[push_cast]def f15e:=aWv f15_2.eq_1<|aWu f15_0.eq_1
theorem f15ok:okFn Tryz.prog 15 12 f15_0 f15R=true:=by kernel_rfl
def f16_35:IC:=.cond (.t 19) (.seq (.ops [o1 2 (.mv (ci 1)),o1 3 (.mv (.c (.b true)))] [2,3] []) .ret) .skip
def f16_32:IC:=.seq (.seq (.ops [o1 17 (.faddr (.t 1) 2),o1 18 (.load (.t 17) 1 false),o1 19 (.bin .eql (.t 18) (ci 9))] [19] []) f16_35) (.seq (.ops [o1 2 (.mv (ci 2)),o1 3 (.mv (.c (.b true)))] [2,3] []) .ret)
def f16_29:IC:=.seq (.ops [o1 16 (.bin .eql (.t 5) (ci 10)),m1 15 16] [1,15] []) (.cond (.t 15) f16_32 .skip)
def f16_26:IC:=.cond (.t 13) (.seq (.ops [o1 2 (.mv (ci 4)),o1 3 (.mv (.c (.b true)))] [2,3] []) .ret) f16_29
def f16_21:IC:=.cond (.t 11) (.seq (.ops [o1 2 (.mv (ci 3)),o1 3 (.mv (.c (.b true)))] [2,3] []) .ret) (.seq (.ops [o1 14 (.bin .eql (.t 5) (ci 9)),m1 13 14] [1,5,13] []) f16_26)
def f16_16:IC:=.cond (.t 8) (.seq (.ops [o1 2 (.mv (ci 2)),o1 3 (.mv (.c (.b true)))] [2,3] []) .ret) (.seq (.ops [o1 12 (.bin .eql (.t 5) (ci 8)),m1 11 12] [1,5,11] []) f16_21)
def f16_11:IC:=.seq (.seq (.ops [o1 9 (.bin .eql (.t 5) (ci 6)),m1 8 9] [1,5,8] []) (.cond (.t 8) .skip (.ops [o1 10 (.bin .eql (.t 5) (ci 7)),m1 8 10] [1,5,8] []))) f16_16
def f16_8:IC:=.cond (.t 6) (.seq (.ops [o1 2 (.mv (ci 0)),o1 3 (.mv (.c (.b true)))] [2,3] []) .ret) f16_11
def f16_2:IC:=.seq (.seq (.ops [o1 4 (.faddr (.t 1) 0),o1 5 (.load (.t 4) 1 false)] [1,5] []) (.block 0 (.seq (.ops [o1 7 (.bin .eql (.t 5) (ci 5)),m1 6 7] [1,5,6] []) f16_8))) (.seq (.ops [o1 2 (.mv (ci 0)),o1 3 (.mv (.c (.b false)))] [2,3] []) .ret)
def f16_0:IC:=.seq (.ops [o1 1 (.box (.t 0)),o1 2 (.mv (ci 0)),o1 3 (.mv (.c (.b false)))] [1] []) f16_2
@[push_cast]def f16R:List R:=[.t 2,.t 3]
@[push_cast]def f16e:=aWv f16_35.eq_1<|aWv f16_32.eq_1<|aWv f16_29.eq_1<|aWv f16_26.eq_1<|aWv f16_21.eq_1<|aWv f16_16.eq_1<|aWv f16_11.eq_1<|aWv f16_8.eq_1<|aWv f16_2.eq_1<|aWu f16_0.eq_1
theorem f16ok:okFn Tryz.prog 16 20 f16_0 f16R=true:=by kernel_rfl
def f6_5:IC:=.seq (.ops [m1 25 5,o1 26 (.bin .neq (.t 25) (ci 0))] [1,26] []) (.cond (.t 26) (.seq (.ops [o1 2 (.mv (.c .nil)),o1 3 (.mv (ci 1))] [2,3] []) .ret) .skip)
def f6_43:IC:=.ops [m1 61 15,m1 62 7,m1 63 62,⟨some 64,.mv (.t 16),some (63,false),[]⟩,⟨some 65,.not (.t 64),some (63,false),[]⟩,o1 66 (.pick (.t 63) (.c (.b true)) (.t 65)),m1 10 61,m1 7 66] [1,6,7,10,12,29,30,31] []
def f6_41:IC:=.seq (.ops [m1 56 13,m1 57 10,o1 58 (.call 17 [.t 56,.t 57]),m1 55 58,o1 59 (.ext (.t 55) 0),o1 60 (.ext (.t 55) 1),m1 15 59,m1 16 60] [1,6,7,12,15,16,29,30,31] []) f6_43
def f6_44:IC:=.ops [m1 67 6,m1 68 12,m1 69 10,o0 (.wrm (.mput .str) (.t 67) [.t 68,.t 69])] [1,6,7,29,30,31] []
def f6_35:IC:=.seq (.seq (.ops [m1 49 6,m1 50 12,o1 51 (.rdm (.mget .str (.i .i64 0) true) (.t 49) [.t 50]),m1 48 51,o1 52 (.ext (.t 48) 0),o1 53 (.ext (.t 48) 1),m1 13 52,m1 14 53] [1,6,7,10,12,13,14,29,30,31] []) (.seq (.ops [m1 54 14] [1,6,7,10,12,13,29,30,31,54] []) (.cond (.t 54) f6_41 .skip))) f6_44
def f6_33:IC:=.seq (.ops [o1 42 (.faddr (.t 1) 0),o1 43 (.load (.t 42) 1 false),o1 44 (.faddr (.t 9) 1),o1 45 (.load (.t 44) 1 false),o1 46 (.iaddr (.t 43) (.t 45) 9 1),o1 47 (.load (.t 46) 1 false),m1 12 47] [1,6,7,10,12,29,30,31] []) f6_35
def f6_29:IC:=.seq (.seq (.ops [m1 40 11,o1 41 (.not (.t 40))] [1,6,7,9,10,29,30,31,41] []) (.cond (.t 41) (.exit 1) .skip)) f6_33
def f6_27:IC:=.seq (.ops [o1 36 (.load (.t 9) 4 true),o1 37 (.call 16 [.t 36]),m1 35 37,o1 38 (.ext (.t 35) 0),o1 39 (.ext (.t 35) 1),m1 10 38,m1 11 39] [1,6,7,9,10,11,29,30,31] []) f6_29
def f6_23:IC:=.seq (.block 1 (.seq (.ops [o1 33 (.iaddr (.t 29) (.t 31) 69 4),o1 34 (.load (.t 33) 4 true),o1 9 (.alloc (.agg [(.i .i64 0),(.i .i64 0),(.i .i64 0),(.s [])])),o0 (.store (.t 9) (.t 34) 4)] [1,6,7,9,29,30,31] []) f6_27)) (.ops [o1 70 (.bin .add (.t 31) (ci 1)),m1 31 70] [1,6,7,29,30,31] [])
def f6_19:IC:=.seq (.ops [o1 32 (.bin .lss (.t 31) (.t 30))] [1,6,7,29,30,31,32] []) (.seq (.cond (.t 32) .skip (.exit 0)) f6_23)
def f6_67:IC:=.ops [m1 80 17,m1 81 19,m1 82 6,m1 83 19,o1 84 (.rdm (.mget .str (.i .i64 0) false) (.t 82) [.t 83]),o1 85 (.build [(.s []),(.i .i64 0)] [(0,1,(.t 81)),(1,1,(.t 84))]),o1 86 (.msl false 63 2 [.t 85]),o1 87 (.app (.t 80) (.t 86) 63 2),m1 17 87] [6,17,74,75,76] []
def f6_63:IC:=.seq (.block 3 (.seq (.ops [o1 78 (.iaddr (.t 74) (.t 76) 9 1),o1 79 (.load (.t 78) 1 false),m1 19 79] [6,17,19,74,75,76] []) f6_67)) (.ops [o1 88 (.bin .add (.t 76) (ci 1)),m1 76 88] [6,17,74,75,76] [])
def f6_59:IC:=.seq (.ops [o1 77 (.bin .lss (.t 76) (.t 75))] [6,17,74,75,76,77] []) (.seq (.cond (.t 77) .skip (.exit 2)) f6_63)
def f6_54:IC:=.seq (.seq (.opx [m1 72 6] [6,17,72] 73 19 [(.t 72)] [o1 74 (.calln 18 [.t 73]),o1 75 (.lenL (.t 74)),o1 76 (.mv (ci 0))] [6,17,74,75,76]) (.block 2 (.loop f6_59))) (.seq (.ops [m1 89 17,m1 2 89,o1 3 (.mv (ci 0))] [2,3] []) .ret)
def f6_46:IC:=.seq (.seq (.ops [m1 71 7] [6,71] []) (.cond (.t 71) (.seq (.ops [o1 2 (.mv (.c .nil)),o1 3 (.mv (ci 11))] [2,3] []) .ret) .skip)) (.seq (.ops [o1 17 (.mv (.c .nil))] [6,17] []) f6_54)
def f6_14:IC:=.seq (.seq (.ops [o1 28 (.faddr (.t 1) 1),o1 29 (.load (.t 28) 1 false),o1 30 (.lenL (.t 29)),o1 31 (.mv (ci 0))] [1,6,7,29,30,31] []) (.block 0 (.loop f6_19))) f6_46
def f6_10:IC:=.seq (.ops [o1 27 (.mkm .mkmap []),m1 6 27] [1,6] []) (.seq (.ops [o1 7 (.mv (.c (.b false)))] [1,6,7] []) f6_14)
def f6_2:IC:=.seq (.seq (.ops [o1 21 (.load (.t 1) 2 true),o1 22 (.call 15 [.t 21]),m1 20 22,o1 23 (.ext (.t 20) 0),o1 24 (.ext (.t 20) 1),m1 4 23,m1 5 24] [1,5] []) f6_5) f6_10
def f6_0:IC:=.seq (.ops [o1 1 (.box (.t 0)),o1 2 (.mv (.c .nil)),o1 3 (.mv (ci 0))] [1] []) f6_2
@[push_cast]def f6R:List R:=[.t 2,.t 3]
@[push_cast]def f6e:=aWv f6_5.eq_1<|aWv f6_43.eq_1<|aWv f6_41.eq_1<|aWv f6_44.eq_1<|aWv f6_35.eq_1<|aWv f6_33.eq_1<|aWv f6_29.eq_1<|aWv f6_27.eq_1<|aWv f6_23.eq_1<|aWv f6_19.eq_1<|aWv f6_67.eq_1<|aWv f6_63.eq_1<|aWv f6_59.eq_1<|aWv f6_54.eq_1<|aWv f6_46.eq_1<|aWv f6_14.eq_1<|aWv f6_10.eq_1<|aWv f6_2.eq_1<|aWu f6_0.eq_1
theorem f6ok:okFn Tryz.prog 6 90 f6_0 f6R=true:=by kernel_rfl
def f3_18:IC:=.seq (.ops [m1 23 4,m1 24 6,o1 25 (.bin .eql (.t 23) (.t 24)),m1 26 25,⟨some 27,.mv (.t 3),some (26,true),[]⟩,⟨some 28,.mv (.t 5),some (26,true),[]⟩,⟨some 29,.call 9 [.t 27,.t 28],some (26,true),[]⟩,o1 30 (.pick (.t 26) (.t 29) (.c (.b false))),m1 2 30] [2] []) .ret
def f3_16:IC:=.seq (.ops [o1 19 (.load (.t 1) 2 true),o1 20 (.call 8 [.t 19]),m1 18 20,o1 21 (.ext (.t 18) 0),o1 22 (.ext (.t 18) 1),m1 5 21,m1 6 22] [3,4,5,6] []) f3_18
def f3_14:IC:=.seq (.ops [o1 13 (.load (.t 1) 2 true),o1 14 (.call 7 [.t 13]),o1 15 (.call 6 [.t 14]),m1 12 15,o1 16 (.ext (.t 12) 0),o1 17 (.ext (.t 12) 1),m1 3 16,m1 4 17] [1,3,4] []) f3_16
def f3_8:IC:=.seq (.seq (.ops [o1 9 (.load (.t 1) 2 true),o1 10 (.call 5 [.t 9]),o1 11 (.not (.t 10))] [1,11] []) (.cond (.t 11) (.seq (.ops [o1 2 (.mv (.c (.b true)))] [2] []) .ret) .skip)) f3_14
def f3_2:IC:=.seq (.seq (.ops [o1 7 (.call 4 []),o1 8 (.not (.t 7))] [1,8] []) (.cond (.t 8) (.seq (.ops [o1 2 (.mv (.c (.b false)))] [2] []) .ret) .skip)) f3_8
def f3_0:IC:=.seq (.ops [o1 1 (.box (.t 0)),o1 2 (.mv (.c (.b false)))] [1] []) f3_2
@[push_cast]def f3R:List R:=[.t 2]
@[push_cast]def f3e:=aWv f3_18.eq_1<|aWv f3_16.eq_1<|aWv f3_14.eq_1<|aWv f3_8.eq_1<|aWv f3_2.eq_1<|aWu f3_0.eq_1
theorem f3ok:okFn Tryz.prog 3 31 f3_0 f3R=true:=by kernel_rfl
end Go.Ir
namespace Go.Ir
structure Ins where
 op:Int
 a:Int
 b:Int
 s:Bytes
def Ins.enc (x:Ins):V:=.agg [.i .i64 x.op,.i .i64 x.a,.i .i64 x.b,.s x.s]
theorem Ins.enc_eq (x:Ins):x.enc = .agg [.i .i64 x.op,.i .i64 x.a,.i .i64 x.b,.s x.s]:=rfl
def codeV (names:List Bytes) (ins:List Ins):V:=.agg [.sl (names.map V.s),.sl (ins.map Ins.enc)]
def namedGo (seen:List Bytes):List Bytes->Bool
 | []=>true
 | x::r=>if !nameB x||seen.contains x then false else namedGo (seen++[x]) r
def namedB (l:List Bytes):Bool:=namedGo [] l&&decide ((l.length:Int)<=20)
def caseL:List Ins->List Ins
 | []=>[]
 | x::r=>if x.op == 11 then x::caseL r else []
def keysGo (kind:Int) (seen:List Bytes):List Ins->Bool
 | []=>true
 | x::r=>if !keyB kind x.s||seen.contains x.s then false else keysGo kind (seen++[x.s]) r
def altB (kind:Int) (l:List Ins):Bool:=keysGo kind [] l&&(decide ((l.length:Int)<=20)&&(l.map (·.s)).contains kOtherS)
def opAt (ins:List Ins) (k:Nat):Int:=match ins[k]? with
 | some x=>x.op
 | none=>0
def tgtB (ins:List Ins) (i:Nat) (a:Int):Bool:=!decide (a<=(i:Int))&&(!decide (a>=(ins.length:Int))&&!(opAt ins a.toNat == 11))
def argB (nn:Nat) (a:Int):Bool:=!decide (a<0)&&!decide (a>=(nn:Int))
def propB (nn:Nat) (ins:List Ins) (i:Nat) (x:Ins):Bool:=
 if x.op == 1 then !(x.a != 0)&&(!(x.b != 0)&&!(x.s == []))
 else if x.op == 2||(x.op == 3||x.op == 4) then !(x.a != 0)&&(!(x.b != 0)&&nameB x.s)
 else if x.op == 5 then argB nn x.a&&(!(x.b != 0)&&x.s == [])
 else if x.op == 6 then argB nn x.a&&(!(x.b != 0)&&(x.s == []||(x.s == [105,110,116,101,103,101,114]||x.s == [112,101,114,99,101,110,116])))
 else if x.op == 7||x.op == 9 then argB nn x.a&&(!(x.b != 0)&&nameB x.s)
 else if x.op == 8 then argB nn x.a&&(!(x.b != 0)&&skeletonB x.s)
 else if x.op == 10 then argB nn x.a&&(x.s == []&&(selB x.b&&altB x.b (caseL (ins.drop (i+1)))))
 else if x.op == 11 then tgtB ins i x.a&&(!(x.b != 0)&&(decide ((i:Int)>0)&&(opAt ins (i-1) == 10||opAt ins (i-1) == 11)))
 else if x.op == 12 then tgtB ins i x.a&&(!(x.b != 0)&&x.s == [])
 else if x.op == 13 then !(x.a != 0)&&(!(x.b != 0)&&(x.s == []&&(i:Int) == (ins.length:Int)-1))
 else false
def propGo (nn:Nat) (ins:List Ins):Nat->List Ins->Int
 | _,[]=>-1
 | i,x::r=>if propB nn ins i x then propGo nn ins (i+1) r else i
abbrev WayR:=List (Bool × List Bytes) × List Bool
def leadR (st:WayR) (o:List Bytes) (j:Int):WayR:=
 (st.1.set j.toNat (true,o),st.2.set j.toNat (st.2.getD j.toNat false||((st.1.getD j.toNat (false,[])).1&&!((st.1.getD j.toNat (false,[])).2 == o))))
def nextL (ins:List Ins) (i:Nat) (x:Ins):List Int:=
 if x.op == 10 then (caseL (ins.drop (i+1))).map (·.a) else if x.op == 12 then [x.a] else if x.op == 13 then [] else [(i:Int)+1]
def openR (x:Ins) (o:List Bytes):Option (List Bytes):=
 if x.op == 2 then some (o++[x.s])
 else if x.op == 3 then (if o.isEmpty then none else if o.getLastD [] == x.s then some o.dropLast else none)
 else if x.op == 13 then (if o.isEmpty then some o else none)
 else some o
def waysR (ins:List Ins):Nat->List Ins->WayR->Int
 | _,[],_=>-1
 | i,x::r,st=>if (st.1.getD i (false,[])).1 then (if st.2.getD i false then i else match openR x (st.1.getD i (false,[])).2 with
  | none=>i
  | some o=>waysR ins (i+1) r ((nextL ins i x).foldl (fun st j=>leadR st o j) st)) else waysR ins (i+1) r st
structure WayP where
 op:List (List Bytes)
 re:List Bool
 cl:List Bool
def leadP (st:WayP) (o:List Bytes) (j:Int):WayP:=
 if st.re.getD j.toNat false then { st with cl:=st.cl.set j.toNat (st.cl.getD j.toNat false||!(st.op.getD j.toNat [] == o)) }
 else { st with re:=st.re.set j.toNat true,op:=st.op.set j.toNat o }
def openP (x:Ins) (o:List Bytes):Option (List Bytes):=
 if x.op == 2 then some (x.s::o)
 else if x.op == 3 then (match o with
  | []=>none
  | t::r=>if t == x.s then some r else none)
 else if x.op == 13 then (if o.isEmpty then some o else none)
 else some o
def stepP (ins:List Ins) (i:Nat) (x:Ins) (st:WayP):Option WayP:=
 if st.cl.getD i false then none else match openP x (st.op.getD i []) with
  | none=>none
  | some o=>some ((nextL ins i x).foldl (fun st j=>leadP st o j) st)
def waysP (ins:List Ins):Nat->List Ins->WayP->Int
 | _,[],_=>-1
 | i,x::r,st=>if st.re.getD i false then (match stepP ins i x st with
  | none=>i
  | some st'=>waysP ins (i+1) r st') else waysP ins (i+1) r st
structure WayE (n:Nat) (s:WayR) (p:WayP):Prop where
 l1:s.1.length=n
 l2:s.2.length=n
 l3:p.op.length=n
 l4:p.re.length=n
 l5:p.cl.length=n
 re:∀j,j<n->(s.1.getD j (false,[])).1=p.re.getD j false
 cl:∀j,j<n->s.2.getD j false=p.cl.getD j false
 op:∀j,j<n->p.re.getD j false=true->p.cl.getD j false=false->(s.1.getD j (false,[])).2=(p.op.getD j []).reverse
theorem getD_set {α:Type} (l:List α) (i j:Nat) (x d:α) (h:i<l.length):(l.set i x).getD j d=if i=j then x else l.getD j d:=by
 rw [List.getD_eq_getElem?_getD,List.getElem?_set,List.getD_eq_getElem?_getD]
 by_cases hij:i=j
 ·subst hij;rw [if_pos rfl,if_pos h,if_pos rfl];rfl
 ·rw [if_neg hij,if_neg hij]
theorem beq_rev (a b:List Bytes):(a.reverse == b.reverse)=(a == b):=by
 rw [Bool.eq_iff_iff];simp
theorem lead_same {n:Nat} {s:WayR} {p:WayP} (h:WayE n s p) (o:List Bytes) (j:Int) (hj:j.toNat<n):WayE n (leadR s o.reverse j) (leadP p o j):=by
 obtain ⟨l1,l2,l3,l4,l5,re,cl,op⟩:=h
 generalize hk:j.toNat=k at hj
 have hr:=re k hj
 have hc:=cl k hj
 have ho:=op k hj
 unfold leadR leadP
 rw [hk]
 cases hre:p.re.getD k false with
 | true=>
  rw [hre] at hr ho
  rw [if_pos rfl]
  refine ⟨by simp [l1],by simp [l2],l3,l4,by simp [l5],fun i hi=>?_,fun i hi=>?_,fun i hi h1 h2=>?_⟩
  ·simp only
   rw [getD_set _ _ _ _ _ (by omega)]
   by_cases hki:k=i
   ·subst hki;rw [if_pos rfl];exact hre.symm
   ·rw [if_neg hki];exact re i hi
  ·simp only
   rw [getD_set _ _ _ _ _ (by omega),getD_set _ _ _ _ _ (by omega)]
   by_cases hki:k=i
   ·subst hki
    rw [if_pos rfl,if_pos rfl,hc,hr]
    cases hcl:p.cl.getD k false with
    | true=>rfl
    | false=>rw [ho rfl hcl,beq_rev];rfl
   ·rw [if_neg hki,if_neg hki];exact cl i hi
  ·simp only at h1 h2⊢
   rw [getD_set _ _ _ _ _ (by omega)] at h2⊢
   by_cases hki:k=i
   ·subst hki
    rw [if_pos rfl] at h2⊢
    simp only [Bool.or_eq_false_iff,Bool.not_eq_false',beq_iff_eq] at h2
    rw [h2.2]
   ·rw [if_neg hki] at h2⊢;exact op i hi h1 h2
 | false=>
  rw [hre] at hr
  rw [if_neg (by simp)]
  refine ⟨by simp [l1],by simp [l2],by simp [l3],by simp [l4],l5,fun i hi=>?_,fun i hi=>?_,fun i hi h1 h2=>?_⟩
  ·simp only
   rw [getD_set _ _ _ _ _ (by omega),getD_set _ _ _ _ _ (by omega)]
   by_cases hki:k=i
   ·subst hki;rw [if_pos rfl,if_pos rfl]
   ·rw [if_neg hki,if_neg hki];exact re i hi
  ·simp only
   rw [getD_set _ _ _ _ _ (by omega)]
   by_cases hki:k=i
   ·subst hki;rw [if_pos rfl,hr,hc];simp
   ·rw [if_neg hki];exact cl i hi
  ·simp only at h1 h2⊢
   rw [getD_set _ _ _ _ _ (by omega)] at h1⊢
   rw [getD_set _ _ _ _ _ (by omega)]
   by_cases hki:k=i
   ·subst hki;rw [if_pos rfl,if_pos rfl]
   ·rw [if_neg hki] at h1⊢;rw [if_neg hki];exact op i hi h1 h2
theorem leads_same {n:Nat} (o:List Bytes):∀(js:List Int) (s:WayR) (p:WayP),WayE n s p->(∀j∈js,j.toNat<n)->WayE n (js.foldl (fun st j=>leadR st o.reverse j) s) (js.foldl (fun st j=>leadP st o j) p):=by
 intro js
 induction js with
 | nil=>intro s p h _;exact h
 | cons j js ih=>intro s p h hj;exact ih _ _ (lead_same h o j (hj j (by simp))) fun k hk=>hj k (by simp [hk])
theorem open_same (x:Ins) (o:List Bytes):openR x o.reverse=(openP x o).map List.reverse:=by
 unfold openR openP
 by_cases h2:(x.op == 2)=true
 ·rw [if_pos h2,if_pos h2];simp
 ·rw [if_neg h2,if_neg h2]
  by_cases h3:(x.op == 3)=true
  ·rw [if_pos h3,if_pos h3]
   cases o with
   | nil=>rfl
   | cons t r=>
    have h0:(t::r).reverse.isEmpty=false:=by cases h:(t::r).reverse.isEmpty with
     | false=>rfl
     | true=>simp at h
    have h1:(t::r).reverse.getLastD []=t:=by simp [List.getLastD_eq_getLast?]
    have h4:(t::r).reverse.dropLast=r.reverse:=by simp
    rw [h0,h1,h4]
    simp only [Bool.false_eq_true,if_false]
    cases (t == x.s)<;>rfl
  ·rw [if_neg h3,if_neg h3]
   by_cases h13:(x.op == 13)=true
   ·rw [if_pos h13,if_pos h13]
    cases o with
    | nil=>rfl
    | cons t r=>
     have h0:(t::r).reverse.isEmpty=false:=by cases h:(t::r).reverse.isEmpty with
      | false=>rfl
      | true=>simp at h
     rw [h0];rfl
   ·rw [if_neg h13,if_neg h13];rfl
def TgtOk (ins:List Ins):Prop:=∀i x,ins[i]? = some x->∀j∈nextL ins i x,j.toNat<ins.length
theorem ways_same (ins:List Ins) (ht:TgtOk ins):∀(r:List Ins) (i:Nat) (s:WayR) (p:WayP),ins.drop i=r->WayE ins.length s p->waysR ins i r s=waysP ins i r p:=by
 intro r
 induction r with
 | nil=>intro i s p _ _;rfl
 | cons x r ih=>
  intro i s p hd h
  have hx:ins[i]? = some x:=by
   have:=congrArg (fun l=>l[0]?) hd
   simpa using this
  have hi:i<ins.length:=(List.getElem?_eq_some_iff.1 hx).1
  have hd':ins.drop (i+1)=r:=by
   have:=congrArg List.tail hd
   simpa using this
  rw [waysR,waysP,h.re i hi]
  cases hre:p.re.getD i false with
  | false=>simp only [Bool.false_eq_true,if_false];exact ih _ _ _ hd' h
  | true=>
   simp only [if_true]
   unfold stepP
   rw [h.cl i hi]
   cases hcl:p.cl.getD i false with
   | true=>simp
   | false=>
    simp only [Bool.false_eq_true,if_false]
    rw [h.op i hi hre hcl,open_same]
    cases openP x (p.op.getD i []) with
    | none=>rfl
    | some o=>exact ih _ _ _ hd' (leads_same o _ s p h (ht i x hx))
def wayR0 (n:Nat):WayR:=((List.replicate n (false,[])).set 0 (true,[]),List.replicate n false)
def wayP0 (n:Nat):WayP:=⟨List.replicate n [],(List.replicate n false).set 0 true,List.replicate n false⟩
theorem way0_same (n:Nat) (hn:0<n):WayE n (wayR0 n) (wayP0 n):=by
 have gr:∀{α:Type} (j:Nat) (x:α),j<n->(List.replicate n x).getD j x=x:=fun j x h=>by rw [List.getD_eq_getElem?_getD,List.getElem?_replicate,if_pos h];rfl
 refine ⟨by simp [wayR0],by simp [wayR0],by simp [wayP0],by simp [wayP0],by simp [wayP0],fun j hj=>?_,fun j hj=>?_,fun j hj h1 h2=>?_⟩
 ·simp only [wayR0,wayP0]
  rw [getD_set _ _ _ _ _ (by simpa using hn),getD_set _ _ _ _ _ (by simpa using hn)]
  by_cases h:0=j
  ·rw [if_pos h,if_pos h]
  ·rw [if_neg h,if_neg h,gr _ _ hj,gr _ _ hj]
 ·simp only [wayR0,wayP0]
 ·simp only [wayR0,wayP0]
  rw [getD_set _ _ _ _ _ (by simpa using hn),gr _ _ hj]
  by_cases h:0=j
  ·rw [if_pos h,gr _ _ hj];rfl
  ·rw [if_neg h,gr _ _ hj];rfl
def checkC (names:List Bytes) (ins:List Ins):Int × Int:=
 if !namedB names then (0,1)
 else if decide ((ins.length:Int)>10000) then (0,6)
 else if propGo names.length ins 0 ins>=0 then (propGo names.length ins 0 ins,4)
 else if ins.isEmpty||!(opAt ins (ins.length-1) == 13) then (ins.length,4)
 else if waysP ins 0 ins (wayP0 ins.length)>=0 then (waysP ins 0 ins (wayP0 ins.length),7)
 else (0,0)
theorem prop_go (nn:Nat) (ins:List Ins):∀(r:List Ins) (i:Nat),¬propGo nn ins i r>=0->∀k x,r[k]? = some x->propB nn ins (i+k) x=true:=by
 intro r
 induction r with
 | nil=>intro i _ k x h;simp at h
 | cons y r ih=>
  intro i h k x hk
  rw [propGo] at h
  cases hp:propB nn ins i y with
  | false=>rw [hp] at h;simp at h
  | true=>
   rw [hp,if_pos rfl] at h
   cases k with
   | zero=>simp at hk;subst hk;exact hp
   | succ k=>have:=ih (i+1) h k x (by simpa using hk);rwa [Nat.add_assoc,Nat.add_comm 1 k] at this
theorem caseL_mem {l:List Ins}:∀{y:Ins},y∈caseL l->∃k,k<(caseL l).length/\l[k]? = some y/\y.op=11:=by
 induction l with
 | nil=>intro y h;cases h
 | cons x r ih=>
  intro y h
  rw [caseL] at h⊢
  split at h
  ·rename_i hx
   rw [if_pos hx]
   rcases List.mem_cons.1 h with rfl|h
   ·exact ⟨0,by simp,by simp,by simpa using hx⟩
   ·obtain ⟨k,h1,h2,h3⟩:=ih h
    exact ⟨k+1,by simpa using h1,by simpa using h2,h3⟩
  ·cases h
theorem tgt_lt {ins:List Ins} {i:Nat} {a:Int} (h:tgtB ins i a=true):(i:Int)<a/\a<(ins.length:Int):=by
 unfold tgtB at h
 simp only [Bool.and_eq_true,Bool.not_eq_true',decide_eq_false_iff_not] at h
 exact ⟨by omega,by omega⟩
theorem tgt_ok (nn:Nat) (ins:List Ins) (hp:¬propGo nn ins 0 ins>=0) (hl:opAt ins (ins.length-1)=13):TgtOk ins:=by
 intro i x hx j hj
 have hi:i<ins.length:=(List.getElem?_eq_some_iff.1 hx).1
 have hpx:=prop_go nn ins ins 0 hp i x hx
 rw [Nat.zero_add] at hpx
 unfold nextL at hj
 split at hj
 ·obtain ⟨y,hy,rfl⟩:=List.mem_map.1 hj
  obtain ⟨k,_,h2,h3⟩:=caseL_mem hy
  rw [List.getElem?_drop] at h2
  have hpy:=prop_go nn ins ins 0 hp _ y h2
  rw [Nat.zero_add] at hpy
  unfold propB at hpy
  rw [h3] at hpy
  simp [Int.reduceBEq] at hpy
  have:=tgt_lt hpy.1
  omega
 ·split at hj
  ·rename_i h12
   simp only [List.mem_singleton] at hj
   subst hj
   unfold propB at hpx
   rw [show x.op=12 by simpa using h12] at hpx
   simp [Int.reduceBEq] at hpx
   have:=tgt_lt hpx.1
   omega
  ·split at hj
   ·cases hj
   ·rename_i h13
    simp only [List.mem_singleton] at hj
    subst hj
    have:i≠ins.length-1:=by
     rintro rfl
     rw [opAt,hx] at hl
     exact h13 (by simpa using hl)
    omega
def checkR (names:List Bytes) (ins:List Ins):Int × Int:=
 if !namedB names then (0,1)
 else if decide ((ins.length:Int)>10000) then (0,6)
 else if propGo names.length ins 0 ins>=0 then (propGo names.length ins 0 ins,4)
 else if ins.isEmpty||!(opAt ins (ins.length-1) == 13) then (ins.length,4)
 else if waysR ins 0 ins (wayR0 ins.length)>=0 then (waysR ins 0 ins (wayR0 ins.length),7)
 else (0,0)
theorem check_same (names:List Bytes) (ins:List Ins):checkR names ins=checkC names ins:=by
 unfold checkR checkC
 split
 ·rfl
 ·split
  ·rfl
  ·split
   ·rfl
   ·rename_i hp
    split
    ·rfl
    ·rename_i hl
     simp only [Bool.or_eq_true,not_or,Bool.not_eq_true',Bool.not_eq_false,beq_iff_eq] at hl
     have hl2:opAt ins (ins.length-1)=13:=by simpa using hl.2
     have hne:0<ins.length:=by
      cases ins with
      | nil=>simp at hl
      | cons y r=>simp
     rw [ways_same ins (tgt_ok _ ins hp hl2) ins 0 _ _ rfl (way0_same _ hne)]
end Go.Ir
namespace Go.Ir
open Go Go.Proofs Go.Maps Go.Sort Go.Shelf Go.WideElems
def needT (x:Ins):Int:=if x.op == 6||x.op == 7 then 2 else if x.op == 8 then 3 else if x.op == 9 then 4 else if x.op == 10 then (if x.b == 9 then 1 else 2) else 0
def hasA (x:Ins):Bool:=decide (x.op>=5)&&decide (x.op<=10)
def nameAt (names:List Bytes) (k:Int):Bytes:=names.getD k.toNat []
def usesC (names:List Bytes):List Ins->List (Bytes × Int)
 | []=>[]
 | x::r=>if hasA x then (nameAt names x.a,needT x)::usesC names r else usesC names r
def tabC (names:List Bytes) (ins:List Ins):TyM × Bool:=(usesC names ins).foldl addT ([],false)
def needsC (names:List Bytes) (ins:List Ins):TyM × Int:=
 if !((checkC names ins).2 == 0) then ([],1) else if (tabC names ins).2 then ([],11) else (argsOf (tabC names ins).1,0)
def putR:TyM->Bytes × Int->TyM × Bool
 | [],x=>([x],true)
 | e::l,x=>if e.1 == x.1 then ((e.1,(comT e.2 x.2).1)::l,(comT e.2 x.2).2) else if !(Op.bytesLess e.1 x.1||e.1 == x.1) then (x::e::l,true) else (e::(putR l x).1,(putR l x).2)
def putsR:TyM->List (Bytes × Int)->Option TyM
 | l,[]=>some l
 | l,u::us=>if (putR l u).2 then putsR (putR l u).1 us else none
def needsR (names:List Bytes) (ins:List Ins):TyM × Int:=
 if !((checkR names ins).2 == 0) then ([],1) else match putsR [] (usesC names ins) with
  | none=>([],11)
  | some l=>(l,0)
theorem look_key {m:TyM} {n:Bytes}:lookT m n=none↔n ∉ m.map Prod.fst:=by
 induction m with
 | nil=>simp [lookT]
 | cons e m ih=>
  rw [lookT,List.map_cons,List.mem_cons,not_or]
  by_cases h:e.1=n
  ·rw [if_pos (by simpa using h)];simp [h]
  ·rw [if_neg (by simpa using h),ih];simp [Ne.symm h]
theorem look_mem {m:TyM} (hn:(m.map Prod.fst).Nodup) {e:Bytes × Int} (h:e∈m):lookT m e.1=some e.2:=by
 induction m with
 | nil=>cases h
 | cons a m ih=>
  rw [List.map_cons,List.nodup_cons] at hn
  rw [lookT]
  rcases List.mem_cons.1 h with rfl|h
  ·simp
  ·rw [if_neg (by simp only [beq_iff_eq];rintro he;exact hn.1 (he ▸ List.mem_map.2 ⟨e,h,rfl⟩))]
   exact ih hn.2 h
abbrev Srt (l:TyM):Prop:=l.Pairwise fun a b=>a.1<b.1
theorem srt_nodup {l:TyM} (h:Srt l):(l.map Prod.fst).Nodup:=by
 rw [List.Nodup,List.pairwise_map]
 exact h.imp fun {a b} hab he=>by rw [he] at hab;exact List.lt_irrefl _ hab
theorem put_new (x:Bytes × Int):∀l:TyM,Srt l->lookT l x.1=none->
  (putR l x).2=true/\Srt (putR l x).1/\((putR l x).1.map Prod.fst).Perm (x.1::l.map Prod.fst)/\∀n,lookT (putR l x).1 n=if n=x.1 then some x.2 else lookT l n:=by
 intro l
 induction l with
 | nil=>intro _ _;exact ⟨rfl,by simp [putR],.refl _,fun n=>by
  simp only [putR,lookT,beq_iff_eq]
  by_cases h:x.1=n
  ·rw [if_pos h,if_pos h.symm]
  ·rw [if_neg h,if_neg (Ne.symm h)]⟩
 | cons e l ih=>
  intro hs hl
  rw [Srt,List.pairwise_cons] at hs
  rw [look_key,List.map_cons,List.mem_cons,not_or] at hl
  have hne:(e.1 == x.1)=false:=by simpa using Ne.symm hl.1
  obtain ⟨i1,i2,i3,i4⟩:=ih hs.2 (look_key.2 hl.2)
  rw [putR,hne]
  simp only [Bool.false_eq_true,if_false,Bool.or_false,bytesLess_eq]
  by_cases hlt:e.1<x.1
  ·simp only [hlt,decide_true,Bool.not_true,Bool.false_eq_true,if_false]
   refine ⟨i1,?_,?_,fun n=>?_⟩
   ·rw [Srt,List.pairwise_cons]
    refine ⟨fun b hb=>?_,i2⟩
    have hb2:b.1∈x.1::l.map Prod.fst:=i3.mem_iff.1 (List.mem_map.2 ⟨b,hb,rfl⟩)
    rcases List.mem_cons.1 hb2 with h|h
    ·rw [h];exact hlt
    ·obtain ⟨c,hc,hcb⟩:=List.mem_map.1 h
     rw [<-hcb];exact hs.1 c hc
   ·rw [List.map_cons,List.map_cons]
    exact (i3.cons _).trans (.swap _ _ _)
   ·simp only [lookT,i4,beq_iff_eq]
    by_cases h:e.1=n
    ·rw [if_pos h,if_pos h,if_neg (by rintro rfl;exact hl.1 h.symm)]
    ·rw [if_neg h,if_neg h]
  ·simp only [hlt,decide_false,Bool.not_false,if_true]
   have hgt:x.1<e.1:=Classical.byContradiction fun hn=>hl.1 (List.le_antisymm (List.not_lt.1 hlt) (List.not_lt.1 hn))
   refine ⟨trivial,?_,.refl _,fun n=>?_⟩
   ·rw [Srt,List.pairwise_cons,List.pairwise_cons]
    refine ⟨fun b hb=>?_,hs⟩
    rcases List.mem_cons.1 hb with rfl|hb
    ·exact hgt
    ·exact List.lt_trans hgt (hs.1 b hb)
   ·simp only [lookT,beq_iff_eq]
    by_cases h:x.1=n
    ·rw [if_pos h,if_pos h.symm]
    ·rw [if_neg h,if_neg (Ne.symm h)]
theorem put_old (x:Bytes × Int) (old:Int):∀l:TyM,Srt l->lookT l x.1=some old->
  (putR l x).2=(comT old x.2).2/\(putR l x).1.map Prod.fst=l.map Prod.fst/\∀n,lookT (putR l x).1 n=if n=x.1 then some (comT old x.2).1 else lookT l n:=by
 intro l
 induction l with
 | nil=>intro _ h;cases h
 | cons e l ih=>
  intro hs hl
  rw [Srt,List.pairwise_cons] at hs
  rw [lookT] at hl
  rw [putR]
  by_cases h:e.1=x.1
  ·have hb:(e.1 == x.1)=true:=by simpa using h
   rw [hb] at hl⊢
   simp only [if_true] at hl⊢
   cases hl
   refine ⟨rfl,rfl,fun n=>?_⟩
   simp only [lookT,beq_iff_eq]
   by_cases h2:e.1=n
   ·rw [if_pos h2,if_pos (h2.symm.trans h)]
   ·rw [if_neg h2,if_neg (fun h3=>h2 (h.trans h3.symm)),if_neg h2]
  ·have hb:(e.1 == x.1)=false:=by simpa using h
   rw [hb] at hl⊢
   simp only [Bool.false_eq_true,if_false,Bool.or_false,bytesLess_eq] at hl⊢
   obtain ⟨i1,i2,i3⟩:=ih hs.2 hl
   have hlt:e.1<x.1:=by
    obtain ⟨a,ha,hax⟩:=look_in hl
    rw [<-hax];exact hs.1 a ha
   simp only [hlt,decide_true,Bool.not_true,Bool.false_eq_true,if_false]
   refine ⟨i1,by rw [List.map_cons,i2,List.map_cons],fun n=>?_⟩
   simp only [lookT,i3,beq_iff_eq]
   by_cases h2:e.1=n
   ·rw [if_pos h2,if_pos h2,if_neg (fun h3=>h (h2.trans h3))]
   ·rw [if_neg h2,if_neg h2]
theorem srt_keys {l m:TyM} (h:l.map Prod.fst=m.map Prod.fst) (hs:Srt l):Srt m:=by
 rw [Srt,<-List.pairwise_map (f:=Prod.fst) (R:=fun a b:Bytes=>a<b)] at hs⊢
 rwa [<-h]
theorem puts_same:∀(us:List (Bytes × Int)) (l m:TyM),Srt l->(l.map Prod.fst).Perm (m.map Prod.fst)->(∀n,lookT l n=lookT m n)->
  (match putsR l us with
  | none=>(us.foldl addT (m,false)).2=true
  | some l'=>(us.foldl addT (m,false)).2=false/\Srt l'/\(l'.map Prod.fst).Perm ((us.foldl addT (m,false)).1.map Prod.fst)/\∀n,lookT l' n=lookT (us.foldl addT (m,false)).1 n):=by
 intro us
 induction us with
 | nil=>intro l m h1 h2 h3;exact ⟨rfl,h1,h2,h3⟩
 | cons u us ih=>
  intro l m h1 h2 h3
  rw [putsR,List.foldl_cons]
  have hl:=h3 u.1
  cases hlk:lookT l u.1 with
  | none=>
   obtain ⟨p1,p2,p3,p4⟩:=put_new u l h1 hlk
   rw [hlk] at hl
   have ha:addT (m,false) u=(putT m u.1 u.2,false):=by unfold addT;simp only [<-hl]
   rw [p1,if_pos rfl,ha]
   refine ih _ _ p2 ?_ fun n=>by rw [p4,look_put,h3]
   rw [put_keys,if_neg (look_key.1 hl.symm)]
   exact p3.trans ((h2.cons _).trans (List.perm_append_singleton _ _).symm)
  | some old=>
   obtain ⟨p1,p2,p3⟩:=put_old u old l h1 hlk
   rw [hlk] at hl
   have ha:addT (m,false) u=(putT m u.1 (comT old u.2).1,!(comT old u.2).2):=by unfold addT;simp only [<-hl,Bool.false_or]
   rw [p1,ha]
   cases hc:(comT old u.2).2 with
   | false=>
    simp only [Bool.false_eq_true,if_false,Bool.not_false]
    cases hw:(us.foldl addT (putT m u.1 (comT old u.2).1,true)).2 with
    | true=>rfl
    | false=>exact absurd (fold_wrong us _ hw) (by simp)
   | true=>
    simp only [if_true,Bool.not_true]
    refine ih _ _ (srt_keys p2.symm h1) ?_ fun n=>by rw [p3,look_put,h3]
    rw [p2,put_keys,if_pos]
    ·exact h2
    ·have:u.1 ∉ m.map Prod.fst->False:=fun h=>by rw [look_key.2 h] at hl;cases hl
     exact Classical.not_not.1 this
theorem args_eq {l m:TyM} (hs:Srt l) (hp:(l.map Prod.fst).Perm (m.map Prod.fst)) (h:∀n,lookT l n=lookT m n):argsOf m=l:=by
 have hsl:srtT m=l.map Prod.fst:=by
  have e1:srtT m=(l.map Prod.fst).mergeSort (fun x y=>decide (x<=y)):=by
   unfold srtT keyD strKeys
   refine mergeSort_of_perm (List.Perm.trans ?_ hp.symm)
   have:=(Go.WideShapes.sorted_perm (m.map fun e=>(Lit.string e.1,(DataW.nil:DataW Unit)))).map (fun e:Lit × DataW Unit=>strOf e.1)
   have h2:(m.map fun e=>(Lit.string e.1,(DataW.nil:DataW Unit))).map (fun e:Lit × DataW Unit=>strOf e.1)=m.map Prod.fst:=by
    rw [List.map_map];rfl
   rw [h2] at this
   exact this
  rw [e1]
  refine List.mergeSort_of_pairwise ?_
  rw [List.pairwise_map]
  exact hs.imp fun {a b} hab=>by simpa using List.le_of_lt hab
 unfold argsOf
 rw [hsl,List.map_map]
 conv=>rhs;rw [<-List.map_id l]
 refine List.map_congr_left fun e he=>?_
 have:=look_mem (srt_nodup hs) he
 simp only [Function.comp,id]
 rw [<-h,this]
 rfl
theorem needs_same (names:List Bytes) (ins:List Ins):needsR names ins=needsC names ins:=by
 unfold needsR needsC
 rw [check_same]
 split
 ·rfl
 ·have h:=puts_same (usesC names ins) [] [] (by simp) (.refl _) (fun _=>rfl)
  unfold tabC
  cases hp:putsR [] (usesC names ins) with
  | none=>rw [hp] at h;simp only at h;rw [h];rfl
  | some l=>
   rw [hp] at h
   simp only at h
   rw [h.1]
   simp only [Bool.false_eq_true,if_false]
   rw [args_eq h.2.1 h.2.2.1 h.2.2.2]
end Go.Ir
namespace Go.Ir
open Go.Proofs
variable (W0 : World)
def fewNs:List Bytes->Bool
 | []=>true
 | x::r=>if decide ((x.length:Int)>100) then false else fewNs r
def fewIs:List Ins->Bool
 | []=>true
 | x::r=>if decide ((x.s.length:Int)>300) then false else fewIs r
def fewCd (names:List Bytes) (ins:List Ins):Bool:=fewNs names&&(fewIs ins&&(decide ((names.length:Int)<=30)&&decide ((ins.length:Int)<=400)))
theorem insV {x:Ins} {done rest L:List Ins} (h:L=done++x::rest):(L.map Ins.enc)[done.length]? = some (.agg [.i .i64 x.op,.i .i64 x.a,.i .i64 x.b,.s x.s]):=by rw [h];simp [Ins.enc]
theorem strV' {x:Bytes} {done rest L:List Bytes} (h:L=done++x::rest):(L.map V.s)[done.length]? = some (.s x):=by rw [h];simp
theorem zipLt {α:Type} {x:α} {done rest L:List α} (h:L=done++x::rest):decide ((done.length:Int)<(L.length:Int))=true:=by rw [h];simp;omega
theorem c_fewC (names:List Bytes) (ins:List Ins) (h1:names.length<=2^40) (h2:ins.length<=2^40):RetS Tryz.prog W0 5 [codeV names ins] [] (.b (fewCd names ins)) []:=by
 generalize hS:fewCd names ins=S
 unfold fewCd at hS
 unfold codeV
 refine fn_retW (vs:=[.b S]) f5ok (by simp) (by simp) fun n0 hn0=>?_
 clear hn0
 simp only [push_cast,seval,reduceEqDiff]
 intros
 rename_i k1
 refine aWP_loopW names.length (Inv:=fun m st=>∃done rest n b,names=done++rest/\m=rest.length/\(fewNs rest&&(fewIs ins&&(decide ((names.length:Int)<=30)&&decide ((ins.length:Int)<=400))))=S/\st=⟨[(1,.ref b 0),(3,.i .i64 done.length)],[(b,.box (.agg [.sl (names.map V.s),.sl (ins.map Ins.enc)]))],n⟩) ⟨_,StLe.refl,[],names,_,_,rfl,rfl,hS,rfl⟩ ?_
 clear hS
 rintro m _ ⟨done,rest,n,b,hz,rfl,hd,rfl⟩
 cases rest with
 | cons x rest=>
  have hbd:=zip_bd hz
  have e1:=strV' hz
  have e2:=zipLt hz
  have e3:done.length<names.length:=by omega
  have e4:=wrap_zip x (done:=done) (by omega)
  rw [fewNs] at hd
  simp only [push_cast,seval,reduceEqDiff,e1,e2,e3,e4]
  cases hx:decide ((x.length:Int)>100) with
  | true=>
   rw [hx] at hd
   simp only [bq,if_true,if_false,Int.reduceBEq,reduceCtorEq] at hd
   subst hd
   simp only [push_cast,seval,reduceEqDiff,e1,e2,e3,e4,hx]
   intros
   exact finW_ret (by simp [get])
  | false=>
   rw [hx] at hd
   simp only [bq,if_true,if_false,Int.reduceBEq,reduceCtorEq] at hd
   simp only [push_cast,seval,reduceEqDiff,e1,e2,e3,e4,hx]
   intros
   exact ⟨_,_,Nat.lt_succ_self _,StLe.refl,done++[x],rest,_,_,by rw [hz];simp,rfl,hd,rfl⟩
 | nil=>
  rw [fewNs,Bool.true_and] at hd
  have e1:decide ((done.length:Int)<(names.length:Int))=false:=by rw [hz];simp
  simp only [push_cast,seval,reduceEqDiff,e1]
  intros
  refine aWP_loopW ins.length (Inv:=fun m st=>∃done' rest' n',ins=done'++rest'/\m=rest'.length/\(fewIs rest'&&(decide ((names.length:Int)<=30)&&decide ((ins.length:Int)<=400)))=S/\st=⟨[(1,.ref b 0),(4,.i .i64 done'.length)],[(b,.box (.agg [.sl (names.map V.s),.sl (ins.map Ins.enc)]))],n'⟩) ⟨_,StLe.refl,[],ins,_,rfl,rfl,hd,rfl⟩ ?_
  clear hd hz e1
  rintro m _ ⟨done,rest,n,hz,rfl,hd,rfl⟩
  cases rest with
  | cons x rest=>
   have hbd:=zip_bd hz
   have e1:=insV hz
   have e2:=zipLt hz
   have e3:done.length<ins.length:=by omega
   have e4:=wrap_zip x (done:=done) (by omega)
   rw [fewIs] at hd
   simp only [push_cast,seval,reduceEqDiff,e1,e2,e3,e4]
   cases hx:decide ((x.s.length:Int)>300) with
   | true=>
    rw [hx] at hd
    simp only [bq,if_true,if_false,Int.reduceBEq,reduceCtorEq] at hd
    subst hd
    simp only [push_cast,seval,reduceEqDiff,e1,e2,e3,e4,hx]
    intros
    exact finW_ret (by simp [get])
   | false=>
    rw [hx] at hd
    simp only [bq,if_true,if_false,Int.reduceBEq,reduceCtorEq] at hd
    simp only [push_cast,seval,reduceEqDiff,e1,e2,e3,e4,hx]
    intros
    exact ⟨_,_,Nat.lt_succ_self _,StLe.refl,done++[x],rest,_,by rw [hz];simp,rfl,hd,rfl⟩
  | nil=>
   rw [fewIs,Bool.true_and] at hd
   have e1:decide ((done.length:Int)<(ins.length:Int))=false:=by rw [hz];simp
   simp only [push_cast,seval,reduceEqDiff,e1]
   repeat' (first|(((first|apply condU_s|apply gdU_t|apply gdU_f)<;>intro _h)<;>simp only [push_cast,seval,reduceEqDiff,_h])|intro _)
   all_goals (subst hd;refine finW_ret ?_;simp [get, *];done)
theorem StLe.ownBoxM {W0:World} {nt n:Nat} {env:Env} {τ:Sto} {rid:Id} {A B:List V} (e sz k:Nat):StLe W0 nt ⟨env,(rid,.box (.agg (A ++ .nil::B)))::τ,n⟩ ⟨env,((n,k),.arr e sz [])::(rid,.box (.agg (A ++ .arr (n,k)::B)))::τ,n+1⟩:=by
 intro B' a w hat
 obtain ⟨μ,H,hr,hp,hf,hold,hbn⟩:=hat
 have hnone:μ (n,k)=none:=hp.bd _ (Nat.le_refl _)
 have hmono:=setμ_mono (v:=.slice none 0 0) hnone
 have hl0:lk ((rid,Ent.box (.agg (A ++ .nil::B)))::τ) rid=some (.box (.agg (A ++ .nil::B))):=by simp [lk]
 have hne:((n,k):Id)≠rid:=by
  rintro rfl
  obtain ⟨_,hm⟩:=(hp.ents _ _ hl0).named
  rw [hnone] at hm;cases hm
 have hnew:=(hp.more (Nat.le_succ n)).new_ (n':=n+1) (w':=w) (R:=fun _=>False) ⟨rfl,rfl,rfl,Nat.le_refl _,fun _ _ _=>rfl⟩ (fun _ h=>h.elim) (σ1:=(rid,.box (.agg (A ++ .nil::B)))::τ) (fun id e h=>⟨h,fun _ _ h=>h⟩) (id:=(n,k)) (e:=.arr e sz []) (val:=.slice none 0 0) hnone (Nat.lt_succ_self _) (Nat.le_refl _) (fun bk hb=>by simp [blk] at hb)
  ⟨.slice none 0 0,[],setμ_self _ _ _,rfl,World.ownsRow_nil w _ e sz,Nat.zero_le _,(fun x hx=>by cases hx),CRel.nil_⟩
 have hl1:lk (((n,k),Ent.arr e sz [])::(rid,.box (.agg (A ++ .nil::B)))::τ) rid=some (.box (.agg (A ++ .nil::B))):=by simp [lk,hne]
 have hset:=hnew.1.set_ hl1 (w':=w) (e:=.box (.agg (A ++ .arr (n,k)::B))) ⟨rfl,rfl,rfl,Nat.le_refl _,fun _ _ _=>rfl⟩ (by
  obtain ⟨bk,vals,t,h1,h2,h3,h4⟩:=hnew.1.ents _ _ hl1
  refine ⟨bk,vals,t,h1,h2,h3,⟨⟨by have:=h4.len;simpa [cells] using this,fun j c v hc hv=>?_⟩,h4.one⟩⟩
  simp only [cells] at hc
  by_cases hj:j<A.length
  ·rw [List.getElem?_append_left hj] at hc
   exact h4.at_ j c v (by simp only [cells];rw [List.getElem?_append_left hj];exact hc) hv
  ·rw [List.getElem?_append_right (by omega)] at hc
   cases hq:j-A.length with
   | zero=>
    rw [hq] at hc
    simp only [List.getElem?_cons_zero,Option.some.injEq] at hc
    subst hc
    have:=h4.at_ j .nil v (by simp only [cells];rw [List.getElem?_append_right (by omega),hq];rfl) hv
    rw [this.nil_inv]
    exact .arr _ _ (setμ_self _ _ _) rfl
   | succ q=>
    rw [hq] at hc
    simp only [List.getElem?_cons_succ] at hc
    exact h4.at_ j c v (by simp only [cells];rw [List.getElem?_append_right (by omega),hq];exact hc) hv)
 have hu:upd (((n,k),Ent.arr e sz [])::(rid,.box (.agg (A ++ .nil::B)))::τ) rid (.box (.agg (A ++ .arr (n,k)::B)))=((n,k),.arr e sz [])::(rid,.box (.agg (A ++ .arr (n,k)::B)))::τ:=by simp [upd,hne]
 rw [hu] at hset
 refine ⟨_,H,⟨hr.size,hr.defers,fun s'=>(hr.at_ s').mono hmono (fun _ _ h=>h)⟩,hset.1,hf.trans (hnew.2.trans hset.2),fun id hid h0=>?_,Nat.le_trans hbn (Nat.le_succ _)⟩
 simp only at hbn
 rw [setμ_ne _ _ (by rintro rfl;simp at hid;omega)]
 exact hold id hid h0
theorem finBoxM {W0:World} {nt n s k:Nat} {ag:Bool} {env:Env} {σ:Sto} {id:Id} {u v:V} (h4:get env s = .ref id 0) (hu:lk σ id=some (.box u)) (φ:Id->Option (List V)) (hφ:∀i es,φ i=some es->(∃e sz,lk σ i=some (.arr e sz es))/\i≠id)
  (hv:VLe φ u v) (hl:(cells v).length=(cells u).length) (ho:u.ok=true) (ho':v.ok=true) (hs:sub v 0 k ag=some v):FinW W0 nt [.c s k ag] [v] [] .ret ⟨env,σ,n⟩:=by
 refine ⟨⟨[(s,.ref id 0)],[(id,.box v)],n⟩,StLe.weak φ (fun i es h=>?_) (fun t=>?_) (fun i e' h=>?_) (Nat.le_refl _),⟨⟨id,0,v,by simp [get],by simp [lk],hs⟩,trivial⟩,fun _ _ h=>by cases h⟩
 ·obtain ⟨a,b⟩:=hφ i es h
  exact ⟨a,by simp only [lk];rw [if_neg (fun he=>b he.symm)]⟩
 ·by_cases ht:s=t
  ·subst ht;rw [h4];simp only [get,if_true];exact .refl _
  ·simp only [get,if_neg ht];exact .any _
 ·simp only [lk] at h
  split at h
  ·rename_i he;subst he;cases h
   exact ⟨_,hu,.box _ _ hv hl ho ho'⟩
  ·cases h
theorem vle_code (names:List Bytes) (es:List V) (id:Id) (φ:Id->Option (List V)) (h:φ id=some es) (hok:∀y∈es,y.ok=true):VLe φ (.agg [.sl (names.map V.s),.arr id]) (.agg [.sl (names.map V.s),.sl es]):=by
 refine .agg _ _ rfl fun k c c' h1 h2=>?_
 match k with
 | 0=>simp at h1 h2;subst h1 h2;exact .refl _
 | 1=>
  simp at h1 h2;subst h1 h2
  refine .arr id _ _ h rfl (fun k c c' h1 h2=>?_) (fun k c c' h1 h2=>?_)
  ·rw [h1] at h2;cases h2;exact .refl _
  ·rw [h1] at h2;cases h2
   have:=hok c (List.mem_of_getElem? h1)
   exact ⟨rfl,this,this⟩
 | k+2=>simp at h1
theorem okIns (l:List Ins):∀y∈l.map Ins.enc,y.ok=true:=by
 intro y hy
 obtain ⟨z,_,rfl⟩:=List.mem_map.1 hy
 rfl
set_option maxHeartbeats 4000000 in
theorem c_own (names:List Bytes) (ins:List Ins) (h2:ins.length<=2^30):RetS Tryz.prog W0 7 [codeV names ins] [] (codeV names ins) []:=by
 unfold codeV
 refine fn_retW (vs:=[.agg [.sl (names.map V.s),.sl (ins.map Ins.enc)]]) f7ok (by simp) (by simp) fun n0 hn0=>?_
 clear hn0
 simp only [push_cast,seval,reduceEqDiff]
 intro k1 k2 k3
 generalize hm1:n0+1+k1=m1
 have hm:n0<m1:=by omega
 have f3:∀q j:Nat,((m1,j)=(n0,q))=False:=fun q j=>eq_false fun he=>by injection he with h1 h2;omega
 have f3':∀q j:Nat,((n0,q)=(m1,j))=False:=fun q j=>eq_false fun he=>of_eq_false (f3 q j) he.symm
 refine aWP_loopW ins.length (Inv:=fun m st=>∃done rest n id,ins=done++rest/\m=rest.length/\m1<id.1/\id.1<n/\st=⟨[(1,.ref (n0,1) 0),(2,.ref (n0,2) 0),(3,.ref (m1,3) 0),(4,.i .i64 done.length)],[((m1,3),.box (.agg [.sl (names.map V.s),.arr id])),(id,.arr 69 4 (done.map Ins.enc)),((n0,2),.box (.agg [.nil,.nil])),((n0,1),.box (.agg [.sl (names.map V.s),.sl (ins.map Ins.enc)]))],n⟩) ⟨_,(StLe.ownBoxM (A:=[.sl (names.map V.s)]) (B:=[]) 69 4 99).trans (StLe.sub (σ':=[((m1,3),.box (.agg [.sl (names.map V.s),.arr (m1+1+k2+1+k3,99)])),((m1+1+k2+1+k3,99),.arr 69 4 []),((n0,2),.box (.agg [.nil,.nil])),((n0,1),.box (.agg [.sl (names.map V.s),.sl (ins.map Ins.enc)]))]) ?_ ?_ (Nat.le_refl _)),[],ins,m1+1+k2+1+k3+1,(m1+1+k2+1+k3,99),rfl,rfl,by simp only;omega,by simp only;omega,rfl⟩ ?_
 ·simp [f3]<;>omega
 ·intro p hp
  simp at hp⊢
  rcases hp with h|h|h|h<;>simp [h]
 rintro m _ ⟨done,rest,n,id,hz,rfl,hi1,hi2,rfl⟩
 have d2:∀j:Nat,((m1,j)=id)=False:=fun j=>eq_false fun he=>(by have:=congrArg Prod.fst he;(try simp only at this);omega)
 have d2':∀j:Nat,(id=(m1,j))=False:=fun j=>eq_false fun he=>of_eq_false (d2 j) he.symm
 have d3:∀j:Nat,((n0,j)=id)=False:=fun j=>eq_false fun he=>(by have:=congrArg Prod.fst he;(try simp only at this);omega)
 have d3':∀j:Nat,(id=(n0,j))=False:=fun j=>eq_false fun he=>of_eq_false (d3 j) he.symm
 cases rest with
 | nil=>
  rw [List.append_nil] at hz
  subst hz
  simp only [push_cast,seval,reduceEqDiff,f3,f3',d2,d2',d3,d3',lt_self]
  intros
  refine finBoxM (id:=(n0,2)) rfl (by simp [lk,f3,d3,d3']) (fun j=>if j=id then some (ins.map Ins.enc) else none) (fun j es h=>?_) (vle_code names (ins.map Ins.enc) id _ (by simp) (okIns ins)) rfl rfl rfl rfl
  split at h
  ·rename_i he;subst he;cases h
   exact ⟨⟨69,4,by simp [lk,d2]⟩,fun he=>of_eq_false (d3' _) he⟩
  ·cases h
 | cons x rest=>
  have hbd:=zip_bd hz
  have e1:=insV hz
  have e2:=zipLt hz
  have e3:done.length<ins.length:=by omega
  have e4:=wrap_zip x (done:=done) (by omega)
  have g1:∀j q:Nat,((n,j)=(n0,q))=False:=fun j q=>eq_false fun he=>(by have:=congrArg Prod.fst he;(try simp only at this);omega)
  have g1':∀j q:Nat,((n0,q)=(n,j))=False:=fun j q=>eq_false fun he=>of_eq_false (g1 j q) he.symm
  have q1:∀k j q:Nat,((n+1+k,j)=(n0,q))=False:=fun k j q=>eq_false fun he=>by injection he with h1 h2;omega
  have q1':∀k j q:Nat,((n0,q)=(n+1+k,j))=False:=fun k j q=>eq_false fun he=>of_eq_false (q1 k j q) he.symm
  have q2:∀k j q:Nat,((n+1+k,j)=(m1,q))=False:=fun k j q=>eq_false fun he=>by injection he with h1 h2;omega
  have q2':∀k j q:Nat,((m1,q)=(n+1+k,j))=False:=fun k j q=>eq_false fun he=>of_eq_false (q2 k j q) he.symm
  have q3:∀k j:Nat,((n+1+k,j)=id)=False:=fun k j=>eq_false fun he=>by rw [<-he] at hi2;simp at hi2;omega
  have q3':∀k j:Nat,(id=(n+1+k,j))=False:=fun k j=>eq_false fun he=>of_eq_false (q3 k j) he.symm
  have hll:done.length+1<=LLim:=by unfold LLim;omega
  have hap:List.map Ins.enc done++[.agg [.i .i64 x.op,.i .i64 x.a,.i .i64 x.b,.s x.s]]=(done++[x]).map Ins.enc:=by simp [Ins.enc_eq]
  simp only [push_cast,seval,reduceEqDiff,e1,e2,e3,e4,List.length_map,f3,f3',d2,d2',d3,d3',q1,q1',q2,q2',q3,q3',eq_true hll,hap]
  intros
  rename_i k3 k4 k5
  refine ⟨_,⟨_,[((m1,3),.box (.agg [.sl (names.map V.s),.arr (n+1+k3,23)])),((n+1+k3,23),.arr 69 4 ((done++[x]).map Ins.enc)),((n0,2),.box (.agg [.nil,.nil])),((n0,1),.box (.agg [.sl (names.map V.s),.sl (ins.map Ins.enc)]))],_⟩,Nat.lt_succ_self _,StLe.sub ?_ ?_ (Nat.le_refl _),(done++[x]),rest,_,(n+1+k3,23),by rw [hz];simp,rfl,?_,?_,rfl⟩
  ·simp [q1,q2,f3]
  ·intro p hp
   simp at hp⊢
   rcases hp with h|h|h|h<;>simp [h]
  ·simp only;omega
  ·simp only;omega
theorem c_rNamed (names:List Bytes) (h1:names.length<=2^40) (hs:∀s∈names,s.length<SLim):RetS Tryz.prog W0 53 [.sl (names.map V.s)] [] (.b (namedB names)) []:=by
 generalize hS:namedB names=S
 unfold namedB at hS
 refine fn_retW (vs:=[.b S]) f53ok (by simp) (by simp) fun n0 hn0=>?_
 clear hn0
 simp only [push_cast,seval,reduceEqDiff]
 intros
 refine aWP_loopW names.length (Inv:=fun m st=>∃done rest n,names=done++rest/\m=rest.length/\(namedGo done rest&&decide ((names.length:Int)<=20))=S/\st=⟨[(0,.sl (names.map V.s)),(3,.i .i64 done.length)],[],n⟩) ⟨_,StLe.refl,[],names,_,rfl,rfl,hS,rfl⟩ ?_
 clear hS
 rintro m _ ⟨done,rest,n,hz,rfl,hd,rfl⟩
 cases rest with
 | nil=>
  rw [namedGo,Bool.true_and] at hd
  subst hd
  have e1:decide ((done.length:Int)<(names.length:Int))=false:=by rw [hz];simp
  simp only [push_cast,seval,reduceEqDiff,e1]
  intros
  exact finW_ret (by simp [get])
 | cons x rest=>
  have hbd:=zip_bd hz
  have hc1:=c_rName W0 x (hs x (by rw [hz];simp))
  have hc2:=c_In W0 done x (by omega)
  rw [namedGo] at hd
  generalize nameB x=A1 at *
  generalize done.contains x=A2 at *
  generalize decide ((names.length:Int)<=20)=A3 at *
  have hcel:∀y∈(done++x::rest).map V.s,(cells y).length=1:=fun y hy=>by obtain ⟨z,_,rfl⟩:=List.mem_map.1 hy;rfl
  simp only [push_cast,seval,reduceEqDiff,hz,wrap_zip x (done:=done) (by omega),eq_true hcel]
  repeat' (first|(((first|apply condU_s|apply gdU_t|apply gdU_f)<;>intro _h)<;>simp only [push_cast,seval,reduceEqDiff,_h,hz,wrap_zip x (done:=done) (by omega),eq_true hcel])|((first|refine c_call (by exact hc1) ?_|refine c_call (by exact hc2) ?_);simp only [push_cast,seval,reduceEqDiff,hz,wrap_zip x (done:=done) (by omega),eq_true hcel])|intro _)
  all_goals (simp only [*,bq,if_true,if_false,Int.reduceBEq,reduceCtorEq] at hd;first|(subst hd;exact finW_ret (by simp [get]))|exact ⟨_,_,Nat.lt_succ_self _,StLe.refl,done++[x],rest,_,by first|(rw [hz];simp;done)|simp,rfl,hd,rfl⟩)
def altGo (kind:Int) (keys:List Bytes) (l:List Ins):Bool:=keysGo kind keys l&&(decide (((keys.length+l.length:Nat):Int)<=20)&&(keys++l.map (·.s)).contains kOtherS)
theorem altGo_nil (kind:Int) (keys:List Bytes):altGo kind keys []=(decide ((keys.length:Int)<=20)&&keys.contains kOtherS):=by
 unfold altGo;rw [keysGo];simp
theorem altGo_cons (kind:Int) (keys:List Bytes) (x:Ins) (l:List Ins):altGo kind keys (x::l)=if !keyB kind x.s||keys.contains x.s then false else altGo kind (keys++[x.s]) l:=by
 unfold altGo
 rw [keysGo]
 split
 ·rfl
 ·have e1:keys.length+(x::l).length=(keys++[x.s]).length+l.length:=by simp;omega
  have e2:keys++(x::l).map (·.s)=(keys++[x.s])++l.map (·.s):=by simp
  rw [e1,e2]
theorem altB_go (kind:Int) (l:List Ins):altB kind l=altGo kind [] l:=by
 unfold altB altGo;simp
set_option maxHeartbeats 4000000 in
theorem c_rCases (names:List Bytes) (ins:List Ins) (i:Nat) (x0:Ins) (hx0:ins[i]? = some x0) (hl:ins.length<=2^30) (hs:∀x∈ins,x.s.length<=2^30) :
  RetS Tryz.prog W0 95 [codeV names ins,.i .i64 i] [] (.b (altB x0.b (caseL (ins.drop (i+1))))) []:=by
 have hi:i<ins.length:=(List.getElem?_eq_some_iff.1 hx0).1
 have ex0:(ins.map Ins.enc)[i]? = some (.agg [.i .i64 x0.op,.i .i64 x0.a,.i .i64 x0.b,.s x0.s]):=by rw [List.getElem?_map,hx0];rfl
 have ew:IntKind.i64.wrap ((i:Int)+1)=((ins.take (i+1)).length:Int):=by rw [wrap64 (by omega) (by omega),List.length_take,Nat.min_eq_left (by omega)];simp
 rw [altB_go]
 generalize hS:altGo x0.b [] (caseL (ins.drop (i+1)))=S
 unfold codeV
 refine fn_retW (vs:=[.b S]) f95ok (by simp) (by simp) fun n0 hn0=>?_
 clear hn0
 simp only [push_cast,seval,reduceEqDiff,ew]
 intros
 refine aWP_loopW (ins.drop (i+1)).length (Inv:=fun m st=>∃done rest n keys b0 a0,ins=done++rest/\m=rest.length/\keys.length<=done.length/\altGo x0.b keys (caseL rest)=S/\st=⟨[(1,.i .i64 i),(2,.ref (b0,2) 0),(5,.arr (a0,49)),(6,.i .i64 done.length)],[((a0,49),.arr 9 1 (keys.map V.s)),((b0,2),.box (.agg [.sl (names.map V.s),.sl (ins.map Ins.enc)]))],n⟩) ⟨_,(StLe.own (s:=5) (e:=9) (sz:=1) (k:=49) rfl).trans (StLe.envD (fun t=>?_) (Nat.le_refl _)),ins.take (i+1),ins.drop (i+1),_,[],_,_,(List.take_append_drop _ _).symm,rfl,by simp,hS,rfl⟩ ?_
 ·left
  by_cases h5:5=t
  ·subst h5;rfl
  ·simp [get,h5]
 clear hS
 rintro m _ ⟨done,rest,n,keys,b0,a0,hz,rfl,hkl,hd,rfl⟩
 cases rest with
 | nil=>
  have e1:decide ((done.length:Int)<(ins.length:Int))=false:=by rw [hz];simp
  rw [caseL,altGo_nil] at hd
  have hin:=c_InA W0 keys kOtherS (a0,49) 9 (by rw [hz] at hl;simp at hl;omega)
  generalize keys.contains kOtherS=KC at *
  simp only [push_cast,seval,reduceEqDiff,e1]
  intros
  cases h20:decide ((keys.length:Int)<=20) with
  | false=>
   rw [h20] at hd
   simp only [bq,if_true,if_false,Int.reduceBEq,reduceCtorEq] at hd
   subst hd
   simp only [push_cast,seval,reduceEqDiff,e1,h20]
   intros
   exact finW_ret (by simp [get])
  | true=>
   rw [h20] at hd
   simp only [bq,if_true,if_false,Int.reduceBEq,reduceCtorEq] at hd
   subst hd
   simp only [push_cast,seval,reduceEqDiff,e1,h20]
   intros
   refine c_calls_hd hin (by simp) ?_
   simp only [push_cast,seval,reduceEqDiff]
   intros
   exact finW_ret (by simp [get])
 | cons x rest=>
  have hbd:=zip_bd hz
  have e1:=insV hz
  have e2:=zipLt hz
  have e3:done.length<ins.length:=by omega
  have e4:=wrap_zip x (done:=done) (by omega)
  rw [caseL] at hd
  cases hop:(x.op == 11) with
  | false=>
   rw [hop] at hd
   simp only [Bool.false_eq_true,if_false] at hd
   rw [altGo_nil] at hd
   have hin:=c_InA W0 keys kOtherS (a0,49) 9 (by omega)
   generalize keys.contains kOtherS=KC at *
   simp only [push_cast,seval,reduceEqDiff,e1,e2,e3,hop]
   intros
   cases h20:decide ((keys.length:Int)<=20) with
   | false=>
    rw [h20] at hd
    simp only [bq,if_true,if_false,Int.reduceBEq,reduceCtorEq] at hd
    subst hd
    simp only [push_cast,seval,reduceEqDiff,e1,e2,e3,hop,h20]
    intros
    exact finW_ret (by simp [get])
   | true=>
    rw [h20] at hd
    simp only [bq,if_true,if_false,Int.reduceBEq,reduceCtorEq] at hd
    subst hd
    simp only [push_cast,seval,reduceEqDiff,e1,e2,e3,hop,h20]
    intros
    refine c_calls_hd hin (by simp) ?_
    simp only [push_cast,seval,reduceEqDiff]
    intros
    exact finW_ret (by simp [get])
  | true=>
   rw [hop] at hd
   simp only [if_true] at hd
   rw [altGo_cons] at hd
   have hxm:x∈ins:=by rw [hz];simp
   have hky:=c_rKey W0 x0.b x.s (hs x hxm)
   have hin:=c_InA W0 keys x.s (a0,49) 9 (by omega)
   have hll:keys.length+1<=LLim:=by unfold LLim;omega
   have hap:List.map V.s keys++[.s x.s]=(keys++[x.s]).map V.s:=by simp
   generalize keyB x0.b x.s=A1 at *
   generalize keys.contains x.s=A2 at *
   cases A1 with
   | false=>
    simp only [bq,if_true,if_false,Int.reduceBEq,reduceCtorEq] at hd
    subst hd
    simp only [push_cast,seval,reduceEqDiff,e1,e2,e3,e4,hop,ex0,hi,List.length_map,eq_true hll,hap]
    repeat' (first|(((first|apply condU_s|apply gdU_t|apply gdU_f)<;>intro _h)<;>simp only [push_cast,seval,reduceEqDiff,_h,e1,e2,e3,e4,hop,ex0,hi,List.length_map,eq_true hll,hap])|(refine c_call (by exact hky) ?_;simp only [push_cast,seval,reduceEqDiff,e1,e2,e3,e4,hop,ex0,hi,List.length_map,eq_true hll,hap])|intro _)
    all_goals exact finW_ret (by simp [get])
   | true=>
    simp only [bq,if_true,if_false,Int.reduceBEq,reduceCtorEq] at hd
    simp only [push_cast,seval,reduceEqDiff,e1,e2,e3,e4,hop,ex0,hi,List.length_map,eq_true hll,hap]
    repeat' (first|(((first|apply condU_s|apply gdU_t|apply gdU_f)<;>intro _h)<;>simp only [push_cast,seval,reduceEqDiff,_h,e1,e2,e3,e4,hop,ex0,hi,List.length_map,eq_true hll,hap])|(refine c_call (by exact hky) ?_;simp only [push_cast,seval,reduceEqDiff,e1,e2,e3,e4,hop,ex0,hi,List.length_map,eq_true hll,hap])|intro _)
    refine c_calls_hd hin (by simp) ?_
    cases A2 with
    | true=>
     simp only [bq,if_true,if_false,Int.reduceBEq,reduceCtorEq] at hd
     subst hd
     simp only [push_cast,seval,reduceEqDiff,e1,e2,e3,e4,hop,ex0,hi,List.length_map,eq_true hll,hap]
     intros
     exact finW_ret (by simp [get])
    | false=>
     simp only [bq,if_true,if_false,Int.reduceBEq,reduceCtorEq] at hd
     simp only [push_cast,seval,reduceEqDiff,e1,e2,e3,e4,hop,ex0,hi,List.length_map,eq_true hll,hap]
     intros
     exact ⟨_,_,Nat.lt_succ_self _,StLe.refl,done++[x],rest,_,keys++[x.s],_,_,by rw [hz];simp,rfl,by simp;omega,hd,rfl⟩
set_option maxHeartbeats 4000000 in
theorem rp1 (names:List Bytes) (ins:List Ins) (i:Nat) (a b:Int) (s:Bytes) (hx:ins[i]? = some ⟨1,a,b,s⟩) (hn:names.length<=2^30) (hl:ins.length<=2^30) (hs:∀x∈ins,x.s.length<=2^30) :
  RetS Tryz.prog W0 54 [codeV names ins,.i .i64 i] [] (.b (propB names.length ins i ⟨1,a,b,s⟩)) []:=by
 have hi:i<ins.length:=(List.getElem?_eq_some_iff.1 hx).1
 have ex:(ins.map Ins.enc)[i]? = some (.agg [.i .i64 1,.i .i64 a,.i .i64 b,.s s]):=by rw [List.getElem?_map,hx];rfl
 have e1:decide ((i:Int)<0)=false:=by simp
 have e2:decide ((i:Int)>=(ins.length:Int))=false:=by simp;omega
 have hsb:s.length<=2^30:=hs _ (List.mem_of_getElem? hx)
 generalize hS:propB names.length ins i ⟨1,a,b,s⟩=S
 simp only [propB,argB,Int.reduceBEq,Int.reduceBNe,bq,if_true,if_false,Int.reduceBEq,reduceCtorEq,Bool.or_false,Bool.or_true] at hS
 unfold codeV
 refine fn_retW (vs:=[.b S]) f54ok (by simp) (by simp) fun n0 hn0=>?_
 clear hn0
 simp only [push_cast,seval,reduceEqDiff,ex,e1,e2,hi,List.length_map,Int.reduceBEq,Int.reduceBNe]
 repeat' (first|(((first|apply condU_s|apply gdU_t|apply gdU_f)<;>intro _h)<;>simp only [push_cast,seval,reduceEqDiff,_h,ex,e1,e2,hi,List.length_map,Int.reduceBEq,Int.reduceBNe])|intro _)
 all_goals subst hS
 all_goals (refine finW_ret ?_;simp only [get_cons,if_true,if_false, *,bq,reduceEqDiff];done)
set_option maxHeartbeats 4000000 in
theorem rp2 (names:List Bytes) (ins:List Ins) (i:Nat) (a b:Int) (s:Bytes) (hx:ins[i]? = some ⟨2,a,b,s⟩) (hn:names.length<=2^30) (hl:ins.length<=2^30) (hs:∀x∈ins,x.s.length<=2^30) :
  RetS Tryz.prog W0 54 [codeV names ins,.i .i64 i] [] (.b (propB names.length ins i ⟨2,a,b,s⟩)) []:=by
 have hi:i<ins.length:=(List.getElem?_eq_some_iff.1 hx).1
 have ex:(ins.map Ins.enc)[i]? = some (.agg [.i .i64 2,.i .i64 a,.i .i64 b,.s s]):=by rw [List.getElem?_map,hx];rfl
 have e1:decide ((i:Int)<0)=false:=by simp
 have e2:decide ((i:Int)>=(ins.length:Int))=false:=by simp;omega
 have hsb:s.length<=2^30:=hs _ (List.mem_of_getElem? hx)
 have hc1:=c_rName W0 s (by unfold SLim;omega)
 generalize hS:propB names.length ins i ⟨2,a,b,s⟩=S
 simp only [propB,argB,Int.reduceBEq,Int.reduceBNe,bq,if_true,if_false,Int.reduceBEq,reduceCtorEq,Bool.or_false,Bool.or_true] at hS
 generalize nameB s=A1 at *
 unfold codeV
 refine fn_retW (vs:=[.b S]) f54ok (by simp) (by simp) fun n0 hn0=>?_
 clear hn0
 simp only [push_cast,seval,reduceEqDiff,ex,e1,e2,hi,List.length_map,Int.reduceBEq,Int.reduceBNe]
 repeat' (first|(((first|apply condU_s|apply gdU_t|apply gdU_f)<;>intro _h)<;>simp only [push_cast,seval,reduceEqDiff,_h,ex,e1,e2,hi,List.length_map,Int.reduceBEq,Int.reduceBNe])|(refine c_call (by exact hc1) ?_;simp only [push_cast,seval,reduceEqDiff,ex,e1,e2,hi,List.length_map,Int.reduceBEq,Int.reduceBNe])|intro _)
 all_goals subst hS
 all_goals (refine finW_ret ?_;simp only [get_cons,if_true,if_false, *,bq,reduceEqDiff];done)
set_option maxHeartbeats 4000000 in
theorem rp3 (names:List Bytes) (ins:List Ins) (i:Nat) (a b:Int) (s:Bytes) (hx:ins[i]? = some ⟨3,a,b,s⟩) (hn:names.length<=2^30) (hl:ins.length<=2^30) (hs:∀x∈ins,x.s.length<=2^30) :
  RetS Tryz.prog W0 54 [codeV names ins,.i .i64 i] [] (.b (propB names.length ins i ⟨3,a,b,s⟩)) []:=by
 have hi:i<ins.length:=(List.getElem?_eq_some_iff.1 hx).1
 have ex:(ins.map Ins.enc)[i]? = some (.agg [.i .i64 3,.i .i64 a,.i .i64 b,.s s]):=by rw [List.getElem?_map,hx];rfl
 have e1:decide ((i:Int)<0)=false:=by simp
 have e2:decide ((i:Int)>=(ins.length:Int))=false:=by simp;omega
 have hsb:s.length<=2^30:=hs _ (List.mem_of_getElem? hx)
 have hc1:=c_rName W0 s (by unfold SLim;omega)
 generalize hS:propB names.length ins i ⟨3,a,b,s⟩=S
 simp only [propB,argB,Int.reduceBEq,Int.reduceBNe,bq,if_true,if_false,Int.reduceBEq,reduceCtorEq,Bool.or_false,Bool.or_true] at hS
 generalize nameB s=A1 at *
 unfold codeV
 refine fn_retW (vs:=[.b S]) f54ok (by simp) (by simp) fun n0 hn0=>?_
 clear hn0
 simp only [push_cast,seval,reduceEqDiff,ex,e1,e2,hi,List.length_map,Int.reduceBEq,Int.reduceBNe]
 repeat' (first|(((first|apply condU_s|apply gdU_t|apply gdU_f)<;>intro _h)<;>simp only [push_cast,seval,reduceEqDiff,_h,ex,e1,e2,hi,List.length_map,Int.reduceBEq,Int.reduceBNe])|(refine c_call (by exact hc1) ?_;simp only [push_cast,seval,reduceEqDiff,ex,e1,e2,hi,List.length_map,Int.reduceBEq,Int.reduceBNe])|intro _)
 all_goals subst hS
 all_goals (refine finW_ret ?_;simp only [get_cons,if_true,if_false, *,bq,reduceEqDiff];done)
set_option maxHeartbeats 4000000 in
theorem rp4 (names:List Bytes) (ins:List Ins) (i:Nat) (a b:Int) (s:Bytes) (hx:ins[i]? = some ⟨4,a,b,s⟩) (hn:names.length<=2^30) (hl:ins.length<=2^30) (hs:∀x∈ins,x.s.length<=2^30) :
  RetS Tryz.prog W0 54 [codeV names ins,.i .i64 i] [] (.b (propB names.length ins i ⟨4,a,b,s⟩)) []:=by
 have hi:i<ins.length:=(List.getElem?_eq_some_iff.1 hx).1
 have ex:(ins.map Ins.enc)[i]? = some (.agg [.i .i64 4,.i .i64 a,.i .i64 b,.s s]):=by rw [List.getElem?_map,hx];rfl
 have e1:decide ((i:Int)<0)=false:=by simp
 have e2:decide ((i:Int)>=(ins.length:Int))=false:=by simp;omega
 have hsb:s.length<=2^30:=hs _ (List.mem_of_getElem? hx)
 have hc1:=c_rName W0 s (by unfold SLim;omega)
 generalize hS:propB names.length ins i ⟨4,a,b,s⟩=S
 simp only [propB,argB,Int.reduceBEq,Int.reduceBNe,bq,if_true,if_false,Int.reduceBEq,reduceCtorEq,Bool.or_false,Bool.or_true] at hS
 generalize nameB s=A1 at *
 unfold codeV
 refine fn_retW (vs:=[.b S]) f54ok (by simp) (by simp) fun n0 hn0=>?_
 clear hn0
 simp only [push_cast,seval,reduceEqDiff,ex,e1,e2,hi,List.length_map,Int.reduceBEq,Int.reduceBNe]
 repeat' (first|(((first|apply condU_s|apply gdU_t|apply gdU_f)<;>intro _h)<;>simp only [push_cast,seval,reduceEqDiff,_h,ex,e1,e2,hi,List.length_map,Int.reduceBEq,Int.reduceBNe])|(refine c_call (by exact hc1) ?_;simp only [push_cast,seval,reduceEqDiff,ex,e1,e2,hi,List.length_map,Int.reduceBEq,Int.reduceBNe])|intro _)
 all_goals subst hS
 all_goals (refine finW_ret ?_;simp only [get_cons,if_true,if_false, *,bq,reduceEqDiff];done)
set_option maxHeartbeats 4000000 in
theorem rp5 (names:List Bytes) (ins:List Ins) (i:Nat) (a b:Int) (s:Bytes) (hx:ins[i]? = some ⟨5,a,b,s⟩) (hn:names.length<=2^30) (hl:ins.length<=2^30) (hs:∀x∈ins,x.s.length<=2^30) :
  RetS Tryz.prog W0 54 [codeV names ins,.i .i64 i] [] (.b (propB names.length ins i ⟨5,a,b,s⟩)) []:=by
 have hi:i<ins.length:=(List.getElem?_eq_some_iff.1 hx).1
 have ex:(ins.map Ins.enc)[i]? = some (.agg [.i .i64 5,.i .i64 a,.i .i64 b,.s s]):=by rw [List.getElem?_map,hx];rfl
 have e1:decide ((i:Int)<0)=false:=by simp
 have e2:decide ((i:Int)>=(ins.length:Int))=false:=by simp;omega
 have hsb:s.length<=2^30:=hs _ (List.mem_of_getElem? hx)
 generalize hS:propB names.length ins i ⟨5,a,b,s⟩=S
 simp only [propB,argB,Int.reduceBEq,Int.reduceBNe,bq,if_true,if_false,Int.reduceBEq,reduceCtorEq,Bool.or_false,Bool.or_true] at hS
 unfold codeV
 refine fn_retW (vs:=[.b S]) f54ok (by simp) (by simp) fun n0 hn0=>?_
 clear hn0
 simp only [push_cast,seval,reduceEqDiff,ex,e1,e2,hi,List.length_map,Int.reduceBEq,Int.reduceBNe]
 repeat' (first|(((first|apply condU_s|apply gdU_t|apply gdU_f)<;>intro _h)<;>simp only [push_cast,seval,reduceEqDiff,_h,ex,e1,e2,hi,List.length_map,Int.reduceBEq,Int.reduceBNe])|intro _)
 all_goals subst hS
 all_goals (refine finW_ret ?_;simp only [get_cons,if_true,if_false, *,bq,reduceEqDiff];done)
set_option maxHeartbeats 4000000 in
theorem rp6 (names:List Bytes) (ins:List Ins) (i:Nat) (a b:Int) (s:Bytes) (hx:ins[i]? = some ⟨6,a,b,s⟩) (hn:names.length<=2^30) (hl:ins.length<=2^30) (hs:∀x∈ins,x.s.length<=2^30) :
  RetS Tryz.prog W0 54 [codeV names ins,.i .i64 i] [] (.b (propB names.length ins i ⟨6,a,b,s⟩)) []:=by
 have hi:i<ins.length:=(List.getElem?_eq_some_iff.1 hx).1
 have ex:(ins.map Ins.enc)[i]? = some (.agg [.i .i64 6,.i .i64 a,.i .i64 b,.s s]):=by rw [List.getElem?_map,hx];rfl
 have e1:decide ((i:Int)<0)=false:=by simp
 have e2:decide ((i:Int)>=(ins.length:Int))=false:=by simp;omega
 have hsb:s.length<=2^30:=hs _ (List.mem_of_getElem? hx)
 generalize hS:propB names.length ins i ⟨6,a,b,s⟩=S
 simp only [propB,argB,Int.reduceBEq,Int.reduceBNe,bq,if_true,if_false,Int.reduceBEq,reduceCtorEq,Bool.or_false,Bool.or_true] at hS
 unfold codeV
 refine fn_retW (vs:=[.b S]) f54ok (by simp) (by simp) fun n0 hn0=>?_
 clear hn0
 simp only [push_cast,seval,reduceEqDiff,ex,e1,e2,hi,List.length_map,Int.reduceBEq,Int.reduceBNe]
 repeat' (first|(((first|apply condU_s|apply gdU_t|apply gdU_f)<;>intro _h)<;>simp only [push_cast,seval,reduceEqDiff,_h,ex,e1,e2,hi,List.length_map,Int.reduceBEq,Int.reduceBNe])|intro _)
 all_goals subst hS
 all_goals (refine finW_ret ?_;simp only [get_cons,if_true,if_false, *,bq,reduceEqDiff];done)
set_option maxHeartbeats 4000000 in
theorem rp7 (names:List Bytes) (ins:List Ins) (i:Nat) (a b:Int) (s:Bytes) (hx:ins[i]? = some ⟨7,a,b,s⟩) (hn:names.length<=2^30) (hl:ins.length<=2^30) (hs:∀x∈ins,x.s.length<=2^30) :
  RetS Tryz.prog W0 54 [codeV names ins,.i .i64 i] [] (.b (propB names.length ins i ⟨7,a,b,s⟩)) []:=by
 have hi:i<ins.length:=(List.getElem?_eq_some_iff.1 hx).1
 have ex:(ins.map Ins.enc)[i]? = some (.agg [.i .i64 7,.i .i64 a,.i .i64 b,.s s]):=by rw [List.getElem?_map,hx];rfl
 have e1:decide ((i:Int)<0)=false:=by simp
 have e2:decide ((i:Int)>=(ins.length:Int))=false:=by simp;omega
 have hsb:s.length<=2^30:=hs _ (List.mem_of_getElem? hx)
 have hc1:=c_rName W0 s (by unfold SLim;omega)
 generalize hS:propB names.length ins i ⟨7,a,b,s⟩=S
 simp only [propB,argB,Int.reduceBEq,Int.reduceBNe,bq,if_true,if_false,Int.reduceBEq,reduceCtorEq,Bool.or_false,Bool.or_true] at hS
 generalize nameB s=A1 at *
 unfold codeV
 refine fn_retW (vs:=[.b S]) f54ok (by simp) (by simp) fun n0 hn0=>?_
 clear hn0
 simp only [push_cast,seval,reduceEqDiff,ex,e1,e2,hi,List.length_map,Int.reduceBEq,Int.reduceBNe]
 repeat' (first|(((first|apply condU_s|apply gdU_t|apply gdU_f)<;>intro _h)<;>simp only [push_cast,seval,reduceEqDiff,_h,ex,e1,e2,hi,List.length_map,Int.reduceBEq,Int.reduceBNe])|(refine c_call (by exact hc1) ?_;simp only [push_cast,seval,reduceEqDiff,ex,e1,e2,hi,List.length_map,Int.reduceBEq,Int.reduceBNe])|intro _)
 all_goals subst hS
 all_goals (refine finW_ret ?_;simp only [get_cons,if_true,if_false, *,bq,reduceEqDiff];done)
set_option maxHeartbeats 4000000 in
theorem rp9 (names:List Bytes) (ins:List Ins) (i:Nat) (a b:Int) (s:Bytes) (hx:ins[i]? = some ⟨9,a,b,s⟩) (hn:names.length<=2^30) (hl:ins.length<=2^30) (hs:∀x∈ins,x.s.length<=2^30) :
  RetS Tryz.prog W0 54 [codeV names ins,.i .i64 i] [] (.b (propB names.length ins i ⟨9,a,b,s⟩)) []:=by
 have hi:i<ins.length:=(List.getElem?_eq_some_iff.1 hx).1
 have ex:(ins.map Ins.enc)[i]? = some (.agg [.i .i64 9,.i .i64 a,.i .i64 b,.s s]):=by rw [List.getElem?_map,hx];rfl
 have e1:decide ((i:Int)<0)=false:=by simp
 have e2:decide ((i:Int)>=(ins.length:Int))=false:=by simp;omega
 have hsb:s.length<=2^30:=hs _ (List.mem_of_getElem? hx)
 have hc1:=c_rName W0 s (by unfold SLim;omega)
 generalize hS:propB names.length ins i ⟨9,a,b,s⟩=S
 simp only [propB,argB,Int.reduceBEq,Int.reduceBNe,bq,if_true,if_false,Int.reduceBEq,reduceCtorEq,Bool.or_false,Bool.or_true] at hS
 generalize nameB s=A1 at *
 unfold codeV
 refine fn_retW (vs:=[.b S]) f54ok (by simp) (by simp) fun n0 hn0=>?_
 clear hn0
 simp only [push_cast,seval,reduceEqDiff,ex,e1,e2,hi,List.length_map,Int.reduceBEq,Int.reduceBNe]
 repeat' (first|(((first|apply condU_s|apply gdU_t|apply gdU_f)<;>intro _h)<;>simp only [push_cast,seval,reduceEqDiff,_h,ex,e1,e2,hi,List.length_map,Int.reduceBEq,Int.reduceBNe])|(refine c_call (by exact hc1) ?_;simp only [push_cast,seval,reduceEqDiff,ex,e1,e2,hi,List.length_map,Int.reduceBEq,Int.reduceBNe])|intro _)
 all_goals subst hS
 all_goals (refine finW_ret ?_;simp only [get_cons,if_true,if_false, *,bq,reduceEqDiff];done)
set_option maxHeartbeats 4000000 in
theorem rp8 (names:List Bytes) (ins:List Ins) (i:Nat) (a b:Int) (s:Bytes) (hx:ins[i]? = some ⟨8,a,b,s⟩) (hn:names.length<=2^30) (hl:ins.length<=2^30) (hs:∀x∈ins,x.s.length<=2^30) :
  RetS Tryz.prog W0 54 [codeV names ins,.i .i64 i] [] (.b (propB names.length ins i ⟨8,a,b,s⟩)) []:=by
 have hi:i<ins.length:=(List.getElem?_eq_some_iff.1 hx).1
 have ex:(ins.map Ins.enc)[i]? = some (.agg [.i .i64 8,.i .i64 a,.i .i64 b,.s s]):=by rw [List.getElem?_map,hx];rfl
 have e1:decide ((i:Int)<0)=false:=by simp
 have e2:decide ((i:Int)>=(ins.length:Int))=false:=by simp;omega
 have hsb:s.length<=2^30:=hs _ (List.mem_of_getElem? hx)
 have hc2:=c_rSkeleton W0 s (by unfold SLim;omega)
 generalize hS:propB names.length ins i ⟨8,a,b,s⟩=S
 simp only [propB,argB,Int.reduceBEq,Int.reduceBNe,bq,if_true,if_false,Int.reduceBEq,reduceCtorEq,Bool.or_false,Bool.or_true] at hS
 generalize skeletonB s=A1 at *
 unfold codeV
 refine fn_retW (vs:=[.b S]) f54ok (by simp) (by simp) fun n0 hn0=>?_
 clear hn0
 simp only [push_cast,seval,reduceEqDiff,ex,e1,e2,hi,List.length_map,Int.reduceBEq,Int.reduceBNe]
 repeat' (first|(((first|apply condU_s|apply gdU_t|apply gdU_f)<;>intro _h)<;>simp only [push_cast,seval,reduceEqDiff,_h,ex,e1,e2,hi,List.length_map,Int.reduceBEq,Int.reduceBNe])|(refine c_call (by exact hc2) ?_;simp only [push_cast,seval,reduceEqDiff,ex,e1,e2,hi,List.length_map,Int.reduceBEq,Int.reduceBNe])|intro _)
 all_goals subst hS
 all_goals (refine finW_ret ?_;simp only [get_cons,if_true,if_false, *,bq,reduceEqDiff];done)
set_option maxHeartbeats 4000000 in
theorem rp10 (names:List Bytes) (ins:List Ins) (i:Nat) (a b:Int) (s:Bytes) (hx:ins[i]? = some ⟨10,a,b,s⟩) (hn:names.length<=2^30) (hl:ins.length<=2^30) (hs:∀x∈ins,x.s.length<=2^30) :
  RetS Tryz.prog W0 54 [codeV names ins,.i .i64 i] [] (.b (propB names.length ins i ⟨10,a,b,s⟩)) []:=by
 have hi:i<ins.length:=(List.getElem?_eq_some_iff.1 hx).1
 have ex:(ins.map Ins.enc)[i]? = some (.agg [.i .i64 10,.i .i64 a,.i .i64 b,.s s]):=by rw [List.getElem?_map,hx];rfl
 have e1:decide ((i:Int)<0)=false:=by simp
 have e2:decide ((i:Int)>=(ins.length:Int))=false:=by simp;omega
 have hsb:s.length<=2^30:=hs _ (List.mem_of_getElem? hx)
 have hc1:=c_rSel W0 b
 have hc2:=c_rCases W0 names ins i _ hx hl hs
 generalize hS:propB names.length ins i ⟨10,a,b,s⟩=S
 simp only [propB,argB,Int.reduceBEq,Int.reduceBNe,bq,if_true,if_false,Int.reduceBEq,reduceCtorEq,Bool.or_false,Bool.or_true] at hS
 generalize selB b=A1 at *
 generalize altB b (caseL (List.drop (i+1) ins))=A2 at *
 unfold codeV at *
 refine fn_retW (vs:=[.b S]) f54ok (by simp) (by simp) fun n0 hn0=>?_
 clear hn0
 simp only [push_cast,seval,reduceEqDiff,ex,e1,e2,hi,List.length_map,Int.reduceBEq,Int.reduceBNe]
 repeat' (first|(((first|apply condU_s|apply gdU_t|apply gdU_f)<;>intro _h)<;>simp only [push_cast,seval,reduceEqDiff,_h,ex,e1,e2,hi,List.length_map,Int.reduceBEq,Int.reduceBNe])|((first|refine c_call (by exact hc1) ?_|refine c_call (by exact hc2) ?_);simp only [push_cast,seval,reduceEqDiff,ex,e1,e2,hi,List.length_map,Int.reduceBEq,Int.reduceBNe])|intro _)
 all_goals subst hS
 all_goals (refine finW_ret ?_;simp only [get_cons,if_true,if_false, *,bq,reduceEqDiff];done)
set_option maxHeartbeats 4000000 in
theorem rp11 (names:List Bytes) (ins:List Ins) (i:Nat) (a b:Int) (s:Bytes) (hx:ins[i]? = some ⟨11,a,b,s⟩) (hn:names.length<=2^30) (hl:ins.length<=2^30) (hs:∀x∈ins,x.s.length<=2^30) :
  RetS Tryz.prog W0 54 [codeV names ins,.i .i64 i] [] (.b (propB names.length ins i ⟨11,a,b,s⟩)) []:=by
 have hi:i<ins.length:=(List.getElem?_eq_some_iff.1 hx).1
 have ex:(ins.map Ins.enc)[i]? = some (.agg [.i .i64 11,.i .i64 a,.i .i64 b,.s s]):=by rw [List.getElem?_map,hx];rfl
 have e1:decide ((i:Int)<0)=false:=by simp
 have e2:decide ((i:Int)>=(ins.length:Int))=false:=by simp;omega
 have hsb:s.length<=2^30:=hs _ (List.mem_of_getElem? hx)
 generalize hS:propB names.length ins i ⟨11,a,b,s⟩=S
 simp only [propB,tgtB,Int.reduceBEq,Int.reduceBNe,bq,if_true,if_false,Int.reduceBEq,reduceCtorEq,Bool.or_false,Bool.or_true] at hS
 unfold codeV
 cases h1:decide (a<=(i:Int)) with
 | true=>
  rw [h1] at hS
  simp only [bq,if_true,if_false,Int.reduceBEq,reduceCtorEq] at hS
  subst hS
  refine fn_retW (vs:=[.b false]) f54ok (by simp) (by simp) fun n0 hn0=>?_
  clear hn0
  simp only [push_cast,seval,reduceEqDiff,ex,e1,e2,hi,List.length_map,Int.reduceBEq,Int.reduceBNe,h1]
  repeat' (first|(((first|apply condU_s|apply gdU_t|apply gdU_f)<;>intro _h)<;>simp only [push_cast,seval,reduceEqDiff,_h,ex,e1,e2,hi,List.length_map,Int.reduceBEq,Int.reduceBNe,h1])|intro _)
  all_goals (refine finW_ret ?_;simp only [get_cons,if_true,if_false, *,bq,reduceEqDiff];done)
 | false=>
 cases h2:decide (a>=(ins.length:Int)) with
 | true=>
  rw [h1,h2] at hS
  simp only [bq,if_true,if_false,Int.reduceBEq,reduceCtorEq] at hS
  subst hS
  refine fn_retW (vs:=[.b false]) f54ok (by simp) (by simp) fun n0 hn0=>?_
  clear hn0
  simp only [push_cast,seval,reduceEqDiff,ex,e1,e2,hi,List.length_map,Int.reduceBEq,Int.reduceBNe,h1,h2]
  repeat' (first|(((first|apply condU_s|apply gdU_t|apply gdU_f)<;>intro _h)<;>simp only [push_cast,seval,reduceEqDiff,_h,ex,e1,e2,hi,List.length_map,Int.reduceBEq,Int.reduceBNe,h1,h2])|intro _)
  all_goals (refine finW_ret ?_;simp only [get_cons,if_true,if_false, *,bq,reduceEqDiff];done)
 | false=>
 have ha:0<=a/\a.toNat<ins.length:=by simp at h1 h2;omega
 have ha0:(0<=a)=True:=eq_true ha.1
 obtain ⟨y,hy⟩:∃y,ins[a.toNat]? = some y:=⟨_,List.getElem?_eq_getElem ha.2⟩
 have ey:(ins.map Ins.enc)[a.toNat]? = some (.agg [.i .i64 y.op,.i .i64 y.a,.i .i64 y.b,.s y.s]):=by rw [List.getElem?_map,hy];rfl
 have eo:opAt ins a.toNat=y.op:=by unfold opAt;rw [hy]
 have hal:=ha.2
 rw [h1,h2,eo] at hS
 simp only [bq,if_true,if_false,Int.reduceBEq,reduceCtorEq] at hS
 have hpv:(decide ((i:Int)>0)=false)\/(∃y:Ins,decide ((i:Int)>0)=true/\(ins.map Ins.enc)[(IntKind.i64.wrap ((i:Int)-1)).toNat]? = some (.agg [.i .i64 y.op,.i .i64 y.a,.i .i64 y.b,.s y.s])/\(0<=IntKind.i64.wrap ((i:Int)-1))=True/\(IntKind.i64.wrap ((i:Int)-1)).toNat<ins.length/\opAt ins (i-1)=y.op):=by
  rcases Nat.eq_zero_or_pos i with h0|h0
  ·exact .inl (by simp [h0])
  ·have hw:IntKind.i64.wrap ((i:Int)-1)=((i-1:Nat):Int):=by rw [wrap64 (by omega) (by omega)];omega
   have hlt:i-1<ins.length:=by omega
   refine .inr ⟨ins[i-1],by simp;omega,?_,?_,?_,?_⟩
   ·rw [hw,Int.toNat_natCast,List.getElem?_map,List.getElem?_eq_getElem hlt];rfl
   ·rw [hw];simp
   ·rw [hw,Int.toNat_natCast];exact hlt
   ·unfold opAt;rw [List.getElem?_eq_getElem hlt]
 rcases hpv with p1|⟨z,p1,p2,p3,p4,p5⟩
 ·rw [p1] at hS
  simp only [bq,if_true,if_false,Int.reduceBEq,reduceCtorEq,Bool.and_false] at hS
  refine fn_retW (vs:=[.b S]) f54ok (by simp) (by simp) fun n0 hn0=>?_
  clear hn0
  simp only [push_cast,seval,reduceEqDiff,ex,e1,e2,hi,List.length_map,Int.reduceBEq,Int.reduceBNe,h1,h2,ey,ha0,hal,p1]
  repeat' (first|(((first|apply condU_s|apply gdU_t|apply gdU_f)<;>intro _h)<;>simp only [push_cast,seval,reduceEqDiff,_h,ex,e1,e2,hi,List.length_map,Int.reduceBEq,Int.reduceBNe,h1,h2,ey,ha0,hal,p1])|intro _)
  all_goals subst hS
  all_goals (refine finW_ret ?_;simp only [get_cons,if_true,if_false, *,bq,reduceEqDiff];done)
 ·rw [p1,p5] at hS
  simp only [bq,if_true,if_false,Int.reduceBEq,reduceCtorEq] at hS
  refine fn_retW (vs:=[.b S]) f54ok (by simp) (by simp) fun n0 hn0=>?_
  clear hn0
  simp only [push_cast,seval,reduceEqDiff,ex,e1,e2,hi,List.length_map,Int.reduceBEq,Int.reduceBNe,h1,h2,ey,ha0,hal,p1,p2,p3,p4]
  repeat' (first|(((first|apply condU_s|apply gdU_t|apply gdU_f)<;>intro _h)<;>simp only [push_cast,seval,reduceEqDiff,_h,ex,e1,e2,hi,List.length_map,Int.reduceBEq,Int.reduceBNe,h1,h2,ey,ha0,hal,p1,p2,p3,p4])|intro _)
  all_goals subst hS
  all_goals (refine finW_ret ?_;simp only [get_cons,if_true,if_false, *,bq,reduceEqDiff];done)
set_option maxHeartbeats 4000000 in
theorem rp12 (names:List Bytes) (ins:List Ins) (i:Nat) (a b:Int) (s:Bytes) (hx:ins[i]? = some ⟨12,a,b,s⟩) (hn:names.length<=2^30) (hl:ins.length<=2^30) (hs:∀x∈ins,x.s.length<=2^30) :
  RetS Tryz.prog W0 54 [codeV names ins,.i .i64 i] [] (.b (propB names.length ins i ⟨12,a,b,s⟩)) []:=by
 have hi:i<ins.length:=(List.getElem?_eq_some_iff.1 hx).1
 have ex:(ins.map Ins.enc)[i]? = some (.agg [.i .i64 12,.i .i64 a,.i .i64 b,.s s]):=by rw [List.getElem?_map,hx];rfl
 have e1:decide ((i:Int)<0)=false:=by simp
 have e2:decide ((i:Int)>=(ins.length:Int))=false:=by simp;omega
 have hsb:s.length<=2^30:=hs _ (List.mem_of_getElem? hx)
 generalize hS:propB names.length ins i ⟨12,a,b,s⟩=S
 simp only [propB,tgtB,Int.reduceBEq,Int.reduceBNe,bq,if_true,if_false,Int.reduceBEq,reduceCtorEq,Bool.or_false,Bool.or_true] at hS
 unfold codeV
 cases h1:decide (a<=(i:Int)) with
 | true=>
  rw [h1] at hS
  simp only [bq,if_true,if_false,Int.reduceBEq,reduceCtorEq] at hS
  subst hS
  refine fn_retW (vs:=[.b false]) f54ok (by simp) (by simp) fun n0 hn0=>?_
  clear hn0
  simp only [push_cast,seval,reduceEqDiff,ex,e1,e2,hi,List.length_map,Int.reduceBEq,Int.reduceBNe,h1]
  repeat' (first|(((first|apply condU_s|apply gdU_t|apply gdU_f)<;>intro _h)<;>simp only [push_cast,seval,reduceEqDiff,_h,ex,e1,e2,hi,List.length_map,Int.reduceBEq,Int.reduceBNe,h1])|intro _)
  all_goals (refine finW_ret ?_;simp only [get_cons,if_true,if_false, *,bq,reduceEqDiff];done)
 | false=>
 cases h2:decide (a>=(ins.length:Int)) with
 | true=>
  rw [h1,h2] at hS
  simp only [bq,if_true,if_false,Int.reduceBEq,reduceCtorEq] at hS
  subst hS
  refine fn_retW (vs:=[.b false]) f54ok (by simp) (by simp) fun n0 hn0=>?_
  clear hn0
  simp only [push_cast,seval,reduceEqDiff,ex,e1,e2,hi,List.length_map,Int.reduceBEq,Int.reduceBNe,h1,h2]
  repeat' (first|(((first|apply condU_s|apply gdU_t|apply gdU_f)<;>intro _h)<;>simp only [push_cast,seval,reduceEqDiff,_h,ex,e1,e2,hi,List.length_map,Int.reduceBEq,Int.reduceBNe,h1,h2])|intro _)
  all_goals (refine finW_ret ?_;simp only [get_cons,if_true,if_false, *,bq,reduceEqDiff];done)
 | false=>
 have ha:0<=a/\a.toNat<ins.length:=by simp at h1 h2;omega
 have ha0:(0<=a)=True:=eq_true ha.1
 obtain ⟨y,hy⟩:∃y,ins[a.toNat]? = some y:=⟨_,List.getElem?_eq_getElem ha.2⟩
 have ey:(ins.map Ins.enc)[a.toNat]? = some (.agg [.i .i64 y.op,.i .i64 y.a,.i .i64 y.b,.s y.s]):=by rw [List.getElem?_map,hy];rfl
 have eo:opAt ins a.toNat=y.op:=by unfold opAt;rw [hy]
 have hal:=ha.2
 rw [h1,h2,eo] at hS
 simp only [bq,if_true,if_false,Int.reduceBEq,reduceCtorEq] at hS
 refine fn_retW (vs:=[.b S]) f54ok (by simp) (by simp) fun n0 hn0=>?_
 clear hn0
 simp only [push_cast,seval,reduceEqDiff,ex,e1,e2,hi,List.length_map,Int.reduceBEq,Int.reduceBNe,h1,h2,ey,ha0,hal]
 repeat' (first|(((first|apply condU_s|apply gdU_t|apply gdU_f)<;>intro _h)<;>simp only [push_cast,seval,reduceEqDiff,_h,ex,e1,e2,hi,List.length_map,Int.reduceBEq,Int.reduceBNe,h1,h2,ey,ha0,hal])|intro _)
 all_goals subst hS
 all_goals (refine finW_ret ?_;simp only [get_cons,if_true,if_false, *,bq,reduceEqDiff];done)
set_option maxHeartbeats 4000000 in
theorem rp13 (names:List Bytes) (ins:List Ins) (i:Nat) (a b:Int) (s:Bytes) (hx:ins[i]? = some ⟨13,a,b,s⟩) (hn:names.length<=2^30) (hl:ins.length<=2^30) (hs:∀x∈ins,x.s.length<=2^30) :
  RetS Tryz.prog W0 54 [codeV names ins,.i .i64 i] [] (.b (propB names.length ins i ⟨13,a,b,s⟩)) []:=by
 have hi:i<ins.length:=(List.getElem?_eq_some_iff.1 hx).1
 have ex:(ins.map Ins.enc)[i]? = some (.agg [.i .i64 13,.i .i64 a,.i .i64 b,.s s]):=by rw [List.getElem?_map,hx];rfl
 have e1:decide ((i:Int)<0)=false:=by simp
 have e2:decide ((i:Int)>=(ins.length:Int))=false:=by simp;omega
 have hsb:s.length<=2^30:=hs _ (List.mem_of_getElem? hx)
 have hw:IntKind.i64.wrap ((ins.length:Int)-1)=(ins.length:Int)-1:=wrap64 (by omega) (by omega)
 generalize hS:propB names.length ins i ⟨13,a,b,s⟩=S
 simp only [propB,argB,Int.reduceBEq,Int.reduceBNe,bq,if_true,if_false,Int.reduceBEq,reduceCtorEq,Bool.or_false,Bool.or_true] at hS
 unfold codeV
 refine fn_retW (vs:=[.b S]) f54ok (by simp) (by simp) fun n0 hn0=>?_
 clear hn0
 simp only [push_cast,seval,reduceEqDiff,ex,e1,e2,hi,hw,List.length_map,Int.reduceBEq,Int.reduceBNe]
 repeat' (first|(((first|apply condU_s|apply gdU_t|apply gdU_f)<;>intro _h)<;>simp only [push_cast,seval,reduceEqDiff,_h,ex,e1,e2,hi,hw,List.length_map,Int.reduceBEq,Int.reduceBNe])|intro _)
 all_goals subst hS
 all_goals (refine finW_ret ?_;simp only [get_cons,if_true,if_false, *,bq,reduceEqDiff];done)
set_option maxHeartbeats 4000000 in
theorem rp0 (names:List Bytes) (ins:List Ins) (i:Nat) (x:Ins) (hx:ins[i]? = some x) (hn:names.length<=2^30) (hl:ins.length<=2^30) (hk:x.op<1\/x.op>13) :
  RetS Tryz.prog W0 54 [codeV names ins,.i .i64 i] [] (.b (propB names.length ins i x)) []:=by
 have hi:i<ins.length:=(List.getElem?_eq_some_iff.1 hx).1
 have ex:(ins.map Ins.enc)[i]? = some (.agg [.i .i64 x.op,.i .i64 x.a,.i .i64 x.b,.s x.s]):=by rw [List.getElem?_map,hx];rfl
 have e1:decide ((i:Int)<0)=false:=by simp
 have e2:decide ((i:Int)>=(ins.length:Int))=false:=by simp;omega
 have q:∀k:Int,1<=k->k<=13->(x.op == k)=false:=fun k h1 h2=>by simp;omega
 have q1:=q 1 (by decide) (by decide);have q2:=q 2 (by decide) (by decide);have q3:=q 3 (by decide) (by decide);have q4:=q 4 (by decide) (by decide);have q5:=q 5 (by decide) (by decide);have q6:=q 6 (by decide) (by decide);have q7:=q 7 (by decide) (by decide)
 have q8:=q 8 (by decide) (by decide);have q9:=q 9 (by decide) (by decide);have q10:=q 10 (by decide) (by decide);have q11:=q 11 (by decide) (by decide);have q12:=q 12 (by decide) (by decide);have q13:=q 13 (by decide) (by decide)
 have hS:propB names.length ins i x=false:=by simp only [propB,q1,q2,q3,q4,q5,q6,q7,q8,q9,q10,q11,q12,q13,bq,if_true,if_false,Int.reduceBEq,reduceCtorEq]
 have qn:(x.op != 10)=true:=by simp [bne,q10]
 rw [hS]
 unfold codeV
 rcases hk with hk|hk
 ·have g1:decide (x.op>=5)=false:=by simp;omega
  refine fn_retW (vs:=[.b false]) f54ok (by simp) (by simp) fun n0 hn0=>?_
  clear hn0
  simp only [push_cast,seval,reduceEqDiff,ex,e1,e2,hi,List.length_map,q1,q2,q3,q4,q5,q6,q7,q8,q9,q10,q11,q12,q13,qn,g1]
  repeat' (first|(((first|apply condU_s|apply gdU_t|apply gdU_f)<;>intro _h)<;>simp only [push_cast,seval,reduceEqDiff,_h,ex,e1,e2,hi,List.length_map,q1,q2,q3,q4,q5,q6,q7,q8,q9,q10,q11,q12,q13,qn,g1])|intro _)
  all_goals (refine finW_ret ?_;simp only [get_cons,if_true,if_false, *,bq,reduceEqDiff];done)
 ·have g1:decide (x.op>=5)=true:=by simp;omega
  have g2:decide (x.op<=10)=false:=by simp;omega
  refine fn_retW (vs:=[.b false]) f54ok (by simp) (by simp) fun n0 hn0=>?_
  clear hn0
  simp only [push_cast,seval,reduceEqDiff,ex,e1,e2,hi,List.length_map,q1,q2,q3,q4,q5,q6,q7,q8,q9,q10,q11,q12,q13,qn,g1,g2]
  repeat' (first|(((first|apply condU_s|apply gdU_t|apply gdU_f)<;>intro _h)<;>simp only [push_cast,seval,reduceEqDiff,_h,ex,e1,e2,hi,List.length_map,q1,q2,q3,q4,q5,q6,q7,q8,q9,q10,q11,q12,q13,qn,g1,g2])|intro _)
  all_goals (refine finW_ret ?_;simp only [get_cons,if_true,if_false, *,bq,reduceEqDiff];done)
theorem c_rPropI (names:List Bytes) (ins:List Ins) (i:Nat) (x:Ins) (hx:ins[i]? = some x) (hn:names.length<=2^30) (hl:ins.length<=2^30) (hs:∀x∈ins,x.s.length<=2^30) :
  RetS Tryz.prog W0 54 [codeV names ins,.i .i64 i] [] (.b (propB names.length ins i x)) []:=by
 by_cases hk:x.op<1\/x.op>13
 ·exact rp0 W0 names ins i x hx hn hl hk
 ·obtain ⟨op,a,b,s⟩:=x
  simp only at hk
  have:op=1\/op=2\/op=3\/op=4\/op=5\/op=6\/op=7\/op=8\/op=9\/op=10\/op=11\/op=12\/op=13:=by omega
  rcases this with rfl|rfl|rfl|rfl|rfl|rfl|rfl|rfl|rfl|rfl|rfl|rfl|rfl
  ·exact rp1 W0 names ins i a b s hx hn hl hs
  ·exact rp2 W0 names ins i a b s hx hn hl hs
  ·exact rp3 W0 names ins i a b s hx hn hl hs
  ·exact rp4 W0 names ins i a b s hx hn hl hs
  ·exact rp5 W0 names ins i a b s hx hn hl hs
  ·exact rp6 W0 names ins i a b s hx hn hl hs
  ·exact rp7 W0 names ins i a b s hx hn hl hs
  ·exact rp8 W0 names ins i a b s hx hn hl hs
  ·exact rp9 W0 names ins i a b s hx hn hl hs
  ·exact rp10 W0 names ins i a b s hx hn hl hs
  ·exact rp11 W0 names ins i a b s hx hn hl hs
  ·exact rp12 W0 names ins i a b s hx hn hl hs
  ·exact rp13 W0 names ins i a b s hx hn hl hs
theorem c_rSame (a b:List Bytes) (h1:a.length<=2^40):RetS Tryz.prog W0 97 [.sl (a.map V.s),.sl (b.map V.s)] [] (.b (a == b)) []:=by
 generalize hS:(a == b)=S
 by_cases hl:a.length=b.length
 ·have e0:((a.length:Int) != (b.length:Int))=false:=by simp [hl]
  refine fn_retW (vs:=[.b S]) f97ok (by simp) (by simp) fun n0 hn0=>?_
  clear hn0
  simp only [push_cast,seval,reduceEqDiff,e0,List.length_map]
  intros
  refine aWP_loopW a.length (Inv:=fun m st=>∃da ra db rb n,a=da++ra/\b=db++rb/\da.length=db.length/\m=ra.length/\(ra == rb)=S/\st=⟨[(0,.sl (a.map V.s)),(1,.sl (b.map V.s)),(5,.i .i64 da.length)],[],n⟩) ⟨_,StLe.refl,[],a,[],b,_,rfl,rfl,rfl,rfl,hS,rfl⟩ ?_
  clear hS
  rintro m _ ⟨da,ra,db,rb,n,hza,hzb,hdl,rfl,hd,rfl⟩
  have hrl:ra.length=rb.length:=by rw [hza,hzb] at hl;simp at hl;omega
  cases ra with
  | nil=>
   cases rb with
   | cons y rb=>simp at hrl
   | nil=>
    have hS:S=true:=by rw [<-hd];rfl
    subst hS
    have e1:decide ((da.length:Int)<(a.length:Int))=false:=by rw [hza];simp
    simp only [push_cast,seval,reduceEqDiff,e0,List.length_map,e1]
    intros
    exact finW_ret (by simp [get])
  | cons x ra=>
   cases rb with
   | nil=>simp at hrl
   | cons y rb=>
    have hbd:=zip_bd hza
    have hbd2:=zip_bd hzb
    have e1:=strV' hza
    have e1b:=strV' hzb
    rw [<-hdl] at e1b hbd2
    have e2:=zipLt hza
    have e4:=wrap_zip x (done:=da) (by omega)
    have hsp:(x::ra == y::rb)=((x == y)&&(ra == rb)):=rfl
    rw [hsp] at hd
    cases hxy:(x == y) with
    | false=>
     rw [hxy] at hd
     simp only [bq,if_true,if_false,Int.reduceBEq,reduceCtorEq] at hd
     subst hd
     simp only [push_cast,seval,reduceEqDiff,e1,e1b,e2,e4,hbd,hbd2,List.length_map,hxy]
     intros
     exact finW_ret (by simp [get])
    | true=>
     rw [hxy] at hd
     simp only [bq,if_true,if_false,Int.reduceBEq,reduceCtorEq] at hd
     simp only [push_cast,seval,reduceEqDiff,e1,e1b,e2,e4,hbd,hbd2,List.length_map,hxy]
     intros
     exact ⟨_,_,Nat.lt_succ_self _,StLe.refl,da++[x],ra,db++[y],rb,_,by rw [hza];simp,by rw [hzb];simp,by simp [hdl],rfl,hd,rfl⟩
 ·have e0:((a.length:Int) != (b.length:Int))=true:=by simp;omega
  have hS2:S=false:=by
   rw [<-hS]
   cases hb:(a == b) with
   | false=>rfl
   | true=>exact absurd (congrArg List.length (by simpa using hb)) hl
  subst hS2
  refine fn_retW (vs:=[.b false]) f97ok (by simp) (by simp) fun n0 hn0=>?_
  clear hn0
  simp only [push_cast,seval,reduceEqDiff,e0,List.length_map]
  intros
  exact finW_ret (by simp [get])
theorem nextL_10 (ins:List Ins) (i:Nat) (x:Ins) (h:(x.op == 10)=true):nextL ins i x=(caseL (ins.drop (i+1))).map (·.a):=by unfold nextL;rw [if_pos h]
set_option maxHeartbeats 4000000 in
theorem c_rNext (names:List Bytes) (ins:List Ins) (i:Nat) (x:Ins) (hx:ins[i]? = some x) (hl:ins.length<=2^30):RetS Tryz.prog W0 96 [codeV names ins,.i .i64 i] [] (.sl ((nextL ins i x).map (V.i .i64))) []:=by
 have hi:i<ins.length:=(List.getElem?_eq_some_iff.1 hx).1
 have ex:(ins.map Ins.enc)[i]? = some (.agg [.i .i64 x.op,.i .i64 x.a,.i .i64 x.b,.s x.s]):=by rw [List.getElem?_map,hx];rfl
 have ew:IntKind.i64.wrap ((i:Int)+1)=((ins.take (i+1)).length:Int):=by rw [wrap64 (by omega) (by omega),List.length_take,Nat.min_eq_left (by omega)];simp
 have ew2:((ins.take (i+1)).length:Int)=(i:Int)+1:=by rw [List.length_take,Nat.min_eq_left (by omega)];simp
 cases h10:(x.op == 10) with
 | true=>
  rw [nextL_10 ins i x h10]
  unfold codeV
  generalize hS:(caseL (ins.drop (i+1))).map (·.a)=S
  refine fn_retW (vs:=[.sl (S.map (V.i .i64))]) f96ok (by simp) (by simp) fun n0 hn0=>?_
  clear hn0
  simp only [push_cast,seval,reduceEqDiff,ex,ew,hi,List.length_map,h10]
  intros
  refine aWP_loopW (ins.drop (i+1)).length (Inv:=fun m st=>∃done rest n o b0 a0,ins=done++rest/\m=rest.length/\o.length<=done.length/\o++(caseL rest).map (·.a)=S/\st=⟨[(2,.ref (b0,2) 0),(5,.arr (a0,41)),(6,.i .i64 done.length)],[((a0,41),.arr 3 1 (o.map (V.i .i64))),((b0,2),.box (.agg [.sl (names.map V.s),.sl (ins.map Ins.enc)]))],n⟩) ⟨_,(StLe.own (s:=5) (e:=3) (sz:=1) (k:=41) rfl).trans (StLe.envD (fun t=>?_) (Nat.le_refl _)),ins.take (i+1),ins.drop (i+1),_,[],_,_,(List.take_append_drop _ _).symm,rfl,by simp,hS,rfl⟩ ?_
  ·left
   by_cases h5:5=t
   ·subst h5;rfl
   ·simp [get,h5]
  clear hS
  rintro m _ ⟨done,rest,n,o,b0,a0,hz,rfl,hol,hd,rfl⟩
  cases rest with
  | nil=>
   have e1:decide ((done.length:Int)<(ins.length:Int))=false:=by rw [hz];simp
   rw [caseL,List.map_nil,List.append_nil] at hd
   subst hd
   simp only [push_cast,seval,reduceEqDiff,e1]
   intros
   exact finW_frz (e:=3) (sz:=1) rfl (fun y hy=>by obtain ⟨z,_,rfl⟩:=List.mem_map.1 hy;rfl) (by simp [lk])
  | cons y rest=>
   have hbd:=zip_bd hz
   have e1:=insV hz
   have e2:=zipLt hz
   have e3:done.length<ins.length:=by omega
   have e4:=wrap_zip y (done:=done) (by omega)
   rw [caseL] at hd
   cases hop:(y.op == 11) with
   | false=>
    rw [hop] at hd
    simp only [Bool.false_eq_true,if_false,List.map_nil,List.append_nil] at hd
    subst hd
    simp only [push_cast,seval,reduceEqDiff,e1,e2,e3,hop,List.length_map]
    intros
    exact finW_frz (e:=3) (sz:=1) rfl (fun y hy=>by obtain ⟨z,_,rfl⟩:=List.mem_map.1 hy;rfl) (by simp [lk])
   | true=>
    rw [hop] at hd
    simp only [if_true] at hd
    have hll:o.length+1<=LLim:=by unfold LLim;omega
    have hap:List.map (V.i .i64) o++[.i .i64 y.a]=(o++[y.a]).map (V.i .i64):=by simp
    simp only [push_cast,seval,reduceEqDiff,e1,e2,e3,e4,hop,List.length_map,eq_true hll,hap]
    intros
    exact ⟨_,_,Nat.lt_succ_self _,StLe.refl,done++[y],rest,_,o++[y.a],_,_,by rw [hz];simp,rfl,by simp;omega,by rw [<-hd];simp,rfl⟩
 | false=>
  cases h12:(x.op == 12) with
  | true=>
   have hn:nextL ins i x=[x.a]:=by unfold nextL;rw [h10,h12];rfl
   rw [hn]
   unfold codeV
   refine fn_retW (vs:=[.sl [.i .i64 x.a]]) f96ok (by simp) (by simp) fun n0 hn0=>?_
   clear hn0
   simp only [push_cast,seval,reduceEqDiff,ex,hi,List.length_map,h10,h12]
   intros
   exact finW_ret (by simp [get])
  | false=>
  cases h13:(x.op == 13) with
  | true=>
   have hn:nextL ins i x=[]:=by unfold nextL;rw [h10,h12,h13];rfl
   rw [hn]
   unfold codeV
   refine fn_retW (vs:=[.sl []]) f96ok (by simp) (by simp) fun n0 hn0=>?_
   clear hn0
   simp only [push_cast,seval,reduceEqDiff,ex,hi,List.length_map,h10,h12,h13]
   intros
   exact finW_nil rfl
  | false=>
   have hn:nextL ins i x=[(i:Int)+1]:=by unfold nextL;rw [h10,h12,h13];rfl
   rw [hn,<-ew2]
   unfold codeV
   refine fn_retW (vs:=[.sl [.i .i64 ((ins.take (i+1)).length:Int)]]) f96ok (by simp) (by simp) fun n0 hn0=>?_
   clear hn0
   simp only [push_cast,seval,reduceEqDiff,ex,hi,List.length_map,h10,h12,h13,ew]
   intros
   exact finW_ret (by simp [get])
def wayV (w:Bool × List Bytes):V:=.agg [.b w.1,.sl (w.2.map V.s)]
def TWay:TypeId:=184
def TBool:TypeId:=4
def waySt (c0 l0 d0:Nat) (names:List Bytes) (ins:List Ins) (st:WayR):Sto:=[((d0,19),.arr TBool 1 (st.2.map V.b)),((l0,15),.arr TWay 2 (st.1.map wayV)),((c0,1),.box (codeV names ins))]
theorem getD_some {α:Type} {l:List α} {k:Nat} (d:α) (h:k<l.length):l[k]? = some (l.getD k d):=by
 rw [List.getD_eq_getElem?_getD,List.getElem?_eq_getElem h];rfl
theorem leadR_len (st:WayR) (o:List Bytes) (j:Int):(leadR st o j).1.length=st.1.length/\(leadR st o j).2.length=st.2.length:=by simp [leadR]
theorem foldR_len (o:List Bytes):∀(js:List Int) (st:WayR),(js.foldl (fun st j=>leadR st o j) st).1.length=st.1.length/\(js.foldl (fun st j=>leadR st o j) st).2.length=st.2.length:=by
 intro js
 induction js with
 | nil=>intro st;exact ⟨rfl,rfl⟩
 | cons j js ih=>intro st;have h1:=ih (leadR st o j);have h2:=leadR_len st o j;exact ⟨h1.1.trans h2.1,h1.2.trans h2.2⟩
def OpenBd (B:Nat) (st:WayR):Prop:=∀w∈st.1,w.2.length<=B
theorem leadR_bd {B:Nat} {st:WayR} (h:OpenBd B st) {o:List Bytes} (ho:o.length<=B) (j:Int):OpenBd B (leadR st o j):=by
 intro w hw
 rcases List.mem_or_eq_of_mem_set hw with hw|rfl
 ·exact h w hw
 ·exact ho
theorem foldR_bd {B:Nat} {o:List Bytes} (ho:o.length<=B):∀(js:List Int) (st:WayR),OpenBd B st->OpenBd B (js.foldl (fun st j=>leadR st o j) st):=by
 intro js
 induction js with
 | nil=>intro st h;exact h
 | cons j js ih=>intro st h;exact ih _ (leadR_bd h ho j)
set_option maxHeartbeats 4000000 in
theorem ways_lead (names:List Bytes) (ins:List Ins) (js:List Int) (o:List Bytes) (i:Nat) (c0 l0 d0 n0:Nat) (st0:WayR) (Q:Exit->St->Prop)
  (hjl:js.length<=2^40) (hj:∀j∈js,0<=j/\j.toNat<st0.1.length) (hl:st0.2.length=st0.1.length) (B:Nat) (hB:B<=2^40) (hbd:OpenBd B st0) (ho:o.length<=B)
  (hQ:∀n',n0<=n'->Q (.exit 3) ⟨[(1,.ref (c0,1) 0),(4,.arr (l0,15)),(5,.arr (d0,19)),(6,.i .i64 i),(8,.sl (o.map V.s)),(9,.sl (js.map (V.i .i64))),(10,.i .i64 js.length),(108,.b false)],waySt c0 l0 d0 names ins (js.foldl (fun st j=>leadR st o j) st0),n'⟩) :
  LoopW Tryz.prog W0 145 f55_58 Q ⟨[(1,.ref (c0,1) 0),(4,.arr (l0,15)),(5,.arr (d0,19)),(6,.i .i64 i),(8,.sl (o.map V.s)),(9,.sl (js.map (V.i .i64))),(10,.i .i64 0)],waySt c0 l0 d0 names ins st0,n0⟩:=by
 generalize hS:js.foldl (fun st j=>leadR st o j) st0=S at hQ
 refine aWP_loopW js.length (Inv:=fun m st=>∃cd cr n s,js=cd++cr/\m=cr.length/\cr.foldl (fun st j=>leadR st o j) s=S/\n0<=n/\s.1.length=st0.1.length/\s.2.length=st0.1.length/\OpenBd B s/\st=⟨[(1,.ref (c0,1) 0),(4,.arr (l0,15)),(5,.arr (d0,19)),(6,.i .i64 i),(8,.sl (o.map V.s)),(9,.sl (js.map (V.i .i64))),(10,.i .i64 cd.length)],waySt c0 l0 d0 names ins s,n⟩) ⟨_,StLe.refl,[],js,_,st0,rfl,rfl,hS,Nat.le_refl _,rfl,hl,hbd,rfl⟩ ?_
 clear hS
 rintro m _ ⟨cd,cr,n,s,hz,rfl,hd,hn0,hs1,hs2,hsb,rfl⟩
 cases cr with
 | nil=>
  simp only [List.foldl_nil] at hd
  subst hd
  rw [List.append_nil] at hz
  subst hz
  have e1:decide ((js.length:Int)<(js.length:Int))=false:=by simp
  simp only [push_cast,seval,reduceEqDiff,e1,List.length_map]
  intro k2
  exact hQ _ (by omega)
 | cons j cr=>
  have hcb:=zip_bd hz
  obtain ⟨hj0,hjn⟩:=hj j (by rw [hz];simp)
  have e1:(js.map (V.i .i64))[cd.length]? = some (.i .i64 j):=by rw [hz];simp
  have e2:=zipLt hz
  have e4:=wrap_zip j (done:=cd) (by omega)
  have g0:(0<=j)=True:=eq_true hj0
  have g1:j.toNat<s.1.length:=by omega
  have g2:j.toNat<s.2.length:=by omega
  have g3:=getD_some (false,[]) g1
  have g4:=getD_some false g2
  rw [List.foldl_cons] at hd
  have hleR:leadR s o j=(s.1.set j.toNat (true,o),s.2.set j.toNat (s.2.getD j.toNat false||((s.1.getD j.toNat (false,[])).1&&!((s.1.getD j.toNat (false,[])).2 == o)))):=rfl
  have hbn:=leadR_bd hsb ho j
  have hln:=leadR_len s o j
  have hob:(s.1.getD j.toNat (false,[])).2.length<=B:=hsb _ (List.mem_of_getElem? g3)
  rw [hleR] at hd hbn hln
  generalize s.1.getD j.toNat (false,[])=lj at *
  generalize s.2.getD j.toNat false=dj at *
  obtain ⟨r,o'⟩:=lj
  have hcs:=c_rSame W0 o' o (by simp only at hob;omega)
  simp only at hd hbn hln hob
  generalize (o' == o)=E at *
  have g5:(s.1.map wayV)[j.toNat]? = some (.agg [.b r,.sl (o'.map V.s)]):=by rw [List.getElem?_map,g3];rfl
  have g6:(s.2.map V.b)[j.toNat]? = some (.b dj):=by rw [List.getElem?_map,g4];rfl
  have g7:∀v,(List.map V.b s.2).set j.toNat (.b v)=List.map V.b (s.2.set j.toNat v):=fun v=>by rw [List.map_set]
  have g8:(List.map wayV s.1).set j.toNat (.agg [.b true,.sl (o.map V.s)])=List.map wayV (s.1.set j.toNat (true,o)):=by rw [List.map_set];rfl
  unfold waySt codeV
  cases dj<;>cases r<;>cases E
  all_goals simp only [bq,if_true,if_false,Int.reduceBEq,reduceCtorEq,Bool.and_true,Bool.and_false,Bool.or_true,Bool.or_false,Bool.not_true,Bool.not_false] at hd hbn hln
  all_goals simp only [push_cast,seval,reduceEqDiff,e1,e2,e4,hcb,g0,g1,g2,g5,g6,g7,g8,List.length_map,TBool,TWay,List.length_set]
  all_goals (repeat' (first|(refine c_call (by exact hcs) ?_;simp only [push_cast,seval,reduceEqDiff,e1,e2,e4,hcb,g0,g1,g2,g5,g6,g7,g8,List.length_map,TBool,TWay,List.length_set])|intro _))
  all_goals exact ⟨_,_,Nat.lt_succ_self _,StLe.refl,cd++[j],cr,_,_,by rw [hz];simp,rfl,hd,by omega,by rw [hln.1];exact hs1,by rw [hln.2];exact hs2,hbn,rfl⟩
theorem nextL_nn {nn:Nat} (ins:List Ins) (i:Nat) (x:Ins) (ht:TgtOk ins) (hx:ins[i]? = some x) (hp:∀k y,ins[k]? = some y->propB nn ins k y=true):∀j∈nextL ins i x,0<=j:=by
 intro j hj
 have hpx:=hp i x hx
 unfold nextL at hj
 split at hj
 ·obtain ⟨y,hy,rfl⟩:=List.mem_map.1 hj
  obtain ⟨k,_,h2,h3⟩:=caseL_mem hy
  rw [List.getElem?_drop] at h2
  have hpy:=hp _ y h2
  unfold propB at hpy
  rw [h3] at hpy
  simp [Int.reduceBEq] at hpy
  have:=tgt_lt hpy.1
  omega
 ·split at hj
  ·rename_i h12
   simp only [List.mem_singleton] at hj
   subst hj
   unfold propB at hpx
   rw [show x.op=12 by simpa using h12] at hpx
   simp [Int.reduceBEq] at hpx
   have:=tgt_lt hpx.1
   omega
  ·split at hj
   ·cases hj
   ·simp only [List.mem_singleton] at hj;subst hj;omega
theorem caseL_len (l:List Ins):(caseL l).length<=l.length:=by
 obtain ⟨q,hq⟩:∃r,l=caseL l++r:=by
  induction l with
  | nil=>exact ⟨[],rfl⟩
  | cons x r ih=>
   rw [caseL]
   split
   ·obtain ⟨q,hq⟩:=ih;exact ⟨q,by rw [List.cons_append,<-hq]⟩
   ·exact ⟨x::r,rfl⟩
 have:=congrArg List.length hq
 simp at this
 omega
theorem nextL_len (ins:List Ins) (i:Nat) (x:Ins):(nextL ins i x).length<=ins.length+1:=by
 unfold nextL
 split
 ·have:=caseL_len (ins.drop (i+1));simp at this⊢;omega
 ·split
  ·simp
  ·split<;>simp
theorem finW_any2 {W0:World} {nt n:Nat} {env:Env} {σ:Sto} {v:V} (h3:get env 3=v):FinW W0 nt [.t 2,.t 3] [.any,v] [] .ret ⟨env,σ,n⟩:=by
 refine ⟨⟨[(2,.any),(3,v)],[],n⟩,StLe.weak (fun _=>none) (fun _ _ h=>by cases h) (fun t=>?_) (fun i e' h=>by cases h) (Nat.le_refl _),⟨by simp [ResOk,get],by simp [ResOk,get],trivial⟩,fun _ _ h=>by cases h⟩
 by_cases h:2=t
 ·subst h;simp only [get,if_true];exact .any _
 ·by_cases h':3=t
  ·subst h';rw [h3];simp only [get];simp;exact .refl _
  ·simp only [get,if_neg h,if_neg h'];exact .any _
theorem StLe.ent2 {W0:World} {nt n:Nat} {env:Env} {a b:Id × Ent} {id:Id} {x x':Ent} (h:EntLe (fun _=>none) x x') (hne:a.1≠id):StLe W0 nt ⟨env,[a,(id,x),b],n⟩ ⟨env,[a,(id,x'),b],n⟩:=by
 refine StLe.weak (fun _=>none) (fun _ _ h=>by cases h) (fun s=>.refl _) (fun i e' h'=>?_) (Nat.le_refl _)
 obtain ⟨ai,ae⟩:=a
 obtain ⟨bi,be⟩:=b
 simp only [lk] at h'⊢
 by_cases h1:ai=i
 ·rw [if_pos h1] at h'⊢;exact ⟨_,h',.refl _⟩
 ·rw [if_neg h1] at h'⊢
  by_cases h2:id=i
  ·rw [if_pos h2] at h'⊢;cases h';exact ⟨_,rfl,h⟩
  ·rw [if_neg h2] at h'⊢;exact ⟨_,h',.refl _⟩
theorem way0_le (n:Nat) (hn:0<n):EntLe (fun _=>none) (.arr TWay 2 ((List.replicate n (V.agg [.b false,.nil])).set 0 (.agg [.b true,.nil]))) (.arr TWay 2 ((wayR0 n).1.map wayV)):=by
 have hv:∀b:Bool,VLe (fun _=>none) (.agg [.b b,.nil]) (wayV (b,[])):=fun b=>.agg _ _ rfl fun k c c' h1 h2=>by
  match k with
  | 0=>simp [wayV] at h1 h2;subst h1 h2;exact .refl _
  | 1=>simp [wayV] at h1 h2;subst h1 h2;exact .nil
  | k+2=>simp at h1
 refine .arr _ _ _ _ (by simp [wayR0]) fun k c c' h1 h2=>?_
 simp only [wayR0,List.map_set,List.map_replicate] at h2
 rw [List.getElem?_set] at h1 h2
 by_cases h0:0=k
 ·subst h0
  rw [if_pos rfl,if_pos (by simpa using hn)] at h1 h2
  cases h1;cases h2
  exact ⟨hv true,rfl,rfl,rfl⟩
 ·rw [if_neg h0,List.getElem?_replicate] at h1 h2
  split at h1
  ·rename_i hk
   rw [if_pos hk] at h2
   cases h1;cases h2
   exact ⟨hv false,rfl,rfl,rfl⟩
  ·cases h1
set_option maxHeartbeats 4000000 in
theorem c_ways (names:List Bytes) (ins:List Ins) (hl:ins.length<=2^30) (hne:0<ins.length) (ht:TgtOk ins) (hnn:∀i x,ins[i]? = some x->∀j∈nextL ins i x,0<=j) :
  RetS Tryz.prog W0 55 [codeV names ins] [] (.tup [.any,.i .i64 (waysR ins 0 ins (wayR0 ins.length))]) []:=by
 generalize hS:waysR ins 0 ins (wayR0 ins.length)=S
 have hll:((ins.length:Int)<=(ins.length:Int)/\(ins.length:Int)<=(LLim:Int))=True:=eq_true ⟨Int.le_refl _,by unfold LLim;omega⟩
 have r1:(List.replicate ins.length (V.agg [.b false,.nil]))[0]? = some (.agg [.b false,.nil]):=by rw [List.getElem?_replicate,if_pos hne]
 unfold codeV
 refine fn_retW (vs:=[.any,.i .i64 S]) f55ok (by simp) (by simp) fun n0 hn0=>?_
 clear hn0
 simp only [push_cast,seval,reduceEqDiff,hll,List.length_map,r1,hne,List.length_replicate]
 intros
 refine loopW_le (StLe.ent2 (way0_le ins.length hne) (by simp)) ?_
 have r2:List.replicate ins.length (V.b false)=List.map V.b (wayR0 ins.length).2:=by simp [wayR0]
 rw [r2]
 have hcv:V.agg [.sl (names.map V.s),.sl (ins.map Ins.enc)]=codeV names ins:=rfl
 rw [hcv]
 refine aWP_loopW ins.length (Inv:=fun m st=>∃done rest n c0 l0 d0 s,ins=done++rest/\m=rest.length/\waysR ins done.length rest s=S/\s.1.length=ins.length/\s.2.length=ins.length/\OpenBd done.length s/\st=⟨[(1,.ref (c0,1) 0),(4,.arr (l0,15)),(5,.arr (d0,19)),(6,.i .i64 done.length)],waySt c0 l0 d0 names ins s,n⟩) ⟨_,StLe.refl,[],ins,_,_,_,_,wayR0 ins.length,rfl,rfl,hS,by simp [wayR0],by simp [wayR0],?_,rfl⟩ ?_
 ·intro w hw
  rcases List.mem_or_eq_of_mem_set hw with hw|rfl
  ·rw [(List.mem_replicate.1 hw).2];simp
  ·simp
 clear hS
 rintro m _ ⟨done,rest,n,c0,l0,d0,s,hz,rfl,hd,hs1,hs2,hsb,rfl⟩
 cases rest with
 | nil=>
  rw [List.append_nil] at hz
  subst hz
  rw [waysR] at hd
  subst hd
  have e1:decide ((ins.length:Int)<(ins.length:Int))=false:=by simp
  unfold waySt codeV
  simp only [push_cast,seval,reduceEqDiff,e1,List.length_map]
  intros
  exact finW_any2 rfl
 | cons x rest=>
  have hbd:=zip_bd hz
  have hx:ins[done.length]? = some x:=by rw [hz];simp
  have e1:=insV hz
  have e2:=zipLt hz
  have e3:done.length<ins.length:=by omega
  have e4:=wrap_zip x (done:=done) (by omega)
  have g1:done.length<s.1.length:=by omega
  have g2:done.length<s.2.length:=by omega
  have g3:=getD_some (false,[]) g1
  have g4:=getD_some false g2
  have hob:=hsb _ (List.mem_of_getElem? g3)
  have hcn:=c_rNext W0 names ins done.length x hx hl
  rw [waysR] at hd
  generalize s.1.getD done.length (false,[])=lj at *
  generalize s.2.getD done.length false=dj at *
  obtain ⟨r,o⟩:=lj
  simp only at hd hob
  have g5:(s.1.map wayV)[done.length]? = some (.agg [.b r,.sl (o.map V.s)]):=by rw [List.getElem?_map,g3];rfl
  have g6:(s.2.map V.b)[done.length]? = some (.b dj):=by rw [List.getElem?_map,g4];rfl
  cases hr:r with
  | false=>
   rw [hr] at hd
   simp only [Bool.false_eq_true,if_false] at hd
   unfold waySt codeV
   simp only [push_cast,seval,reduceEqDiff,e1,e2,e3,e4,g1,g2,g5,g6,List.length_map,TBool,TWay,hr]
   intros
   exact ⟨_,_,Nat.lt_succ_self _,StLe.refl,done++[x],rest,_,_,_,_,s,by rw [hz];simp,rfl,by rw [List.length_append];exact hd,hs1,hs2,fun w hw=>by rw [List.length_append];exact Nat.le_succ_of_le (hsb w hw),rfl⟩
  | true=>
  rw [hr] at hd
  simp only [if_true] at hd
  cases hdd:dj with
  | true=>
   rw [hdd] at hd
   simp only [if_true] at hd
   subst hd
   unfold waySt codeV
   simp only [push_cast,seval,reduceEqDiff,e1,e2,e3,e4,g1,g2,g5,g6,List.length_map,TBool,TWay,hr,hdd]
   intros
   exact finW_any2 rfl
  | false=>
  rw [hdd] at hd
  simp only [Bool.false_eq_true,if_false] at hd
  have hoL:o.length+1<=LLim:=by unfold LLim;omega
  have hoL0:o.length<=LLim:=by unfold LLim;omega
  have hcel:∀y∈o.map V.s,(cells y).length=1:=fun y hy=>by obtain ⟨z,_,rfl⟩:=List.mem_map.1 hy;rfl
  have hoks:∀(q:List Bytes),∀y∈q.map V.s,y.ok=true:=fun q y hy=>by obtain ⟨z,_,rfl⟩:=List.mem_map.1 hy;rfl
  cases h2:(x.op == 2) with
  | true=>
   have ho':openR x o=some (o++[x.s]):=by unfold openR;rw [h2];rfl
   rw [ho'] at hd
   simp only at hd
   obtain ⟨o',hoo⟩:∃o',o'=o++[x.s]:=⟨_,rfl⟩
   rw [<-hoo] at hd
   have hol:o'.length<=done.length+1:=by rw [hoo];simp;exact hob
   have hap:List.map V.s o++[.s x.s]=o'.map V.s:=by rw [hoo];simp
   unfold waySt codeV at *
   simp only [push_cast,seval,reduceEqDiff,e1,e2,e3,e4,g1,g2,g5,g6,List.length_map,TBool,TWay,hr,hdd,h2,eq_true hoL,eq_true hoL0,hap,eq_true hcel]
   intros
   refine wkW_i (StLe.frzAt (s:=8) rfl (by simp [lk]<;>omega) (hoks o') (Nat.le_refl _)) ?_
   simp only [push_cast,seval,reduceEqDiff,e1,e2,e3,e4,List.length_map,TBool,TWay]
   repeat' (first|(((first|apply condU_s|apply gdU_t|apply gdU_f)<;>intro _h)<;>simp only [push_cast,seval,reduceEqDiff,_h,e1,e2,e3,e4,List.length_map,TBool,TWay])|(refine c_call (by exact hcn) ?_;simp only [push_cast,seval,reduceEqDiff,e1,e2,e3,e4,List.length_map,TBool,TWay])|intro _)
   refine loopW_le (StLe.sub (σ':=waySt c0 l0 d0 names ins s) (by simp [TBool,TWay]<;>omega) (fun p hp=>by simp [waySt,codeV] at hp;rcases hp with h|h|h<;>simp [h,TBool,TWay]) (Nat.le_refl _)) (ways_lead W0 names ins (nextL ins done.length x) o' done.length c0 l0 d0 _ s _ (by have:=nextL_len ins done.length x;omega) (fun j hj=>⟨hnn _ x hx j hj,by rw [hs1];exact ht _ x hx j hj⟩) (by omega) (done.length+1) (by omega) (fun w hw=>Nat.le_succ_of_le (hsb w hw)) hol (fun n' hn'=>?_))
   have hfl:=foldR_len o' (nextL ins done.length x) s
   have hfb:=foldR_bd hol (nextL ins done.length x) s (fun w hw=>Nat.le_succ_of_le (hsb w hw))
   generalize (nextL ins done.length x).foldl (fun st j=>leadR st o' j) s=s' at *
   unfold waySt codeV
   simp only [push_cast,seval,reduceEqDiff,e4]
   intros
   exact ⟨_,_,Nat.lt_succ_self _,StLe.refl,done++[x],rest,_,_,_,_,s',by rw [hz];simp,rfl,by rw [List.length_append];exact hd,by omega,by omega,by rw [List.length_append];exact hfb,rfl⟩
  | false=>
  cases h3:(x.op == 3) with
  | true=>
   rcases List.eq_nil_or_concat o with hon|⟨q,y,hoq⟩
   ·have ho':openR x o=none:=by unfold openR;rw [h2,h3,hon];rfl
    rw [ho'] at hd
    simp only at hd
    subst hd
    subst hon
    unfold waySt codeV
    simp only [push_cast,seval,reduceEqDiff,e1,e2,e3,e4,g1,g2,g5,g6,List.length_map,TBool,TWay,hr,hdd,h2,h3,List.length_nil,List.map_nil]
    intros
    exact finW_any2 rfl
   ·rw [List.concat_eq_append] at hoq
    have h13:(x.op == 13)=false:=by rw [show x.op=3 by simpa using h3];rfl
    have hw:IntKind.i64.wrap ((o.length:Int)-1)=(q.length:Int):=by rw [wrap64 (by omega) (by omega),hoq];simp
    have hol0:((o.length:Int) == 0)=false:=by rw [hoq];simp;omega
    have hget:(o.map V.s)[q.length]? = some (.s y):=by rw [hoq];simp
    have hql:q.length<o.length:=by rw [hoq];simp
    have hlast:openR x o=if (y == x.s)=true then some q else none:=by
     unfold openR
     rw [h2,h3,hoq]
     simp [List.getLastD_eq_getLast?]
    rw [hlast] at hd
    cases hy:(y == x.s) with
    | false=>
     rw [hy] at hd
     simp only [Bool.false_eq_true,if_false] at hd
     subst hd
     unfold waySt codeV
     simp only [push_cast,seval,reduceEqDiff,e1,e2,e3,e4,g1,g2,g5,g6,List.length_map,TBool,TWay,hr,hdd,h2,h3,h13,hol0,hw,hget,hql,hy]
     intros
     exact finW_any2 rfl
    | true=>
     rw [hy] at hd
     simp only [if_true] at hd
     obtain ⟨o',hoo⟩:∃o',o'=q:=⟨_,rfl⟩
     rw [<-hoo] at hd
     have hol:o'.length<=done.length+1:=by rw [hoo];omega
     have hcut:(if 0<=q.length/\q.length<=o.length then some (V.sl (List.take q.length (List.map V.s o))) else none)=some (.sl (o'.map V.s)):=by
      rw [if_pos ⟨Nat.zero_le _,by omega⟩,hoo,hoq];simp
     unfold waySt codeV at *
     simp only [push_cast,seval,reduceEqDiff,e1,e2,e3,e4,g1,g2,g5,g6,List.length_map,TBool,TWay,hr,hdd,h2,h3,h13,hol0,hw,hget,hql,hy,eq_true hcel,hcut]
     intros
     refine wkW_i StLe.refl ?_
     simp only [push_cast,seval,reduceEqDiff,e1,e2,e3,e4,List.length_map,TBool,TWay]
     repeat' (first|(((first|apply condU_s|apply gdU_t|apply gdU_f)<;>intro _h)<;>simp only [push_cast,seval,reduceEqDiff,_h,e1,e2,e3,e4,List.length_map,TBool,TWay])|(refine c_call (by exact hcn) ?_;simp only [push_cast,seval,reduceEqDiff,e1,e2,e3,e4,List.length_map,TBool,TWay])|intro _)
     refine loopW_le (StLe.sub (σ':=waySt c0 l0 d0 names ins s) (by simp [TBool,TWay]<;>omega) (fun p hp=>by simp [waySt,codeV] at hp;rcases hp with h|h|h<;>simp [h,TBool,TWay]) (Nat.le_refl _)) (ways_lead W0 names ins (nextL ins done.length x) o' done.length c0 l0 d0 _ s _ (by have:=nextL_len ins done.length x;omega) (fun j hj=>⟨hnn _ x hx j hj,by rw [hs1];exact ht _ x hx j hj⟩) (by omega) (done.length+1) (by omega) (fun w hw=>Nat.le_succ_of_le (hsb w hw)) hol (fun n' hn'=>?_))
     have hfl:=foldR_len o' (nextL ins done.length x) s
     have hfb:=foldR_bd hol (nextL ins done.length x) s (fun w hw=>Nat.le_succ_of_le (hsb w hw))
     generalize (nextL ins done.length x).foldl (fun st j=>leadR st o' j) s=s' at *
     unfold waySt codeV
     simp only [push_cast,seval,reduceEqDiff,e4]
     intros
     exact ⟨_,_,Nat.lt_succ_self _,StLe.refl,done++[x],rest,_,_,_,_,s',by rw [hz];simp,rfl,by rw [List.length_append];exact hd,by omega,by omega,by rw [List.length_append];exact hfb,rfl⟩
  | false=>
  cases h13:(x.op == 13) with
  | true=>
   rcases List.eq_nil_or_concat o with hon|⟨q,y,hoq⟩
   ·have ho':openR x o=some o:=by unfold openR;rw [h2,h3,h13,hon];rfl
    rw [ho'] at hd
    simp only at hd
    obtain ⟨o',hoo⟩:∃o',o'=o:=⟨_,rfl⟩
    rw [<-hoo] at hd
    have hol:o'.length<=done.length+1:=by rw [hoo];omega
    have hg0:decide ((o.length:Int)>0)=false:=by rw [hon];rfl
    unfold waySt codeV at *
    simp only [push_cast,seval,reduceEqDiff,e1,e2,e3,e4,g1,g2,g5,g6,List.length_map,TBool,TWay,hr,hdd,h2,h3,h13,hg0]
    intros
    rw [<-hoo]
    refine wkW_i StLe.refl ?_
    simp only [push_cast,seval,reduceEqDiff,e1,e2,e3,e4,List.length_map,TBool,TWay]
    repeat' (first|(((first|apply condU_s|apply gdU_t|apply gdU_f)<;>intro _h)<;>simp only [push_cast,seval,reduceEqDiff,_h,e1,e2,e3,e4,List.length_map,TBool,TWay])|(refine c_call (by exact hcn) ?_;simp only [push_cast,seval,reduceEqDiff,e1,e2,e3,e4,List.length_map,TBool,TWay])|intro _)
    refine loopW_le (StLe.sub (σ':=waySt c0 l0 d0 names ins s) (by simp [TBool,TWay]<;>omega) (fun p hp=>by simp [waySt,codeV] at hp;rcases hp with h|h|h<;>simp [h,TBool,TWay]) (Nat.le_refl _)) (ways_lead W0 names ins (nextL ins done.length x) o' done.length c0 l0 d0 _ s _ (by have:=nextL_len ins done.length x;omega) (fun j hj=>⟨hnn _ x hx j hj,by rw [hs1];exact ht _ x hx j hj⟩) (by omega) (done.length+1) (by omega) (fun w hw=>Nat.le_succ_of_le (hsb w hw)) hol (fun n' hn'=>?_))
    have hfl:=foldR_len o' (nextL ins done.length x) s
    have hfb:=foldR_bd hol (nextL ins done.length x) s (fun w hw=>Nat.le_succ_of_le (hsb w hw))
    generalize (nextL ins done.length x).foldl (fun st j=>leadR st o' j) s=s' at *
    unfold waySt codeV
    simp only [push_cast,seval,reduceEqDiff,e4]
    intros
    exact ⟨_,_,Nat.lt_succ_self _,StLe.refl,done++[x],rest,_,_,_,_,s',by rw [hz];simp,rfl,by rw [List.length_append];exact hd,by omega,by omega,by rw [List.length_append];exact hfb,rfl⟩
   ·rw [List.concat_eq_append] at hoq
    have ho':openR x o=none:=by
     unfold openR
     rw [h2,h3,h13,hoq]<;>simp
    rw [ho'] at hd
    simp only at hd
    subst hd
    have hg0:decide ((o.length:Int)>0)=true:=by rw [hoq];simp<;>omega
    unfold waySt codeV
    simp only [push_cast,seval,reduceEqDiff,e1,e2,e3,e4,g1,g2,g5,g6,List.length_map,TBool,TWay,hr,hdd,h2,h3,h13,hg0]
    intros
    exact finW_any2 rfl
  | false=>
   have ho':openR x o=some o:=by unfold openR;rw [h2,h3,h13];rfl
   rw [ho'] at hd
   simp only at hd
   obtain ⟨o',hoo⟩:∃o',o'=o:=⟨_,rfl⟩
   rw [<-hoo] at hd
   have hol:o'.length<=done.length+1:=by rw [hoo];omega
   unfold waySt codeV at *
   simp only [push_cast,seval,reduceEqDiff,e1,e2,e3,e4,g1,g2,g5,g6,List.length_map,TBool,TWay,hr,hdd,h2,h3,h13]
   intros
   rw [<-hoo]
   refine wkW_i StLe.refl ?_
   simp only [push_cast,seval,reduceEqDiff,e1,e2,e3,e4,List.length_map,TBool,TWay]
   repeat' (first|(((first|apply condU_s|apply gdU_t|apply gdU_f)<;>intro _h)<;>simp only [push_cast,seval,reduceEqDiff,_h,e1,e2,e3,e4,List.length_map,TBool,TWay])|(refine c_call (by exact hcn) ?_;simp only [push_cast,seval,reduceEqDiff,e1,e2,e3,e4,List.length_map,TBool,TWay])|intro _)
   refine loopW_le (StLe.sub (σ':=waySt c0 l0 d0 names ins s) (by simp [TBool,TWay]<;>omega) (fun p hp=>by simp [waySt,codeV] at hp;rcases hp with h|h|h<;>simp [h,TBool,TWay]) (Nat.le_refl _)) (ways_lead W0 names ins (nextL ins done.length x) o' done.length c0 l0 d0 _ s _ (by have:=nextL_len ins done.length x;omega) (fun j hj=>⟨hnn _ x hx j hj,by rw [hs1];exact ht _ x hx j hj⟩) (by omega) (done.length+1) (by omega) (fun w hw=>Nat.le_succ_of_le (hsb w hw)) hol (fun n' hn'=>?_))
   have hfl:=foldR_len o' (nextL ins done.length x) s
   have hfb:=foldR_bd hol (nextL ins done.length x) s (fun w hw=>Nat.le_succ_of_le (hsb w hw))
   generalize (nextL ins done.length x).foldl (fun st j=>leadR st o' j) s=s' at *
   unfold waySt codeV
   simp only [push_cast,seval,reduceEqDiff,e4]
   intros
   exact ⟨_,_,Nat.lt_succ_self _,StLe.refl,done++[x],rest,_,_,_,_,s',by rw [hz];simp,rfl,by rw [List.length_append];exact hd,by omega,by omega,by rw [List.length_append];exact hfb,rfl⟩
theorem prop_all {nn:Nat} {ins:List Ins} (h:¬propGo nn ins 0 ins>=0):∀k y,ins[k]? = some y->propB nn ins k y=true:=by
 intro k y hk
 have:=prop_go nn ins ins 0 h k y hk
 rwa [Nat.zero_add] at this
def tailR (ins:List Ins):Int × Int:=
 if ins.isEmpty||!(opAt ins (ins.length-1) == 13) then (ins.length,4)
 else if waysR ins 0 ins (wayR0 ins.length)>=0 then (waysR ins 0 ins (wayR0 ins.length),7)
 else (0,0)
theorem checkR_eq (names:List Bytes) (ins:List Ins):checkR names ins=if !namedB names then (0,1) else if decide ((ins.length:Int)>10000) then (0,6) else if propGo names.length ins 0 ins>=0 then (propGo names.length ins 0 ins,4) else tailR ins:=rfl
set_option maxHeartbeats 4000000 in
theorem c_rCheck (names:List Bytes) (ins:List Ins) (hn:names.length<=2^30) (hl:ins.length<=2^30) (hns:∀s∈names,s.length<SLim) (hs:∀x∈ins,x.s.length<=2^30) :
  RetS Tryz.prog W0 34 [codeV names ins] [] (.tup [.i .i64 (checkR names ins).1,.i .i64 (checkR names ins).2]) []:=by
 have hnm:=c_rNamed W0 names (by omega) hns
 rw [checkR_eq]
 unfold codeV
 refine fn_retW (vs:=[.i .i64 _,.i .i64 _]) f34ok (by simp) (by simp) fun n0 hn0=>?_
 clear hn0
 cases hA:namedB names with
 | false=>
  rw [hA] at hnm
  simp only [bq,if_true,if_false,Int.reduceBEq,reduceCtorEq]
  simp only [push_cast,seval,reduceEqDiff]
  repeat' (first|(((first|apply condU_s|apply gdU_t|apply gdU_f)<;>intro _h)<;>simp only [push_cast,seval,reduceEqDiff,_h])|(refine c_call (by exact hnm) ?_;simp only [push_cast,seval,reduceEqDiff])|intro _)
  all_goals (refine finW_rets ?_;simp [push_cast,get])
 | true=>
 rw [hA] at hnm
 simp only [bq,if_true,if_false,Int.reduceBEq,reduceCtorEq]
 cases h10:decide ((ins.length:Int)>10000) with
 | true=>
  simp only [bq,if_true,if_false,Int.reduceBEq,reduceCtorEq]
  simp only [push_cast,seval,reduceEqDiff,h10,List.length_map]
  repeat' (first|(((first|apply condU_s|apply gdU_t|apply gdU_f)<;>intro _h)<;>simp only [push_cast,seval,reduceEqDiff,_h,h10,List.length_map])|(refine c_call (by exact hnm) ?_;simp only [push_cast,seval,reduceEqDiff,h10,List.length_map])|intro _)
  all_goals (refine finW_rets ?_;simp [push_cast,get])
 | false=>
 simp only [bq,if_true,if_false,Int.reduceBEq,reduceCtorEq]
 generalize hS:(if propGo names.length ins 0 ins>=0 then (propGo names.length ins 0 ins,(4:Int)) else tailR ins)=S
 simp only [push_cast,seval,reduceEqDiff,h10,List.length_map]
 repeat' (first|(((first|apply condU_s|apply gdU_t|apply gdU_f)<;>intro _h)<;>simp only [push_cast,seval,reduceEqDiff,_h,h10,List.length_map])|(refine c_call (by exact hnm) ?_;simp only [push_cast,seval,reduceEqDiff,h10,List.length_map])|intro _)
 generalize hG:propGo names.length ins 0 ins=G at hS
 have hS':=hS
 refine aWP_loopW ins.length (Inv:=fun m st=>∃done rest n b0,ins=done++rest/\m=rest.length/\propGo names.length ins done.length rest=G/\st=⟨[(1,.ref (b0,1) 0),(4,.i .i64 done.length)],[((b0,1),.box (.agg [.sl (names.map V.s),.sl (ins.map Ins.enc)]))],n⟩) ⟨_,StLe.refl,[],ins,_,_,rfl,rfl,hG,rfl⟩ ?_
 rintro m _ ⟨done,rest,n,b0,hz,rfl,hd,rfl⟩
 cases rest with
 | cons x rest=>
  have hbd:=zip_bd hz
  have hx:ins[done.length]? = some x:=by rw [hz];simp
  have e2:=zipLt hz
  have e4:=wrap_zip x (done:=done) (by omega)
  have hpr:=c_rPropI W0 names ins done.length x hx hn hl hs
  rw [propGo] at hd
  unfold codeV at hpr
  generalize propB names.length ins done.length x=A1 at *
  cases A1 with
  | false=>
   simp only [Bool.false_eq_true,if_false] at hd
   have hge:G>=0:=by omega
   rw [if_pos hge] at hS
   subst hS
   rw [<-hd]
   simp only [push_cast,seval,reduceEqDiff,e2,e4,List.length_map]
   repeat' (first|(((first|apply condU_s|apply gdU_t|apply gdU_f)<;>intro _h)<;>simp only [push_cast,seval,reduceEqDiff,_h])|(refine c_call (by exact hpr) ?_;simp only [push_cast,seval,reduceEqDiff])|intro _)
   all_goals (refine finW_rets ?_;simp [push_cast,get])
  | true=>
   simp only [if_true] at hd
   simp only [push_cast,seval,reduceEqDiff,e2,e4,List.length_map]
   repeat' (first|(((first|apply condU_s|apply gdU_t|apply gdU_f)<;>intro _h)<;>simp only [push_cast,seval,reduceEqDiff,_h,e4])|(refine c_call (by exact hpr) ?_;simp only [push_cast,seval,reduceEqDiff,e4])|intro _)
   exact ⟨_,_,Nat.lt_succ_self _,StLe.refl,done++[x],rest,_,_,by rw [hz];simp,rfl,by rw [List.length_append];exact hd,rfl⟩
 | nil=>
  rw [propGo] at hd
  have hge:¬G>=0:=by omega
  rw [if_neg hge] at hS
  have hpg:¬propGo names.length ins 0 ins>=0:=by rw [hG];exact hge
  clear hS' hG
  rw [List.append_nil] at hz
  have e1:decide ((done.length:Int)<(ins.length:Int))=false:=by rw [hz];simp
  unfold tailR at hS
  rcases Nat.eq_zero_or_pos ins.length with h0|h0
  ·have hi0:ins=[]:=by cases ins with
    | nil=>rfl
    | cons y r=>simp at h0
   rw [hi0] at hS
   simp only [List.isEmpty_nil,Bool.true_or,if_true] at hS
   subst hS
   have e3:((ins.length:Int) == 0)=true:=by rw [h0];rfl
   simp only [push_cast,seval,reduceEqDiff,e1,e3,List.length_map]
   intros
   refine finW_rets ?_
   simp [push_cast,get,h0]
  ·have hi0:ins.isEmpty=false:=by cases ins with
    | nil=>simp at h0
    | cons y r=>rfl
   have e3:((ins.length:Int) == 0)=false:=by rw [beq_eq_false_iff_ne];omega
   have hw:IntKind.i64.wrap ((ins.length:Int)-1)=((ins.length-1:Nat):Int):=by rw [wrap64 (by omega) (by omega)];omega
   have hlt:ins.length-1<ins.length:=by omega
   obtain ⟨y,hy⟩:∃y,ins[ins.length-1]? = some y:=⟨_,List.getElem?_eq_getElem hlt⟩
   have ey:(ins.map Ins.enc)[ins.length-1]? = some (.agg [.i .i64 y.op,.i .i64 y.a,.i .i64 y.b,.s y.s]):=by rw [List.getElem?_map,hy];rfl
   have eo:opAt ins (ins.length-1)=y.op:=by unfold opAt;rw [hy]
   have en:(y.op != 13) = !(y.op == 13):=rfl
   rw [hi0,eo,Bool.false_or] at hS
   cases h13:(y.op == 13) with
   | false=>
    rw [h13] at hS en
    simp only [Bool.not_false,if_true] at hS en
    subst hS
    simp only [push_cast,seval,reduceEqDiff,e1,e3,hw,ey,hlt,en,List.length_map]
    intros
    refine finW_rets ?_
    simp [push_cast,get]
   | true=>
    rw [h13] at hS en
    simp only [Bool.not_true,Bool.false_eq_true,if_false] at hS en
    have ht:TgtOk ins:=tgt_ok _ ins hpg (by rw [eo];simpa using h13)
    have hwy:=c_ways W0 names ins hl h0 ht (fun i x hx=>nextL_nn (nn:=names.length) ins i x ht hx (prop_all hpg))
    unfold codeV at hwy
    generalize waysR ins 0 ins (wayR0 ins.length)=K at *
    by_cases hK:K>=0
    ·rw [if_pos hK] at hS
     subst hS
     have hKd:decide (K>=0)=true:=by simpa using hK
     simp only [push_cast,seval,reduceEqDiff,e1,e3,hw,ey,hlt,en,List.length_map]
     repeat' (first|(((first|apply condU_s|apply gdU_t|apply gdU_f)<;>intro _h)<;>simp only [push_cast,seval,reduceEqDiff,_h,hKd])|(refine c_call (by exact hwy) ?_;simp only [push_cast,seval,reduceEqDiff,hKd])|intro _)
     all_goals (refine finW_rets ?_;simp [push_cast,get])
    ·rw [if_neg hK] at hS
     subst hS
     have hKd:decide (K>=0)=false:=by simpa using hK
     simp only [push_cast,seval,reduceEqDiff,e1,e3,hw,ey,hlt,en,List.length_map]
     repeat' (first|(((first|apply condU_s|apply gdU_t|apply gdU_f)<;>intro _h)<;>simp only [push_cast,seval,reduceEqDiff,_h,hKd])|(refine c_call (by exact hwy) ?_;simp only [push_cast,seval,reduceEqDiff,hKd])|intro _)
     all_goals (refine finW_rets ?_;simp [push_cast,get])
theorem c_vClass (s:Bytes):RetS Tryz.prog W0 155 [.s s] [] (.b (classB s)) []:=by
 have hc:=c_containsS W0 [[122,101,114,111],[111,110,101],[116,119,111],[102,101,119],[109,97,110,121],[111,116,104,101,114]] s (by simp)
 have he:([[122,101,114,111],[111,110,101],[116,119,111],[102,101,119],[109,97,110,121],[111,116,104,101,114]]:List Bytes).contains s=classB s:=by
  unfold classB
  rw [Bool.eq_iff_iff]
  simp [or_assoc]
 rw [he] at hc
 simp only [List.map_cons,List.map_nil] at hc
 generalize classB s=S at *
 refine fn_retW (vs:=[.b S]) f155ok (by simp) (by simp) fun n0 hn0=>?_
 clear hn0
 simp only [push_cast,seval,reduceEqDiff]
 repeat' (first|(((first|apply condU_s|apply gdU_t|apply gdU_f)<;>intro _h)<;>simp only [push_cast,seval,reduceEqDiff,_h])|(refine c_call (by exact hc) ?_;simp only [push_cast,seval,reduceEqDiff])|intro _)
 all_goals exact finW_ret (by simp [get])
theorem c_vKey (kind:Int) (s:Bytes) (hs:s.length<=2^30):RetS Tryz.prog W0 118 [.i .i64 kind,.s s] [] (.b (keyB kind s)) []:=by
 generalize hS:keyB kind s=S
 unfold keyB at hS
 have h1:=c_tName W0 s (by unfold SLim;omega)
 have h2:=c_vClass W0 s
 have hc:=c_cutPrefix W0 s [61]
 cases s with
 | nil=>
  have hv:=c_dValid W0 [] (by simp)
  refine fn_retW (vs:=[.b S]) f118ok (by simp) (by simp) fun n0 hn0=>?_
  clear hn0
  simp only [push_cast,seval,reduceEqDiff]
  repeat' (first|(((first|apply condU_s|apply gdU_t|apply gdU_f)<;>intro _h)<;>(simp only [push_cast,seval,reduceEqDiff,_h];try (have _g:=_h;simp at _g)))|((first|refine c_call (by exact h1) ?_|refine c_call (by exact h2) ?_|refine c_call (by exact hc) ?_|refine c_call (by exact hv) ?_);simp only [push_cast,seval,reduceEqDiff])|intro _)
  all_goals subst hS
  all_goals (first|(refine finW_ret ?_;simp [get,keyN,numB_nil, *]<;>(intros;omega);done)|(refine finW_rets ?_;simp [push_cast,get,keyN,numB_nil, *];done)|skip)
 | cons c t=>
  have hp:Lib.hasPrefix (c::t) [61]=((c.toNat:Int) == 61):=by
   unfold Lib.hasPrefix
   simp only [List.isPrefixOf,Bool.and_true]
   rw [Bool.eq_iff_iff];simp [<-UInt8.toNat_inj];omega
  have hq:Lib.trimPrefix (c::t) [61]=if ((c.toNat:Int) == 61)=true then t else c::t:=by
   unfold Lib.trimPrefix
   rw [hp]
   rfl
  rw [hp,hq] at hc
  generalize nameB (c::t)=N at h1 hS
  generalize classB (c::t)=C at h2 hS
  rw [keyN] at hS
  have hv:=c_dValid W0 t (by simp at hs;omega)
  rcases Bool.eq_false_or_eq_true ((c.toNat:Int) == 61) with h6|h6
  all_goals (rw [h6] at hc hS;simp only [if_true,Bool.true_and,Bool.false_and,Bool.false_eq_true,if_false] at hc hS)
  ·skip
   refine fn_retW (vs:=[.b S]) f118ok (by simp) (by simp) fun n0 hn0=>?_
   clear hn0
   simp only [push_cast,seval,reduceEqDiff]
   repeat' (first|(((first|apply condU_s|apply gdU_t|apply gdU_f)<;>intro _h)<;>(simp only [push_cast,seval,reduceEqDiff,_h];try (have _g:=_h;simp at _g)))|((first|refine c_call (by exact h1) ?_|refine c_call (by exact h2) ?_|refine c_call (by exact hc) ?_|refine c_call (by exact hv) ?_);simp only [push_cast,seval,reduceEqDiff])|intro _)
   all_goals subst hS
   all_goals (first|(refine finW_ret ?_;simp [get, *]<;>(intros;omega);done)|(refine finW_rets ?_;simp [push_cast,get, *];done)|skip)
  ·skip
   refine fn_retW (vs:=[.b S]) f118ok (by simp) (by simp) fun n0 hn0=>?_
   clear hn0
   simp only [push_cast,seval,reduceEqDiff]
   repeat' (first|(((first|apply condU_s|apply gdU_t|apply gdU_f)<;>intro _h)<;>(simp only [push_cast,seval,reduceEqDiff,_h];try (have _g:=_h;simp at _g)))|((first|refine c_call (by exact h1) ?_|refine c_call (by exact h2) ?_|refine c_call (by exact hc) ?_);simp only [push_cast,seval,reduceEqDiff])|intro _)
   all_goals subst hS
   all_goals (first|(refine finW_ret ?_;simp [get, *]<;>(intros;omega);done)|(refine finW_rets ?_;simp [push_cast,get, *];done)|skip)
theorem orL_all:∀n:_root_.Fin 256,((decide (IntKind.u8.wrap ((BitVec.ofInt 8 (n.val:Int) ||| BitVec.ofInt 8 32).toNat)<97)||decide (IntKind.u8.wrap ((BitVec.ofInt 8 (n.val:Int) ||| BitVec.ofInt 8 32).toNat)>122)) == !skelB (n.val:Int))=true:=by decide +kernel
theorem orL (c:UInt8):∃m,puF (.bit .or) [.i .u8 (c.toNat:Int),.i .u8 32]=some (.i .u8 m)/\(decide (m<97)||decide (m>122)) = !skelB (c.toNat:Int):=
 ⟨_,rfl,eq_of_beq (orL_all ⟨c.toNat,c.toNat_lt⟩)⟩
theorem c_vSkeleton (s:Bytes) (hs:s.length<SLim):RetS Tryz.prog W0 76 [.s s] [] (.b (skeletonB s)) []:=by
 generalize hS:skeletonB s=S
 unfold skeletonB at hS
 generalize hT:(decide ((s.length:Int)>=1)&&decide ((s.length:Int)<=40))=T at hS
 refine fn_retW (vs:=[.b S]) f76ok (by simp) (by simp) fun n0 hn0=>?_
 clear hn0
 simp only [push_cast,seval,reduceEqDiff]
 intro _ _
 refine aWP_loopW s.length (Inv:=fun m st=>∃done rest n,s=done++rest/\m=rest.length/\(allB skelB rest&&T)=S/\st=⟨[(0,.s s),(6,.i .i64 s.length),(7,.i .i64 done.length)],[],n⟩) ⟨_,StLe.refl,[],_,_,rfl,rfl,hS,rfl⟩ ?_
 clear hS
 rintro m _ ⟨done,rest,n,hz,rfl,hd,rfl⟩
 cases rest with
 | nil=>
  have hd:T=S:=by rw [<-hd];rfl
  rw [List.append_nil] at hz
  subst hz
  cases s with
  | nil=>
   simp only [push_cast,seval,reduceEqDiff]
   repeat' (first|(((first|apply condU_s|apply gdU_t|apply gdU_f)<;>intro _h)<;>(simp only [push_cast,seval,reduceEqDiff,_h];try (have _g:=_h;simp at _g)))|intro _)
   all_goals (first|(refine finW_ret ?_;simp [get,<-hd,<-hT, *]<;>(intros;omega);done)|(refine finW_rets ?_;simp [push_cast,get,<-hd,<-hT, *];done)|skip)
  | cons c0 r0=>
   simp only [push_cast,seval,reduceEqDiff]
   repeat' (first|(((first|apply condU_s|apply gdU_t|apply gdU_f)<;>intro _h)<;>(simp only [push_cast,seval,reduceEqDiff,_h];try (have _g:=_h;simp at _g)))|intro _)
   all_goals (first|(refine finW_ret ?_;simp [get,<-hd,<-hT, *]<;>(intros;omega);done)|(refine finW_rets ?_;simp [push_cast,get,<-hd,<-hT, *];done)|skip)
 | cons c rest=>
  have hb:=zip_bd hz
  obtain ⟨m,hm1,hm2⟩:=orL c
  rw [allB] at hd
  generalize skelB (c.toNat:Int)=A1 at *
  simp only [push_cast,seval,reduceEqDiff,hz,wrap_zipS c (done:=done) (by omega),hm1]
  repeat' (first|(((first|apply condU_s|apply gdU_t|apply gdU_f)<;>intro _h)<;>simp only [push_cast,seval,reduceEqDiff,_h,hz,wrap_zipS c (done:=done) (by omega),hm1])|intro _)
  all_goals (simp only [*,bq,if_true,if_false,Int.reduceBEq,reduceCtorEq,Bool.or_true] at hm2)
  all_goals (have hA:A1 = !(!A1):=(Bool.not_not A1).symm;rw [<-hm2] at hA;subst hA;simp only [bq,if_true,if_false,Int.reduceBEq,reduceCtorEq,Bool.not_true,Bool.not_false,Bool.true_and,Bool.false_and] at hd)
  all_goals (first|(subst hd;exact finW_ret (by simp [get]))|exact ⟨_,_,Nat.lt_succ_self _,StLe.refl,done++[c],rest,_,by simp,rfl,hd,rfl⟩)
def seenE (l:List Bytes):List (V × V):=l.map fun n=>(.s n,.b true)
theorem find_seen (x:Bytes) (l:List Bytes):∀n,(l.contains x=true/\∃i,findV .str (.s x) (seenE l) n=some (some (i,.b true)))\/(l.contains x=false/\findV .str (.s x) (seenE l) n=some none):=by
 induction l with
 | nil=>intro n;exact .inr ⟨rfl,rfl⟩
 | cons e l ih=>
  intro n
  have hu:findV .str (.s x) (seenE (e::l)) n=(match keyEq .str (.s x) (.s e) with
   | some true=>some (some (n,.b true))
   | some false=>findV .str (.s x) (seenE l) (n+1)
   | none=>none):=rfl
  have hk:keyEq .str (.s x) (.s e)=some (x == e):=rfl
  rw [hu,hk,List.contains_cons]
  cases hb:(x == e) with
  | true=>exact .inl ⟨rfl,n,rfl⟩
  | false=>simp only [Bool.false_or];exact ih (n+1)
theorem c_vNamed (names:List Bytes) (h1:names.length<=2^40) (hs:∀s∈names,s.length<SLim):RetS Tryz.prog W0 47 [.sl (names.map V.s)] [] (.b (namedB names)) []:=by
 generalize hS:namedB names=S
 unfold namedB at hS
 refine fn_retW (vs:=[.b S]) f47ok (by simp) (by simp) fun n0 hn0=>?_
 clear hn0
 simp only [push_cast,seval,reduceEqDiff]
 intros
 rename_i k1 k2 k3
 refine aWP_loopW names.length (Inv:=fun m st=>∃done rest n m0,names=done++rest/\m=rest.length/\(namedGo done rest&&decide ((names.length:Int)<=20))=S/\st=⟨[(0,.sl (names.map V.s)),(3,.arr (m0,6)),(7,.sl (names.map V.s)),(8,.i .i64 names.length),(9,.i .i64 done.length)],[((m0,6),.map (seenE done))],n⟩) ⟨_,StLe.refl,[],names,_,_,rfl,rfl,hS,rfl⟩ ?_
 clear hS
 rintro m _ ⟨done,rest,n,m0,hz,rfl,hd,rfl⟩
 cases rest with
 | nil=>
  rw [namedGo,Bool.true_and] at hd
  subst hd
  have e1:decide ((done.length:Int)<(names.length:Int))=false:=by rw [hz];simp
  simp only [push_cast,seval,reduceEqDiff,e1]
  intros
  exact finW_ret (by simp [get])
 | cons x rest=>
  have hbd:=zip_bd hz
  have e1:=strV' hz
  have e2:=zipLt hz
  have e3:done.length<names.length:=by omega
  have e4:=wrap_zip x (done:=done) (by omega)
  have hc1:=c_tName W0 x (hs x (by rw [hz];simp))
  have hap:seenE done++[(V.s x,V.b true)]=seenE (done++[x]):=by simp [seenE]
  rw [namedGo] at hd
  generalize nameB x=A1 at *
  rcases find_seen x done 0 with ⟨hc,i,hf⟩|⟨hc,hf⟩
  all_goals rw [hc] at hd
  all_goals cases A1
  all_goals simp only [bq,if_true,if_false,Int.reduceBEq,reduceCtorEq] at hd
  all_goals simp only [push_cast,seval,reduceEqDiff,e1,e2,e3,e4,List.length_map,hf,hap]
  all_goals (repeat' (first|(refine c_call (by exact hc1) ?_;simp only [push_cast,seval,reduceEqDiff,e1,e2,e3,e4,List.length_map,hf,hap])|intro _))
  all_goals (first|(subst hd;exact finW_ret (by simp [get]))|exact ⟨_,_,Nat.lt_succ_self _,StLe.refl,done++[x],rest,_,_,by rw [hz];simp,rfl,hd,rfl⟩)
theorem caseL_pre (l:List Ins):∃r,l=caseL l++r:=by
 induction l with
 | nil=>exact ⟨[],rfl⟩
 | cons x r ih=>
  rw [caseL]
  split
  ·obtain ⟨q,hq⟩:=ih;exact ⟨q,by rw [List.cons_append,<-hq]⟩
  ·exact ⟨x::r,rfl⟩
set_option maxHeartbeats 4000000 in
theorem c_vCases (names:List Bytes) (ins:List Ins) (i:Nat) (hi:i<ins.length) (hl:ins.length<=2^30):RetS Tryz.prog W0 80 [codeV names ins,.i .i64 i] [] (.sl ((caseL (ins.drop (i+1))).map Ins.enc)) []:=by
 have ew:IntKind.i64.wrap ((i:Int)+1)=((ins.take (i+1)).length:Int):=by rw [wrap64 (by omega) (by omega),List.length_take,Nat.min_eq_left (by omega)];simp
 have hcel:∀y∈ins.map Ins.enc,(cells y).length=4:=fun y hy=>by obtain ⟨z,_,rfl⟩:=List.mem_map.1 hy;rfl
 unfold codeV
 generalize hS:caseL (ins.drop (i+1))=S
 refine fn_retW (vs:=[.sl (S.map Ins.enc)]) f80ok (by simp) (by simp) fun n0 hn0=>?_
 clear hn0
 simp only [push_cast,seval,reduceEqDiff,ew]
 intros
 refine aWP_loopW (ins.drop (i+1)).length (Inv:=fun m st=>∃c rest done n b0,done=ins.take (i+1)++c/\ins=done++rest/\m=rest.length/\c++caseL rest=S/\st=⟨[(1,.i .i64 i),(2,.ref (b0,2) 0),(5,.i .i64 done.length)],[((b0,2),.box (.agg [.sl (names.map V.s),.sl (ins.map Ins.enc)]))],n⟩) ⟨_,StLe.refl,[],ins.drop (i+1),ins.take (i+1),_,_,by simp,(List.take_append_drop _ _).symm,rfl,hS,rfl⟩ ?_
 clear hS
 rintro m _ ⟨c,rest,done,n,b0,hdn,hz,rfl,hd,rfl⟩
 have htl:(ins.take (i+1)).length=i+1:=by rw [List.length_take,Nat.min_eq_left (by omega)]
 have hdl:done.length<=ins.length:=by rw [hz];simp
 have hdl2:(ins.take (i+1)).length<=done.length:=by rw [hdn];simp
 have hcut:(if (ins.take (i+1)).length<=done.length/\done.length<=ins.length then some (V.sl (List.drop (ins.take (i+1)).length (List.take done.length (ins.map Ins.enc)))) else none)=some (V.sl (c.map Ins.enc)):=by
  rw [if_pos ⟨hdl2,hdl⟩]
  have h1:List.take done.length (ins.map Ins.enc)=done.map Ins.enc:=by
   conv=>lhs;rw [hz]
   simp
  rw [h1,hdn,List.map_append,List.drop_append_of_le_length (by simp)]
  simp
 have hle:((ins.take (i+1)).length<=done.length/\done.length<=ins.length)=True:=eq_true ⟨hdl2,hdl⟩
 cases rest with
 | nil=>
  have e1:decide ((done.length:Int)<(ins.length:Int))=false:=by rw [hz];simp
  rw [caseL,List.append_nil] at hd
  subst hd
  simp only [push_cast,seval,reduceEqDiff,e1,ew,eq_true hcel,hcut,List.length_map]
  intros
  exact finW_ret (by simp [get])
 | cons x rest=>
  have hbd:=zip_bd hz
  have e1:=insV hz
  have e2:=zipLt hz
  have e3:done.length<ins.length:=by omega
  have e4:=wrap_zip x (done:=done) (by omega)
  rw [caseL] at hd
  cases hop:(x.op == 11) with
  | false=>
   rw [hop] at hd
   simp only [Bool.false_eq_true,if_false,List.append_nil] at hd
   subst hd
   simp only [push_cast,seval,reduceEqDiff,e1,e2,e3,hop,ew,eq_true hcel,hcut,List.length_map]
   intros
   exact finW_ret (by simp [get])
  | true=>
   rw [hop] at hd
   simp only [if_true] at hd
   simp only [push_cast,seval,reduceEqDiff,e1,e2,e3,e4,hop,List.length_map]
   intros
   exact ⟨_,_,Nat.lt_succ_self _,StLe.refl,c++[x],rest,done++[x],_,_,by rw [hdn];simp,by rw [hz];simp,rfl,by rw [<-hd];simp,rfl⟩
set_option maxHeartbeats 4000000 in
theorem c_alternatives (names:List Bytes) (ins:List Ins) (i:Nat) (x0:Ins) (hx0:ins[i]? = some x0) (hl:ins.length<=2^30) (hs:∀x∈ins,x.s.length<=2^30) :
  RetS Tryz.prog W0 77 [codeV names ins,.i .i64 i] [] (.b (selB x0.b&&altB x0.b (caseL (ins.drop (i+1))))) []:=by
 have hi:i<ins.length:=(List.getElem?_eq_some_iff.1 hx0).1
 have ex0:(ins.map Ins.enc)[i]? = some (.agg [.i .i64 x0.op,.i .i64 x0.a,.i .i64 x0.b,.s x0.s]):=by rw [List.getElem?_map,hx0];rfl
 have hcs:=c_vCases W0 names ins i hi hl
 have hsel:=c_sSel W0 x0.b
 obtain ⟨q,hq⟩:=caseL_pre (ins.drop (i+1))
 have hLl:(caseL (ins.drop (i+1))).length<=ins.length:=by have:=congrArg List.length hq;simp at this;omega
 have hLm:∀x∈caseL (ins.drop (i+1)),x∈ins:=fun x hx=>List.mem_of_mem_drop (by rw [hq];exact List.mem_append_left _ hx)
 rw [altB_go]
 generalize caseL (ins.drop (i+1))=L at *
 generalize hS:(selB x0.b&&altGo x0.b [] L)=S
 generalize selB x0.b=A0 at *
 unfold codeV at *
 refine fn_retW (vs:=[.b S]) f77ok (by simp) (by simp) fun n0 hn0=>?_
 clear hn0
 simp only [push_cast,seval,reduceEqDiff]
 repeat' (first|(((first|apply condU_s|apply gdU_t|apply gdU_f)<;>intro _h)<;>simp only [push_cast,seval,reduceEqDiff,_h])|(refine c_call (by exact hcs) ?_;simp only [push_cast,seval,reduceEqDiff])|intro _)
 refine aWP_loopW L.length (Inv:=fun m st=>∃done rest n m0 b0,L=done++rest/\m=rest.length/\(A0&&altGo x0.b (done.map (·.s)) rest)=S/\st=⟨[(1,.i .i64 i),(2,.ref (b0,2) 0),(5,.sl (L.map Ins.enc)),(6,.arr (m0,12)),(13,.sl (L.map Ins.enc)),(14,.i .i64 L.length),(15,.i .i64 done.length)],[((m0,12),.map (seenE (done.map (·.s)))),((b0,2),.box (.agg [.sl (names.map V.s),.sl (ins.map Ins.enc)]))],n⟩) ⟨_,StLe.refl,[],L,_,_,_,rfl,rfl,hS,rfl⟩ ?_
 clear hS
 rintro m _ ⟨done,rest,n,m0,b0,hz,rfl,hd,rfl⟩
 cases rest with
 | nil=>
  have e1:decide ((done.length:Int)<(L.length:Int))=false:=by rw [hz];simp
  have hdl:(done.map (·.s)).length=L.length:=by rw [hz];simp
  rw [altGo_nil,hdl] at hd
  rcases find_seen kOtherS (done.map (·.s)) 0 with ⟨hc,j,hf⟩|⟨hc,hf⟩
  ·rw [hc] at hd
   have e5:decide ((L.length:Int)>=1)=true:=by
    rw [hz]
    cases done with
    | nil=>simp at hc
    | cons y r=>simp;omega
   simp only [kOtherS] at hf
   clear hz
   simp only [push_cast,seval,reduceEqDiff,e1,ex0,hi,List.length_map]
   repeat' (first|(((first|apply condU_s|apply gdU_t|apply gdU_f)<;>intro _h)<;>simp only [push_cast,seval,reduceEqDiff,_h,e1,ex0,hi,List.length_map,hf,e5])|(refine c_call (by exact hsel) ?_;simp only [push_cast,seval,reduceEqDiff,e1,ex0,hi,List.length_map,hf,e5])|intro _)
   all_goals (subst hd;refine finW_ret ?_;simp only [get_cons,if_true,if_false, *,bq,reduceEqDiff];done)
  ·rw [hc] at hd
   simp only [kOtherS] at hf
   clear hz
   simp only [push_cast,seval,reduceEqDiff,e1,ex0,hi,List.length_map]
   repeat' (first|(((first|apply condU_s|apply gdU_t|apply gdU_f)<;>intro _h)<;>simp only [push_cast,seval,reduceEqDiff,_h,e1,ex0,hi,List.length_map,hf])|(refine c_call (by exact hsel) ?_;simp only [push_cast,seval,reduceEqDiff,e1,ex0,hi,List.length_map,hf])|intro _)
   all_goals (subst hd;refine finW_ret ?_;simp only [get_cons,if_true,if_false, *,bq,reduceEqDiff];done)
 | cons x rest=>
  have hbd:=zip_bd hz
  have e1:=insV hz
  have e2:=zipLt hz
  have e3:done.length<L.length:=by omega
  have e4:=wrap_zip x (done:=done) (by omega)
  have hky:=c_vKey W0 x0.b x.s (hs x (hLm x (by rw [hz];simp)))
  have hap:seenE (done.map (·.s))++[(V.s x.s,V.b true)]=seenE ((done++[x]).map (·.s)):=by simp [seenE]
  rw [altGo_cons] at hd
  have hdm:done.map (·.s)++[x.s]=(done++[x]).map (·.s):=by simp
  rw [hdm] at hd
  clear hdm
  generalize keyB x0.b x.s=A1 at *
  rcases find_seen x.s (done.map (·.s)) 0 with ⟨hc,j,hf⟩|⟨hc,hf⟩
  all_goals rw [hc] at hd
  all_goals cases A1
  all_goals simp only [bq,if_true,if_false,Int.reduceBEq,reduceCtorEq,Bool.and_false] at hd
  all_goals simp only [push_cast,seval,reduceEqDiff,e1,e2,e3,e4,List.length_map,hf,hap,ex0,hi]
  all_goals (repeat' (first|(refine c_call (by exact hky) ?_;simp only [push_cast,seval,reduceEqDiff,e1,e2,e3,e4,List.length_map,hf,hap,ex0,hi])|intro _))
  all_goals (first|(subst hd;exact finW_ret (by simp [get]))|exact ⟨_,_,Nat.lt_succ_self _,StLe.sub (by simp) (fun p hp=>by simp at hp⊢;rcases hp with h|h<;>simp [h]) (Nat.le_refl _),done++[x],rest,_,_,_,by rw [hz];simp,rfl,hd,rfl⟩)
theorem c_target (names:List Bytes) (ins:List Ins) (i:Nat) (a:Int) (hl:ins.length<=2^30):RetS Tryz.prog W0 78 [codeV names ins,.i .i64 i,.i .i64 a] [] (.b (tgtB ins i a)) []:=by
 unfold tgtB codeV
 have g1:decide (a>(i:Int)) = !decide (a<=(i:Int)):=by rw [Bool.eq_iff_iff];simp
 have g2:decide (a<(ins.length:Int)) = !decide (a>=(ins.length:Int)):=by rw [Bool.eq_iff_iff];simp
 cases h1:decide (a<=(i:Int)) with
 | true=>
  rw [h1] at g1
  refine fn_retW (vs:=[.b false]) f78ok (by simp) (by simp) fun n0 hn0=>?_
  clear hn0
  simp only [push_cast,seval,reduceEqDiff,g1,Bool.not_true,Bool.not_false]
  repeat' (first|(((first|apply condU_s|apply gdU_t|apply gdU_f)<;>intro _h)<;>simp only [push_cast,seval,reduceEqDiff,_h,g1,Bool.not_true,Bool.not_false])|intro _)
  all_goals exact finW_ret (by simp [get])
 | false=>
 rw [h1] at g1
 cases h2:decide (a>=(ins.length:Int)) with
 | true=>
  rw [h2] at g2
  refine fn_retW (vs:=[.b false]) f78ok (by simp) (by simp) fun n0 hn0=>?_
  clear hn0
  simp only [push_cast,seval,reduceEqDiff,g1,g2,Bool.not_true,Bool.not_false,List.length_map]
  repeat' (first|(((first|apply condU_s|apply gdU_t|apply gdU_f)<;>intro _h)<;>simp only [push_cast,seval,reduceEqDiff,_h,g1,g2,Bool.not_true,Bool.not_false,List.length_map])|intro _)
  all_goals exact finW_ret (by simp [get])
 | false=>
 rw [h2] at g2
 have ha:0<=a/\a.toNat<ins.length:=by simp at h1 h2;omega
 have ha0:(0<=a)=True:=eq_true ha.1
 obtain ⟨y,hy⟩:∃y,ins[a.toNat]? = some y:=⟨_,List.getElem?_eq_getElem ha.2⟩
 have ey:(ins.map Ins.enc)[a.toNat]? = some (.agg [.i .i64 y.op,.i .i64 y.a,.i .i64 y.b,.s y.s]):=by rw [List.getElem?_map,hy];rfl
 have eo:opAt ins a.toNat=y.op:=by unfold opAt;rw [hy]
 have hal:=ha.2
 have en:(y.op != 11) = !(y.op == 11):=rfl
 rw [eo]
 generalize (y.op == 11)=A1 at *
 refine fn_retW (vs:=[.b (!A1)]) f78ok (by simp) (by simp) fun n0 hn0=>?_
 clear hn0
 simp only [push_cast,seval,reduceEqDiff,g1,g2,Bool.not_true,Bool.not_false,List.length_map,ha0,ey,hal,en]
 repeat' (first|(((first|apply condU_s|apply gdU_t|apply gdU_f)<;>intro _h)<;>simp only [push_cast,seval,reduceEqDiff,_h,g1,g2,Bool.not_true,Bool.not_false,List.length_map,ha0,ey,hal,en])|intro _)
 all_goals exact finW_ret (by simp [get])
theorem c_fields1:RetS Tryz.prog W0 75 [.i .i64 1] [] (.tup [.agg [.b false,.b false,.b true],.b true]) []:=by
 refine fn_retW (vs:=[.agg [.b false,.b false,.b true],.b true]) f75ok (by simp) (by simp) fun n0 hn0=>?_
 clear hn0
 simp only [push_cast,seval,reduceEqDiff]
 repeat' (first|(((first|apply condU_s|apply gdU_t|apply gdU_f)<;>intro _h)<;>simp only [push_cast,seval,reduceEqDiff,_h])|intro _)
 all_goals (refine finW_rets ?_;simp [push_cast,get])
theorem c_fields2:RetS Tryz.prog W0 75 [.i .i64 2] [] (.tup [.agg [.b false,.b false,.b true],.b true]) []:=by
 refine fn_retW (vs:=[.agg [.b false,.b false,.b true],.b true]) f75ok (by simp) (by simp) fun n0 hn0=>?_
 clear hn0
 simp only [push_cast,seval,reduceEqDiff]
 repeat' (first|(((first|apply condU_s|apply gdU_t|apply gdU_f)<;>intro _h)<;>simp only [push_cast,seval,reduceEqDiff,_h])|intro _)
 all_goals (refine finW_rets ?_;simp [push_cast,get])
theorem c_fields3:RetS Tryz.prog W0 75 [.i .i64 3] [] (.tup [.agg [.b false,.b false,.b true],.b true]) []:=by
 refine fn_retW (vs:=[.agg [.b false,.b false,.b true],.b true]) f75ok (by simp) (by simp) fun n0 hn0=>?_
 clear hn0
 simp only [push_cast,seval,reduceEqDiff]
 repeat' (first|(((first|apply condU_s|apply gdU_t|apply gdU_f)<;>intro _h)<;>simp only [push_cast,seval,reduceEqDiff,_h])|intro _)
 all_goals (refine finW_rets ?_;simp [push_cast,get])
theorem c_fields4:RetS Tryz.prog W0 75 [.i .i64 4] [] (.tup [.agg [.b false,.b false,.b true],.b true]) []:=by
 refine fn_retW (vs:=[.agg [.b false,.b false,.b true],.b true]) f75ok (by simp) (by simp) fun n0 hn0=>?_
 clear hn0
 simp only [push_cast,seval,reduceEqDiff]
 repeat' (first|(((first|apply condU_s|apply gdU_t|apply gdU_f)<;>intro _h)<;>simp only [push_cast,seval,reduceEqDiff,_h])|intro _)
 all_goals (refine finW_rets ?_;simp [push_cast,get])
theorem c_fields5:RetS Tryz.prog W0 75 [.i .i64 5] [] (.tup [.agg [.b true,.b false,.b false],.b true]) []:=by
 refine fn_retW (vs:=[.agg [.b true,.b false,.b false],.b true]) f75ok (by simp) (by simp) fun n0 hn0=>?_
 clear hn0
 simp only [push_cast,seval,reduceEqDiff]
 repeat' (first|(((first|apply condU_s|apply gdU_t|apply gdU_f)<;>intro _h)<;>simp only [push_cast,seval,reduceEqDiff,_h])|intro _)
 all_goals (refine finW_rets ?_;simp [push_cast,get])
theorem c_fields6:RetS Tryz.prog W0 75 [.i .i64 6] [] (.tup [.agg [.b true,.b false,.b true],.b true]) []:=by
 refine fn_retW (vs:=[.agg [.b true,.b false,.b true],.b true]) f75ok (by simp) (by simp) fun n0 hn0=>?_
 clear hn0
 simp only [push_cast,seval,reduceEqDiff]
 repeat' (first|(((first|apply condU_s|apply gdU_t|apply gdU_f)<;>intro _h)<;>simp only [push_cast,seval,reduceEqDiff,_h])|intro _)
 all_goals (refine finW_rets ?_;simp [push_cast,get])
theorem c_fields7:RetS Tryz.prog W0 75 [.i .i64 7] [] (.tup [.agg [.b true,.b false,.b true],.b true]) []:=by
 refine fn_retW (vs:=[.agg [.b true,.b false,.b true],.b true]) f75ok (by simp) (by simp) fun n0 hn0=>?_
 clear hn0
 simp only [push_cast,seval,reduceEqDiff]
 repeat' (first|(((first|apply condU_s|apply gdU_t|apply gdU_f)<;>intro _h)<;>simp only [push_cast,seval,reduceEqDiff,_h])|intro _)
 all_goals (refine finW_rets ?_;simp [push_cast,get])
theorem c_fields8:RetS Tryz.prog W0 75 [.i .i64 8] [] (.tup [.agg [.b true,.b false,.b true],.b true]) []:=by
 refine fn_retW (vs:=[.agg [.b true,.b false,.b true],.b true]) f75ok (by simp) (by simp) fun n0 hn0=>?_
 clear hn0
 simp only [push_cast,seval,reduceEqDiff]
 repeat' (first|(((first|apply condU_s|apply gdU_t|apply gdU_f)<;>intro _h)<;>simp only [push_cast,seval,reduceEqDiff,_h])|intro _)
 all_goals (refine finW_rets ?_;simp [push_cast,get])
theorem c_fields9:RetS Tryz.prog W0 75 [.i .i64 9] [] (.tup [.agg [.b true,.b false,.b true],.b true]) []:=by
 refine fn_retW (vs:=[.agg [.b true,.b false,.b true],.b true]) f75ok (by simp) (by simp) fun n0 hn0=>?_
 clear hn0
 simp only [push_cast,seval,reduceEqDiff]
 repeat' (first|(((first|apply condU_s|apply gdU_t|apply gdU_f)<;>intro _h)<;>simp only [push_cast,seval,reduceEqDiff,_h])|intro _)
 all_goals (refine finW_rets ?_;simp [push_cast,get])
theorem c_fields10:RetS Tryz.prog W0 75 [.i .i64 10] [] (.tup [.agg [.b true,.b true,.b false],.b true]) []:=by
 refine fn_retW (vs:=[.agg [.b true,.b true,.b false],.b true]) f75ok (by simp) (by simp) fun n0 hn0=>?_
 clear hn0
 simp only [push_cast,seval,reduceEqDiff]
 repeat' (first|(((first|apply condU_s|apply gdU_t|apply gdU_f)<;>intro _h)<;>simp only [push_cast,seval,reduceEqDiff,_h])|intro _)
 all_goals (refine finW_rets ?_;simp [push_cast,get])
theorem c_fields11:RetS Tryz.prog W0 75 [.i .i64 11] [] (.tup [.agg [.b true,.b false,.b true],.b true]) []:=by
 refine fn_retW (vs:=[.agg [.b true,.b false,.b true],.b true]) f75ok (by simp) (by simp) fun n0 hn0=>?_
 clear hn0
 simp only [push_cast,seval,reduceEqDiff]
 repeat' (first|(((first|apply condU_s|apply gdU_t|apply gdU_f)<;>intro _h)<;>simp only [push_cast,seval,reduceEqDiff,_h])|intro _)
 all_goals (refine finW_rets ?_;simp [push_cast,get])
theorem c_fields12:RetS Tryz.prog W0 75 [.i .i64 12] [] (.tup [.agg [.b true,.b false,.b false],.b true]) []:=by
 refine fn_retW (vs:=[.agg [.b true,.b false,.b false],.b true]) f75ok (by simp) (by simp) fun n0 hn0=>?_
 clear hn0
 simp only [push_cast,seval,reduceEqDiff]
 repeat' (first|(((first|apply condU_s|apply gdU_t|apply gdU_f)<;>intro _h)<;>simp only [push_cast,seval,reduceEqDiff,_h])|intro _)
 all_goals (refine finW_rets ?_;simp [push_cast,get])
theorem c_fields13:RetS Tryz.prog W0 75 [.i .i64 13] [] (.tup [.agg [.b false,.b false,.b false],.b true]) []:=by
 refine fn_retW (vs:=[.agg [.b false,.b false,.b false],.b true]) f75ok (by simp) (by simp) fun n0 hn0=>?_
 clear hn0
 simp only [push_cast,seval,reduceEqDiff]
 repeat' (first|(((first|apply condU_s|apply gdU_t|apply gdU_f)<;>intro _h)<;>simp only [push_cast,seval,reduceEqDiff,_h])|intro _)
 all_goals (refine finW_rets ?_;simp [push_cast,get])
theorem c_fields0 (k:Int) (hk:k<1\/k>13):RetS Tryz.prog W0 75 [.i .i64 k] [] (.tup [.agg [.b false,.b false,.b false],.b false]) []:=by
 rcases hk with hk|hk
 ·have g1:decide (k<1)=true:=by simp;omega
  refine fn_retW (vs:=[.agg [.b false,.b false,.b false],.b false]) f75ok (by simp) (by simp) fun n0 hn0=>?_
  clear hn0
  simp only [push_cast,seval,reduceEqDiff,g1]
  repeat' (first|(((first|apply condU_s|apply gdU_t|apply gdU_f)<;>intro _h)<;>simp only [push_cast,seval,reduceEqDiff,_h,g1])|intro _)
  all_goals (refine finW_rets ?_;simp [push_cast,get])
 ·have g1:decide (k<1)=false:=by simp;omega
  have g2:decide (k>13)=true:=by simp;omega
  refine fn_retW (vs:=[.agg [.b false,.b false,.b false],.b false]) f75ok (by simp) (by simp) fun n0 hn0=>?_
  clear hn0
  simp only [push_cast,seval,reduceEqDiff,g1,g2]
  repeat' (first|(((first|apply condU_s|apply gdU_t|apply gdU_f)<;>intro _h)<;>simp only [push_cast,seval,reduceEqDiff,_h,g1,g2])|intro _)
  all_goals (refine finW_rets ?_;simp [push_cast,get])
set_option maxHeartbeats 4000000 in
theorem vp1 (names:List Bytes) (ins:List Ins) (i:Nat) (a b:Int) (s:Bytes) (hx:ins[i]? = some ⟨1,a,b,s⟩) (hn:names.length<=2^30) (hl:ins.length<=2^30) (hs:∀x∈ins,x.s.length<=2^30) :
  RetS Tryz.prog W0 48 [codeV names ins,.i .i64 i] [] (.b (propB names.length ins i ⟨1,a,b,s⟩)) []:=by
 have hi:i<ins.length:=(List.getElem?_eq_some_iff.1 hx).1
 have ex:(ins.map Ins.enc)[i]? = some (.agg [.i .i64 1,.i .i64 a,.i .i64 b,.s s]):=by rw [List.getElem?_map,hx];rfl
 have e1:decide ((i:Int)<0)=false:=by simp
 have e2:decide ((i:Int)>=(ins.length:Int))=false:=by simp;omega
 have hsb:s.length<=2^30:=hs _ (List.mem_of_getElem? hx)
 have hcf:=c_fields1 W0
 generalize hS:propB names.length ins i ⟨1,a,b,s⟩=S
 simp only [propB,argB,Int.reduceBEq,Int.reduceBNe,bq,if_true,if_false,Int.reduceBEq,reduceCtorEq,Bool.or_false,Bool.or_true] at hS
 unfold codeV
 refine fn_retW (vs:=[.b S]) f48ok (by simp) (by simp) fun n0 hn0=>?_
 clear hn0
 simp only [push_cast,seval,reduceEqDiff,ex,e1,e2,hi,List.length_map,Int.reduceBEq,Int.reduceBNe]
 repeat' (first|(((first|apply condU_s|apply gdU_t|apply gdU_f)<;>intro _h)<;>simp only [push_cast,seval,reduceEqDiff,_h,ex,e1,e2,hi,List.length_map,Int.reduceBEq,Int.reduceBNe])|(refine c_call (by exact hcf) ?_;simp only [push_cast,seval,reduceEqDiff,ex,e1,e2,hi,List.length_map,Int.reduceBEq,Int.reduceBNe])|intro _)
 all_goals subst hS
 all_goals (refine finW_ret ?_;simp only [get_cons,if_true,if_false, *,bq,reduceEqDiff];done)
set_option maxHeartbeats 4000000 in
theorem vp2 (names:List Bytes) (ins:List Ins) (i:Nat) (a b:Int) (s:Bytes) (hx:ins[i]? = some ⟨2,a,b,s⟩) (hn:names.length<=2^30) (hl:ins.length<=2^30) (hs:∀x∈ins,x.s.length<=2^30) :
  RetS Tryz.prog W0 48 [codeV names ins,.i .i64 i] [] (.b (propB names.length ins i ⟨2,a,b,s⟩)) []:=by
 have hi:i<ins.length:=(List.getElem?_eq_some_iff.1 hx).1
 have ex:(ins.map Ins.enc)[i]? = some (.agg [.i .i64 2,.i .i64 a,.i .i64 b,.s s]):=by rw [List.getElem?_map,hx];rfl
 have e1:decide ((i:Int)<0)=false:=by simp
 have e2:decide ((i:Int)>=(ins.length:Int))=false:=by simp;omega
 have hsb:s.length<=2^30:=hs _ (List.mem_of_getElem? hx)
 have hcf:=c_fields2 W0
 have hc1:=c_tName W0 s (by unfold SLim;omega)
 generalize hS:propB names.length ins i ⟨2,a,b,s⟩=S
 simp only [propB,argB,Int.reduceBEq,Int.reduceBNe,bq,if_true,if_false,Int.reduceBEq,reduceCtorEq,Bool.or_false,Bool.or_true] at hS
 generalize nameB s=A1 at *
 unfold codeV
 refine fn_retW (vs:=[.b S]) f48ok (by simp) (by simp) fun n0 hn0=>?_
 clear hn0
 simp only [push_cast,seval,reduceEqDiff,ex,e1,e2,hi,List.length_map,Int.reduceBEq,Int.reduceBNe]
 repeat' (first|(((first|apply condU_s|apply gdU_t|apply gdU_f)<;>intro _h)<;>simp only [push_cast,seval,reduceEqDiff,_h,ex,e1,e2,hi,List.length_map,Int.reduceBEq,Int.reduceBNe])|((first|refine c_call (by exact hcf) ?_|refine c_call (by exact hc1) ?_);simp only [push_cast,seval,reduceEqDiff,ex,e1,e2,hi,List.length_map,Int.reduceBEq,Int.reduceBNe])|intro _)
 all_goals subst hS
 all_goals (refine finW_ret ?_;simp only [get_cons,if_true,if_false, *,bq,reduceEqDiff];done)
set_option maxHeartbeats 4000000 in
theorem vp3 (names:List Bytes) (ins:List Ins) (i:Nat) (a b:Int) (s:Bytes) (hx:ins[i]? = some ⟨3,a,b,s⟩) (hn:names.length<=2^30) (hl:ins.length<=2^30) (hs:∀x∈ins,x.s.length<=2^30) :
  RetS Tryz.prog W0 48 [codeV names ins,.i .i64 i] [] (.b (propB names.length ins i ⟨3,a,b,s⟩)) []:=by
 have hi:i<ins.length:=(List.getElem?_eq_some_iff.1 hx).1
 have ex:(ins.map Ins.enc)[i]? = some (.agg [.i .i64 3,.i .i64 a,.i .i64 b,.s s]):=by rw [List.getElem?_map,hx];rfl
 have e1:decide ((i:Int)<0)=false:=by simp
 have e2:decide ((i:Int)>=(ins.length:Int))=false:=by simp;omega
 have hsb:s.length<=2^30:=hs _ (List.mem_of_getElem? hx)
 have hcf:=c_fields3 W0
 have hc1:=c_tName W0 s (by unfold SLim;omega)
 generalize hS:propB names.length ins i ⟨3,a,b,s⟩=S
 simp only [propB,argB,Int.reduceBEq,Int.reduceBNe,bq,if_true,if_false,Int.reduceBEq,reduceCtorEq,Bool.or_false,Bool.or_true] at hS
 generalize nameB s=A1 at *
 unfold codeV
 refine fn_retW (vs:=[.b S]) f48ok (by simp) (by simp) fun n0 hn0=>?_
 clear hn0
 simp only [push_cast,seval,reduceEqDiff,ex,e1,e2,hi,List.length_map,Int.reduceBEq,Int.reduceBNe]
 repeat' (first|(((first|apply condU_s|apply gdU_t|apply gdU_f)<;>intro _h)<;>simp only [push_cast,seval,reduceEqDiff,_h,ex,e1,e2,hi,List.length_map,Int.reduceBEq,Int.reduceBNe])|((first|refine c_call (by exact hcf) ?_|refine c_call (by exact hc1) ?_);simp only [push_cast,seval,reduceEqDiff,ex,e1,e2,hi,List.length_map,Int.reduceBEq,Int.reduceBNe])|intro _)
 all_goals subst hS
 all_goals (refine finW_ret ?_;simp only [get_cons,if_true,if_false, *,bq,reduceEqDiff];done)
set_option maxHeartbeats 4000000 in
theorem vp4 (names:List Bytes) (ins:List Ins) (i:Nat) (a b:Int) (s:Bytes) (hx:ins[i]? = some ⟨4,a,b,s⟩) (hn:names.length<=2^30) (hl:ins.length<=2^30) (hs:∀x∈ins,x.s.length<=2^30) :
  RetS Tryz.prog W0 48 [codeV names ins,.i .i64 i] [] (.b (propB names.length ins i ⟨4,a,b,s⟩)) []:=by
 have hi:i<ins.length:=(List.getElem?_eq_some_iff.1 hx).1
 have ex:(ins.map Ins.enc)[i]? = some (.agg [.i .i64 4,.i .i64 a,.i .i64 b,.s s]):=by rw [List.getElem?_map,hx];rfl
 have e1:decide ((i:Int)<0)=false:=by simp
 have e2:decide ((i:Int)>=(ins.length:Int))=false:=by simp;omega
 have hsb:s.length<=2^30:=hs _ (List.mem_of_getElem? hx)
 have hcf:=c_fields4 W0
 have hc1:=c_tName W0 s (by unfold SLim;omega)
 generalize hS:propB names.length ins i ⟨4,a,b,s⟩=S
 simp only [propB,argB,Int.reduceBEq,Int.reduceBNe,bq,if_true,if_false,Int.reduceBEq,reduceCtorEq,Bool.or_false,Bool.or_true] at hS
 generalize nameB s=A1 at *
 unfold codeV
 refine fn_retW (vs:=[.b S]) f48ok (by simp) (by simp) fun n0 hn0=>?_
 clear hn0
 simp only [push_cast,seval,reduceEqDiff,ex,e1,e2,hi,List.length_map,Int.reduceBEq,Int.reduceBNe]
 repeat' (first|(((first|apply condU_s|apply gdU_t|apply gdU_f)<;>intro _h)<;>simp only [push_cast,seval,reduceEqDiff,_h,ex,e1,e2,hi,List.length_map,Int.reduceBEq,Int.reduceBNe])|((first|refine c_call (by exact hcf) ?_|refine c_call (by exact hc1) ?_);simp only [push_cast,seval,reduceEqDiff,ex,e1,e2,hi,List.length_map,Int.reduceBEq,Int.reduceBNe])|intro _)
 all_goals subst hS
 all_goals (refine finW_ret ?_;simp only [get_cons,if_true,if_false, *,bq,reduceEqDiff];done)
set_option maxHeartbeats 4000000 in
theorem vp5 (names:List Bytes) (ins:List Ins) (i:Nat) (a b:Int) (s:Bytes) (hx:ins[i]? = some ⟨5,a,b,s⟩) (hn:names.length<=2^30) (hl:ins.length<=2^30) (hs:∀x∈ins,x.s.length<=2^30) :
  RetS Tryz.prog W0 48 [codeV names ins,.i .i64 i] [] (.b (propB names.length ins i ⟨5,a,b,s⟩)) []:=by
 have hi:i<ins.length:=(List.getElem?_eq_some_iff.1 hx).1
 have ex:(ins.map Ins.enc)[i]? = some (.agg [.i .i64 5,.i .i64 a,.i .i64 b,.s s]):=by rw [List.getElem?_map,hx];rfl
 have e1:decide ((i:Int)<0)=false:=by simp
 have e2:decide ((i:Int)>=(ins.length:Int))=false:=by simp;omega
 have hsb:s.length<=2^30:=hs _ (List.mem_of_getElem? hx)
 have hcf:=c_fields5 W0
 generalize hS:propB names.length ins i ⟨5,a,b,s⟩=S
 simp only [propB,argB,Int.reduceBEq,Int.reduceBNe,bq,if_true,if_false,Int.reduceBEq,reduceCtorEq,Bool.or_false,Bool.or_true] at hS
 rw [show (s == ([]:Bytes)) = !(!(s == [])) from (Bool.not_not _).symm] at hS
 unfold codeV
 refine fn_retW (vs:=[.b S]) f48ok (by simp) (by simp) fun n0 hn0=>?_
 clear hn0
 simp only [push_cast,seval,reduceEqDiff,ex,e1,e2,hi,List.length_map,Int.reduceBEq,Int.reduceBNe]
 repeat' (first|(((first|apply condU_s|apply gdU_t|apply gdU_f)<;>intro _h)<;>simp only [push_cast,seval,reduceEqDiff,_h,ex,e1,e2,hi,List.length_map,Int.reduceBEq,Int.reduceBNe])|(refine c_call (by exact hcf) ?_;simp only [push_cast,seval,reduceEqDiff,ex,e1,e2,hi,List.length_map,Int.reduceBEq,Int.reduceBNe])|intro _)
 all_goals subst hS
 all_goals (refine finW_ret ?_;simp only [get_cons,if_true,if_false, *,bq,reduceEqDiff];done)
set_option maxHeartbeats 4000000 in
theorem vp6 (names:List Bytes) (ins:List Ins) (i:Nat) (a b:Int) (s:Bytes) (hx:ins[i]? = some ⟨6,a,b,s⟩) (hn:names.length<=2^30) (hl:ins.length<=2^30) (hs:∀x∈ins,x.s.length<=2^30) :
  RetS Tryz.prog W0 48 [codeV names ins,.i .i64 i] [] (.b (propB names.length ins i ⟨6,a,b,s⟩)) []:=by
 have hi:i<ins.length:=(List.getElem?_eq_some_iff.1 hx).1
 have ex:(ins.map Ins.enc)[i]? = some (.agg [.i .i64 6,.i .i64 a,.i .i64 b,.s s]):=by rw [List.getElem?_map,hx];rfl
 have e1:decide ((i:Int)<0)=false:=by simp
 have e2:decide ((i:Int)>=(ins.length:Int))=false:=by simp;omega
 have hsb:s.length<=2^30:=hs _ (List.mem_of_getElem? hx)
 have hcf:=c_fields6 W0
 generalize hS:propB names.length ins i ⟨6,a,b,s⟩=S
 simp only [propB,argB,Int.reduceBEq,Int.reduceBNe,bq,if_true,if_false,Int.reduceBEq,reduceCtorEq,Bool.or_false,Bool.or_true] at hS
 unfold codeV
 refine fn_retW (vs:=[.b S]) f48ok (by simp) (by simp) fun n0 hn0=>?_
 clear hn0
 simp only [push_cast,seval,reduceEqDiff,ex,e1,e2,hi,List.length_map,Int.reduceBEq,Int.reduceBNe]
 repeat' (first|(((first|apply condU_s|apply gdU_t|apply gdU_f)<;>intro _h)<;>simp only [push_cast,seval,reduceEqDiff,_h,ex,e1,e2,hi,List.length_map,Int.reduceBEq,Int.reduceBNe])|(refine c_call (by exact hcf) ?_;simp only [push_cast,seval,reduceEqDiff,ex,e1,e2,hi,List.length_map,Int.reduceBEq,Int.reduceBNe])|intro _)
 all_goals subst hS
 all_goals (refine finW_ret ?_;simp only [get_cons,if_true,if_false, *,bq,reduceEqDiff];done)
set_option maxHeartbeats 4000000 in
theorem vp7 (names:List Bytes) (ins:List Ins) (i:Nat) (a b:Int) (s:Bytes) (hx:ins[i]? = some ⟨7,a,b,s⟩) (hn:names.length<=2^30) (hl:ins.length<=2^30) (hs:∀x∈ins,x.s.length<=2^30) :
  RetS Tryz.prog W0 48 [codeV names ins,.i .i64 i] [] (.b (propB names.length ins i ⟨7,a,b,s⟩)) []:=by
 have hi:i<ins.length:=(List.getElem?_eq_some_iff.1 hx).1
 have ex:(ins.map Ins.enc)[i]? = some (.agg [.i .i64 7,.i .i64 a,.i .i64 b,.s s]):=by rw [List.getElem?_map,hx];rfl
 have e1:decide ((i:Int)<0)=false:=by simp
 have e2:decide ((i:Int)>=(ins.length:Int))=false:=by simp;omega
 have hsb:s.length<=2^30:=hs _ (List.mem_of_getElem? hx)
 have hcf:=c_fields7 W0
 have hc1:=c_tName W0 s (by unfold SLim;omega)
 generalize hS:propB names.length ins i ⟨7,a,b,s⟩=S
 simp only [propB,argB,Int.reduceBEq,Int.reduceBNe,bq,if_true,if_false,Int.reduceBEq,reduceCtorEq,Bool.or_false,Bool.or_true] at hS
 generalize nameB s=A1 at *
 unfold codeV
 refine fn_retW (vs:=[.b S]) f48ok (by simp) (by simp) fun n0 hn0=>?_
 clear hn0
 simp only [push_cast,seval,reduceEqDiff,ex,e1,e2,hi,List.length_map,Int.reduceBEq,Int.reduceBNe]
 repeat' (first|(((first|apply condU_s|apply gdU_t|apply gdU_f)<;>intro _h)<;>simp only [push_cast,seval,reduceEqDiff,_h,ex,e1,e2,hi,List.length_map,Int.reduceBEq,Int.reduceBNe])|((first|refine c_call (by exact hcf) ?_|refine c_call (by exact hc1) ?_);simp only [push_cast,seval,reduceEqDiff,ex,e1,e2,hi,List.length_map,Int.reduceBEq,Int.reduceBNe])|intro _)
 all_goals subst hS
 all_goals (refine finW_ret ?_;simp only [get_cons,if_true,if_false, *,bq,reduceEqDiff];done)
set_option maxHeartbeats 4000000 in
theorem vp9 (names:List Bytes) (ins:List Ins) (i:Nat) (a b:Int) (s:Bytes) (hx:ins[i]? = some ⟨9,a,b,s⟩) (hn:names.length<=2^30) (hl:ins.length<=2^30) (hs:∀x∈ins,x.s.length<=2^30) :
  RetS Tryz.prog W0 48 [codeV names ins,.i .i64 i] [] (.b (propB names.length ins i ⟨9,a,b,s⟩)) []:=by
 have hi:i<ins.length:=(List.getElem?_eq_some_iff.1 hx).1
 have ex:(ins.map Ins.enc)[i]? = some (.agg [.i .i64 9,.i .i64 a,.i .i64 b,.s s]):=by rw [List.getElem?_map,hx];rfl
 have e1:decide ((i:Int)<0)=false:=by simp
 have e2:decide ((i:Int)>=(ins.length:Int))=false:=by simp;omega
 have hsb:s.length<=2^30:=hs _ (List.mem_of_getElem? hx)
 have hcf:=c_fields9 W0
 have hc1:=c_tName W0 s (by unfold SLim;omega)
 generalize hS:propB names.length ins i ⟨9,a,b,s⟩=S
 simp only [propB,argB,Int.reduceBEq,Int.reduceBNe,bq,if_true,if_false,Int.reduceBEq,reduceCtorEq,Bool.or_false,Bool.or_true] at hS
 generalize nameB s=A1 at *
 unfold codeV
 refine fn_retW (vs:=[.b S]) f48ok (by simp) (by simp) fun n0 hn0=>?_
 clear hn0
 simp only [push_cast,seval,reduceEqDiff,ex,e1,e2,hi,List.length_map,Int.reduceBEq,Int.reduceBNe]
 repeat' (first|(((first|apply condU_s|apply gdU_t|apply gdU_f)<;>intro _h)<;>simp only [push_cast,seval,reduceEqDiff,_h,ex,e1,e2,hi,List.length_map,Int.reduceBEq,Int.reduceBNe])|((first|refine c_call (by exact hcf) ?_|refine c_call (by exact hc1) ?_);simp only [push_cast,seval,reduceEqDiff,ex,e1,e2,hi,List.length_map,Int.reduceBEq,Int.reduceBNe])|intro _)
 all_goals subst hS
 all_goals (refine finW_ret ?_;simp only [get_cons,if_true,if_false, *,bq,reduceEqDiff];done)
set_option maxHeartbeats 4000000 in
theorem vp8 (names:List Bytes) (ins:List Ins) (i:Nat) (a b:Int) (s:Bytes) (hx:ins[i]? = some ⟨8,a,b,s⟩) (hn:names.length<=2^30) (hl:ins.length<=2^30) (hs:∀x∈ins,x.s.length<=2^30) :
  RetS Tryz.prog W0 48 [codeV names ins,.i .i64 i] [] (.b (propB names.length ins i ⟨8,a,b,s⟩)) []:=by
 have hi:i<ins.length:=(List.getElem?_eq_some_iff.1 hx).1
 have ex:(ins.map Ins.enc)[i]? = some (.agg [.i .i64 8,.i .i64 a,.i .i64 b,.s s]):=by rw [List.getElem?_map,hx];rfl
 have e1:decide ((i:Int)<0)=false:=by simp
 have e2:decide ((i:Int)>=(ins.length:Int))=false:=by simp;omega
 have hsb:s.length<=2^30:=hs _ (List.mem_of_getElem? hx)
 have hcf:=c_fields8 W0
 have hc2:=c_vSkeleton W0 s (by unfold SLim;omega)
 generalize hS:propB names.length ins i ⟨8,a,b,s⟩=S
 simp only [propB,argB,Int.reduceBEq,Int.reduceBNe,bq,if_true,if_false,Int.reduceBEq,reduceCtorEq,Bool.or_false,Bool.or_true] at hS
 generalize skeletonB s=A1 at *
 unfold codeV
 refine fn_retW (vs:=[.b S]) f48ok (by simp) (by simp) fun n0 hn0=>?_
 clear hn0
 simp only [push_cast,seval,reduceEqDiff,ex,e1,e2,hi,List.length_map,Int.reduceBEq,Int.reduceBNe]
 repeat' (first|(((first|apply condU_s|apply gdU_t|apply gdU_f)<;>intro _h)<;>simp only [push_cast,seval,reduceEqDiff,_h,ex,e1,e2,hi,List.length_map,Int.reduceBEq,Int.reduceBNe])|((first|refine c_call (by exact hcf) ?_|refine c_call (by exact hc2) ?_);simp only [push_cast,seval,reduceEqDiff,ex,e1,e2,hi,List.length_map,Int.reduceBEq,Int.reduceBNe])|intro _)
 all_goals subst hS
 all_goals (refine finW_ret ?_;simp only [get_cons,if_true,if_false, *,bq,reduceEqDiff];done)
set_option maxHeartbeats 4000000 in
theorem vp10 (names:List Bytes) (ins:List Ins) (i:Nat) (a b:Int) (s:Bytes) (hx:ins[i]? = some ⟨10,a,b,s⟩) (hn:names.length<=2^30) (hl:ins.length<=2^30) (hs:∀x∈ins,x.s.length<=2^30) :
  RetS Tryz.prog W0 48 [codeV names ins,.i .i64 i] [] (.b (propB names.length ins i ⟨10,a,b,s⟩)) []:=by
 have hi:i<ins.length:=(List.getElem?_eq_some_iff.1 hx).1
 have ex:(ins.map Ins.enc)[i]? = some (.agg [.i .i64 10,.i .i64 a,.i .i64 b,.s s]):=by rw [List.getElem?_map,hx];rfl
 have e1:decide ((i:Int)<0)=false:=by simp
 have e2:decide ((i:Int)>=(ins.length:Int))=false:=by simp;omega
 have hsb:s.length<=2^30:=hs _ (List.mem_of_getElem? hx)
 have hcf:=c_fields10 W0
 have hc2:=c_alternatives W0 names ins i _ hx hl hs
 generalize hS:propB names.length ins i ⟨10,a,b,s⟩=S
 simp only [propB,argB,Int.reduceBEq,Int.reduceBNe,bq,if_true,if_false,Int.reduceBEq,reduceCtorEq,Bool.or_false,Bool.or_true] at hS
 generalize (selB b&&altB b (caseL (List.drop (i+1) ins)))=A2 at *
 rw [show (s == ([]:Bytes)) = !(!(s == [])) from (Bool.not_not _).symm] at hS
 unfold codeV at *
 refine fn_retW (vs:=[.b S]) f48ok (by simp) (by simp) fun n0 hn0=>?_
 clear hn0
 simp only [push_cast,seval,reduceEqDiff,ex,e1,e2,hi,List.length_map,Int.reduceBEq,Int.reduceBNe]
 repeat' (first|(((first|apply condU_s|apply gdU_t|apply gdU_f)<;>intro _h)<;>simp only [push_cast,seval,reduceEqDiff,_h,ex,e1,e2,hi,List.length_map,Int.reduceBEq,Int.reduceBNe])|((first|refine c_call (by exact hcf) ?_|refine c_call (by exact hc2) ?_);simp only [push_cast,seval,reduceEqDiff,ex,e1,e2,hi,List.length_map,Int.reduceBEq,Int.reduceBNe])|intro _)
 all_goals subst hS
 all_goals (refine finW_ret ?_;simp only [get_cons,if_true,if_false, *,bq,reduceEqDiff];done)
set_option maxHeartbeats 4000000 in
theorem vp11 (names:List Bytes) (ins:List Ins) (i:Nat) (a b:Int) (s:Bytes) (hx:ins[i]? = some ⟨11,a,b,s⟩) (hn:names.length<=2^30) (hl:ins.length<=2^30) (hs:∀x∈ins,x.s.length<=2^30) :
  RetS Tryz.prog W0 48 [codeV names ins,.i .i64 i] [] (.b (propB names.length ins i ⟨11,a,b,s⟩)) []:=by
 have hi:i<ins.length:=(List.getElem?_eq_some_iff.1 hx).1
 have ex:(ins.map Ins.enc)[i]? = some (.agg [.i .i64 11,.i .i64 a,.i .i64 b,.s s]):=by rw [List.getElem?_map,hx];rfl
 have e1:decide ((i:Int)<0)=false:=by simp
 have e2:decide ((i:Int)>=(ins.length:Int))=false:=by simp;omega
 have hsb:s.length<=2^30:=hs _ (List.mem_of_getElem? hx)
 have hcf:=c_fields11 W0
 have hct:=c_target W0 names ins i a hl
 generalize hS:propB names.length ins i ⟨11,a,b,s⟩=S
 simp only [propB,Int.reduceBEq,Int.reduceBNe,bq,if_true,if_false,Int.reduceBEq,reduceCtorEq,Bool.or_false,Bool.or_true] at hS
 generalize tgtB ins i a=T at *
 unfold codeV at *
 have hpv:(decide ((i:Int)>0)=false)\/(∃y:Ins,decide ((i:Int)>0)=true/\(ins.map Ins.enc)[(IntKind.i64.wrap ((i:Int)-1)).toNat]? = some (.agg [.i .i64 y.op,.i .i64 y.a,.i .i64 y.b,.s y.s])/\(0<=IntKind.i64.wrap ((i:Int)-1))=True/\(IntKind.i64.wrap ((i:Int)-1)).toNat<ins.length/\opAt ins (i-1)=y.op):=by
  rcases Nat.eq_zero_or_pos i with h0|h0
  ·exact .inl (by simp [h0])
  ·have hw:IntKind.i64.wrap ((i:Int)-1)=((i-1:Nat):Int):=by rw [wrap64 (by omega) (by omega)];omega
   have hlt:i-1<ins.length:=by omega
   refine .inr ⟨ins[i-1],by simp;omega,?_,?_,?_,?_⟩
   ·rw [hw,Int.toNat_natCast,List.getElem?_map,List.getElem?_eq_getElem hlt];rfl
   ·rw [hw];simp
   ·rw [hw,Int.toNat_natCast];exact hlt
   ·unfold opAt;rw [List.getElem?_eq_getElem hlt]
 rcases hpv with p1|⟨z,p1,p2,p3,p4,p5⟩
 ·rw [p1] at hS
  simp only [bq,if_true,if_false,Int.reduceBEq,reduceCtorEq,Bool.and_false] at hS
  refine fn_retW (vs:=[.b S]) f48ok (by simp) (by simp) fun n0 hn0=>?_
  clear hn0
  simp only [push_cast,seval,reduceEqDiff,ex,e1,e2,hi,List.length_map,Int.reduceBEq,Int.reduceBNe,p1]
  repeat' (first|(((first|apply condU_s|apply gdU_t|apply gdU_f)<;>intro _h)<;>simp only [push_cast,seval,reduceEqDiff,_h,ex,e1,e2,hi,List.length_map,Int.reduceBEq,Int.reduceBNe,p1])|((first|refine c_call (by exact hcf) ?_|refine c_call (by exact hct) ?_);simp only [push_cast,seval,reduceEqDiff,ex,e1,e2,hi,List.length_map,Int.reduceBEq,Int.reduceBNe,p1])|intro _)
  all_goals subst hS
  all_goals (refine finW_ret ?_;simp only [get_cons,if_true,if_false, *,bq,reduceEqDiff];done)
 ·rw [p1,p5] at hS
  simp only [bq,if_true,if_false,Int.reduceBEq,reduceCtorEq] at hS
  refine fn_retW (vs:=[.b S]) f48ok (by simp) (by simp) fun n0 hn0=>?_
  clear hn0
  simp only [push_cast,seval,reduceEqDiff,ex,e1,e2,hi,List.length_map,Int.reduceBEq,Int.reduceBNe,p1,p2,p3,p4]
  repeat' (first|(((first|apply condU_s|apply gdU_t|apply gdU_f)<;>intro _h)<;>simp only [push_cast,seval,reduceEqDiff,_h,ex,e1,e2,hi,List.length_map,Int.reduceBEq,Int.reduceBNe,p1,p2,p3,p4])|((first|refine c_call (by exact hcf) ?_|refine c_call (by exact hct) ?_);simp only [push_cast,seval,reduceEqDiff,ex,e1,e2,hi,List.length_map,Int.reduceBEq,Int.reduceBNe,p1,p2,p3,p4])|intro _)
  all_goals subst hS
  all_goals (try (cases T))
  all_goals (refine finW_ret ?_;simp only [get_cons,if_true,if_false, *,bq,reduceEqDiff];done)
set_option maxHeartbeats 4000000 in
theorem vp12 (names:List Bytes) (ins:List Ins) (i:Nat) (a b:Int) (s:Bytes) (hx:ins[i]? = some ⟨12,a,b,s⟩) (hn:names.length<=2^30) (hl:ins.length<=2^30) (hs:∀x∈ins,x.s.length<=2^30) :
  RetS Tryz.prog W0 48 [codeV names ins,.i .i64 i] [] (.b (propB names.length ins i ⟨12,a,b,s⟩)) []:=by
 have hi:i<ins.length:=(List.getElem?_eq_some_iff.1 hx).1
 have ex:(ins.map Ins.enc)[i]? = some (.agg [.i .i64 12,.i .i64 a,.i .i64 b,.s s]):=by rw [List.getElem?_map,hx];rfl
 have e1:decide ((i:Int)<0)=false:=by simp
 have e2:decide ((i:Int)>=(ins.length:Int))=false:=by simp;omega
 have hsb:s.length<=2^30:=hs _ (List.mem_of_getElem? hx)
 have hcf:=c_fields12 W0
 have hct:=c_target W0 names ins i a hl
 generalize hS:propB names.length ins i ⟨12,a,b,s⟩=S
 simp only [propB,Int.reduceBEq,Int.reduceBNe,bq,if_true,if_false,Int.reduceBEq,reduceCtorEq,Bool.or_false,Bool.or_true] at hS
 generalize tgtB ins i a=T at *
 unfold codeV at *
 rw [show (s == ([]:Bytes)) = !(!(s == [])) from (Bool.not_not _).symm] at hS
 refine fn_retW (vs:=[.b S]) f48ok (by simp) (by simp) fun n0 hn0=>?_
 clear hn0
 simp only [push_cast,seval,reduceEqDiff,ex,e1,e2,hi,List.length_map,Int.reduceBEq,Int.reduceBNe]
 repeat' (first|(((first|apply condU_s|apply gdU_t|apply gdU_f)<;>intro _h)<;>simp only [push_cast,seval,reduceEqDiff,_h,ex,e1,e2,hi,List.length_map,Int.reduceBEq,Int.reduceBNe])|((first|refine c_call (by exact hcf) ?_|refine c_call (by exact hct) ?_);simp only [push_cast,seval,reduceEqDiff,ex,e1,e2,hi,List.length_map,Int.reduceBEq,Int.reduceBNe])|intro _)
 all_goals subst hS
 all_goals (refine finW_ret ?_;simp only [get_cons,if_true,if_false, *,bq,reduceEqDiff];done)
set_option maxHeartbeats 4000000 in
theorem vp13 (names:List Bytes) (ins:List Ins) (i:Nat) (a b:Int) (s:Bytes) (hx:ins[i]? = some ⟨13,a,b,s⟩) (hn:names.length<=2^30) (hl:ins.length<=2^30) (hs:∀x∈ins,x.s.length<=2^30) :
  RetS Tryz.prog W0 48 [codeV names ins,.i .i64 i] [] (.b (propB names.length ins i ⟨13,a,b,s⟩)) []:=by
 have hi:i<ins.length:=(List.getElem?_eq_some_iff.1 hx).1
 have ex:(ins.map Ins.enc)[i]? = some (.agg [.i .i64 13,.i .i64 a,.i .i64 b,.s s]):=by rw [List.getElem?_map,hx];rfl
 have e1:decide ((i:Int)<0)=false:=by simp
 have e2:decide ((i:Int)>=(ins.length:Int))=false:=by simp;omega
 have hsb:s.length<=2^30:=hs _ (List.mem_of_getElem? hx)
 have hcf:=c_fields13 W0
 have hw:IntKind.i64.wrap ((ins.length:Int)-1)=(ins.length:Int)-1:=wrap64 (by omega) (by omega)
 generalize hS:propB names.length ins i ⟨13,a,b,s⟩=S
 simp only [propB,argB,Int.reduceBEq,Int.reduceBNe,bq,if_true,if_false,Int.reduceBEq,reduceCtorEq,Bool.or_false,Bool.or_true] at hS
 rw [show (s == ([]:Bytes)) = !(!(s == [])) from (Bool.not_not _).symm] at hS
 unfold codeV
 refine fn_retW (vs:=[.b S]) f48ok (by simp) (by simp) fun n0 hn0=>?_
 clear hn0
 simp only [push_cast,seval,reduceEqDiff,ex,e1,e2,hi,hw,List.length_map,Int.reduceBEq,Int.reduceBNe]
 repeat' (first|(((first|apply condU_s|apply gdU_t|apply gdU_f)<;>intro _h)<;>simp only [push_cast,seval,reduceEqDiff,_h,ex,e1,e2,hi,hw,List.length_map,Int.reduceBEq,Int.reduceBNe])|(refine c_call (by exact hcf) ?_;simp only [push_cast,seval,reduceEqDiff,ex,e1,e2,hi,hw,List.length_map,Int.reduceBEq,Int.reduceBNe])|intro _)
 all_goals subst hS
 all_goals (refine finW_ret ?_;simp only [get_cons,if_true,if_false, *,bq,reduceEqDiff];done)
set_option maxHeartbeats 4000000 in
theorem vp0 (names:List Bytes) (ins:List Ins) (i:Nat) (x:Ins) (hx:ins[i]? = some x) (hn:names.length<=2^30) (hl:ins.length<=2^30) (hk:x.op<1\/x.op>13) :
  RetS Tryz.prog W0 48 [codeV names ins,.i .i64 i] [] (.b (propB names.length ins i x)) []:=by
 have hi:i<ins.length:=(List.getElem?_eq_some_iff.1 hx).1
 have ex:(ins.map Ins.enc)[i]? = some (.agg [.i .i64 x.op,.i .i64 x.a,.i .i64 x.b,.s x.s]):=by rw [List.getElem?_map,hx];rfl
 have e1:decide ((i:Int)<0)=false:=by simp
 have e2:decide ((i:Int)>=(ins.length:Int))=false:=by simp;omega
 have q:∀k:Int,1<=k->k<=13->(x.op == k)=false:=fun k h1 h2=>by simp;omega
 have q1:=q 1 (by decide) (by decide);have q2:=q 2 (by decide) (by decide);have q3:=q 3 (by decide) (by decide);have q4:=q 4 (by decide) (by decide);have q5:=q 5 (by decide) (by decide);have q6:=q 6 (by decide) (by decide);have q7:=q 7 (by decide) (by decide)
 have q8:=q 8 (by decide) (by decide);have q9:=q 9 (by decide) (by decide);have q10:=q 10 (by decide) (by decide);have q11:=q 11 (by decide) (by decide);have q12:=q 12 (by decide) (by decide);have q13:=q 13 (by decide) (by decide)
 have hS:propB names.length ins i x=false:=by simp only [propB,q1,q2,q3,q4,q5,q6,q7,q8,q9,q10,q11,q12,q13,bq,if_true,if_false,Int.reduceBEq,reduceCtorEq]
 rw [hS]
 have hcf:=c_fields0 W0 x.op hk
 unfold codeV
 refine fn_retW (vs:=[.b false]) f48ok (by simp) (by simp) fun n0 hn0=>?_
 clear hn0
 simp only [push_cast,seval,reduceEqDiff,ex,e1,e2,hi,List.length_map]
 repeat' (first|(((first|apply condU_s|apply gdU_t|apply gdU_f)<;>intro _h)<;>simp only [push_cast,seval,reduceEqDiff,_h,ex,e1,e2,hi,List.length_map])|(refine c_call (by exact hcf) ?_;simp only [push_cast,seval,reduceEqDiff,ex,e1,e2,hi,List.length_map])|intro _)
 all_goals (refine finW_ret ?_;simp only [get_cons,if_true,if_false, *,bq,reduceEqDiff];done)
theorem c_vProper (names:List Bytes) (ins:List Ins) (i:Nat) (x:Ins) (hx:ins[i]? = some x) (hn:names.length<=2^30) (hl:ins.length<=2^30) (hs:∀x∈ins,x.s.length<=2^30) :
  RetS Tryz.prog W0 48 [codeV names ins,.i .i64 i] [] (.b (propB names.length ins i x)) []:=by
 by_cases hk:x.op<1\/x.op>13
 ·exact vp0 W0 names ins i x hx hn hl hk
 ·obtain ⟨op,a,b,s⟩:=x
  simp only at hk
  have:op=1\/op=2\/op=3\/op=4\/op=5\/op=6\/op=7\/op=8\/op=9\/op=10\/op=11\/op=12\/op=13:=by omega
  rcases this with rfl|rfl|rfl|rfl|rfl|rfl|rfl|rfl|rfl|rfl|rfl|rfl|rfl
  ·exact vp1 W0 names ins i a b s hx hn hl hs
  ·exact vp2 W0 names ins i a b s hx hn hl hs
  ·exact vp3 W0 names ins i a b s hx hn hl hs
  ·exact vp4 W0 names ins i a b s hx hn hl hs
  ·exact vp5 W0 names ins i a b s hx hn hl hs
  ·exact vp6 W0 names ins i a b s hx hn hl hs
  ·exact vp7 W0 names ins i a b s hx hn hl hs
  ·exact vp8 W0 names ins i a b s hx hn hl hs
  ·exact vp9 W0 names ins i a b s hx hn hl hs
  ·exact vp10 W0 names ins i a b s hx hn hl hs
  ·exact vp11 W0 names ins i a b s hx hn hl hs
  ·exact vp12 W0 names ins i a b s hx hn hl hs
  ·exact vp13 W0 names ins i a b s hx hn hl hs
inductive FrOk (F:Sto):V->List Bytes->Prop where
 | nil:FrOk F .np []
 | cons (id:Id) (n:Bytes) (l:List Bytes) (up:V) (h:lk F id=some (.box (.agg [.s n,up]))) (hu:FrOk F up l):FrOk F (.ref id 0) (n::l)
theorem FrOk.det {F:Sto} {v:V} {l l':List Bytes} (h:FrOk F v l) (h':FrOk F v l'):l=l':=by
 induction h generalizing l' with
 | nil=>cases h';rfl
 | cons id n l up h hu ih=>
  cases h' with
  | cons _ n' l2 up' h2 hu2=>
   rw [h] at h2
   cases h2
   rw [ih hu2]
theorem FrOk.mono {F F':Sto} {v:V} {l:List Bytes} (h:FrOk F v l) (hs:∀id e,lk F id=some e->lk F' id=some e):FrOk F' v l:=by
 induction h with
 | nil=>exact .nil
 | cons id n l up h hu ih=>exact .cons id n l up (hs _ _ h) ih
set_option maxHeartbeats 4000000 in
theorem c_vSame (F:Sto) (va vb:V) (la lb:List Bytes) (ha:FrOk F va la) (hb:FrOk F vb lb):RetS Tryz.prog W0 119 [va,vb] F (.b (la == lb)) F:=by
 generalize hS:(la == lb)=S
 refine fn_retW (vs:=[.b S]) f119ok (by simp) (fun _ h=>h) fun n0 hn0=>?_
 clear hn0
 simp only [push_cast,seval,reduceEqDiff]
 intros
 refine aWP_loopW la.length (Inv:=fun m st=>∃va vb la lb n,FrOk F va la/\FrOk F vb lb/\m=la.length/\(la == lb)=S/\st=⟨[(0,va),(1,vb)],F,n⟩) ⟨_,StLe.refl,va,vb,la,lb,_,ha,hb,rfl,hS,rfl⟩ ?_
 clear hS ha hb va vb la lb
 rintro m _ ⟨va,vb,la,lb,n,ha,hb,rfl,hd,rfl⟩
 cases ha with
 | nil=>
  cases hb with
  | nil=>
   have e1:eqrV F .np .np=some true:=rfl
   have:S=true:=by rw [<-hd];rfl
   subst this
   simp only [push_cast,seval,reduceEqDiff,e1]
   intros
   exact finW_retS (by simp [get]) (fun _ _ h=>h)
  | cons id n l up h hu=>
   have e1:eqrV F .np (.ref id 0)=some false:=rfl
   have:S=false:=by rw [<-hd];rfl
   subst this
   simp only [push_cast,seval,reduceEqDiff,e1]
   intros
   exact finW_retS (by simp [get]) (fun _ _ h=>h)
 | cons id x la up h hu=>
  cases hb with
  | nil=>
   have e1:eqrV F (.ref id 0) .np=some false:=rfl
   have:S=false:=by rw [<-hd];rfl
   subst this
   simp only [push_cast,seval,reduceEqDiff,e1]
   intros
   exact finW_retS (by simp [get]) (fun _ _ h=>h)
  | cons id' y lb up' h' hu'=>
   by_cases hid:id=id'
   ·subst hid
    rw [h] at h'
    cases h'
    have hll:=hu.det hu'
    subst hll
    have e1:eqrV F (.ref id 0) (.ref id 0)=some true:=by simp [eqrV]
    have:S=true:=by rw [<-hd];simp
    subst this
    simp only [push_cast,seval,reduceEqDiff,e1]
    intros
    exact finW_retS (by simp [get]) (fun _ _ h=>h)
   ·have e1:eqrV F (.ref id 0) (.ref id' 0)=some false:=by simp [eqrV,hid,h,h',isBx]
    have hsp:(x::la == y::lb)=((x == y)&&(la == lb)):=rfl
    rw [hsp] at hd
    cases hxy:(x == y) with
    | false=>
     rw [hxy] at hd
     simp only [bq,if_true,if_false,Int.reduceBEq,reduceCtorEq] at hd
     subst hd
     simp only [push_cast,seval,reduceEqDiff,e1,h,h',hxy]
     intros
     exact finW_retS (by simp [get]) (fun _ _ h=>h)
    | true=>
     rw [hxy] at hd
     simp only [bq,if_true,if_false,Int.reduceBEq,reduceCtorEq] at hd
     simp only [push_cast,seval,reduceEqDiff,e1,h,h',hxy]
     intros
     exact ⟨_,_,Nat.lt_succ_self _,StLe.refl,up,up',la,lb,_,hu,hu',rfl,hd,rfl⟩
def TFp:TypeId:=165
def flowSt (e0:Nat) (names:List Bytes) (ins:List Ins) (vs:List V) (p:WayP) (F:Sto):Sto:=
 ((e0,51),.box (.agg [.sl (names.map V.s),.sl (ins.map Ins.enc),.arr (e0,45),.arr (e0,47),.arr (e0,49)]))::((e0,49),.arr TBool 1 (p.cl.map V.b))::((e0,47),.arr TBool 1 (p.re.map V.b))::((e0,45),.arr TFp 1 vs)::F
def FrN (F:Sto):Prop:=∀id,lk F id≠none->id.2=77
theorem flow_sub {e0:Nat} {names:List Bytes} {ins:List Ins} {vs:List V} {p:WayP} {F:Sto} (hF:FrN F):∀id e,lk F id=some e->lk (flowSt e0 names ins vs p F) id=some e:=by
 intro id e h
 have h77:=hF id (by rw [h];simp)
 obtain ⟨a,b⟩:=id
 simp only at h77
 subst h77
 simp only [flowSt,lk]
 simp
 exact h
theorem flow_dom {e0:Nat} {names:List Bytes} {ins:List Ins} {vs vs':List V} {p p':WayP} {F:Sto}:∀id,lk (flowSt e0 names ins vs' p' F) id≠none->lk (flowSt e0 names ins vs p F) id≠none:=by
 intro id h
 simp only [flowSt,lk] at h⊢
 repeat' (split at h<;>simp_all)
structure FlR (F:Sto) (vs:List V) (p:WayP) (n:Nat):Prop where
 lv:vs.length=n
 l3:p.op.length=n
 l4:p.re.length=n
 l5:p.cl.length=n
 fr:∀j,j<n->FrOk F (vs.getD j .np) (p.op.getD j [])
theorem FlR.mono {F F':Sto} {vs:List V} {p:WayP} {n:Nat} (h:FlR F vs p n) (hs:∀id e,lk F id=some e->lk F' id=some e):FlR F' vs p n:=⟨h.lv,h.l3,h.l4,h.l5,fun j hj=>(h.fr j hj).mono hs⟩
def leadV (vs:List V) (p:WayP) (v:V) (j:Int):List V:=if p.re.getD j.toNat false then vs else vs.set j.toNat v
theorem lead_FlR {F:Sto} {vs:List V} {p:WayP} {n:Nat} (h:FlR F vs p n) {v:V} {o:List Bytes} (hv:FrOk F v o) (j:Int) (hj:j.toNat<n):FlR F (leadV vs p v j) (leadP p o j) n:=by
 unfold leadV leadP
 split
 ·exact ⟨h.lv,h.l3,h.l4,by simp [h.l5],h.fr⟩
 ·refine ⟨by simp [h.lv],by simp [h.l3],by simp [h.l4],h.l5,fun i hi=>?_⟩
  simp only
  rw [getD_set _ _ _ _ _ (by rw [h.lv];exact hj),getD_set _ _ _ _ _ (by rw [h.l3];exact hj)]
  by_cases hji:j.toNat=i
  ·rw [if_pos hji,if_pos hji];exact hv
  ·rw [if_neg hji,if_neg hji];exact h.fr i hi
set_option maxHeartbeats 4000000 in
theorem c_lead (e0:Nat) (names:List Bytes) (ins:List Ins) (vs:List V) (p:WayP) (F:Sto) (n:Nat) (v:V) (o:List Bytes) (j:Int) (hF:FrN F) (hR:FlR F vs p n) (hv:FrOk F v o) (hj0:0<=j) (hj:j.toNat<n) :
  RetS Tryz.prog W0 79 [.ref (e0,51) 0,.i .i64 j,v] (flowSt e0 names ins vs p F) (.tup []) (flowSt e0 names ins (leadV vs p v j) (leadP p o j) F):=by
 obtain ⟨lv,l3,l4,l5,fr⟩:=hR
 have g0:(0<=j)=True:=eq_true hj0
 have g1:j.toNat<vs.length:=by omega
 have g2:j.toNat<p.re.length:=by omega
 have g3:j.toNat<p.cl.length:=by omega
 have g4:=getD_some V.np g1
 have g5:=getD_some false g2
 have g6:=getD_some false g3
 have hfj:=fr j.toNat hj
 have hcs:=c_vSame W0 F _ _ _ _ hfj hv
 have hsub:=flow_sub (e0:=e0) (names:=names) (ins:=ins) (vs:=vs) (p:=p) hF
 unfold leadV leadP
 generalize p.re.getD j.toNat false=r at *
 generalize p.cl.getD j.toNat false=c at *
 generalize vs.getD j.toNat .np=vj at *
 generalize p.op.getD j.toNat []=oj at *
 generalize (oj == o)=E at *
 have g7:(p.re.map V.b)[j.toNat]? = some (.b r):=by rw [List.getElem?_map,g5];rfl
 have g8:(p.cl.map V.b)[j.toNat]? = some (.b c):=by rw [List.getElem?_map,g6];rfl
 have g9:∀b,(List.map V.b p.re).set j.toNat (.b b)=List.map V.b (p.re.set j.toNat b):=fun b=>by rw [List.map_set]
 have g10:∀b,(List.map V.b p.cl).set j.toNat (.b b)=List.map V.b (p.cl.set j.toNat b):=fun b=>by rw [List.map_set]
 have hvc:cells v=[v]:=by cases hv<;>rfl
 have hvo:v.ok=true:=by cases hv<;>rfl
 have hva:isA v=false:=by cases hv<;>rfl
 have hjc:cells vj=[vj]:=by cases hfj<;>rfl
 have hja:isA vj=false:=by cases hfj<;>rfl
 refine fn_retW (vs:=[]) f79ok (by simp) flow_dom fun n0 hn0=>?_
 clear hn0
 cases r with
 | false=>
  unfold flowSt
  simp only [push_cast,seval,reduceEqDiff,g0,g1,g2,g3,g4,g7,g8,g9,g10,List.length_map,TBool,TFp,hvc,hvo,hva,hjc,hja,List.length_set]
  intros
  exact ⟨_,StLe.refl,trivial,fun i e h=>by simpa using h⟩
 | true=>
  cases c with
  | true=>
   unfold flowSt
   simp only [push_cast,seval,reduceEqDiff,g0,g1,g2,g3,g4,g7,g8,g9,g10,List.length_map,TBool,TFp,hvc,hvo,hva,hjc,hja,List.length_set]
   intros
   exact ⟨_,StLe.refl,trivial,fun i e h=>by simpa using h⟩
  | false=>
   unfold flowSt at *
   simp only [TBool,TFp] at hsub
   simp only [push_cast,seval,reduceEqDiff,g0,g1,g2,g3,g4,g7,g8,g9,g10,List.length_map,TBool,TFp,hvc,hvo,hva,hjc,hja,List.length_set]
   intros
   refine c_callr hcs hsub ?_
   simp only [push_cast,seval,reduceEqDiff,g0,g1,g2,g3,g4,g7,g8,g9,g10,List.length_map,TBool,TFp,hvc,hvo,hva,hjc,hja,List.length_set]
   intros
   exact ⟨_,StLe.refl,trivial,fun i e h=>by simpa using h⟩
theorem lk_mem {σ:Sto} {p:Id × Ent} (h:p∈σ):lk σ p.1≠none:=by
 induction σ with
 | nil=>cases h
 | cons q σ ih=>
  obtain ⟨k,e⟩:=q
  simp only [lk]
  by_cases hk:k=p.1
  ·rw [if_pos hk];simp
  ·rw [if_neg hk]
   rcases List.mem_cons.1 h with rfl|h
   ·exact absurd rfl hk
   ·exact ih h
theorem over_one' {σi σo pre post:Sto} {a:Id × Ent} (h1:∀q∈pre++post,lk σi q.1≠none) (h2:lk σi a.1=none):over σi σo (pre++a::post)=σo++[a]:=by
 have gone:∀τ:Sto,(∀q∈τ,lk σi q.1≠none)->τ.filter (fun p=>(lk σi p.1).isNone)=[]:=fun τ h=>by
  rw [List.filter_eq_nil_iff]
  intro q hq
  cases hl:lk σi q.1 with
  | none=>exact absurd hl (h q hq)
  | some e=>simp
 unfold over
 rw [List.filter_append,List.filter_cons,gone pre (fun q hq=>h1 q (List.mem_append_left _ hq)),gone post (fun q hq=>h1 q (List.mem_append_right _ hq)),h2]
 rfl
theorem over_whole (σ σo:Sto):over σ σo σ=σo:=by
 unfold over
 have:σ.filter (fun p=>(lk σ p.1).isNone)=[]:=by
  rw [List.filter_eq_nil_iff]
  intro q hq
  cases hl:lk σ q.1 with
  | none=>exact absurd hl (lk_mem hq)
  | some e=>simp
 rw [this,List.append_nil]
theorem over_c1 {S τ:Sto} {a:Id × Ent} (h:lk S a.1=none):over S τ (a::S)=τ++[a]:=over_one' (pre:=[]) (fun q hq=>lk_mem hq) h
theorem over_c2 {σi S τ:Sto} {f a:Id × Ent} (h:lk σi a.1=none) (hf:lk σi f.1≠none) (hS:∀q∈S,lk σi q.1≠none):over σi τ (f::a::S)=τ++[a]:=
 over_one' (pre:=[f]) (fun q hq=>by rcases List.mem_append.1 hq with hq|hq;(· simp at hq;subst hq;exact hf);exact hS q hq) h
theorem flow_none {e0:Nat} {names:List Bytes} {ins:List Ins} {vs:List V} {p:WayP} {F:Sto} (hF:FrN F) {a b:Nat} (h1:b≠51) (h2:b≠49) (h3:b≠47) (h4:b≠45) (h5:b≠77):lk (flowSt e0 names ins vs p F) (a,b)=none:=by
 have hn:lk F (a,b)=none:=by
  cases hl:lk F (a,b) with
  | none=>rfl
  | some e=>exact absurd (hF (a,b) (by rw [hl];simp)) h5
 simp only [flowSt,lk,Prod.mk.injEq,Ne.symm h1,Ne.symm h2,Ne.symm h3,Ne.symm h4,and_false,if_false]
 exact hn
def StepR (e0:Nat) (names:List Bytes) (ins:List Ins) (p:WayP) (n i:Nat) (x:Ins):Nat->Nat->V->Sto->Prop:=fun _ _ v σ'=>match stepP ins i x p with
 | none=>v = .b false
 | some p'=>v = .b true/\∃vs' F',σ'=flowSt e0 names ins vs' p' F'/\FlR F' vs' p' n/\FrN F'
theorem openP_3n (x:Ins) (h2:(x.op == 2)=false) (h3:(x.op == 3)=true):openP x []=none:=by unfold openP;rw [h2,h3];rfl
theorem openP_3c (x:Ins) (t:Bytes) (r:List Bytes) (h2:(x.op == 2)=false) (h3:(x.op == 3)=true):openP x (t::r)=if t == x.s then some r else none:=by unfold openP;rw [h2,h3];rfl
theorem nextL_1 (ins:List Ins) (i:Nat) (x:Ins) (h10:(x.op == 10)=false) (h12:(x.op == 12)=false) (h13:(x.op == 13)=false):nextL ins i x=[(i:Int)+1]:=by unfold nextL;rw [h10,h12,h13];rfl
theorem k51 {e0:Nat} {names:List Bytes} {ins:List Ins} {vs:List V} {p:WayP} {F:Sto}:lk (flowSt e0 names ins vs p F) (e0,51)=some (.box (.agg [.sl (names.map V.s),.sl (ins.map Ins.enc),.arr (e0,45),.arr (e0,47),.arr (e0,49)])):=by simp [flowSt,lk]
theorem k49 {e0:Nat} {names:List Bytes} {ins:List Ins} {vs:List V} {p:WayP} {F:Sto}:lk (flowSt e0 names ins vs p F) (e0,49)=some (.arr TBool 1 (p.cl.map V.b)):=by simp [flowSt,lk]
theorem k47 {e0:Nat} {names:List Bytes} {ins:List Ins} {vs:List V} {p:WayP} {F:Sto}:lk (flowSt e0 names ins vs p F) (e0,47)=some (.arr TBool 1 (p.re.map V.b)):=by simp [flowSt,lk]
theorem k45 {e0:Nat} {names:List Bytes} {ins:List Ins} {vs:List V} {p:WayP} {F:Sto}:lk (flowSt e0 names ins vs p F) (e0,45)=some (.arr TFp 1 vs):=by simp [flowSt,lk]
set_option maxHeartbeats 4000000 in
theorem c_step (e0:Nat) (names:List Bytes) (ins:List Ins) (vs:List V) (p:WayP) (F:Sto) (i:Nat) (x:Ins) (hx:ins[i]? = some x) (hl:ins.length<=2^30) (hF:FrN F) (hR:FlR F vs p ins.length)
  (ht:∀j∈nextL ins i x,0<=j/\j.toNat<ins.length) :
  RetE Tryz.prog W0 49 [.ref (e0,51) 0,.i .i64 i] (flowSt e0 names ins vs p F) (StepR e0 names ins p ins.length i x):=by
 have hi:i<ins.length:=(List.getElem?_eq_some_iff.1 hx).1
 have ex:(ins.map Ins.enc)[i]? = some (.agg [.i .i64 x.op,.i .i64 x.a,.i .i64 x.b,.s x.s]):=by rw [List.getElem?_map,hx];rfl
 have ew:IntKind.i64.wrap ((i:Int)+1)=(i:Int)+1:=wrap64 (by omega) (by omega)
 obtain ⟨lv,l3,l4,l5,fr⟩:=id hR
 have g1:i<vs.length:=by omega
 have g3:i<p.cl.length:=by omega
 have g4:=getD_some V.np g1
 have g6:=getD_some false g3
 have hfi:=fr i hi
 generalize hRR:StepR e0 names ins p ins.length i x=RR
 unfold StepR stepP at hRR
 generalize p.cl.getD i false=c at *
 generalize vs.getD i .np=v at *
 generalize p.op.getD i []=o at *
 have g8:(p.cl.map V.b)[i]? = some (.b c):=by rw [List.getElem?_map,g6];rfl
 have hjc:cells v=[v]:=by cases hfi<;>rfl
 have hja:isA v=false:=by cases hfi<;>rfl
 have hvo:v.ok=true:=by cases hfi<;>rfl
 have hno:∀(p:WayP) (vs:List V) (a b:Nat),b=6\/b=8->lk (flowSt e0 names ins vs p F) (a,b)=none:=fun p vs a b h=>by
  rcases h with rfl|rfl
  ·exact flow_none hF (by decide) (by decide) (by decide) (by decide) (by decide)
  ·exact flow_none hF (by decide) (by decide) (by decide) (by decide) (by decide)
 refine fn_retEW f49ok (by simp) fun n0 hn0=>?_
 have hn:∀id e,lk F id=some e->id.1<n0:=fun id e h=>hn0 id e (flow_sub hF id e h)
 clear hn0
 cases c with
 | true=>
  simp only [if_true] at hRR
  subst hRR
  simp only [push_cast,seval,reduceEqDiff,k51,k49,k45,hi,ex,g1,g3,g4,g8,List.length_map,TBool,TFp,hjc,hja]
  intros
  exact ⟨_,StLe.refl,[.b false],[],⟨rfl,trivial⟩,(fun _ _ h=>by cases h),rfl⟩
 | false=>
 simp only [Bool.false_eq_true,if_false] at hRR
 cases h13:(x.op == 13) with
 | true=>
  have h2:(x.op == 2)=false:=by rw [show x.op=13 by simpa using h13];rfl
  have h3:(x.op == 3)=false:=by rw [show x.op=13 by simpa using h13];rfl
  have h10:(x.op == 10)=false:=by rw [show x.op=13 by simpa using h13];rfl
  have h12:(x.op == 12)=false:=by rw [show x.op=13 by simpa using h13];rfl
  have hnx:nextL ins i x=[]:=by unfold nextL;rw [h10,h12,h13];rfl
  have hop:openP x o=if o.isEmpty then some o else none:=by unfold openP;rw [h2,h3,h13];rfl
  rw [hop,hnx] at hRR
  cases hfi with
  | nil=>
   simp only [List.isEmpty_nil,if_true,List.foldl_nil] at hRR
   subst hRR
   simp only [push_cast,seval,reduceEqDiff,k51,k49,k45,hi,ex,g1,g3,g4,g8,List.length_map,TBool,TFp,hjc,hja,h13]
   intros
   exact ⟨_,StLe.refl,[.b true],flowSt e0 names ins vs p F,⟨rfl,trivial⟩,lk_drop1 (hno _ _ _ _ (.inl rfl)),rfl,vs,F,rfl,hR,hF⟩
  | cons id y l up hk hu=>
   simp only [List.isEmpty_cons,Bool.false_eq_true,if_false] at hRR
   subst hRR
   simp only [push_cast,seval,reduceEqDiff,k51,k49,k45,hi,ex,g1,g3,g4,g8,List.length_map,TBool,TFp,hjc,hja,h13]
   intros
   exact ⟨_,StLe.refl,[.b false],[],⟨rfl,trivial⟩,(fun _ _ h=>by cases h),rfl⟩
 | false=>
 cases h12:(x.op == 12) with
 | true=>
  have h2:(x.op == 2)=false:=by rw [show x.op=12 by simpa using h12];rfl
  have h3:(x.op == 3)=false:=by rw [show x.op=12 by simpa using h12];rfl
  have h10:(x.op == 10)=false:=by rw [show x.op=12 by simpa using h12];rfl
  have hnx:nextL ins i x=[x.a]:=by unfold nextL;rw [h10,h12];rfl
  have hop:openP x o=some o:=by unfold openP;rw [h2,h3,h13];rfl
  rw [hop,hnx] at hRR
  rw [hnx] at ht
  obtain ⟨t0,t1⟩:=ht x.a (by simp)
  have hld:=c_lead W0 e0 names ins vs p F ins.length v o x.a hF hR hfi t0 t1
  have hlr:=lead_FlR hR hfi x.a t1
  simp only [List.foldl_cons,List.foldl_nil] at hRR
  subst hRR
  simp only [push_cast,seval,reduceEqDiff,k51,k49,k45,hi,ex,g1,g3,g4,g8,List.length_map,TBool,TFp,hjc,hja,h13,h12]
  intros
  refine c_calls hld (lk_drop1 (hno _ _ _ _ (.inl rfl))) ?_
  rw [over_c1 (hno _ _ _ _ (.inl rfl))]
  simp only [push_cast,seval,reduceEqDiff]
  intros
  exact ⟨_,StLe.refl,[.b true],flowSt e0 names ins _ _ F,⟨rfl,trivial⟩,(fun _ _ h=>lk_app_left h),rfl,_,F,rfl,hlr,hF⟩
 | false=>
 cases h10:(x.op == 10) with
 | true=>
  have h2:(x.op == 2)=false:=by rw [show x.op=10 by simpa using h10];rfl
  have h3:(x.op == 3)=false:=by rw [show x.op=10 by simpa using h10];rfl
  have hnx:=nextL_10 ins i x h10
  have hop:openP x o=some o:=by unfold openP;rw [h2,h3,h13];rfl
  have hvc:=c_vCases W0 names ins i hi hl
  rw [hop,hnx] at hRR
  rw [hnx] at ht
  have hcl:=caseL_len (ins.drop (i+1))
  simp only [List.length_drop] at hcl
  generalize caseL (ins.drop (i+1))=L at *
  unfold codeV at hvc
  simp only [push_cast,seval,reduceEqDiff,k51,k49,k45,hi,ex,g1,g3,g4,g8,List.length_map,TBool,TFp,hjc,hja,h13,h12,h10]
  repeat' (first|(((first|apply condU_s|apply gdU_t|apply gdU_f)<;>intro _h)<;>simp only [push_cast,seval,reduceEqDiff,_h,k51,k49,k45,hi,ex,g1,g3,g4,g8,List.length_map,TBool,TFp,hjc,hja,h13,h12,h10])|(refine c_call (by exact hvc) ?_;simp only [push_cast,seval,reduceEqDiff,k51,k49,k45,hi,ex,g1,g3,g4,g8,List.length_map,TBool,TFp,hjc,hja,h13,h12,h10])|intro _)
  refine loopW_le (StLe.drop1 (hno _ _ _ _ (.inl rfl)) (Nat.le_refl _)) ?_
  refine aWP_loopW L.length (Inv:=fun m st=>∃done rest n vs' p',L=done++rest/\m=rest.length/\FlR F vs' p' ins.length/\(rest.map (·.a)).foldl (fun st j=>leadP st o j) p'=(L.map (·.a)).foldl (fun st j=>leadP st o j) p/\st=⟨[(0,.ref (e0,51) 0),(5,v),(56,.sl (L.map Ins.enc)),(57,.i .i64 L.length),(58,.i .i64 done.length)],flowSt e0 names ins vs' p' F,n⟩) ⟨_,StLe.refl,[],L,_,vs,p,rfl,rfl,hR,rfl,rfl⟩ ?_
  rintro m _ ⟨done,rest,n,vs',p',hz,rfl,hR',hd,rfl⟩
  cases rest with
  | nil=>
   have e1:decide ((done.length:Int)<(L.length:Int))=false:=by rw [hz];simp
   simp only [List.map_nil,List.foldl_nil] at hd
   simp only [push_cast,seval,reduceEqDiff,e1]
   intros
   subst hRR
   exact ⟨_,StLe.refl,[.b true],flowSt e0 names ins vs' p' F,⟨rfl,trivial⟩,(fun _ _ h=>h),rfl,vs',F,by rw [hd],by rw [<-hd];exact hR',hF⟩
  | cons y rest=>
   have hbd:=zip_bd hz
   have e1:=insV hz
   have e2:=zipLt hz
   have e3:done.length<L.length:=by omega
   have e4:=wrap_zip y (done:=done) (by omega)
   obtain ⟨t0,t1⟩:=ht y.a (List.mem_map.2 ⟨y,by rw [hz];simp,rfl⟩)
   have hld:=c_lead W0 e0 names ins vs' p' F ins.length v o y.a hF hR' hfi t0 t1
   have hlr:=lead_FlR hR' hfi y.a t1
   rw [List.map_cons,List.foldl_cons] at hd
   simp only [push_cast,seval,reduceEqDiff,e1,e2,e3,e4]
   intros
   refine c_calls hld (lk_drop1 (hno _ _ _ _ (.inr rfl))) ?_
   rw [over_c1 (hno _ _ _ _ (.inr rfl))]
   simp only [push_cast,seval,reduceEqDiff,e4]
   intros
   exact ⟨_,_,Nat.lt_succ_self _,StLe.pre (Nat.le_refl _),done++[y],rest,_,_,_,by rw [hz];simp,rfl,hlr,hd,rfl⟩
 | false=>
 have hnx:=nextL_1 ins i x h10 h12 h13
 rw [hnx] at ht
 obtain ⟨t0,t1⟩:=ht ((i:Int)+1) (by simp)
 cases h2:(x.op == 2) with
 | true=>
  have h3:(x.op == 3)=false:=by rw [show x.op=2 by simpa using h2];rfl
  have hop:openP x o=some (x.s::o):=by unfold openP;rw [h2];rfl
  rw [hop,hnx] at hRR
  simp only [List.foldl_cons,List.foldl_nil] at hRR
  simp only [push_cast,seval,reduceEqDiff,k51,k49,k45,hi,ex,g1,g3,g4,g8,List.length_map,TBool,TFp,hjc,hja,h13,h12,h10,h2,ew,hvo]
  intros
  rename_i k1 k2 k3 k4 k5 k6 k7 k8 k9
  have hKn:n0<=n0+1+k1+1+k2+1+k3+1+k4+1+k5+1+k6+1+k7+1+k8+1+k9:=by omega
  generalize n0+1+k1+1+k2+1+k3+1+k4+1+k5+1+k6+1+k7+1+k8+1+k9=K at *
  obtain ⟨F',hF'⟩:∃F':Sto,F'=((K,77),.box (.agg [.s x.s,v]))::F:=⟨_,rfl⟩
  have hFk:lk F (K,77)=none:=by
   cases hlk:lk F (K,77) with
   | none=>rfl
   | some e=>have:=hn _ _ hlk;simp only at this;omega
  have hFF:∀id e,lk F id=some e->lk F' id=some e:=by rw [hF'];exact lk_drop1 hFk
  have hFN:FrN F':=by
   intro id h
   rw [hF'] at h
   simp only [lk] at h
   by_cases hk:(K,77)=id
   ·rw [<-hk]
   ·rw [if_neg hk] at h;exact hF id h
  have hfr:FrOk F' (.ref (K,77) 0) (x.s::o):=.cons _ _ _ v (by rw [hF'];simp [lk]) (hfi.mono hFF)
  have hadd:∀id,lk (flowSt e0 names ins vs p F') id=if (K,77)=id then some (.box (.agg [.s x.s,v])) else lk (flowSt e0 names ins vs p F) id:=by
   intro id
   rw [hF']
   simp only [flowSt,lk]
   by_cases hk:(K,77)=id
   ·rw [<-hk];simp
   ·rw [if_neg hk,if_neg hk]
  have hld:=c_lead W0 e0 names ins vs p F' ins.length (.ref (K,77) 0) (x.s::o) ((i:Int)+1) hFN (hR.mono hFF) hfr t0 t1
  have hlr:=lead_FlR (hR.mono hFF) hfr ((i:Int)+1) t1
  have hno':∀a:Nat,lk (flowSt e0 names ins vs p F') (a,6)=none:=fun a=>flow_none hFN (by decide) (by decide) (by decide) (by decide) (by decide)
  refine c_calls hld (fun id e h=>?_) ?_
  ·rw [hadd] at h
   simp only [lk]
   by_cases hk:(K,77)=id
   ·rw [if_pos hk] at h⊢;exact h
   ·rw [if_neg hk] at h⊢
    exact lk_drop1 (hno _ _ _ _ (.inl rfl)) id e h
  rw [over_c2 (hno' _) (by rw [hadd];simp) (fun q hq=>by rw [hadd];split;(· simp);exact lk_mem hq)]
  simp only [push_cast,seval,reduceEqDiff]
  intros
  subst hRR
  exact ⟨_,StLe.refl,[.b true],flowSt e0 names ins _ _ F',⟨rfl,trivial⟩,(fun _ _ h=>lk_app_left h),rfl,_,F',rfl,hlr,hFN⟩
 | false=>
 cases h3:(x.op == 3) with
 | true=>
  cases hfi with
  | nil=>
   rw [openP_3n x h2 h3,hnx] at hRR
   simp only at hRR
   subst hRR
   simp only [push_cast,seval,reduceEqDiff,k51,k49,k45,hi,ex,g1,g3,g4,g8,List.length_map,TBool,TFp,hjc,hja,h13,h12,h10,h2,h3]
   intros
   exact ⟨_,StLe.refl,[.b false],[],⟨rfl,trivial⟩,(fun _ _ h=>by cases h),rfl⟩
  | cons id y l up hk hu=>
   have h77:=hF id (by rw [hk];simp)
   have hid6:∀a:Nat,((a,6)=id)=False:=fun a=>eq_false (by rintro rfl;simp at h77)
   have hkf:lk (flowSt e0 names ins vs p F) id=some (.box (.agg [.s y,up])):=flow_sub hF _ _ hk
   rw [openP_3c x y l h2 h3,hnx] at hRR
   cases hy:(y == x.s) with
   | false=>
    rw [hy] at hRR
    simp only [Bool.false_eq_true,if_false] at hRR
    subst hRR
    simp only [push_cast,seval,reduceEqDiff,k51,k49,k45,hi,ex,g1,g3,g4,g8,List.length_map,TBool,TFp,hjc,hja,h13,h12,h10,h2,h3,hid6,hkf,hy]
    intros
    exact ⟨_,StLe.refl,[.b false],[],⟨rfl,trivial⟩,(fun _ _ h=>by cases h),rfl⟩
   | true=>
    rw [hy] at hRR
    simp only [if_true,List.foldl_cons,List.foldl_nil] at hRR
    subst hRR
    have hld:=c_lead W0 e0 names ins vs p F ins.length up l ((i:Int)+1) hF hR hu t0 t1
    have hlr:=lead_FlR hR hu ((i:Int)+1) t1
    simp only [push_cast,seval,reduceEqDiff,k51,k49,k45,hi,ex,g1,g3,g4,g8,List.length_map,TBool,TFp,hjc,hja,h13,h12,h10,h2,h3,hid6,hkf,hy,ew]
    intros
    refine c_calls hld (lk_drop1 (hno _ _ _ _ (.inl rfl))) ?_
    rw [over_c1 (hno _ _ _ _ (.inl rfl))]
    simp only [push_cast,seval,reduceEqDiff]
    intros
    exact ⟨_,StLe.refl,[.b true],flowSt e0 names ins _ _ F,⟨rfl,trivial⟩,(fun _ _ h=>lk_app_left h),rfl,_,F,rfl,hlr,hF⟩
 | false=>
  have hop:openP x o=some o:=by unfold openP;rw [h2,h3,h13];rfl
  rw [hop,hnx] at hRR
  have hld:=c_lead W0 e0 names ins vs p F ins.length v o ((i:Int)+1) hF hR hfi t0 t1
  have hlr:=lead_FlR hR hfi ((i:Int)+1) t1
  simp only [List.foldl_cons,List.foldl_nil] at hRR
  subst hRR
  simp only [push_cast,seval,reduceEqDiff,k51,k49,k45,hi,ex,g1,g3,g4,g8,List.length_map,TBool,TFp,hjc,hja,h13,h12,h10,h2,h3,ew]
  intros
  refine c_calls hld (lk_drop1 (hno _ _ _ _ (.inl rfl))) ?_
  rw [over_c1 (hno _ _ _ _ (.inl rfl))]
  simp only [push_cast,seval,reduceEqDiff]
  intros
  exact ⟨_,StLe.refl,[.b true],flowSt e0 names ins _ _ F,⟨rfl,trivial⟩,(fun _ _ h=>lk_app_left h),rfl,_,F,rfl,hlr,hF⟩
end Go.Ir
