/-
  The codes that the evaluator runs for a closed call, and ..
  calquelaw32.awake answers true: by the kernel's evaluation ..
  The two checks of a message agree, and what a message has ..
  Contract: the law EvalTexts.
  What an input reads as, as an abstract value: plain data ..
  The end of a law's proof: from the contract of the law to ..
  Inputs that are messages: every well-formed slice of parts ..
  Inputs that are locales: their rules, and the rest.
  Inputs that are forms or values.
  Inputs that are whole locales, and cases of layer 32.
-/
import Derived.Test.YtgaodnclpkcahaaGreatDoorPae
import Derived.Test.YtgaodnclpkcahaaGreatDoorRows
import Derived.ChangeArms
import Derived.Carry
import Derived.ChangeSame
import Derived.OpenShut
import Derived.Test.YtgaodnclpkcahaaGreatDoorChecked
set_option linter.all false
set_option linter.defProp false
set_option linter.unusedSimpArgs false
set_option linter.unusedVariables false
open Nat (reduceEqDiff)
section
set_option maxRecDepth 100000
namespace Go.Ir
open Go.Proofs
def e139_2:IC:=.seq (.seqr [m1 3 0,o1 4 (.bin .geq (.t 3) (.c (.i .u8 97))),m1 5 4,⟨some 6,.mv (.t 0),some (5,true),[]⟩,⟨some 7,.bin .leq (.t 6) (.c (.i .u8 122)),some (5,true),[]⟩,o1 8 (.pick (.t 5) (.t 7) (.c (.b false))),m1 9 8,⟨some 10,.mv (.t 0),some (9,false),[]⟩,⟨some 11,.bin .geq (.t 10) (.c (.i .u8 65)),some (9,false),[]⟩,⟨some 12,.mv (.t 11),some (9,false),[]⟩,⟨some 13,.mv (.t 0),some (12,true),[]⟩,⟨some 14,.bin .leq (.t 13) (.c (.i .u8 90)),some (12,true),[]⟩,⟨some 15,.pick (.t 12) (.t 14) (.c (.b false)),some (9,false),[]⟩,o1 16 (.pick (.t 9) (.c (.b true)) (.t 15)),m1 17 16,⟨some 18,.mv (.t 0),some (17,false),[]⟩,⟨some 19,.bin .geq (.t 18) (.c (.i .u8 48)),some (17,false),[]⟩,⟨some 20,.mv (.t 19),some (17,false),[]⟩,⟨some 21,.mv (.t 0),some (20,true),[]⟩,⟨some 22,.bin .leq (.t 21) (.c (.i .u8 57)),some (20,true),[]⟩,⟨some 23,.pick (.t 20) (.t 22) (.c (.b false)),some (17,false),[]⟩,o1 24 (.pick (.t 17) (.c (.b true)) (.t 23)),m1 2 24] [2]) .ret
def e139_0:IC:=.seq (.seqr [o1 2 (.mv (.c (.b false)))] [0]) e139_2
def e139T:FnT:=⟨25,e139_0,[.t 2]⟩
theorem e139ok:tabF Tryz.prog 139 e139T=true:=by kernel_rfl
def e131_15:IC:=.seq (.seqr [m1 9 0,m1 10 3,o1 11 (.idx (.t 9) (.t 10)),o1 12 (.call 139 [.t 11]),o1 13 (.not (.t 12)),m1 14 13,⟨some 15,.mv (.t 0),some (14,true),[]⟩,⟨some 16,.mv (.t 3),some (14,true),[]⟩,⟨some 17,.idx (.t 15) (.t 16),some (14,true),[]⟩,⟨some 18,.bin .neq (.t 17) (.c (.i .u8 95)),some (14,true),[]⟩,o1 19 (.pick (.t 14) (.t 18) (.c (.b false))),m1 20 19,⟨some 21,.mv (.t 0),some (20,true),[]⟩,⟨some 22,.mv (.t 3),some (20,true),[]⟩,⟨some 23,.idx (.t 21) (.t 22),some (20,true),[]⟩,⟨some 24,.bin .neq (.t 23) (.c (.i .u8 45)),some (20,true),[]⟩,o1 25 (.pick (.t 20) (.t 24) (.c (.b false))),m1 26 25,⟨some 27,.mv (.t 0),some (26,true),[]⟩,⟨some 28,.mv (.t 3),some (26,true),[]⟩,⟨some 29,.idx (.t 27) (.t 28),some (26,true),[]⟩,⟨some 30,.bin .neq (.t 29) (.c (.i .u8 46)),some (26,true),[]⟩,o1 31 (.pick (.t 26) (.t 30) (.c (.b false))),m1 32 31,⟨some 33,.mv (.t 0),some (32,true),[]⟩,⟨some 34,.mv (.t 3),some (32,true),[]⟩,⟨some 35,.idx (.t 33) (.t 34),some (32,true),[]⟩,⟨some 36,.bin .neq (.t 35) (.c (.i .u8 61)),some (32,true),[]⟩,o1 37 (.pick (.t 32) (.t 36) (.c (.b false)))] [0,3,5,6,37]) (.cond (.t 37) (.seq (.seqr [m1 38 3,m1 2 38] [2]) .ret) .skip)
def e131_11:IC:=.seq (.block 1 (.seq (.seqr [m1 8 6,m1 3 8] [0,3,5,6]) e131_15)) (.seqr [o1 39 (.bin .add (.t 6) (ci 1)),m1 6 39] [0,5,6])
def e131_7:IC:=.seq (.seqr [o1 7 (.bin .lss (.t 6) (.t 5))] [0,5,6,7]) (.seq (.cond (.t 7) .skip (.exit 0)) e131_11)
def e131_2:IC:=.seq (.seq (.seqr [m1 4 0,o1 5 (.lenS (.t 4)),o1 6 (.mv (ci 0))] [0,5,6]) (.block 0 (.loop e131_7))) (.seq (.seqr [m1 40 0,o1 41 (.lenS (.t 40)),m1 2 41] [2]) .ret)
def e131_0:IC:=.seq (.seqr [o1 2 (.mv (ci 0))] [0]) e131_2
def e131T:FnT:=⟨42,e131_0,[.t 2]⟩
theorem e131ok:tabF Tryz.prog 131 e131T=true:=by kernel_rfl
def e237_2:IC:=.seq (.seqr [m1 5 0,o1 6 (.lenS (.t 5)),m1 7 1,o1 8 (.lenS (.t 7)),o1 9 (.bin .geq (.t 6) (.t 8)),m1 10 9,⟨some 11,.mv (.t 0),some (10,true),[]⟩,⟨some 12,.mv (.t 0),some (10,true),[]⟩,⟨some 13,.lenS (.t 12),some (10,true),[]⟩,⟨some 14,.mv (.t 1),some (10,true),[]⟩,⟨some 15,.lenS (.t 14),some (10,true),[]⟩,⟨some 16,.bin .sub (.t 13) (.t 15),some (10,true),[]⟩,⟨some 17,.slS (.t 11) (some (.t 16)) none,some (10,true),[]⟩,⟨some 18,.mv (.t 1),some (10,true),[]⟩,⟨some 19,.bin .eql (.t 17) (.t 18),some (10,true),[]⟩,o1 20 (.pick (.t 10) (.t 19) (.c (.b false))),m1 4 20] [4]) .ret
def e237_0:IC:=.seq (.seqr [o1 4 (.mv (.c (.b false)))] [0,1]) e237_2
def e237T:FnT:=⟨21,e237_0,[.t 4]⟩
theorem e237ok:tabF Tryz.prog 237 e237T=true:=by kernel_rfl
def e212_8:IC:=.seq (.seqr [m1 11 0,m1 12 0,o1 13 (.lenS (.t 12)),m1 14 1,o1 15 (.lenS (.t 14)),o1 16 (.bin .sub (.t 13) (.t 15)),o1 17 (.slS (.t 11) none (some (.t 16))),m1 4 17,o1 5 (.mv (.c (.b true)))] [4,5]) .ret
def e212_2:IC:=.seq (.seq (.seqr [m1 6 0,m1 7 1,o1 8 (.call 237 [.t 6,.t 7]),o1 9 (.not (.t 8))] [0,1,9]) (.cond (.t 9) (.seq (.seqr [m1 10 0,m1 4 10,o1 5 (.mv (.c (.b false)))] [4,5]) .ret) .skip)) e212_8
def e212_0:IC:=.seq (.seqr [o1 4 (.mv (.c (.s []))),o1 5 (.mv (.c (.b false)))] [0,1]) e212_2
def e212T:FnT:=⟨18,e212_0,[.t 4,.t 5]⟩
theorem e212ok:tabF Tryz.prog 212 e212T=true:=by kernel_rfl
def e180_2:IC:=.seq (.seqr [m1 6 0,m1 7 1,o1 8 (.call 212 [.t 6,.t 7]),o1 9 (.ext (.t 8) 0),o1 10 (.ext (.t 8) 1),m1 4 9,m1 5 10] [4,5]) .ret
def e180_0:IC:=.seq (.seqr [o1 4 (.mv (.c (.s []))),o1 5 (.mv (.c (.b false)))] [0,1]) e180_2
def e180T:FnT:=⟨11,e180_0,[.t 4,.t 5]⟩
theorem e180ok:tabF Tryz.prog 180 e180T=true:=by kernel_rfl
def e96_21:IC:=.seq (.seqr [m1 26 0,m1 27 3,o1 28 (.idx (.t 26) (.t 27)),o1 29 (.call 139 [.t 28]),o1 30 (.not (.t 29)),m1 31 30,⟨some 32,.mv (.t 0),some (31,true),[]⟩,⟨some 33,.mv (.t 3),some (31,true),[]⟩,⟨some 34,.idx (.t 32) (.t 33),some (31,true),[]⟩,⟨some 35,.bin .neq (.t 34) (.c (.i .u8 95)),some (31,true),[]⟩,o1 36 (.pick (.t 31) (.t 35) (.c (.b false))),m1 37 36,⟨some 38,.mv (.t 0),some (37,true),[]⟩,⟨some 39,.mv (.t 3),some (37,true),[]⟩,⟨some 40,.idx (.t 38) (.t 39),some (37,true),[]⟩,⟨some 41,.bin .neq (.t 40) (.c (.i .u8 45)),some (37,true),[]⟩,o1 42 (.pick (.t 37) (.t 41) (.c (.b false)))] [0,22,23,42]) (.cond (.t 42) (.seq (.seqr [o1 2 (.mv (.c (.b false)))] [2]) .ret) .skip)
def e96_17:IC:=.seq (.block 1 (.seq (.seqr [m1 25 23,m1 3 25] [0,3,22,23]) e96_21)) (.seqr [o1 43 (.bin .add (.t 23) (ci 1)),m1 23 43] [0,22,23])
def e96_13:IC:=.seq (.seqr [o1 24 (.bin .lss (.t 23) (.t 22))] [0,22,23,24]) (.seq (.cond (.t 24) .skip (.exit 0)) e96_17)
def e96_8:IC:=.seq (.seq (.seqr [m1 21 0,o1 22 (.lenS (.t 21)),o1 23 (.mv (ci 0))] [0,22,23]) (.block 0 (.loop e96_13))) (.seq (.seqr [o1 2 (.mv (.c (.b true)))] [2]) .ret)
def e96_2:IC:=.seq (.seq (.seqr [m1 4 0,o1 5 (.bin .eql (.t 4) (.c (.s []))),m1 6 5,⟨some 7,.mv (.t 0),some (6,false),[]⟩,⟨some 8,.lenS (.t 7),some (6,false),[]⟩,⟨some 9,.bin .gtr (.t 8) (ci 40),some (6,false),[]⟩,o1 10 (.pick (.t 6) (.c (.b true)) (.t 9)),m1 11 10,⟨some 12,.mv (.t 0),some (11,false),[]⟩,⟨some 13,.idx (.t 12) (ci 0),some (11,false),[]⟩,⟨some 14,.bin .lss (.t 13) (.c (.i .u8 97)),some (11,false),[]⟩,o1 15 (.pick (.t 11) (.c (.b true)) (.t 14)),m1 16 15,⟨some 17,.mv (.t 0),some (16,false),[]⟩,⟨some 18,.idx (.t 17) (ci 0),some (16,false),[]⟩,⟨some 19,.bin .gtr (.t 18) (.c (.i .u8 122)),some (16,false),[]⟩,o1 20 (.pick (.t 16) (.c (.b true)) (.t 19))] [0,20]) (.cond (.t 20) (.seq (.seqr [o1 2 (.mv (.c (.b false)))] [2]) .ret) .skip)) e96_8
def e96_0:IC:=.seq (.seqr [o1 2 (.mv (.c (.b false)))] [0]) e96_2
def e96T:FnT:=⟨44,e96_0,[.t 2]⟩
theorem e96ok:tabF Tryz.prog 96 e96T=true:=by kernel_rfl
def e132_7:IC:=.cond (.t 13) (.seq (.seqr [o1 2 (.mv (ci 0)),o1 3 (.mv (.c (.s []))),o1 4 (.mv (ci 0))] [2,3,4]) .ret) .skip
def e132_21:IC:=.seq (.seqr [m1 29 9] [2,3,5,8,29]) (.cond (.t 29) (.seqr [m1 30 8,o1 2 (.mv (ci 7)),m1 3 30] [2,3,5]) .skip)
def e132_19:IC:=.seq (.seqr [m1 25 3,o1 26 (.call 180 [.t 25,(.c (.s [47]))]),m1 24 26,o1 27 (.ext (.t 24) 0),o1 28 (.ext (.t 24) 1),m1 8 27,m1 9 28] [2,3,5,8,9]) e132_21
def e132_15:IC:=.seq (.seqr [m1 22 7] [2,3,5,6,22]) (.cond (.t 22) (.seqr [m1 23 6,o1 2 (.mv (ci 6)),m1 3 23] [2,3,5]) e132_19)
def e132_28:IC:=.cond (.t 33) (.seq (.seqr [o1 2 (.mv (ci 0)),o1 3 (.mv (.c (.s []))),o1 4 (.mv (ci 0))] [2,3,4]) .ret) .skip
def e132_31:IC:=.seq (.seqr [m1 34 2,m1 35 3,m1 36 5,o1 37 (.bin .add (.t 36) (ci 1)),m1 2 34,m1 3 35,m1 4 37] [2,3,4]) .ret
def e132_25:IC:=.seq (.seq (.seqr [m1 31 3,o1 32 (.call 96 [.t 31]),o1 33 (.not (.t 32))] [2,3,5,33]) e132_28) e132_31
def e132_12:IC:=.seq (.seq (.seqr [m1 18 3,o1 19 (.call 109 [.t 18,(.c (.s [47]))]),m1 17 19,o1 20 (.ext (.t 17) 0),o1 21 (.ext (.t 17) 1),m1 6 20,m1 7 21] [2,3,5,6,7]) e132_15) e132_25
def e132_10:IC:=.seq (.ops [m1 14 0,m1 15 5,o1 16 (.slS (.t 14) (some (ci 1)) (some (.t 15))),o1 2 (.mv (ci 5)),m1 3 16] [2,3,5] [[0,2],[1,2],[2,4]]) e132_12
def e132_2:IC:=.seq (.seqr [m1 10 0,o1 11 (.call 179 [.t 10,(.c (.i .u8 62))]),m1 5 11] [0,5]) (.seq (.seq (.seqr [m1 12 5,o1 13 (.bin .lss (.t 12) (ci 0))] [0,5,13]) e132_7) e132_10)
def e132_0:IC:=.seq (.seqr [o1 2 (.mv (ci 0)),o1 3 (.mv (.c (.s []))),o1 4 (.mv (ci 0))] [0]) e132_2
def e132T:FnT:=⟨38,e132_0,[.t 2,.t 3,.t 4]⟩
theorem e132ok:tabF Tryz.prog 132 e132T=true:=by kernel_rfl
def e99_19:IC:=.seq (.seqr [o1 9 (.bin .eql (.t 3) (.c (.i .u8 35))),m1 4 9] [3,4]) (.cond (.t 4) .skip (.seqr [o1 10 (.bin .eql (.t 3) (.c (.i .u8 92))),m1 4 10] [4]))
def e99_16:IC:=.seq (.seqr [o1 8 (.bin .eql (.t 3) (.c (.i .u8 62))),m1 4 8] [3,4]) (.cond (.t 4) .skip e99_19)
def e99_13:IC:=.seq (.seqr [o1 7 (.bin .eql (.t 3) (.c (.i .u8 60))),m1 4 7] [3,4]) (.cond (.t 4) .skip e99_16)
def e99_10:IC:=.seq (.seqr [o1 6 (.bin .eql (.t 3) (.c (.i .u8 125))),m1 4 6] [3,4]) (.cond (.t 4) .skip e99_13)
def e99_5:IC:=.block 0 (.seq (.seq (.seqr [o1 5 (.bin .eql (.t 3) (.c (.i .u8 123))),m1 4 5] [3,4]) (.cond (.t 4) .skip e99_10)) (.cond (.t 4) (.seq (.seqr [o1 2 (.mv (.c (.b true)))] [2]) .ret) .skip))
def e99_2:IC:=.seq (.seq (.seqr [m1 3 0] [3]) e99_5) (.seq (.seqr [o1 2 (.mv (.c (.b false)))] [2]) .ret)
def e99_0:IC:=.seq (.seqr [o1 2 (.mv (.c (.b false)))] [0]) e99_2
def e99T:FnT:=⟨11,e99_0,[.t 2]⟩
theorem e99ok:tabF Tryz.prog 99 e99T=true:=by kernel_rfl
def e133_17:IC:=.seq (.seq (.seqr [m1 15 0,m1 16 3,o1 17 (.idx (.t 15) (.t 16)),o1 18 (.bin .neq (.t 17) (.c (.i .u8 92))),m1 19 18,⟨some 20,.mv (.t 3),some (19,false),[]⟩,⟨some 21,.bin .add (.t 20) (ci 1),some (19,false),[]⟩,⟨some 22,.mv (.t 0),some (19,false),[]⟩,⟨some 23,.lenS (.t 22),some (19,false),[]⟩,⟨some 24,.bin .eql (.t 21) (.t 23),some (19,false),[]⟩,o1 25 (.pick (.t 19) (.c (.b true)) (.t 24)),m1 26 25,⟨some 27,.mv (.t 0),some (26,false),[]⟩,⟨some 28,.mv (.t 3),some (26,false),[]⟩,⟨some 29,.bin .add (.t 28) (ci 1),some (26,false),[]⟩,⟨some 30,.idx (.t 27) (.t 29),some (26,false),[]⟩,⟨some 31,.call 99 [.t 30],some (26,false),[]⟩,⟨some 32,.not (.t 31),some (26,false),[]⟩,o1 33 (.pick (.t 26) (.c (.b true)) (.t 32))] [0,3,33]) (.cond (.t 33) (.seq (.seqr [m1 34 3,m1 2 34] [2]) .ret) .skip)) (.seqr [m1 35 3,o1 36 (.bin .add (.t 35) (ci 1)),m1 3 36] [0,3])
def e133_11:IC:=.seq (.block 1 (.seq (.seq (.seqr [m1 10 0,m1 11 3,o1 12 (.idx (.t 10) (.t 11)),o1 13 (.call 99 [.t 12]),o1 14 (.not (.t 13))] [0,3,14]) (.cond (.t 14) (.exit 1) .skip)) e133_17)) (.seqr [m1 8 3,o1 9 (.bin .add (.t 8) (ci 1)),m1 3 9] [0,3])
def e133_7:IC:=.seq (.seq (.seqr [m1 4 3,m1 5 0,o1 6 (.lenS (.t 5)),o1 7 (.bin .lss (.t 4) (.t 6))] [0,3,7]) (.cond (.t 7) .skip (.exit 0))) e133_11
def e133_2:IC:=.seq (.seq (.seqr [o1 3 (.mv (ci 0))] [0,3]) (.block 0 (.loop e133_7))) (.seq (.seqr [m1 37 0,o1 38 (.lenS (.t 37)),m1 2 38] [2]) .ret)
def e133_0:IC:=.seq (.seqr [o1 2 (.mv (ci 0))] [0]) e133_2
def e133T:FnT:=⟨39,e133_0,[.t 2]⟩
theorem e133ok:tabF Tryz.prog 133 e133T=true:=by kernel_rfl
def e84_9:IC:=.seq (.ops [m1 15 0,o1 16 (.slS (.t 15) none (some (ci 1))),o1 4 (.mv (ci 2)),m1 5 16,o1 6 (.mv (ci 1))] [4,5,6] [[0,1],[1,3]]) .ret
def e84_14:IC:=.seq (.ops [m1 20 0,o1 21 (.slS (.t 20) none (some (ci 1))),o1 4 (.mv (ci 3)),m1 5 21,o1 6 (.mv (ci 1))] [4,5,6] [[0,1],[1,3]]) .ret
def e84_19:IC:=.seq (.ops [m1 28 0,o1 29 (.slS (.t 28) none (some (ci 1))),o1 4 (.mv (ci 8)),m1 5 29,o1 6 (.mv (ci 1))] [4,5,6] [[0,1],[1,3]]) .ret
def e84_28:IC:=.seq (.ops [m1 37 0,o1 38 (.slS (.t 37) none (some (ci 1))),o1 4 (.mv (ci 4)),m1 5 38,o1 6 (.mv (ci 1))] [4,5,6] [[0,1],[1,3]]) .ret
def e84_33:IC:=.seq (.seqr [m1 42 0,o1 43 (.call 132 [.t 42]),o1 44 (.ext (.t 43) 0),o1 45 (.ext (.t 43) 1),o1 46 (.ext (.t 43) 2),m1 4 44,m1 5 45,m1 6 46] [4,5,6]) .ret
def e84_32:IC:=.cond (.t 39) e84_33 (.seqr [m1 10 0,o1 11 (.call 133 [.t 10]),o1 4 (.mv (ci 1)),m1 6 11] [0,4,6])
def e84_27:IC:=.cond (.t 34) e84_28 (.seq (.seqr [m1 40 7,o1 41 (.bin .eql (.t 40) (.c (.i .u8 60))),m1 39 41] [0,39]) e84_32)
def e84_23:IC:=.cond (.t 30) (.seqr [m1 32 0,o1 33 (.call 131 [.t 32]),o1 4 (.mv (ci 9)),m1 6 33] [0,4,6]) (.seq (.seqr [m1 35 7,o1 36 (.bin .eql (.t 35) (.c (.i .u8 35))),m1 34 36] [0,7,34]) e84_27)
def e84_16:IC:=.seq (.seqr [m1 23 1,m1 24 23,⟨some 25,.mv (.t 7),some (24,true),[]⟩,⟨some 26,.bin .eql (.t 25) (.c (.i .u8 44)),some (24,true),[]⟩,o1 27 (.pick (.t 24) (.t 26) (.c (.b false))),m1 22 27] [0,1,7,22]) (.cond (.t 22) e84_19 (.seq (.seqr [m1 31 1,m1 30 31] [0,7,30]) e84_23))
def e84_11:IC:=.seq (.seqr [m1 18 7,o1 19 (.bin .eql (.t 18) (.c (.i .u8 125))),m1 17 19] [0,1,7,17]) (.cond (.t 17) e84_14 e84_16)
def e84_5:IC:=.block 0 (.seq (.seqr [m1 13 7,o1 14 (.bin .eql (.t 13) (.c (.i .u8 123))),m1 12 14] [0,1,7,12]) (.cond (.t 12) e84_9 e84_11))
def e84_39:IC:=.cond (.t 48) (.seq (.seqr [o1 4 (.mv (ci 0)),o1 5 (.mv (.c (.s []))),o1 6 (.mv (ci 0))] [4,5,6]) .ret) .skip
def e84_42:IC:=.seq (.ops [m1 49 4,m1 50 0,m1 51 6,o1 52 (.slS (.t 50) none (some (.t 51))),m1 53 6,m1 4 49,m1 5 52,m1 6 53] [4,5,6] [[1,3],[2,3],[0,5],[3,6],[2,7],[4,7]]) .ret
def e84_2:IC:=.seq (.seq (.seqr [m1 8 0,o1 9 (.idx (.t 8) (ci 0)),m1 7 9] [0,1,7]) e84_5) (.seq (.seq (.seqr [m1 47 6,o1 48 (.bin .eql (.t 47) (ci 0))] [0,4,6,48]) e84_39) e84_42)
def e84_0:IC:=.seq (.seqr [o1 4 (.mv (ci 0)),o1 5 (.mv (.c (.s []))),o1 6 (.mv (ci 0))] [0,1]) e84_2
def e84T:FnT:=⟨54,e84_0,[.t 4,.t 5,.t 6]⟩
theorem e84ok:tabF Tryz.prog 84 e84T=true:=by kernel_rfl
def e52_5:IC:=.cond (.t 12) (.seq (.seqr [o1 2 (.mv (.c .nil)),o1 3 (.mv (ci 4000)),o1 4 (.mv (ci 6))] [2,3,4]) .ret) .skip
def e52_23:IC:=.cond (.t 35) (.seq (.seqr [m1 36 3,o1 37 (.bin .add (.t 36) (ci 1)),m1 3 37] [0,2,3,5,6]) (.exit 1)) .skip
def e52_34:IC:=.seqr [m1 50 7,o1 51 (.bin .eql (.t 50) (ci 3)),m1 52 51,⟨some 53,.mv (.t 5),some (52,true),[]⟩,⟨some 54,.lenL (.t 53),some (52,true),[]⟩,⟨some 55,.bin .eql (.t 54) (ci 0),some (52,true),[]⟩,o1 56 (.pick (.t 52) (.t 55) (.c (.b false))),m1 47 56] [0,2,3,5,6,7,8,9,47]
def e52_41:IC:=.seq (.seqr [m1 61 5,m1 62 6,o1 63 (.msl true 4 1 [.t 62]),o1 64 (.app (.t 61) (.t 63) 4 1),m1 5 64] [0,2,3,5,6,7,8,9]) (.seqr [m1 65 6,o1 66 (.not (.t 65)),m1 6 66] [0,2,3,5,6,7,8,9])
def e52_49:IC:=.seqr [m1 76 5,m1 77 5,o1 78 (.lenL (.t 77)),o1 79 (.bin .sub (.t 78) (ci 1)),o1 80 (.slT (.t 76) (.t 79) 1),m1 5 80] [0,2,3,5,6,7,8,9]
def e52_47:IC:=.seq (.seqr [m1 70 5,m1 71 5,o1 72 (.lenL (.t 71)),o1 73 (.bin .sub (.t 72) (ci 1)),o1 74 (.iaddr (.t 70) (.t 73) 4 1),o1 75 (.load (.t 74) 1 false),m1 6 75] [0,2,3,5,6,7,8,9]) e52_49
def e52_44:IC:=.seq (.seqr [m1 68 7,o1 69 (.bin .eql (.t 68) (ci 3)),m1 67 69] [0,2,3,5,6,7,8,9,67]) (.cond (.t 67) e52_47 .skip)
def e52_38:IC:=.seq (.seqr [m1 59 7,o1 60 (.bin .eql (.t 59) (ci 2)),m1 58 60] [0,2,3,5,6,7,8,9,58]) (.cond (.t 58) e52_41 e52_44)
def e52_35:IC:=.cond (.t 47) (.seq (.seqr [m1 57 3,o1 2 (.mv (.c .nil)),m1 3 57,o1 4 (.mv (ci 3))] [2,3,4]) .ret) e52_38
def e52_50:IC:=.seq (.seqr [m1 81 2,m1 82 7,m1 83 8,m1 84 3,m1 85 3,m1 86 9,o1 87 (.bin .add (.t 85) (.t 86)),o1 88 (.build [(.i .i64 0),(.s []),(.i .i64 0),(.i .i64 0)] [(0,1,(.t 82)),(1,1,(.t 83)),(2,1,(.t 84)),(3,1,(.t 87))]),o1 89 (.msl true 157 4 [.t 88]),o1 90 (.app (.t 81) (.t 89) 157 4),m1 2 90] [0,2,3,5,6,9]) (.seqr [m1 91 3,m1 92 9,o1 93 (.bin .add (.t 91) (.t 92)),m1 3 93] [0,2,3,5,6])
def e52_28:IC:=.seq (.block 2 (.seq (.seq (.seqr [m1 48 7,o1 49 (.bin .eql (.t 48) (ci 0)),m1 47 49] [0,2,3,5,6,7,8,9,47]) (.cond (.t 47) .skip e52_34)) e52_35)) e52_50
def e52_26:IC:=.seq (.seqr [m1 39 0,m1 40 3,o1 41 (.slS (.t 39) (some (.t 40)) none),m1 42 6,o1 43 (.call 84 [.t 41,.t 42]),m1 38 43,o1 44 (.ext (.t 38) 0),o1 45 (.ext (.t 38) 1),o1 46 (.ext (.t 38) 2),m1 7 44,m1 8 45,m1 9 46] [0,2,3,5,6,7,8,9]) e52_28
def e52_19:IC:=.block 1 (.seq (.seq (.seqr [m1 17 6,m1 18 17,⟨some 19,.mv (.t 0),some (18,true),[]⟩,⟨some 20,.mv (.t 3),some (18,true),[]⟩,⟨some 21,.idx (.t 19) (.t 20),some (18,true),[]⟩,⟨some 22,.bin .eql (.t 21) (.c (.i .u8 32)),some (18,true),[]⟩,⟨some 23,.mv (.t 22),some (18,true),[]⟩,⟨some 24,.mv (.t 0),some (23,false),[]⟩,⟨some 25,.mv (.t 3),some (23,false),[]⟩,⟨some 26,.idx (.t 24) (.t 25),some (23,false),[]⟩,⟨some 27,.bin .eql (.t 26) (.c (.i .u8 9)),some (23,false),[]⟩,⟨some 28,.pick (.t 23) (.c (.b true)) (.t 27),some (18,true),[]⟩,⟨some 29,.mv (.t 28),some (18,true),[]⟩,⟨some 30,.mv (.t 0),some (29,false),[]⟩,⟨some 31,.mv (.t 3),some (29,false),[]⟩,⟨some 32,.idx (.t 30) (.t 31),some (29,false),[]⟩,⟨some 33,.bin .eql (.t 32) (.c (.i .u8 10)),some (29,false),[]⟩,⟨some 34,.pick (.t 29) (.c (.b true)) (.t 33),some (18,true),[]⟩,o1 35 (.pick (.t 18) (.t 34) (.c (.b false)))] [0,2,3,5,6,35]) e52_23) e52_26)
def e52_15:IC:=.seq (.seq (.seqr [m1 13 3,m1 14 0,o1 15 (.lenS (.t 14)),o1 16 (.bin .lss (.t 13) (.t 15))] [0,2,3,5,6,16]) (.cond (.t 16) .skip (.exit 0))) e52_19
def e52_57:IC:=.seq (.seqr [m1 97 0,o1 98 (.lenS (.t 97)),o1 2 (.mv (.c .nil)),m1 3 98,o1 4 (.mv (ci 3))] [2,3,4]) .ret
def e52_53:IC:=.seq (.seq (.seqr [m1 94 5,o1 95 (.lenL (.t 94)),o1 96 (.bin .gtr (.t 95) (ci 0))] [0,2,96]) (.cond (.t 96) e52_57 .skip)) (.seq (.seqr [m1 99 2,m1 2 99,o1 3 (.mv (ci 0)),o1 4 (.mv (ci 0))] [2,3,4]) .ret)
def e52_10:IC:=.seq (.seqr [o1 6 (.mv (.c (.b false)))] [0,2,3,5,6]) (.seq (.block 0 (.loop e52_15)) e52_53)
def e52_2:IC:=.seq (.seq (.seqr [m1 10 0,o1 11 (.lenS (.t 10)),o1 12 (.bin .gtr (.t 11) (ci 4000))] [0,2,3,12]) e52_5) (.seq (.seqr [o1 5 (.mv (.c .nil))] [0,2,3,5]) e52_10)
def e52_0:IC:=.seq (.seqr [o1 2 (.mv (.c .nil)),o1 3 (.mv (ci 0)),o1 4 (.mv (ci 0))] [0,2,3]) e52_2
def e52T:FnT:=⟨100,e52_0,[.t 2,.t 3,.t 4]⟩
theorem e52ok:tabF Tryz.prog 52 e52T=true:=by kernel_rfl
def e85_8:IC:=.seq (.ops [m1 20 0,o1 21 (.nilck (.t 20)),o1 22 (.faddr (.t 21) 1),o1 23 (.load (.t 22) 1 false),m1 24 0,o1 25 (.nilck (.t 24)),o1 26 (.faddr (.t 25) 2),o1 27 (.load (.t 26) 1 false),o1 28 (.iaddr (.t 23) (.t 27) 157 4),o1 29 (.faddr (.t 28) 0),o1 30 (.load (.t 29) 1 false),m1 2 30] [2] [[0,1],[1,2],[2,3],[4,5],[5,6],[6,7],[3,8],[7,8],[8,9],[9,10],[10,11]]) .ret
def e85_2:IC:=.seq (.seq (.ops [m1 3 0,o1 4 (.nilck (.t 3)),o1 5 (.faddr (.t 4) 5),o1 6 (.load (.t 5) 1 false),o1 7 (.bin .neq (.t 6) (ci 0)),m1 8 7,⟨some 9,.mv (.t 0),some (8,false),[]⟩,⟨some 10,.nilck (.t 9),some (8,false),[]⟩,⟨some 11,.faddr (.t 10) 2,some (8,false),[]⟩,⟨some 12,.load (.t 11) 1 false,some (8,false),[]⟩,⟨some 13,.mv (.t 0),some (8,false),[]⟩,⟨some 14,.nilck (.t 13),some (8,false),[]⟩,⟨some 15,.faddr (.t 14) 1,some (8,false),[]⟩,⟨some 16,.load (.t 15) 1 false,some (8,false),[]⟩,⟨some 17,.lenL (.t 16),some (8,false),[]⟩,⟨some 18,.bin .geq (.t 12) (.t 17),some (8,false),[]⟩,o1 19 (.pick (.t 8) (.c (.b true)) (.t 18))] [0,19] [[0,1],[1,2],[2,3],[3,4],[4,5],[5,6],[5,7],[6,7],[5,8],[7,8],[5,9],[8,9],[5,10],[5,11],[10,11],[5,12],[11,12],[5,13],[12,13],[5,14],[13,14],[5,15],[9,15],[14,15],[5,16],[15,16]]) (.cond (.t 19) (.seq (.seqr [o1 2 (.mv (ci 0))] [2]) .ret) .skip)) e85_8
def e85_0:IC:=.seq (.seqr [o1 2 (.mv (ci 0))] [0]) e85_2
def e85T:FnT:=⟨31,e85_0,[.t 2]⟩
theorem e85ok:tabF Tryz.prog 85 e85T=true:=by kernel_rfl
def e87_6:IC:=.seq (.seqr [m1 9 0,o1 10 (.calls 54 [.t 9,(ci 3)])] []) (.seq (.seqr [o1 4 (.mv (.c (.s [])))] [4]) .ret)
def e87_12:IC:=.seq (.ops [m1 18 0,o1 19 (.nilck (.t 18)),o1 20 (.faddr (.t 19) 1),o1 21 (.load (.t 20) 1 false),m1 22 0,o1 23 (.nilck (.t 22)),o1 24 (.faddr (.t 23) 2),o1 25 (.load (.t 24) 1 false),o1 26 (.bin .sub (.t 25) (ci 1)),o1 27 (.iaddr (.t 21) (.t 26) 157 4),o1 28 (.faddr (.t 27) 1),o1 29 (.load (.t 28) 1 false),m1 4 29] [4] [[0,1],[1,2],[2,3],[4,5],[5,6],[6,7],[7,8],[3,9],[8,9],[9,10],[10,11],[11,12]]) .ret
def e87_10:IC:=.seq (.seqr [m1 11 0,o1 12 (.nilck (.t 11)),o1 13 (.faddr (.t 12) 2),o1 14 (.load (.t 13) 1 false),o1 15 (.bin .add (.t 14) (ci 1)),o1 16 (.nilck (.t 11)),o1 17 (.faddr (.t 16) 2),o0 (.store (.t 17) (.t 15) 1)] [0]) e87_12
def e87_2:IC:=.seq (.seq (.seqr [m1 5 0,o1 6 (.calls 85 [.t 5]),m1 7 1,o1 8 (.bin .neq (.t 6) (.t 7))] [0,8]) (.cond (.t 8) e87_6 .skip)) e87_10
def e87_0:IC:=.seq (.seqr [o1 4 (.mv (.c (.s [])))] [0,1]) e87_2
def e87T:FnT:=⟨30,e87_0,[.t 4]⟩
theorem e87ok:tabF Tryz.prog 87 e87T=true:=by kernel_rfl
def e100_4:IC:=.seq (.seqr [m1 7 0,m1 8 0,o1 9 (.nilck (.t 8)),o1 10 (.faddr (.t 9) 1),o1 11 (.load (.t 10) 1 false),m1 12 1,o1 13 (.msl true 5 1 [.t 12]),o1 14 (.app (.t 11) (.t 13) 5 1),o1 15 (.nilck (.t 7)),o1 16 (.faddr (.t 15) 1),o0 (.store (.t 16) (.t 14) 1)] []) (.seq (.seqr [o1 4 (.mv (.c .ni))] [4]) .ret)
def e100_0:IC:=.seq (.seqr [o1 4 (.mv (.c .ni))] [0,1]) (.seq (.seqr [m1 5 0,o1 6 (.calls 101 [.t 5])] [0,1]) e100_4)
def e100T:FnT:=⟨17,e100_0,[.t 4]⟩
theorem e100ok:tabF Tryz.prog 100 e100T=true:=by kernel_rfl
def e86_7:IC:=.cond (.t 13) (.seq (.seqr [m1 14 5,o1 2 (.mv (.c (.s []))),m1 3 14,o1 4 (.mv (ci 3))] [2,3,4]) .ret) .skip
def e86_5:IC:=.seq (.seqr [m1 10 5,m1 11 0,o1 12 (.lenS (.t 11)),o1 13 (.bin .lss (.t 10) (.t 12))] [0,5,13]) e86_7
def e86_28:IC:=.seqr [m1 27 0,m1 28 7,o1 29 (.idx (.t 27) (.t 28)),o1 30 (.calls 100 [.t 6,.t 29])] [0,6,7]
def e86_21:IC:=.seq (.block 1 (.seq (.seq (.seqr [m1 21 0,m1 22 7,o1 23 (.idx (.t 21) (.t 22)),o1 24 (.bin .eql (.t 23) (.c (.i .u8 92)))] [0,6,7,24]) (.cond (.t 24) (.seqr [m1 25 7,o1 26 (.bin .add (.t 25) (ci 1)),m1 7 26] [0,6,7]) .skip)) e86_28)) (.seqr [m1 19 7,o1 20 (.bin .add (.t 19) (ci 1)),m1 7 20] [0,6,7])
def e86_17:IC:=.seq (.seq (.seqr [m1 15 7,m1 16 0,o1 17 (.lenS (.t 16)),o1 18 (.bin .lss (.t 15) (.t 17))] [0,6,7,18]) (.cond (.t 18) .skip (.exit 0))) e86_21
def e86_30:IC:=.seq (.seqr [o1 31 (.calls 17 [.t 6]),m1 2 31,o1 3 (.mv (ci 0)),o1 4 (.mv (ci 0))] [2,3,4]) .ret
def e86_10:IC:=.seq (.seqr [o1 6 (.mkm (.tnew 56 (.agg [.np,.nil])) [])] [0,6]) (.seq (.seq (.seqr [o1 7 (.mv (ci 0))] [0,6,7]) (.block 0 (.loop e86_17))) e86_30)
def e86_0:IC:=.seq (.seqr [o1 2 (.mv (.c (.s []))),o1 3 (.mv (ci 0)),o1 4 (.mv (ci 0))] [0]) (.seq (.seq (.seqr [m1 8 0,o1 9 (.call 133 [.t 8]),m1 5 9] [0,5]) e86_5) e86_10)
def e86T:FnT:=⟨32,e86_0,[.t 2,.t 3,.t 4]⟩
theorem e86ok:tabF Tryz.prog 86 e86T=true:=by kernel_rfl
def e88_0:IC:=.seq (.seqr [m1 4 1,o1 5 (.bin .gtr (.t 4) (ci 8))] [0,5]) (.cond (.t 5) (.seqr [m1 6 0,o1 7 (.calls 54 [.t 6,(ci 6)])] []) .skip)
def e88T:FnT:=⟨8,e88_0,[]⟩
theorem e88ok:tabF Tryz.prog 88 e88T=true:=by kernel_rfl
def e89_13:IC:=.seq (.seqr [m1 40 0,o1 41 (.calls 87 [.t 40,(ci 6)])] [6,7]) (.seq (.seqr [o1 42 (.load (.t 7) 6 true),o0 (.store (.t 6) (.t 42) 6)] [6]) .ret)
def e89_8:IC:=.seq (.seq (.ops [m1 19 0,o1 20 (.calls 85 [.t 19]),o1 21 (.bin .neq (.t 20) (ci 6)),m1 22 21,⟨some 23,.mv (.t 0),some (22,false),[]⟩,⟨some 24,.nilck (.t 23),some (22,false),[]⟩,⟨some 25,.faddr (.t 24) 1,some (22,false),[]⟩,⟨some 26,.load (.t 25) 1 false,some (22,false),[]⟩,⟨some 27,.mv (.t 0),some (22,false),[]⟩,⟨some 28,.nilck (.t 27),some (22,false),[]⟩,⟨some 29,.faddr (.t 28) 2,some (22,false),[]⟩,⟨some 30,.load (.t 29) 1 false,some (22,false),[]⟩,⟨some 31,.iaddr (.t 26) (.t 30) 157 4,some (22,false),[]⟩,⟨some 32,.faddr (.t 31) 1,some (22,false),[]⟩,⟨some 33,.load (.t 32) 1 false,some (22,false),[]⟩,⟨some 34,.faddr (.t 7) 2,some (22,false),[]⟩,⟨some 35,.load (.t 34) 1 false,some (22,false),[]⟩,⟨some 36,.bin .neq (.t 33) (.t 35),some (22,false),[]⟩,o1 37 (.pick (.t 22) (.c (.b true)) (.t 36))] [0,6,7,37] [[0,1],[1,2],[2,3],[3,4],[3,5],[4,5],[3,6],[5,6],[1,3,7],[3,7],[6,7],[3,8],[3,9],[8,9],[3,10],[9,10],[1,3,11],[3,11],[10,11],[1,3,12],[3,12],[7,12],[11,12],[3,13],[12,13],[1,3,14],[3,14],[13,14],[3,15],[1,3,16],[3,16],[15,16],[3,17],[14,17],[16,17],[3,18],[17,18]]) (.cond (.t 37) (.seqr [m1 38 0,o1 39 (.calls 54 [.t 38,(ci 3)])] [0,6,7]) .skip)) e89_13
def e89_6:IC:=.seq (.seqr [m1 14 0,m1 15 1,m1 16 2,o1 17 (.calls 53 [.t 14,.t 15,.t 16]),o1 18 (.faddr (.t 7) 5),o0 (.store (.t 18) (.t 17) 1)] [0,6,7]) e89_8
def e89_4:IC:=.seq (.seqr [m1 11 0,o1 12 (.calls 87 [.t 11,(ci 5)]),o1 13 (.build [(.i .i64 0),(.s []),(.s []),(.s []),.nil,.nil] [(0,1,(ci 11)),(2,1,(.t 12))]),o1 7 (.alloc (.agg [(.i .i64 0),(.s []),(.s []),(.s []),.nil,.nil])),o0 (.store (.t 7) (.t 13) 6)] [0,1,2,6,7]) e89_6
def e89_0:IC:=.seq (.seqr [o1 6 (.alloc (.agg [(.i .i64 0),(.s []),(.s []),(.s []),.nil,.nil]))] [0,1,2,6]) (.seq (.seqr [m1 8 0,m1 9 1,o1 10 (.calls 88 [.t 8,.t 9])] [0,1,2,6]) e89_4)
def e89T:FnT:=⟨43,e89_0,[.c 6 6 true]⟩
theorem e89ok:tabF Tryz.prog 89 e89T=true:=by kernel_rfl
def e136_6:IC:=.seq (.seqr [m1 24 0,o1 25 (.calls 54 [.t 24,(ci 3)])] []) (.seq (.seqr [o1 4 (.mv (.c (.s [])))] [4]) .ret)
def e136_2:IC:=.seq (.seq (.ops [m1 5 0,o1 6 (.calls 85 [.t 5]),o1 7 (.bin .neq (.t 6) (ci 9)),m1 8 7,⟨some 9,.mv (.t 1),some (8,false),[]⟩,⟨some 10,.mv (.t 0),some (8,false),[]⟩,⟨some 11,.nilck (.t 10),some (8,false),[]⟩,⟨some 12,.faddr (.t 11) 1,some (8,false),[]⟩,⟨some 13,.load (.t 12) 1 false,some (8,false),[]⟩,⟨some 14,.mv (.t 0),some (8,false),[]⟩,⟨some 15,.nilck (.t 14),some (8,false),[]⟩,⟨some 16,.faddr (.t 15) 2,some (8,false),[]⟩,⟨some 17,.load (.t 16) 1 false,some (8,false),[]⟩,⟨some 18,.iaddr (.t 13) (.t 17) 157 4,some (8,false),[]⟩,⟨some 19,.faddr (.t 18) 1,some (8,false),[]⟩,⟨some 20,.load (.t 19) 1 false,some (8,false),[]⟩,⟨some 21,.callvs (.t 9) [.t 20],some (8,false),[]⟩,⟨some 22,.not (.t 21),some (8,false),[]⟩,o1 23 (.pick (.t 8) (.c (.b true)) (.t 22))] [0,23] [[0,1],[1,2],[2,3],[3,4],[3,5],[3,6],[5,6],[3,7],[6,7],[1,3,8],[3,8],[7,8],[3,9],[3,10],[9,10],[3,11],[10,11],[1,3,12],[3,12],[11,12],[1,3,13],[3,13],[8,13],[12,13],[3,14],[13,14],[1,3,15],[3,15],[14,15],[1,3,16],[3,16],[4,16],[8,13,14,15,16],[12,13,14,15,16],[13,14,15,16],[15,16],[3,17],[16,17],[3,18],[17,18]]) (.cond (.t 23) e136_6 .skip)) (.seq (.seqr [m1 26 0,o1 27 (.calls 87 [.t 26,(ci 9)]),m1 4 27] [4]) .ret)
def e136_0:IC:=.seq (.seqr [o1 4 (.mv (.c (.s [])))] [0,1]) e136_2
def e136T:FnT:=⟨28,e136_0,[.t 4]⟩
theorem e136ok:tabF Tryz.prog 136 e136T=true:=by kernel_rfl
def e134_13:IC:=.seqr [m1 54 0,o1 55 (.nilck (.t 54)),o1 56 (.faddr (.t 55) 3),o1 57 (.load (.t 56) 1 false),m1 58 3,o0 (.wrm (.mput .str) (.t 57) [.t 58,(.c (.b true))])] [3]
def e134_9:IC:=.seq (.seq (.seqr [m1 52 3,o1 53 (.bin .neq (.t 52) (.c (.s [])))] [0,3,53]) (.cond (.t 53) e134_13 .skip)) (.seq (.seqr [m1 59 3,m1 2 59] [2]) .ret)
def e134_2:IC:=.seq (.seq (.ops [m1 4 0,o1 5 (.calls 85 [.t 4]),o1 6 (.bin .eql (.t 5) (ci 9)),m1 7 6,⟨some 8,.mv (.t 0),some (7,true),[]⟩,⟨some 9,.nilck (.t 8),some (7,true),[]⟩,⟨some 10,.faddr (.t 9) 1,some (7,true),[]⟩,⟨some 11,.load (.t 10) 1 false,some (7,true),[]⟩,⟨some 12,.mv (.t 0),some (7,true),[]⟩,⟨some 13,.nilck (.t 12),some (7,true),[]⟩,⟨some 14,.faddr (.t 13) 2,some (7,true),[]⟩,⟨some 15,.load (.t 14) 1 false,some (7,true),[]⟩,⟨some 16,.iaddr (.t 11) (.t 15) 157 4,some (7,true),[]⟩,⟨some 17,.faddr (.t 16) 1,some (7,true),[]⟩,⟨some 18,.load (.t 17) 1 false,some (7,true),[]⟩,⟨some 19,.call 96 [.t 18],some (7,true),[]⟩,o1 20 (.pick (.t 7) (.t 19) (.c (.b false))),m1 21 20,⟨some 22,.mv (.t 0),some (21,true),[]⟩,⟨some 23,.nilck (.t 22),some (21,true),[]⟩,⟨some 24,.faddr (.t 23) 3,some (21,true),[]⟩,⟨some 25,.load (.t 24) 1 false,some (21,true),[]⟩,⟨some 26,.mv (.t 0),some (21,true),[]⟩,⟨some 27,.nilck (.t 26),some (21,true),[]⟩,⟨some 28,.faddr (.t 27) 1,some (21,true),[]⟩,⟨some 29,.load (.t 28) 1 false,some (21,true),[]⟩,⟨some 30,.mv (.t 0),some (21,true),[]⟩,⟨some 31,.nilck (.t 30),some (21,true),[]⟩,⟨some 32,.faddr (.t 31) 2,some (21,true),[]⟩,⟨some 33,.load (.t 32) 1 false,some (21,true),[]⟩,⟨some 34,.iaddr (.t 29) (.t 33) 157 4,some (21,true),[]⟩,⟨some 35,.faddr (.t 34) 1,some (21,true),[]⟩,⟨some 36,.load (.t 35) 1 false,some (21,true),[]⟩,⟨some 37,.rdm (.mget .str (.b false) false) (.t 25) [.t 36],some (21,true),[]⟩,⟨some 38,.not (.t 37),some (21,true),[]⟩,o1 39 (.pick (.t 21) (.t 38) (.c (.b false))),m1 40 39,⟨some 41,.mv (.t 0),some (40,true),[]⟩,⟨some 42,.nilck (.t 41),some (40,true),[]⟩,⟨some 43,.faddr (.t 42) 3,some (40,true),[]⟩,⟨some 44,.load (.t 43) 1 false,some (40,true),[]⟩,⟨some 45,.rdm .mlen (.t 44) [],some (40,true),[]⟩,⟨some 46,.bin .geq (.t 45) (ci 20),some (40,true),[]⟩,o1 47 (.pick (.t 40) (.t 46) (.c (.b false)))] [0,47] [[0,1],[1,2],[2,3],[3,4],[3,5],[4,5],[3,6],[5,6],[1,3,7],[3,7],[6,7],[3,8],[3,9],[8,9],[3,10],[9,10],[1,3,11],[3,11],[10,11],[1,3,12],[3,12],[7,12],[11,12],[3,13],[12,13],[1,3,14],[3,14],[13,14],[3,15],[14,15],[3,16],[15,16],[16,17],[17,18],[17,19],[18,19],[17,20],[19,20],[1,3,16,17,21],[17,21],[20,21],[17,22],[17,23],[22,23],[17,24],[23,24],[1,3,16,17,25],[17,25],[24,25],[17,26],[17,27],[26,27],[17,28],[27,28],[1,3,16,17,29],[17,29],[28,29],[1,3,16,17,30],[17,30],[25,30],[29,30],[17,31],[30,31],[1,3,16,17,32],[17,32],[31,32],[1,3,16,17,33],[17,33],[21,33],[32,33],[17,34],[33,34],[17,35],[34,35],[35,36],[36,37],[36,38],[37,38],[36,39],[38,39],[1,3,16,17,36,40],[36,40],[39,40],[1,3,16,17,36,41],[36,41],[40,41],[36,42],[41,42],[36,43],[42,43]]) (.cond (.t 47) (.seqr [m1 48 0,o1 49 (.calls 54 [.t 48,(ci 6)])] [0]) .skip)) (.seq (.seqr [m1 50 0,o1 51 (.calls 136 [.t 50,(.c (.fn 96 [] []))]),m1 3 51] [0,3]) e134_9)
def e134_0:IC:=.seq (.seqr [o1 2 (.mv (.c (.s [])))] [0]) e134_2
def e134T:FnT:=⟨60,e134_0,[.t 2]⟩
theorem e134ok:tabF Tryz.prog 134 e134T=true:=by kernel_rfl
def e63_2:IC:=.seq (.seqr [o1 1 (.mkm .mkmap []),o0 (.wrm (.mput .str) (.t 1) [(.c (.s [110,117,109,98,101,114])),(ci 3)]),o0 (.wrm (.mput .str) (.t 1) [(.c (.s [117,110,105,116])),(ci 4)]),o0 (.wrm (.mput .str) (.t 1) [(.c (.s [100,97,116,101])),(ci 5)]),o0 (.wrm (.mput .str) (.t 1) [(.c (.s [108,105,115,116])),(ci 6)]),o0 (.wrm (.mput .str) (.t 1) [(.c (.s [112,108,117,114,97,108])),(ci 7)]),o0 (.wrm (.mput .str) (.t 1) [(.c (.s [111,114,100,105,110,97,108])),(ci 8)]),o0 (.wrm (.mput .str) (.t 1) [(.c (.s [115,101,108,101,99,116])),(ci 9)]),m1 2 1,m1 0 2] [0]) .ret
def e63_0:IC:=.seq (.seqr [o1 0 (.mv (.c .nm))] []) e63_2
def e63T:FnT:=⟨3,e63_0,[.t 0]⟩
theorem e63ok:tabF Tryz.prog 63 e63T=true:=by kernel_rfl
def e135_2:IC:=.seq (.seqr [o1 4 (.load (.t 1) 1 false),m1 5 0,o1 6 (.rdm (.mget .str (.i .i64 0) false) (.t 4) [.t 5]),o1 7 (.bin .neq (.t 6) (ci 0)),m1 3 7] [3]) .ret
def e135_0:IC:=.seq (.seqr [o1 3 (.mv (.c (.b false)))] [0,1]) e135_2
def e135T:FnT:=⟨8,e135_0,[.t 3]⟩
theorem e135ok:tabF Tryz.prog 135 e135T=true:=by kernel_rfl
def e60_2:IC:=.seq (.seqr [m1 3 0,o1 4 (.bin .geq (.t 3) (ci 7)),m1 5 4,⟨some 6,.mv (.t 0),some (5,true),[]⟩,⟨some 7,.bin .leq (.t 6) (ci 9),some (5,true),[]⟩,o1 8 (.pick (.t 5) (.t 7) (.c (.b false))),m1 2 8] [2]) .ret
def e60_0:IC:=.seq (.seqr [o1 2 (.mv (.c (.b false)))] [0]) e60_2
def e60T:FnT:=⟨9,e60_0,[.t 2]⟩
theorem e60ok:tabF Tryz.prog 60 e60T=true:=by kernel_rfl
def e140_21:IC:=.cond (.t 4) .skip (.seqr [o1 10 (.bin .eql (.t 3) (.c (.s [111,116,104,101,114]))),m1 4 10] [4])
def e140_18:IC:=.cond (.t 4) .skip (.seq (.seqr [o1 9 (.bin .eql (.t 3) (.c (.s [109,97,110,121]))),m1 4 9] [3,4]) e140_21)
def e140_15:IC:=.cond (.t 4) .skip (.seq (.seqr [o1 8 (.bin .eql (.t 3) (.c (.s [102,101,119]))),m1 4 8] [3,4]) e140_18)
def e140_12:IC:=.cond (.t 4) .skip (.seq (.seqr [o1 7 (.bin .eql (.t 3) (.c (.s [116,119,111]))),m1 4 7] [3,4]) e140_15)
def e140_9:IC:=.cond (.t 4) .skip (.seq (.seqr [o1 6 (.bin .eql (.t 3) (.c (.s [111,110,101]))),m1 4 6] [3,4]) e140_12)
def e140_5:IC:=.block 0 (.seq (.seq (.seqr [o1 5 (.bin .eql (.t 3) (.c (.s [122,101,114,111]))),m1 4 5] [3,4]) e140_9) (.cond (.t 4) (.seq (.seqr [o1 2 (.mv (.c (.b true)))] [2]) .ret) .skip))
def e140_2:IC:=.seq (.seq (.seqr [m1 3 0] [3]) e140_5) (.seq (.seqr [o1 2 (.mv (.c (.b false)))] [2]) .ret)
def e140_0:IC:=.seq (.seqr [o1 2 (.mv (.c (.b false)))] [0]) e140_2
def e140T:FnT:=⟨11,e140_0,[.t 2]⟩
theorem e140ok:tabF Tryz.prog 140 e140T=true:=by kernel_rfl
def e154_8:IC:=.seq (.ops [m1 13 0,m1 14 7,o1 15 (.slS (.t 13) none (some (.t 14))),m1 16 0,m1 17 7,m1 18 1,o1 19 (.lenS (.t 18)),o1 20 (.bin .add (.t 17) (.t 19)),o1 21 (.slS (.t 16) (some (.t 20)) none),m1 4 15,m1 5 21,o1 6 (.mv (.c (.b true)))] [4,5,6] [[0,2],[1,2],[5,6],[4,7],[6,7],[3,8],[7,8],[2,9],[8,10]]) .ret
def e154_5:IC:=.seq (.seqr [m1 11 7,o1 12 (.bin .geq (.t 11) (ci 0))] [0,1,7,12]) (.cond (.t 12) e154_8 .skip)
def e154_10:IC:=.seq (.seqr [m1 22 0,m1 4 22,o1 5 (.mv (.c (.s []))),o1 6 (.mv (.c (.b false)))] [4,5,6]) .ret
def e154_2:IC:=.seq (.seq (.seqr [m1 8 0,m1 9 1,o1 10 (.call 193 [.t 8,.t 9]),m1 7 10] [0,1,7]) e154_5) e154_10
def e154_0:IC:=.seq (.seqr [o1 4 (.mv (.c (.s []))),o1 5 (.mv (.c (.s []))),o1 6 (.mv (.c (.b false)))] [0,1]) e154_2
def e154T:FnT:=⟨23,e154_0,[.t 4,.t 5,.t 6]⟩
theorem e154ok:tabF Tryz.prog 154 e154T=true:=by kernel_rfl
def e110_2:IC:=.seq (.seqr [m1 7 0,m1 8 1,o1 9 (.call 154 [.t 7,.t 8]),o1 10 (.ext (.t 9) 0),o1 11 (.ext (.t 9) 1),o1 12 (.ext (.t 9) 2),m1 4 10,m1 5 11,m1 6 12] [4,5,6]) .ret
def e110_0:IC:=.seq (.seqr [o1 4 (.mv (.c (.s []))),o1 5 (.mv (.c (.s []))),o1 6 (.mv (.c (.b false)))] [0,1]) e110_2
def e110T:FnT:=⟨13,e110_0,[.t 4,.t 5,.t 6]⟩
theorem e110ok:tabF Tryz.prog 110 e110T=true:=by kernel_rfl
def e146_2:IC:=.seq (.seqr [m1 3 0,o1 4 (.call 183 [.t 3,(.c (.s [48,49,50,51,52,53,54,55,56,57]))]),o1 5 (.bin .eql (.t 4) (.c (.s []))),m1 2 5] [2]) .ret
def e146_0:IC:=.seq (.seqr [o1 2 (.mv (.c (.b false)))] [0]) e146_2
def e146T:FnT:=⟨6,e146_0,[.t 2]⟩
theorem e146ok:tabF Tryz.prog 146 e146T=true:=by kernel_rfl
def e104_13:IC:=.seq (.seqr [o1 49 (.load (.t 9) 3 true),o0 (.store (.t 2) (.t 49) 3),o1 3 (.mv (.c (.b false)))] [2,3]) .ret
def e104_18:IC:=.seq (.seqr [o1 67 (.load (.t 9) 3 true),o0 (.store (.t 2) (.t 67) 3),o1 3 (.mv (.c (.b false)))] [2,3]) .ret
def e104_15:IC:=.seq (.seqr [m1 51 8,m1 52 51,⟨some 53,.mv (.t 7),some (52,true),[]⟩,⟨some 54,.lenS (.t 53),some (52,true),[]⟩,⟨some 55,.bin .eql (.t 54) (ci 0),some (52,true),[]⟩,o1 56 (.pick (.t 52) (.t 55) (.c (.b false))),m1 57 56,⟨some 58,.mv (.t 7),some (57,false),[]⟩,⟨some 59,.lenS (.t 58),some (57,false),[]⟩,⟨some 60,.bin .gtr (.t 59) (ci 6),some (57,false),[]⟩,o1 61 (.pick (.t 57) (.c (.b true)) (.t 60)),m1 62 61,⟨some 63,.mv (.t 7),some (62,false),[]⟩,⟨some 64,.call 146 [.t 63],some (62,false),[]⟩,⟨some 65,.not (.t 64),some (62,false),[]⟩,o1 66 (.pick (.t 62) (.c (.b true)) (.t 65)),m1 50 66] [2,5,9,50]) (.cond (.t 50) e104_18 .skip)
def e104_20:IC:=.seq (.ops [o1 68 (.load (.t 9) 3 true),m1 69 5,o1 70 (.not (.t 69)),m1 71 70,⟨some 72,.load (.t 9) 3 true,some (71,false),[]⟩,⟨some 73,.call 147 [.t 72],some (71,false),[]⟩,⟨some 74,.not (.t 73),some (71,false),[]⟩,o1 75 (.pick (.t 71) (.c (.b true)) (.t 74)),o0 (.store (.t 2) (.t 68) 3),m1 3 75] [2,3] [[1,2],[2,3],[3,4],[3,5],[4,5],[3,6],[5,6],[3,7],[6,7],[0,8],[4,5,8],[7,9]]) .ret
def e104_8:IC:=.seq (.block 0 (.seq (.seqr [m1 26 6,o1 27 (.lenS (.t 26)),o1 28 (.bin .lss (.t 27) (ci 1)),m1 29 28,⟨some 30,.mv (.t 6),some (29,false),[]⟩,⟨some 31,.lenS (.t 30),some (29,false),[]⟩,⟨some 32,.bin .gtr (.t 31) (ci 15),some (29,false),[]⟩,o1 33 (.pick (.t 29) (.c (.b true)) (.t 32)),m1 34 33,⟨some 35,.mv (.t 6),some (34,false),[]⟩,⟨some 36,.call 146 [.t 35],some (34,false),[]⟩,⟨some 37,.not (.t 36),some (34,false),[]⟩,o1 38 (.pick (.t 34) (.c (.b true)) (.t 37)),m1 39 38,⟨some 40,.mv (.t 6),some (39,false),[]⟩,⟨some 41,.lenS (.t 40),some (39,false),[]⟩,⟨some 42,.bin .gtr (.t 41) (ci 1),some (39,false),[]⟩,⟨some 43,.mv (.t 42),some (39,false),[]⟩,⟨some 44,.mv (.t 6),some (43,true),[]⟩,⟨some 45,.idx (.t 44) (ci 0),some (43,true),[]⟩,⟨some 46,.bin .eql (.t 45) (.c (.i .u8 48)),some (43,true),[]⟩,⟨some 47,.pick (.t 43) (.t 46) (.c (.b false)),some (39,false),[]⟩,o1 48 (.pick (.t 39) (.c (.b true)) (.t 47)),m1 25 48] [2,5,7,8,9,25]) (.cond (.t 25) e104_13 e104_15))) e104_20
def e104_6:IC:=.seq (.seqr [m1 21 5,m1 22 6,m1 23 7,o1 24 (.build [(.b false),(.s []),(.s [])] [(0,1,(.t 21)),(1,1,(.t 22)),(2,1,(.t 23))]),o1 9 (.alloc (.agg [(.b false),(.s []),(.s [])])),o0 (.store (.t 9) (.t 24) 3)] [2,5,6,7,8,9]) e104_8
def e104_4:IC:=.seq (.seqr [m1 16 4,o1 17 (.call 110 [.t 16,(.c (.s [46]))]),m1 15 17,o1 18 (.ext (.t 15) 0),o1 19 (.ext (.t 15) 1),o1 20 (.ext (.t 15) 2),m1 6 18,m1 7 19,m1 8 20] [2,5,6,7,8]) e104_6
def e104_2:IC:=.seq (.seqr [m1 11 0,o1 12 (.call 109 [.t 11,(.c (.s [45]))]),m1 10 12,o1 13 (.ext (.t 10) 0),o1 14 (.ext (.t 10) 1),m1 4 13,m1 5 14] [2,4,5]) e104_4
def e104_0:IC:=.seq (.seqr [o1 2 (.alloc (.agg [(.b false),(.s []),(.s [])])),o1 3 (.mv (.c (.b false)))] [0,2]) e104_2
def e104T:FnT:=⟨76,e104_0,[.c 2 3 true,.t 3]⟩
theorem e104ok:tabF Tryz.prog 104 e104T=true:=by kernel_rfl
def e67_2:IC:=.seq (.seqr [m1 6 0,o1 7 (.call 104 [.t 6]),m1 5 7,o1 8 (.ext (.t 5) 0),o1 9 (.ext (.t 5) 1),o1 3 (.alloc (.agg [(.b false),(.s []),(.s [])])),o0 (.store (.t 3) (.t 8) 3),m1 4 9] [4]) (.seq (.seqr [m1 10 4,m1 2 10] [2]) .ret)
def e67_0:IC:=.seq (.seqr [o1 2 (.mv (.c (.b false)))] [0]) e67_2
def e67T:FnT:=⟨11,e67_0,[.t 2]⟩
theorem e67ok:tabF Tryz.prog 67 e67T=true:=by kernel_rfl
def e98_10:IC:=.seq (.seqr [m1 16 1,o1 17 (.call 140 [.t 16]),m1 18 17,⟨some 19,.mv (.t 6),some (18,false),[]⟩,⟨some 20,.mv (.t 19),some (18,false),[]⟩,⟨some 21,.mv (.t 5),some (20,true),[]⟩,⟨some 22,.call 67 [.t 21],some (20,true),[]⟩,⟨some 23,.pick (.t 20) (.t 22) (.c (.b false)),some (18,false),[]⟩,o1 24 (.pick (.t 18) (.c (.b true)) (.t 23)),m1 4 24] [4]) .ret
def e98_8:IC:=.seq (.seqr [m1 12 1,o1 13 (.call 109 [.t 12,(.c (.s [61]))]),m1 11 13,o1 14 (.ext (.t 11) 0),o1 15 (.ext (.t 11) 1),m1 5 14,m1 6 15] [1,5,6]) e98_10
def e98_2:IC:=.seq (.seq (.seqr [m1 7 0,o1 8 (.bin .eql (.t 7) (ci 9))] [1,8]) (.cond (.t 8) (.seq (.seqr [m1 9 1,o1 10 (.call 96 [.t 9]),m1 4 10] [4]) .ret) .skip)) e98_8
def e98_0:IC:=.seq (.seqr [o1 4 (.mv (.c (.b false)))] [0,1]) e98_2
def e98T:FnT:=⟨25,e98_0,[.t 4]⟩
theorem e98ok:tabF Tryz.prog 98 e98T=true:=by kernel_rfl
def e181_2:IC:=.seq (.seqr [o1 4 (.load (.t 1) 1 false),m1 5 0,o1 6 (.call 98 [.t 4,.t 5]),m1 3 6] [3]) .ret
def e181_0:IC:=.seq (.seqr [o1 3 (.mv (.c (.b false)))] [0,1]) e181_2
def e181T:FnT:=⟨7,e181_0,[.t 3]⟩
theorem e181ok:tabF Tryz.prog 181 e181T=true:=by kernel_rfl
def e138_26:IC:=.seq (.ops [m1 43 10,m1 44 0,o1 45 (.nilck (.t 44)),o1 46 (.faddr (.t 45) 1),o1 47 (.load (.t 46) 1 false),m1 48 0,o1 49 (.nilck (.t 48)),o1 50 (.faddr (.t 49) 2),o1 51 (.load (.t 50) 1 false),o1 52 (.iaddr (.t 47) (.t 51) 157 4),o1 53 (.faddr (.t 52) 1),o1 54 (.load (.t 53) 1 false),o1 55 (.rdm (.mget .str (.b false) false) (.t 43) [.t 54])] [0,2,3,5,9,10,55] [[1,2],[2,3],[3,4],[5,6],[6,7],[7,8],[4,9],[8,9],[9,10],[10,11],[0,12],[11,12]]) (.cond (.t 55) (.seqr [m1 56 0,o1 57 (.calls 54 [.t 56,(ci 9)])] [0,2,3,5,9,10]) .skip)
def e138_21:IC:=.seq (.seq (.seqr [m1 38 9,o1 39 (.lenL (.t 38)),o1 40 (.bin .geq (.t 39) (ci 20))] [0,2,3,5,9,10,40]) (.cond (.t 40) (.seqr [m1 41 0,o1 42 (.calls 54 [.t 41,(ci 6)])] [0,2,3,5,9,10]) .skip)) e138_26
def e138_40:IC:=.seqr [m1 78 9,o1 79 (.load (.t 12) 2 true),o1 80 (.msl true 75 2 [.t 79]),o1 81 (.app (.t 78) (.t 80) 75 2),m1 9 81] [0,2,3,5,9,10]
def e138_36:IC:=.seq (.seqr [m1 67 0,m1 68 2,m1 69 3,m1 70 69,⟨some 71,.load (.t 5) 1 false,some (70,false),[]⟩,⟨some 72,.bin .neq (.t 71) (ci 9),some (70,false),[]⟩,o1 73 (.pick (.t 70) (.c (.b true)) (.t 72)),o1 74 (.calls 53 [.t 67,.t 68,.t 73]),o1 75 (.faddr (.t 12) 1),o0 (.store (.t 75) (.t 74) 1)] [0,2,3,5,9,10,12]) (.seq (.seqr [m1 76 0,o1 77 (.calls 87 [.t 76,(ci 3)])] [0,2,3,5,9,10,12]) e138_40)
def e138_32:IC:=.seq (.seqr [m1 62 10,o1 63 (.faddr (.t 12) 0),o1 64 (.load (.t 63) 1 false),o0 (.wrm (.mput .str) (.t 62) [.t 64,(.c (.b true))])] [0,2,3,5,9,10,12]) (.seq (.seqr [m1 65 0,o1 66 (.calls 87 [.t 65,(ci 2)])] [0,2,3,5,9,10,12]) e138_36)
def e138_30:IC:=.seq (.seqr [m1 58 0,o1 59 (.mkfn 181 [] [.t 5]),o1 60 (.calls 136 [.t 58,.t 59]),o1 61 (.build [(.s []),.nil] [(0,1,(.t 60))]),o1 12 (.alloc (.agg [(.s []),.nil])),o0 (.store (.t 12) (.t 61) 2)] [0,2,3,5,9,10,12]) e138_32
def e138_15:IC:=.seq (.block 1 (.seq (.seq (.ops [m1 20 0,o1 21 (.calls 85 [.t 20]),o1 22 (.bin .eql (.t 21) (ci 9)),m1 23 22,⟨some 24,.load (.t 5) 1 false,some (23,true),[]⟩,⟨some 25,.mv (.t 0),some (23,true),[]⟩,⟨some 26,.nilck (.t 25),some (23,true),[]⟩,⟨some 27,.faddr (.t 26) 1,some (23,true),[]⟩,⟨some 28,.load (.t 27) 1 false,some (23,true),[]⟩,⟨some 29,.mv (.t 0),some (23,true),[]⟩,⟨some 30,.nilck (.t 29),some (23,true),[]⟩,⟨some 31,.faddr (.t 30) 2,some (23,true),[]⟩,⟨some 32,.load (.t 31) 1 false,some (23,true),[]⟩,⟨some 33,.iaddr (.t 28) (.t 32) 157 4,some (23,true),[]⟩,⟨some 34,.faddr (.t 33) 1,some (23,true),[]⟩,⟨some 35,.load (.t 34) 1 false,some (23,true),[]⟩,⟨some 36,.call 98 [.t 24,.t 35],some (23,true),[]⟩,o1 37 (.pick (.t 23) (.t 36) (.c (.b false)))] [0,2,3,5,9,10,37] [[0,1],[1,2],[2,3],[1,3,4],[3,4],[3,5],[3,6],[5,6],[3,7],[6,7],[1,3,8],[3,8],[7,8],[3,9],[3,10],[9,10],[3,11],[10,11],[1,3,12],[3,12],[11,12],[1,3,13],[3,13],[8,13],[12,13],[3,14],[13,14],[1,3,15],[3,15],[14,15],[3,16],[4,16],[15,16],[3,17],[16,17]]) (.cond (.t 37) e138_21 .skip)) e138_30)) (.seqr [o1 11 (.mv (.c (.b false)))] [0,2,3,5,9,10,11])
def e138_11:IC:=.seq (.seq (.seqr [m1 14 11,m1 15 14,⟨some 16,.mv (.t 0),some (15,false),[]⟩,⟨some 17,.calls 85 [.t 16],some (15,false),[]⟩,⟨some 18,.bin .eql (.t 17) (ci 9),some (15,false),[]⟩,o1 19 (.pick (.t 15) (.c (.b true)) (.t 18))] [0,2,3,5,9,10,19]) (.cond (.t 19) .skip (.exit 0))) e138_15
def e138_42:IC:=.seq (.seq (.seqr [m1 82 0,o1 83 (.calls 85 [.t 82]),o1 84 (.bin .eql (.t 83) (ci 3)),m1 85 84,⟨some 86,.mv (.t 10),some (85,true),[]⟩,⟨some 87,.rdm (.mget .str (.b false) false) (.t 86) [(.c (.s [111,116,104,101,114]))],some (85,true),[]⟩,⟨some 88,.not (.t 87),some (85,true),[]⟩,o1 89 (.pick (.t 85) (.t 88) (.c (.b false)))] [0,9,89]) (.cond (.t 89) (.seqr [m1 90 0,o1 91 (.calls 54 [.t 90,(ci 13)])] [9]) .skip)) (.seq (.seqr [m1 92 9,m1 8 92] [8]) .ret)
def e138_6:IC:=.seq (.seq (.seqr [o1 11 (.mv (.c (.b true)))] [0,2,3,5,9,10,11]) (.block 0 (.loop e138_11))) e138_42
def e138_2:IC:=.seq (.seqr [o1 9 (.mv (.c .nil))] [0,2,3,5,9]) (.seq (.seqr [o1 13 (.mkm .mkmap []),m1 10 13] [0,2,3,5,9,10]) e138_6)
def e138_0:IC:=.seq (.seqr [o1 5 (.box (.t 1)),o1 8 (.mv (.c .nil))] [0,2,3,5]) e138_2
def e138T:FnT:=⟨93,e138_0,[.t 8]⟩
theorem e138ok:tabF Tryz.prog 138 e138T=true:=by kernel_rfl
def e90_10:IC:=.seq (.seqr [m1 18 0,o1 19 (.calls 87 [.t 18,(ci 3)])] [6,7]) (.seq (.seqr [o1 20 (.load (.t 7) 6 true),o0 (.store (.t 6) (.t 20) 6)] [6]) .ret)
def e90_24:IC:=.seqr [m1 44 0,m1 45 1,o1 46 (.bin .add (.t 45) (ci 1)),o1 47 (.calls 88 [.t 44,.t 46])] [0,1,2,6,7,8,9]
def e90_40:IC:=.seqr [m1 80 0,o1 81 (.calls 136 [.t 80,(.c (.fn 137 [] []))]),o1 82 (.faddr (.t 7) 3),o0 (.store (.t 82) (.t 81) 1)] [0,6,7]
def e90_37:IC:=.cond (.t 77) (.seq (.seqr [m1 78 0,o1 79 (.calls 87 [.t 78,(ci 8)])] [0,6,7]) e90_40) .skip
def e90_35:IC:=.seq (.seqr [m1 75 0,o1 76 (.calls 85 [.t 75]),o1 77 (.bin .eql (.t 76) (ci 8))] [0,6,7,77]) e90_37
def e90_46:IC:=.seqr [m1 89 0,o1 90 (.faddr (.t 7) 0),o1 91 (.load (.t 90) 1 false),m1 92 1,o1 93 (.bin .add (.t 92) (ci 1)),m1 94 2,o1 95 (.calls 138 [.t 89,.t 91,.t 93,.t 94]),o1 96 (.faddr (.t 7) 4),o0 (.store (.t 96) (.t 95) 1)] [0,6,7]
def e90_52:IC:=.seqr [m1 59 0,o1 60 (.calls 136 [.t 59,(.c (.fn 97 [] []))]),o1 61 (.faddr (.t 7) 3),o0 (.store (.t 61) (.t 60) 1)] [0,6,7]
def e90_53:IC:=.seqr [m1 62 0,o1 63 (.calls 136 [.t 62,(.c (.fn 96 [] []))]),o1 64 (.faddr (.t 7) 3),o0 (.store (.t 64) (.t 63) 1)] [0,6,7]
def e90_49:IC:=.seq (.seqr [o1 56 (.faddr (.t 7) 0),o1 57 (.load (.t 56) 1 false),o1 58 (.bin .eql (.t 57) (ci 5))] [0,6,7,58]) (.cond (.t 58) e90_52 e90_53)
def e90_43:IC:=.cond (.t 83) (.seq (.seqr [m1 87 0,o1 88 (.calls 87 [.t 87,(ci 8)])] [0,1,2,6,7]) e90_46) (.seq (.seqr [m1 54 0,o1 55 (.calls 87 [.t 54,(ci 8)])] [0,6,7]) e90_49)
def e90_41:IC:=.seq (.seqr [o1 84 (.faddr (.t 7) 0),o1 85 (.load (.t 84) 1 false),o1 86 (.call 60 [.t 85]),m1 83 86] [0,1,2,6,7,83]) e90_43
def e90_32:IC:=.seq (.seqr [o1 72 (.faddr (.t 7) 0),o1 73 (.load (.t 72) 1 false),o1 74 (.bin .eql (.t 73) (ci 3)),m1 71 74] [0,1,2,6,7,71]) (.cond (.t 71) e90_35 e90_41)
def e90_54:IC:=.seq (.seqr [m1 97 0,o1 98 (.calls 87 [.t 97,(ci 3)])] [6,7]) (.seq (.seqr [o1 99 (.load (.t 7) 6 true),o0 (.store (.t 6) (.t 99) 6)] [6]) .ret)
def e90_27:IC:=.seq (.block 0 (.seq (.seqr [m1 66 0,o1 67 (.nilck (.t 66)),o1 68 (.faddr (.t 67) 5),o1 69 (.load (.t 68) 1 false),o1 70 (.bin .neq (.t 69) (ci 0)),m1 65 70] [0,1,2,6,7,65]) (.cond (.t 65) .skip e90_32))) e90_54
def e90_25:IC:=.seq (.ops [o1 48 (.load (.t 8) 1 false),m1 49 0,m1 50 9,⟨some 51,.calls 136 [.t 49,.t 50],none,[.t 8]⟩,o1 52 (.rdm (.mget .str (.i .i64 0) false) (.t 48) [.t 51]),o1 53 (.faddr (.t 7) 0),o0 (.store (.t 53) (.t 52) 1)] [0,1,2,6,7] [[1,3],[2,3],[0,4],[3,4],[0,6],[3,6],[4,6],[5,6]]) e90_27
def e90_20:IC:=.seq (.seq (.ops [m1 25 0,o1 26 (.calls 85 [.t 25]),o1 27 (.bin .eql (.t 26) (ci 9)),m1 28 27,⟨some 29,.load (.t 8) 1 false,some (28,true),[]⟩,⟨some 30,.mv (.t 0),some (28,true),[]⟩,⟨some 31,.nilck (.t 30),some (28,true),[]⟩,⟨some 32,.faddr (.t 31) 1,some (28,true),[]⟩,⟨some 33,.load (.t 32) 1 false,some (28,true),[]⟩,⟨some 34,.mv (.t 0),some (28,true),[]⟩,⟨some 35,.nilck (.t 34),some (28,true),[]⟩,⟨some 36,.faddr (.t 35) 2,some (28,true),[]⟩,⟨some 37,.load (.t 36) 1 false,some (28,true),[]⟩,⟨some 38,.iaddr (.t 33) (.t 37) 157 4,some (28,true),[]⟩,⟨some 39,.faddr (.t 38) 1,some (28,true),[]⟩,⟨some 40,.load (.t 39) 1 false,some (28,true),[]⟩,⟨some 41,.rdm (.mget .str (.i .i64 0) false) (.t 29) [.t 40],some (28,true),[]⟩,⟨some 42,.call 60 [.t 41],some (28,true),[]⟩,o1 43 (.pick (.t 28) (.t 42) (.c (.b false)))] [0,1,2,6,7,8,9,43] [[0,1],[1,2],[2,3],[1,3,4],[3,4],[3,5],[3,6],[5,6],[3,7],[6,7],[1,3,8],[3,8],[7,8],[3,9],[3,10],[9,10],[3,11],[10,11],[1,3,12],[3,12],[11,12],[1,3,13],[3,13],[8,13],[12,13],[3,14],[13,14],[1,3,15],[3,15],[14,15],[1,3,16],[3,16],[4,16],[15,16],[3,17],[16,17],[3,18],[17,18]]) (.cond (.t 43) e90_24 .skip)) e90_25
def e90_16:IC:=.seq (.seqr [o1 23 (.call 63 []),o1 8 (.alloc .nm),o0 (.store (.t 8) (.t 23) 1)] [0,1,2,6,7,8]) (.seq (.seqr [o1 24 (.mkfn 135 [] [.t 8]),m1 9 24] [0,1,2,6,7,8,9]) e90_20)
def e90_6:IC:=.seq (.seq (.seqr [m1 15 0,o1 16 (.calls 85 [.t 15]),o1 17 (.bin .eql (.t 16) (ci 3))] [0,1,2,6,7,17]) (.cond (.t 17) e90_10 .skip)) (.seq (.seqr [m1 21 0,o1 22 (.calls 87 [.t 21,(ci 8)])] [0,1,2,6,7]) e90_16)
def e90_4:IC:=.seq (.seqr [m1 12 0,o1 13 (.calls 134 [.t 12]),o1 14 (.build [(.i .i64 0),(.s []),(.s []),(.s []),.nil,.nil] [(0,1,(ci 2)),(2,1,(.t 13))]),o1 7 (.alloc (.agg [(.i .i64 0),(.s []),(.s []),(.s []),.nil,.nil])),o0 (.store (.t 7) (.t 14) 6)] [0,1,2,6,7]) e90_6
def e90_0:IC:=.seq (.seqr [o1 6 (.alloc (.agg [(.i .i64 0),(.s []),(.s []),(.s []),.nil,.nil]))] [0,1,2,6]) (.seq (.seqr [m1 10 0,o1 11 (.calls 87 [.t 10,(ci 2)])] [0,1,2,6]) e90_4)
def e90T:FnT:=⟨100,e90_0,[.c 6 6 true]⟩
theorem e90ok:tabF Tryz.prog 90 e90T=true:=by kernel_rfl
def e53_20:IC:=.seqr [m1 28 7,m1 29 8,o1 30 (.build [(.i .i64 0),(.s []),(.s []),(.s []),.nil,.nil] [(0,1,(ci 1)),(1,1,(.t 29))]),o1 31 (.msl true 43 6 [.t 30]),o1 32 (.app (.t 28) (.t 31) 43 6),m1 7 32] [0,1,2,7]
def e53_18:IC:=.seq (.seqr [m1 22 0,o1 23 (.calls 87 [.t 22,(ci 1)]),o1 24 (.call 86 [.t 23]),m1 21 24,o1 25 (.ext (.t 21) 0),o1 26 (.ext (.t 21) 1),o1 27 (.ext (.t 21) 2),m1 8 25,m1 9 26,m1 10 27] [0,1,2,7,8]) e53_20
def e53_31:IC:=.seqr [m1 41 7,o1 42 (.build [(.i .i64 0),(.s []),(.s []),(.s []),.nil,.nil] [(0,1,(ci 10))]),o1 43 (.msl true 43 6 [.t 42]),o1 44 (.app (.t 41) (.t 43) 43 6),m1 7 44] [0,1,2,7]
def e53_24:IC:=.seq (.seq (.seqr [m1 35 2,o1 36 (.not (.t 35))] [0,1,2,7,36]) (.cond (.t 36) (.seqr [m1 37 0,o1 38 (.calls 54 [.t 37,(ci 3)])] [0,1,2,7]) .skip)) (.seq (.seqr [m1 39 0,o1 40 (.calls 87 [.t 39,(ci 4)])] [0,1,2,7]) e53_31)
def e53_37:IC:=.seqr [m1 51 7,m1 52 0,o1 53 (.calls 87 [.t 52,(ci 7)]),o1 54 (.build [(.i .i64 0),(.s []),(.s []),(.s []),.nil,.nil] [(0,1,(ci 11)),(2,1,(.t 53))]),o1 55 (.msl true 43 6 [.t 54]),o1 56 (.app (.t 51) (.t 55) 43 6),m1 7 56] [0,1,2,7]
def e53_35:IC:=.seq (.seqr [m1 47 0,m1 48 1,o1 49 (.bin .add (.t 48) (ci 1)),o1 50 (.calls 88 [.t 47,.t 49])] [0,1,2,7]) e53_37
def e53_41:IC:=.seqr [m1 59 7,m1 60 0,m1 61 1,o1 62 (.bin .add (.t 61) (ci 1)),m1 63 2,o1 64 (.calls 89 [.t 60,.t 62,.t 63]),o1 65 (.msl true 43 6 [.t 64]),o1 66 (.app (.t 59) (.t 65) 43 6),m1 7 66] [0,1,2,7]
def e53_45:IC:=.seqr [m1 69 7,m1 70 0,m1 71 1,m1 72 2,o1 73 (.calls 90 [.t 70,.t 71,.t 72]),o1 74 (.msl true 43 6 [.t 73]),o1 75 (.app (.t 69) (.t 74) 43 6),m1 7 75] [0,1,2,7]
def e53_42:IC:=.seq (.seqr [o1 68 (.bin .eql (.t 17) (ci 2)),m1 67 68] [0,1,2,7,67]) (.cond (.t 67) e53_45 (.seq (.seqr [m1 18 7,m1 6 18] [6]) .ret))
def e53_38:IC:=.seq (.seqr [o1 58 (.bin .eql (.t 17) (ci 5)),m1 57 58] [0,1,2,7,17,57]) (.cond (.t 57) e53_41 e53_42)
def e53_32:IC:=.seq (.seqr [o1 46 (.bin .eql (.t 17) (ci 7)),m1 45 46] [0,1,2,7,17,45]) (.cond (.t 45) e53_35 e53_38)
def e53_21:IC:=.seq (.seqr [o1 34 (.bin .eql (.t 17) (ci 4)),m1 33 34] [0,1,2,7,17,33]) (.cond (.t 33) e53_24 e53_32)
def e53_14:IC:=.block 2 (.seq (.seqr [o1 20 (.bin .eql (.t 17) (ci 1)),m1 19 20] [0,1,2,7,17,19]) (.cond (.t 19) e53_18 e53_21))
def e53_7:IC:=.seq (.seq (.seqr [m1 11 0,o1 12 (.nilck (.t 11)),o1 13 (.faddr (.t 12) 5),o1 14 (.load (.t 13) 1 false),o1 15 (.bin .eql (.t 14) (ci 0))] [0,1,2,7,15]) (.cond (.t 15) .skip (.exit 0))) (.block 1 (.seq (.seqr [m1 16 0,o1 17 (.calls 85 [.t 16])] [0,1,2,7,17]) e53_14))
def e53_2:IC:=.seq (.seqr [o1 7 (.mv (.c .nil))] [0,1,2,7]) (.seq (.block 0 (.loop e53_7)) (.seq (.seqr [m1 76 7,m1 6 76] [6]) .ret))
def e53_0:IC:=.seq (.seqr [o1 6 (.mv (.c .nil))] [0,1,2]) e53_2
def e53T:FnT:=⟨77,e53_0,[.t 6]⟩
theorem e53ok:tabF Tryz.prog 53 e53T=true:=by kernel_rfl
def e31_8:IC:=.seq (.seqr [o1 22 (.build [(.i .i64 0),(.i .i64 0),(.i .i64 0)] [(0,1,(ci 4000))]),m1 23 9,o1 4 (.mv (.c .nil)),o0 (.store (.t 5) (.t 22) 3),m1 6 23] [4,5,6]) .ret
def e31_25:IC:=.ops [m1 43 11,o1 44 (.nilck (.t 43)),o1 45 (.faddr (.t 44) 4),o1 46 (.load (.t 45) 1 false),m1 47 11,o1 48 (.nilck (.t 47)),o1 49 (.faddr (.t 48) 5),o1 50 (.load (.t 49) 1 false),m1 8 46,m1 9 50] [0,5,8,9,10] [[0,1],[1,2],[2,3],[4,5],[5,6],[6,7],[3,8],[7,9]]
def e31_20:IC:=.seq (.seq (.seqr [m1 34 11,o1 35 (.nilck (.t 34)),o1 36 (.faddr (.t 35) 2),o1 37 (.load (.t 36) 1 false),m1 38 7,o1 39 (.lenL (.t 38)),o1 40 (.bin .lss (.t 37) (.t 39))] [0,5,10,11,40]) (.cond (.t 40) (.seqr [m1 41 11,o1 42 (.calls 54 [.t 41,(ci 3)])] [0,5,10,11]) .skip)) e31_25
def e31_18:IC:=.seq (.seqr [m1 31 11,m1 32 1,o1 33 (.calls 53 [.t 31,(ci 0),.t 32]),m1 10 33] [0,5,7,10,11]) e31_20
def e31_16:IC:=.seq (.seqr [m1 26 0,m1 27 7,o1 28 (.mkm .mkmap []),o1 29 (.build [(.s []),.nil,(.i .i64 0),.nm,(.i .i64 0),(.i .i64 0)] [(0,1,(.t 26)),(1,1,(.t 27)),(3,1,(.t 28))]),o1 30 (.box (.t 29)),m1 11 30] [0,1,5,7,11]) e31_18
def e31_32:IC:=.seq (.ops [o1 59 (.load (.t 12) 3 true),m1 60 9,o1 4 (.mv (.c .nil)),o0 (.store (.t 5) (.t 59) 3),m1 6 60] [4,5,6] [[0,3],[1,4]]) .ret
def e31_30:IC:=.seq (.seqr [m1 54 0,m1 55 8,o1 56 (.call 55 [.t 54,.t 55]),m1 53 56,o1 57 (.ext (.t 53) 0),o1 58 (.ext (.t 53) 1),o1 12 (.alloc (.agg [(.i .i64 0),(.i .i64 0),(.i .i64 0)])),o0 (.store (.t 12) (.t 57) 3),m1 13 58] [5,9,12]) e31_32
def e31_38:IC:=.seq (.seqr [o1 64 (.build [(.i .i64 0),(.i .i64 0),(.i .i64 0)] []),o1 4 (.mv (.c .nil)),o0 (.store (.t 5) (.t 64) 3),o1 6 (.mv (ci 6))] [4,5,6]) .ret
def e31_40:IC:=.seq (.seqr [m1 65 10,o1 66 (.build [(.i .i64 0),(.i .i64 0),(.i .i64 0)] []),m1 4 65,o0 (.store (.t 5) (.t 66) 3),o1 6 (.mv (ci 0))] [4,5,6]) .ret
def e31_34:IC:=.seq (.seq (.seqr [m1 61 10,o1 62 (.callr 44 [.t 61]),o1 63 (.bin .gtr (.t 62) (ci 4000))] [5,10,63]) (.cond (.t 63) e31_38 .skip)) e31_40
def e31_26:IC:=.seq (.seq (.seqr [m1 51 9,o1 52 (.bin .neq (.t 51) (ci 0))] [0,5,8,9,10,52]) (.cond (.t 52) e31_30 .skip)) e31_34
def e31_12:IC:=.seq (.seq (.seqr [m1 24 9,o1 25 (.bin .eql (.t 24) (ci 0))] [0,1,5,7,8,9,10,25]) (.cond (.t 25) e31_16 .skip)) e31_26
def e31_4:IC:=.seq (.seq (.seqr [m1 20 9,o1 21 (.bin .eql (.t 20) (ci 6))] [0,1,5,7,8,9,21]) (.cond (.t 21) e31_8 .skip)) (.seq (.seqr [o1 10 (.mv (.c .nil))] [0,1,5,7,8,9,10]) e31_12)
def e31_2:IC:=.seq (.seqr [m1 15 0,o1 16 (.call 52 [.t 15]),m1 14 16,o1 17 (.ext (.t 14) 0),o1 18 (.ext (.t 14) 1),o1 19 (.ext (.t 14) 2),m1 7 17,m1 8 18,m1 9 19] [0,1,5,7,8,9]) e31_4
def e31_0:IC:=.seq (.seqr [o1 4 (.mv (.c .nil)),o1 5 (.alloc (.agg [(.i .i64 0),(.i .i64 0),(.i .i64 0)])),o1 6 (.mv (ci 0))] [0,1,5]) e31_2
def e31T:FnT:=⟨67,e31_0,[.t 4,.c 5 3 true,.t 6]⟩
theorem e31ok:tabF Tryz.prog 31 e31T=true:=by kernel_rfl
def e18_2:IC:=.seq (.seqr [m1 5 0,o1 6 (.call 31 [.t 5,(.c (.b false))]),o1 7 (.ext (.t 6) 0),o1 8 (.ext (.t 6) 1),o1 9 (.ext (.t 6) 2),m1 2 7,o0 (.store (.t 3) (.t 8) 3),m1 4 9] [2,3,4]) .ret
def e18_0:IC:=.seq (.seqr [o1 2 (.mv (.c .nil)),o1 3 (.alloc (.agg [(.i .i64 0),(.i .i64 0),(.i .i64 0)])),o1 4 (.mv (ci 0))] [0,3]) e18_2
def e18T:FnT:=⟨10,e18_0,[.t 2,.c 3 3 true,.t 4]⟩
theorem e18ok:tabF Tryz.prog 18 e18T=true:=by kernel_rfl
def e59_15:IC:=.seqr [o1 15 (.faddr (.t 1) 1),o1 16 (.load (.t 15) 1 false),o1 17 (.bin .neq (.t 16) (.c (.s []))),m1 4 17] [1,3,4]
def e59_13:IC:=.seq (.seqr [o1 12 (.faddr (.t 1) 1),o1 13 (.load (.t 12) 1 false),o1 14 (.faddr (.t 3) 1),o0 (.store (.t 14) (.t 13) 1)] [1,3]) e59_15
def e59_26:IC:=.seq (.seqr [o1 22 (.bin .eql (.t 9) (ci 8)),m1 18 22] [1,3,4,9,18]) (.cond (.t 18) .skip (.seqr [o1 23 (.bin .eql (.t 9) (ci 9)),m1 18 23] [1,3,4,9,18]))
def e59_23:IC:=.seq (.seqr [o1 21 (.bin .eql (.t 9) (ci 7)),m1 18 21] [1,3,4,9,18]) (.cond (.t 18) .skip e59_26)
def e59_20:IC:=.seq (.seqr [o1 20 (.bin .eql (.t 9) (ci 11)),m1 18 20] [1,3,4,9,18]) (.cond (.t 18) .skip e59_23)
def e59_31:IC:=.seqr [o1 24 (.faddr (.t 1) 2),o1 25 (.load (.t 24) 1 false),o1 26 (.faddr (.t 3) 2),o0 (.store (.t 26) (.t 25) 1)] [1,3,4]
def e59_37:IC:=.seqr [o1 35 (.faddr (.t 1) 3),o1 36 (.load (.t 35) 1 false),o1 37 (.bin .eql (.t 36) (.c (.s []))),m1 38 37,⟨some 39,.faddr (.t 1) 3,some (38,false),[]⟩,⟨some 40,.load (.t 39) 1 false,some (38,false),[]⟩,⟨some 41,.bin .eql (.t 40) (.c (.s [105,110,116,101,103,101,114])),some (38,false),[]⟩,o1 42 (.pick (.t 38) (.c (.b true)) (.t 41)),m1 43 42,⟨some 44,.faddr (.t 1) 3,some (43,false),[]⟩,⟨some 45,.load (.t 44) 1 false,some (43,false),[]⟩,⟨some 46,.bin .eql (.t 45) (.c (.s [112,101,114,99,101,110,116])),some (43,false),[]⟩,o1 47 (.pick (.t 43) (.c (.b true)) (.t 46)),m1 4 47] [1,3,4]
def e59_35:IC:=.seq (.ops [o1 29 (.faddr (.t 1) 2),o1 30 (.load (.t 29) 1 false),o1 31 (.faddr (.t 1) 3),o1 32 (.load (.t 31) 1 false),o1 33 (.faddr (.t 3) 2),⟨none,.store (.t 33) (.t 30) 1,none,[.t 31]⟩,o1 34 (.faddr (.t 3) 3),o0 (.store (.t 34) (.t 32) 1)] [1,3] [[0,1],[2,3],[1,5],[4,5],[1,7],[3,7],[5,7],[6,7]]) e59_37
def e59_46:IC:=.seqr [o1 57 (.faddr (.t 1) 3),o1 58 (.load (.t 57) 1 false),o1 59 (.call 96 [.t 58]),m1 4 59] [1,3,4]
def e59_44:IC:=.seq (.ops [o1 51 (.faddr (.t 1) 2),o1 52 (.load (.t 51) 1 false),o1 53 (.faddr (.t 1) 3),o1 54 (.load (.t 53) 1 false),o1 55 (.faddr (.t 3) 2),⟨none,.store (.t 55) (.t 52) 1,none,[.t 53]⟩,o1 56 (.faddr (.t 3) 3),o0 (.store (.t 56) (.t 54) 1)] [1,3] [[0,1],[2,3],[1,5],[4,5],[1,7],[3,7],[5,7],[6,7]]) e59_46
def e59_52:IC:=.seqr [o1 68 (.faddr (.t 1) 3),o1 69 (.load (.t 68) 1 false),o1 70 (.call 97 [.t 69]),m1 4 70] [1,3,4]
def e59_50:IC:=.seq (.ops [o1 62 (.faddr (.t 1) 2),o1 63 (.load (.t 62) 1 false),o1 64 (.faddr (.t 1) 3),o1 65 (.load (.t 64) 1 false),o1 66 (.faddr (.t 3) 2),⟨none,.store (.t 66) (.t 63) 1,none,[.t 64]⟩,o1 67 (.faddr (.t 3) 3),o0 (.store (.t 67) (.t 65) 1)] [1,3] [[0,1],[2,3],[1,5],[4,5],[1,7],[3,7],[5,7],[6,7]]) e59_52
def e59_53:IC:=.seq (.seqr [o1 72 (.bin .eql (.t 9) (ci 10)),m1 71 72] [1,3,4,71]) (.cond (.t 71) .skip (.seqr [o1 4 (.mv (.c (.b false)))] [1,3,4]))
def e59_47:IC:=.seq (.seqr [o1 61 (.bin .eql (.t 9) (ci 5)),m1 60 61] [1,3,4,9,60]) (.cond (.t 60) e59_50 e59_53)
def e59_38:IC:=.seq (.seq (.seqr [o1 49 (.bin .eql (.t 9) (ci 4)),m1 48 49] [1,3,4,9,48]) (.cond (.t 48) .skip (.seqr [o1 50 (.bin .eql (.t 9) (ci 6)),m1 48 50] [1,3,4,9,48]))) (.cond (.t 48) e59_44 e59_47)
def e59_32:IC:=.seq (.seqr [o1 28 (.bin .eql (.t 9) (ci 3)),m1 27 28] [1,3,4,9,27]) (.cond (.t 27) e59_35 e59_38)
def e59_16:IC:=.seq (.seq (.seqr [o1 19 (.bin .eql (.t 9) (ci 2)),m1 18 19] [1,3,4,9,18]) (.cond (.t 18) .skip e59_20)) (.cond (.t 18) e59_31 e59_32)
def e59_9:IC:=.block 0 (.seq (.seqr [o1 11 (.bin .eql (.t 9) (ci 1)),m1 10 11] [1,3,4,9,10]) (.cond (.t 10) e59_13 e59_16))
def e59_61:IC:=.seqr [m1 86 4,m1 87 86,⟨some 88,.faddr (.t 1) 2,some (87,true),[]⟩,⟨some 89,.load (.t 88) 1 false,some (87,true),[]⟩,⟨some 90,.call 96 [.t 89],some (87,true),[]⟩,o1 91 (.pick (.t 87) (.t 90) (.c (.b false))),m1 4 91] [1,3,4]
def e59_62:IC:=.seq (.seqr [m1 92 4,m1 93 92,⟨some 94,.faddr (.t 1) 1,some (93,true),[]⟩,⟨some 95,.load (.t 94) 1 false,some (93,true),[]⟩,⟨some 96,.faddr (.t 3) 1,some (93,true),[]⟩,⟨some 97,.load (.t 96) 1 false,some (93,true),[]⟩,⟨some 98,.bin .eql (.t 95) (.t 97),some (93,true),[]⟩,o1 99 (.pick (.t 93) (.t 98) (.c (.b false))),m1 100 99,⟨some 101,.faddr (.t 1) 2,some (100,true),[]⟩,⟨some 102,.load (.t 101) 1 false,some (100,true),[]⟩,⟨some 103,.faddr (.t 3) 2,some (100,true),[]⟩,⟨some 104,.load (.t 103) 1 false,some (100,true),[]⟩,⟨some 105,.bin .eql (.t 102) (.t 104),some (100,true),[]⟩,o1 106 (.pick (.t 100) (.t 105) (.c (.b false))),m1 107 106,⟨some 108,.faddr (.t 1) 3,some (107,true),[]⟩,⟨some 109,.load (.t 108) 1 false,some (107,true),[]⟩,⟨some 110,.faddr (.t 3) 3,some (107,true),[]⟩,⟨some 111,.load (.t 110) 1 false,some (107,true),[]⟩,⟨some 112,.bin .eql (.t 109) (.t 111),some (107,true),[]⟩,o1 113 (.pick (.t 107) (.t 112) (.c (.b false))),m1 114 113,⟨some 115,.faddr (.t 1) 4,some (114,true),[]⟩,⟨some 116,.load (.t 115) 1 false,some (114,true),[]⟩,⟨some 117,.lenL (.t 116),some (114,true),[]⟩,⟨some 118,.bin .eql (.t 117) (ci 0),some (114,true),[]⟩,⟨some 119,.mv (.t 118),some (114,true),[]⟩,⟨some 120,.faddr (.t 1) 0,some (119,false),[]⟩,⟨some 121,.load (.t 120) 1 false,some (119,false),[]⟩,⟨some 122,.call 60 [.t 121],some (119,false),[]⟩,⟨some 123,.pick (.t 119) (.c (.b true)) (.t 122),some (114,true),[]⟩,o1 124 (.pick (.t 114) (.t 123) (.c (.b false))),m1 125 124,⟨some 126,.faddr (.t 1) 5,some (125,true),[]⟩,⟨some 127,.load (.t 126) 1 false,some (125,true),[]⟩,⟨some 128,.lenL (.t 127),some (125,true),[]⟩,⟨some 129,.bin .eql (.t 128) (ci 0),some (125,true),[]⟩,⟨some 130,.mv (.t 129),some (125,true),[]⟩,⟨some 131,.faddr (.t 1) 0,some (130,false),[]⟩,⟨some 132,.load (.t 131) 1 false,some (130,false),[]⟩,⟨some 133,.bin .eql (.t 132) (ci 11),some (130,false),[]⟩,⟨some 134,.pick (.t 130) (.c (.b true)) (.t 133),some (125,true),[]⟩,o1 135 (.pick (.t 125) (.t 134) (.c (.b false))),m1 2 135] [2]) .ret
def e59_57:IC:=.seq (.seq (.seqr [o1 73 (.faddr (.t 3) 2),o1 74 (.load (.t 73) 1 false),o1 75 (.bin .neq (.t 74) (.c (.s []))),m1 76 75,⟨some 77,.faddr (.t 1) 0,some (76,false),[]⟩,⟨some 78,.load (.t 77) 1 false,some (76,false),[]⟩,⟨some 79,.bin .neq (.t 78) (ci 1),some (76,false),[]⟩,⟨some 80,.mv (.t 79),some (76,false),[]⟩,⟨some 81,.faddr (.t 1) 0,some (80,true),[]⟩,⟨some 82,.load (.t 81) 1 false,some (80,true),[]⟩,⟨some 83,.bin .neq (.t 82) (ci 10),some (80,true),[]⟩,⟨some 84,.pick (.t 80) (.t 83) (.c (.b false)),some (76,false),[]⟩,o1 85 (.pick (.t 76) (.c (.b true)) (.t 84))] [1,3,4,85]) (.cond (.t 85) e59_61 .skip)) e59_62
def e59_6:IC:=.seq (.seq (.seqr [o1 8 (.faddr (.t 1) 0),o1 9 (.load (.t 8) 1 false)] [1,3,4,9]) e59_9) e59_57
def e59_2:IC:=.seq (.seqr [o1 5 (.faddr (.t 1) 0),o1 6 (.load (.t 5) 1 false),o1 7 (.build [(.i .i64 0),(.s []),(.s []),(.s []),.nil,.nil] [(0,1,(.t 6))]),o1 3 (.alloc (.agg [(.i .i64 0),(.s []),(.s []),(.s []),.nil,.nil])),o0 (.store (.t 3) (.t 7) 6)] [1,3]) (.seq (.seqr [o1 4 (.mv (.c (.b true)))] [1,3,4]) e59_6)
def e59_0:IC:=.seq (.seqr [o1 1 (.box (.t 0)),o1 2 (.mv (.c (.b false)))] [1]) e59_2
def e59T:FnT:=⟨136,e59_0,[.t 2]⟩
theorem e59ok:tabF Tryz.prog 59 e59T=true:=by kernel_rfl
def e61_23:IC:=.seqr [m1 46 9,o1 47 (.faddr (.t 11) 0),o1 48 (.load (.t 47) 1 false),o0 (.wrm (.mput .str) (.t 46) [.t 48,(.c (.b true))])] [2,3,4,5,9,14,15,16]
def e61_17:IC:=.seq (.seq (.seqr [o1 20 (.faddr (.t 5) 0),o1 21 (.load (.t 20) 1 false),o1 22 (.faddr (.t 11) 0),o1 23 (.load (.t 22) 1 false),o1 24 (.call 98 [.t 21,.t 23]),o1 25 (.not (.t 24)),m1 26 25,⟨some 27,.mv (.t 9),some (26,false),[]⟩,⟨some 28,.faddr (.t 11) 0,some (26,false),[]⟩,⟨some 29,.load (.t 28) 1 false,some (26,false),[]⟩,⟨some 30,.rdm (.mget .str (.b false) false) (.t 27) [.t 29],some (26,false),[]⟩,o1 31 (.pick (.t 26) (.c (.b true)) (.t 30)),m1 32 31,⟨some 33,.load (.t 4) 1 true,some (32,false),[]⟩,⟨some 34,.faddr (.t 11) 1,some (32,false),[]⟩,⟨some 35,.load (.t 34) 1 false,some (32,false),[]⟩,⟨some 36,.mv (.t 2),some (32,false),[]⟩,⟨some 37,.mv (.t 3),some (32,false),[]⟩,⟨some 38,.mv (.t 37),some (32,false),[]⟩,⟨some 39,.faddr (.t 5) 0,some (38,false),[]⟩,⟨some 40,.load (.t 39) 1 false,some (38,false),[]⟩,⟨some 41,.bin .neq (.t 40) (ci 9),some (38,false),[]⟩,⟨some 42,.pick (.t 38) (.c (.b true)) (.t 41),some (32,false),[]⟩,⟨some 43,.calls 43 [.t 33,.t 35,.t 36,.t 42],some (32,false),[]⟩,⟨some 44,.not (.t 43),some (32,false),[]⟩,o1 45 (.pick (.t 32) (.c (.b true)) (.t 44))] [2,3,4,5,9,11,14,15,16,45]) (.cond (.t 45) (.seq (.seqr [o1 8 (.mv (.c (.b false)))] [8]) .ret) .skip)) e61_23
def e61_13:IC:=.seq (.block 1 (.seq (.seqr [o1 18 (.iaddr (.t 14) (.t 16) 75 2),o1 19 (.load (.t 18) 2 true),o1 11 (.alloc (.agg [(.s []),.nil])),o0 (.store (.t 11) (.t 19) 2)] [2,3,4,5,9,11,14,15,16]) e61_17)) (.seqr [o1 49 (.bin .add (.t 16) (ci 1)),m1 16 49] [2,3,4,5,9,14,15,16])
def e61_9:IC:=.seq (.seqr [o1 17 (.bin .lss (.t 16) (.t 15))] [2,3,4,5,9,14,15,16,17]) (.seq (.cond (.t 17) .skip (.exit 0)) e61_13)
def e61_25:IC:=.seq (.seqr [o1 50 (.faddr (.t 5) 4),o1 51 (.load (.t 50) 1 false),o1 52 (.lenL (.t 51)),o1 53 (.bin .leq (.t 52) (ci 20)),m1 54 53,⟨some 55,.mv (.t 9),some (54,true),[]⟩,⟨some 56,.rdm (.mget .str (.b false) false) (.t 55) [(.c (.s [111,116,104,101,114]))],some (54,true),[]⟩,o1 57 (.pick (.t 54) (.t 56) (.c (.b false))),m1 8 57] [8]) .ret
def e61_4:IC:=.seq (.seq (.seqr [o1 13 (.faddr (.t 5) 4),o1 14 (.load (.t 13) 1 false),o1 15 (.lenL (.t 14)),o1 16 (.mv (ci 0))] [2,3,4,5,9,14,15,16]) (.block 0 (.loop e61_9))) e61_25
def e61_0:IC:=.seq (.seqr [o1 4 (.box (.t 0)),o1 5 (.box (.t 1)),o1 8 (.mv (.c (.b false)))] [2,3,4,5]) (.seq (.seqr [o1 12 (.mkm .mkmap []),m1 9 12] [2,3,4,5,9]) e61_4)
def e61T:FnT:=⟨58,e61_0,[.t 8]⟩
theorem e61ok:tabF Tryz.prog 61 e61T=true:=by kernel_rfl
def e43_36:IC:=.seqr [o1 89 (.faddr (.t 4) 0),o1 90 (.load (.t 89) 1 false),o1 91 (.faddr (.t 10) 2),o1 92 (.load (.t 91) 1 false),o0 (.wrm (.mput .str) (.t 90) [.t 92,(.c (.b true))])] [1,2,3,4,11,12,13]
def e43_33:IC:=.seq (.seqr [o1 81 (.faddr (.t 10) 0),o1 82 (.load (.t 81) 1 false),o1 83 (.bin .neq (.t 82) (ci 11)),m1 84 83,⟨some 85,.faddr (.t 10) 2,some (84,true),[]⟩,⟨some 86,.load (.t 85) 1 false,some (84,true),[]⟩,⟨some 87,.bin .neq (.t 86) (.c (.s [])),some (84,true),[]⟩,o1 88 (.pick (.t 84) (.t 87) (.c (.b false)))] [1,2,3,4,10,11,12,13,88]) (.cond (.t 88) e43_36 .skip)
def e43_27:IC:=.seq (.seq (.seqr [o1 65 (.faddr (.t 10) 0),o1 66 (.load (.t 65) 1 false),o1 67 (.call 60 [.t 66]),m1 68 67,⟨some 69,.mv (.t 2),some (68,true),[]⟩,⟨some 70,.bin .geq (.t 69) (ci 8),some (68,true),[]⟩,⟨some 71,.mv (.t 70),some (68,true),[]⟩,⟨some 72,.load (.t 4) 1 true,some (71,false),[]⟩,⟨some 73,.load (.t 10) 6 true,some (71,false),[]⟩,⟨some 74,.mv (.t 2),some (71,false),[]⟩,⟨some 75,.bin .add (.t 74) (ci 1),some (71,false),[]⟩,⟨some 76,.mv (.t 3),some (71,false),[]⟩,⟨some 77,.calls 61 [.t 72,.t 73,.t 75,.t 76],some (71,false),[]⟩,⟨some 78,.not (.t 77),some (71,false),[]⟩,⟨some 79,.pick (.t 71) (.c (.b true)) (.t 78),some (68,true),[]⟩,o1 80 (.pick (.t 68) (.t 79) (.c (.b false)))] [1,2,3,4,10,11,12,13,80]) (.cond (.t 80) (.seq (.seqr [o1 8 (.mv (.c (.b false)))] [8]) .ret) .skip)) e43_33
def e43_21:IC:=.seq (.seq (.seqr [o1 48 (.faddr (.t 10) 0),o1 49 (.load (.t 48) 1 false),o1 50 (.bin .eql (.t 49) (ci 11)),m1 51 50,⟨some 52,.mv (.t 2),some (51,true),[]⟩,⟨some 53,.bin .geq (.t 52) (ci 8),some (51,true),[]⟩,⟨some 54,.mv (.t 53),some (51,true),[]⟩,⟨some 55,.load (.t 4) 1 true,some (54,false),[]⟩,⟨some 56,.faddr (.t 10) 5,some (54,false),[]⟩,⟨some 57,.load (.t 56) 1 false,some (54,false),[]⟩,⟨some 58,.mv (.t 2),some (54,false),[]⟩,⟨some 59,.bin .add (.t 58) (ci 1),some (54,false),[]⟩,⟨some 60,.mv (.t 3),some (54,false),[]⟩,⟨some 61,.calls 43 [.t 55,.t 57,.t 59,.t 60],some (54,false),[]⟩,⟨some 62,.not (.t 61),some (54,false),[]⟩,⟨some 63,.pick (.t 54) (.c (.b true)) (.t 62),some (51,true),[]⟩,o1 64 (.pick (.t 51) (.t 63) (.c (.b false)))] [1,2,3,4,10,11,12,13,64]) (.cond (.t 64) (.seq (.seqr [o1 8 (.mv (.c (.b false)))] [8]) .ret) .skip)) e43_27
def e43_15:IC:=.seq (.seq (.seqr [o1 18 (.load (.t 10) 6 true),o1 19 (.callr 59 [.t 18]),o1 20 (.not (.t 19)),m1 21 20,⟨some 22,.faddr (.t 10) 0,some (21,false),[]⟩,⟨some 23,.load (.t 22) 1 false,some (21,false),[]⟩,⟨some 24,.bin .eql (.t 23) (ci 10),some (21,false),[]⟩,⟨some 25,.mv (.t 24),some (21,false),[]⟩,⟨some 26,.mv (.t 3),some (25,true),[]⟩,⟨some 27,.not (.t 26),some (25,true),[]⟩,⟨some 28,.pick (.t 25) (.t 27) (.c (.b false)),some (21,false),[]⟩,o1 29 (.pick (.t 21) (.c (.b true)) (.t 28)),m1 30 29,⟨some 31,.mv (.t 9),some (30,false),[]⟩,⟨some 32,.bin .gtr (.t 31) (ci 0),some (30,false),[]⟩,⟨some 33,.mv (.t 32),some (30,false),[]⟩,⟨some 34,.faddr (.t 10) 0,some (33,true),[]⟩,⟨some 35,.load (.t 34) 1 false,some (33,true),[]⟩,⟨some 36,.bin .eql (.t 35) (ci 1),some (33,true),[]⟩,⟨some 37,.pick (.t 33) (.t 36) (.c (.b false)),some (30,false),[]⟩,⟨some 38,.mv (.t 37),some (30,false),[]⟩,⟨some 39,.mv (.t 1),some (38,true),[]⟩,⟨some 40,.mv (.t 9),some (38,true),[]⟩,⟨some 41,.bin .sub (.t 40) (ci 1),some (38,true),[]⟩,⟨some 42,.iaddr (.t 39) (.t 41) 43 6,some (38,true),[]⟩,⟨some 43,.faddr (.t 42) 0,some (38,true),[]⟩,⟨some 44,.load (.t 43) 1 false,some (38,true),[]⟩,⟨some 45,.bin .eql (.t 44) (ci 1),some (38,true),[]⟩,⟨some 46,.pick (.t 38) (.t 45) (.c (.b false)),some (30,false),[]⟩,o1 47 (.pick (.t 30) (.c (.b true)) (.t 46))] [1,2,3,4,10,11,12,13,47]) (.cond (.t 47) (.seq (.seqr [o1 8 (.mv (.c (.b false)))] [8]) .ret) .skip)) e43_21
def e43_11:IC:=.seq (.block 1 (.seq (.seqr [m1 15 13,o1 16 (.iaddr (.t 11) (.t 13) 43 6),o1 17 (.load (.t 16) 6 true),o1 10 (.alloc (.agg [(.i .i64 0),(.s []),(.s []),(.s []),.nil,.nil])),m1 9 15,o0 (.store (.t 10) (.t 17) 6)] [1,2,3,4,9,10,11,12,13]) e43_15)) (.seqr [o1 93 (.bin .add (.t 13) (ci 1)),m1 13 93] [1,2,3,4,11,12,13])
def e43_7:IC:=.seq (.seqr [o1 14 (.bin .lss (.t 13) (.t 12))] [1,2,3,4,11,12,13,14]) (.seq (.cond (.t 14) .skip (.exit 0)) e43_11)
def e43_2:IC:=.seq (.seq (.seqr [m1 11 1,o1 12 (.lenL (.t 11)),o1 13 (.mv (ci 0))] [1,2,3,4,11,12,13]) (.block 0 (.loop e43_7))) (.seq (.seqr [o1 8 (.mv (.c (.b true)))] [8]) .ret)
def e43_0:IC:=.seq (.seqr [o1 4 (.box (.t 0)),o1 8 (.mv (.c (.b false)))] [1,2,3,4]) e43_2
def e43T:FnT:=⟨94,e43_0,[.t 8]⟩
theorem e43ok:tabF Tryz.prog 43 e43T=true:=by kernel_rfl
def e29_4:IC:=.seq (.seqr [o1 8 (.load (.t 5) 1 true),m1 9 0,m1 10 1,o1 11 (.calls 43 [.t 8,.t 9,(ci 0),.t 10]),m1 12 11,⟨some 13,.faddr (.t 5) 0,some (12,true),[]⟩,⟨some 14,.load (.t 13) 1 false,some (12,true),[]⟩,⟨some 15,.rdm .mlen (.t 14) [],some (12,true),[]⟩,⟨some 16,.bin .leq (.t 15) (ci 20),some (12,true),[]⟩,o1 17 (.pick (.t 12) (.t 16) (.c (.b false))),m1 18 17,⟨some 19,.mv (.t 0),some (18,true),[]⟩,⟨some 20,.callr 44 [.t 19],some (18,true),[]⟩,⟨some 21,.bin .leq (.t 20) (ci 4000),some (18,true),[]⟩,o1 22 (.pick (.t 18) (.t 21) (.c (.b false))),m1 4 22] [4]) .ret
def e29_2:IC:=.seq (.seqr [o1 6 (.mkm .mkmap []),o1 7 (.build [.nm] [(0,1,(.t 6))]),o1 5 (.alloc (.agg [.nm])),o0 (.store (.t 5) (.t 7) 1)] [0,1,5]) e29_4
def e29_0:IC:=.seq (.seqr [o1 4 (.mv (.c (.b false)))] [0,1]) e29_2
def e29T:FnT:=⟨23,e29_0,[.t 4]⟩
theorem e29ok:tabF Tryz.prog 29 e29T=true:=by kernel_rfl
def e15_0:IC:=.seq (.seqr [o1 2 (.mv (.c (.b false)))] [0]) (.seq (.seqr [m1 3 0,o1 4 (.callr 29 [.t 3,(.c (.b false))]),m1 2 4] [2]) .ret)
def e15T:FnT:=⟨5,e15_0,[.t 2]⟩
theorem e15ok:tabF Tryz.prog 15 e15T=true:=by kernel_rfl
def e64_4:IC:=.seq (.seqr [m1 8 0,m1 9 0,o1 10 (.nilck (.t 9)),o1 11 (.faddr (.t 10) 1),o1 12 (.load (.t 11) 1 false),m1 13 1,o1 14 (.apps (.t 12) (.t 13) 5),o1 15 (.nilck (.t 8)),o1 16 (.faddr (.t 15) 1),o0 (.store (.t 16) (.t 14) 1)] [1]) (.seq (.seqr [m1 17 1,o1 18 (.lenS (.t 17)),m1 4 18,o1 5 (.mv (.c .ni))] [4,5]) .ret)
def e64_0:IC:=.seq (.seqr [o1 4 (.mv (ci 0)),o1 5 (.mv (.c .ni))] [0,1]) (.seq (.seqr [m1 6 0,o1 7 (.calls 101 [.t 6])] [0,1]) e64_4)
def e64T:FnT:=⟨19,e64_0,[.t 4,.t 5]⟩
theorem e64ok:tabF Tryz.prog 64 e64T=true:=by kernel_rfl
def e65_2:IC:=.seq (.seqr [m1 3 0,o1 4 (.nilck (.t 3)),o1 5 (.faddr (.t 4) 1),o1 6 (.load (.t 5) 1 false),o1 7 (.lenL (.t 6)),m1 2 7] [2]) .ret
def e65_0:IC:=.seq (.seqr [o1 2 (.mv (ci 0))] [0]) e65_2
def e65T:FnT:=⟨8,e65_0,[.t 2]⟩
theorem e65ok:tabF Tryz.prog 65 e65T=true:=by kernel_rfl
def e45_5:IC:=.seqr [m1 14 0,o1 15 (.nilck (.t 14)),o1 16 (.faddr (.t 15) 20),o0 (.store (.t 16) (ci 6) 1)] []
def e45_2:IC:=.seq (.seqr [m1 9 0,o1 10 (.nilck (.t 9)),o1 11 (.faddr (.t 10) 0),o1 12 (.calls 65 [.t 11]),o1 13 (.bin .gtr (.t 12) (ci 20000))] [0,13]) (.cond (.t 13) e45_5 .skip)
def e45_0:IC:=.seq (.seqr [m1 4 0,o1 5 (.nilck (.t 4)),o1 6 (.faddr (.t 5) 0),m1 7 1,o1 8 (.calls 64 [.t 6,.t 7])] [0]) e45_2
def e45T:FnT:=⟨17,e45_0,[]⟩
theorem e45ok:tabF Tryz.prog 45 e45T=true:=by kernel_rfl
def e155_11:IC:=.seqr [m1 10 2,o1 11 (.bin .add (.t 10) (ci 1)),m1 12 3,o1 13 (.bin .sub (.t 12) (ci 1)),m1 2 11,m1 3 13] [0,2,3]
def e155_8:IC:=.seq (.block 1 (.ops [m1 14 0,m1 15 2,m1 16 0,m1 17 3,m1 18 0,m1 19 3,o1 20 (.iaddr (.t 18) (.t 19) 9 1),o1 21 (.load (.t 20) 1 false),m1 22 0,m1 23 2,o1 24 (.iaddr (.t 22) (.t 23) 9 1),o1 25 (.load (.t 24) 1 false),o1 26 (.iaddr (.t 14) (.t 15) 9 1),o0 (.store (.t 26) (.t 21) 1),o1 27 (.iaddr (.t 16) (.t 17) 9 1),o0 (.store (.t 27) (.t 25) 1)] [0,2,3] [[4,6],[5,6],[6,7],[8,10],[9,10],[10,11],[0,12],[1,12],[6,13],[7,13],[10,11,13],[11,13],[12,13],[2,14],[3,14],[13,14],[6,15],[7,15],[10,15],[11,15],[12,15],[13,15],[14,15]])) e155_11
def e155_4:IC:=.seq (.seq (.seqr [m1 7 2,m1 8 3,o1 9 (.bin .lss (.t 7) (.t 8))] [0,2,3,9]) (.cond (.t 9) .skip (.exit 0))) e155_8
def e155_0:IC:=.seq (.seqr [m1 4 0,o1 5 (.lenL (.t 4)),o1 6 (.bin .sub (.t 5) (ci 1)),o1 2 (.mv (ci 0)),m1 3 6] [0,2,3]) (.block 0 (.loop e155_4))
def e155T:FnT:=⟨28,e155_0,[]⟩
theorem e155ok:tabF Tryz.prog 155 e155T=true:=by kernel_rfl
def e111_13:IC:=.cond (.t 23) (.seqr [o1 24 (.faddr (.t 2) 4),o1 25 (.load (.t 24) 1 false),m1 5 25] [1,2,5]) .skip
def e111_31:IC:=.seq (.seqr [m1 45 7,m1 46 8,m1 47 6,o1 48 (.slS (.t 46) (some (.t 47)) none),o1 49 (.msl true 9 1 [.t 48]),o1 50 (.app (.t 45) (.t 49) 9 1),m1 7 50] [2,5,6,7,8]) (.seqr [m1 51 8,m1 52 6,o1 53 (.slS (.t 51) none (some (.t 52))),m1 8 53] [2,5,7,8])
def e111_28:IC:=.block 1 (.seq (.seqr [m1 40 8,o1 41 (.lenS (.t 40)),m1 42 5,o1 43 (.bin .sub (.t 41) (.t 42)),o1 44 (.mx false (ci 0) [.t 43]),m1 6 44] [2,5,6,7,8]) e111_31)
def e111_24:IC:=.seq (.seq (.seqr [m1 38 8,o1 39 (.bin .neq (.t 38) (.c (.s [])))] [2,5,7,8,39]) (.cond (.t 39) .skip (.exit 0))) e111_28
def e111_36:IC:=.seq (.seqr [m1 56 7,o1 57 (.faddr (.t 2) 1),o1 58 (.load (.t 57) 1 false),o1 59 (.callr 156 [.t 56,.t 58]),m1 4 59] [4]) .ret
def e111_19:IC:=.seq (.seq (.seqr [m1 35 1,m1 36 6,o1 37 (.slS (.t 35) none (some (.t 36))),m1 8 37] [2,5,7,8]) (.block 0 (.loop e111_24))) (.seq (.seqr [m1 54 7,o1 55 (.callr 155 [.t 54])] [2,7]) e111_36)
def e111_17:IC:=.seq (.seqr [m1 31 1,m1 32 6,o1 33 (.slS (.t 31) (some (.t 32)) none),o1 34 (.msl true 9 1 [.t 33]),m1 7 34] [1,2,5,6,7]) e111_19
def e111_15:IC:=.seq (.seqr [m1 26 1,o1 27 (.lenS (.t 26)),o1 28 (.faddr (.t 2) 4),o1 29 (.load (.t 28) 1 false),o1 30 (.bin .sub (.t 27) (.t 29)),m1 6 30] [1,2,5,6]) e111_17
def e111_8:IC:=.seq (.seqr [o1 20 (.faddr (.t 2) 5),o1 21 (.load (.t 20) 1 false),m1 5 21] [1,2,5]) (.seq (.seq (.seqr [m1 22 5,o1 23 (.bin .lss (.t 22) (ci 1))] [1,2,5,23]) e111_13) e111_15)
def e111_2:IC:=.seq (.seq (.seqr [o1 9 (.faddr (.t 2) 4),o1 10 (.load (.t 9) 1 false),o1 11 (.bin .lss (.t 10) (ci 1)),m1 12 11,⟨some 13,.mv (.t 1),some (12,false),[]⟩,⟨some 14,.lenS (.t 13),some (12,false),[]⟩,⟨some 15,.faddr (.t 2) 4,some (12,false),[]⟩,⟨some 16,.load (.t 15) 1 false,some (12,false),[]⟩,⟨some 17,.bin .leq (.t 14) (.t 16),some (12,false),[]⟩,o1 18 (.pick (.t 12) (.c (.b true)) (.t 17))] [1,2,18]) (.cond (.t 18) (.seq (.seqr [m1 19 1,m1 4 19] [4]) .ret) .skip)) e111_8
def e111_0:IC:=.seq (.seqr [o1 2 (.box (.t 0)),o1 4 (.mv (.c (.s [])))] [1,2]) e111_2
def e111T:FnT:=⟨60,e111_0,[.t 4]⟩
theorem e111ok:tabF Tryz.prog 111 e111T=true:=by kernel_rfl
def e70_12:IC:=.seqr [m1 26 10,o1 27 (.faddr (.t 2) 0),o1 28 (.load (.t 27) 1 false),m1 29 8,o1 30 (.bin .add (.t 28) (.t 29)),o1 31 (.bin .add (.t 26) (.t 30)),m1 10 31] [2,6,10]
def e70_17:IC:=.seqr [o1 33 (.faddr (.t 2) 2),o1 34 (.load (.t 33) 1 false),m1 35 10,o1 36 (.bin .add (.t 34) (.t 35)),m1 10 36] [10]
def e70_13:IC:=.seq (.seq (.seqr [m1 32 6] [2,10,32]) (.cond (.t 32) e70_17 .skip)) (.seq (.seqr [m1 37 10,m1 4 37] [4]) .ret)
def e70_6:IC:=.seq (.seqr [o1 22 (.load (.t 2) 6 true),m1 23 7,o1 24 (.call 111 [.t 22,.t 23]),m1 10 24] [2,6,8,9,10]) (.seq (.seq (.seqr [m1 25 9] [2,6,8,10,25]) (.cond (.t 25) e70_12 .skip)) e70_13)
def e70_4:IC:=.seq (.seqr [m1 17 5,o1 18 (.call 110 [.t 17,(.c (.s [46]))]),m1 16 18,o1 19 (.ext (.t 16) 0),o1 20 (.ext (.t 16) 1),o1 21 (.ext (.t 16) 2),m1 7 19,m1 8 20,m1 9 21] [2,6,7,8,9]) e70_6
def e70_2:IC:=.seq (.seqr [m1 12 1,o1 13 (.call 109 [.t 12,(.c (.s [45]))]),m1 11 13,o1 14 (.ext (.t 11) 0),o1 15 (.ext (.t 11) 1),m1 5 14,m1 6 15] [2,5,6]) e70_4
def e70_0:IC:=.seq (.seqr [o1 2 (.box (.t 0)),o1 4 (.mv (.c (.s [])))] [1,2]) e70_2
def e70T:FnT:=⟨38,e70_0,[.t 4]⟩
theorem e70ok:tabF Tryz.prog 70 e70T=true:=by kernel_rfl
def e47_11:IC:=.seq (.seqr [o1 30 (.faddr (.t 8) 0),o1 31 (.load (.t 30) 1 false),o1 32 (.bin .eql (.t 31) (.c (.s []))),m1 29 32] [1,2,8,29]) (.cond (.t 29) (.seq (.seqr [o1 6 (.mv (.c (.s []))),o1 7 (.mv (ci 18))] [6,7]) .ret) .skip)
def e47_27:IC:=.seqr [m1 37 1,o1 38 (.call 68 [.t 37,(ci 0)]),m1 36 38,o1 39 (.ext (.t 36) 0),o1 40 (.ext (.t 36) 1),m1 1 39,m1 10 40] [1,8,9,10]
def e47_31:IC:=.seq (.seqr [m1 44 1,o1 45 (.call 69 [.t 44,(ci 2)]),m1 43 45,o1 46 (.ext (.t 43) 0),o1 47 (.ext (.t 43) 1),m1 1 46,m1 10 47] [1,8,10]) (.seqr [o1 48 (.faddr (.t 8) 3),o1 49 (.load (.t 48) 1 false),m1 9 49] [1,8,9,10])
def e47_28:IC:=.seq (.seqr [o1 42 (.bin .eql (.t 33) (.c (.s [112,101,114,99,101,110,116]))),m1 41 42] [1,8,9,10,41]) (.cond (.t 41) e47_31 .skip)
def e47_23:IC:=.block 1 (.seq (.seqr [o1 35 (.bin .eql (.t 33) (.c (.s [105,110,116,101,103,101,114]))),m1 34 35] [1,8,9,10,33,34]) (.cond (.t 34) e47_27 e47_28))
def e47_40:IC:=.seq (.seqr [o1 53 (.load (.t 8) 6 true),m1 54 1,o1 55 (.call 70 [.t 53,.t 54]),m1 56 9,o1 57 (.bin .add (.t 55) (.t 56)),m1 6 57,o1 7 (.mv (ci 0))] [6,7]) .ret
def e47_34:IC:=.seq (.seq (.seqr [m1 50 10,o1 51 (.bin .neq (.t 50) (ci 0))] [1,8,9,10,51]) (.cond (.t 51) (.seq (.seqr [m1 52 10,o1 6 (.mv (.c (.s []))),m1 7 52] [6,7]) .ret) .skip)) e47_40
def e47_18:IC:=.seq (.seqr [o1 10 (.mv (ci 0))] [1,2,8,9,10]) (.seq (.seq (.seqr [m1 33 2] [1,8,9,10,33]) e47_23) e47_34)
def e47_4:IC:=.seq (.block 0 (.seq (.seqr [m1 14 1,o1 15 (.call 67 [.t 14]),o1 16 (.not (.t 15)),m1 17 16,⟨some 18,.mv (.t 2),some (17,false),[]⟩,⟨some 19,.bin .neq (.t 18) (.c (.s [])),some (17,false),[]⟩,⟨some 20,.mv (.t 19),some (17,false),[]⟩,⟨some 21,.mv (.t 2),some (20,true),[]⟩,⟨some 22,.bin .neq (.t 21) (.c (.s [105,110,116,101,103,101,114])),some (20,true),[]⟩,⟨some 23,.pick (.t 20) (.t 22) (.c (.b false)),some (17,false),[]⟩,⟨some 24,.mv (.t 23),some (17,false),[]⟩,⟨some 25,.mv (.t 2),some (24,true),[]⟩,⟨some 26,.bin .neq (.t 25) (.c (.s [112,101,114,99,101,110,116])),some (24,true),[]⟩,⟨some 27,.pick (.t 24) (.t 26) (.c (.b false)),some (17,false),[]⟩,o1 28 (.pick (.t 17) (.c (.b true)) (.t 27)),m1 13 28] [1,2,8,13]) (.cond (.t 13) (.seq (.seqr [o1 6 (.mv (.c (.s []))),o1 7 (.mv (ci 1))] [6,7]) .ret) e47_11))) (.seq (.seqr [o1 9 (.mv (.c (.s [])))] [1,2,8,9]) e47_18)
def e47_2:IC:=.seq (.seqr [o1 11 (.faddr (.t 3) 5),o1 12 (.load (.t 11) 6 true),o1 8 (.alloc (.agg [(.s []),(.s []),(.s []),(.s []),(.i .i64 0),(.i .i64 0)])),o0 (.store (.t 8) (.t 12) 6)] [1,2,8]) e47_4
def e47_0:IC:=.seq (.seqr [o1 3 (.box (.t 0)),o1 6 (.mv (.c (.s []))),o1 7 (.mv (ci 0))] [1,2,3]) e47_2
def e47T:FnT:=⟨58,e47_0,[.t 6,.t 7]⟩
theorem e47ok:tabF Tryz.prog 47 e47T=true:=by kernel_rfl
def e142_2:IC:=.seq (.seqr [m1 3 0,o1 4 (.bin .geq (.t 3) (ci 0)),m1 5 4,⟨some 6,.mv (.t 0),some (5,true),[]⟩,⟨some 7,.bin .leq (.t 6) (ci 1114111),some (5,true),[]⟩,o1 8 (.pick (.t 5) (.t 7) (.c (.b false))),m1 9 8,⟨some 10,.mv (.t 0),some (9,true),[]⟩,⟨some 11,.bin .lss (.t 10) (ci 55296),some (9,true),[]⟩,⟨some 12,.mv (.t 11),some (9,true),[]⟩,⟨some 13,.mv (.t 0),some (12,false),[]⟩,⟨some 14,.bin .gtr (.t 13) (ci 57343),some (12,false),[]⟩,⟨some 15,.pick (.t 12) (.c (.b true)) (.t 14),some (9,true),[]⟩,o1 16 (.pick (.t 9) (.t 15) (.c (.b false))),m1 2 16] [2]) .ret
def e142_0:IC:=.seq (.seqr [o1 2 (.mv (.c (.b false)))] [0]) e142_2
def e142T:FnT:=⟨17,e142_0,[.t 2]⟩
theorem e142ok:tabF Tryz.prog 142 e142T=true:=by kernel_rfl
def e213_8:IC:=.seq (.seqr [m1 14 0,m1 15 1,o1 16 (.pu (.shf .shr) [.t 15,(.c (.i .u64 6))]),o1 17 (.cvi .u8 (.t 16)),o1 18 (.pu (.bit .or) [(.c (.i .u8 192)),.t 17]),m1 19 1,o1 20 (.cvi .u8 (.t 19)),o1 21 (.pu (.bit .and) [.t 20,(.c (.i .u8 63))]),o1 22 (.pu (.bit .or) [(.c (.i .u8 128)),.t 21]),o1 23 (.msl true 5 1 [.t 18,.t 22]),o1 24 (.app (.t 14) (.t 23) 5 1),m1 4 24] [4]) .ret
def e213_14:IC:=.seqr [m1 28 5,o1 29 (.bin .lss (.c (.i .u32 57343)) (.t 28)),m1 30 29,⟨some 31,.mv (.t 5),some (30,true),[]⟩,⟨some 32,.bin .leq (.t 31) (.c (.i .u32 65535)),some (30,true),[]⟩,o1 33 (.pick (.t 30) (.t 32) (.c (.b false))),m1 25 33] [0,1,5,25]
def e213_16:IC:=.seq (.seqr [m1 34 0,m1 35 1,o1 36 (.pu (.shf .shr) [.t 35,(.c (.i .u64 12))]),o1 37 (.cvi .u8 (.t 36)),o1 38 (.pu (.bit .or) [(.c (.i .u8 224)),.t 37]),m1 39 1,o1 40 (.pu (.shf .shr) [.t 39,(.c (.i .u64 6))]),o1 41 (.cvi .u8 (.t 40)),o1 42 (.pu (.bit .and) [.t 41,(.c (.i .u8 63))]),o1 43 (.pu (.bit .or) [(.c (.i .u8 128)),.t 42]),m1 44 1,o1 45 (.cvi .u8 (.t 44)),o1 46 (.pu (.bit .and) [.t 45,(.c (.i .u8 63))]),o1 47 (.pu (.bit .or) [(.c (.i .u8 128)),.t 46]),o1 48 (.msl true 5 1 [.t 38,.t 43,.t 47]),o1 49 (.app (.t 34) (.t 48) 5 1),m1 4 49] [4]) .ret
def e213_21:IC:=.seq (.seqr [m1 57 0,m1 58 1,o1 59 (.pu (.shf .shr) [.t 58,(.c (.i .u64 18))]),o1 60 (.cvi .u8 (.t 59)),o1 61 (.pu (.bit .or) [(.c (.i .u8 240)),.t 60]),m1 62 1,o1 63 (.pu (.shf .shr) [.t 62,(.c (.i .u64 12))]),o1 64 (.cvi .u8 (.t 63)),o1 65 (.pu (.bit .and) [.t 64,(.c (.i .u8 63))]),o1 66 (.pu (.bit .or) [(.c (.i .u8 128)),.t 65]),m1 67 1,o1 68 (.pu (.shf .shr) [.t 67,(.c (.i .u64 6))]),o1 69 (.cvi .u8 (.t 68)),o1 70 (.pu (.bit .and) [.t 69,(.c (.i .u8 63))]),o1 71 (.pu (.bit .or) [(.c (.i .u8 128)),.t 70]),m1 72 1,o1 73 (.cvi .u8 (.t 72)),o1 74 (.pu (.bit .and) [.t 73,(.c (.i .u8 63))]),o1 75 (.pu (.bit .or) [(.c (.i .u8 128)),.t 74]),o1 76 (.msl true 5 1 [.t 61,.t 66,.t 71,.t 75]),o1 77 (.app (.t 57) (.t 76) 5 1),m1 4 77] [4]) .ret
def e213_23:IC:=.seq (.seqr [m1 8 0,o1 9 (.msl true 5 1 [(.c (.i .u8 239)),(.c (.i .u8 191)),(.c (.i .u8 189))]),o1 10 (.app (.t 8) (.t 9) 5 1),m1 4 10] [4]) .ret
def e213_18:IC:=.seq (.seqr [m1 51 5,o1 52 (.bin .gtr (.t 51) (.c (.i .u32 65535))),m1 53 52,⟨some 54,.mv (.t 5),some (53,true),[]⟩,⟨some 55,.bin .leq (.t 54) (.c (.i .u32 1114111)),some (53,true),[]⟩,o1 56 (.pick (.t 53) (.t 55) (.c (.b false))),m1 50 56] [0,1,50]) (.cond (.t 50) e213_21 e213_23)
def e213_10:IC:=.seq (.seq (.seqr [m1 26 5,o1 27 (.bin .lss (.t 26) (.c (.i .u32 55296))),m1 25 27] [0,1,5,25]) (.cond (.t 25) .skip e213_14)) (.cond (.t 25) e213_16 e213_18)
def e213_4:IC:=.block 0 (.seq (.seqr [m1 12 5,o1 13 (.bin .leq (.t 12) (.c (.i .u32 2047))),m1 11 13] [0,1,5,11]) (.cond (.t 11) e213_8 e213_10))
def e213_0:IC:=.seq (.seqr [o1 4 (.mv (.c .nil))] [0,1]) (.seq (.seqr [m1 6 1,o1 7 (.cvi .u32 (.t 6)),m1 5 7] [0,1,5]) e213_4)
def e213T:FnT:=⟨78,e213_0,[.t 4]⟩
theorem e213ok:tabF Tryz.prog 213 e213T=true:=by kernel_rfl
def e182_6:IC:=.seq (.seqr [m1 8 0,m1 9 1,o1 10 (.cvi .u8 (.t 9)),o1 11 (.msl true 5 1 [.t 10]),o1 12 (.app (.t 8) (.t 11) 5 1),m1 4 12] [4]) .ret
def e182_2:IC:=.seq (.seq (.seqr [m1 5 1,o1 6 (.cvi .u32 (.t 5)),o1 7 (.bin .leq (.t 6) (.c (.i .u32 127)))] [0,1,7]) (.cond (.t 7) e182_6 .skip)) (.seq (.seqr [m1 13 0,m1 14 1,o1 15 (.callr 213 [.t 13,.t 14]),m1 4 15] [4]) .ret)
def e182_0:IC:=.seq (.seqr [o1 4 (.mv (.c .nil))] [0,1]) e182_2
def e182T:FnT:=⟨16,e182_0,[.t 4]⟩
theorem e182ok:tabF Tryz.prog 182 e182T=true:=by kernel_rfl
def e143_8:IC:=.seq (.seqr [m1 23 0,o1 24 (.nilck (.t 23)),o1 25 (.faddr (.t 24) 1),o1 26 (.load (.t 25) 1 false),o1 27 (.lenL (.t 26)),m1 28 6,o1 29 (.bin .sub (.t 27) (.t 28)),m1 4 29,o1 5 (.mv (.c .ni))] [4,5]) .ret
def e143_6:IC:=.seq (.seqr [m1 14 0,m1 15 0,o1 16 (.nilck (.t 15)),o1 17 (.faddr (.t 16) 1),o1 18 (.load (.t 17) 1 false),m1 19 1,o1 20 (.callr 182 [.t 18,.t 19]),o1 21 (.nilck (.t 14)),o1 22 (.faddr (.t 21) 1),o0 (.store (.t 22) (.t 20) 1)] [0,6]) e143_8
def e143_4:IC:=.seq (.seqr [m1 9 0,o1 10 (.nilck (.t 9)),o1 11 (.faddr (.t 10) 1),o1 12 (.load (.t 11) 1 false),o1 13 (.lenL (.t 12)),m1 6 13] [0,1,6]) e143_6
def e143_0:IC:=.seq (.seqr [o1 4 (.mv (ci 0)),o1 5 (.mv (.c .ni))] [0,1]) (.seq (.seqr [m1 7 0,o1 8 (.calls 101 [.t 7])] [0,1]) e143_4)
def e143T:FnT:=⟨30,e143_0,[.t 4,.t 5]⟩
theorem e143ok:tabF Tryz.prog 143 e143T=true:=by kernel_rfl
def e102_17:IC:=.seq (.seq (.seqr [m1 12 5,o1 13 (.call 142 [.t 12]),o1 14 (.not (.t 13))] [3,5,6,7,8,14]) (.cond (.t 14) (.seqr [o1 5 (.mv (ci 65533))] [3,5,6,7,8]) .skip)) (.seqr [m1 15 5,o1 16 (.cvi .i32 (.t 15)),o1 17 (.calls 143 [.t 3,.t 16])] [3,6,7,8])
def e102_13:IC:=.seq (.block 1 (.seq (.seqr [o1 10 (.iaddr (.t 6) (.t 8) 3 1),o1 11 (.load (.t 10) 1 false),m1 5 11] [3,5,6,7,8]) e102_17)) (.seqr [o1 18 (.bin .add (.t 8) (ci 1)),m1 8 18] [3,6,7,8])
def e102_9:IC:=.seq (.seqr [o1 9 (.bin .lss (.t 8) (.t 7))] [3,6,7,8,9]) (.seq (.cond (.t 9) .skip (.exit 0)) e102_13)
def e102_4:IC:=.seq (.seq (.seqr [m1 6 0,o1 7 (.lenL (.t 6)),o1 8 (.mv (ci 0))] [3,6,7,8]) (.block 0 (.loop e102_9))) (.seq (.seqr [o1 19 (.calls 17 [.t 3]),m1 2 19] [2]) .ret)
def e102_0:IC:=.seq (.seqr [o1 2 (.mv (.c (.s [])))] [0]) (.seq (.seqr [o1 3 (.mkm (.tnew 56 (.agg [.np,.nil])) [])] [0,3]) e102_4)
def e102T:FnT:=⟨20,e102_0,[.t 2]⟩
theorem e102ok:tabF Tryz.prog 102 e102T=true:=by kernel_rfl
def e144_16:IC:=.seqr [m1 11 3,m1 12 5,o1 13 (.cvi .i64 (.t 12)),o1 14 (.msl true 3 1 [.t 13]),o1 15 (.app (.t 11) (.t 14) 3 1),m1 3 15] [3,7]
def e144_11:IC:=.seq (.cond (.t 9) .skip (.exit 0)) (.block 1 (.seq (.seqr [o1 10 (.ext (.t 8) 2),m1 5 10] [3,5,7]) e144_16))
def e144_9:IC:=.seq (.seqr [o1 8 (.wrm .next (.t 7) []),o1 9 (.ext (.t 8) 0)] [3,7,8,9]) e144_11
def e144_4:IC:=.seq (.seq (.seqr [m1 6 0,o1 7 (.mkm .strit [.t 6])] [3,7]) (.block 0 (.loop e144_9))) (.seq (.seqr [m1 16 3,m1 2 16] [2]) .ret)
def e144_0:IC:=.seq (.seqr [o1 2 (.mv (.c .nil))] [0]) (.seq (.seqr [o1 3 (.mv (.c .nil))] [0,3]) e144_4)
def e144T:FnT:=⟨17,e144_0,[.t 2]⟩
theorem e144ok:tabF Tryz.prog 144 e144T=true:=by kernel_rfl
def e145_2:IC:=.seq (.seqr [m1 3 0,o1 4 (.bin .geq (.t 3) (ci 8294)),m1 5 4,⟨some 6,.mv (.t 0),some (5,true),[]⟩,⟨some 7,.bin .leq (.t 6) (ci 8296),some (5,true),[]⟩,o1 8 (.pick (.t 5) (.t 7) (.c (.b false))),m1 2 8] [2]) .ret
def e145_0:IC:=.seq (.seqr [o1 2 (.mv (.c (.b false)))] [0]) e145_2
def e145T:FnT:=⟨9,e145_0,[.t 2]⟩
theorem e145ok:tabF Tryz.prog 145 e145T=true:=by kernel_rfl
def e103_30:IC:=.seq (.seq (.seqr [m1 26 8,o1 27 (.not (.t 26))] [3,4,5,7,11,12,13,27]) (.cond (.t 27) (.exit 1) .skip)) (.seqr [m1 28 5,o1 29 (.bin .add (.t 28) (ci 1)),m1 5 29] [3,4,5,7,11,12,13])
def e103_28:IC:=.seq (.seqr [m1 22 4,m1 23 8,o1 24 (.msl true 4 1 [.t 23]),o1 25 (.app (.t 22) (.t 24) 4 1),m1 4 25] [3,4,5,7,8,11,12,13]) e103_30
def e103_26:IC:=.seq (.seqr [m1 20 5,o1 21 (.bin .lss (.t 20) (ci 8)),m1 8 21] [3,4,5,7,8,11,12,13]) e103_28
def e103_46:IC:=.seq (.seq (.seqr [m1 47 9,o1 48 (.not (.t 47))] [3,4,5,7,11,12,13,48]) (.cond (.t 48) (.exit 1) .skip)) (.seqr [m1 49 5,o1 50 (.bin .sub (.t 49) (ci 1)),m1 5 50] [3,4,5,7,11,12,13])
def e103_44:IC:=.seq (.seqr [m1 42 4,m1 43 4,o1 44 (.lenL (.t 43)),o1 45 (.bin .sub (.t 44) (ci 1)),o1 46 (.slT (.t 42) (.t 45) 1),m1 4 46] [3,4,5,7,9,11,12,13]) e103_46
def e103_42:IC:=.seq (.seqr [m1 36 4,m1 37 4,o1 38 (.lenL (.t 37)),o1 39 (.bin .sub (.t 38) (ci 1)),o1 40 (.iaddr (.t 36) (.t 39) 4 1),o1 41 (.load (.t 40) 1 false),m1 9 41] [3,4,5,7,9,11,12,13]) e103_44
def e103_38:IC:=.seq (.seq (.seqr [m1 33 4,o1 34 (.lenL (.t 33)),o1 35 (.bin .eql (.t 34) (ci 0))] [3,4,5,7,11,12,13,35]) (.cond (.t 35) (.exit 1) .skip)) e103_42
def e103_35:IC:=.seq (.seqr [m1 31 7,o1 32 (.bin .eql (.t 31) (ci 8297)),m1 30 32] [3,4,5,7,11,12,13,30]) (.cond (.t 30) e103_38 .skip)
def e103_51:IC:=.seqr [m1 51 7,o1 52 (.msl false 3 1 [.t 51]),o1 53 (.callr 102 [.t 52]),o1 54 (.calls 64 [.t 3,.t 53])] [3,4,5,11,12,13]
def e103_21:IC:=.seq (.block 2 (.seq (.seqr [m1 18 7,o1 19 (.call 145 [.t 18]),m1 17 19] [3,4,5,7,11,12,13,17]) (.cond (.t 17) e103_26 e103_35))) e103_51
def e103_17:IC:=.seq (.block 1 (.seq (.seqr [o1 15 (.iaddr (.t 11) (.t 13) 3 1),o1 16 (.load (.t 15) 1 false),m1 7 16] [3,4,5,7,11,12,13]) e103_21)) (.seqr [o1 55 (.bin .add (.t 13) (ci 1)),m1 13 55] [3,4,5,11,12,13])
def e103_13:IC:=.seq (.seqr [o1 14 (.bin .lss (.t 13) (.t 12))] [3,4,5,11,12,13,14]) (.seq (.cond (.t 14) .skip (.exit 0)) e103_17)
def e103_62:IC:=.seq (.block 4 (.seqr [o1 59 (.msl false 3 1 [(ci 8297)]),o1 60 (.callr 102 [.t 59]),o1 61 (.calls 64 [.t 3,.t 60])] [3,56,57])) (.seqr [o1 62 (.bin .add (.t 57) (ci 1)),m1 57 62] [3,56,57])
def e103_58:IC:=.seq (.seqr [o1 58 (.bin .lss (.t 57) (.t 56))] [3,56,57,58]) (.seq (.cond (.t 58) .skip (.exit 3)) e103_62)
def e103_53:IC:=.seq (.seq (.seqr [m1 56 5,o1 57 (.mv (ci 0))] [3,56,57]) (.block 3 (.loop e103_58))) (.seq (.seqr [o1 63 (.calls 17 [.t 3]),m1 2 63] [2]) .ret)
def e103_8:IC:=.seq (.seq (.seqr [m1 10 0,o1 11 (.call 144 [.t 10]),o1 12 (.lenL (.t 11)),o1 13 (.mv (ci 0))] [3,4,5,11,12,13]) (.block 0 (.loop e103_13))) e103_53
def e103_4:IC:=.seq (.seqr [o1 4 (.mv (.c .nil))] [0,3,4]) (.seq (.seqr [o1 5 (.mv (ci 0))] [0,3,4,5]) e103_8)
def e103_0:IC:=.seq (.seqr [o1 2 (.mv (.c (.s [])))] [0]) (.seq (.seqr [o1 3 (.mkm (.tnew 56 (.agg [.np,.nil])) [])] [0,3]) e103_4)
def e103T:FnT:=⟨64,e103_0,[.t 2]⟩
theorem e103ok:tabF Tryz.prog 103 e103T=true:=by kernel_rfl
def e66_2:IC:=.seq (.seqr [o1 3 (.msl false 3 1 [(ci 8296)]),o1 4 (.callr 102 [.t 3]),m1 5 0,o1 6 (.call 103 [.t 5]),o1 7 (.bin .add (.t 4) (.t 6)),o1 8 (.msl false 3 1 [(ci 8297)]),o1 9 (.callr 102 [.t 8]),o1 10 (.bin .add (.t 7) (.t 9)),m1 2 10] [2]) .ret
def e66_0:IC:=.seq (.seqr [o1 2 (.mv (.c (.s [])))] [0]) e66_2
def e66T:FnT:=⟨11,e66_0,[.t 2]⟩
theorem e66ok:tabF Tryz.prog 66 e66T=true:=by kernel_rfl
def e46_4:IC:=.seqr [m1 12 0,m1 13 2,o1 14 (.nilck (.t 12)),o1 15 (.faddr (.t 14) 20),o0 (.store (.t 15) (.t 13) 1)] []
def e46_7:IC:=.cond (.t 16) (.seqr [m1 21 0,m1 22 1,o1 23 (.call 66 [.t 22]),o1 24 (.calls 45 [.t 21,.t 23])] []) (.seqr [m1 6 0,m1 7 1,o1 8 (.calls 45 [.t 6,.t 7])] [])
def e46_5:IC:=.seq (.seqr [m1 17 0,o1 18 (.nilck (.t 17)),o1 19 (.faddr (.t 18) 19),o1 20 (.load (.t 19) 1 false),m1 16 20] [0,1,16]) e46_7
def e46_0:IC:=.block 0 (.seq (.seqr [m1 10 2,o1 11 (.bin .neq (.t 10) (ci 0)),m1 9 11] [0,1,2,9]) (.cond (.t 9) e46_4 e46_5))
def e46T:FnT:=⟨25,e46_0,[]⟩
theorem e46ok:tabF Tryz.prog 46 e46T=true:=by kernel_rfl
def e76_2:IC:=.seq (.seqr [o1 4 (.faddr (.t 2) 0),o1 5 (.load (.t 4) 1 false),o1 6 (.load (.t 1) 1 false),o1 7 (.bin .eql (.t 5) (.t 6)),m1 3 7] [3]) .ret
def e76_0:IC:=.seq (.seqr [o1 2 (.box (.t 0)),o1 3 (.mv (.c (.b false)))] [1,2]) e76_2
def e76T:FnT:=⟨8,e76_0,[.t 3]⟩
theorem e76ok:tabF Tryz.prog 76 e76T=true:=by kernel_rfl
def e75_15:IC:=.seq (.seqr [m1 11 1,m1 12 0,m1 13 5,o1 14 (.iaddr (.t 12) (.t 13) 47 5),o1 15 (.load (.t 14) 5 true),o1 16 (.callvs (.t 11) [.t 15])] [0,1,5,7,8,16]) (.cond (.t 16) (.seq (.seqr [m1 17 5,m1 4 17] [4]) .ret) .skip)
def e75_11:IC:=.seq (.block 1 (.seq (.seqr [m1 10 8,m1 5 10] [0,1,5,7,8]) e75_15)) (.seqr [o1 18 (.bin .add (.t 8) (ci 1)),m1 8 18] [0,1,7,8])
def e75_7:IC:=.seq (.seqr [o1 9 (.bin .lss (.t 8) (.t 7))] [0,1,7,8,9]) (.seq (.cond (.t 9) .skip (.exit 0)) e75_11)
def e75_2:IC:=.seq (.seq (.seqr [m1 6 0,o1 7 (.lenL (.t 6)),o1 8 (.mv (ci 0))] [0,1,7,8]) (.block 0 (.loop e75_7))) (.seq (.seqr [o1 4 (.mv (ci (-1)))] [4]) .ret)
def e75_0:IC:=.seq (.seqr [o1 4 (.mv (ci 0))] [0,1]) e75_2
def e75T:FnT:=⟨19,e75_0,[.t 4]⟩
theorem e75ok:tabF Tryz.prog 75 e75T=true:=by kernel_rfl
def e77_8:IC:=.seq (.seqr [o1 5 (.msl true 9 1 []),m1 6 0,o1 7 (.app (.t 5) (.t 6) 9 1),m1 2 7] [2]) .ret
def e77_2:IC:=.seq (.seq (.seqr [m1 3 0,o1 4 (.pu (.isnil false) [.t 3])] [0,4]) (.cond (.t 4) (.seq (.seqr [o1 2 (.mv (.c .nil))] [2]) .ret) .skip)) e77_8
def e77_0:IC:=.seq (.seqr [o1 2 (.mv (.c .nil))] [0]) e77_2
def e77T:FnT:=⟨8,e77_0,[.t 2]⟩
theorem e77ok:tabF Tryz.prog 77 e77T=true:=by kernel_rfl
def e50_8:IC:=.seq (.seqr [o1 13 (.build [(.s []),(.i .i64 0),(.s []),(.i .i64 0),.nil] []),o0 (.store (.t 4) (.t 13) 5),o1 5 (.mv (.c (.b false)))] [4,5]) .ret
def e50_14:IC:=.seq (.seqr [o1 22 (.load (.t 7) 5 true),o0 (.store (.t 4) (.t 22) 5),o1 5 (.mv (.c (.b true)))] [4,5]) .ret
def e50_12:IC:=.seq (.seqr [o1 18 (.faddr (.t 7) 4),o1 19 (.load (.t 18) 1 false),o1 20 (.callr 77 [.t 19]),o1 21 (.faddr (.t 7) 4),o0 (.store (.t 21) (.t 20) 1)] [4,7]) e50_14
def e50_10:IC:=.seq (.seqr [m1 14 0,m1 15 6,o1 16 (.iaddr (.t 14) (.t 15) 47 5),o1 17 (.load (.t 16) 5 true),o1 7 (.alloc (.agg [(.s []),(.i .i64 0),(.s []),(.i .i64 0),.nil])),o0 (.store (.t 7) (.t 17) 5)] [4,7]) e50_12
def e50_4:IC:=.seq (.seq (.seqr [m1 11 6,o1 12 (.bin .lss (.t 11) (ci 0))] [0,4,6,12]) (.cond (.t 12) e50_8 .skip)) e50_10
def e50_2:IC:=.seq (.seqr [m1 8 0,o1 9 (.mkfn 76 [] [.t 3]),o1 10 (.calls 75 [.t 8,.t 9]),m1 6 10] [0,4,6]) e50_4
def e50_0:IC:=.seq (.seqr [o1 3 (.box (.t 1)),o1 4 (.alloc (.agg [(.s []),(.i .i64 0),(.s []),(.i .i64 0),.nil])),o1 5 (.mv (.c (.b false)))] [0,3,4]) e50_2
def e50T:FnT:=⟨23,e50_0,[.c 4 5 true,.t 5]⟩
theorem e50ok:tabF Tryz.prog 50 e50T=true:=by kernel_rfl
def e72_13:IC:=.cond (.t 10) (.seq (.seqr [o1 12 (.faddr (.t 2) 4),o1 13 (.load (.t 12) 1 false),m1 4 13] [4]) .ret) .skip
def e72_8:IC:=.cond (.t 6) (.seq (.seqr [o1 8 (.faddr (.t 2) 3),o1 9 (.load (.t 8) 1 false),m1 4 9] [4]) .ret) (.seq (.seqr [o1 11 (.bin .eql (.t 5) (ci 8)),m1 10 11] [2,10]) e72_13)
def e72_2:IC:=.seq (.seq (.seqr [m1 5 1] [2,5]) (.block 0 (.seq (.seqr [o1 7 (.bin .eql (.t 5) (ci 7)),m1 6 7] [2,5,6]) e72_8))) (.seq (.seqr [o1 4 (.mv (.c .nil))] [4]) .ret)
def e72_0:IC:=.seq (.seqr [o1 2 (.box (.t 0)),o1 4 (.mv (.c .nil))] [1,2]) e72_2
def e72T:FnT:=⟨14,e72_0,[.t 4]⟩
theorem e72ok:tabF Tryz.prog 72 e72T=true:=by kernel_rfl
def e117_15:IC:=.seq (.seqr [m1 11 1,m1 12 0,m1 13 5,o1 14 (.iaddr (.t 12) (.t 13) 9 1),o1 15 (.load (.t 14) 1 false),o1 16 (.bin .eql (.t 11) (.t 15))] [0,1,5,7,8,16]) (.cond (.t 16) (.seq (.seqr [m1 17 5,m1 4 17] [4]) .ret) .skip)
def e117_11:IC:=.seq (.block 1 (.seq (.seqr [m1 10 8,m1 5 10] [0,1,5,7,8]) e117_15)) (.seqr [o1 18 (.bin .add (.t 8) (ci 1)),m1 8 18] [0,1,7,8])
def e117_7:IC:=.seq (.seqr [o1 9 (.bin .lss (.t 8) (.t 7))] [0,1,7,8,9]) (.seq (.cond (.t 9) .skip (.exit 0)) e117_11)
def e117_2:IC:=.seq (.seq (.seqr [m1 6 0,o1 7 (.lenL (.t 6)),o1 8 (.mv (ci 0))] [0,1,7,8]) (.block 0 (.loop e117_7))) (.seq (.seqr [o1 4 (.mv (ci (-1)))] [4]) .ret)
def e117_0:IC:=.seq (.seqr [o1 4 (.mv (ci 0))] [0,1]) e117_2
def e117T:FnT:=⟨19,e117_0,[.t 4]⟩
theorem e117ok:tabF Tryz.prog 117 e117T=true:=by kernel_rfl
def e194_15:IC:=.seq (.seqr [m1 11 1,m1 12 0,m1 13 5,o1 14 (.iaddr (.t 12) (.t 13) 116 4),o1 15 (.load (.t 14) 4 true),o1 16 (.callvs (.t 11) [.t 15])] [0,1,5,7,8,16]) (.cond (.t 16) (.seq (.seqr [m1 17 5,m1 4 17] [4]) .ret) .skip)
def e194_11:IC:=.seq (.block 1 (.seq (.seqr [m1 10 8,m1 5 10] [0,1,5,7,8]) e194_15)) (.seqr [o1 18 (.bin .add (.t 8) (ci 1)),m1 8 18] [0,1,7,8])
def e194_7:IC:=.seq (.seqr [o1 9 (.bin .lss (.t 8) (.t 7))] [0,1,7,8,9]) (.seq (.cond (.t 9) .skip (.exit 0)) e194_11)
def e194_2:IC:=.seq (.seq (.seqr [m1 6 0,o1 7 (.lenL (.t 6)),o1 8 (.mv (ci 0))] [0,1,7,8]) (.block 0 (.loop e194_7))) (.seq (.seqr [o1 4 (.mv (ci (-1)))] [4]) .ret)
def e194_0:IC:=.seq (.seqr [o1 4 (.mv (ci 0))] [0,1]) e194_2
def e194T:FnT:=⟨19,e194_0,[.t 4]⟩
theorem e194ok:tabF Tryz.prog 194 e194T=true:=by kernel_rfl
def e159_2:IC:=.seq (.seqr [m1 5 0,m1 6 1,o1 7 (.calls 194 [.t 5,.t 6]),o1 8 (.bin .geq (.t 7) (ci 0)),m1 4 8] [4]) .ret
def e159_0:IC:=.seq (.seqr [o1 4 (.mv (.c (.b false)))] [0,1]) e159_2
def e159T:FnT:=⟨9,e159_0,[.t 4]⟩
theorem e159ok:tabF Tryz.prog 159 e159T=true:=by kernel_rfl
def e196_2:IC:=.seq (.seq (.seqr [m1 3 0,o1 4 (.bin .eql (.t 3) (ci 3)),m1 5 4,⟨some 6,.mv (.t 0),some (5,false),[]⟩,⟨some 7,.bin .eql (.t 6) (ci 4),some (5,false),[]⟩,o1 8 (.pick (.t 5) (.c (.b true)) (.t 7))] [8]) (.cond (.t 8) (.seq (.seqr [o1 2 (.mv (ci 6))] [2]) .ret) .skip)) (.seq (.seqr [o1 2 (.mv (ci 100))] [2]) .ret)
def e196_0:IC:=.seq (.seqr [o1 2 (.mv (ci 0))] [0]) e196_2
def e196T:FnT:=⟨9,e196_0,[.t 2]⟩
theorem e196ok:tabF Tryz.prog 196 e196T=true:=by kernel_rfl
def e161_21:IC:=.seq (.ops [o1 45 (.faddr (.t 4) 0),o1 46 (.load (.t 45) 1 false),o1 47 (.bin .lss (.t 46) (ci 0)),m1 48 47,⟨some 49,.faddr (.t 4) 0,some (48,false),[]⟩,⟨some 50,.load (.t 49) 1 false,some (48,false),[]⟩,⟨some 51,.faddr (.t 4) 1,some (48,false),[]⟩,⟨some 52,.load (.t 51) 1 false,some (48,false),[]⟩,⟨some 53,.bin .gtr (.t 50) (.t 52),some (48,false),[]⟩,o1 54 (.pick (.t 48) (.c (.b true)) (.t 53)),m1 55 54,⟨some 56,.faddr (.t 4) 1,some (55,false),[]⟩,⟨some 57,.load (.t 56) 1 false,some (55,false),[]⟩,⟨some 58,.faddr (.t 1) 0,some (55,false),[]⟩,⟨some 59,.load (.t 58) 1 false,some (55,false),[]⟩,⟨some 60,.call 196 [.t 59],some (55,false),[]⟩,⟨some 61,.bin .gtr (.t 57) (.t 60),some (55,false),[]⟩,o1 62 (.pick (.t 55) (.c (.b true)) (.t 61))] [1,39,40,41,62] [[0,1],[1,2],[2,3],[3,4],[3,5],[4,5],[3,6],[3,7],[6,7],[3,8],[5,8],[7,8],[3,9],[8,9],[9,10],[10,11],[10,12],[11,12],[10,13],[10,14],[13,14],[10,15],[14,15],[10,16],[12,16],[15,16],[10,17],[16,17]]) (.cond (.t 62) (.seq (.seqr [o1 2 (.mv (.c (.b false)))] [2]) .ret) .skip)
def e161_17:IC:=.seq (.block 1 (.seq (.seqr [o1 43 (.iaddr (.t 39) (.t 41) 217 2),o1 44 (.load (.t 43) 2 true),o1 4 (.alloc (.agg [(.i .i64 0),(.i .i64 0)])),o0 (.store (.t 4) (.t 44) 2)] [1,4,39,40,41]) e161_21)) (.seqr [o1 63 (.bin .add (.t 41) (ci 1)),m1 41 63] [1,39,40,41])
def e161_13:IC:=.seq (.seqr [o1 42 (.bin .lss (.t 41) (.t 40))] [1,39,40,41,42]) (.seq (.cond (.t 42) .skip (.exit 0)) e161_17)
def e161_8:IC:=.seq (.seq (.seqr [o1 38 (.faddr (.t 1) 3),o1 39 (.load (.t 38) 1 false),o1 40 (.lenL (.t 39)),o1 41 (.mv (ci 0))] [1,39,40,41]) (.block 0 (.loop e161_13))) (.seq (.seqr [o1 2 (.mv (.c (.b true)))] [2]) .ret)
def e161_2:IC:=.seq (.seq (.seqr [o1 5 (.faddr (.t 1) 0),o1 6 (.load (.t 5) 1 false),o1 7 (.bin .lss (.t 6) (ci 1)),m1 8 7,⟨some 9,.faddr (.t 1) 0,some (8,false),[]⟩,⟨some 10,.load (.t 9) 1 false,some (8,false),[]⟩,⟨some 11,.bin .gtr (.t 10) (ci 6),some (8,false),[]⟩,o1 12 (.pick (.t 8) (.c (.b true)) (.t 11)),m1 13 12,⟨some 14,.faddr (.t 1) 1,some (13,false),[]⟩,⟨some 15,.load (.t 14) 1 false,some (13,false),[]⟩,⟨some 16,.bin .neq (.t 15) (ci 0),some (13,false),[]⟩,⟨some 17,.mv (.t 16),some (13,false),[]⟩,⟨some 18,.faddr (.t 1) 0,some (17,true),[]⟩,⟨some 19,.load (.t 18) 1 false,some (17,true),[]⟩,⟨some 20,.faddr (.t 1) 1,some (17,true),[]⟩,⟨some 21,.load (.t 20) 1 false,some (17,true),[]⟩,⟨some 22,.call 195 [.t 19,.t 21],some (17,true),[]⟩,⟨some 23,.not (.t 22),some (17,true),[]⟩,⟨some 24,.pick (.t 17) (.t 23) (.c (.b false)),some (13,false),[]⟩,o1 25 (.pick (.t 13) (.c (.b true)) (.t 24)),m1 26 25,⟨some 27,.faddr (.t 1) 3,some (26,false),[]⟩,⟨some 28,.load (.t 27) 1 false,some (26,false),[]⟩,⟨some 29,.lenL (.t 28),some (26,false),[]⟩,⟨some 30,.bin .lss (.t 29) (ci 1),some (26,false),[]⟩,o1 31 (.pick (.t 26) (.c (.b true)) (.t 30)),m1 32 31,⟨some 33,.faddr (.t 1) 3,some (32,false),[]⟩,⟨some 34,.load (.t 33) 1 false,some (32,false),[]⟩,⟨some 35,.lenL (.t 34),some (32,false),[]⟩,⟨some 36,.bin .gtr (.t 35) (ci 4),some (32,false),[]⟩,o1 37 (.pick (.t 32) (.c (.b true)) (.t 36))] [1,37]) (.cond (.t 37) (.seq (.seqr [o1 2 (.mv (.c (.b false)))] [2]) .ret) .skip)) e161_8
def e161_0:IC:=.seq (.seqr [o1 1 (.box (.t 0)),o1 2 (.mv (.c (.b false)))] [1]) e161_2
def e161T:FnT:=⟨64,e161_0,[.t 2]⟩
theorem e161ok:tabF Tryz.prog 161 e161T=true:=by kernel_rfl
def e160_2:IC:=.seq (.seqr [o1 3 (.load (.t 1) 4 true),o1 4 (.callr 161 [.t 3]),o1 5 (.not (.t 4)),m1 2 5] [2]) .ret
def e160_0:IC:=.seq (.seqr [o1 1 (.box (.t 0)),o1 2 (.mv (.c (.b false)))] [1]) e160_2
def e160T:FnT:=⟨6,e160_0,[.t 2]⟩
theorem e160ok:tabF Tryz.prog 160 e160T=true:=by kernel_rfl
def e113_23:IC:=.seqr [m1 19 3,m1 20 5,o1 21 (.lenL (.t 20)),o1 22 (.bin .add (.t 19) (.t 21)),m1 3 22] [0,3,6,7,8]
def e113_17:IC:=.seq (.seq (.seqr [m1 12 5,o1 13 (.lenL (.t 12)),o1 14 (.bin .eql (.t 13) (ci 0)),m1 15 14,⟨some 16,.mv (.t 5),some (15,false),[]⟩,⟨some 17,.calls 159 [.t 16,(.c (.fn 160 [] []))],some (15,false),[]⟩,o1 18 (.pick (.t 15) (.c (.b true)) (.t 17))] [0,3,5,6,7,8,18]) (.cond (.t 18) (.seq (.seqr [o1 2 (.mv (.c (.b false)))] [2]) .ret) .skip)) e113_23
def e113_13:IC:=.seq (.block 1 (.seq (.seqr [o1 10 (.iaddr (.t 6) (.t 8) 113 1),o1 11 (.load (.t 10) 1 false),m1 5 11] [0,3,5,6,7,8]) e113_17)) (.seqr [o1 23 (.bin .add (.t 8) (ci 1)),m1 8 23] [0,3,6,7,8])
def e113_9:IC:=.seq (.seqr [o1 9 (.bin .lss (.t 8) (.t 7))] [0,3,6,7,8,9]) (.seq (.cond (.t 9) .skip (.exit 0)) e113_13)
def e113_25:IC:=.seq (.seqr [m1 24 0,o1 25 (.lenL (.t 24)),o1 26 (.bin .gtr (.t 25) (ci 0)),m1 27 26,⟨some 28,.mv (.t 3),some (27,true),[]⟩,⟨some 29,.bin .leq (.t 28) (ci 6),some (27,true),[]⟩,o1 30 (.pick (.t 27) (.t 29) (.c (.b false))),m1 2 30] [2]) .ret
def e113_4:IC:=.seq (.seq (.seqr [m1 6 0,o1 7 (.lenL (.t 6)),o1 8 (.mv (ci 0))] [0,3,6,7,8]) (.block 0 (.loop e113_9))) e113_25
def e113_0:IC:=.seq (.seqr [o1 2 (.mv (.c (.b false)))] [0]) (.seq (.seqr [o1 3 (.mv (ci 0))] [0,3]) e113_4)
def e113T:FnT:=⟨31,e113_0,[.t 2]⟩
theorem e113ok:tabF Tryz.prog 113 e113T=true:=by kernel_rfl
def e71_15:IC:=.seq (.seqr [o1 12 (.faddr (.t 4) 0),o1 13 (.load (.t 12) 1 false),o1 14 (.call 112 [.t 13]),o1 15 (.not (.t 14)),m1 16 15,⟨some 17,.faddr (.t 4) 0,some (16,false),[]⟩,⟨some 18,.load (.t 17) 1 false,some (16,false),[]⟩,⟨some 19,.bin .eql (.t 18) (.c (.s [111,116,104,101,114])),some (16,false),[]⟩,o1 20 (.pick (.t 16) (.c (.b true)) (.t 19)),m1 21 20,⟨some 22,.faddr (.t 4) 1,some (21,false),[]⟩,⟨some 23,.load (.t 22) 1 false,some (21,false),[]⟩,⟨some 24,.callr 113 [.t 23],some (21,false),[]⟩,⟨some 25,.not (.t 24),some (21,false),[]⟩,o1 26 (.pick (.t 21) (.c (.b true)) (.t 25)),m1 27 26,⟨some 28,.mv (.t 0),some (27,false),[]⟩,⟨some 29,.mv (.t 3),some (27,false),[]⟩,⟨some 30,.slL (.t 28) none (some (.t 29)) 2,some (27,false),[]⟩,⟨some 31,.mkfn 115 [] [.t 4],some (27,false),[]⟩,⟨some 32,.calls 114 [.t 30,.t 31],some (27,false),[]⟩,o1 33 (.pick (.t 27) (.c (.b true)) (.t 32))] [0,5,6,7,33]) (.cond (.t 33) (.seq (.seqr [o1 2 (.mv (.c (.b false)))] [2]) .ret) .skip)
def e71_11:IC:=.seq (.block 1 (.seq (.seqr [m1 9 7,o1 10 (.iaddr (.t 5) (.t 7) 87 2),o1 11 (.load (.t 10) 2 true),o1 4 (.alloc (.agg [(.s []),.nil])),m1 3 9,o0 (.store (.t 4) (.t 11) 2)] [0,3,4,5,6,7]) e71_15)) (.seqr [o1 34 (.bin .add (.t 7) (ci 1)),m1 7 34] [0,5,6,7])
def e71_7:IC:=.seq (.seqr [o1 8 (.bin .lss (.t 7) (.t 6))] [0,5,6,7,8]) (.seq (.cond (.t 8) .skip (.exit 0)) e71_11)
def e71_2:IC:=.seq (.seq (.seqr [m1 5 0,o1 6 (.lenL (.t 5)),o1 7 (.mv (ci 0))] [0,5,6,7]) (.block 0 (.loop e71_7))) (.seq (.seqr [o1 2 (.mv (.c (.b true)))] [2]) .ret)
def e71_0:IC:=.seq (.seqr [o1 2 (.mv (.c (.b false)))] [0]) e71_2
def e71T:FnT:=⟨35,e71_0,[.t 2]⟩
theorem e71ok:tabF Tryz.prog 71 e71T=true:=by kernel_rfl
def e78_9:IC:=.seq (.seqr [o1 7 (.faddr (.t 1) 3),o1 8 (.load (.t 7) 1 false),o1 9 (.bin .eql (.t 8) (ci 0)),m1 10 9,⟨some 11,.faddr (.t 1) 4,some (10,true),[]⟩,⟨some 12,.load (.t 11) 1 false,some (10,true),[]⟩,⟨some 13,.lenL (.t 12),some (10,true),[]⟩,⟨some 14,.bin .eql (.t 13) (ci 0),some (10,true),[]⟩,o1 15 (.pick (.t 10) (.t 14) (.c (.b false))),m1 2 15] [2]) .ret
def e78_14:IC:=.seq (.seqr [o1 18 (.faddr (.t 1) 2),o1 19 (.load (.t 18) 1 false),o1 20 (.call 67 [.t 19]),m1 21 20,⟨some 22,.faddr (.t 1) 3,some (21,true),[]⟩,⟨some 23,.load (.t 22) 1 false,some (21,true),[]⟩,⟨some 24,.bin .eql (.t 23) (ci 0),some (21,true),[]⟩,o1 25 (.pick (.t 21) (.t 24) (.c (.b false))),m1 26 25,⟨some 27,.faddr (.t 1) 4,some (26,true),[]⟩,⟨some 28,.load (.t 27) 1 false,some (26,true),[]⟩,⟨some 29,.lenL (.t 28),some (26,true),[]⟩,⟨some 30,.bin .eql (.t 29) (ci 0),some (26,true),[]⟩,o1 31 (.pick (.t 26) (.t 30) (.c (.b false))),m1 2 31] [2]) .ret
def e78_19:IC:=.seq (.seqr [o1 34 (.faddr (.t 1) 2),o1 35 (.load (.t 34) 1 false),o1 36 (.bin .eql (.t 35) (.c (.s []))),m1 37 36,⟨some 38,.faddr (.t 1) 4,some (37,true),[]⟩,⟨some 39,.load (.t 38) 1 false,some (37,true),[]⟩,⟨some 40,.lenL (.t 39),some (37,true),[]⟩,⟨some 41,.bin .eql (.t 40) (ci 0),some (37,true),[]⟩,o1 42 (.pick (.t 37) (.t 41) (.c (.b false))),m1 2 42] [2]) .ret
def e78_24:IC:=.seq (.seqr [o1 45 (.faddr (.t 1) 2),o1 46 (.load (.t 45) 1 false),o1 47 (.bin .eql (.t 46) (.c (.s []))),m1 48 47,⟨some 49,.faddr (.t 1) 3,some (48,true),[]⟩,⟨some 50,.load (.t 49) 1 false,some (48,true),[]⟩,⟨some 51,.bin .eql (.t 50) (ci 0),some (48,true),[]⟩,o1 52 (.pick (.t 48) (.t 51) (.c (.b false))),m1 2 52] [2]) .ret
def e78_21:IC:=.seq (.seqr [o1 44 (.bin .eql (.t 4) (ci 4)),m1 43 44] [1,43]) (.cond (.t 43) e78_24 .skip)
def e78_16:IC:=.seq (.seqr [o1 33 (.bin .eql (.t 4) (ci 3)),m1 32 33] [1,4,32]) (.cond (.t 32) e78_19 e78_21)
def e78_11:IC:=.seq (.seqr [o1 17 (.bin .eql (.t 4) (ci 2)),m1 16 17] [1,4,16]) (.cond (.t 16) e78_14 e78_16)
def e78_5:IC:=.block 0 (.seq (.seqr [o1 6 (.bin .eql (.t 4) (ci 1)),m1 5 6] [1,4,5]) (.cond (.t 5) e78_9 e78_11))
def e78_2:IC:=.seq (.seq (.seqr [o1 3 (.faddr (.t 1) 1),o1 4 (.load (.t 3) 1 false)] [1,4]) e78_5) (.seq (.seqr [o1 2 (.mv (.c (.b false)))] [2]) .ret)
def e78_0:IC:=.seq (.seqr [o1 1 (.box (.t 0)),o1 2 (.mv (.c (.b false)))] [1]) e78_2
def e78T:FnT:=⟨53,e78_0,[.t 2]⟩
theorem e78ok:tabF Tryz.prog 78 e78T=true:=by kernel_rfl
def e73_6:IC:=.seq (.seqr [o1 7 (.load (.t 3) 5 true),o1 8 (.callr 78 [.t 7]),m1 9 8,⟨some 10,.faddr (.t 3) 1,some (9,true),[]⟩,⟨some 11,.load (.t 10) 1 false,some (9,true),[]⟩,⟨some 12,.bin .eql (.t 11) (ci 1),some (9,true),[]⟩,o1 13 (.pick (.t 9) (.t 12) (.c (.b false))),m1 4 13] [4]) .ret
def e73_8:IC:=.seq (.seqr [o1 14 (.load (.t 3) 5 true),o1 15 (.callr 78 [.t 14]),m1 16 15,⟨some 17,.faddr (.t 3) 1,some (16,true),[]⟩,⟨some 18,.load (.t 17) 1 false,some (16,true),[]⟩,⟨some 19,.bin .eql (.t 18) (ci 2),some (16,true),[]⟩,o1 20 (.pick (.t 16) (.t 19) (.c (.b false))),m1 4 20] [4]) .ret
def e73_2:IC:=.seq (.seq (.seqr [m1 5 0,o1 6 (.bin .eql (.t 5) (ci 9))] [3,6]) (.cond (.t 6) e73_6 .skip)) e73_8
def e73_0:IC:=.seq (.seqr [o1 3 (.box (.t 1)),o1 4 (.mv (.c (.b false)))] [0,3]) e73_2
def e73T:FnT:=⟨21,e73_0,[.t 4]⟩
theorem e73ok:tabF Tryz.prog 73 e73T=true:=by kernel_rfl
def e242_2:IC:=.seq (.seqr [m1 6 0,o1 7 (.bin .add (.c (.s [48])) (.t 6)),o1 8 (.call 254 [.t 7]),m1 5 8,o1 9 (.ext (.t 5) 0),o1 10 (.ext (.t 5) 1),m1 3 9,m1 4 10] [3]) (.seq (.seqr [m1 11 3,m1 2 11] [2]) .ret)
def e242_0:IC:=.seq (.seqr [o1 2 (.mv (ci 0))] [0]) e242_2
def e242T:FnT:=⟨12,e242_0,[.t 2]⟩
theorem e242ok:tabF Tryz.prog 242 e242T=true:=by kernel_rfl
def e225_25:IC:=.seq (.seqr [o1 24 (.faddr (.t 6) 1),o1 25 (.load (.t 24) 1 false),o1 26 (.call 242 [.t 25]),m1 4 26,o1 5 (.mv (ci 0))] [4,5]) .ret
def e225_19:IC:=.seq (.seq (.seqr [m1 22 8,o1 23 (.bin .neq (.t 22) (.c (.s [])))] [6,23]) (.cond (.t 23) (.seq (.seqr [o1 4 (.mv (ci 0)),o1 5 (.mv (ci 8))] [4,5]) .ret) .skip)) e225_25
def e225_30:IC:=.seq (.seqr [o1 29 (.faddr (.t 6) 1),o1 30 (.load (.t 29) 1 false),o1 31 (.call 242 [.t 30]),m1 4 31,o1 5 (.mv (ci 0))] [4,5]) .ret
def e225_35:IC:=.seq (.seqr [o1 34 (.faddr (.t 6) 2),o1 35 (.load (.t 34) 1 false),o1 36 (.lenS (.t 35)),m1 4 36,o1 5 (.mv (ci 0))] [4,5]) .ret
def e225_45:IC:=.seq (.seqr [o1 43 (.faddr (.t 6) 2),o1 44 (.load (.t 43) 1 false),o1 45 (.call 242 [.t 44]),m1 4 45,o1 5 (.mv (ci 0))] [4,5]) .ret
def e225_49:IC:=.cond (.t 46) (.seq (.seqr [m1 48 8,o1 49 (.call 242 [.t 48]),m1 4 49,o1 5 (.mv (ci 0))] [4,5]) .ret) .skip
def e225_44:IC:=.cond (.t 41) e225_45 (.seq (.seqr [o1 47 (.bin .eql (.t 19) (ci 6)),m1 46 47] [8,46]) e225_49)
def e225_39:IC:=.cond (.t 37) (.seq (.seqr [m1 39 8,o1 40 (.lenS (.t 39)),m1 4 40,o1 5 (.mv (ci 0))] [4,5]) .ret) (.seq (.seqr [o1 42 (.bin .eql (.t 19) (ci 5)),m1 41 42] [6,8,19,41]) e225_44)
def e225_34:IC:=.cond (.t 32) e225_35 (.seq (.seqr [o1 38 (.bin .eql (.t 19) (ci 4)),m1 37 38] [6,8,19,37]) e225_39)
def e225_29:IC:=.cond (.t 27) e225_30 (.seq (.seqr [o1 33 (.bin .eql (.t 19) (ci 3)),m1 32 33] [6,8,19,32]) e225_34)
def e225_18:IC:=.cond (.t 20) e225_19 (.seq (.seqr [o1 28 (.bin .eql (.t 19) (ci 2)),m1 27 28] [6,8,19,27]) e225_29)
def e225_12:IC:=.seq (.seq (.seqr [m1 19 1] [6,8,19]) (.block 0 (.seq (.seqr [o1 21 (.bin .eql (.t 19) (ci 1)),m1 20 21] [6,8,19,20]) e225_18))) (.seq (.seqr [o1 4 (.mv (ci 0)),o1 5 (.mv (ci 1))] [4,5]) .ret)
def e225_10:IC:=.seq (.seqr [o1 16 (.faddr (.t 6) 2),o1 17 (.load (.t 16) 1 false),o1 18 (.call 241 [.t 17,(.c (.s [48]))]),m1 8 18] [1,6,8]) e225_12
def e225_4:IC:=.seq (.seq (.seqr [m1 14 7,o1 15 (.not (.t 14))] [1,6,15]) (.cond (.t 15) (.seq (.seqr [o1 4 (.mv (ci 0)),o1 5 (.mv (ci 1))] [4,5]) .ret) .skip)) e225_10
def e225_2:IC:=.seq (.seqr [m1 10 0,o1 11 (.call 104 [.t 10]),m1 9 11,o1 12 (.ext (.t 9) 0),o1 13 (.ext (.t 9) 1),o1 6 (.alloc (.agg [(.b false),(.s []),(.s [])])),o0 (.store (.t 6) (.t 12) 3),m1 7 13] [1,6,7]) e225_4
def e225_0:IC:=.seq (.seqr [o1 4 (.mv (ci 0)),o1 5 (.mv (ci 0))] [0,1]) e225_2
def e225T:FnT:=⟨50,e225_0,[.t 4,.t 5]⟩
theorem e225ok:tabF Tryz.prog 225 e225T=true:=by kernel_rfl
def e244_2:IC:=.seq (.seqr [o1 4 (.load (.t 1) 1 false),o1 5 (.faddr (.t 2) 0),o1 6 (.load (.t 5) 1 false),o1 7 (.bin .geq (.t 4) (.t 6)),m1 8 7,⟨some 9,.load (.t 1) 1 false,some (8,true),[]⟩,⟨some 10,.faddr (.t 2) 1,some (8,true),[]⟩,⟨some 11,.load (.t 10) 1 false,some (8,true),[]⟩,⟨some 12,.bin .leq (.t 9) (.t 11),some (8,true),[]⟩,o1 13 (.pick (.t 8) (.t 12) (.c (.b false))),m1 3 13] [3]) .ret
def e244_0:IC:=.seq (.seqr [o1 2 (.box (.t 0)),o1 3 (.mv (.c (.b false)))] [1,2]) e244_2
def e244T:FnT:=⟨14,e244_0,[.t 3]⟩
theorem e244ok:tabF Tryz.prog 244 e244T=true:=by kernel_rfl
def e255_15:IC:=.seq (.seqr [m1 11 1,m1 12 0,m1 13 5,o1 14 (.iaddr (.t 12) (.t 13) 217 2),o1 15 (.load (.t 14) 2 true),o1 16 (.callvs (.t 11) [.t 15])] [0,1,5,7,8,16]) (.cond (.t 16) (.seq (.seqr [m1 17 5,m1 4 17] [4]) .ret) .skip)
def e255_11:IC:=.seq (.block 1 (.seq (.seqr [m1 10 8,m1 5 10] [0,1,5,7,8]) e255_15)) (.seqr [o1 18 (.bin .add (.t 8) (ci 1)),m1 8 18] [0,1,7,8])
def e255_7:IC:=.seq (.seqr [o1 9 (.bin .lss (.t 8) (.t 7))] [0,1,7,8,9]) (.seq (.cond (.t 9) .skip (.exit 0)) e255_11)
def e255_2:IC:=.seq (.seq (.seqr [m1 6 0,o1 7 (.lenL (.t 6)),o1 8 (.mv (ci 0))] [0,1,7,8]) (.block 0 (.loop e255_7))) (.seq (.seqr [o1 4 (.mv (ci (-1)))] [4]) .ret)
def e255_0:IC:=.seq (.seqr [o1 4 (.mv (ci 0))] [0,1]) e255_2
def e255T:FnT:=⟨19,e255_0,[.t 4]⟩
theorem e255ok:tabF Tryz.prog 255 e255T=true:=by kernel_rfl
def e243_2:IC:=.seq (.seqr [m1 5 0,m1 6 1,o1 7 (.calls 255 [.t 5,.t 6]),o1 8 (.bin .geq (.t 7) (ci 0)),m1 4 8] [4]) .ret
def e243_0:IC:=.seq (.seqr [o1 4 (.mv (.c (.b false)))] [0,1]) e243_2
def e243T:FnT:=⟨9,e243_0,[.t 4]⟩
theorem e243ok:tabF Tryz.prog 243 e243T=true:=by kernel_rfl
def e226_2:IC:=.seq (.seqr [m1 5 0,o1 6 (.mkfn 244 [] [.t 3]),o1 7 (.calls 243 [.t 5,.t 6]),m1 4 7] [4]) .ret
def e226_0:IC:=.seq (.seqr [o1 3 (.box (.t 1)),o1 4 (.mv (.c (.b false)))] [0,3]) e226_2
def e226T:FnT:=⟨8,e226_0,[.t 4]⟩
theorem e226ok:tabF Tryz.prog 226 e226T=true:=by kernel_rfl
def e200_7:IC:=.cond (.t 15) (.seq (.seqr [o1 16 (.faddr (.t 2) 2),o1 17 (.load (.t 16) 1 false),m1 4 17] [4]) .ret) .skip
def e200_14:IC:=.seqr [m1 21 5,o1 22 (.faddr (.t 2) 1),o1 23 (.load (.t 22) 1 false),o1 24 (.bin .rem (.t 21) (.t 23)),m1 5 24] [2,5]
def e200_15:IC:=.seq (.ops [o1 25 (.faddr (.t 2) 3),o1 26 (.load (.t 25) 1 false),m1 27 5,o1 28 (.callr 226 [.t 26,.t 27]),o1 29 (.faddr (.t 2) 2),o1 30 (.load (.t 29) 1 false),o1 31 (.eqb true (.t 28) (.t 30)),m1 4 31] [4] [[0,1],[1,3],[2,3],[4,5],[3,6],[5,6],[6,7]]) .ret
def e200_10:IC:=.seq (.seq (.seqr [o1 18 (.faddr (.t 2) 1),o1 19 (.load (.t 18) 1 false),o1 20 (.bin .neq (.t 19) (ci 0))] [2,5,20]) (.cond (.t 20) e200_14 .skip)) e200_15
def e200_2:IC:=.seq (.seqr [m1 8 1,o1 9 (.faddr (.t 2) 0),o1 10 (.load (.t 9) 1 false),o1 11 (.call 225 [.t 8,.t 10]),m1 7 11,o1 12 (.ext (.t 7) 0),o1 13 (.ext (.t 7) 1),m1 5 12,m1 6 13] [2,5,6]) (.seq (.seq (.seqr [m1 14 6,o1 15 (.bin .neq (.t 14) (ci 0))] [2,5,15]) e200_7) e200_10)
def e200_0:IC:=.seq (.seqr [o1 2 (.box (.t 0)),o1 4 (.mv (.c (.b false)))] [1,2]) e200_2
def e200T:FnT:=⟨32,e200_0,[.t 4]⟩
theorem e200ok:tabF Tryz.prog 200 e200T=true:=by kernel_rfl
def e199_2:IC:=.seq (.seqr [o1 4 (.load (.t 2) 4 true),o1 5 (.load (.t 1) 1 false),o1 6 (.callr 200 [.t 4,.t 5]),o1 7 (.not (.t 6)),m1 3 7] [3]) .ret
def e199_0:IC:=.seq (.seqr [o1 2 (.box (.t 0)),o1 3 (.mv (.c (.b false)))] [1,2]) e199_2
def e199T:FnT:=⟨8,e199_0,[.t 3]⟩
theorem e199ok:tabF Tryz.prog 199 e199T=true:=by kernel_rfl
def e198_2:IC:=.seq (.seqr [m1 4 0,o1 5 (.mkfn 199 [] [.t 1]),o1 6 (.calls 159 [.t 4,.t 5]),o1 7 (.not (.t 6)),m1 3 7] [3]) .ret
def e198_0:IC:=.seq (.seqr [o1 3 (.mv (.c (.b false)))] [0,1]) e198_2
def e198T:FnT:=⟨8,e198_0,[.t 3]⟩
theorem e198ok:tabF Tryz.prog 198 e198T=true:=by kernel_rfl
def e224_15:IC:=.seq (.seqr [m1 11 1,m1 12 0,m1 13 5,o1 14 (.iaddr (.t 12) (.t 13) 113 1),o1 15 (.load (.t 14) 1 false),o1 16 (.callvs (.t 11) [.t 15])] [0,1,5,7,8,16]) (.cond (.t 16) (.seq (.seqr [m1 17 5,m1 4 17] [4]) .ret) .skip)
def e224_11:IC:=.seq (.block 1 (.seq (.seqr [m1 10 8,m1 5 10] [0,1,5,7,8]) e224_15)) (.seqr [o1 18 (.bin .add (.t 8) (ci 1)),m1 8 18] [0,1,7,8])
def e224_7:IC:=.seq (.seqr [o1 9 (.bin .lss (.t 8) (.t 7))] [0,1,7,8,9]) (.seq (.cond (.t 9) .skip (.exit 0)) e224_11)
def e224_2:IC:=.seq (.seq (.seqr [m1 6 0,o1 7 (.lenL (.t 6)),o1 8 (.mv (ci 0))] [0,1,7,8]) (.block 0 (.loop e224_7))) (.seq (.seqr [o1 4 (.mv (ci (-1)))] [4]) .ret)
def e224_0:IC:=.seq (.seqr [o1 4 (.mv (ci 0))] [0,1]) e224_2
def e224T:FnT:=⟨19,e224_0,[.t 4]⟩
theorem e224ok:tabF Tryz.prog 224 e224T=true:=by kernel_rfl
def e197_2:IC:=.seq (.seqr [m1 5 0,m1 6 1,o1 7 (.calls 224 [.t 5,.t 6]),o1 8 (.bin .geq (.t 7) (ci 0)),m1 4 8] [4]) .ret
def e197_0:IC:=.seq (.seqr [o1 4 (.mv (.c (.b false)))] [0,1]) e197_2
def e197T:FnT:=⟨9,e197_0,[.t 4]⟩
theorem e197ok:tabF Tryz.prog 197 e197T=true:=by kernel_rfl
def e163_5:IC:=.cond (.t 13) (.seq (.seqr [o1 4 (.mv (.c (.b false))),o1 5 (.mv (ci 1))] [4,5]) .ret) .skip
def e163_8:IC:=.seq (.seqr [m1 14 0,o1 15 (.mkfn 198 [] [.t 3]),o1 16 (.calls 197 [.t 14,.t 15]),m1 4 16,o1 5 (.mv (ci 0))] [4,5]) .ret
def e163_2:IC:=.seq (.seq (.seqr [m1 6 0,o1 7 (.callr 113 [.t 6]),o1 8 (.not (.t 7)),m1 9 8,⟨some 10,.load (.t 3) 1 false,some (9,false),[]⟩,⟨some 11,.call 67 [.t 10],some (9,false),[]⟩,⟨some 12,.not (.t 11),some (9,false),[]⟩,o1 13 (.pick (.t 9) (.c (.b true)) (.t 12))] [0,3,13]) e163_5) e163_8
def e163_0:IC:=.seq (.seqr [o1 3 (.box (.t 1)),o1 4 (.mv (.c (.b false))),o1 5 (.mv (ci 0))] [0,3]) e163_2
def e163T:FnT:=⟨17,e163_0,[.t 4,.t 5]⟩
theorem e163ok:tabF Tryz.prog 163 e163T=true:=by kernel_rfl
def e118_13:IC:=.seq (.seqr [m1 27 8,o1 28 (.bin .neq (.t 27) (ci 0))] [0,1,28]) (.cond (.t 28) (.seq (.seqr [o1 4 (.mv (.c (.s []))),o1 5 (.mv (ci 1))] [4,5]) .ret) .skip)
def e118_42:IC:=.seq (.seqr [o1 48 (.faddr (.t 10) 0),o1 49 (.load (.t 48) 1 false),m1 4 49,o1 5 (.mv (ci 0))] [4,5]) .ret
def e118_36:IC:=.cond (.t 42) (.seq (.seqr [m1 45 12,o1 4 (.mv (.c (.s []))),m1 5 45] [4,5]) .ret) (.seq (.seqr [m1 47 11,m1 46 47] [1,10,29,30,31,46]) (.cond (.t 46) e118_42 .skip))
def e118_33:IC:=.block 2 (.seq (.seqr [m1 43 12,o1 44 (.bin .neq (.t 43) (ci 0)),m1 42 44] [1,10,11,12,29,30,31,42]) e118_36)
def e118_31:IC:=.seq (.seqr [o1 36 (.faddr (.t 10) 1),o1 37 (.load (.t 36) 1 false),m1 38 1,o1 39 (.callr 163 [.t 37,.t 38]),m1 35 39,o1 40 (.ext (.t 35) 0),o1 41 (.ext (.t 35) 1),m1 11 40,m1 12 41] [1,10,11,12,29,30,31]) e118_33
def e118_27:IC:=.seq (.block 1 (.seq (.seqr [o1 33 (.iaddr (.t 29) (.t 31) 87 2),o1 34 (.load (.t 33) 2 true),o1 10 (.alloc (.agg [(.s []),.nil])),o0 (.store (.t 10) (.t 34) 2)] [1,10,29,30,31]) e118_31)) (.seqr [o1 50 (.bin .add (.t 31) (ci 1)),m1 31 50] [1,29,30,31])
def e118_23:IC:=.seq (.seqr [o1 32 (.bin .lss (.t 31) (.t 30))] [1,29,30,31,32]) (.seq (.cond (.t 32) .skip (.exit 0)) e118_27)
def e118_18:IC:=.seq (.seq (.seqr [m1 29 0,o1 30 (.lenL (.t 29)),o1 31 (.mv (ci 0))] [1,29,30,31]) (.block 0 (.loop e118_23))) (.seq (.seqr [o1 4 (.mv (.c (.s [111,116,104,101,114]))),o1 5 (.mv (ci 0))] [4,5]) .ret)
def e118_10:IC:=.seq (.seq (.seqr [m1 22 6,m1 23 1,o1 24 (.callr 163 [.t 22,.t 23]),m1 21 24,o1 25 (.ext (.t 21) 0),o1 26 (.ext (.t 21) 1),m1 7 25,m1 8 26] [0,1,8]) e118_13) e118_18
def e118_8:IC:=.seq (.seqr [o1 16 (.build [(.i .i64 0),(.i .i64 0)] []),o1 17 (.msl false 217 2 [.t 16]),o1 18 (.build [(.i .i64 0),(.i .i64 0),(.b false),.nil] [(0,1,(ci 2)),(2,1,(.c (.b true))),(3,1,(.t 17))]),o1 19 (.msl false 116 4 [.t 18]),o1 20 (.msl false 113 1 [.t 19]),m1 6 20] [0,1,6]) e118_10
def e118_2:IC:=.seq (.seq (.seqr [m1 13 0,o1 14 (.callr 71 [.t 13]),o1 15 (.not (.t 14))] [0,1,15]) (.cond (.t 15) (.seq (.seqr [o1 4 (.mv (.c (.s []))),o1 5 (.mv (ci 1))] [4,5]) .ret) .skip)) e118_8
def e118_0:IC:=.seq (.seqr [o1 4 (.mv (.c (.s []))),o1 5 (.mv (ci 0))] [0,1]) e118_2
def e118T:FnT:=⟨51,e118_0,[.t 4,.t 5]⟩
theorem e118ok:tabF Tryz.prog 118 e118T=true:=by kernel_rfl
def e116_6:IC:=.seq (.seqr [o1 11 (.faddr (.t 5) 2),o1 12 (.load (.t 11) 1 false),o1 13 (.msl false 9 1 [.t 12,(.c (.s [111,116,104,101,114]))]),m1 6 13] [6]) .ret
def e116_10:IC:=.seq (.seqr [o1 23 (.faddr (.t 5) 2),o1 24 (.load (.t 23) 1 false),o1 25 (.bin .add (.c (.s [61])) (.t 24)),m1 26 7,o1 27 (.msl false 9 1 [.t 25,.t 26,(.c (.s [111,116,104,101,114]))]),m1 6 27] [6]) .ret
def e116_8:IC:=.seq (.ops [o1 15 (.load (.t 3) 16 true),m1 16 1,o1 17 (.callr 72 [.t 15,.t 16]),o1 18 (.faddr (.t 5) 2),o1 19 (.load (.t 18) 1 false),o1 20 (.callr 118 [.t 17,.t 19]),m1 14 20,o1 21 (.ext (.t 14) 0),o1 22 (.ext (.t 14) 1),m1 7 21,m1 8 22] [5,7] [[0,2],[1,2],[3,4],[2,5],[4,5],[5,6],[6,7],[6,8],[7,9],[8,10]]) e116_10
def e116_2:IC:=.seq (.seq (.seqr [m1 9 1,o1 10 (.bin .eql (.t 9) (ci 9))] [1,3,5,10]) (.cond (.t 10) e116_6 .skip)) e116_8
def e116_0:IC:=.seq (.seqr [o1 3 (.box (.t 0)),o1 5 (.box (.t 2)),o1 6 (.mv (.c .nil))] [1,3,5]) e116_2
def e116T:FnT:=⟨28,e116_0,[.t 6]⟩
theorem e116ok:tabF Tryz.prog 116 e116T=true:=by kernel_rfl
def e74_17:IC:=.seq (.seqr [m1 24 11,o1 25 (.bin .geq (.t 24) (ci 0))] [2,11,15,16,17,25]) (.cond (.t 25) (.seq (.seqr [m1 26 11,m1 8 26] [8]) .ret) .skip)
def e74_15:IC:=.seq (.seqr [m1 21 2,m1 22 10,o1 23 (.callr 117 [.t 21,.t 22]),m1 11 23] [2,11,15,16,17]) e74_17
def e74_11:IC:=.seq (.block 1 (.seq (.seqr [o1 19 (.iaddr (.t 15) (.t 17) 9 1),o1 20 (.load (.t 19) 1 false),m1 10 20] [2,10,15,16,17]) e74_15)) (.seqr [o1 27 (.bin .add (.t 17) (ci 1)),m1 17 27] [2,15,16,17])
def e74_7:IC:=.seq (.seqr [o1 18 (.bin .lss (.t 17) (.t 16))] [2,15,16,17,18]) (.seq (.cond (.t 18) .skip (.exit 0)) e74_11)
def e74_2:IC:=.seq (.seq (.seqr [o1 12 (.load (.t 4) 16 true),m1 13 1,o1 14 (.load (.t 7) 5 true),o1 15 (.callr 116 [.t 12,.t 13,.t 14]),o1 16 (.lenL (.t 15)),o1 17 (.mv (ci 0))] [2,15,16,17]) (.block 0 (.loop e74_7))) (.seq (.seqr [o1 8 (.mv (ci (-1)))] [8]) .ret)
def e74_0:IC:=.seq (.seqr [o1 4 (.box (.t 0)),o1 7 (.box (.t 3)),o1 8 (.mv (ci 0))] [1,2,4,7]) e74_2
def e74T:FnT:=⟨28,e74_0,[.t 8]⟩
theorem e74ok:tabF Tryz.prog 74 e74T=true:=by kernel_rfl
def e49_21:IC:=.seq (.seqr [o1 37 (.faddr (.t 4) 0),o1 38 (.load (.t 37) 1 false),o1 39 (.load (.t 8) 5 true),o1 40 (.callr 73 [.t 38,.t 39]),o1 41 (.not (.t 40)),m1 36 41] [3,4,8,36]) (.cond (.t 36) (.seq (.seqr [o1 6 (.mv (ci 0)),o1 7 (.mv (ci 11))] [6,7]) .ret) .skip)
def e49_16:IC:=.seq (.seqr [m1 34 9,o1 35 (.not (.t 34)),m1 33 35] [3,4,8,33]) (.cond (.t 33) (.seq (.seqr [o1 6 (.mv (ci 0)),o1 7 (.mv (ci 12))] [6,7]) .ret) e49_21)
def e49_11:IC:=.seq (.seqr [o1 27 (.load (.t 3) 16 true),o1 28 (.faddr (.t 4) 0),o1 29 (.load (.t 28) 1 false),o1 30 (.callr 72 [.t 27,.t 29]),o1 31 (.callr 71 [.t 30]),o1 32 (.not (.t 31)),m1 26 32] [3,4,8,9,26]) (.cond (.t 26) (.seq (.seqr [o1 6 (.mv (ci 0)),o1 7 (.mv (ci 18))] [6,7]) .ret) e49_16)
def e49_41:IC:=.seqr [m1 49 10,o1 50 (.faddr (.t 12) 0),o1 51 (.load (.t 50) 1 false),o1 52 (.msl true 9 1 [.t 51]),o1 53 (.app (.t 49) (.t 52) 9 1),m1 10 53] [3,4,8,10,43,44,45]
def e49_37:IC:=.seq (.block 2 (.seq (.seqr [o1 47 (.iaddr (.t 43) (.t 45) 75 2),o1 48 (.load (.t 47) 2 true),o1 12 (.alloc (.agg [(.s []),.nil])),o0 (.store (.t 12) (.t 48) 2)] [3,4,8,10,12,43,44,45]) e49_41)) (.seqr [o1 54 (.bin .add (.t 45) (ci 1)),m1 45 54] [3,4,8,10,43,44,45])
def e49_33:IC:=.seq (.seqr [o1 46 (.bin .lss (.t 45) (.t 44))] [3,4,8,10,43,44,45,46]) (.seq (.cond (.t 46) .skip (.exit 1)) e49_37)
def e49_45:IC:=.seq (.seq (.seqr [m1 61 13,o1 62 (.bin .lss (.t 61) (ci 0))] [13,62]) (.cond (.t 62) (.seq (.seqr [o1 6 (.mv (ci 0)),o1 7 (.mv (ci 13))] [6,7]) .ret) .skip)) (.seq (.seqr [m1 63 13,m1 6 63,o1 7 (.mv (ci 0))] [6,7]) .ret)
def e49_43:IC:=.seq (.seqr [o1 55 (.load (.t 3) 16 true),o1 56 (.faddr (.t 4) 0),o1 57 (.load (.t 56) 1 false),m1 58 10,o1 59 (.load (.t 8) 5 true),o1 60 (.callr 74 [.t 55,.t 57,.t 58,.t 59]),m1 13 60] [13]) e49_45
def e49_28:IC:=.seq (.seq (.seqr [o1 42 (.faddr (.t 4) 4),o1 43 (.load (.t 42) 1 false),o1 44 (.lenL (.t 43)),o1 45 (.mv (ci 0))] [3,4,8,10,43,44,45]) (.block 1 (.loop e49_33))) e49_43
def e49_4:IC:=.seq (.block 0 (.seq (.seqr [o1 22 (.faddr (.t 4) 0),o1 23 (.load (.t 22) 1 false),o1 24 (.call 60 [.t 23]),o1 25 (.not (.t 24)),m1 21 25] [3,4,8,9,21]) (.cond (.t 21) (.seq (.seqr [o1 6 (.mv (ci 0)),o1 7 (.mv (ci 1))] [6,7]) .ret) e49_11))) (.seq (.seqr [o1 10 (.mv (.c .nil))] [3,4,8,10]) e49_28)
def e49_2:IC:=.seq (.seqr [m1 15 2,o1 16 (.faddr (.t 4) 2),o1 17 (.load (.t 16) 1 false),o1 18 (.callr 50 [.t 15,.t 17]),m1 14 18,o1 19 (.ext (.t 14) 0),o1 20 (.ext (.t 14) 1),o1 8 (.alloc (.agg [(.s []),(.i .i64 0),(.s []),(.i .i64 0),.nil])),o0 (.store (.t 8) (.t 19) 5),m1 9 20] [3,4,8,9]) e49_4
def e49_0:IC:=.seq (.seqr [o1 3 (.box (.t 0)),o1 4 (.box (.t 1)),o1 6 (.mv (ci 0)),o1 7 (.mv (ci 0))] [2,3,4]) e49_2
def e49T:FnT:=⟨64,e49_0,[.t 6,.t 7]⟩
theorem e49ok:tabF Tryz.prog 49 e49T=true:=by kernel_rfl
def e79_9:IC:=.seq (.seqr [o1 8 (.faddr (.t 3) 1),o1 9 (.load (.t 8) 1 false),o1 10 (.bin .neq (.t 9) (ci 4)),m1 4 10] [4]) .ret
def e79_14:IC:=.seq (.seqr [o1 13 (.faddr (.t 3) 1),o1 14 (.load (.t 13) 1 false),o1 15 (.bin .eql (.t 14) (ci 3)),m1 4 15] [4]) .ret
def e79_19:IC:=.seq (.seqr [o1 18 (.faddr (.t 3) 1),o1 19 (.load (.t 18) 1 false),o1 20 (.bin .eql (.t 19) (ci 4)),m1 4 20] [4]) .ret
def e79_16:IC:=.seq (.seqr [o1 17 (.bin .eql (.t 5) (ci 6)),m1 16 17] [3,16]) (.cond (.t 16) e79_19 .skip)
def e79_11:IC:=.seq (.seqr [o1 12 (.bin .eql (.t 5) (ci 5)),m1 11 12] [3,5,11]) (.cond (.t 11) e79_14 e79_16)
def e79_5:IC:=.block 0 (.seq (.seqr [o1 7 (.bin .eql (.t 5) (ci 2)),m1 6 7] [3,5,6]) (.cond (.t 6) e79_9 e79_11))
def e79_21:IC:=.seq (.seqr [o1 21 (.faddr (.t 3) 1),o1 22 (.load (.t 21) 1 false),o1 23 (.bin .eql (.t 22) (ci 2)),m1 4 23] [4]) .ret
def e79_0:IC:=.seq (.seqr [o1 3 (.box (.t 1)),o1 4 (.mv (.c (.b false)))] [0,3]) (.seq (.seq (.seqr [m1 5 0] [3,5]) e79_5) e79_21)
def e79T:FnT:=⟨24,e79_0,[.t 4]⟩
theorem e79ok:tabF Tryz.prog 79 e79T=true:=by kernel_rfl
def e51_21:IC:=.seq (.seqr [o1 31 (.load (.t 3) 16 true),o1 32 (.faddr (.t 5) 2),o1 33 (.load (.t 32) 1 false),o1 34 (.faddr (.t 4) 3),o1 35 (.load (.t 34) 1 false),o1 36 (.callr 47 [.t 31,.t 33,.t 35]),o1 37 (.ext (.t 36) 0),o1 38 (.ext (.t 36) 1),m1 6 37,m1 7 38] [6,7]) .ret
def e51_26:IC:=.seq (.seqr [o1 41 (.load (.t 3) 16 true),o1 42 (.faddr (.t 4) 3),o1 43 (.load (.t 42) 1 false),o1 44 (.faddr (.t 5) 2),o1 45 (.load (.t 44) 1 false),o1 46 (.callr 80 [.t 41,.t 43,.t 45]),o1 47 (.ext (.t 46) 0),o1 48 (.ext (.t 46) 1),m1 6 47,m1 7 48] [6,7]) .ret
def e51_31:IC:=.seq (.seqr [o1 51 (.load (.t 3) 16 true),o1 52 (.faddr (.t 4) 3),o1 53 (.load (.t 52) 1 false),o1 54 (.faddr (.t 5) 3),o1 55 (.load (.t 54) 1 false),o1 56 (.callr 81 [.t 51,.t 53,.t 55]),o1 57 (.ext (.t 56) 0),o1 58 (.ext (.t 56) 1),m1 6 57,m1 7 58] [6,7]) .ret
def e51_36:IC:=.seq (.seqr [o1 61 (.load (.t 3) 16 true),o1 62 (.faddr (.t 4) 3),o1 63 (.load (.t 62) 1 false),o1 64 (.faddr (.t 5) 4),o1 65 (.load (.t 64) 1 false),o1 66 (.callr 82 [.t 61,.t 63,.t 65]),o1 67 (.ext (.t 66) 0),o1 68 (.ext (.t 66) 1),m1 6 67,m1 7 68] [6,7]) .ret
def e51_33:IC:=.seq (.seqr [o1 60 (.bin .eql (.t 28) (ci 6)),m1 59 60] [3,4,5,59]) (.cond (.t 59) e51_36 .skip)
def e51_28:IC:=.seq (.seqr [o1 50 (.bin .eql (.t 28) (ci 5)),m1 49 50] [3,4,5,28,49]) (.cond (.t 49) e51_31 e51_33)
def e51_23:IC:=.seq (.seqr [o1 40 (.bin .eql (.t 28) (ci 4)),m1 39 40] [3,4,5,28,39]) (.cond (.t 39) e51_26 e51_28)
def e51_17:IC:=.block 0 (.seq (.seqr [o1 30 (.bin .eql (.t 28) (ci 3)),m1 29 30] [3,4,5,28,29]) (.cond (.t 29) e51_21 e51_23))
def e51_42:IC:=.seq (.seqr [o1 72 (.faddr (.t 5) 2),o1 73 (.load (.t 72) 1 false),m1 6 73,o1 7 (.mv (ci 0))] [6,7]) .ret
def e51_46:IC:=.seq (.seq (.seqr [m1 77 8,o1 78 (.bin .eql (.t 77) (.c (.s [])))] [8,78]) (.cond (.t 78) (.seq (.seqr [o1 6 (.mv (.c (.s []))),o1 7 (.mv (ci 2))] [6,7]) .ret) .skip)) (.seq (.seqr [m1 79 8,m1 6 79,o1 7 (.mv (ci 0))] [6,7]) .ret)
def e51_44:IC:=.seq (.seqr [o1 74 (.faddr (.t 5) 3),o1 75 (.load (.t 74) 1 false),o1 76 (.call 83 [.t 75]),m1 8 76] [8]) e51_46
def e51_38:IC:=.seq (.seq (.seqr [o1 69 (.faddr (.t 5) 1),o1 70 (.load (.t 69) 1 false),o1 71 (.bin .neq (.t 70) (ci 3))] [5,71]) (.cond (.t 71) e51_42 .skip)) e51_44
def e51_14:IC:=.seq (.seq (.seqr [o1 27 (.faddr (.t 4) 0),o1 28 (.load (.t 27) 1 false)] [3,4,5,28]) e51_17) e51_38
def e51_8:IC:=.seq (.seq (.seqr [o1 17 (.load (.t 5) 5 true),o1 18 (.callr 78 [.t 17]),o1 19 (.not (.t 18)),m1 20 19,⟨some 21,.faddr (.t 4) 0,some (20,false),[]⟩,⟨some 22,.load (.t 21) 1 false,some (20,false),[]⟩,⟨some 23,.load (.t 5) 5 true,some (20,false),[]⟩,⟨some 24,.callr 79 [.t 22,.t 23],some (20,false),[]⟩,⟨some 25,.not (.t 24),some (20,false),[]⟩,o1 26 (.pick (.t 20) (.c (.b true)) (.t 25))] [3,4,5,26]) (.cond (.t 26) (.seq (.seqr [o1 6 (.mv (.c (.s []))),o1 7 (.mv (ci 11))] [6,7]) .ret) .skip)) e51_14
def e51_2:IC:=.seq (.seq (.seqr [o1 9 (.faddr (.t 4) 0),o1 10 (.load (.t 9) 1 false),o1 11 (.bin .lss (.t 10) (ci 2)),m1 12 11,⟨some 13,.faddr (.t 4) 0,some (12,false),[]⟩,⟨some 14,.load (.t 13) 1 false,some (12,false),[]⟩,⟨some 15,.bin .gtr (.t 14) (ci 6),some (12,false),[]⟩,o1 16 (.pick (.t 12) (.c (.b true)) (.t 15))] [3,4,5,16]) (.cond (.t 16) (.seq (.seqr [o1 6 (.mv (.c (.s []))),o1 7 (.mv (ci 1))] [6,7]) .ret) .skip)) e51_8
def e51_0:IC:=.seq (.seqr [o1 3 (.box (.t 0)),o1 4 (.box (.t 1)),o1 5 (.box (.t 2)),o1 6 (.mv (.c (.s []))),o1 7 (.mv (ci 0))] [3,4,5]) e51_2
def e51T:FnT:=⟨80,e51_0,[.t 6,.t 7]⟩
theorem e51ok:tabF Tryz.prog 51 e51T=true:=by kernel_rfl
def e30_8:IC:=.seqr [m1 42 0,o1 43 (.faddr (.t 4) 1),o1 44 (.load (.t 43) 1 false),o1 45 (.calls 45 [.t 42,.t 44])] []
def e30_12:IC:=.seqr [m1 48 0,m1 49 0,o1 50 (.nilck (.t 49)),o1 51 (.faddr (.t 50) 2),o1 52 (.load (.t 51) 16 true),m1 53 2,o1 54 (.callr 47 [.t 52,.t 53,(.c (.s []))]),o1 55 (.ext (.t 54) 0),o1 56 (.ext (.t 54) 1),o1 57 (.calls 46 [.t 48,.t 55,.t 56])] []
def e30_16:IC:=.seqr [m1 60 0,o1 61 (.load (.t 4) 6 true),m1 62 2,o1 63 (.calls 48 [.t 60,.t 61,.t 62])] []
def e30_21:IC:=.seq (.seqr [o1 66 (.bin .eql (.t 13) (ci 8)),m1 64 66] [0,2,4,13,64]) (.cond (.t 64) .skip (.seqr [o1 67 (.bin .eql (.t 13) (ci 9)),m1 64 67] [0,2,4,64]))
def e30_32:IC:=.seq (.seqr [m1 83 0,m1 84 7,o1 85 (.nilck (.t 83)),o1 86 (.faddr (.t 85) 20),o0 (.store (.t 86) (.t 84) 1)] []) .ret
def e30_38:IC:=.seq (.ops [m1 91 0,o1 92 (.nilck (.t 91)),o1 93 (.faddr (.t 92) 18),o1 94 (.load (.t 93) 1 false),o1 95 (.faddr (.t 4) 2),o1 96 (.load (.t 95) 1 false),o1 97 (.callr 50 [.t 94,.t 96]),m1 90 97,o1 98 (.ext (.t 90) 0),o1 99 (.ext (.t 90) 1),o1 8 (.alloc (.agg [(.s []),(.i .i64 0),(.s []),(.i .i64 0),.nil])),o0 (.store (.t 8) (.t 98) 5),m1 9 99] [0,4,6,8] [[0,1],[1,2],[2,3],[4,5],[3,6],[5,6],[6,7],[7,8],[7,9],[3,11],[5,11],[6,11],[8,11],[10,11],[9,12]]) (.seqr [o1 100 (.faddr (.t 8) 2),o1 101 (.load (.t 100) 1 false),m1 2 101] [0,2,4,6])
def e30_41:IC:=.seqr [m1 102 0,o1 103 (.faddr (.t 4) 4),o1 104 (.load (.t 103) 1 false),m1 105 6,o1 106 (.iaddr (.t 104) (.t 105) 75 2),o1 107 (.faddr (.t 106) 1),o1 108 (.load (.t 107) 1 false),m1 109 2,o1 110 (.calls 16 [.t 102,.t 108,.t 109])] []
def e30_34:IC:=.seq (.seq (.seqr [o1 87 (.faddr (.t 4) 0),o1 88 (.load (.t 87) 1 false),o1 89 (.bin .neq (.t 88) (ci 9))] [0,2,4,6,89]) (.cond (.t 89) e30_38 .skip)) e30_41
def e30_28:IC:=.seq (.seq (.seqr [m1 81 7,o1 82 (.bin .neq (.t 81) (ci 0))] [0,2,4,6,7,82]) (.cond (.t 82) e30_32 .skip)) e30_34
def e30_26:IC:=.seq (.ops [m1 69 0,o1 70 (.nilck (.t 69)),o1 71 (.faddr (.t 70) 2),o1 72 (.load (.t 71) 16 true),o1 73 (.load (.t 4) 6 true),m1 74 0,o1 75 (.nilck (.t 74)),o1 76 (.faddr (.t 75) 18),o1 77 (.load (.t 76) 1 false),o1 78 (.callr 49 [.t 72,.t 73,.t 77]),m1 68 78,o1 79 (.ext (.t 68) 0),o1 80 (.ext (.t 68) 1),m1 6 79,m1 7 80] [0,2,4,6,7] [[0,1],[1,2],[2,3],[5,6],[6,7],[7,8],[3,9],[4,9],[8,9],[9,10],[10,11],[10,12],[11,13],[12,14]]) e30_28
def e30_48:IC:=.seq (.seqr [m1 26 0,o1 27 (.nilck (.t 26)),o1 28 (.faddr (.t 27) 20),o0 (.store (.t 28) (ci 12) 1)] []) .ret
def e30_50:IC:=.opxe [m1 29 0,m1 30 0,o1 31 (.nilck (.t 30)),o1 32 (.faddr (.t 31) 2),o1 33 (.load (.t 32) 16 true),o1 34 (.load (.t 4) 6 true),o1 35 (.load (.t 10) 5 true),o1 36 (.callr 51 [.t 33,.t 34,.t 35]),o1 37 (.ext (.t 36) 0),o1 38 (.ext (.t 36) 1)] (o1 39 (.calls 46 [.t 29,.t 37,.t 38])) [] [[1,2],[2,3],[3,4],[4,7],[5,7],[6,7],[7,8],[7,9],[0,10],[1,2,3,4,7,10],[2,3,4,7,10],[3,4,7,10],[4,7,10],[5,7,10],[6,7,10],[7,10],[8,10],[9,10]]
def e30_44:IC:=.seq (.seq (.seqr [m1 24 11,o1 25 (.not (.t 24))] [0,4,10,25]) (.cond (.t 25) e30_48 .skip)) e30_50
def e30_42:IC:=.seq (.ops [m1 15 0,o1 16 (.nilck (.t 15)),o1 17 (.faddr (.t 16) 18),o1 18 (.load (.t 17) 1 false),o1 19 (.faddr (.t 4) 2),o1 20 (.load (.t 19) 1 false),o1 21 (.callr 50 [.t 18,.t 20]),m1 14 21,o1 22 (.ext (.t 14) 0),o1 23 (.ext (.t 14) 1),o1 10 (.alloc (.agg [(.s []),(.i .i64 0),(.s []),(.i .i64 0),.nil])),o0 (.store (.t 10) (.t 22) 5),m1 11 23] [0,4,10,11] [[0,1],[1,2],[2,3],[4,5],[3,6],[5,6],[6,7],[7,8],[7,9],[3,11],[5,11],[6,11],[8,11],[10,11],[9,12]]) e30_44
def e30_17:IC:=.seq (.seq (.seqr [o1 65 (.bin .eql (.t 13) (ci 7)),m1 64 65] [0,2,4,13,64]) (.cond (.t 64) .skip e30_21)) (.cond (.t 64) e30_26 e30_42)
def e30_13:IC:=.seq (.seqr [o1 59 (.bin .eql (.t 13) (ci 11)),m1 58 59] [0,2,4,13,58]) (.cond (.t 58) e30_16 e30_17)
def e30_9:IC:=.seq (.seqr [o1 47 (.bin .eql (.t 13) (ci 10)),m1 46 47] [0,2,4,13,46]) (.cond (.t 46) e30_12 e30_13)
def e30_4:IC:=.block 0 (.seq (.seqr [o1 41 (.bin .eql (.t 13) (ci 1)),m1 40 41] [0,2,4,13,40]) (.cond (.t 40) e30_8 e30_9))
def e30_0:IC:=.seq (.seqr [o1 4 (.box (.t 1))] [0,2,4]) (.seq (.seqr [o1 12 (.faddr (.t 4) 0),o1 13 (.load (.t 12) 1 false)] [0,2,4,13]) e30_4)
def e30T:FnT:=⟨111,e30_0,[]⟩
theorem e30ok:tabF Tryz.prog 30 e30T=true:=by kernel_rfl
def e16_16:IC:=.seqr [m1 19 0,o1 20 (.load (.t 7) 6 true),m1 21 2,o1 22 (.calls 30 [.t 19,.t 20,.t 21])] [0,2,8,9,10]
def e16_12:IC:=.seq (.seq (.seqr [m1 14 0,o1 15 (.nilck (.t 14)),o1 16 (.faddr (.t 15) 20),o1 17 (.load (.t 16) 1 false),o1 18 (.bin .neq (.t 17) (ci 0))] [0,2,7,8,9,10,18]) (.cond (.t 18) .ret .skip)) e16_16
def e16_8:IC:=.seq (.block 1 (.seq (.seqr [o1 12 (.iaddr (.t 8) (.t 10) 43 6),o1 13 (.load (.t 12) 6 true),o1 7 (.alloc (.agg [(.i .i64 0),(.s []),(.s []),(.s []),.nil,.nil])),o0 (.store (.t 7) (.t 13) 6)] [0,2,7,8,9,10]) e16_12)) (.seqr [o1 23 (.bin .add (.t 10) (ci 1)),m1 10 23] [0,2,8,9,10])
def e16_4:IC:=.seq (.seqr [o1 11 (.bin .lss (.t 10) (.t 9))] [0,2,8,9,10,11]) (.seq (.cond (.t 11) .skip (.exit 0)) e16_8)
def e16_0:IC:=.seq (.seqr [m1 8 1,o1 9 (.lenL (.t 8)),o1 10 (.mv (ci 0))] [0,2,8,9,10]) (.block 0 (.loop e16_4))
def e16T:FnT:=⟨24,e16_0,[]⟩
theorem e16ok:tabF Tryz.prog 16 e16T=true:=by kernel_rfl
def e9_16:IC:=.seq (.ops [m1 27 10,o1 28 (.nilck (.t 27)),o1 29 (.faddr (.t 28) 20),o1 30 (.load (.t 29) 1 false),o1 8 (.mv (.c (.s []))),m1 9 30] [8,9] [[0,1],[1,2],[2,3],[3,5]]) .ret
def e9_18:IC:=.seq (.seqr [m1 31 10,o1 32 (.nilck (.t 31)),o1 33 (.faddr (.t 32) 0),o1 34 (.calls 17 [.t 33]),m1 8 34,o1 9 (.mv (ci 0))] [8,9]) .ret
def e9_12:IC:=.seq (.seq (.seqr [m1 22 10,o1 23 (.nilck (.t 22)),o1 24 (.faddr (.t 23) 20),o1 25 (.load (.t 24) 1 false),o1 26 (.bin .neq (.t 25) (ci 0))] [10,26]) (.cond (.t 26) e9_16 .skip)) e9_18
def e9_8:IC:=.seq (.seqr [o1 14 (.load (.t 4) 16 true),m1 15 2,m1 16 3,o1 17 (.build [.np,.nil,(.s []),(.s []),(.s []),.nil,.nil,(.s []),(.s []),(.s []),(.s []),(.i .i64 0),(.i .i64 0),.nil,.nil,.nil,.nil,.nil,.nil,(.b false),(.i .i64 0)] [(2,16,(.t 14)),(18,1,(.t 15)),(19,1,(.t 16))]),o1 18 (.mkm (.tbx 58) [.t 17]),m1 10 18] [1,10]) (.seq (.seqr [m1 19 10,m1 20 1,o1 21 (.calls 16 [.t 19,.t 20,(.c (.s []))])] [10]) e9_12)
def e9_2:IC:=.seq (.seq (.seqr [m1 11 1,o1 12 (.callr 15 [.t 11]),o1 13 (.not (.t 12))] [1,2,3,4,13]) (.cond (.t 13) (.seq (.seqr [o1 8 (.mv (.c (.s []))),o1 9 (.mv (ci 1))] [8,9]) .ret) .skip)) e9_8
def e9_0:IC:=.seq (.seqr [o1 4 (.box (.t 0)),o1 8 (.mv (.c (.s []))),o1 9 (.mv (ci 0))] [1,2,3,4]) e9_2
def e9T:FnT:=⟨35,e9_0,[.t 8,.t 9]⟩
theorem e9ok:tabF Tryz.prog 9 e9T=true:=by kernel_rfl
def e10_10:IC:=.seq (.seqr [o1 21 (.load (.t 4) 16 true),m1 22 10,m1 23 2,m1 24 3,o1 25 (.callr 9 [.t 21,.t 22,.t 23,.t 24]),o1 26 (.ext (.t 25) 0),o1 27 (.ext (.t 25) 1),m1 8 26,m1 9 27] [8,9]) .ret
def e10_4:IC:=.seq (.seq (.seqr [m1 19 12,o1 20 (.bin .neq (.t 19) (ci 0))] [2,3,4,10,20]) (.cond (.t 20) (.seq (.seqr [o1 8 (.mv (.c (.s []))),o1 9 (.mv (ci 3))] [8,9]) .ret) .skip)) e10_10
def e10_2:IC:=.seq (.seqr [m1 14 1,o1 15 (.call 18 [.t 14]),m1 13 15,o1 16 (.ext (.t 13) 0),o1 17 (.ext (.t 13) 1),o1 18 (.ext (.t 13) 2),o1 11 (.alloc (.agg [(.i .i64 0),(.i .i64 0),(.i .i64 0)])),m1 10 16,o0 (.store (.t 11) (.t 17) 3),m1 12 18] [2,3,4,10,12]) e10_4
def e10_0:IC:=.seq (.seqr [o1 4 (.box (.t 0)),o1 8 (.mv (.c (.s []))),o1 9 (.mv (ci 0))] [1,2,3,4]) e10_2
def e10T:FnT:=⟨28,e10_0,[.t 8,.t 9]⟩
theorem e10ok:tabF Tryz.prog 10 e10T=true:=by kernel_rfl
def e4_8:IC:=.seq (.seqr [m1 23 3,o1 24 (.bin .eql (.t 23) (ci 0)),m1 25 24,⟨some 26,.mv (.t 2),some (25,true),[]⟩,⟨some 27,.bin .eql (.t 26) (.c (.s [49,44,48,48,48,32,102,105,108,101,115])),some (25,true),[]⟩,o1 28 (.pick (.t 25) (.t 27) (.c (.b false))),m1 29 28,⟨some 30,.mv (.t 5),some (29,true),[]⟩,⟨some 31,.bin .eql (.t 30) (ci 0),some (29,true),[]⟩,o1 32 (.pick (.t 29) (.t 31) (.c (.b false))),m1 33 32,⟨some 34,.mv (.t 4),some (33,true),[]⟩,⟨some 35,.bin .eql (.t 34) (.c (.s [226,129,168,97,226,129,169])),some (33,true),[]⟩,o1 36 (.pick (.t 33) (.t 35) (.c (.b false))),m1 0 36] [0]) .ret
def e4_6:IC:=.seq (.seqr [o1 17 (.load (.t 1) 16 true),o1 18 (.build [(.s []),(.i .i64 0),(.s []),(.i .i64 0),.nil] [(0,1,(.c (.s [120]))),(1,1,(ci 1)),(2,1,(.c (.s [97])))]),o1 19 (.msl false 47 5 [.t 18]),o1 20 (.callr 10 [.t 17,(.c (.s [123,120,125])),.t 19,(.c (.b true))]),m1 16 20,o1 21 (.ext (.t 16) 0),o1 22 (.ext (.t 16) 1),m1 4 21,m1 5 22] [2,3,4,5]) e4_8
def e4_4:IC:=.seq (.seqr [o1 9 (.load (.t 1) 16 true),o1 10 (.build [(.s []),(.i .i64 0),(.s []),(.i .i64 0),.nil] [(0,1,(.c (.s [110]))),(1,1,(ci 2)),(2,1,(.c (.s [49,48,48,48])))]),o1 11 (.build [(.s []),(.i .i64 0),(.s []),(.i .i64 0),.nil] [(0,1,(.c (.s [120]))),(1,1,(ci 1)),(2,1,(.c (.s [102,105,108,101,115])))]),o1 12 (.msl false 47 5 [.t 10,.t 11]),o1 13 (.callr 10 [.t 9,(.c (.s [123,110,44,32,112,108,117,114,97,108,44,32,61,49,32,123,60,98,62,35,60,47,98,62,125,32,111,116,104,101,114,32,123,35,32,123,120,125,125,125])),.t 12,(.c (.b false))]),m1 8 13,o1 14 (.ext (.t 8) 0),o1 15 (.ext (.t 8) 1),m1 2 14,m1 3 15] [1,2,3]) e4_6
def e4_2:IC:=.seq (.seqr [o1 6 (.build [(.s []),(.s []),(.s []),(.s []),(.i .i64 0),(.i .i64 0)] [(0,1,(.c (.s [46]))),(1,1,(.c (.s [44]))),(2,1,(.c (.s [45]))),(4,1,(ci 3))]),o1 7 (.build [(.s []),(.s []),(.s []),.nil,.nil,(.s []),(.s []),(.s []),(.s []),(.i .i64 0),(.i .i64 0),.nil,.nil,.nil,.nil,.nil] [(5,6,(.t 6))]),o1 1 (.alloc (.agg [(.s []),(.s []),(.s []),.nil,.nil,(.s []),(.s []),(.s []),(.s []),(.i .i64 0),(.i .i64 0),.nil,.nil,.nil,.nil,.nil])),o0 (.store (.t 1) (.t 7) 16)] [1]) e4_4
def e4_0:IC:=.seq (.seqr [o1 0 (.mv (.c (.b false)))] []) e4_2
def e4T:FnT:=⟨37,e4_0,[.t 0]⟩
theorem e4ok:tabF Tryz.prog 4 e4T=true:=by kernel_rfl
noncomputable def evA:FuncId->Option FnT:=(tnode 102 (tnode 65 (tnode 46 (tnode 18 (tnode 10 (tnode 9 (tleaf 4 e4T) (tleaf 9 e9T)) (tnode 15 (tleaf 10 e10T) (tnode 16 (tleaf 15 e15T) (tleaf 16 e16T)))) (tnode 31 (tnode 29 (tleaf 18 e18T) (tnode 30 (tleaf 29 e29T) (tleaf 30 e30T))) (tnode 43 (tleaf 31 e31T) (tnode 45 (tleaf 43 e43T) (tleaf 45 e45T))))) (tnode 53 (tnode 50 (tnode 47 (tleaf 46 e46T) (tnode 49 (tleaf 47 e47T) (tleaf 49 e49T))) (tnode 51 (tleaf 50 e50T) (tnode 52 (tleaf 51 e51T) (tleaf 52 e52T)))) (tnode 61 (tnode 59 (tleaf 53 e53T) (tnode 60 (tleaf 59 e59T) (tleaf 60 e60T))) (tnode 63 (tleaf 61 e61T) (tnode 64 (tleaf 63 e63T) (tleaf 64 e64T)))))) (tnode 79 (tnode 73 (tnode 70 (tnode 66 (tleaf 65 e65T) (tnode 67 (tleaf 66 e66T) (tleaf 67 e67T))) (tnode 71 (tleaf 70 e70T) (tnode 72 (tleaf 71 e71T) (tleaf 72 e72T)))) (tnode 76 (tnode 74 (tleaf 73 e73T) (tnode 75 (tleaf 74 e74T) (tleaf 75 e75T))) (tnode 77 (tleaf 76 e76T) (tnode 78 (tleaf 77 e77T) (tleaf 78 e78T))))) (tnode 89 (tnode 86 (tnode 84 (tleaf 79 e79T) (tnode 85 (tleaf 84 e84T) (tleaf 85 e85T))) (tnode 87 (tleaf 86 e86T) (tnode 88 (tleaf 87 e87T) (tleaf 88 e88T)))) (tnode 98 (tnode 90 (tleaf 89 e89T) (tnode 96 (tleaf 90 e90T) (tleaf 96 e96T))) (tnode 99 (tleaf 98 e98T) (tnode 100 (tleaf 99 e99T) (tleaf 100 e100T))))))) (tnode 155 (tnode 134 (tnode 116 (tnode 110 (tnode 103 (tleaf 102 e102T) (tnode 104 (tleaf 103 e103T) (tleaf 104 e104T))) (tnode 111 (tleaf 110 e110T) (tnode 113 (tleaf 111 e111T) (tleaf 113 e113T)))) (tnode 131 (tnode 117 (tleaf 116 e116T) (tnode 118 (tleaf 117 e117T) (tleaf 118 e118T))) (tnode 132 (tleaf 131 e131T) (tnode 133 (tleaf 132 e132T) (tleaf 133 e133T))))) (tnode 142 (tnode 138 (tnode 135 (tleaf 134 e134T) (tnode 136 (tleaf 135 e135T) (tleaf 136 e136T))) (tnode 139 (tleaf 138 e138T) (tnode 140 (tleaf 139 e139T) (tleaf 140 e140T)))) (tnode 145 (tnode 143 (tleaf 142 e142T) (tnode 144 (tleaf 143 e143T) (tleaf 144 e144T))) (tnode 146 (tleaf 145 e145T) (tnode 154 (tleaf 146 e146T) (tleaf 154 e154T)))))) (tnode 199 (tnode 181 (tnode 161 (tnode 159 (tleaf 155 e155T) (tnode 160 (tleaf 159 e159T) (tleaf 160 e160T))) (tnode 163 (tleaf 161 e161T) (tnode 180 (tleaf 163 e163T) (tleaf 180 e180T)))) (tnode 196 (tnode 182 (tleaf 181 e181T) (tnode 194 (tleaf 182 e182T) (tleaf 194 e194T))) (tnode 197 (tleaf 196 e196T) (tnode 198 (tleaf 197 e197T) (tleaf 198 e198T))))) (tnode 226 (tnode 213 (tnode 200 (tleaf 199 e199T) (tnode 212 (tleaf 200 e200T) (tleaf 212 e212T))) (tnode 224 (tleaf 213 e213T) (tnode 225 (tleaf 224 e224T) (tleaf 225 e225T)))) (tnode 243 (tnode 237 (tleaf 226 e226T) (tnode 242 (tleaf 237 e237T) (tleaf 242 e242T))) (tnode 244 (tleaf 243 e243T) (tnode 255 (tleaf 244 e244T) (tleaf 255 e255T))))))))
theorem evA_ok:TabOk Tryz.prog evA:=(.node (.node (.node (.node (.node (.node (.leaf e4ok) (.leaf e9ok)) (.node (.leaf e10ok) (.node (.leaf e15ok) (.leaf e16ok)))) (.node (.node (.leaf e18ok) (.node (.leaf e29ok) (.leaf e30ok))) (.node (.leaf e31ok) (.node (.leaf e43ok) (.leaf e45ok))))) (.node (.node (.node (.leaf e46ok) (.node (.leaf e47ok) (.leaf e49ok))) (.node (.leaf e50ok) (.node (.leaf e51ok) (.leaf e52ok)))) (.node (.node (.leaf e53ok) (.node (.leaf e59ok) (.leaf e60ok))) (.node (.leaf e61ok) (.node (.leaf e63ok) (.leaf e64ok)))))) (.node (.node (.node (.node (.leaf e65ok) (.node (.leaf e66ok) (.leaf e67ok))) (.node (.leaf e70ok) (.node (.leaf e71ok) (.leaf e72ok)))) (.node (.node (.leaf e73ok) (.node (.leaf e74ok) (.leaf e75ok))) (.node (.leaf e76ok) (.node (.leaf e77ok) (.leaf e78ok))))) (.node (.node (.node (.leaf e79ok) (.node (.leaf e84ok) (.leaf e85ok))) (.node (.leaf e86ok) (.node (.leaf e87ok) (.leaf e88ok)))) (.node (.node (.leaf e89ok) (.node (.leaf e90ok) (.leaf e96ok))) (.node (.leaf e98ok) (.node (.leaf e99ok) (.leaf e100ok))))))) (.node (.node (.node (.node (.node (.leaf e102ok) (.node (.leaf e103ok) (.leaf e104ok))) (.node (.leaf e110ok) (.node (.leaf e111ok) (.leaf e113ok)))) (.node (.node (.leaf e116ok) (.node (.leaf e117ok) (.leaf e118ok))) (.node (.leaf e131ok) (.node (.leaf e132ok) (.leaf e133ok))))) (.node (.node (.node (.leaf e134ok) (.node (.leaf e135ok) (.leaf e136ok))) (.node (.leaf e138ok) (.node (.leaf e139ok) (.leaf e140ok)))) (.node (.node (.leaf e142ok) (.node (.leaf e143ok) (.leaf e144ok))) (.node (.leaf e145ok) (.node (.leaf e146ok) (.leaf e154ok)))))) (.node (.node (.node (.node (.leaf e155ok) (.node (.leaf e159ok) (.leaf e160ok))) (.node (.leaf e161ok) (.node (.leaf e163ok) (.leaf e180ok)))) (.node (.node (.leaf e181ok) (.node (.leaf e182ok) (.leaf e194ok))) (.node (.leaf e196ok) (.node (.leaf e197ok) (.leaf e198ok))))) (.node (.node (.node (.leaf e199ok) (.node (.leaf e200ok) (.leaf e212ok))) (.node (.leaf e213ok) (.node (.leaf e224ok) (.leaf e225ok)))) (.node (.node (.leaf e226ok) (.node (.leaf e237ok) (.leaf e242ok))) (.node (.leaf e243ok) (.node (.leaf e244ok) (.leaf e255ok))))))))
end Go.Ir
end
section
set_option maxRecDepth 1000000
namespace Go.Ir
open Go.Proofs
def admAl:List (TypeId × Nat × Nat):=[(56,2,0),(58,21,0)]
theorem admA:∀p∈admAl,liesAt Tryz.prog Tryz.prog.depth p.1 (p.2.1 / Tryz.prog.cellsOf p.1) p.2.2 56 1=true:=by
 intro p hp
 simp only [admAl,List.mem_cons,List.not_mem_nil,or_false] at hp
 rcases hp with rfl|rfl
 ·kernel_rfl
 ·kernel_rfl
noncomputable def bltA:CallF:=orC (onC 109 bCutPrefix) (orC (onC 193 bIndex1) (orC (onC 183 bTrim) (orC (onC 241 bTrimR) (orC (onC 179 bIndexByte)
 (orC (onC 254 bAtoi) (orC (onP 156 bJoin) (orC (onP 44 bLength) (orC (bldC 101 admAl) (bstC 17 5)))))))))
theorem bltA_ok (W0:World):CallOk Tryz.prog W0 bltA:=
 orC_ok (okCutPrefix W0) (orC_ok (okIndex1 W0) (orC_ok (okTrim W0) (orC_ok (okTrimR W0) (orC_ok (okIndexByte W0) (orC_ok (okAtoi W0) (orC_ok (okJoin W0) (orC_ok (okLength W0) (orC_ok (bldC_here W0 _ admA) (bstC_here W0)))))))))
theorem awakeA_run:outV (xrunF evA bltA 100000 100 4 [] [] 0)=some (.b true):=by kernel_rfl
theorem c_awakeA (W0:World):RetS Tryz.prog W0 4 [] [] (.b true) []:=ret_of_runF evA_ok (bltA_ok W0) awakeA_run rfl rfl
end Go.Ir
end
section
namespace Go.Ir
section tree
variable {P : Part → Prop} {Q : List Part → Prop} {R : List Case → Prop}
theorem tree_ind (hp:∀p:Part,R p.cases->Q p.parts->P p) (q0:Q []) (q1:∀p ps,P p->Q ps->Q (p::ps)) (r0:R []) (r1:∀(c:Case) (cs:List Case),Q c.2->R cs->R (c::cs)) :
  ∀N,(∀p:Part,p.wt<N->P p)/\(∀ps,wtPs ps<N->Q ps)/\(∀cs,wtCs cs<N->R cs):=by
 intro N
 induction N with
 | zero=>exact ⟨fun p h=>by omega,fun p h=>by omega,fun p h=>by omega⟩
 | succ N ih=>
  have h1:∀p:Part,p.wt<N+1->P p:=fun p h=>by
   rw [p.wt_eq] at h
   exact hp p (ih.2.2 _ (by omega)) (ih.2.1 _ (by omega))
  have h2:∀ps,wtPs ps<N+1->Q ps:=by
   intro ps
   induction ps with
   | nil=>intro _;exact q0
   | cons p ps ih2=>intro h;rw [wtPs_cons] at h;exact q1 p ps (h1 p (by omega)) (ih2 (by omega))
  refine ⟨h1,h2,fun cs=>?_⟩
  induction cs with
  | nil=>intro _;exact r0
  | cons c cs ih2=>intro h;rw [wtCs_cons] at h;exact r1 c cs (h2 c.2 (by omega)) (ih2 (by omega))
theorem tree_Q (hp:∀p:Part,R p.cases->Q p.parts->P p) (q0:Q []) (q1:∀p ps,P p->Q ps->Q (p::ps)) (r0:R []) (r1:∀(c:Case) (cs:List Case),Q c.2->R cs->R (c::cs)) (ps:List Part):Q ps:=
 (tree_ind hp q0 q1 r0 r1 _).2.1 ps (Nat.lt_succ_self _)
end tree
theorem nameB_ne {s:Bytes} (h:nameB s=true):s≠[]:=by rintro rfl;cases h
theorem selB_iff (k:Int):selB k=true↔k=7\/k=8\/k=9:=by unfold selB;simp;omega
theorem len0 {α:Type} {l:List α} (h:((l.length:Int) == 0)=true):l=[]:=by
 have:(l.length:Int)=0:=by simpa using h
 exact List.length_eq_zero_iff.1 (by omega)
theorem fields_plain (p:Part) (c:Bool) (h11:(p.kind == 11)=false) (hs:selB p.kind=false):plainB p c=(p.fieldsB&&!(p.kind == 10&&!c)):=by
 obtain ⟨k,t,nm,st,cs,ps⟩:=p
 simp only at h11 hs
 have h7:(k == 7)=false/\(k == 8)=false/\(k == 9)=false:=by
  have:¬(k=7\/k=8\/k=9):=fun h=>by rw [(selB_iff k).2 h] at hs;cases hs
  simp;omega
 obtain ⟨h7,h8,h9⟩:=h7
 unfold plainB plainK wT wN wS Part.fieldsB fieldsK
 simp only
 have ht:(t == t)=true:=by simp
 have hn:(nm == nm)=true:=by simp
 have hss:(st == st)=true:=by simp
 by_cases h1:k=1
 ·subst h1
  simp only [bq,if_true,if_false,Int.reduceBEq,reduceCtorEq,Int.reduceBEq,ht,hn,hss]
  generalize (t == [])=a1;generalize (nm == [])=a2;generalize (st == [])=a3;generalize ((cs.length:Int) == 0)=a4;generalize ((ps.length:Int) == 0)=a5
  cases a1<;>cases a2<;>cases a3<;>cases a4<;>cases a5<;>rfl
 by_cases h10:k=10
 ·subst h10
  simp only [bq,if_true,if_false,Int.reduceBEq,reduceCtorEq,Int.reduceBEq,ht,hn,hss]
  generalize (t == [])=a1;generalize (nm == [])=a2;generalize (st == [])=a3;generalize ((cs.length:Int) == 0)=a4;generalize ((ps.length:Int) == 0)=a5
  cases a1<;>cases a2<;>cases a3<;>cases a4<;>cases a5<;>cases c<;>rfl
 by_cases h2:k=2
 ·subst h2
  simp only [bq,if_true,if_false,Int.reduceBEq,reduceCtorEq,Int.reduceBEq,ht,hn,hss]
  generalize (t == [])=a1;generalize nameB nm=a2;generalize (st == [])=a3;generalize ((cs.length:Int) == 0)=a4;generalize ((ps.length:Int) == 0)=a5
  cases a1<;>cases a2<;>cases a3<;>cases a4<;>cases a5<;>rfl
 by_cases h3:k=3
 ·subst h3
  simp only [bq,if_true,if_false,Int.reduceBEq,reduceCtorEq,Int.reduceBEq,ht,hn,hss,numSt]
  generalize (t == [])=a1;generalize nameB nm=a2;generalize (st == [])=a3;generalize ((cs.length:Int) == 0)=a4;generalize ((ps.length:Int) == 0)=a5
  generalize (st == [105,110,116,101,103,101,114])=a6;generalize (st == [112,101,114,99,101,110,116])=a7
  cases a1<;>cases a2<;>cases a3<;>cases a4<;>cases a5<;>cases a6<;>cases a7<;>rfl
 by_cases h4:k=4
 ·subst h4
  simp only [bq,if_true,if_false,Int.reduceBEq,reduceCtorEq,Int.reduceBEq,ht,hn,hss]
  generalize (t == [])=a1;generalize nameB nm=a2;generalize nameB st=a3;generalize ((cs.length:Int) == 0)=a4;generalize ((ps.length:Int) == 0)=a5
  cases a1<;>cases a2<;>cases a3<;>cases a4<;>cases a5<;>rfl
 by_cases h5:k=5
 ·subst h5
  simp only [bq,if_true,if_false,Int.reduceBEq,reduceCtorEq,Int.reduceBEq,ht,hn,hss]
  generalize (t == [])=a1;generalize nameB nm=a2;generalize skeletonB st=a3;generalize ((cs.length:Int) == 0)=a4;generalize ((ps.length:Int) == 0)=a5
  cases a1<;>cases a2<;>cases a3<;>cases a4<;>cases a5<;>rfl
 by_cases h6:k=6
 ·subst h6
  simp only [bq,if_true,if_false,Int.reduceBEq,reduceCtorEq,Int.reduceBEq,ht,hn,hss]
  generalize (t == [])=a1;generalize nameB nm=a2;generalize nameB st=a3;generalize ((cs.length:Int) == 0)=a4;generalize ((ps.length:Int) == 0)=a5
  cases a1<;>cases a2<;>cases a3<;>cases a4<;>cases a5<;>rfl
 have e:∀j:Int,k≠j->(k == j)=false:=fun j h=>by simpa using h
 simp [e 1 h1,e 10 h10,e 2 h2,e 3 h3,e 4 h4,e 5 h5,e 6 h6,h7,h8,h9,h11]
theorem pos_dec (n:Nat):decide ((n:Int)>0) = !((n:Int) == 0):=by
 by_cases h:n=0
 ·subst h;rfl
 ·have h1:((n:Nat):Int)>0:=by omega
  have h2:¬((n:Int)=0):=by omega
  rw [decide_eq_true h1,beq_eq_false_iff_ne.2 h2];rfl
theorem cnt_sel {k:Int} (h:selB k=true):cntB k=(k != 9):=by
 rcases (selB_iff k).1 h with rfl|rfl|rfl<;>rfl
theorem chk_formed0 (ps:List Part):∀d c prev l,(chkPs ps d c prev l).1=formedPs ps (d+1) c prev:=by
 refine tree_Q (P:=fun p=>∀d c l,((p.fieldsB&&!(p.kind == 10&&!c))&&(p.chk d c l).1)=p.formedB (d+1) c)
  (Q:=fun ps=>∀d c prev l,(chkPs ps d c prev l).1=formedPs ps (d+1) c prev)
  (R:=fun cs=>∀k d c n seen l,selB k=true->(chkCs cs k d c n seen l).1=(decide ((n:Int)<=20)&&formedCs cs k d c seen)) ?_ ?_ ?_ ?_ ?_ ps
 ·intro p hr hq d c l
  rw [p.chk_eq,p.formedB_eq]
  by_cases h11:p.kind=11
  ·have hs:selB p.kind=false:=by rw [h11];rfl
   have h11':(p.kind == 11)=true:=by simpa using h11
   have h:=hq (d+1) c false l
   simp only [h11',hs,if_true,if_false,Bool.false_eq_true]
   have hf:p.fieldsB=(nameB p.name&&(p.text == []&&(p.style == []&&((p.cases.length:Int) == 0)))):=by
    unfold Part.fieldsB fieldsK;rw [h11];simp
   have h10:(p.kind == 10)=false:=by rw [h11];rfl
   have hd:decide (d+1>8)=decide (d>=8):=by simp;omega
   have hc:=pos_dec p.cases.length
   rw [hf,h10]
   unfold elHead
   rw [hd,hc,<-h]
   generalize nameB p.name=a1;generalize (p.text == [])=a2;generalize (p.style == [])=a3;generalize ((p.cases.length:Int) == 0)=a4
   cases decide (d>=8) with
   | true=>cases a1<;>cases a2<;>cases a3<;>cases a4<;>rfl
   | false=>
    simp only [Bool.false_eq_true,if_false]
    generalize chkPs p.parts (d+1) c false l=r
    obtain ⟨b,l1⟩:=r
    cases b<;>cases a1<;>cases a2<;>cases a3<;>cases a4<;>rfl
  ·have h11':(p.kind == 11)=false:=by simpa using h11
   simp only [h11',if_false,Bool.false_eq_true]
   cases hs:selB p.kind with
   | true=>
    have h:=hr p.kind (d+1) c p.cases.length [] l hs
    have hf:p.fieldsB=(nameB p.name&&(p.text == []&&(p.style == []&&((p.parts.length:Int) == 0)))):=by
     unfold Part.fieldsB fieldsK;rcases (selB_iff _).1 hs with e|e|e<;>(rw [e];simp)
    have h10:(p.kind == 10)=false:=by rcases (selB_iff _).1 hs with e|e|e<;>(rw [e];rfl)
    have hd:decide (d+1>8)=decide (d>=8):=by simp;omega
    have hc:=pos_dec p.parts.length
    have h20:decide ((p.cases.length:Int)>20) = !decide ((p.cases.length:Int)<=20):=by
     rw [Bool.eq_iff_iff];simp
    have h1:decide ((p.cases.length:Int)<1)=true->formedCs p.cases p.kind (d+1) c []=false:=by
     intro hh
     have:p.cases=[]:=List.length_eq_zero_iff.1 (by simp at hh;omega)
     rw [this];simp [formedCs]
    rw [hf,h10]
    unfold selHead
    rw [hd,hc,h20]
    simp only [if_true]
    generalize nameB p.name=a1;generalize (p.text == [])=a2;generalize (p.style == [])=a3;generalize ((p.parts.length:Int) == 0)=a4
    generalize decide ((p.cases.length:Int)<1)=a5 at *
    generalize formedCs p.cases p.kind (d+1) c []=F at *
    generalize decide ((p.cases.length:Int)<=20)=a6 at *
    cases decide (d>=8) with
    | true=>cases a1<;>cases a2<;>cases a3<;>cases a4<;>rfl
    | false=>
     simp only [Bool.false_eq_true,if_false]
     generalize chkCs p.cases p.kind (d+1) c p.cases.length [] l=r at *
     obtain ⟨b,l1⟩:=r
     simp only at h
     subst h
     cases a5 with
     | true=>rw [h1 rfl];cases a1<;>cases a2<;>cases a3<;>cases a4<;>cases a6<;>rfl
     | false=>cases F<;>cases a1<;>cases a2<;>cases a3<;>cases a4<;>cases a6<;>rfl
   | false=>
    simp only [if_false,Bool.false_eq_true]
    rw [fields_plain p c h11' hs];simp
 ·intro d c prev l;rfl
 ·intro p ps hp hq d c prev l
  rw [chkPs_cons,formedPs_cons,<-hp d c l]
  have hq2:=hq d c (p.kind == 1)
  generalize p.fieldsB=a1;generalize (p.kind == 10&&!c)=a2
  rw [Bool.and_comm (p.kind == 1) prev]
  generalize (prev&&p.kind == 1)=a3
  generalize p.chk d c l=r
  obtain ⟨b,l1⟩:=r
  simp only
  cases a1<;>cases a2<;>cases a3<;>cases b<;>simp [hq2]
 ·intro k d c n seen l _;simp [chkCs,formedCs]
 ·intro x cs hq hr k d c n seen l hs
  rw [chkCs_cons,formedCs_cons,cnt_sel hs,<-hq d (c||(k != 9)) false l]
  generalize (!keyB k x.1||seen.contains x.1)=a1
  generalize chkPs x.2 d (c||(k != 9)) false l=r
  obtain ⟨b,l1⟩:=r
  have:=hr k d c n (seen++[x.1]) l1 hs
  simp only
  cases a1<;>cases b<;>simp [this]
theorem text_len_eq (ps:List Part):∀d c prev,formedPs ps d c prev=true->lenPs ps=(textPs ps).length:=by
 refine tree_Q (P:=fun p=>∀d c,p.formedB d c=true->p.lenB=p.textB.length)
  (Q:=fun ps=>∀d c prev,formedPs ps d c prev=true->lenPs ps=(textPs ps).length)
  (R:=fun cs=>∀k d c keys,formedCs cs k d c keys=true->lenCs cs=(textCs cs).length) ?_ ?_ ?_ ?_ ?_ ps
 ·intro p hr hq d c h
  rw [p.formedB_eq] at h
  rw [p.lenB_eq,p.textB_eq]
  by_cases h11:p.kind=11
  ·have h1:(p.kind == 1)=false:=by rw [h11];rfl
   have h10:(p.kind == 10)=false:=by rw [h11];rfl
   have h11':(p.kind == 11)=true:=by simpa using h11
   rw [h11',if_pos rfl,Bool.and_eq_true] at h
   have h3:=hq _ _ _ h.2
   simp only [h1,h10,h11',if_true,if_false,Bool.false_eq_true]
   cases p.parts.isEmpty<;>simp [h3]<;>omega
  ·have h11':(p.kind == 11)=false:=by simpa using h11
   rw [h11',if_neg (by simp)] at h
   cases hs:selB p.kind with
   | true=>
    rw [hs,if_pos rfl,Bool.and_eq_true] at h
    have h3:=hr _ _ _ _ h.2
    have e1:(p.kind == 1)=false/\(p.kind == 10)=false/\(p.kind == 2)=false/\(decide (p.kind>=3)&&decide (p.kind<=9))=true:=by
     rcases (selB_iff _).1 hs with e|e|e<;>(rw [e];decide)
    obtain ⟨e1,e10,e2,e39⟩:=e1
    simp only [e1,e10,e2,h11',e39,if_true,if_false,Bool.false_eq_true]
    unfold useN useH useS useC
    rw [if_pos e39,hs]
    cases hst:(p.style == [])<;>simp [h3]<;>omega
   | false=>
    rw [hs,if_neg (by simp)] at h
    unfold plainB at h
    simp only [Bool.and_eq_true] at h
    obtain ⟨⟨⟨⟨⟨hk,hc⟩,hp⟩,ht⟩,hn⟩,hst⟩:=h
    have hc:=len0 hc
    rw [hc]
    by_cases k1:p.kind=1
    ·simp [k1]
    by_cases k10:p.kind=10
    ·simp [k10]
    have e:∀j:Int,p.kind≠j->(p.kind == j)=false:=fun j h=>by simpa using h
    by_cases k2:p.kind=2
    ·have hst2:p.style=[]:=by unfold wS at hst;rw [k2] at hst;simpa using hst
     rw [k2,hst2]
     simp [useN,selB,lenCs]<;>omega
    have k36:p.kind=3\/p.kind=4\/p.kind=5\/p.kind=6:=by
     unfold plainK at hk
     rw [e 1 k1,e 10 k10,e 2 k2] at hk
     simp only [Bool.false_eq_true,if_false] at hk
     split at hk
     ·rename_i hh;simp at hh;omega
     ·cases hk
    have e39:(decide (p.kind>=3)&&decide (p.kind<=9))=true:=by simp;omega
    simp only [e 1 k1,e 10 k10,e 2 k2,h11',e39,if_true,if_false,Bool.false_eq_true]
    unfold useN useH useS useC
    rw [if_pos e39,hs]
    cases hst:(p.style == [])<;>simp [lenCs,textCs]<;>omega
 ·intro d c prev _;simp [lenPs,textPs]
 ·intro p ps hp hq d c prev h
  rw [formedPs_cons,Bool.and_eq_true,Bool.and_eq_true] at h
  rw [lenPs_cons,textPs_cons,List.length_append,hp _ _ h.2.1,hq _ _ _ h.2.2]
 ·intro k d c keys _;simp [lenCs,textCs]
 ·intro x cs hq hr k d c keys h
  rw [formedCs_cons,Bool.and_eq_true,Bool.and_eq_true] at h
  rw [lenCs_cons,textCs_cons,hq _ _ _ h.2.1,hr _ _ _ _ h.2.2]
  simp<;>omega
mutual
def Part.nms:Part->List Bytes
 | ⟨k,_,n,_,cs,ps⟩=>(if decide (k>=2)&&decide (k<=9) then [n] else [])++(nmsPs ps++nmsCs cs)
def nmsPs:List Part->List Bytes
 | []=>[]
 | p::ps=>p.nms++nmsPs ps
def nmsCs:List (Bytes × List Part)->List Bytes
 | []=>[]
 | (_,ps)::cs=>nmsPs ps++nmsCs cs
end
theorem Part.nms_eq (p:Part):p.nms=(if decide (p.kind>=2)&&decide (p.kind<=9) then [p.name] else [])++(nmsPs p.parts++nmsCs p.cases):=by cases p;simp only [Part.nms]
theorem nmsPs_cons (p:Part) (ps:List Part):nmsPs (p::ps)=p.nms++nmsPs ps:=by simp only [nmsPs]
theorem nmsCs_cons (c:Case) (cs:List Case):nmsCs (c::cs)=nmsPs c.2++nmsCs cs:=by obtain ⟨k,q⟩:=c;simp only [nmsCs]
def Grew (l l' m:List Bytes):Prop:=(∀x,x∈l'↔x∈l\/x∈m)/\(l.Nodup->l'.Nodup)
theorem Grew.refl (l:List Bytes):Grew l l []:=⟨fun x=>by simp,fun h=>h⟩
theorem Grew.trans {a b c m n:List Bytes} (h:Grew a b m) (k:Grew b c n):Grew a c (m++n):=
 ⟨fun x=>by rw [k.1,h.1];simp [or_assoc],fun hn=>k.2 (h.2 hn)⟩
theorem Grew.same {a b m n:List Bytes} (h:Grew a b m) (hm:∀x,x∈m↔x∈n):Grew a b n:=⟨fun x=>by rw [h.1,hm],h.2⟩
theorem nodup_snoc {l:List Bytes} {x:Bytes} (h:l.Nodup) (hx:x ∉ l):(l++[x]).Nodup:=by
 rw [List.nodup_append]
 exact ⟨h,by simp,fun a ha b hb=>by simp at hb;subst hb;rintro rfl;exact hx ha⟩
theorem put_grew (x:Bytes) (l:List Bytes):Grew l (putN x l) [x]:=by
 unfold putN
 cases h:l.contains x with
 | true=>
  have hm:x∈l:=by simpa using h
  exact ⟨fun y=>by simp;rintro rfl;exact hm,fun h=>h⟩
 | false=>
  have hm:x ∉ l:=by simpa using h
  exact ⟨fun y=>by simp,fun h=>nodup_snoc h hm⟩
theorem add_grew (k:Int) (x:Bytes) (l:List Bytes):Grew l (addN k x l) (if decide (k>=2)&&decide (k<=9) then [x] else []):=by
 unfold addN
 cases hk:(decide (k>=2)&&decide (k<=9)) with
 | false=>simp only [Bool.false_and,Bool.false_eq_true,if_false];exact Grew.refl l
 | true=>
  have:=put_grew x l
  unfold putN at this
  cases h:l.contains x with
  | true=>rw [h] at this;simpa using this
  | false=>rw [h] at this;simpa using this
theorem names_grew (ps:List Part):∀l,Grew l (namesPs ps l) (nmsPs ps):=by
 refine tree_Q (P:=fun p=>∀l,Grew l (p.names l) p.nms) (Q:=fun ps=>∀l,Grew l (namesPs ps l) (nmsPs ps)) (R:=fun cs=>∀l,Grew l (namesCs cs l) (nmsCs cs)) ?_ ?_ ?_ ?_ ?_ ps
 ·intro p hr hq l
  rw [p.names_eq,p.nms_eq]
  exact (add_grew _ _ _).trans ((hq _).trans (hr _))
 ·intro l;simp only [namesPs,nmsPs];exact Grew.refl l
 ·intro p ps hp hq l;rw [namesPs_cons,nmsPs_cons];exact (hp l).trans (hq _)
 ·intro l;simp only [namesCs,nmsCs];exact Grew.refl l
 ·intro c cs hq hr l;rw [namesCs_cons,nmsCs_cons];exact (hq l).trans (hr _)
theorem fields_name {p:Part} (h:p.fieldsB=true):(if decide (p.kind>=2)&&decide (p.kind<=9) then [p.name] else [])=(if !(p.kind == 11)&&!(p.name == []) then [p.name] else []):=by
 obtain ⟨k,t,nm,st,cs,ps⟩:=p
 unfold Part.fieldsB fieldsK at h
 simp only at h⊢
 have e:∀j:Int,k≠j->(k == j)=false:=fun j h=>by simpa using h
 by_cases k1:k=1
 ·subst k1;simp at h;simp [h.2.1]
 by_cases k10:k=10
 ·subst k10;simp at h;simp [h.2.1]
 rw [e 1 k1,e 10 k10] at h
 simp only [Bool.false_eq_true,if_false,Bool.and_eq_true] at h
 have hn:=nameB_ne h.1
 have hn':(nm == [])=false:=by simpa using hn
 by_cases k11:k=11
 ·subst k11;rfl
 by_cases hk:2<=k/\k<=9
 ·have:(decide (k>=2)&&decide (k<=9))=true:=by simp;omega
  rw [this,e 11 k11,hn'];rfl
 ·have h2:=h.2.2
  rw [e 2 (by omega),e 11 k11,e 7 (by omega),e 8 (by omega),e 9 (by omega),e 3 (by omega),e 4 (by omega),e 6 (by omega),e 5 (by omega)] at h2
  simp at h2
theorem fields_cases {p:Part} (h:p.fieldsB=true):(selB p.kind=false->p.cases=[])/\((p.kind == 11)=false->p.parts=[])/\(p.kind == 11||selB p.kind->p.text=[]/\p.style=[]):=by
 obtain ⟨k,t,nm,st,cs,ps⟩:=p
 unfold Part.fieldsB fieldsK at h
 simp only at h⊢
 have e:∀j:Int,k≠j->(k == j)=false:=fun j h=>by simpa using h
 have nil:∀{α:Type} (l:List α),((l.length:Int) == 0)=true->l=[]:=fun l h=>len0 h
 by_cases k1:k=1
 ·subst k1;simp only [Int.reduceBEq,if_true,Bool.and_eq_true] at h
  exact ⟨fun _=>nil _ h.2.2.2.1,fun _=>nil _ h.2.2.2.2,fun hh=>by cases hh⟩
 by_cases k10:k=10
 ·subst k10;simp only [Int.reduceBEq,if_true,if_false,Bool.false_eq_true,Bool.and_eq_true] at h
  exact ⟨fun _=>nil _ h.2.2.2.1,fun _=>nil _ h.2.2.2.2,fun hh=>by cases hh⟩
 rw [e 1 k1,e 10 k10] at h
 simp only [Bool.false_eq_true,if_false,Bool.and_eq_true] at h
 obtain ⟨hn,ht,h⟩:=h
 by_cases k2:k=2
 ·subst k2;simp only [Int.reduceBEq,if_true,Bool.and_eq_true] at h
  exact ⟨fun _=>nil _ h.2.1,fun _=>nil _ h.2.2,fun hh=>by cases hh⟩
 by_cases k11:k=11
 ·subst k11;simp only [Int.reduceBEq,if_true,if_false,Bool.false_eq_true,Bool.and_eq_true] at h
  exact ⟨fun _=>nil _ h.2,fun hh=>(by cases hh),fun _=>⟨by simpa using ht,by simpa using h.1⟩⟩
 rw [e 2 k2,e 11 k11] at h
 simp only [Bool.false_eq_true,if_false] at h
 by_cases hs:selB k=true
 ·have h789:(k == 7||k == 8||k == 9)=true:=by rcases (selB_iff k).1 hs with rfl|rfl|rfl<;>rfl
  rw [h789,if_pos rfl,Bool.and_eq_true] at h
  exact ⟨fun hh=>(by rw [hs] at hh;cases hh),fun _=>nil _ h.2,fun _=>⟨by simpa using ht,by simpa using h.1⟩⟩
 ·have hs':selB k=false:=by simpa using hs
  have n7:k≠7/\k≠8/\k≠9:=⟨fun e=>hs ((selB_iff k).2 (.inl e)),fun e=>hs ((selB_iff k).2 (.inr (.inl e))),fun e=>hs ((selB_iff k).2 (.inr (.inr e)))⟩
  rw [e 7 n7.1,e 8 n7.2.1,e 9 n7.2.2] at h
  simp only [Bool.or_self,Bool.false_eq_true,if_false] at h
  have hx:((cs.length:Int) == 0)=true/\((ps.length:Int) == 0)=true:=by
   split at h
   ·simp only [Bool.and_eq_true] at h;exact h.2
   ·split at h
    ·simp only [Bool.and_eq_true] at h;exact h.2
    ·split at h
     ·simp only [Bool.and_eq_true] at h;exact h.2
     ·cases h
  refine ⟨fun _=>nil _ hx.1,fun _=>nil _ hx.2,fun hh=>?_⟩
  rw [e 11 k11,hs'] at hh;cases hh
theorem chk_grew (ps:List Part):∀d c prev l,(chkPs ps d c prev l).1=true->Grew l (chkPs ps d c prev l).2 (nmsPs ps):=by
 refine tree_Q (P:=fun p=>p.fieldsB=true->∀d c l,(p.chk d c l).1=true->Grew l (p.chk d c l).2 p.nms)
  (Q:=fun ps=>∀d c prev l,(chkPs ps d c prev l).1=true->Grew l (chkPs ps d c prev l).2 (nmsPs ps))
  (R:=fun cs=>∀k d c n seen l,(chkCs cs k d c n seen l).1=true->Grew l (chkCs cs k d c n seen l).2 (nmsCs cs)) ?_ ?_ ?_ ?_ ?_ ps
 ·intro p hr hq hf d c l h
  obtain ⟨hc,hp,_⟩:=fields_cases hf
  rw [p.chk_eq] at h⊢
  rw [p.nms_eq,fields_name hf]
  have hfin:∀l2 m,Grew l l2 m->Grew l (if !(p.kind == 11)&&!(p.name == []) then putN p.name l2 else l2) ((if !(p.kind == 11)&&!(p.name == []) then [p.name] else [])++m):=by
   intro l2 m hm
   cases (!(p.kind == 11)&&!(p.name == [])) with
   | true=>
    simp only [if_true]
    exact (hm.trans (put_grew p.name l2)).same fun x=>by simp;constructor<;>(intro h;rcases h with h|h<;>simp [h])
   | false=>simpa using hm
  by_cases h11:p.kind=11
  ·have hs:selB p.kind=false:=by rw [h11];rfl
   have h11':(p.kind == 11)=true:=by simpa using h11
   rw [hc hs]
   have h0:nmsCs []=[]:=by simp only [nmsCs]
   rw [h0,List.append_nil]
   have h2:=hq (d+1) c false l
   simp only [h11',hs,if_true,if_false,Bool.false_eq_true] at h hfin⊢
   by_cases hd:decide (d>=8)=true
   ·rw [hd] at h;simp at h
   ·have hd':decide (d>=8)=false:=by simpa using hd
    rw [hd'] at h⊢
    simp only [Bool.false_eq_true,if_false] at h⊢
    generalize chkPs p.parts (d+1) c false l=r at *
    obtain ⟨b,l1⟩:=r
    cases b with
    | false=>simp at h
    | true=>exact hfin l1 _ (h2 rfl)
  ·have h11':(p.kind == 11)=false:=by simpa using h11
   rw [hp h11']
   have h0:nmsPs []=[]:=by simp only [nmsPs]
   rw [h0,List.nil_append]
   simp only [h11',if_false,Bool.false_eq_true] at h hfin⊢
   cases hs:selB p.kind with
   | false=>
    rw [hs] at h
    rw [hc hs]
    have h0:nmsCs []=[]:=by simp only [nmsCs]
    rw [h0]
    simp only [if_false,Bool.false_eq_true] at h⊢
    exact hfin l [] (Grew.refl l)
   | true=>
    rw [hs] at h
    have h2:=hr p.kind (d+1) c p.cases.length [] l
    simp only [if_true] at h⊢
    by_cases hd:decide (d>=8)=true
    ·rw [hd] at h;simp at h
    ·have hd':decide (d>=8)=false:=by simpa using hd
     rw [hd'] at h⊢
     simp only [Bool.false_eq_true,if_false] at h⊢
     generalize chkCs p.cases p.kind (d+1) c p.cases.length [] l=r at *
     obtain ⟨b,l1⟩:=r
     cases b with
     | false=>simp at h
     | true=>exact hfin l1 _ (h2 rfl)
 ·intro d c prev l _;simp only [chkPs,nmsPs];exact Grew.refl l
 ·intro p ps hp hq d c prev l h
  rw [chkPs_cons] at h⊢
  rw [nmsPs_cons]
  split at h
  ·cases h
  ·rename_i hn
   rw [if_neg hn]
   have hf:p.fieldsB=true:=by
    cases hh:p.fieldsB with
    | true=>rfl
    | false=>exfalso;apply hn;rw [hh];simp
   have h1:=hp hf d c l
   generalize p.chk d c l=r at *
   obtain ⟨b,l1⟩:=r
   cases b with
   | false=>simp at h
   | true=>exact (h1 rfl).trans (hq _ _ _ _ h)
 ·intro k d c n seen l _;simp only [chkCs,nmsCs];exact Grew.refl l
 ·intro x cs hq hr k d c n seen l h
  rw [chkCs_cons] at h⊢
  rw [nmsCs_cons]
  split at h
  ·cases h
  ·rename_i hn
   rw [if_neg hn]
   have h1:=hq d (c||(k != 9)) false l
   generalize chkPs x.2 d (c||(k != 9)) false l=r at *
   obtain ⟨b,l1⟩:=r
   cases b with
   | false=>simp at h
   | true=>exact (h1 rfl).trans (hr _ _ _ _ _ _ h)
theorem nodup_sub {a b:List Bytes} (ha:a.Nodup) (h:∀x∈a,x∈b):a.length<=b.length:=by
 induction a generalizing b with
 | nil=>simp
 | cons x a ih=>
  rw [List.nodup_cons] at ha
  have hx:x∈b:=h x (by simp)
  have:=ih (b:=b.erase x) ha.2 fun y hy=>by
   have hne:y≠x:=fun e=>ha.1 (e ▸ hy)
   exact (List.mem_erase_of_ne hne).2 (h y (by simp [hy]))
  rw [List.length_erase_of_mem hx] at this
  have:0<b.length:=List.length_pos_of_mem hx
  simp;omega
theorem valid_same (ps:List Part):validP ps=validB ps:=by
 unfold validP validB
 rw [chk_formed0 ps 0 false false []]
 have h01:(0:Int)+1=1:=rfl
 rw [h01]
 cases hf:formedPs ps 1 false false with
 | false=>simp
 | true=>
  have h1:=chk_grew ps 0 false false [] (by rw [chk_formed0,h01,hf])
  have h2:=names_grew ps []
  have h3:=text_len_eq ps _ _ _ hf
  have ha:=nodup_sub (h1.2 List.nodup_nil) fun x hx=>(h2.1 x).2 ((h1.1 x).1 hx)
  have hb:=nodup_sub (h2.2 List.nodup_nil) fun x hx=>(h1.1 x).2 ((h2.1 x).1 hx)
  have:(chkPs ps 0 false false []).2.length=(namesPs ps []).length:=Nat.le_antisymm ha hb
  rw [this,h3]
end Go.Ir
end
namespace Go.Ir
open Go.Proofs
variable (W0 : World)
theorem esc_le (s:Bytes):s.length<=(escB s).length:=by
 induction s with
 | nil=>simp
 | cons c s ih=>
  simp only [escB,List.length_append,List.length_cons]
  split<;>simp<;>omega
theorem out_len:∀(N:Nat) (ps:List Part),wtPs ps<N->barePs ps=true->(outPs ps).length<=2*lenPs ps:=by
 intro N
 induction N with
 | zero=>intro ps h;omega
 | succ N ih=>
 intro ps
 induction ps with
 | nil=>intro _ _;simp [outPs_nil]
 | cons p ps ih2=>
  intro hN hb
  rw [wtPs_cons] at hN
  rw [barePs_cons,Bool.and_eq_true,p.bare_eq,Bool.and_eq_true,Bool.or_eq_true,beq_iff_eq,beq_iff_eq] at hb
  obtain ⟨⟨hk,hq⟩,hr⟩:=hb
  have hpw:=p.wt_eq
  have h2:=ih2 (by omega) hr
  rw [outPs_cons,List.length_append,lenPs_cons]
  have h1:p.out.length<=2*p.lenB:=by
   rw [p.out_eq,p.lenB_eq]
   rcases hk with hk|hk
   ·have k1:(p.kind == 1)=true:=by rw [hk];rfl
    simp only [k1,if_true]
    have:=esc_le p.text;omega
   ·have k1:(p.kind == 1)=false:=by rw [hk];rfl
    have k2:(p.kind == 10)=false:=by rw [hk];rfl
    have k3:(p.kind == 11)=true:=by rw [hk];rfl
    simp only [k1,k2,k3,if_true,if_false,Bool.false_eq_true]
    have h3:=ih p.parts (by omega) hq
    by_cases hpe:p.parts.isEmpty=true
    ·rw [if_pos hpe]
     have:p.parts=[]:=by simpa using hpe
     rw [this,outPs_nil]
     simp only [List.length_append,List.length_cons,List.length_nil];omega
    ·rw [if_neg hpe]
     simp only [List.length_append,List.length_cons,List.length_nil];omega
  omega
theorem out_few {ps:List Part} (hb:barePs ps=true) (hv:validP ps=true):(outPs ps).length<=20000:=by
 have h1:=out_len _ ps (Nat.lt_succ_self _) hb
 unfold validP at hv
 simp only [Bool.and_eq_true,decide_eq_true_eq] at hv
 omega
theorem c_bare:∀(N:Nat) (ps:List Part),wtPs ps<N->wtPs ps<=2^24->RetS Tryz.prog W0 6 [.sl (ps.map Part.enc)] [] (.b (barePs ps)) []:=by
 intro N
 induction N with
 | zero=>intro ps h;omega
 | succ N ih=>
 intro ps hN hb
 have hlen:=len_wtPs ps
 generalize hS:barePs ps=S
 refine fn_retW (vs:=[.b S]) f6ok (by simp) (by simp) fun n0 hn0=>?_
 clear hn0
 simp only [push_cast,seval,reduceEqDiff]
 intros
 refine aWP_loopW ps.length (Inv:=fun m st=>∃done rest n,ps=done++rest/\m=rest.length/\barePs rest=S/\st=⟨[(0,.sl (ps.map Part.enc)),(3,.i .i64 done.length)],[],n⟩) ⟨_,StLe.refl,[],ps,_,rfl,rfl,hS,rfl⟩ ?_
 clear hS
 rintro m _ ⟨done,rest,n,hz,rfl,hd,rfl⟩
 cases rest with
 | nil=>
  rw [barePs_nil] at hd
  subst hd
  simp only [push_cast,seval,reduceEqDiff,hz]
  intros
  all_goals (first|(refine finW_ret ?_;simp [get]<;>(intros;omega);done)|(refine finW_rets ?_;simp [push_cast,get];done)|skip)
 | cons p rest=>
  have hbd:=zip_bd hz
  have hwp:=wtPs_mem (ps:=ps) (p:=p) (by rw [hz];simp)
  have hpw:=p.wt_eq
  have hc:=ih p.parts (by omega) (by omega)
  rw [barePs_cons,p.bare_eq] at hd
  generalize barePs p.parts=A1 at *
  have e1:(p.kind != 1) = !(p.kind == 1):=rfl
  have e2:(p.kind != 11) = !(p.kind == 11):=rfl
  generalize (p.kind == 1)=K1 at *
  generalize (p.kind == 11)=K2 at *
  cases K1<;>cases K2<;>cases A1
  all_goals simp only [bq,if_true,if_false,Int.reduceBEq,reduceCtorEq] at hd e1 e2
  all_goals simp only [push_cast,seval,reduceEqDiff,hz,wrap_zip p (done:=done) (by omega),e1,e2]
  all_goals (repeat' (first|(refine c_call (by exact hc) ?_;simp only [push_cast,seval,reduceEqDiff,hz,wrap_zip p (done:=done) (by omega),e1,e2])|intro _))
  all_goals (first|(subst hd;exact finW_ret (by simp [get]))|exact ⟨_,_,Nat.lt_succ_self _,StLe.refl,done++[p],rest,_,by simp,rfl,hd,rfl⟩)
set_option maxHeartbeats 4000000 in
theorem c_few32 (L:Lcl) (ps:List Part) (vs:List Val) (h1:szL L<=2^40) (h2:wtRules L.card+wtRules L.ord<=2^24) (h3:wtPs ps<=2^24) (h4:vs.length<=2^40) (h5:∀v∈vs,v.list.length<=2^40) :
  RetS Tryz.prog W0 11 [L.enc,.sl (ps.map Part.enc),.sl (vs.map Val.enc)] [] (.b (few12 L&&fewPs ps&&fewVals (decide ((vs.length:Int)<=30)) vs)) []:=by
 have c1:=c_few12 W0 L h1 h2
 have c2:=c_few W0 ps h3
 have c3:=c_fewVals W0 vs h4 h5
 rw [Lcl.enc_eq] at c1
 generalize few12 L=A1 at *
 generalize fewPs ps=A2 at *
 generalize fewVals (decide ((vs.length:Int)<=30)) vs=A3 at *
 refine fn_retW (vs:=[.b (A1&&A2&&A3)]) f11ok (by simp) (by simp) fun n0 hn0=>?_
 clear hn0
 simp only [push_cast,seval,reduceEqDiff]
 cases A1<;>cases A2<;>cases A3
 all_goals (repeat' (first|(first|refine c_call (by exact c1) ?_|refine c_call (by exact c2) ?_|refine c_call (by exact c3) ?_)|intro _)<;>(try simp only [push_cast,seval,reduceEqDiff]))
 all_goals exact finW_ret (by simp [get])
def caseV (L:Lcl) (ps:List Part) (vs:List Val) (iso:Bool):V:=.agg [.s L.tag,.s L.parent,.s L.dir,.sl (L.card.map Rule.enc),.sl (L.ord.map Rule.enc),.s L.dec,.s L.grp,.s L.minus,.s L.perc,.i .i64 L.prim,.i .i64 L.sec,.sl (L.lists.map Lst.enc),.sl (L.units.map Unt.enc),.sl (L.dates.map Dat.enc),.sl (L.months.map V.s),.sl (L.days.map V.s),.sl (ps.map Part.enc),.sl (vs.map Val.enc),.b iso]
theorem caseV_eq (L:Lcl) (ps:List Part) (vs:List Val) (iso:Bool):caseV L ps vs iso = .agg [.s L.tag,.s L.parent,.s L.dir,.sl (L.card.map Rule.enc),.sl (L.ord.map Rule.enc),.s L.dec,.s L.grp,.s L.minus,.s L.perc,.i .i64 L.prim,.i .i64 L.sec,.sl (L.lists.map Lst.enc),.sl (L.units.map Unt.enc),.sl (L.dates.map Dat.enc),.sl (L.months.map V.s),.sl (L.days.map V.s),.sl (ps.map Part.enc),.sl (vs.map Val.enc),.b iso]:=rfl
theorem c_caseFew (L:Lcl) (ps:List Part) (vs:List Val) (iso:Bool) (h1:szL L<=2^40) (h2:wtRules L.card+wtRules L.ord<=2^24) (h3:wtPs ps<=2^24) (h4:vs.length<=2^40) (h5:∀v∈vs,v.list.length<=2^40) :
  RetS Tryz.prog W0 5 [caseV L ps vs iso] [] (.b (few12 L&&fewPs ps&&fewVals (decide ((vs.length:Int)<=30)) vs)) []:=by
 have c1:=c_few32 W0 L ps vs h1 h2 h3 h4 h5
 rw [Lcl.enc_eq] at c1
 generalize (few12 L&&fewPs ps&&fewVals (decide ((vs.length:Int)<=30)) vs)=S at *
 rw [caseV_eq]
 refine fn_retW (vs:=[.b S]) f5ok (by simp) (by simp) fun n0 hn0=>?_
 clear hn0
 simp only [push_cast,seval,reduceEqDiff]
 repeat' (first|(((first|apply condU_s|apply gdU_t|apply gdU_f)<;>intro _h)<;>simp only [push_cast,seval,reduceEqDiff,_h])|(refine c_call (by exact c1) ?_;simp only [push_cast,seval,reduceEqDiff])|intro _)
 exact finW_ret (by simp [get])
theorem c_caseFmt (L:Lcl) (ps:List Part) (vs:List Val) (iso:Bool) (qs:List Part) (hv:validP qs=true) (hp:barePs qs=true) (hw:wtPs qs<=2^24) :
  RetS Tryz.prog W0 8 [caseV L ps vs iso,.sl (qs.map Part.enc)] [] (.tup [.s (outPs qs),.i .i64 0]) []:=by
 have c1:=c_evFormat W0 L vs iso qs hv hp (out_few hp hv) hw
 rw [Lcl.enc_eq] at c1
 rw [caseV_eq]
 refine fn_retW (vs:=[.s (outPs qs),.i .i64 0]) f8ok (by simp) (by simp) fun n0 hn0=>?_
 clear hn0
 simp only [push_cast,seval,reduceEqDiff]
 repeat' (first|(((first|apply condU_s|apply gdU_t|apply gdU_f)<;>intro _h)<;>simp only [push_cast,seval,reduceEqDiff,_h])|(refine c_call (by exact c1) ?_;simp only [push_cast,seval,reduceEqDiff])|intro _)
 refine finW_rets ?_
 simp [push_cast,get]
set_option maxHeartbeats 4000000 in
theorem c_EvalTexts (L M:Lcl) (ps:List Part) (vs:List Val) (iso:Bool) (h1:szL L<=2^40) (h2:wtRules L.card+wtRules L.ord<=2^24) (h3:wtPs ps<=2^24) (h4:vs.length<=2^40) (h5:∀v∈vs,v.list.length<=2^40) :
  RetS Tryz.prog W0 3 [caseV L ps vs iso,M.enc] [] (.b true) []:=by
 have haw:=c_awakeA W0
 have hfew:=c_caseFew W0 L ps vs iso h1 h2 h3 h4 h5
 have hba:=c_bare W0 _ ps (Nat.lt_succ_self _) h3
 have hva:=c_rValid W0 ps h3
 have hlen:=len_wtPs ps
 generalize (few12 L&&fewPs ps&&fewVals (decide ((vs.length:Int)<=30)) vs)=F at *
 by_cases hok:barePs ps=true/\validB ps=true
 ·obtain ⟨hb,hv⟩:=hok
  have hv':validP ps=true:=by rw [valid_same];exact hv
  have f1:=c_caseFmt W0 L ps vs iso ps hv' hb h3
  have f2:RetS Tryz.prog W0 9 [M.enc,.sl (ps.map Part.enc),.nil,.b (!iso)] [] (.tup [.s (outPs ps),.i .i64 0]) []:=by
   refine retS_weak (c_evFormat W0 M [] (!iso) ps hv' hb (out_few hb hv') h3) rfl fun k a a' ha ha'=>?_
   match k with
   | 0=>simp at ha ha';subst ha ha';exact .refl _
   | 1=>simp at ha ha';subst ha ha';exact .refl _
   | 2=>simp at ha ha';subst ha ha';exact .nil
   | 3=>simp at ha ha';subst ha ha';exact .refl _
   | k+4=>simp at ha
  rw [hb] at hba
  rw [hv] at hva
  rw [Lcl.enc_eq] at f2⊢
  rw [caseV_eq] at hfew f1⊢
  have hbeq:(outPs ps == outPs ps)=true:=by simp
  refine fn_retW (vs:=[.b true]) f3ok (by simp) (by simp) fun n0 hn0=>?_
  clear hn0
  simp only [push_cast,seval,reduceEqDiff,hbeq]
  cases F
  all_goals (repeat' (first|(first|refine c_call (by exact haw) ?_|refine c_call (by exact hfew) ?_|refine c_call (by exact hba) ?_|refine c_call (by exact hva) ?_|refine c_call (by exact f1) ?_|refine c_call (by exact f2) ?_)|intro _)<;>(try simp only [push_cast,seval,reduceEqDiff,hbeq]))
  ·exact finW_ret (by simp [get])
  ·have hl1:∀k:Nat,((ps.length:Int) == k)=(ps.length == k):=fun k=>by rw [Bool.eq_iff_iff];simp;omega
   cases ps with
   | nil=>
    have h0:((([]:List Part).length:Int) != 1)=true:=rfl
    rw [h0]
    simp only [push_cast,seval,reduceEqDiff]
    intros
    exact finW_ret (by simp [get])
   | cons p rest=>
    cases rest with
    | cons q r=>
     have hne:(((p::q::r).length:Int) != 1)=true:=by simp [bne];omega
     rw [hne]
     simp only [push_cast,seval,reduceEqDiff]
     intros
     exact finW_ret (by simp [get])
    | nil=>
     have hone:((([p]:List Part).length:Int) != 1)=false:=rfl
     have ho:outPs [p]=p.out:=by rw [outPs_cons,outPs_nil,List.append_nil]
     have hpo:p.kind=1->(p.out == p.text)=true:=fun h=>by rw [p.out_eq,h];simp
     cases hk:(p.kind != 1) with
     | true=>
      simp only [push_cast,seval,reduceEqDiff,hone,hk]
      intros
      exact finW_ret (by simp [get])
     | false=>
      simp only [push_cast,seval,reduceEqDiff,hone,hk,ho,hpo (by simpa [bne] using hk)]
      intros
      exact finW_ret (by simp [get])
 ·skip
  rw [caseV_eq] at hfew⊢
  rw [Lcl.enc_eq]
  generalize barePs ps=A1 at *
  generalize validB ps=A2 at *
  refine fn_retW (vs:=[.b true]) f3ok (by simp) (by simp) fun n0 hn0=>?_
  clear hn0
  simp only [push_cast,seval,reduceEqDiff,Nat.add_zero]
  cases F<;>cases A1<;>cases A2
  all_goals (first|(exact absurd ⟨rfl,rfl⟩ hok)|skip)
  all_goals (repeat' (first|(first|refine c_call (by exact haw) ?_|refine c_call (by exact hfew) ?_|refine c_call (by exact hba) ?_|refine c_call (by exact hva) ?_)|intro _)<;>(try simp only [push_cast,seval,reduceEqDiff]))
  all_goals exact finW_ret (by simp [get])
end Go.Ir
section
namespace Go.Ir
open Go.RowKit Go.Proofs.YtgaodnclpkcahaaGreatDoor
def mkEl (ag:Bool) (c:List V):V:=if ag then .agg c else c.headD .any
inductive WtV (P:Program):TypeId->List V->Prop where
 | bool (t:TypeId) (b:Bool) (h:P.underlying t=some .bool):WtV P t [.b b]
 | int (t:TypeId) (k:IntKind) (n:Int) (h:P.underlying t=some (.int k)) (hw:(Lit.int k n).wf=true):WtV P t [.i k n]
 | str (t:TypeId) (l:List UInt8) (h:P.underlying t=some .string):WtV P t [.s l]
 | sl (t e:TypeId) (es:List V) (h:P.underlying t=some (.slice e)) (he:∀el∈es,∃c,el=mkEl ((aggT P e).getD false) c/\cells el=c) (hc:∀el∈es,(cells el).length=P.cellsOf e) (hw:∀el∈es,WtV P e (cells el)):WtV P t [.sl es]
 | st (t:TypeId) (fs:Array Field) (vs:List V) (h:P.underlying t=some (.struct fs)) (hl:vs.length=P.cellsOf t) (hf:∀f∈fs.toList,WtV P f.type ((vs.drop f.offset).take (P.cellsOf f.type))):WtV P t vs
mutual
def bulkV:V->Nat
 | .s l=>l.length+1
 | .sl es=>bulkVs es+1
 | .agg cs=>bulkVs cs
 | _=>1
def bulkVs:List V->Nat
 | []=>0
 | v::vs=>bulkV v+bulkVs vs
end
theorem bulkVs_append (a b:List V):bulkVs (a++b)=bulkVs a+bulkVs b:=by
 induction a with
 | nil=>simp [bulkVs]
 | cons x a ih=>simp [bulkVs,ih];omega
def layB (P:Program):List Field->Nat->Option Nat
 | [],off=>some off
 | f::fs,off=>if f.offset=off then layB P fs (off+P.cellsOf f.type) else none
def plnB (P:Program) (T:List TypeId):Bool:=T.all fun t=>match P.underlying t with
 | some .bool|some (.int _)|some .string=>P.cellsOf t == 1
 | some (.slice e)=>P.cellsOf t == 1&&T.contains e&&decide (0<P.cellsOf e)
 | some (.struct fs)=>fs.toList.all (fun f=>T.contains f.type)&&layB P fs.toList 0 == some (P.cellsOf t)
 | _=>false
section
variable {H : Type} {enc : TypeId × Value → H} {P : Program} {w : World} {base : Nat} {spare : Nat → Bool} {held : Bool} {T : List TypeId}
theorem bulkAll_mem {d:DataW H} {ds:List (DataW H)} (h:d∈ds):Rows.uptoBulk d<=Rows.uptoBulkAll ds:=by
 induction ds with
 | nil=>cases h
 | cons x ds ih=>
  simp only [Rows.uptoBulkAll]
  rcases List.mem_cons.1 h with rfl|h
  ·omega
  ·have:=ih h;omega
theorem read_fields {μ:Id->Option Value} {Hc:Addr->Option Value} {cs:List Value} :
  ∀(fs:List Field) (off tot:Nat) (ds:List (DataW H)),layB P fs off=some tot->cs.length=tot->ds.length=fs.length->
   (∀(i:Nat) (f:Field) (d:DataW H),fs[i]? = some f->ds[i]? = some d->∃vs,CRel μ Hc vs ((cs.drop f.offset).take (P.cellsOf f.type))/\WtV P f.type vs/\bulkVs vs<=Rows.uptoBulk d)->
   off<=tot/\∃vs,CRel μ Hc vs (cs.drop off)/\(∀pre:List V,pre.length=off->∀f∈fs,WtV P f.type (((pre++vs).drop f.offset).take (P.cellsOf f.type)))/\bulkVs vs<=Rows.uptoBulkAll ds
 | [],off,tot,ds,hlay,hcs,hds,h=>by
  simp only [layB,Option.some.injEq] at hlay
  subst hlay
  refine ⟨Nat.le_refl _,[],?_,fun _ _ f hf=>(by cases hf),by simp [bulkVs]⟩
  rw [List.drop_of_length_le (by omega)]
  exact CRel.nil_
 | f::fs,off,tot,ds,hlay,hcs,hds,h=>by
  simp only [layB] at hlay
  split at hlay
  ·rename_i ho
   cases ds with
   | nil=>simp at hds
   | cons d ds=>
    obtain ⟨hle,vs,h1,h2,h3⟩:=read_fields fs _ tot ds hlay hcs (by simpa using hds) (fun i f' d' hf hd=>h (i+1) f' d' (by simpa using hf) (by simpa using hd))
    obtain ⟨us,g1,g2,g3⟩:=h 0 f d rfl rfl
    rw [ho] at g1
    have hul:us.length=P.cellsOf f.type:=by
     have:=g1.len
     rw [List.length_take,List.length_drop] at this
     omega
    refine ⟨by omega,us++vs,?_,?_,?_⟩
    ·have:=g1.append h1
     rw [<-List.drop_drop,List.take_append_drop] at this
     exact this
    ·intro pre hpre f' hf'
     rcases List.mem_cons.1 hf' with rfl|hf'
     ·rw [ho,<-hpre,List.drop_left,<-hul,List.take_left]
      exact g2
     ·have:=h2 (pre++us) (by simp [hpre,hul]) f' hf'
      rwa [List.append_assoc] at this
    ·rw [bulkVs_append]
     simp only [Rows.uptoBulkAll]
     omega
  ·cases hlay
theorem mkEl_cells {t:TypeId} {vs:List V} {ag:Bool} (hag:aggT P t=some ag) (h:WtV P t vs):cells (mkEl ag vs)=vs:=by
 cases ag with
 | true=>rfl
 | false=>
  cases h with
  | st t fs vs h hl hf=>simp [aggT,h,aggD] at hag
  | _=>rfl
theorem mkEl_bulk {t:TypeId} {vs:List V} {ag:Bool} (hag:aggT P t=some ag) (h:WtV P t vs):bulkV (mkEl ag vs)=bulkVs vs:=by
 cases ag with
 | true=>simp [mkEl,bulkV]
 | false=>
  cases h with
  | st t fs vs h hl hf=>simp [aggT,h,aggD] at hag
  | _=>simp [mkEl,bulkVs]
theorem read_plain {μ:Id->Option Value} (hT:plnB P T=true):∀(n:Nat) (t:TypeId) (cs:List Value) (x:DataW H × List MemPlace),t∈T->DataW.trod enc P w base spare held n t cs=some x->Rows.uptoBulk x.1<=1048576->
  ∃vs,CRel μ (fun ad=>w.cell? ad) vs cs/\WtV P t vs/\bulkVs vs<=Rows.uptoBulk x.1:=by
 intro n
 induction n with
 | zero=>intro t cs x _ h;simp [DataW.trod] at h
 | succ n ih=>
  intro t cs x ht h hb
  have hpl:=List.all_eq_true.1 hT t ht
  have one:∀{c:V} {v:Value},VRel μ (fun ad=>w.cell? ad) c v->v.oneCell'=true->CRel μ (fun ad=>w.cell? ad) [c] [v]:=fun hv h1=>
   ⟨VRels.cons hv VRels.nil_,fun v' hv'=>by rw [List.mem_singleton.1 hv'];exact h1⟩
  cases hu:P.underlying t with
  | none=>simp [hu] at hpl
  | some d=>
   cases d<;>simp only [hu] at hpl<;>(try (cases hpl;done))
   case bool=>
    unfold DataW.trod at h
    rw [hu] at h
    match cs,h with
    | [.bool b],h=>cases h;exact ⟨[.b b],one (.b b) rfl,.bool t b hu,by simp [bulkVs,bulkV,Rows.uptoBulk]⟩
   case int k=>
    unfold DataW.trod at h
    rw [hu] at h
    match cs,h with
    | [.int k' m],h=>
     simp only at h
     split at h
     ·rename_i hk
      obtain ⟨rfl,hw⟩:=hk
      cases h
      exact ⟨[.i k' m],one (.i k' m) rfl,.int t k' m hu hw,by simp [bulkVs,bulkV,Rows.uptoBulk]⟩
     ·cases h
   case string=>
    unfold DataW.trod at h
    rw [hu] at h
    match cs,h with
    | [.string s],h=>
     simp only at h
     split at h
     ·rename_i hs
      cases h
      simp only [Rows.uptoBulk] at hb
      refine ⟨[.s s.data.toList],one ?_ rfl,.str t _ hu,by simp [bulkVs,bulkV,Rows.uptoBulk]⟩
      have:=VRel.s (μ:=μ) (H:=fun ad=>w.cell? ad) s.data.toList (by unfold SLim;omega)
      simpa using this
     ·cases h
   case slice e=>
    simp only [Bool.and_eq_true,beq_iff_eq,List.contains_eq_mem,decide_eq_true_eq] at hpl
    obtain ⟨⟨hc1,heT⟩,hpos⟩:=hpl
    rcases DataW.trod_slice hu h with ⟨rfl,rfl⟩|⟨a,len,cap,elems,rest,m,hm,rfl,rfl,hbase,hlc,hcm,hel,helem,_,_⟩
    ·exact ⟨[.sl []],one (.slE none 0) rfl,.sl t e [] hu (fun _ h=>by cases h) (fun _ h=>by cases h) (fun _ h=>by cases h),by simp [bulkVs,bulkV,Rows.uptoBulk]⟩
    ·cases hm
     simp only [Rows.uptoBulk] at hb
     have hepl:=List.all_eq_true.1 hT e heT
     obtain ⟨ag,hag⟩:∃ag,aggT P e=some ag:=by
      unfold aggT
      cases hue:P.underlying e with
      | none=>simp [hue] at hepl
      | some d=>exact ⟨_,rfl⟩
     have each:∀i,i<len->∃(vs:List V) (seg:List Value) (y:DataW H × List MemPlace),elems[i]? = some y/\seg.length=P.cellsOf e/\(∀k,k<P.cellsOf e->w.cell? (a.add (i*P.cellsOf e+k))=seg[k]?)/\CRel μ (fun ad=>w.cell? ad) vs seg/\WtV P e vs/\bulkVs vs<=Rows.uptoBulk y.1:=by
      intro i hi
      have h1:=helem i hi
      have hlt:i<elems.length:=by omega
      rw [List.getElem?_eq_getElem hlt] at h1
      cases hcs:w.cells? base (a.add (i*P.cellsOf e)) (P.cellsOf e) with
      | none=>rw [hcs] at h1;cases h1
      | some seg=>
       rw [hcs] at h1
       obtain ⟨_,hl,hcell⟩:=World.cells?_some hcs
       have hmem:elems[i].1∈elems.map (·.1):=List.mem_map.2 ⟨_,List.getElem_mem hlt,rfl⟩
       have:=bulkAll_mem hmem
       obtain ⟨vs,r1,r2,r3⟩:=ih e seg elems[i] heT h1 (by omega)
       refine ⟨vs,seg,elems[i],List.getElem?_eq_getElem hlt,hl,fun k hk=>?_,r1,r2,r3⟩
       have:=hcell k hk
       rwa [show (a.add (i*P.cellsOf e)).add k=a.add (i*P.cellsOf e+k) from by
        unfold Addr.add
        by_cases hi:i*P.cellsOf e=0<;>by_cases hj:k=0<;>simp [hi,hj,Nat.add_assoc]] at this
     have all:∀j,j<=len->∃(es:List V) (vals:List Value),es.length=j/\vals.length=j*P.cellsOf e/\(∀el∈es,(∃c,el=mkEl ag c/\cells el=c)/\(cells el).length=P.cellsOf e/\WtV P e (cells el))/\CRel μ (fun ad=>w.cell? ad) (flat es) vals/\
       (∀(k:Nat) (v:Value),vals[k]? = some v->w.cell? (a.add k)=some v)/\bulkVs es<=Rows.uptoBulkAll ((elems.map (·.1)).take j):=by
      intro j
      induction j with
      | zero=>intro _;exact ⟨[],[],rfl,by simp,fun _ h=>(by cases h),CRel.nil_,fun k v h=>(by simp at h),by simp [bulkVs]⟩
      | succ j ihj=>
       intro hj
       obtain ⟨es,vals,g1,g2,g3,g4,g5,g6⟩:=ihj (by omega)
       obtain ⟨vs,seg,y,e1,e2,e3,e4,e5,e6⟩:=each j (by omega)
       have hcl:cells (mkEl ag vs)=vs:=mkEl_cells hag e5
       refine ⟨es++[mkEl ag vs],vals++seg,by simp [g1],by rw [List.length_append,g2,e2,Nat.succ_mul],?_,?_,?_,?_⟩
       ·intro el hel'
        rcases List.mem_append.1 hel' with h'|h'
        ·exact g3 el h'
        ·rw [List.mem_singleton.1 h',hcl]
         exact ⟨⟨vs,rfl,rfl⟩,by rw [e4.len,e2],e5⟩
       ·rw [flat_append]
        refine g4.append ?_
        have:flat [mkEl ag vs]=vs:=by simp [flat,hcl]
        rw [this];exact e4
       ·intro k v hk
        rcases Nat.lt_or_ge k vals.length with hlt|hge
        ·rw [List.getElem?_append_left hlt] at hk;exact g5 k v hk
        ·rw [List.getElem?_append_right hge] at hk
         have hklt:k-vals.length<seg.length:=(List.getElem?_eq_some_iff.1 hk).1
         have:=e3 (k-vals.length) (by omega)
         rw [hk,g2,show j*P.cellsOf e+(k-j*P.cellsOf e)=k by omega] at this
         exact this
       ·rw [bulkVs_append]
        have ht:(elems.map (·.1)).take (j+1)=(elems.map (·.1)).take j++[y.1]:=by
         rw [List.take_add_one,List.getElem?_map,e1];rfl
        have hba:∀(a b:List (DataW H)),Rows.uptoBulkAll (a++b)=Rows.uptoBulkAll a+Rows.uptoBulkAll b:=by
         intro a b
         induction a with
         | nil=>simp [Rows.uptoBulkAll]
         | cons x a ih=>simp [Rows.uptoBulkAll,ih];omega
        rw [ht,hba]
        have:=mkEl_bulk hag e5
        simp only [bulkVs,Rows.uptoBulkAll]
        omega
     obtain ⟨es,vals,g1,g2,g3,g4,g5,g6⟩:=all len (Nat.le_refl _)
     have hlen:∀(ds:List (DataW H)),ds.length<=Rows.uptoBulkAll ds:=by
      intro ds
      induction ds with
      | nil=>simp [Rows.uptoBulkAll]
      | cons d ds ih=>
       have:1<=Rows.uptoBulk d:=by
        cases d<;>(try simp only [Rows.uptoBulk])<;>(try omega)
        rename_i l;cases l<;>simp [Rows.uptoBulk]
       simp only [Rows.uptoBulkAll,List.length_cons]
       omega
     have hl1:=hlen (elems.map (·.1))
     rw [List.length_map,hel] at hl1
     refine ⟨[.sl es],one ?_ rfl,.sl t e es hu (by rw [hag];exact fun el h=>(g3 el h).1) (fun el h=>(g3 el h).2.1) (fun el h=>(g3 el h).2.2),?_⟩
     ·have:=VRel.slC (μ:=μ) (H:=fun ad=>w.cell? ad) es a cap (P.cellsOf e) vals (by omega) (by unfold LLim;omega) (fun el hel'=>(g3 el hel').2.1) g4.len g4.one g5 g4.at_
      rw [g1] at this
      exact this
     ·rw [List.take_of_length_le (by simp;omega)] at g6
      simp only [bulkVs,bulkV,Rows.uptoBulk]
      omega
   case struct fs=>
    simp only [Bool.and_eq_true,beq_iff_eq] at hpl
    obtain ⟨hfT,hlay⟩:=hpl
    obtain ⟨xs,m,hm,rfl,hcs,hxl,hf⟩:=DataW.trod_struct hu h
    cases hm
    simp only [Rows.uptoBulk] at hb
    obtain ⟨_,vs,r1,r2,r3⟩:=read_fields (P:=P) (μ:=μ) (Hc:=fun ad=>w.cell? ad) (cs:=cs) fs.toList 0 (P.cellsOf t) (xs.map (·.1)) hlay hcs (by simp [hxl]) (fun i f d hfi hdi=>by
     have hfi':fs[i]? = some f:=by rw [<-Array.getElem?_toList];exact hfi
     have h1:=hf i f hfi'
     rw [List.getElem?_map] at hdi
     cases hx:xs[i]? with
     | none=>rw [hx] at hdi;cases hdi
     | some y=>
      rw [hx] at hdi h1
      cases hdi
      have hmem:y.1∈xs.map (·.1):=List.mem_map.2 ⟨y,List.mem_of_getElem? hx,rfl⟩
      have:=bulkAll_mem hmem
      have hft:f.type∈T:=by
       have:=List.all_eq_true.1 hfT f (List.mem_of_getElem? hfi)
       simpa using this
      exact ih f.type _ y hft h1 (by omega))
    rw [List.drop_zero] at r1
    refine ⟨vs,r1,.st t fs vs hu (by rw [r1.len,hcs]) (fun f hf'=>by simpa using r2 [] rfl f hf'),?_⟩
    simp only [Rows.uptoBulk]
    omega
end
end Go.Ir
end
section
namespace Go.Ir
open Go.RowKit Go.ChangeShapes Go.WideShapes
section
variable {H : Type} {enc : TypeId × Value → H} {P : Program} {W W' : World}
theorem trodAll_stays (hl:laidOutB P=true) (hb:Below W.heap.size W W') {sp:Nat->Bool}:∀(ts:List TypeId) (vs:List Value) (ds:List (DataW H)) (ps:List MemPlace),(∀t∈ts,P.readableRec t=true/\t<P.types.size)->
  DataW.TrodAll enc P W 0 (fun _=>true) true ts vs ds ps->(∀x∈ps,x.block<W.heap.size)->(∀x∈ps,sp x.block=true)->DataW.TrodAll enc P W' 0 sp true ts vs ds ps
 | [],vs,ds,ps,_,h,_,_=>by
  obtain ⟨rfl,rfl,rfl⟩:=trodAll_nil h
  exact trodAll_mk0
 | t::ts,vs,ds,ps,hts,h,hlt,hsp=>by
  obtain ⟨v,vs',d,ds',p,q,rfl,rfl,rfl,h1,h2⟩:=trodAll_cons h
  obtain ⟨hr,hrow⟩:=hts t (by simp)
  refine trodAll_cons_mk (WideElems.Trod_stays hl hr hrow h1 (fun x hx=>hb.same (hlt x (by simp [hx]))) (fun x hx=>hsp x (by simp [hx]))) (trodAll_stays hl hb ts vs' ds' q (fun t' ht'=>hts t' (by simp [ht'])) h2 (fun x hx=>hlt x (by simp [hx])) (fun x hx=>hsp x (by simp [hx])))
theorem post_true {f:Func} {s:ChangeSpec} {apart fresh handsOn again:Bool} {args:Array Value} {ds gs:List (DataW H)} {before:List MemPlace} {tb:TypeId}
  (hl:laidOutB P=true) (hts:∀t∈f.params.toList,P.readableRec t=true/\t<P.types.size) (hrt:f.resultTypes = #[tb]) (htb:P.underlying tb=some .bool) (hv:s.vars=[])
  (hfn:s.fn H (ds++gs)={ results:=[.lit (.bool true)],args:=ds })
  (hW:DataW.Whole enc P f.params.toList s.vars apart W args.toList ds gs before) (hb:Below W.heap.size W W'):s.post enc P f apart fresh handsOn again W args (.bool true) W':=by
 have hlt:∀p∈before,p.block<W.heap.size:=fun p hp=>hW.lt p hp
 have hW':=hW
 obtain ⟨p,q,hA,hV,rfl,hz,hn⟩:=hW
 rw [hv] at hV
 obtain ⟨rfl,rfl⟩:=trodVars_none hV
 simp only [List.append_nil] at *
 have hold:∀x∈p,(fun b=>decide (b<W.heap.size)) x.block=true:=fun x hx=>by simpa using hlt x hx
 have hargs:∀sp:Nat->Bool,(∀x∈p,sp x.block=true)->DataW.TrodAll enc P W' 0 sp true f.params.toList args.toList ds p:=fun sp hsp=>trodAll_stays hl hb _ _ _ _ hts hA hlt hsp
 have hres:∀(b:Nat) (sp:Nat->Bool) (hd:Bool),DataW.TrodAll enc P W' b sp hd f.resultTypes.toList ((Value.bool true).resultList f.resultTypes.size) [.lit (.bool true)] []:=by
  intro b sp hd
  rw [hrt]
  exact trodAll_cons_mk (p:=[]) (p':=[]) (shut_bool htb _) trodAll_mk0
 refine ⟨ds,[],p,[],p,[],hW',?_,?_,?_,World.keptBut_mono (fun x hx=>⟨hx,.inr (.inl hx)⟩) (hb.frame _),fun _=>?_⟩
 ·rw [List.append_nil,hfn];exact hres _ _ _
 ·rw [List.append_nil,hfn];exact hargs _ hold
 ·rw [hv,List.append_nil,hfn];rfl
 ·refine ⟨ok_one hrt rfl (okWide_bool_mk htb _),.lit (.bool true)::ds,[],p,⟨p,[],?_,by rw [hv];rfl,by simp,?_,?_⟩,fun x hx _=>hx⟩
  ·rw [hrt]
   exact trodAll_cons_mk (p:=[]) (shut_bool htb _) (hargs _ (fun _ _=>rfl))
  ·intro b off hp
   have:=hlt _ hp
   have hfz:=hb.frozen (p:=⟨b,off,none⟩) this
   rw [hfz]
   exact hz b off (by simpa using hp)
  ·intro ha;exact hn ha
theorem Hp.start (W:World) (n:Nat):Hp W [] n (fun _=>none) (fun ad=>W.cell? ad) W where
 base:=Below.refl _ _
 pins _ _ h:=h
 ents _ _ h:=by simp [lk] at h
 unp bk ho:=by obtain ⟨id,e,h,_⟩:=ho;simp [lk] at h
 sep _ _ _ _ _ h:=by simp [lk] at h
 bd _ _:=rfl
theorem calls_true {f:FuncId} {args:List V} {vals:List Value} (h:RetS P W f args [] (.b true) []) (hv:VRels (fun _=>none) (fun ad=>W.cell? ad) args vals) :
  Calls P f vals.toArray W fun e W'=>e = .returned (.bool true)/\Below W.heap.size W W':=
 (h.run 0 W _ _ vals (Hp.start W 0) hv).mono fun e W' ⟨val,μ',H',n',he,hr,hp,_⟩=>⟨by rw [he,hr.b_inv],hp.base⟩
end
end Go.Ir
end
section
namespace Go.Ir
open Go.Proofs
section
variable {P : Program}
theorem WtV.int_inv {t:TypeId} {k:IntKind} {v:V} (h:WtV P t [v]) (ht:P.underlying t=some (.int k)):∃n,v = .i k n/\(Lit.int k n).wf=true:=by
 cases h with
 | int _ k' n h hw=>rw [ht] at h;cases h;exact ⟨n,rfl,hw⟩
 | bool _ b h=>rw [ht] at h;cases h
 | str _ l h=>rw [ht] at h;cases h
 | sl _ e es h _ _ _=>rw [ht] at h;cases h
 | st _ fs vs h _ _=>rw [ht] at h;cases h
theorem WtV.str_inv {t:TypeId} {v:V} (h:WtV P t [v]) (ht:P.underlying t=some .string):∃l,v = .s l:=by
 cases h with
 | int _ k' n h hw=>rw [ht] at h;cases h
 | bool _ b h=>rw [ht] at h;cases h
 | str _ l h=>exact ⟨l,rfl⟩
 | sl _ e es h _ _ _=>rw [ht] at h;cases h
 | st _ fs vs h _ _=>rw [ht] at h;cases h
theorem WtV.sl_inv {t e:TypeId} {v:V} (h:WtV P t [v]) (ht:P.underlying t=some (.slice e)):∃es,v = .sl es/\(∀el∈es,∃c,el=mkEl ((aggT P e).getD false) c/\cells el=c)/\(∀el∈es,(cells el).length=P.cellsOf e)/\(∀el∈es,WtV P e (cells el)):=by
 cases h with
 | int _ k' n h hw=>rw [ht] at h;cases h
 | bool _ b h=>rw [ht] at h;cases h
 | str _ l h=>rw [ht] at h;cases h
 | sl _ e' es h h1 h2 h3=>rw [ht] at h;cases h;exact ⟨es,rfl,h1,h2,h3⟩
 | st _ fs vs h _ _=>rw [ht] at h;cases h
theorem WtV.st_inv {t:TypeId} {fs:Array Field} {vs:List V} (h:WtV P t vs) (ht:P.underlying t=some (.struct fs)):vs.length=P.cellsOf t/\∀f∈fs.toList,WtV P f.type ((vs.drop f.offset).take (P.cellsOf f.type)):=by
 cases h with
 | int _ k' n h hw=>rw [ht] at h;cases h
 | bool _ b h=>rw [ht] at h;cases h
 | str _ l h=>rw [ht] at h;cases h
 | sl _ e' es h h1 h2 h3=>rw [ht] at h;cases h
 | st _ fs' vs h h1 h2=>rw [ht] at h;cases h;exact ⟨h1,h2⟩
end
theorem len2 {l:List V} (h:l.length=2):∃a b,l=[a,b]:=by
 match l,h with
 | [a,b],_=>exact ⟨a,b,rfl⟩
theorem len6 {l:List V} (h:l.length=6):∃a b c d e f,l=[a,b,c,d,e,f]:=by
 match l,h with
 | [a,b,c,d,e,f],_=>exact ⟨a,b,c,d,e,f,rfl⟩
theorem c9:Tryz.prog.cellsOf 9=1:=by kernel_rfl
theorem c3:Tryz.prog.cellsOf 3=1:=by kernel_rfl
theorem c31:Tryz.prog.cellsOf 31=1:=by kernel_rfl
theorem c50:Tryz.prog.cellsOf 41=1:=by kernel_rfl
theorem c52:Tryz.prog.cellsOf 43=6:=by kernel_rfl
theorem c54:Tryz.prog.cellsOf 75=2:=by kernel_rfl
theorem a52:aggT Tryz.prog 43=some true:=by kernel_rfl
theorem a54:aggT Tryz.prog 75=some true:=by kernel_rfl
theorem parts_of:∀(N:Nat) (v:V),bulkV v<=N->WtV Tryz.prog 31 [v]->∃ps,v = .sl (encPs ps)/\wtPs ps<=bulkV v:=by
 intro N
 induction N with
 | zero=>intro v h;cases v<;>simp [bulkV] at h<;>intro hw<;>obtain ⟨es,he,_⟩:=hw.sl_inv Tryz.underlying31<;>cases he
 | succ N ih=>
  intro v hN hw
  obtain ⟨es,rfl,h1,h2,h3⟩:=hw.sl_inv Tryz.underlying31
  rw [a52] at h1
  simp only [Option.getD_some] at h1
  simp only [bulkV] at hN⊢
  have hcs:∀v:V,bulkV v<=N->WtV Tryz.prog 41 [v]->∃cs,v = .sl (encCs cs)/\wtCs cs<=bulkV v:=by
   intro v hv hw
   obtain ⟨es,rfl,h1,h2,h3⟩:=hw.sl_inv Tryz.underlying41
   rw [a54] at h1
   simp only [Option.getD_some] at h1
   simp only [bulkV] at hv⊢
   have:∃cs,es=encCs cs/\wtCs cs<=bulkVs es:=by
    clear hw
    induction es with
    | nil=>exact ⟨[],by simp [encCs],by simp [wtCs]⟩
    | cons el es ihe=>
     simp only [bulkVs] at hv⊢
     obtain ⟨cs,hcs,hcw⟩:=ihe (by omega) (fun x hx=>h1 x (List.mem_cons_of_mem _ hx)) (fun x hx=>h2 x (List.mem_cons_of_mem _ hx)) (fun x hx=>h3 x (List.mem_cons_of_mem _ hx))
     obtain ⟨c,rfl,_⟩:=h1 el (by simp)
     have hst:=h3 (mkEl true c) (by simp)
     have hc:cells (mkEl true c)=c:=rfl
     rw [hc] at hst
     obtain ⟨hl,hf⟩:=hst.st_inv Tryz.underlying75
     rw [c54] at hl
     obtain ⟨x0,x1,rfl⟩:=len2 hl
     have f0:=hf _ (by exact List.mem_cons_self)
     have f1:=hf _ (by exact List.mem_cons_of_mem _ List.mem_cons_self)
     simp only [c9,c31,List.drop_zero,List.drop_succ_cons,List.take_succ_cons,List.take_zero] at f0 f1
     obtain ⟨k,rfl⟩:=f0.str_inv Tryz.underlying9
     have hb:bulkV (mkEl true [.s k,x1])=k.length+1+bulkV x1:=by simp [mkEl,bulkV,bulkVs]
     rw [hb] at hv⊢
     obtain ⟨ps,rfl,hpw⟩:=ih x1 (by omega) f1
     refine ⟨(k,ps)::cs,by rw [hcs];simp [encCs,mkEl],?_⟩
     rw [wtCs_cons]
     simp only
     omega
   obtain ⟨cs,rfl,hw⟩:=this
   exact ⟨cs,rfl,by omega⟩
  have:∃ps,es=encPs ps/\wtPs ps<=bulkVs es:=by
   clear hw
   induction es with
   | nil=>exact ⟨[],by simp [encPs],by simp [wtPs]⟩
   | cons el es ihe=>
    simp only [bulkVs] at hN⊢
    obtain ⟨ps,hps,hpw⟩:=ihe (by omega) (fun x hx=>h1 x (List.mem_cons_of_mem _ hx)) (fun x hx=>h2 x (List.mem_cons_of_mem _ hx)) (fun x hx=>h3 x (List.mem_cons_of_mem _ hx))
    obtain ⟨c,rfl,_⟩:=h1 el (by simp)
    have hst:=h3 (mkEl true c) (by simp)
    have hc:cells (mkEl true c)=c:=rfl
    rw [hc] at hst
    obtain ⟨hl,hf⟩:=hst.st_inv Tryz.underlying43
    rw [c52] at hl
    obtain ⟨x0,x1,x2,x3,x4,x5,rfl⟩:=len6 hl
    have f0:=hf _ (by exact List.mem_cons_self)
    have f1:=hf _ (by exact List.mem_cons_of_mem _ List.mem_cons_self)
    have f2:=hf _ (by exact List.mem_cons_of_mem _ (List.mem_cons_of_mem _ List.mem_cons_self))
    have f3:=hf _ (by exact List.mem_cons_of_mem _ (List.mem_cons_of_mem _ (List.mem_cons_of_mem _ List.mem_cons_self)))
    have f4:=hf _ (by exact List.mem_cons_of_mem _ (List.mem_cons_of_mem _ (List.mem_cons_of_mem _ (List.mem_cons_of_mem _ List.mem_cons_self))))
    have f5:=hf _ (by exact List.mem_cons_of_mem _ (List.mem_cons_of_mem _ (List.mem_cons_of_mem _ (List.mem_cons_of_mem _ (List.mem_cons_of_mem _ List.mem_cons_self)))))
    simp only [c9,c31,c3,c50,List.drop_zero,List.drop_succ_cons,List.take_succ_cons,List.take_zero] at f0 f1 f2 f3 f4 f5
    obtain ⟨k,rfl,hk⟩:=f0.int_inv Tryz.underlying3
    obtain ⟨t,rfl⟩:=f1.str_inv Tryz.underlying9
    obtain ⟨n,rfl⟩:=f2.str_inv Tryz.underlying9
    obtain ⟨s,rfl⟩:=f3.str_inv Tryz.underlying9
    have hb:bulkV (mkEl true [.i .i64 k,.s t,.s n,.s s,x4,x5])=1+(t.length+1)+(n.length+1)+(s.length+1)+bulkV x4+bulkV x5:=by simp [mkEl,bulkV,bulkVs];omega
    rw [hb] at hN⊢
    obtain ⟨cs,rfl,hcw⟩:=hcs x4 (by omega) f4
    obtain ⟨qs,rfl,hqw⟩:=ih x5 (by omega) f5
    refine ⟨⟨k,t,n,s,cs,qs⟩::ps,by rw [hps];simp [encPs,Part.enc,mkEl],?_⟩
    rw [wtPs_cons,Part.wt_eq]
    simp only
    omega
  obtain ⟨ps,rfl,hw'⟩:=this
  exact ⟨ps,rfl,by omega⟩
end Go.Ir
end
section
namespace Go.Ir
open Go.Proofs
def sumW {α:Type} (w:α->Nat):List α->Nat
 | []=>0
 | x::xs=>w x+sumW w xs
theorem list_of {α:Type} {G:V->Prop} (enc:α->V) (w:α->Nat) (hel:∀el,G el->∃x,el=enc x/\w x<=bulkV el):∀es,(∀el∈es,G el)->∃xs,es=xs.map enc/\sumW w xs<=bulkVs es:=by
 intro es
 induction es with
 | nil=>intro _;exact ⟨[],rfl,by simp [sumW]⟩
 | cons e es ih=>
  intro h
  obtain ⟨xs,h1,h2⟩:=ih fun x hx=>h x (by simp [hx])
  obtain ⟨x,h3,h4⟩:=hel e (h e (by simp))
  exact ⟨x::xs,by rw [h1,h3];rfl,by simp only [sumW,bulkVs];omega⟩
section
variable {P : Program}
theorem slice_of {α:Type} {t e:TypeId} {v:V} (h:WtV P t [v]) (ht:P.underlying t=some (.slice e)) (ha:aggT P e=some true) (enc:α->V) (w:α->Nat) (hel:∀c,WtV P e c->∃x,V.agg c=enc x/\w x<=bulkVs c) :
  ∃xs:List α,v = .sl (xs.map enc)/\sumW w xs+1<=bulkV v:=by
 obtain ⟨es,rfl,h1,h2,h3⟩:=h.sl_inv ht
 rw [ha] at h1
 obtain ⟨xs,hx,hw⟩:=list_of (G:=fun el=>∃c,el=V.agg c/\WtV P e c) enc w (fun el ⟨c,hc,hwt⟩=>by
  subst hc
  obtain ⟨x,hx,hwx⟩:=hel c hwt
  exact ⟨x,hx,by simpa [bulkV] using hwx⟩) es fun el hm=>by
  obtain ⟨c,hc,hcc⟩:=h1 el hm
  have:=h3 el hm
  rw [hcc] at this
  exact ⟨c,hc,this⟩
 exact ⟨xs,by rw [hx],by simp only [bulkV];omega⟩
theorem slice_of1 {α:Type} {t e e2:TypeId} {v:V} (h:WtV P t [v]) (ht:P.underlying t=some (.slice e)) (he:P.underlying e=some (.slice e2)) (ha:aggT P e=some false) (hc1:P.cellsOf e=1) (enc:α->V) (w:α->Nat) (hel:∀v,WtV P e [v]->∃x,v=enc x/\w x<=bulkV v) :
  ∃xs:List α,v = .sl (xs.map enc)/\sumW w xs+1<=bulkV v:=by
 obtain ⟨es,rfl,h1,h2,h3⟩:=h.sl_inv ht
 rw [ha] at h1
 obtain ⟨xs,hx,hw⟩:=list_of (G:=fun el=>WtV P e [el]) enc w hel es fun el hm=>by
  obtain ⟨c,hc,hcc⟩:=h1 el hm
  have h4:=h3 el hm
  have h5:=h2 el hm
  rw [hcc] at h4 h5
  rw [hc1] at h5
  match c,h5 with
  | [x],_=>
   have:el=x:=hc
   rw [this];exact h4
 exact ⟨xs,by rw [hx],by simp only [bulkV];omega⟩
theorem WtV.bool_inv {t:TypeId} {v:V} (h:WtV P t [v]) (ht:P.underlying t=some .bool):∃b,v = .b b:=by
 cases h with
 | int _ k' n h hw=>rw [ht] at h;cases h
 | bool _ b h=>exact ⟨b,rfl⟩
 | str _ l h=>rw [ht] at h;cases h
 | sl _ e es h _ _ _=>rw [ht] at h;cases h
 | st _ fs vs h _ _=>rw [ht] at h;cases h
end
theorem len4 {l:List V} (h:l.length=4):∃a b c d,l=[a,b,c,d]:=by
 match l,h with
 | [a,b,c,d],_=>exact ⟨a,b,c,d,rfl⟩
theorem sum1 {α:Type} (xs:List α):sumW (fun _=>1) xs=xs.length:=by
 induction xs with
 | nil=>rfl
 | cons x xs ih=>simp only [sumW,ih,List.length_cons];omega
theorem cSpan:Tryz.prog.cellsOf 217=2:=by kernel_rfl
theorem cRel:Tryz.prog.cellsOf 116=4:=by kernel_rfl
theorem cRule:Tryz.prog.cellsOf 87=2:=by kernel_rfl
theorem cRels:Tryz.prog.cellsOf 113=1:=by kernel_rfl
theorem cSpans:Tryz.prog.cellsOf 114=1:=by kernel_rfl
theorem cCond:Tryz.prog.cellsOf 85=1:=by kernel_rfl
theorem cRules:Tryz.prog.cellsOf 22=1:=by kernel_rfl
theorem cBool:Tryz.prog.cellsOf 4=1:=by kernel_rfl
theorem cLoc:Tryz.prog.cellsOf 30=16:=by kernel_rfl
theorem aSpan:aggT Tryz.prog 217=some true:=by kernel_rfl
theorem aRel:aggT Tryz.prog 116=some true:=by kernel_rfl
theorem aRels:aggT Tryz.prog 113=some false:=by kernel_rfl
theorem aRule:aggT Tryz.prog 87=some true:=by kernel_rfl
theorem span_of (c:List V) (h:WtV Tryz.prog 217 c):∃x:Span,V.agg c=x.enc/\1<=bulkVs c:=by
 obtain ⟨hl,hf⟩:=h.st_inv Tryz.underlying217
 rw [cSpan] at hl
 obtain ⟨x0,x1,rfl⟩:=len2 hl
 have f0:=hf _ (by exact List.mem_cons_self)
 have f1:=hf _ (by exact List.mem_cons_of_mem _ List.mem_cons_self)
 simp only [c3,List.drop_zero,List.drop_succ_cons,List.take_succ_cons,List.take_zero] at f0 f1
 obtain ⟨a,rfl,_⟩:=f0.int_inv Tryz.underlying3
 obtain ⟨b,rfl,_⟩:=f1.int_inv Tryz.underlying3
 exact ⟨⟨a,b⟩,rfl,by simp [bulkVs,bulkV]⟩
theorem rel_of (c:List V) (h:WtV Tryz.prog 116 c):∃x:Rel,V.agg c=x.enc/\x.wt<=bulkVs c:=by
 obtain ⟨hl,hf⟩:=h.st_inv Tryz.underlying116
 rw [cRel] at hl
 obtain ⟨x0,x1,x2,x3,rfl⟩:=len4 hl
 have f0:=hf _ (by exact List.mem_cons_self)
 have f1:=hf _ (by exact List.mem_cons_of_mem _ List.mem_cons_self)
 have f2:=hf _ (by exact List.mem_cons_of_mem _ (List.mem_cons_of_mem _ List.mem_cons_self))
 have f3:=hf _ (by exact List.mem_cons_of_mem _ (List.mem_cons_of_mem _ (List.mem_cons_of_mem _ List.mem_cons_self)))
 simp only [c3,cBool,cSpans,List.drop_zero,List.drop_succ_cons,List.take_succ_cons,List.take_zero] at f0 f1 f2 f3
 obtain ⟨a,rfl,_⟩:=f0.int_inv Tryz.underlying3
 obtain ⟨b,rfl,_⟩:=f1.int_inv Tryz.underlying3
 obtain ⟨n,rfl⟩:=f2.bool_inv Tryz.underlying4
 obtain ⟨xs,rfl,hw⟩:=slice_of f3 Tryz.underlying114 aSpan Span.enc (fun _=>1) span_of
 rw [sum1] at hw
 refine ⟨⟨a,b,n,xs⟩,rfl,?_⟩
 simp only [bulkVs,bulkV] at hw⊢
 unfold Rel.wt
 simp only;omega
theorem sum_rels (xs:List Rel):wtRels xs=sumW Rel.wt xs+1:=by
 induction xs with
 | nil=>rfl
 | cons x xs ih=>simp only [sumW,wtRels,ih];omega
theorem sum_cond (xs:List (List Rel)):wtCond xs=sumW wtRels xs:=by
 induction xs with
 | nil=>rfl
 | cons x xs ih=>simp only [sumW,wtCond,ih]
theorem sum_rules (xs:List Rule):wtRules xs=sumW Rule.wt xs:=by
 induction xs with
 | nil=>rfl
 | cons x xs ih=>simp only [sumW,wtRules,ih]
theorem rels_of (v:V) (h:WtV Tryz.prog 113 [v]):∃x:List Rel,v=relsV x/\wtRels x<=bulkV v:=by
 obtain ⟨xs,rfl,hw⟩:=slice_of h Tryz.underlying113 aRel Rel.enc Rel.wt rel_of
 exact ⟨xs,rfl,by rw [sum_rels];exact hw⟩
theorem rule_of (c:List V) (h:WtV Tryz.prog 87 c):∃x:Rule,V.agg c=x.enc/\x.wt<=bulkVs c:=by
 obtain ⟨hl,hf⟩:=h.st_inv Tryz.underlying87
 rw [cRule] at hl
 obtain ⟨x0,x1,rfl⟩:=len2 hl
 have f0:=hf _ (by exact List.mem_cons_self)
 have f1:=hf _ (by exact List.mem_cons_of_mem _ List.mem_cons_self)
 simp only [c9,cCond,List.drop_zero,List.drop_succ_cons,List.take_succ_cons,List.take_zero] at f0 f1
 obtain ⟨a,rfl⟩:=f0.str_inv Tryz.underlying9
 obtain ⟨xs,rfl,hw⟩:=slice_of1 f1 Tryz.underlying85 Tryz.underlying113 aRels cRels relsV wtRels rels_of
 refine ⟨⟨a,xs⟩,rfl,?_⟩
 unfold Rule.wt
 rw [sum_cond]
 simp only [bulkVs,bulkV] at hw⊢
 omega
end Go.Ir
end
namespace Go.Ir
open Go.Proofs
def bw (s:Bytes):Nat:=s.length+1
theorem aStr:aggT Tryz.prog 9=some false:=by kernel_rfl
theorem strs_of (v:V) (h:WtV Tryz.prog 28 [v]):∃l:List Bytes,v = .sl (l.map V.s)/\sumW bw l+1<=bulkV v:=by
 obtain ⟨es,rfl,h1,h2,h3⟩:=h.sl_inv Tryz.underlying28
 rw [aStr] at h1
 obtain ⟨xs,hx,hw⟩:=list_of (G:=fun el=>WtV Tryz.prog 9 [el]) V.s bw (fun el h=>by
  obtain ⟨s,rfl⟩:=h.str_inv Tryz.underlying9
  exact ⟨s,rfl,by unfold bw;simp [bulkV]⟩) es fun el hm=>by
  obtain ⟨c,hc,hcc⟩:=h1 el hm
  have h4:=h3 el hm
  have h5:=h2 el hm
  rw [hcc] at h4 h5
  rw [c9] at h5
  match c,h5 with
  | [x],_=>
   have:el=x:=hc
   rw [this];exact h4
 exact ⟨xs,by rw [hx],by simp only [bulkV];omega⟩
theorem sumW_mem {α:Type} {w:α->Nat} {l:List α} {x:α} (h:x∈l):w x<=sumW w l:=by
 induction l with
 | nil=>cases h
 | cons y l ih=>
  simp only [sumW]
  rcases List.mem_cons.1 h with rfl|h
  ·omega
  ·have:=ih h;omega
theorem sumW_len {α:Type} {w:α->Nat} {l:List α} (h:∀x,1<=w x):l.length<=sumW w l:=by
 induction l with
 | nil=>simp [sumW]
 | cons y l ih=>
  simp only [sumW,List.length_cons]
  have:=h y;omega
theorem len3 {l:List V} (h:l.length=3):∃a b c,l=[a,b,c]:=by
 match l,h with
 | [a,b,c],_=>exact ⟨a,b,c,rfl⟩
theorem len5 {l:List V} (h:l.length=5):∃a b c d e,l=[a,b,c,d,e]:=by
 match l,h with
 | [a,b,c,d,e],_=>exact ⟨a,b,c,d,e,rfl⟩
theorem cStrs:Tryz.prog.cellsOf 28=1:=by kernel_rfl
theorem cVal:Tryz.prog.cellsOf 47=5:=by kernel_rfl
theorem aVal:aggT Tryz.prog 47=some true:=by kernel_rfl
theorem val_of (c:List V) (h:WtV Tryz.prog 47 c):∃x:Val,V.agg c=x.enc/\x.wt<=bulkVs c:=by
 obtain ⟨hl,hf⟩:=h.st_inv Tryz.underlying47
 rw [cVal] at hl
 obtain ⟨x0,x1,x2,x3,x4,rfl⟩:=len5 hl
 have f0:=hf _ (by exact List.mem_cons_self)
 have f1:=hf _ (by exact List.mem_cons_of_mem _ List.mem_cons_self)
 have f2:=hf _ (by exact List.mem_cons_of_mem _ (List.mem_cons_of_mem _ List.mem_cons_self))
 have f3:=hf _ (by exact List.mem_cons_of_mem _ (List.mem_cons_of_mem _ (List.mem_cons_of_mem _ List.mem_cons_self)))
 have f4:=hf _ (by exact List.mem_cons_of_mem _ (List.mem_cons_of_mem _ (List.mem_cons_of_mem _ (List.mem_cons_of_mem _ List.mem_cons_self))))
 simp only [c9,c3,cStrs,List.drop_zero,List.drop_succ_cons,List.take_succ_cons,List.take_zero] at f0 f1 f2 f3 f4
 obtain ⟨n,rfl⟩:=f0.str_inv Tryz.underlying9
 obtain ⟨t,rfl,_⟩:=f1.int_inv Tryz.underlying3
 obtain ⟨x,rfl⟩:=f2.str_inv Tryz.underlying9
 obtain ⟨d,rfl,_⟩:=f3.int_inv Tryz.underlying3
 obtain ⟨xs,rfl,hw⟩:=strs_of x4 f4
 refine ⟨⟨n,t,x,d,xs⟩,rfl,?_⟩
 have:=sumW_len (w:=bw) (l:=xs) (fun _=>by unfold bw;omega)
 simp only [bulkVs,bulkV] at hw⊢
 unfold Val.wt
 simp only;omega
theorem vals_of (v:V) (h:WtV Tryz.prog 32 [v]):∃l:List Val,v = .sl (l.map Val.enc)/\sumW Val.wt l<=bulkV v:=by
 obtain ⟨xs,rfl,hw⟩:=slice_of h Tryz.underlying32 aVal Val.enc Val.wt val_of
 exact ⟨xs,rfl,by omega⟩
theorem vals_bd {l:List Val} {n:Nat} (h:sumW Val.wt l<=n):l.length<=n/\∀v∈l,v.text.length<=n/\v.list.length<=n:=by
 have:=sumW_len (w:=Val.wt) (l:=l) (fun x=>by unfold Val.wt;omega)
 refine ⟨by omega,fun v hv=>?_⟩
 have h2:=sumW_mem (w:=Val.wt) hv
 have h3:v.wt=1+v.name.length+v.text.length+v.list.length:=rfl
 exact ⟨by omega,by omega⟩
theorem cLst:Tryz.prog.cellsOf 119=5:=by kernel_rfl
theorem cUnt:Tryz.prog.cellsOf 121=3:=by kernel_rfl
theorem cDat:Tryz.prog.cellsOf 123=2:=by kernel_rfl
theorem cSym:Tryz.prog.cellsOf 24=6:=by kernel_rfl
theorem cLsts:Tryz.prog.cellsOf 25=1:=by kernel_rfl
theorem cUnts:Tryz.prog.cellsOf 26=1:=by kernel_rfl
theorem cDats:Tryz.prog.cellsOf 27=1:=by kernel_rfl
theorem cVals:Tryz.prog.cellsOf 32=1:=by kernel_rfl
theorem cCase32:Tryz.prog.cellsOf 34=19:=by kernel_rfl
theorem aLst:aggT Tryz.prog 119=some true:=by kernel_rfl
theorem aUnt:aggT Tryz.prog 121=some true:=by kernel_rfl
theorem aDat:aggT Tryz.prog 123=some true:=by kernel_rfl
def lstW (x:Lst):Nat:=bw x.style+bw x.two+bw x.start+bw x.mid+bw x.fin
def untW (x:Unt):Nat:=bw x.unit+bw x.cls+bw x.pat
def datW (x:Dat):Nat:=bw x.skel+bw x.pat
theorem lst_of (c:List V) (h:WtV Tryz.prog 119 c):∃x:Lst,V.agg c=x.enc/\lstW x<=bulkVs c:=by
 obtain ⟨hl,hf⟩:=h.st_inv Tryz.underlying119
 rw [cLst] at hl
 obtain ⟨x0,x1,x2,x3,x4,rfl⟩:=len5 hl
 have f0:=hf _ (by exact List.mem_cons_self)
 have f1:=hf _ (by exact List.mem_cons_of_mem _ List.mem_cons_self)
 have f2:=hf _ (by exact List.mem_cons_of_mem _ (List.mem_cons_of_mem _ List.mem_cons_self))
 have f3:=hf _ (by exact List.mem_cons_of_mem _ (List.mem_cons_of_mem _ (List.mem_cons_of_mem _ List.mem_cons_self)))
 have f4:=hf _ (by exact List.mem_cons_of_mem _ (List.mem_cons_of_mem _ (List.mem_cons_of_mem _ (List.mem_cons_of_mem _ List.mem_cons_self))))
 simp only [c9,List.drop_zero,List.drop_succ_cons,List.take_succ_cons,List.take_zero] at f0 f1 f2 f3 f4
 obtain ⟨s0,rfl⟩:=f0.str_inv Tryz.underlying9
 obtain ⟨s1,rfl⟩:=f1.str_inv Tryz.underlying9
 obtain ⟨s2,rfl⟩:=f2.str_inv Tryz.underlying9
 obtain ⟨s3,rfl⟩:=f3.str_inv Tryz.underlying9
 obtain ⟨s4,rfl⟩:=f4.str_inv Tryz.underlying9
 exact ⟨⟨s0,s1,s2,s3,s4⟩,rfl,by simp only [lstW,bw,bulkVs,bulkV];omega⟩
theorem unt_of (c:List V) (h:WtV Tryz.prog 121 c):∃x:Unt,V.agg c=x.enc/\untW x<=bulkVs c:=by
 obtain ⟨hl,hf⟩:=h.st_inv Tryz.underlying121
 rw [cUnt] at hl
 obtain ⟨x0,x1,x2,rfl⟩:=len3 hl
 have f0:=hf _ (by exact List.mem_cons_self)
 have f1:=hf _ (by exact List.mem_cons_of_mem _ List.mem_cons_self)
 have f2:=hf _ (by exact List.mem_cons_of_mem _ (List.mem_cons_of_mem _ List.mem_cons_self))
 simp only [c9,List.drop_zero,List.drop_succ_cons,List.take_succ_cons,List.take_zero] at f0 f1 f2
 obtain ⟨s0,rfl⟩:=f0.str_inv Tryz.underlying9
 obtain ⟨s1,rfl⟩:=f1.str_inv Tryz.underlying9
 obtain ⟨s2,rfl⟩:=f2.str_inv Tryz.underlying9
 exact ⟨⟨s0,s1,s2⟩,rfl,by simp only [untW,bw,bulkVs,bulkV];omega⟩
theorem dat_of (c:List V) (h:WtV Tryz.prog 123 c):∃x:Dat,V.agg c=x.enc/\datW x<=bulkVs c:=by
 obtain ⟨hl,hf⟩:=h.st_inv Tryz.underlying123
 rw [cDat] at hl
 obtain ⟨x0,x1,rfl⟩:=len2 hl
 have f0:=hf _ (by exact List.mem_cons_self)
 have f1:=hf _ (by exact List.mem_cons_of_mem _ List.mem_cons_self)
 simp only [c9,List.drop_zero,List.drop_succ_cons,List.take_succ_cons,List.take_zero] at f0 f1
 obtain ⟨s0,rfl⟩:=f0.str_inv Tryz.underlying9
 obtain ⟨s1,rfl⟩:=f1.str_inv Tryz.underlying9
 exact ⟨⟨s0,s1⟩,rfl,by simp only [datW,bw,bulkVs,bulkV];omega⟩
theorem len16x {l:List V} (h:l.length=16):∃a b c d e s0 s1 s2 s3 s4 s5 f g i j k,l=[a,b,c,d,e,s0,s1,s2,s3,s4,s5,f,g,i,j,k]:=by
 match l,h with
 | [a,b,c,d,e,s0,s1,s2,s3,s4,s5,f,g,i,j,k],_=>exact ⟨a,b,c,d,e,s0,s1,s2,s3,s4,s5,f,g,i,j,k,rfl⟩
theorem szS_le (l:List Bytes):szS l<=30*sumW bw l:=by
 induction l with
 | nil=>simp [szS,wtOf,sumW]
 | cons x l ih=>unfold szS at *;simp only [wtOf,sumW,sz1,bw] at *;omega
theorem wtOf_le {α:Type} {f g:α->Nat} (h:∀x,f x<=30*g x) (l:List α):wtOf f l<=30*sumW g l:=by
 induction l with
 | nil=>simp [wtOf,sumW]
 | cons x l ih=>simp only [wtOf,sumW];have:=h x;omega
set_option maxHeartbeats 2000000 in
theorem lcl_of (c:List V) (h:WtV Tryz.prog 30 c):∃l:Lcl,V.agg c=l.enc/\szL l<=200*bulkVs c/\wtRules l.card+wtRules l.ord<=bulkVs c:=by
 obtain ⟨hl,hf⟩:=h.st_inv Tryz.underlying30
 rw [cLoc] at hl
 obtain ⟨x0,x1,x2,x3,x4,y0,y1,y2,y3,y4,y5,x6,x7,x8,x9,x10,rfl⟩:=len16x hl
 have f0:=hf _ (by exact List.mem_cons_self)
 have f1:=hf _ (by exact List.mem_cons_of_mem _ List.mem_cons_self)
 have f2:=hf _ (by exact List.mem_cons_of_mem _ (List.mem_cons_of_mem _ List.mem_cons_self))
 have f3:=hf _ (by exact List.mem_cons_of_mem _ (List.mem_cons_of_mem _ (List.mem_cons_of_mem _ List.mem_cons_self)))
 have f4:=hf _ (by exact List.mem_cons_of_mem _ (List.mem_cons_of_mem _ (List.mem_cons_of_mem _ (List.mem_cons_of_mem _ List.mem_cons_self))))
 have f5:=hf _ (by exact List.mem_cons_of_mem _ (List.mem_cons_of_mem _ (List.mem_cons_of_mem _ (List.mem_cons_of_mem _ (List.mem_cons_of_mem _ List.mem_cons_self)))))
 have f6:=hf _ (by exact List.mem_cons_of_mem _ (List.mem_cons_of_mem _ (List.mem_cons_of_mem _ (List.mem_cons_of_mem _ (List.mem_cons_of_mem _ (List.mem_cons_of_mem _ List.mem_cons_self))))))
 have f7:=hf _ (by exact List.mem_cons_of_mem _ (List.mem_cons_of_mem _ (List.mem_cons_of_mem _ (List.mem_cons_of_mem _ (List.mem_cons_of_mem _ (List.mem_cons_of_mem _ (List.mem_cons_of_mem _ List.mem_cons_self)))))))
 have f8:=hf _ (by exact List.mem_cons_of_mem _ (List.mem_cons_of_mem _ (List.mem_cons_of_mem _ (List.mem_cons_of_mem _ (List.mem_cons_of_mem _ (List.mem_cons_of_mem _ (List.mem_cons_of_mem _ (List.mem_cons_of_mem _ List.mem_cons_self))))))))
 have f9:=hf _ (by exact List.mem_cons_of_mem _ (List.mem_cons_of_mem _ (List.mem_cons_of_mem _ (List.mem_cons_of_mem _ (List.mem_cons_of_mem _ (List.mem_cons_of_mem _ (List.mem_cons_of_mem _ (List.mem_cons_of_mem _ (List.mem_cons_of_mem _ List.mem_cons_self)))))))))
 have f10:=hf _ (by exact List.mem_cons_of_mem _ (List.mem_cons_of_mem _ (List.mem_cons_of_mem _ (List.mem_cons_of_mem _ (List.mem_cons_of_mem _ (List.mem_cons_of_mem _ (List.mem_cons_of_mem _ (List.mem_cons_of_mem _ (List.mem_cons_of_mem _ (List.mem_cons_of_mem _ List.mem_cons_self))))))))))
 clear hf
 simp only [c9,cRules,cSym,cLsts,cUnts,cDats,cStrs,List.drop_zero,List.drop_succ_cons,List.take_succ_cons,List.take_zero] at f0 f1 f2 f3 f4 f5 f6 f7 f8 f9 f10
 obtain ⟨tag,rfl⟩:=f0.str_inv Tryz.underlying9
 obtain ⟨par,rfl⟩:=f1.str_inv Tryz.underlying9
 obtain ⟨dir,rfl⟩:=f2.str_inv Tryz.underlying9
 obtain ⟨xs,rfl,hw⟩:=slice_of f3 Tryz.underlying22 aRule Rule.enc Rule.wt rule_of
 obtain ⟨ys,rfl,hw2⟩:=slice_of f4 Tryz.underlying22 aRule Rule.enc Rule.wt rule_of
 obtain ⟨_,hs⟩:=f5.st_inv Tryz.underlying24
 have g0:=hs _ (by exact List.mem_cons_self)
 have g1:=hs _ (by exact List.mem_cons_of_mem _ List.mem_cons_self)
 have g2:=hs _ (by exact List.mem_cons_of_mem _ (List.mem_cons_of_mem _ List.mem_cons_self))
 have g3:=hs _ (by exact List.mem_cons_of_mem _ (List.mem_cons_of_mem _ (List.mem_cons_of_mem _ List.mem_cons_self)))
 have g4:=hs _ (by exact List.mem_cons_of_mem _ (List.mem_cons_of_mem _ (List.mem_cons_of_mem _ (List.mem_cons_of_mem _ List.mem_cons_self))))
 have g5:=hs _ (by exact List.mem_cons_of_mem _ (List.mem_cons_of_mem _ (List.mem_cons_of_mem _ (List.mem_cons_of_mem _ (List.mem_cons_of_mem _ List.mem_cons_self)))))
 clear hs f5
 simp only [c9,c3,List.drop_zero,List.drop_succ_cons,List.take_succ_cons,List.take_zero] at g0 g1 g2 g3 g4 g5
 obtain ⟨s0,rfl⟩:=g0.str_inv Tryz.underlying9
 obtain ⟨s1,rfl⟩:=g1.str_inv Tryz.underlying9
 obtain ⟨s2,rfl⟩:=g2.str_inv Tryz.underlying9
 obtain ⟨s3,rfl⟩:=g3.str_inv Tryz.underlying9
 obtain ⟨n4,rfl,_⟩:=g4.int_inv Tryz.underlying3
 obtain ⟨n5,rfl,_⟩:=g5.int_inv Tryz.underlying3
 obtain ⟨ls,rfl,hw6⟩:=slice_of f6 Tryz.underlying25 aLst Lst.enc lstW lst_of
 obtain ⟨us,rfl,hw7⟩:=slice_of f7 Tryz.underlying26 aUnt Unt.enc untW unt_of
 obtain ⟨ds,rfl,hw8⟩:=slice_of f8 Tryz.underlying27 aDat Dat.enc datW dat_of
 obtain ⟨ms,rfl,hw9⟩:=strs_of x9 f9
 obtain ⟨dy,rfl,hw10⟩:=strs_of x10 f10
 refine ⟨⟨tag,par,dir,xs,ys,s0,s1,s2,s3,n4,n5,ls,us,ds,ms,dy⟩,rfl,?_,?_⟩
 ·have h1:=szS_le [tag,par,dir,s0,s1,s2,s3]
  have h2:=szS_le dy
  have h3:=szS_le ms
  have h4:=wtOf_le (f:=Lst.sz) (g:=lstW) (fun x=>by simp only [Lst.sz,szS,wtOf,sz1,lstW,bw];omega) ls
  have h5:=wtOf_le (f:=Unt.sz) (g:=untW) (fun x=>by simp only [Unt.sz,szS,wtOf,sz1,untW,bw];omega) us
  have h6:=wtOf_le (f:=Dat.sz) (g:=datW) (fun x=>by simp only [Dat.sz,szS,wtOf,sz1,datW,bw];omega) ds
  have h7:=sumW_len (w:=Rule.wt) (l:=xs) (fun _=>by unfold Rule.wt;omega)
  have h8:=sumW_len (w:=Rule.wt) (l:=ys) (fun _=>by unfold Rule.wt;omega)
  simp only [sumW,bw] at h1
  unfold szL
  simp only [bulkVs,bulkV] at hw hw2 hw6 hw7 hw8 hw9 hw10⊢
  omega
 ·simp only [sum_rules]
  simp only [bulkVs,bulkV] at hw hw2⊢
  omega
theorem case_of (c:List V) (h:WtV Tryz.prog 34 c):∃L ps vs iso,V.agg c=caseV L ps vs iso/\szL L<=200*bulkVs c/\wtRules L.card+wtRules L.ord<=bulkVs c/\wtPs ps<=bulkVs c/\sumW Val.wt vs<=bulkVs c:=by
 obtain ⟨hl,hf⟩:=h.st_inv Tryz.underlying34
 rw [cCase32] at hl
 obtain ⟨a,r,rfl,ha,hr⟩:∃a r,c=a++r/\a.length=16/\r.length=3:=⟨c.take 16,c.drop 16,(List.take_append_drop 16 c).symm,by simp;omega,by simp;omega⟩
 obtain ⟨x0,x1,x2,rfl⟩:=len3 hr
 have f0:=hf _ (by exact List.mem_cons_self)
 have f1:=hf _ (by exact List.mem_cons_of_mem _ List.mem_cons_self)
 have f2:=hf _ (by exact List.mem_cons_of_mem _ (List.mem_cons_of_mem _ List.mem_cons_self))
 have f3:=hf _ (by exact List.mem_cons_of_mem _ (List.mem_cons_of_mem _ (List.mem_cons_of_mem _ List.mem_cons_self)))
 clear hf
 have d16:(a++[x0,x1,x2]).drop 16=[x0,x1,x2]:=by rw [<-ha,List.drop_left]
 have d17:(a++[x0,x1,x2]).drop 17=[x1,x2]:=by rw [<-List.drop_drop (i:=1) (j:=16),d16];rfl
 have d18:(a++[x0,x1,x2]).drop 18=[x2]:=by rw [<-List.drop_drop (i:=2) (j:=16),d16];rfl
 have t16:(a++[x0,x1,x2]).take 16=a:=by rw [<-ha,List.take_left]
 simp only [cLoc,c31,cVals,cBool,List.drop_zero,d16,d17,d18,t16,List.take_succ_cons,List.take_zero] at f0 f1 f2 f3
 obtain ⟨L,hL,hb1,hb2⟩:=lcl_of a f0
 obtain ⟨ps,rfl,hps⟩:=parts_of _ x0 (Nat.le_refl _) f1
 obtain ⟨vs,rfl,hvs⟩:=vals_of x1 f2
 obtain ⟨iso,rfl⟩:=f3.bool_inv Tryz.underlying4
 refine ⟨L,ps,vs,iso,?_,?_,?_,?_,?_⟩
 ·rw [Lcl.enc_eq] at hL
  cases hL
  rw [caseV_eq,encPs_map]
  rfl
 all_goals (rw [bulkVs_append];simp only [bulkVs];omega)
end Go.Ir
