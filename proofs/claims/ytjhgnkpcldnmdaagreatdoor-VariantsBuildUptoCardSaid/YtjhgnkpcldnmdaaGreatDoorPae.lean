/-
  The IR of functions of the program, printed by our own tool
  The two checks of a message agree, and what a message has ..
  What a message has that the checks accept: the cases of its ..
  How heavy resolved parts are.
  Flat forms as plain Lean data: the two sides agree.
  Contracts: Clone of cases, cloned.
  Contracts: Flat, of the reference.
  What an input reads as, as an abstract value: plain data ..
  The end of a law's proof: from the contract of the law to ..
  Inputs that are messages: every well-formed slice of parts ..
  Inputs that are locales: their rules, and the rest.
  Contracts: SameForm of a form with itself, formOf.
  Contracts: leaves, of the program
  Contracts: leaves and Leaves, of the program.
  Contracts: Sound, of the program.
  Contracts: awake, and the law VariantsFlat.
  What a flat form has: its variants have neither selections ..
  Shapes, leaves and what is built of them, as plain Lean ..
  Shapes of messages that the check accepts are such
  The paths of leaves are different
  How many leaves a message of a shape takes, and its weight
  Contracts: within and shape, of the program.
  Contracts: the builder of the program.
  Contracts: number, shape of the reference.
  Contracts: leaves of the reference.
-/
import Derived.Test.YtjhgnkpcldnmdaaGreatDoorPad
import Derived.Test.YtjhgnkpcldnmdaaGreatDoorRows
import Derived.ChangeArms
import Derived.Carry
import Derived.ChangeSame
import Derived.OpenShut
import Derived.Test.YtjhgnkpcldnmdaaGreatDoorChecked
set_option linter.all false
set_option linter.defProp false
set_option linter.unusedSimpArgs false
set_option linter.unusedVariables false
open Nat (reduceEqDiff)
namespace Go.Ir
open Go.Proofs
variable {P : Program} {W0 : World} {nt n : Nat} {Q : Exit → St → Prop} {env : Env} {σ : Sto}
def f30_8:IC:=.seq (.ops [m1 7 0,o1 8 (.calln 69 [(.c .nil),.t 7,(.c (.s []))]),m1 2 8,o1 3 (.mv (ci 0))] [2,3] []) .ret
def f30_2:IC:=.seq (.seq (.ops [m1 4 0,o1 5 (.call 15 [.t 4]),o1 6 (.not (.t 5))] [0,6] []) (.cond (.t 6) (.seq (.ops [o1 2 (.mv (.c .nil)),o1 3 (.mv (ci 1))] [2,3] []) .ret) .skip)) f30_8
def f30_0:IC:=.seq (.ops [o1 2 (.mv (.c .nil)),o1 3 (.mv (ci 0))] [0] []) f30_2
@[push_cast]def f30R:List R:=[.t 2,.t 3]
@[push_cast]def f30e:=aWv f30_8.eq_1<|aWv f30_2.eq_1<|aWu f30_0.eq_1
theorem f30ok:okFn Tryz.prog 30 9 f30_0 f30R=true:=by kernel_rfl
def f69_23:IC:=.seq (.ops [m1 19 7,o1 20 (.load (.t 10) 6 true),o1 21 (.msl false 75 6 [.t 20]),o1 22 (.app (.t 19) (.t 21) 75 6),m1 7 22] [2,3,7,8,11,12,13] []) (.exit 1)
def f69_27:IC:=.ops [o1 23 (.load (.t 3) 1 false),m1 24 2,m1 25 8,o1 26 (.call 114 [.t 25]),o1 27 (.bin .add (.t 24) (.t 26)),m1 28 7,o1 29 (.call 115 [.t 28]),o1 30 (.build [(.s []),.nil] [(0,1,(.t 27)),(1,1,(.t 29))]),o1 31 (.msl false 68 2 [.t 30]),o1 32 (.app (.t 23) (.t 31) 68 2),o0 (.store (.t 3) (.t 32) 1)] [2,3,8,10,11,12,13] [[2,3],[1,4],[3,4],[5,6],[4,7],[6,7],[7,8],[0,9],[8,9],[0,10],[9,10]]
def f69_32:IC:=.opxd [o1 35 (.load (.t 10) 6 true),m1 36 2,m1 37 8,o1 38 (.call 114 [.t 37]),o1 39 (.bin .add (.t 36) (.t 38)),o1 40 (.bin .add (.t 39) (.c (.s [47]))),o1 41 (.mkfn 117 [] [.t 3])] [2,3,7,8,11,12,13,35,40,41] 42 116 [(.t 35),(.t 40),(.t 41)] [2,3,7,8,11,12,13] [[2,3],[1,4],[3,4],[4,5],[0,7],[1,4,5,7],[2,3,7],[3,7],[4,5,7],[5,7],[6,7]]
def f69_30:IC:=.seq (.ops [m1 33 8,o1 34 (.bin .add (.t 33) (ci 1)),m1 8 34] [2,3,7,8,10,11,12,13] []) f69_32
def f69_19:IC:=.seq (.seq (.ops [o1 17 (.load (.t 10) 6 true),o1 18 (.call 50 [.t 17])] [2,3,7,8,10,11,12,13,18] []) (.cond (.t 18) f69_23 .skip)) (.seq (.wk f69_27) (.seq (.ops [o1 7 (.mv (.c .nil))] [2,3,7,8,10,11,12,13] []) f69_30))
def f69_15:IC:=.seq (.block 1 (.seq (.ops [o1 15 (.iaddr (.t 11) (.t 13) 75 6),o1 16 (.load (.t 15) 6 true),o1 10 (.alloc (.agg [(.i .i64 0),(.s []),(.s []),(.s []),.nil,.nil])),o0 (.store (.t 10) (.t 16) 6)] [2,3,7,8,10,11,12,13] []) f69_19)) (.ops [o1 43 (.bin .add (.t 13) (ci 1)),m1 13 43] [2,3,7,8,11,12,13] [])
def f69_11:IC:=.seq (.ops [o1 14 (.bin .lss (.t 13) (.t 12))] [2,3,7,8,11,12,13,14] []) (.seq (.cond (.t 14) .skip (.exit 0)) f69_15)
def f69_36:IC:=.ops [o1 44 (.load (.t 3) 1 false),m1 45 2,m1 46 8,o1 47 (.call 114 [.t 46]),o1 48 (.bin .add (.t 45) (.t 47)),m1 49 7,o1 50 (.call 115 [.t 49]),o1 51 (.build [(.s []),.nil] [(0,1,(.t 48)),(1,1,(.t 50))]),o1 52 (.msl false 68 2 [.t 51]),o1 53 (.app (.t 44) (.t 52) 68 2),m1 6 53] [6] [[2,3],[1,4],[3,4],[5,6],[4,7],[6,7],[7,8],[0,9],[8,9],[9,10]]
def f69_6:IC:=.seq (.seq (.ops [m1 11 1,o1 12 (.lenL (.t 11)),o1 13 (.mv (ci 0))] [2,3,7,8,11,12,13] []) (.block 0 (.loop f69_11))) (.seq (.wk f69_36) .ret)
def f69_2:IC:=.seq (.ops [o1 7 (.mv (.c .nil))] [1,2,3,7] []) (.seq (.ops [o1 8 (.mv (ci 0))] [1,2,3,7,8] []) f69_6)
def f69_0:IC:=.seq (.ops [o1 3 (.box (.t 0)),o1 6 (.mv (.c .nil))] [1,2,3] []) f69_2
@[push_cast]def f69R:List R:=[.t 6]
@[push_cast]def f69e:=aWv f69_23.eq_1<|aWv f69_27.eq_1<|aWv f69_32.eq_1<|aWv f69_30.eq_1<|aWv f69_19.eq_1<|aWv f69_15.eq_1<|aWv f69_11.eq_1<|aWv f69_36.eq_1<|aWv f69_6.eq_1<|aWv f69_2.eq_1<|aWu f69_0.eq_1
theorem f69ok:okFn Tryz.prog 69 54 f69_0 f69R=true:=by kernel_rfl
def f117_0:IC:=.ops [o1 5 (.load (.t 2) 1 false),m1 6 0,m1 7 1,o1 8 (.calln 69 [.t 5,.t 6,.t 7]),o0 (.store (.t 2) (.t 8) 1)] [] []
@[push_cast]def f117R:List R:=[]
@[push_cast]def f117e:=aWu f117_0.eq_1
theorem f117ok:okFn Tryz.prog 117 9 f117_0 f117R=true:=by kernel_rfl
def f116_6:IC:=.seq (.opxv [m1 12 2,o1 13 (.faddr (.t 3) 5),o1 14 (.load (.t 13) 1 false),m1 15 1] [12,14,15] 16 (.t 12) [(.t 14),(.t 15)] [] []) .ret
def f116_20:IC:=.opxv [m1 24 2,o1 25 (.faddr (.t 7) 1),o1 26 (.load (.t 25) 1 false),m1 27 1,o1 28 (.faddr (.t 7) 0),o1 29 (.load (.t 28) 1 false),o1 30 (.bin .add (.t 27) (.t 29)),o1 31 (.bin .add (.t 30) (.c (.s [47])))] [1,2,18,19,20,24,26,31] 32 (.t 24) [(.t 26),(.t 31)] [] [1,2,18,19,20]
def f116_16:IC:=.seq (.block 1 (.seq (.ops [o1 22 (.iaddr (.t 18) (.t 20) 77 2),o1 23 (.load (.t 22) 2 true),o1 7 (.alloc (.agg [(.s []),.nil])),o0 (.store (.t 7) (.t 23) 2)] [1,2,7,18,19,20] []) f116_20)) (.ops [o1 33 (.bin .add (.t 20) (ci 1)),m1 20 33] [1,2,18,19,20] [])
def f116_12:IC:=.seq (.ops [o1 21 (.bin .lss (.t 20) (.t 19))] [1,2,18,19,20,21] []) (.seq (.cond (.t 21) .skip (.exit 0)) f116_16)
def f116_8:IC:=.seq (.ops [o1 17 (.faddr (.t 3) 4),o1 18 (.load (.t 17) 1 false),o1 19 (.lenL (.t 18)),o1 20 (.mv (ci 0))] [1,2,18,19,20] []) (.block 0 (.loop f116_12))
def f116_2:IC:=.seq (.seq (.ops [o1 8 (.faddr (.t 3) 0),o1 9 (.load (.t 8) 1 false),o1 10 (.call 43 [.t 9]),o1 11 (.not (.t 10))] [1,2,3,11] []) (.cond (.t 11) f116_6 .skip)) f116_8
def f116_0:IC:=.seq (.ops [o1 3 (.box (.t 0))] [1,2,3] []) f116_2
@[push_cast]def f116R:List R:=[]
@[push_cast]def f116e:=aWv f116_6.eq_1<|aWv f116_20.eq_1<|aWv f116_16.eq_1<|aWv f116_12.eq_1<|aWv f116_8.eq_1<|aWv f116_2.eq_1<|aWu f116_0.eq_1
theorem f116ok:okFn Tryz.prog 116 34 f116_0 f116R=true:=by kernel_rfl
def f115_34:IC:=.ops [o1 27 (.faddr (.t 5) 4),o1 28 (.load (.t 27) 1 false),m1 29 6,o1 30 (.faddr (.t 5) 4),o1 31 (.load (.t 30) 1 false),m1 32 6,o1 33 (.iaddr (.t 31) (.t 32) 77 2),o1 34 (.faddr (.t 33) 1),o1 35 (.load (.t 34) 1 false),o1 36 (.call 115 [.t 35]),o1 37 (.iaddr (.t 28) (.t 29) 77 2),o1 38 (.faddr (.t 37) 1),o0 (.store (.t 38) (.t 36) 1)] [3,5,7,8,9,23,24] [[0,1],[3,4],[4,6],[5,6],[6,7],[7,8],[8,9],[1,10],[2,10],[10,11],[1,12],[4,12],[6,12],[8,12],[9,12],[10,11,12],[11,12]]
def f115_30:IC:=.seq (.block 3 (.seq (.ops [m1 26 24,m1 6 26] [3,5,6,7,8,9,23,24] []) f115_34)) (.ops [o1 39 (.bin .add (.t 24) (ci 1)),m1 24 39] [3,5,7,8,9,23,24] [])
def f115_26:IC:=.seq (.ops [o1 25 (.bin .lss (.t 24) (.t 23))] [3,5,7,8,9,23,24,25] []) (.seq (.cond (.t 25) .skip (.exit 2)) f115_30)
def f115_37:IC:=.ops [m1 40 3,o1 41 (.load (.t 5) 6 true),o1 42 (.msl false 75 6 [.t 41]),o1 43 (.app (.t 40) (.t 42) 75 6),m1 3 43] [3,7,8,9] []
def f115_21:IC:=.seq (.seq (.ops [o1 21 (.faddr (.t 5) 4),o1 22 (.load (.t 21) 1 false),o1 23 (.lenL (.t 22)),o1 24 (.mv (ci 0))] [3,5,7,8,9,23,24] []) (.block 2 (.loop f115_26))) (.wk f115_37)
def f115_19:IC:=.seq (.ops [o1 17 (.faddr (.t 5) 4),o1 18 (.load (.t 17) 1 false),o1 19 (.calln 145 [.t 18]),o1 20 (.faddr (.t 5) 4),o0 (.store (.t 20) (.t 19) 1)] [3,5,7,8,9] []) f115_21
def f115_17:IC:=.seq (.ops [o1 13 (.faddr (.t 5) 5),o1 14 (.load (.t 13) 1 false),o1 15 (.call 115 [.t 14]),o1 16 (.faddr (.t 5) 5),o0 (.store (.t 16) (.t 15) 1)] [3,5,7,8,9] []) f115_19
def f115_13:IC:=.seq (.block 1 (.seq (.ops [o1 11 (.iaddr (.t 7) (.t 9) 75 6),o1 12 (.load (.t 11) 6 true),o1 5 (.alloc (.agg [(.i .i64 0),(.s []),(.s []),(.s []),.nil,.nil])),o0 (.store (.t 5) (.t 12) 6)] [3,5,7,8,9] []) f115_17)) (.ops [o1 44 (.bin .add (.t 9) (ci 1)),m1 9 44] [3,7,8,9] [])
def f115_9:IC:=.seq (.ops [o1 10 (.bin .lss (.t 9) (.t 8))] [3,7,8,9,10] []) (.seq (.cond (.t 10) .skip (.exit 0)) f115_13)
def f115_4:IC:=.seq (.seq (.ops [m1 7 0,o1 8 (.lenL (.t 7)),o1 9 (.mv (ci 0))] [3,7,8,9] []) (.block 0 (.loop f115_9))) (.seq (.ops [m1 45 3,m1 2 45] [2] []) .ret)
def f115_0:IC:=.seq (.ops [o1 2 (.mv (.c .nil))] [0] []) (.seq (.ops [o1 3 (.mv (.c .nil))] [0,3] []) f115_4)
@[push_cast]def f115R:List R:=[.t 2]
@[push_cast]def f115e:=aWv f115_34.eq_1<|aWv f115_30.eq_1<|aWv f115_26.eq_1<|aWv f115_37.eq_1<|aWv f115_21.eq_1<|aWv f115_19.eq_1<|aWv f115_17.eq_1<|aWv f115_13.eq_1<|aWv f115_9.eq_1<|aWv f115_4.eq_1<|aWu f115_0.eq_1
theorem f115ok:okFn Tryz.prog 115 46 f115_0 f115R=true:=by kernel_rfl
def f12_34:IC:=.seq (.ops [o1 51 (.faddr (.t 4) 2),o1 52 (.load (.t 51) 1 false),m1 53 5,o1 54 (.slL (.t 52) none (some (.t 53)) 1),m1 55 6,o1 56 (.call 45 [.t 54,.t 55])] [1,3,4,9,10,11,44,45,46,56] []) (.cond (.t 56) (.seq (.ops [o1 2 (.mv (.c (.b false)))] [2] []) .ret) .skip)
def f12_30:IC:=.seq (.block 3 (.seq (.ops [m1 48 46,o1 49 (.iaddr (.t 44) (.t 46) 9 1),o1 50 (.load (.t 49) 1 false),m1 5 48,m1 6 50] [1,3,4,5,6,9,10,11,44,45,46] []) f12_34)) (.ops [o1 57 (.bin .add (.t 46) (ci 1)),m1 46 57] [1,3,4,9,10,11,44,45,46] [])
def f12_26:IC:=.seq (.ops [o1 47 (.bin .lss (.t 46) (.t 45))] [1,3,4,9,10,11,44,45,46,47] []) (.seq (.cond (.t 47) .skip (.exit 2)) f12_30)
def f12_40:IC:=.seq (.ops [o1 58 (.faddr (.t 1) 0),o1 59 (.load (.t 58) 1 false),m1 60 3,o1 61 (.slL (.t 59) none (some (.t 60)) 3),o1 62 (.mkfn 47 [] [.t 4]),o1 63 (.callr 46 [.t 61,.t 62])] [1,9,10,11,63] []) (.cond (.t 63) (.seq (.ops [o1 2 (.mv (.c (.b false)))] [2] []) .ret) .skip)
def f12_21:IC:=.seq (.seq (.ops [o1 43 (.faddr (.t 4) 2),o1 44 (.load (.t 43) 1 false),o1 45 (.lenL (.t 44)),o1 46 (.mv (ci 0))] [1,3,4,9,10,11,44,45,46] []) (.block 2 (.loop f12_26))) f12_40
def f12_15:IC:=.seq (.seq (.ops [o1 16 (.faddr (.t 4) 0),o1 17 (.load (.t 16) 1 false),o1 18 (.call 43 [.t 17]),o1 19 (.not (.t 18)),m1 20 19,⟨some 21,.faddr (.t 4) 1,some (20,false),[]⟩,⟨some 22,.load (.t 21) 1 false,some (20,false),[]⟩,⟨some 23,.call 44 [.t 22],some (20,false),[]⟩,⟨some 24,.not (.t 23),some (20,false),[]⟩,o1 25 (.pick (.t 20) (.c (.b true)) (.t 24)),m1 26 25,⟨some 27,.faddr (.t 4) 2,some (26,false),[]⟩,⟨some 28,.load (.t 27) 1 false,some (26,false),[]⟩,⟨some 29,.lenL (.t 28),some (26,false),[]⟩,⟨some 30,.bin .eql (.t 29) (ci 0),some (26,false),[]⟩,o1 31 (.pick (.t 26) (.c (.b true)) (.t 30)),m1 32 31,⟨some 33,.faddr (.t 4) 2,some (32,false),[]⟩,⟨some 34,.load (.t 33) 1 false,some (32,false),[]⟩,⟨some 35,.faddr (.t 4) 2,some (32,false),[]⟩,⟨some 36,.load (.t 35) 1 false,some (32,false),[]⟩,⟨some 37,.lenL (.t 36),some (32,false),[]⟩,⟨some 38,.bin .sub (.t 37) (ci 1),some (32,false),[]⟩,⟨some 39,.iaddr (.t 34) (.t 38) 9 1,some (32,false),[]⟩,⟨some 40,.load (.t 39) 1 false,some (32,false),[]⟩,⟨some 41,.bin .neq (.t 40) (.c (.s [111,116,104,101,114])),some (32,false),[]⟩,o1 42 (.pick (.t 32) (.c (.b true)) (.t 41))] [1,3,4,9,10,11,42] []) (.cond (.t 42) (.seq (.ops [o1 2 (.mv (.c (.b false)))] [2] []) .ret) .skip)) f12_21
def f12_11:IC:=.seq (.block 1 (.seq (.ops [m1 13 11,o1 14 (.iaddr (.t 9) (.t 11) 86 3),o1 15 (.load (.t 14) 3 true),o1 4 (.alloc (.agg [(.i .i64 0),(.s []),.nil])),m1 3 13,o0 (.store (.t 4) (.t 15) 3)] [1,3,4,9,10,11] []) f12_15)) (.ops [o1 64 (.bin .add (.t 11) (ci 1)),m1 11 64] [1,9,10,11] [])
def f12_7:IC:=.seq (.ops [o1 12 (.bin .lss (.t 11) (.t 10))] [1,9,10,11,12] []) (.seq (.cond (.t 12) .skip (.exit 0)) f12_11)
def f12_48:IC:=.seq (.ops [m1 68 7,o1 69 (.bin .leq (.t 68) (ci 400)),m1 70 69,⟨some 71,.faddr (.t 1) 1,some (70,true),[]⟩,⟨some 72,.load (.t 71) 1 false,some (70,true),[]⟩,⟨some 73,.lenL (.t 72),some (70,true),[]⟩,⟨some 74,.mv (.t 7),some (70,true),[]⟩,⟨some 75,.bin .eql (.t 73) (.t 74),some (70,true),[]⟩,o1 76 (.pick (.t 70) (.t 75) (.c (.b false))),m1 2 76] [2] []) .ret
def f12_46:IC:=.seq (.ops [o1 65 (.faddr (.t 1) 0),o1 66 (.load (.t 65) 1 false),o1 67 (.call 40 [.t 66]),m1 7 67] [1,7] []) f12_48
def f12_2:IC:=.seq (.seq (.ops [o1 8 (.faddr (.t 1) 0),o1 9 (.load (.t 8) 1 false),o1 10 (.lenL (.t 9)),o1 11 (.mv (ci 0))] [1,9,10,11] []) (.block 0 (.loop f12_7))) f12_46
def f12_0:IC:=.seq (.ops [o1 1 (.box (.t 0)),o1 2 (.mv (.c (.b false)))] [1] []) f12_2
@[push_cast]def f12R:List R:=[.t 2]
@[push_cast]def f12e:=aWv f12_34.eq_1<|aWv f12_30.eq_1<|aWv f12_26.eq_1<|aWv f12_40.eq_1<|aWv f12_21.eq_1<|aWv f12_15.eq_1<|aWv f12_11.eq_1<|aWv f12_7.eq_1<|aWv f12_48.eq_1<|aWv f12_46.eq_1<|aWv f12_2.eq_1<|aWu f12_0.eq_1
theorem f12ok:okFn Tryz.prog 12 77 f12_0 f12R=true:=by kernel_rfl
def f47_2:IC:=.seq (.ops [o1 4 (.faddr (.t 2) 0),o1 5 (.load (.t 4) 1 false),o1 6 (.faddr (.t 1) 0),o1 7 (.load (.t 6) 1 false),o1 8 (.bin .eql (.t 5) (.t 7)),m1 9 8,⟨some 10,.faddr (.t 2) 1,some (9,true),[]⟩,⟨some 11,.load (.t 10) 1 false,some (9,true),[]⟩,⟨some 12,.faddr (.t 1) 1,some (9,true),[]⟩,⟨some 13,.load (.t 12) 1 false,some (9,true),[]⟩,⟨some 14,.bin .eql (.t 11) (.t 13),some (9,true),[]⟩,o1 15 (.pick (.t 9) (.t 14) (.c (.b false))),m1 3 15] [3] []) .ret
def f47_0:IC:=.seq (.ops [o1 2 (.box (.t 0)),o1 3 (.mv (.c (.b false)))] [1,2] []) f47_2
@[push_cast]def f47R:List R:=[.t 3]
@[push_cast]def f47e:=aWv f47_2.eq_1<|aWu f47_0.eq_1
theorem f47ok:okFn Tryz.prog 47 16 f47_0 f47R=true:=by kernel_rfl
def f145_8:IC:=.seq (.ops [o1 5 (.msl true 77 2 []),m1 6 0,o1 7 (.app (.t 5) (.t 6) 77 2),m1 2 7] [2] []) .ret
def f145_2:IC:=.seq (.seq (.ops [m1 3 0,o1 4 (.pu (.isnil false) [.t 3])] [0,4] []) (.cond (.t 4) (.seq (.ops [o1 2 (.mv (.c .nil))] [2] []) .ret) .skip)) f145_8
def f145_0:IC:=.seq (.ops [o1 2 (.mv (.c .nil))] [0] []) f145_2
@[push_cast]def f145R:List R:=[.t 2]
@[push_cast]def f145e:=aWv f145_8.eq_1<|aWv f145_2.eq_1<|aWu f145_0.eq_1
theorem f145ok:okFn Tryz.prog 145 8 f145_0 f145R=true:=by kernel_rfl
def f8_8:IC:=.seq (.ops [m1 27 3,o1 28 (.bin .eql (.t 27) (ci 0)),m1 29 28,⟨some 30,.mv (.t 2),some (29,true),[]⟩,⟨some 31,.lenL (.t 30),some (29,true),[]⟩,⟨some 32,.bin .eql (.t 31) (ci 4),some (29,true),[]⟩,o1 33 (.pick (.t 29) (.t 32) (.c (.b false))),m1 34 33,⟨some 35,.mv (.t 2),some (34,true),[]⟩,⟨some 36,.iaddr (.t 35) (ci 1) 68 2,some (34,true),[]⟩,⟨some 37,.faddr (.t 36) 0,some (34,true),[]⟩,⟨some 38,.load (.t 37) 1 false,some (34,true),[]⟩,⟨some 39,.bin .eql (.t 38) (.c (.s [49,47,111,110,101,47,48])),some (34,true),[]⟩,o1 40 (.pick (.t 34) (.t 39) (.c (.b false))),m1 41 40,⟨some 42,.mv (.t 5),some (41,true),[]⟩,⟨some 43,.bin .eql (.t 42) (ci 0),some (41,true),[]⟩,o1 44 (.pick (.t 41) (.t 43) (.c (.b false))),m1 45 44,⟨some 46,.faddr (.t 4) 1,some (45,true),[]⟩,⟨some 47,.load (.t 46) 1 false,some (45,true),[]⟩,⟨some 48,.lenL (.t 47),some (45,true),[]⟩,⟨some 49,.bin .eql (.t 48) (ci 2),some (45,true),[]⟩,o1 50 (.pick (.t 45) (.t 49) (.c (.b false))),m1 51 50,⟨some 52,.faddr (.t 4) 1,some (51,true),[]⟩,⟨some 53,.load (.t 52) 1 false,some (51,true),[]⟩,⟨some 54,.iaddr (.t 53) (ci 0) 31 1,some (51,true),[]⟩,⟨some 55,.load (.t 54) 1 false,some (51,true),[]⟩,⟨some 56,.build [(.i .i64 0),(.s []),(.s []),(.s []),.nil,.nil] [(0,1,(ci 1)),(1,1,(.c (.s [97,120])))],some (51,true),[]⟩,⟨some 57,.msl false 75 6 [.t 56],some (51,true),[]⟩,⟨some 58,.call 28 [.t 55,.t 57],some (51,true),[]⟩,o1 59 (.pick (.t 51) (.t 58) (.c (.b false))),m1 60 59,⟨some 61,.load (.t 4) 2 true,some (60,true),[]⟩,⟨some 62,.call 12 [.t 61],some (60,true),[]⟩,o1 63 (.pick (.t 60) (.t 62) (.c (.b false))),m1 64 63,⟨some 65,.faddr (.t 4) 1,some (64,true),[]⟩,⟨some 66,.load (.t 65) 1 false,some (64,true),[]⟩,⟨some 67,.iaddr (.t 66) (ci 1) 31 1,some (64,true),[]⟩,⟨some 68,.load (.t 67) 1 false,some (64,true),[]⟩,⟨some 69,.call 13 [.t 68],some (64,true),[]⟩,o1 70 (.pick (.t 64) (.t 69) (.c (.b false))),m1 0 70] [0] []) .ret
def f8_6:IC:=.seq (.ops [o1 22 (.build [(.s []),(.s []),(.s []),.nil,.nil,(.s []),(.s []),(.s []),(.s []),(.i .i64 0),(.i .i64 0),.nil,.nil,.nil,.nil,.nil] []),m1 23 1,o1 24 (.call 11 [.t 22,.t 23]),m1 21 24,o1 25 (.ext (.t 21) 0),o1 26 (.ext (.t 21) 1),o1 4 (.alloc (.agg [.nil,.nil])),o0 (.store (.t 4) (.t 25) 2),m1 5 26] [2,3,4,5] []) f8_8
def f8_4:IC:=.seq (.ops [m1 17 1,o1 18 (.call 30 [.t 17]),m1 16 18,o1 19 (.ext (.t 16) 0),o1 20 (.ext (.t 16) 1),m1 2 19,m1 3 20] [1,2,3] []) f8_6
def f8_2:IC:=.seq (.ops [o1 6 (.build [(.i .i64 0),(.s []),(.s []),(.s []),.nil,.nil] [(0,1,(ci 1)),(1,1,(.c (.s [97])))]),o1 7 (.build [(.i .i64 0),(.s []),(.s []),(.s []),.nil,.nil] [(0,1,(ci 1)),(1,1,(.c (.s [120])))]),o1 8 (.msl false 75 6 [.t 7]),o1 9 (.build [(.s []),.nil] [(0,1,(.c (.s [111,110,101]))),(1,1,(.t 8))]),o1 10 (.build [(.i .i64 0),(.s []),(.s []),(.s []),.nil,.nil] [(0,1,(ci 10))]),o1 11 (.msl false 75 6 [.t 10]),o1 12 (.build [(.s []),.nil] [(0,1,(.c (.s [111,116,104,101,114]))),(1,1,(.t 11))]),o1 13 (.msl false 77 2 [.t 9,.t 12]),o1 14 (.build [(.i .i64 0),(.s []),(.s []),(.s []),.nil,.nil] [(0,1,(ci 7)),(2,1,(.c (.s [110]))),(4,1,(.t 13))]),o1 15 (.msl false 75 6 [.t 6,.t 14]),m1 1 15] [1] []) f8_4
def f8_0:IC:=.seq (.ops [o1 0 (.mv (.c (.b false)))] [] []) f8_2
@[push_cast]def f8R:List R:=[.t 0]
@[push_cast]def f8e:=aWv f8_8.eq_1<|aWv f8_6.eq_1<|aWv f8_4.eq_1<|aWv f8_2.eq_1<|aWu f8_0.eq_1
theorem f8ok:okFn Tryz.prog 8 71 f8_0 f8R=true:=by kernel_rfl
end Go.Ir
section
namespace Go.Ir
section tree
variable {P : Part → Prop} {Q : List Part → Prop} {R : List Case → Prop}
theorem tree_ind (hp:∀p:Part,R p.cases->Q p.parts->P p) (q0:Q []) (q1:∀p ps,P p->Q ps->Q (p::ps)) (r0:R []) (r1:∀(c:Case) (cs:List Case),Q c.2->R cs->R (c::cs)) :
  ∀N,(∀p:Part,p.wt<N->P p)/\(∀ps,wtPs ps<N->Q ps)/\(∀cs,wtCs cs<N->R cs):=by
 intro N
 induction N with
 | zero=>exact ⟨fun p h=>by omega,fun p h=>by omega,fun p h=>by omega⟩
 | succ N ih=>
  have h1:∀p:Part,p.wt<N+1->P p:=fun p h=>by
   rw [p.wt_eq] at h
   exact hp p (ih.2.2 _ (by omega)) (ih.2.1 _ (by omega))
  have h2:∀ps,wtPs ps<N+1->Q ps:=by
   intro ps
   induction ps with
   | nil=>intro _;exact q0
   | cons p ps ih2=>intro h;rw [wtPs_cons] at h;exact q1 p ps (h1 p (by omega)) (ih2 (by omega))
  refine ⟨h1,h2,fun cs=>?_⟩
  induction cs with
  | nil=>intro _;exact r0
  | cons c cs ih2=>intro h;rw [wtCs_cons] at h;exact r1 c cs (h2 c.2 (by omega)) (ih2 (by omega))
theorem tree_Q (hp:∀p:Part,R p.cases->Q p.parts->P p) (q0:Q []) (q1:∀p ps,P p->Q ps->Q (p::ps)) (r0:R []) (r1:∀(c:Case) (cs:List Case),Q c.2->R cs->R (c::cs)) (ps:List Part):Q ps:=
 (tree_ind hp q0 q1 r0 r1 _).2.1 ps (Nat.lt_succ_self _)
end tree
theorem nameB_ne {s:Bytes} (h:nameB s=true):s≠[]:=by rintro rfl;cases h
theorem selB_iff (k:Int):selB k=true↔k=7\/k=8\/k=9:=by unfold selB;simp;omega
theorem len0 {α:Type} {l:List α} (h:((l.length:Int) == 0)=true):l=[]:=by
 have:(l.length:Int)=0:=by simpa using h
 exact List.length_eq_zero_iff.1 (by omega)
theorem fields_plain (p:Part) (c:Bool) (h11:(p.kind == 11)=false) (hs:selB p.kind=false):plainB p c=(p.fieldsB&&!(p.kind == 10&&!c)):=by
 obtain ⟨k,t,nm,st,cs,ps⟩:=p
 simp only at h11 hs
 have h7:(k == 7)=false/\(k == 8)=false/\(k == 9)=false:=by
  have:¬(k=7\/k=8\/k=9):=fun h=>by rw [(selB_iff k).2 h] at hs;cases hs
  simp;omega
 obtain ⟨h7,h8,h9⟩:=h7
 unfold plainB plainK wT wN wS Part.fieldsB fieldsK
 simp only
 have ht:(t == t)=true:=by simp
 have hn:(nm == nm)=true:=by simp
 have hss:(st == st)=true:=by simp
 by_cases h1:k=1
 ·subst h1
  simp only [bq,if_true,if_false,Int.reduceBEq,reduceCtorEq,Int.reduceBEq,ht,hn,hss]
  generalize (t == [])=a1;generalize (nm == [])=a2;generalize (st == [])=a3;generalize ((cs.length:Int) == 0)=a4;generalize ((ps.length:Int) == 0)=a5
  cases a1<;>cases a2<;>cases a3<;>cases a4<;>cases a5<;>rfl
 by_cases h10:k=10
 ·subst h10
  simp only [bq,if_true,if_false,Int.reduceBEq,reduceCtorEq,Int.reduceBEq,ht,hn,hss]
  generalize (t == [])=a1;generalize (nm == [])=a2;generalize (st == [])=a3;generalize ((cs.length:Int) == 0)=a4;generalize ((ps.length:Int) == 0)=a5
  cases a1<;>cases a2<;>cases a3<;>cases a4<;>cases a5<;>cases c<;>rfl
 by_cases h2:k=2
 ·subst h2
  simp only [bq,if_true,if_false,Int.reduceBEq,reduceCtorEq,Int.reduceBEq,ht,hn,hss]
  generalize (t == [])=a1;generalize nameB nm=a2;generalize (st == [])=a3;generalize ((cs.length:Int) == 0)=a4;generalize ((ps.length:Int) == 0)=a5
  cases a1<;>cases a2<;>cases a3<;>cases a4<;>cases a5<;>rfl
 by_cases h3:k=3
 ·subst h3
  simp only [bq,if_true,if_false,Int.reduceBEq,reduceCtorEq,Int.reduceBEq,ht,hn,hss,numSt]
  generalize (t == [])=a1;generalize nameB nm=a2;generalize (st == [])=a3;generalize ((cs.length:Int) == 0)=a4;generalize ((ps.length:Int) == 0)=a5
  generalize (st == [105,110,116,101,103,101,114])=a6;generalize (st == [112,101,114,99,101,110,116])=a7
  cases a1<;>cases a2<;>cases a3<;>cases a4<;>cases a5<;>cases a6<;>cases a7<;>rfl
 by_cases h4:k=4
 ·subst h4
  simp only [bq,if_true,if_false,Int.reduceBEq,reduceCtorEq,Int.reduceBEq,ht,hn,hss]
  generalize (t == [])=a1;generalize nameB nm=a2;generalize nameB st=a3;generalize ((cs.length:Int) == 0)=a4;generalize ((ps.length:Int) == 0)=a5
  cases a1<;>cases a2<;>cases a3<;>cases a4<;>cases a5<;>rfl
 by_cases h5:k=5
 ·subst h5
  simp only [bq,if_true,if_false,Int.reduceBEq,reduceCtorEq,Int.reduceBEq,ht,hn,hss]
  generalize (t == [])=a1;generalize nameB nm=a2;generalize skeletonB st=a3;generalize ((cs.length:Int) == 0)=a4;generalize ((ps.length:Int) == 0)=a5
  cases a1<;>cases a2<;>cases a3<;>cases a4<;>cases a5<;>rfl
 by_cases h6:k=6
 ·subst h6
  simp only [bq,if_true,if_false,Int.reduceBEq,reduceCtorEq,Int.reduceBEq,ht,hn,hss]
  generalize (t == [])=a1;generalize nameB nm=a2;generalize nameB st=a3;generalize ((cs.length:Int) == 0)=a4;generalize ((ps.length:Int) == 0)=a5
  cases a1<;>cases a2<;>cases a3<;>cases a4<;>cases a5<;>rfl
 have e:∀j:Int,k≠j->(k == j)=false:=fun j h=>by simpa using h
 simp [e 1 h1,e 10 h10,e 2 h2,e 3 h3,e 4 h4,e 5 h5,e 6 h6,h7,h8,h9,h11]
theorem pos_dec (n:Nat):decide ((n:Int)>0) = !((n:Int) == 0):=by
 by_cases h:n=0
 ·subst h;rfl
 ·have h1:((n:Nat):Int)>0:=by omega
  have h2:¬((n:Int)=0):=by omega
  rw [decide_eq_true h1,beq_eq_false_iff_ne.2 h2];rfl
theorem cnt_sel {k:Int} (h:selB k=true):cntB k=(k != 9):=by
 rcases (selB_iff k).1 h with rfl|rfl|rfl<;>rfl
theorem chk_formed0 (ps:List Part):∀d c prev l,(chkPs ps d c prev l).1=formedPs ps (d+1) c prev:=by
 refine tree_Q (P:=fun p=>∀d c l,((p.fieldsB&&!(p.kind == 10&&!c))&&(p.chk d c l).1)=p.formedB (d+1) c)
  (Q:=fun ps=>∀d c prev l,(chkPs ps d c prev l).1=formedPs ps (d+1) c prev)
  (R:=fun cs=>∀k d c n seen l,selB k=true->(chkCs cs k d c n seen l).1=(decide ((n:Int)<=20)&&formedCs cs k d c seen)) ?_ ?_ ?_ ?_ ?_ ps
 ·intro p hr hq d c l
  rw [p.chk_eq,p.formedB_eq]
  by_cases h11:p.kind=11
  ·have hs:selB p.kind=false:=by rw [h11];rfl
   have h11':(p.kind == 11)=true:=by simpa using h11
   have h:=hq (d+1) c false l
   simp only [h11',hs,if_true,if_false,Bool.false_eq_true]
   have hf:p.fieldsB=(nameB p.name&&(p.text == []&&(p.style == []&&((p.cases.length:Int) == 0)))):=by
    unfold Part.fieldsB fieldsK;rw [h11];simp
   have h10:(p.kind == 10)=false:=by rw [h11];rfl
   have hd:decide (d+1>8)=decide (d>=8):=by simp;omega
   have hc:=pos_dec p.cases.length
   rw [hf,h10]
   unfold elHead
   rw [hd,hc,<-h]
   generalize nameB p.name=a1;generalize (p.text == [])=a2;generalize (p.style == [])=a3;generalize ((p.cases.length:Int) == 0)=a4
   cases decide (d>=8) with
   | true=>cases a1<;>cases a2<;>cases a3<;>cases a4<;>rfl
   | false=>
    simp only [Bool.false_eq_true,if_false]
    generalize chkPs p.parts (d+1) c false l=r
    obtain ⟨b,l1⟩:=r
    cases b<;>cases a1<;>cases a2<;>cases a3<;>cases a4<;>rfl
  ·have h11':(p.kind == 11)=false:=by simpa using h11
   simp only [h11',if_false,Bool.false_eq_true]
   cases hs:selB p.kind with
   | true=>
    have h:=hr p.kind (d+1) c p.cases.length [] l hs
    have hf:p.fieldsB=(nameB p.name&&(p.text == []&&(p.style == []&&((p.parts.length:Int) == 0)))):=by
     unfold Part.fieldsB fieldsK;rcases (selB_iff _).1 hs with e|e|e<;>(rw [e];simp)
    have h10:(p.kind == 10)=false:=by rcases (selB_iff _).1 hs with e|e|e<;>(rw [e];rfl)
    have hd:decide (d+1>8)=decide (d>=8):=by simp;omega
    have hc:=pos_dec p.parts.length
    have h20:decide ((p.cases.length:Int)>20) = !decide ((p.cases.length:Int)<=20):=by
     rw [Bool.eq_iff_iff];simp
    have h1:decide ((p.cases.length:Int)<1)=true->formedCs p.cases p.kind (d+1) c []=false:=by
     intro hh
     have:p.cases=[]:=List.length_eq_zero_iff.1 (by simp at hh;omega)
     rw [this];simp [formedCs]
    rw [hf,h10]
    unfold selHead
    rw [hd,hc,h20]
    simp only [if_true]
    generalize nameB p.name=a1;generalize (p.text == [])=a2;generalize (p.style == [])=a3;generalize ((p.parts.length:Int) == 0)=a4
    generalize decide ((p.cases.length:Int)<1)=a5 at *
    generalize formedCs p.cases p.kind (d+1) c []=F at *
    generalize decide ((p.cases.length:Int)<=20)=a6 at *
    cases decide (d>=8) with
    | true=>cases a1<;>cases a2<;>cases a3<;>cases a4<;>rfl
    | false=>
     simp only [Bool.false_eq_true,if_false]
     generalize chkCs p.cases p.kind (d+1) c p.cases.length [] l=r at *
     obtain ⟨b,l1⟩:=r
     simp only at h
     subst h
     cases a5 with
     | true=>rw [h1 rfl];cases a1<;>cases a2<;>cases a3<;>cases a4<;>cases a6<;>rfl
     | false=>cases F<;>cases a1<;>cases a2<;>cases a3<;>cases a4<;>cases a6<;>rfl
   | false=>
    simp only [if_false,Bool.false_eq_true]
    rw [fields_plain p c h11' hs];simp
 ·intro d c prev l;rfl
 ·intro p ps hp hq d c prev l
  rw [chkPs_cons,formedPs_cons,<-hp d c l]
  have hq2:=hq d c (p.kind == 1)
  generalize p.fieldsB=a1;generalize (p.kind == 10&&!c)=a2
  rw [Bool.and_comm (p.kind == 1) prev]
  generalize (prev&&p.kind == 1)=a3
  generalize p.chk d c l=r
  obtain ⟨b,l1⟩:=r
  simp only
  cases a1<;>cases a2<;>cases a3<;>cases b<;>simp [hq2]
 ·intro k d c n seen l _;simp [chkCs,formedCs]
 ·intro x cs hq hr k d c n seen l hs
  rw [chkCs_cons,formedCs_cons,cnt_sel hs,<-hq d (c||(k != 9)) false l]
  generalize (!keyB k x.1||seen.contains x.1)=a1
  generalize chkPs x.2 d (c||(k != 9)) false l=r
  obtain ⟨b,l1⟩:=r
  have:=hr k d c n (seen++[x.1]) l1 hs
  simp only
  cases a1<;>cases b<;>simp [this]
theorem text_len_eq (ps:List Part):∀d c prev,formedPs ps d c prev=true->lenPs ps=(textPs ps).length:=by
 refine tree_Q (P:=fun p=>∀d c,p.formedB d c=true->p.lenB=p.textB.length)
  (Q:=fun ps=>∀d c prev,formedPs ps d c prev=true->lenPs ps=(textPs ps).length)
  (R:=fun cs=>∀k d c keys,formedCs cs k d c keys=true->lenCs cs=(textCs cs).length) ?_ ?_ ?_ ?_ ?_ ps
 ·intro p hr hq d c h
  rw [p.formedB_eq] at h
  rw [p.lenB_eq,p.textB_eq]
  by_cases h11:p.kind=11
  ·have h1:(p.kind == 1)=false:=by rw [h11];rfl
   have h10:(p.kind == 10)=false:=by rw [h11];rfl
   have h11':(p.kind == 11)=true:=by simpa using h11
   rw [h11',if_pos rfl,Bool.and_eq_true] at h
   have h3:=hq _ _ _ h.2
   simp only [h1,h10,h11',if_true,if_false,Bool.false_eq_true]
   cases p.parts.isEmpty<;>simp [h3]<;>omega
  ·have h11':(p.kind == 11)=false:=by simpa using h11
   rw [h11',if_neg (by simp)] at h
   cases hs:selB p.kind with
   | true=>
    rw [hs,if_pos rfl,Bool.and_eq_true] at h
    have h3:=hr _ _ _ _ h.2
    have e1:(p.kind == 1)=false/\(p.kind == 10)=false/\(p.kind == 2)=false/\(decide (p.kind>=3)&&decide (p.kind<=9))=true:=by
     rcases (selB_iff _).1 hs with e|e|e<;>(rw [e];decide)
    obtain ⟨e1,e10,e2,e39⟩:=e1
    simp only [e1,e10,e2,h11',e39,if_true,if_false,Bool.false_eq_true]
    unfold useN useH useS useC
    rw [if_pos e39,hs]
    cases hst:(p.style == [])<;>simp [h3]<;>omega
   | false=>
    rw [hs,if_neg (by simp)] at h
    unfold plainB at h
    simp only [Bool.and_eq_true] at h
    obtain ⟨⟨⟨⟨⟨hk,hc⟩,hp⟩,ht⟩,hn⟩,hst⟩:=h
    have hc:=len0 hc
    rw [hc]
    by_cases k1:p.kind=1
    ·simp [k1]
    by_cases k10:p.kind=10
    ·simp [k10]
    have e:∀j:Int,p.kind≠j->(p.kind == j)=false:=fun j h=>by simpa using h
    by_cases k2:p.kind=2
    ·have hst2:p.style=[]:=by unfold wS at hst;rw [k2] at hst;simpa using hst
     rw [k2,hst2]
     simp [useN,selB,lenCs]<;>omega
    have k36:p.kind=3\/p.kind=4\/p.kind=5\/p.kind=6:=by
     unfold plainK at hk
     rw [e 1 k1,e 10 k10,e 2 k2] at hk
     simp only [Bool.false_eq_true,if_false] at hk
     split at hk
     ·rename_i hh;simp at hh;omega
     ·cases hk
    have e39:(decide (p.kind>=3)&&decide (p.kind<=9))=true:=by simp;omega
    simp only [e 1 k1,e 10 k10,e 2 k2,h11',e39,if_true,if_false,Bool.false_eq_true]
    unfold useN useH useS useC
    rw [if_pos e39,hs]
    cases hst:(p.style == [])<;>simp [lenCs,textCs]<;>omega
 ·intro d c prev _;simp [lenPs,textPs]
 ·intro p ps hp hq d c prev h
  rw [formedPs_cons,Bool.and_eq_true,Bool.and_eq_true] at h
  rw [lenPs_cons,textPs_cons,List.length_append,hp _ _ h.2.1,hq _ _ _ h.2.2]
 ·intro k d c keys _;simp [lenCs,textCs]
 ·intro x cs hq hr k d c keys h
  rw [formedCs_cons,Bool.and_eq_true,Bool.and_eq_true] at h
  rw [lenCs_cons,textCs_cons,hq _ _ _ h.2.1,hr _ _ _ _ h.2.2]
  simp<;>omega
mutual
def Part.nms:Part->List Bytes
 | ⟨k,_,n,_,cs,ps⟩=>(if decide (k>=2)&&decide (k<=9) then [n] else [])++(nmsPs ps++nmsCs cs)
def nmsPs:List Part->List Bytes
 | []=>[]
 | p::ps=>p.nms++nmsPs ps
def nmsCs:List (Bytes × List Part)->List Bytes
 | []=>[]
 | (_,ps)::cs=>nmsPs ps++nmsCs cs
end
theorem Part.nms_eq (p:Part):p.nms=(if decide (p.kind>=2)&&decide (p.kind<=9) then [p.name] else [])++(nmsPs p.parts++nmsCs p.cases):=by cases p;simp only [Part.nms]
theorem nmsPs_cons (p:Part) (ps:List Part):nmsPs (p::ps)=p.nms++nmsPs ps:=by simp only [nmsPs]
theorem nmsCs_cons (c:Case) (cs:List Case):nmsCs (c::cs)=nmsPs c.2++nmsCs cs:=by obtain ⟨k,q⟩:=c;simp only [nmsCs]
def Grew (l l' m:List Bytes):Prop:=(∀x,x∈l'↔x∈l\/x∈m)/\(l.Nodup->l'.Nodup)
theorem Grew.refl (l:List Bytes):Grew l l []:=⟨fun x=>by simp,fun h=>h⟩
theorem Grew.trans {a b c m n:List Bytes} (h:Grew a b m) (k:Grew b c n):Grew a c (m++n):=
 ⟨fun x=>by rw [k.1,h.1];simp [or_assoc],fun hn=>k.2 (h.2 hn)⟩
theorem Grew.same {a b m n:List Bytes} (h:Grew a b m) (hm:∀x,x∈m↔x∈n):Grew a b n:=⟨fun x=>by rw [h.1,hm],h.2⟩
theorem nodup_snoc {l:List Bytes} {x:Bytes} (h:l.Nodup) (hx:x ∉ l):(l++[x]).Nodup:=by
 rw [List.nodup_append]
 exact ⟨h,by simp,fun a ha b hb=>by simp at hb;subst hb;rintro rfl;exact hx ha⟩
theorem put_grew (x:Bytes) (l:List Bytes):Grew l (putN x l) [x]:=by
 unfold putN
 cases h:l.contains x with
 | true=>
  have hm:x∈l:=by simpa using h
  exact ⟨fun y=>by simp;rintro rfl;exact hm,fun h=>h⟩
 | false=>
  have hm:x ∉ l:=by simpa using h
  exact ⟨fun y=>by simp,fun h=>nodup_snoc h hm⟩
theorem add_grew (k:Int) (x:Bytes) (l:List Bytes):Grew l (addN k x l) (if decide (k>=2)&&decide (k<=9) then [x] else []):=by
 unfold addN
 cases hk:(decide (k>=2)&&decide (k<=9)) with
 | false=>simp only [Bool.false_and,Bool.false_eq_true,if_false];exact Grew.refl l
 | true=>
  have:=put_grew x l
  unfold putN at this
  cases h:l.contains x with
  | true=>rw [h] at this;simpa using this
  | false=>rw [h] at this;simpa using this
theorem names_grew (ps:List Part):∀l,Grew l (namesPs ps l) (nmsPs ps):=by
 refine tree_Q (P:=fun p=>∀l,Grew l (p.names l) p.nms) (Q:=fun ps=>∀l,Grew l (namesPs ps l) (nmsPs ps)) (R:=fun cs=>∀l,Grew l (namesCs cs l) (nmsCs cs)) ?_ ?_ ?_ ?_ ?_ ps
 ·intro p hr hq l
  rw [p.names_eq,p.nms_eq]
  exact (add_grew _ _ _).trans ((hq _).trans (hr _))
 ·intro l;simp only [namesPs,nmsPs];exact Grew.refl l
 ·intro p ps hp hq l;rw [namesPs_cons,nmsPs_cons];exact (hp l).trans (hq _)
 ·intro l;simp only [namesCs,nmsCs];exact Grew.refl l
 ·intro c cs hq hr l;rw [namesCs_cons,nmsCs_cons];exact (hq l).trans (hr _)
theorem fields_name {p:Part} (h:p.fieldsB=true):(if decide (p.kind>=2)&&decide (p.kind<=9) then [p.name] else [])=(if !(p.kind == 11)&&!(p.name == []) then [p.name] else []):=by
 obtain ⟨k,t,nm,st,cs,ps⟩:=p
 unfold Part.fieldsB fieldsK at h
 simp only at h⊢
 have e:∀j:Int,k≠j->(k == j)=false:=fun j h=>by simpa using h
 by_cases k1:k=1
 ·subst k1;simp at h;simp [h.2.1]
 by_cases k10:k=10
 ·subst k10;simp at h;simp [h.2.1]
 rw [e 1 k1,e 10 k10] at h
 simp only [Bool.false_eq_true,if_false,Bool.and_eq_true] at h
 have hn:=nameB_ne h.1
 have hn':(nm == [])=false:=by simpa using hn
 by_cases k11:k=11
 ·subst k11;rfl
 by_cases hk:2<=k/\k<=9
 ·have:(decide (k>=2)&&decide (k<=9))=true:=by simp;omega
  rw [this,e 11 k11,hn'];rfl
 ·have h2:=h.2.2
  rw [e 2 (by omega),e 11 k11,e 7 (by omega),e 8 (by omega),e 9 (by omega),e 3 (by omega),e 4 (by omega),e 6 (by omega),e 5 (by omega)] at h2
  simp at h2
theorem fields_cases {p:Part} (h:p.fieldsB=true):(selB p.kind=false->p.cases=[])/\((p.kind == 11)=false->p.parts=[])/\(p.kind == 11||selB p.kind->p.text=[]/\p.style=[]):=by
 obtain ⟨k,t,nm,st,cs,ps⟩:=p
 unfold Part.fieldsB fieldsK at h
 simp only at h⊢
 have e:∀j:Int,k≠j->(k == j)=false:=fun j h=>by simpa using h
 have nil:∀{α:Type} (l:List α),((l.length:Int) == 0)=true->l=[]:=fun l h=>len0 h
 by_cases k1:k=1
 ·subst k1;simp only [Int.reduceBEq,if_true,Bool.and_eq_true] at h
  exact ⟨fun _=>nil _ h.2.2.2.1,fun _=>nil _ h.2.2.2.2,fun hh=>by cases hh⟩
 by_cases k10:k=10
 ·subst k10;simp only [Int.reduceBEq,if_true,if_false,Bool.false_eq_true,Bool.and_eq_true] at h
  exact ⟨fun _=>nil _ h.2.2.2.1,fun _=>nil _ h.2.2.2.2,fun hh=>by cases hh⟩
 rw [e 1 k1,e 10 k10] at h
 simp only [Bool.false_eq_true,if_false,Bool.and_eq_true] at h
 obtain ⟨hn,ht,h⟩:=h
 by_cases k2:k=2
 ·subst k2;simp only [Int.reduceBEq,if_true,Bool.and_eq_true] at h
  exact ⟨fun _=>nil _ h.2.1,fun _=>nil _ h.2.2,fun hh=>by cases hh⟩
 by_cases k11:k=11
 ·subst k11;simp only [Int.reduceBEq,if_true,if_false,Bool.false_eq_true,Bool.and_eq_true] at h
  exact ⟨fun _=>nil _ h.2,fun hh=>(by cases hh),fun _=>⟨by simpa using ht,by simpa using h.1⟩⟩
 rw [e 2 k2,e 11 k11] at h
 simp only [Bool.false_eq_true,if_false] at h
 by_cases hs:selB k=true
 ·have h789:(k == 7||k == 8||k == 9)=true:=by rcases (selB_iff k).1 hs with rfl|rfl|rfl<;>rfl
  rw [h789,if_pos rfl,Bool.and_eq_true] at h
  exact ⟨fun hh=>(by rw [hs] at hh;cases hh),fun _=>nil _ h.2,fun _=>⟨by simpa using ht,by simpa using h.1⟩⟩
 ·have hs':selB k=false:=by simpa using hs
  have n7:k≠7/\k≠8/\k≠9:=⟨fun e=>hs ((selB_iff k).2 (.inl e)),fun e=>hs ((selB_iff k).2 (.inr (.inl e))),fun e=>hs ((selB_iff k).2 (.inr (.inr e)))⟩
  rw [e 7 n7.1,e 8 n7.2.1,e 9 n7.2.2] at h
  simp only [Bool.or_self,Bool.false_eq_true,if_false] at h
  have hx:((cs.length:Int) == 0)=true/\((ps.length:Int) == 0)=true:=by
   split at h
   ·simp only [Bool.and_eq_true] at h;exact h.2
   ·split at h
    ·simp only [Bool.and_eq_true] at h;exact h.2
    ·split at h
     ·simp only [Bool.and_eq_true] at h;exact h.2
     ·cases h
  refine ⟨fun _=>nil _ hx.1,fun _=>nil _ hx.2,fun hh=>?_⟩
  rw [e 11 k11,hs'] at hh;cases hh
theorem chk_grew (ps:List Part):∀d c prev l,(chkPs ps d c prev l).1=true->Grew l (chkPs ps d c prev l).2 (nmsPs ps):=by
 refine tree_Q (P:=fun p=>p.fieldsB=true->∀d c l,(p.chk d c l).1=true->Grew l (p.chk d c l).2 p.nms)
  (Q:=fun ps=>∀d c prev l,(chkPs ps d c prev l).1=true->Grew l (chkPs ps d c prev l).2 (nmsPs ps))
  (R:=fun cs=>∀k d c n seen l,(chkCs cs k d c n seen l).1=true->Grew l (chkCs cs k d c n seen l).2 (nmsCs cs)) ?_ ?_ ?_ ?_ ?_ ps
 ·intro p hr hq hf d c l h
  obtain ⟨hc,hp,_⟩:=fields_cases hf
  rw [p.chk_eq] at h⊢
  rw [p.nms_eq,fields_name hf]
  have hfin:∀l2 m,Grew l l2 m->Grew l (if !(p.kind == 11)&&!(p.name == []) then putN p.name l2 else l2) ((if !(p.kind == 11)&&!(p.name == []) then [p.name] else [])++m):=by
   intro l2 m hm
   cases (!(p.kind == 11)&&!(p.name == [])) with
   | true=>
    simp only [if_true]
    exact (hm.trans (put_grew p.name l2)).same fun x=>by simp;constructor<;>(intro h;rcases h with h|h<;>simp [h])
   | false=>simpa using hm
  by_cases h11:p.kind=11
  ·have hs:selB p.kind=false:=by rw [h11];rfl
   have h11':(p.kind == 11)=true:=by simpa using h11
   rw [hc hs]
   have h0:nmsCs []=[]:=by simp only [nmsCs]
   rw [h0,List.append_nil]
   have h2:=hq (d+1) c false l
   simp only [h11',hs,if_true,if_false,Bool.false_eq_true] at h hfin⊢
   by_cases hd:decide (d>=8)=true
   ·rw [hd] at h;simp at h
   ·have hd':decide (d>=8)=false:=by simpa using hd
    rw [hd'] at h⊢
    simp only [Bool.false_eq_true,if_false] at h⊢
    generalize chkPs p.parts (d+1) c false l=r at *
    obtain ⟨b,l1⟩:=r
    cases b with
    | false=>simp at h
    | true=>exact hfin l1 _ (h2 rfl)
  ·have h11':(p.kind == 11)=false:=by simpa using h11
   rw [hp h11']
   have h0:nmsPs []=[]:=by simp only [nmsPs]
   rw [h0,List.nil_append]
   simp only [h11',if_false,Bool.false_eq_true] at h hfin⊢
   cases hs:selB p.kind with
   | false=>
    rw [hs] at h
    rw [hc hs]
    have h0:nmsCs []=[]:=by simp only [nmsCs]
    rw [h0]
    simp only [if_false,Bool.false_eq_true] at h⊢
    exact hfin l [] (Grew.refl l)
   | true=>
    rw [hs] at h
    have h2:=hr p.kind (d+1) c p.cases.length [] l
    simp only [if_true] at h⊢
    by_cases hd:decide (d>=8)=true
    ·rw [hd] at h;simp at h
    ·have hd':decide (d>=8)=false:=by simpa using hd
     rw [hd'] at h⊢
     simp only [Bool.false_eq_true,if_false] at h⊢
     generalize chkCs p.cases p.kind (d+1) c p.cases.length [] l=r at *
     obtain ⟨b,l1⟩:=r
     cases b with
     | false=>simp at h
     | true=>exact hfin l1 _ (h2 rfl)
 ·intro d c prev l _;simp only [chkPs,nmsPs];exact Grew.refl l
 ·intro p ps hp hq d c prev l h
  rw [chkPs_cons] at h⊢
  rw [nmsPs_cons]
  split at h
  ·cases h
  ·rename_i hn
   rw [if_neg hn]
   have hf:p.fieldsB=true:=by
    cases hh:p.fieldsB with
    | true=>rfl
    | false=>exfalso;apply hn;rw [hh];simp
   have h1:=hp hf d c l
   generalize p.chk d c l=r at *
   obtain ⟨b,l1⟩:=r
   cases b with
   | false=>simp at h
   | true=>exact (h1 rfl).trans (hq _ _ _ _ h)
 ·intro k d c n seen l _;simp only [chkCs,nmsCs];exact Grew.refl l
 ·intro x cs hq hr k d c n seen l h
  rw [chkCs_cons] at h⊢
  rw [nmsCs_cons]
  split at h
  ·cases h
  ·rename_i hn
   rw [if_neg hn]
   have h1:=hq d (c||(k != 9)) false l
   generalize chkPs x.2 d (c||(k != 9)) false l=r at *
   obtain ⟨b,l1⟩:=r
   cases b with
   | false=>simp at h
   | true=>exact (h1 rfl).trans (hr _ _ _ _ _ _ h)
theorem nodup_sub {a b:List Bytes} (ha:a.Nodup) (h:∀x∈a,x∈b):a.length<=b.length:=by
 induction a generalizing b with
 | nil=>simp
 | cons x a ih=>
  rw [List.nodup_cons] at ha
  have hx:x∈b:=h x (by simp)
  have:=ih (b:=b.erase x) ha.2 fun y hy=>by
   have hne:y≠x:=fun e=>ha.1 (e ▸ hy)
   exact (List.mem_erase_of_ne hne).2 (h y (by simp [hy]))
  rw [List.length_erase_of_mem hx] at this
  have:0<b.length:=List.length_pos_of_mem hx
  simp;omega
theorem valid_same (ps:List Part):validP ps=validB ps:=by
 unfold validP validB
 rw [chk_formed0 ps 0 false false []]
 have h01:(0:Int)+1=1:=rfl
 rw [h01]
 cases hf:formedPs ps 1 false false with
 | false=>simp
 | true=>
  have h1:=chk_grew ps 0 false false [] (by rw [chk_formed0,h01,hf])
  have h2:=names_grew ps []
  have h3:=text_len_eq ps _ _ _ hf
  have ha:=nodup_sub (h1.2 List.nodup_nil) fun x hx=>(h2.1 x).2 ((h1.1 x).1 hx)
  have hb:=nodup_sub (h2.2 List.nodup_nil) fun x hx=>(h1.1 x).2 ((h2.1 x).1 hx)
  have:(chkPs ps 0 false false []).2.length=(namesPs ps []).length:=Nat.le_antisymm ha hb
  rw [this,h3]
end Go.Ir
end
namespace Go.Ir
structure WfP (p:Part):Prop where
 keys:selB p.kind=true->∀c∈p.cases,keyB p.kind c.1=true
 other:selB p.kind=true->∃c∈p.cases,c.1=kOtherS
 cases0:selB p.kind=false->p.cases=[]
 parts0:(p.kind == 11)=false->p.parts=[]
 elem:(p.kind == 11)=true->p.text=[]/\p.style=[]
 name:selB p.kind=true->p.name.length<=40
theorem nameB_len {s:Bytes} (h:nameB s=true):s.length<=40:=by
 cases s with
 | nil=>simp
 | cons c r=>
  unfold nameB at h
  simp only [Bool.and_eq_true,decide_eq_true_eq] at h
  omega
theorem plain_fields {p:Part} {c:Bool} (h11:(p.kind == 11)=false) (hs:selB p.kind=false) (h:plainB p c=true):p.fieldsB=true:=by
 rw [fields_plain p c h11 hs,Bool.and_eq_true] at h
 exact h.1
theorem formed_wf (ps:List Part):∀d c prev,formedPs ps d c prev=true->allPs WfP ps:=by
 refine tree_Q (P:=fun p=>∀d c,p.formedB d c=true->p.all WfP)
  (Q:=fun ps=>∀d c prev,formedPs ps d c prev=true->allPs WfP ps)
  (R:=fun cs=>∀k d c keys,formedCs cs k d c keys=true->allCs WfP cs/\(∀x∈cs,keyB k x.1=true)/\(keys.contains kOtherS=true\/∃x∈cs,x.1=kOtherS)) ?_ ?_ ?_ ?_ ?_ ps
 ·intro p hr hq d c h
  rw [p.formedB_eq] at h
  rw [p.all_eq]
  cases h11:p.kind == 11 with
  | true=>
   have hs:selB p.kind=false:=by
    have:p.kind=11:=by simpa using h11
    rw [this];rfl
   rw [h11,if_pos rfl,Bool.and_eq_true] at h
   obtain ⟨h1,h2⟩:=h
   unfold elHead at h1
   simp at h1
   have hc:p.cases=[]:=by simpa using h1.2
   refine ⟨⟨fun hh=>(by rw [hs] at hh;cases hh),fun hh=>(by rw [hs] at hh;cases hh),fun _=>hc,fun hh=>(by rw [h11] at hh;cases hh),fun _=>⟨h1.1.1.2,h1.1.2⟩,fun hh=>(by rw [hs] at hh;cases hh)⟩,?_,hq _ _ _ h2⟩
   rw [hc];simp only [allCs]
  | false=>
   rw [h11,if_neg (by simp)] at h
   cases hs:selB p.kind with
   | true=>
    rw [hs,if_pos rfl,Bool.and_eq_true] at h
    obtain ⟨h1,h2⟩:=h
    unfold selHead at h1
    simp at h1
    have hp:p.parts=[]:=by simpa using h1.1.1.2
    obtain ⟨a1,a2,a3⟩:=hr _ _ _ _ h2
    refine ⟨⟨fun _=>a2,fun _=>?_,fun hh=>(by rw [hs] at hh;cases hh),fun _=>hp,fun hh=>(by rw [h11] at hh;cases hh),fun _=>nameB_len h1.1.1.1.1.1.2⟩,a1,?_⟩
    ·rcases a3 with a3|a3
     ·cases a3
     ·exact a3
    ·rw [hp];simp only [allPs]
   | false=>
    rw [hs,if_neg (by simp)] at h
    obtain ⟨f1,f2,f3⟩:=fields_cases (plain_fields h11 hs h)
    refine ⟨⟨fun hh=>(by rw [hs] at hh;cases hh),fun hh=>(by rw [hs] at hh;cases hh),f1,f2,fun hh=>(by rw [h11] at hh;cases hh),fun hh=>(by rw [hs] at hh;cases hh)⟩,?_,?_⟩
    ·rw [f1 hs];simp only [allCs]
    ·rw [f2 h11];simp only [allPs]
 ·intro d c prev _;simp only [allPs]
 ·intro p ps hp hq d c prev h
  rw [formedPs_cons,Bool.and_eq_true,Bool.and_eq_true] at h
  rw [allPs_cons]
  exact ⟨hp _ _ h.2.1,hq _ _ _ h.2.2⟩
 ·intro k d c keys h
  refine ⟨by simp only [allCs],fun x hx=>(by cases hx),.inl ?_⟩
  simpa only [formedCs] using h
 ·intro x cs hq hr k d c keys h
  rw [formedCs_cons,Bool.and_eq_true,Bool.and_eq_true] at h
  obtain ⟨h0,h1,h2⟩:=h
  obtain ⟨a1,a2,a3⟩:=hr _ _ _ _ h2
  have hk:keyB k x.1=true:=by
   cases hh:keyB k x.1 with
   | true=>rfl
   | false=>rw [hh] at h0;simp at h0
  rw [allCs_cons]
  refine ⟨⟨hq _ _ _ h1,a1⟩,fun y hy=>?_,?_⟩
  ·rcases List.mem_cons.1 hy with rfl|hy
   ·exact hk
   ·exact a2 y hy
  ·rcases a3 with a3|⟨y,hy,hy2⟩
   ·have:kOtherS∈keys\/kOtherS=x.1:=by simpa using a3
    rcases this with h|h
    ·left;simpa using h
    ·right;exact ⟨x,by simp,h.symm⟩
   ·right;exact ⟨y,by simp [hy],hy2⟩
theorem valid_wf {ps:List Part} (h:validB ps=true):allPs WfP ps:=by
 unfold validB at h
 rw [Bool.and_eq_true,Bool.and_eq_true] at h
 exact formed_wf ps _ _ _ h.1.1
theorem all_imp {f g:Part->Prop} (hfg:∀p,f p->g p) (ps:List Part):allPs f ps->allPs g ps:=by
 refine tree_Q (P:=fun p=>p.all f->p.all g) (Q:=fun ps=>allPs f ps->allPs g ps) (R:=fun cs=>allCs f cs->allCs g cs) ?_ ?_ ?_ ?_ ?_ ps
 ·intro p hr hq;rw [p.all_eq,p.all_eq];exact fun h=>⟨hfg p h.1,hr h.2.1,hq h.2.2⟩
 ·intro _;simp only [allPs]
 ·intro p ps hp hq;rw [allPs_cons,allPs_cons];exact fun h=>⟨hp h.1,hq h.2⟩
 ·intro _;simp only [allCs]
 ·intro c cs hq hr;rw [allCs_cons,allCs_cons];exact fun h=>⟨hq h.1,hr h.2⟩
theorem all_and {f g:Part->Prop} (ps:List Part):allPs f ps->allPs g ps->allPs (fun p=>f p/\g p) ps:=by
 refine tree_Q (P:=fun p=>p.all f->p.all g->p.all (fun p=>f p/\g p)) (Q:=fun ps=>allPs f ps->allPs g ps->allPs (fun p=>f p/\g p) ps) (R:=fun cs=>allCs f cs->allCs g cs->allCs (fun p=>f p/\g p) cs) ?_ ?_ ?_ ?_ ?_ ps
 ·intro p hr hq;rw [p.all_eq,p.all_eq,p.all_eq];exact fun h k=>⟨⟨h.1,k.1⟩,hr h.2.1 k.2.1,hq h.2.2 k.2.2⟩
 ·intro _ _;simp only [allPs]
 ·intro p ps hp hq;rw [allPs_cons,allPs_cons,allPs_cons];exact fun h k=>⟨hp h.1 k.1,hq h.2 k.2⟩
 ·intro _ _;simp only [allCs]
 ·intro c cs hq hr;rw [allCs_cons,allCs_cons,allCs_cons];exact fun h k=>⟨hq h.1 k.1,hr h.2 k.2⟩
theorem all_short (ps:List Part):∀M,wtPs ps<=M->allPs (fun p=>∀c∈p.cases,c.1.length<=M) ps:=by
 refine tree_Q (P:=fun p=>∀M,p.wt<=M->p.all (fun p=>∀c∈p.cases,c.1.length<=M)) (Q:=fun ps=>∀M,wtPs ps<=M->allPs (fun p=>∀c∈p.cases,c.1.length<=M) ps) (R:=fun cs=>∀M,wtCs cs<=M->allCs (fun p=>∀c∈p.cases,c.1.length<=M) cs) ?_ ?_ ?_ ?_ ?_ ps
 ·intro p hr hq M h
  rw [p.wt_eq] at h
  rw [p.all_eq]
  exact ⟨fun c hc=>by have:=wtCs_mem hc;omega,hr M (by omega),hq M (by omega)⟩
 ·intro M _;simp only [allPs]
 ·intro p ps hp hq M h;rw [wtPs_cons] at h;rw [allPs_cons];exact ⟨hp M (by omega),hq M (by omega)⟩
 ·intro M _;simp only [allCs]
 ·intro c cs hq hr M h;rw [wtCs_cons] at h;rw [allCs_cons];exact ⟨hq M (by omega),hr M (by omega)⟩
theorem collPs_ext (ps:List Part) (l:List Sel):SelExt l (collPs ps l):=(coll_same _ ps (Nat.lt_succ_self _) l).2
theorem collCs_ext (cs:List Case):∀j l,SelExt l (collCs cs j l):=by
 induction cs with
 | nil=>intro j l;simp only [collCs];exact SelExt.refl l
 | cons c cs ih=>intro j l;rw [collCs_cons];exact ((SelExt.mod l j c.1).trans (collPs_ext c.2 _)).trans (ih _ _)
theorem selAdd_ext (l:List Sel) (k:Int) (n:Bytes):SelExt l (selAdd l k n):=by
 unfold selAdd
 split
 ·exact SelExt.app _ _
 ·exact SelExt.refl _
def FoundP (L:List Sel) (p:Part):Prop:=selB p.kind=true->¬findI L p.kind p.name<0
theorem FoundP.mono {L L':List Sel} (h:SelExt L L') {p:Part} (hp:FoundP L p):FoundP L' p:=fun hs=>by
 have:=hp hs
 rw [findI_ext h _ _ this];exact this
theorem coll_found (ps:List Part):allPs WfP ps->∀l,allPs (FoundP (collPs ps l)) ps:=by
 refine tree_Q (P:=fun p=>p.all WfP->∀l,p.all (FoundP (p.coll l))) (Q:=fun ps=>allPs WfP ps->∀l,allPs (FoundP (collPs ps l)) ps) (R:=fun cs=>allCs WfP cs->∀j l,allCs (FoundP (collCs cs j l)) cs) ?_ ?_ ?_ ?_ ?_ ps
 ·intro p hr hq h l
  rw [p.all_eq] at h⊢
  obtain ⟨h1,h2,h3⟩:=h
  rw [p.coll_eq]
  have hp:=hq h3 l
  cases hs:selB p.kind with
  | true=>
   simp only [if_true]
   have e1:=selAdd_ext (collPs p.parts l) p.kind p.name
   have e2:=collCs_ext p.cases (selAt (collPs p.parts l) p.kind p.name) (selAdd (collPs p.parts l) p.kind p.name)
   refine ⟨fun _=>?_,hr h2 _ _,all_imp (fun q hq=>FoundP.mono (e1.trans e2) hq) _ hp⟩
   have:=(selAt_ge (collPs p.parts l) p.kind p.name).1
   rw [findI_ext e2 _ _ this];exact this
  | false=>
   simp only [if_false,Bool.false_eq_true]
   refine ⟨fun hh=>(by rw [hs] at hh;cases hh),?_,hp⟩
   rw [h1.cases0 hs];simp only [allCs]
 ·intro _ l;simp only [allPs]
 ·intro p ps hp hq h l
  rw [allPs_cons] at h⊢
  rw [collPs_cons]
  have e:=collPs_ext ps (p.coll l)
  refine ⟨?_,hq h.2 _⟩
  have h3:=hp h.1 l
  have:=all_imp (f:=FoundP (p.coll l)) (g:=FoundP (collPs ps (p.coll l))) (fun q hq=>FoundP.mono e hq) [p] (by rw [allPs_cons];exact ⟨h3,by simp only [allPs]⟩)
  rw [allPs_cons] at this
  exact this.1
 ·intro _ j l;simp only [allCs]
 ·intro c cs hq hr h j l
  rw [allCs_cons] at h⊢
  rw [collCs_cons]
  have e:=collCs_ext cs j (collPs c.2 (l.modify j (addKey c.1)))
  exact ⟨all_imp (fun q hq=>FoundP.mono e hq) _ (hq h.1 _),hr h.2 _ _⟩
def KS (G:Int->Bytes->Prop) (l:List Sel):Prop:=∀s∈l,∀k∈s.keys,G s.kind k
theorem KS.mod {G:Int->Bytes->Prop} {l:List Sel} (h:KS G l) {j:Nat} {key:Bytes} {s:Sel} (hs:l[j]? = some s) (hk:G s.kind key):KS G (l.modify j (addKey key)):=by
 intro t ht k hkt
 obtain ⟨i,hi⟩:=List.getElem?_of_mem ht
 rw [List.getElem?_modify] at hi
 by_cases hj:j=i
 ·subst hj
  rw [hs] at hi
  have h2:addKey key s=t:=by simpa using hi
  subst h2
  have hm:=List.mem_of_getElem? hs
  unfold addKey at hkt⊢
  split at hkt
  ·rename_i hc;rw [if_pos hc];exact h s hm k hkt
  ·rename_i hc;rw [if_neg hc]
   simp only [List.mem_append,List.mem_singleton] at hkt
   rcases hkt with hkt|rfl
   ·exact h s hm k hkt
   ·exact hk
 ·have:l[i]? = some t:=by
   cases hl:l[i]? with
   | none=>rw [hl] at hi;simp at hi
   | some u=>rw [hl] at hi;simp [hj] at hi;rw [hi]
  exact h t (List.mem_of_getElem? this) k hkt
theorem KS.add {G:Int->Bytes->Prop} {l:List Sel} (h:KS G l) (k:Int) (n:Bytes):KS G (selAdd l k n):=by
 unfold selAdd
 split
 ·intro s hs k hk
  rcases List.mem_append.1 hs with hs|hs
  ·exact h s hs k hk
  ·simp at hs;subst hs;cases hk
 ·exact h
def KeysG (G:Int->Bytes->Prop) (p:Part):Prop:=selB p.kind=true->∀c∈p.cases,G p.kind c.1
theorem selAdd_at (l:List Sel) (k:Int) (n:Bytes):∃s,(selAdd l k n)[selAt l k n]? = some s/\s.kind=k:=by
 unfold selAdd selAt
 by_cases h:findI l k n<0
 ·rw [if_pos h,if_pos h]
  exact ⟨⟨k,n,[]⟩,by simp,rfl⟩
 ·rw [if_neg h,if_neg h]
  unfold findI at h⊢
  induction l with
  | nil=>exact absurd (by simp [idxI]) h
  | cons s l ih=>
   simp only [idxI] at h⊢
   cases hs:selIs k n s with
   | true=>
    refine ⟨s,rfl,?_⟩
    unfold selIs at hs;simp at hs;exact hs.1
   | false=>
    simp only [hs,cond_false] at h⊢
    have h2:¬idxI (selIs k n) l<0:=by intro hlt;rw [if_pos hlt] at h;exact h (by decide)
    obtain ⟨t,h3,h4⟩:=ih h2
    rw [if_neg h2]
    refine ⟨t,?_,h4⟩
    have:(idxI (selIs k n) l+1).toNat=(idxI (selIs k n) l).toNat+1:=by omega
    rw [this];exact h3
theorem ext_at {l l':List Sel} (h:SelExt l l') {j:Nat} {k:Int} (hj:∃s,l[j]? = some s/\s.kind=k):∃s,l'[j]? = some s/\s.kind=k:=by
 obtain ⟨s,h1,h2⟩:=hj
 have hi:j<l'.length:=Nat.lt_of_lt_of_le (List.getElem?_eq_some_iff.1 h1).1 h.1
 exact ⟨l'[j],List.getElem?_eq_getElem hi,by rw [<-(h.2 j s _ h1 (List.getElem?_eq_getElem hi)).1];exact h2⟩
theorem coll_keys (G:Int->Bytes->Prop) (ps:List Part):allPs (KeysG G) ps->∀l,KS G l->KS G (collPs ps l):=by
 refine tree_Q (P:=fun p=>p.all (KeysG G)->∀l,KS G l->KS G (p.coll l)) (Q:=fun ps=>allPs (KeysG G) ps->∀l,KS G l->KS G (collPs ps l))
  (R:=fun cs=>allCs (KeysG G) cs->∀k,(∀c∈cs,G k c.1)->∀j l,(∃s,l[j]? = some s/\s.kind=k)->KS G l->KS G (collCs cs j l)) ?_ ?_ ?_ ?_ ?_ ps
 ·intro p hr hq h l hl
  rw [p.all_eq] at h
  rw [p.coll_eq]
  have h1:=hq h.2.2 l hl
  cases hs:selB p.kind with
  | true=>
   simp only [if_true]
   exact hr h.2.1 p.kind (h.1 hs) _ _ (selAdd_at _ _ _) (h1.add _ _)
  | false=>simpa using h1
 ·intro _ l hl;simpa only [collPs] using hl
 ·intro p ps hp hq h l hl
  rw [allPs_cons] at h
  rw [collPs_cons]
  exact hq h.2 _ (hp h.1 l hl)
 ·intro _ k _ j l _ hl;simpa only [collCs] using hl
 ·intro c cs hq hr h k hk j l hj hl
  rw [allCs_cons] at h
  rw [collCs_cons]
  obtain ⟨s,hs,hsk⟩:=hj
  have h2:=hq h.1 _ (hl.mod hs (by rw [hsk];exact hk c (by simp)))
  exact hr h.2 k (fun d hd=>hk d (by simp [hd])) j _ (ext_at ((SelExt.mod l j c.1).trans (collPs_ext c.2 _)) ⟨s,hs,hsk⟩) h2
theorem findI_ord (l:List Sel) (k:Int) (n:Bytes):findI (l.map Sel.ord) k n=findI l k n:=by
 unfold findI
 induction l with
 | nil=>rfl
 | cons s l ih=>
  have:selIs k n s.ord=selIs k n s:=rfl
  simp only [List.map_cons,idxI,this,ih]
theorem findC_ne {cs:List Case} {k:Bytes} (h:∃c∈cs,c.1=k):findC cs k≠none:=by
 obtain ⟨c,hc,hk⟩:=h
 intro hn
 have:(cs.find? fun c=>c.1 == k)=none:=by
  unfold findC at hn;simpa using hn
 have:=List.find?_eq_none.1 this c hc
 simp [hk] at this
theorem ord_mem {kind:Int} {keys:List Bytes} {k:Bytes} (h:k∈ordK kind keys):k∈keys\/k=kOtherS:=by
 unfold ordK at h
 simp only [List.mem_append,List.mem_singleton] at h
 rcases h with h|h|h
 ·left;exact (List.mem_filter.1 h).1
 ·unfold clsK at h
  split at h
  ·cases h
  ·left;have:=(List.mem_filter.1 h).2;simpa using this
 ·right;exact h
theorem ord_ne (kind:Int) (keys:List Bytes):ordK kind keys≠[]:=by unfold ordK;simp
theorem ord_len (kind:Int) (keys:List Bytes):(ordK kind keys).length<=keys.length+6:=by
 unfold ordK
 rw [List.length_append,List.length_append]
 have h1:=List.length_filter_le (keepK kind) keys
 have h2:(clsK kind keys).length<=5:=by
  unfold clsK
  split
  ·simp
  ·exact List.length_filter_le _ kFive
 simp;omega
theorem sels_len (ps:List Part):(selsP ps).length<=wtPs ps:=by
 unfold selsP
 rw [List.length_map]
 have:=collPs_w ps []
 have h2:=len_selW (collPs ps [])
 simp only [selW] at this;omega
theorem sels_keys (ps:List Part):∀s∈selsP ps,s.keys≠[]/\s.keys.length<=wtPs ps+6:=by
 intro s hs
 obtain ⟨t,ht,rfl⟩:=List.mem_map.1 hs
 refine ⟨ord_ne _ _,?_⟩
 have h1:=ord_len t.kind t.keys
 have h2:=keys_selW ht
 have h3:=collPs_w ps []
 simp only [selW] at h3
 show (ordK t.kind t.keys).length<=_
 omega
theorem KS.nil (G:Int->Bytes->Prop):KS G []:=fun s hs=>by cases hs
theorem sels_klen (ps:List Part):∀s∈selsP ps,∀k∈s.keys,k.length<=wtPs ps+5:=by
 intro s hs k hk
 obtain ⟨t,ht,rfl⟩:=List.mem_map.1 hs
 have h:=coll_keys (fun _ k=>k.length<=wtPs ps) ps (all_imp (fun p hp _ c hc=>hp c hc) ps (all_short ps _ (Nat.le_refl _))) [] (KS.nil _)
 rcases ord_mem (kind:=t.kind) (keys:=t.keys) hk with h1|rfl
 ·have:=h t ht k h1;omega
 ·show 5<=_;omega
theorem valid_ok {ps:List Part} (h:allPs WfP ps):allPs (resOk (selsP ps)) ps:=by
 refine all_imp (fun p hp=>?_) ps (all_and ps h (coll_found ps h []))
 intro hs
 refine ⟨?_,findC_ne (hp.1.other hs)⟩
 unfold selsP
 rw [findI_ord];exact hp.2 hs
theorem wtPs_app (a b:List Part):wtPs (a++b)=wtPs a+wtPs b:=by
 induction a with
 | nil=>simp [wtPs_nil]
 | cons x a ih=>rw [List.cons_append,wtPs_cons,wtPs_cons,ih];omega

end Go.Ir
namespace Go.Ir
open Go.Proofs
variable (W0 : World)
theorem okCe (l:List Case):∀y∈l.map Case.enc,y.ok=true:=by
 intro y hy;obtain ⟨x,_,rfl⟩:=List.mem_map.1 hy;rfl
theorem celCe (l:List Case):∀y∈l.map Case.enc,(cells y).length=2:=by
 intro y hy;obtain ⟨x,_,rfl⟩:=List.mem_map.1 hy;rfl
def TCs:Nat:=77
theorem c_cloneC (cs:List Case) (hl:cs.length<=2^30):RetN Tryz.prog W0 145 [.sl (cs.map Case.enc)] [] (.arr TCs 2 (cs.map Case.enc)) []:=by
 refine fn_newW (s:=2) f145ok (by simp) (by simp [lk]) fun n0 hn0=>?_
 clear hn0
 have hll:cs.length<=LLim:=by unfold LLim;omega
 cases cs with
 | nil=>
  simp only [push_cast,seval,reduceEqDiff,List.map_nil,List.length_nil,eq_true (show 0<=LLim by decide),eq_true (celCe [])]
  intros
  refine ⟨?_,?_⟩
  ·intros
   exact ⟨_,StLe.own (s:=2) (e:=TCs) (sz:=2) (k:=0) rfl,_,rfl,by simp [lk],rfl,fun _ _ h=>by cases h⟩
  ·intros
   exact finNW_i rfl (by simp [lk,TCs])
 | cons c cs=>
  have hcel:=celCe (c::cs)
  rw [List.map_cons] at hcel
  rw [List.map_cons,Case.enc_eq] at *
  rw [List.length_cons] at hll
  simp only [push_cast,seval,reduceEqDiff,List.length_nil,eq_true (show 0<=LLim by decide),eq_true hcel,List.nil_append,eq_true hll]
  intros
  exact finNW_i rfl (by simp [lk,TCs,Case.enc_eq])
theorem frz_boxM {W0:World} {nt n n' e sz:Nat} {env env':Env} {σ τ:Sto} {rid kid:Id} {A B es:List V} (hrk:rid≠kid) (hr:lk σ rid=some (.box (.agg (A ++ .arr kid::B)))) (hk:lk σ kid=some (.arr e sz es)) (hτ:∀i e',lk τ i=some e'->lk σ i=some e'/\i≠kid) (hτr:lk τ rid=none) (hok:∀y∈es,y.ok=true) (henv:∀s,get env' s=get env s\/get env' s = .any) (hn:n<=n') :
  StLe W0 nt ⟨env,σ,n⟩ ⟨env',(rid,.box (.agg (A ++ .sl es::B)))::τ,n'⟩:=by
 refine StLe.weak (fun i=>if i=kid then some es else none) (fun i es' h=>?_) (fun s=>?_) (fun i e' h=>?_) hn
 ·split at h
  ·rename_i hi;subst hi;cases h
   refine ⟨⟨e,sz,hk⟩,?_⟩
   simp only [lk,if_neg hrk]
   cases hl:lk τ i with
   | none=>rfl
   | some x=>exact absurd rfl (hτ i x hl).2
  ·cases h
 ·rcases henv s with h|h
  ·rw [h];exact .refl _
  ·rw [h];exact .any _
 ·simp only [lk] at h
  by_cases hi:rid=i
  ·rw [if_pos hi] at h
   cases h
   subst hi
   refine ⟨_,hr,.box _ _ (.agg _ _ (by simp) fun k c c' h1 h2=>?_) (by simp [cells]) rfl rfl⟩
   by_cases hk:k<A.length
   ·rw [List.getElem?_append_left hk] at h1 h2
    rw [h1] at h2;cases h2;exact .refl _
   ·rw [List.getElem?_append_right (by omega)] at h1 h2
    cases hq:k-A.length with
    | zero=>
     rw [hq] at h1 h2
     simp at h1 h2
     subst h1 h2
     refine .arr kid es es (by simp) rfl (fun k c c' h1 h2=>?_) (fun k c c' h1 h2=>?_)
     ·rw [h1] at h2;cases h2;exact .refl _
     ·rw [h1] at h2;cases h2
      have:=hok c (List.mem_of_getElem? h1)
      exact ⟨rfl,this,this⟩
    | succ q=>
     rw [hq] at h1 h2
     simp only [List.getElem?_cons_succ] at h1 h2
     rw [h1] at h2;cases h2;exact .refl _
  ·rw [if_neg hi] at h
   exact ⟨_,(hτ i e' h).1,.refl _⟩
theorem retS_of_retN {P:Program} {W0:World} {f:FuncId} {args:List V} {σ σ':Sto} {e sz:Nat} {es:List V} (h:RetN P W0 f args σ (.arr e sz es) σ') (hok:∀y∈es,y.ok=true):RetS P W0 f args σ (.sl es) σ':=by
 refine ⟨h.callable,h.dom,fun n w μ H vals hp hv=>Calls.mono (h.run n w μ H vals hp hv) ?_⟩
 rintro e' w' ⟨val,μ',H',n',id,rfl,hm,h1,hn0,hl,hp',hn,hf,hold⟩
 have hat:=init_at (W0:=W0) (nt:=1) (args:=[.arr id]) (by simp) hp' (VRels.cons (.arr _ _ hm h1) VRels.nil_)
 obtain ⟨μ2,H2,hr,hp2,hf2,hold2,hbn⟩:=hat.weak (fun i=>if i=id then some es else none) (env':=[(0,.sl es)]) (σ':=σ') (fun i es' hi=>by
   split at hi
   ·rename_i h0;subst h0;cases hi;exact ⟨⟨e,sz,by simp [lk]⟩,hl⟩
   ·cases hi) (fun s=>by
   cases s with
   | zero=>
    simp only [params,get,if_true]
    refine .arr id es es (by simp) rfl (fun k c c' h1 h2=>?_) (fun k c c' h1 h2=>?_)
    ·rw [h1] at h2;cases h2;exact .refl _
    ·rw [h1] at h2;cases h2
     have:=hok c (List.mem_of_getElem? h1)
     exact ⟨rfl,this,this⟩
   | succ s=>exact .refl _) (fun i e2 hi=>⟨e2,by
   simp only [lk]
   rw [if_neg]
   ·exact hi
   ·rintro rfl;rw [hl] at hi;exact absurd hi (by simp),.refl _⟩) (Nat.le_refl _)
 refine ⟨val,μ2,H2,n',rfl,?_,hp2,hn,hf.trans hf2,fun i hi h0=>hold2 i (by simp only;omega) (hold i hi h0)⟩
 have:=hr.at_ 0
 simpa [get] using this
set_option maxHeartbeats 4000000 in
theorem c_clonedN:∀(N:Nat) (ps:List Part),wtPs ps<N->wtPs ps<=2^24->RetN Tryz.prog W0 115 [.sl (ps.map Part.enc)] [] (.arr TPt 6 (ps.map Part.enc)) []:=by
 intro N
 induction N with
 | zero=>intro ps h;omega
 | succ N ihN=>
 have ih:=fun ps h1 h2=>retS_of_retN (ihN ps h1 h2) (okPt _)
 intro ps hN hw0
 have hlen:=len_wtPs ps
 refine fn_newW (s:=2) f115ok (by simp) (by simp [lk]) fun n0 hn0=>?_
 clear hn0
 simp only [push_cast,seval,reduceEqDiff]
 intro k1 k2 k3
 refine aWP_loopW ps.length (Inv:=fun m st=>∃done rest n id,ps=done++rest/\m=rest.length/\id.1<n/\st=⟨[(3,.arr id),(7,.sl (ps.map Part.enc)),(8,.i .i64 ps.length),(9,.i .i64 done.length)],[(id,.arr TPt 6 (done.map Part.enc))],n⟩) ⟨_,(StLe.own (s:=3) (e:=TPt) (sz:=6) (k:=99) rfl).trans (StLe.envD (fun t=>?_) (Nat.le_refl _)),[],ps,_,_,rfl,rfl,?_,rfl⟩ ?_
 ·left
  by_cases h3:3=t
  ·subst h3;rfl
  ·simp [get,h3]
 ·simp
 rintro m _ ⟨done,rest,n,id,hz,rfl,hin,rfl⟩
 cases rest with
 | nil=>
  simp only [List.append_nil] at hz
  subst hz
  simp only [push_cast,seval,reduceEqDiff]
  intros
  exact finNW_i rfl (by simp [lk])
 | cons p rest=>
  have hbd:=zip_bd hz
  have hwp:=wtPs_mem (ps:=ps) (p:=p) (by rw [hz];simp)
  have hpw:=p.wt_eq
  have hre:=ih p.parts (by omega) (by omega)
  have hlc:=len_wtCs p.cases
  have hcl:=c_cloneC W0 p.cases (by omega)
  have fix:∀k j,(id=(n+1+k,j))=False:=fun k j=>eq_false fun he=>by rw [he] at hin;simp at hin;omega
  have fxi:∀k j,((n+1+k,j)=id)=False:=fun k j=>eq_false fun he=>of_eq_false (fix k j) he.symm
  have hll:done.length+1<=LLim:=by have:ps.length=done.length+(rest.length+1):=by rw [hz];simp
                                   unfold LLim;omega
  simp only [push_cast,seval,reduceEqDiff,hz,wrap_zip p (done:=done) (by omega),fix,fxi,List.length_map]
  repeat' (first|(((first|apply condU_s|apply gdU_t|apply gdU_f)<;>intro _h)<;>simp only [push_cast,seval,reduceEqDiff,_h,hz,wrap_zip p (done:=done) (by omega),fix,fxi,List.length_map])|(refine c_call (by exact hre) ?_;simp only [push_cast,seval,reduceEqDiff,hz,wrap_zip p (done:=done) (by omega),fix,fxi,List.length_map])|intro _)
  refine c_calln hcl (fun i e h=>by simp [lk] at h) ?_
  rw [over_nil]
  have hTC:TCs=77:=rfl
  simp only [push_cast,seval,reduceEqDiff,hz,wrap_zip p (done:=done) (by omega),fix,fxi,List.length_map]
  intros
  rename_i a1 a2 a3 a4 a5
  have hlt:n<n+1+a1/\n+1+a1<n+1+a1+1+a2+1+a3/\n+1+a1+1+a2+1+a3<n+1+a1+1+a2+1+a3+1+a4+1+a5:=by omega
  generalize n+1+a1+1+a2+1+a3+1+a4+1+a5=n3 at *
  generalize n+1+a1+1+a2+1+a3=c0 at *
  generalize n+1+a1=x0 at *
  obtain ⟨hx0,hc0,hn3⟩:=hlt
  have gic:(id=(c0,19))=False:=eq_false fun he=>by rw [he] at hin;simp at hin;omega
  have gci:((c0,19)=id)=False:=eq_false fun he=>of_eq_false gic he.symm
  have gix:(id=(x0,5))=False:=eq_false fun he=>by rw [he] at hin;simp at hin;omega
  have gxi:((x0,5)=id)=False:=eq_false fun he=>of_eq_false gix he.symm
  refine aWP_loopW p.cases.length (Inv:=fun m st=>∃cd cr n',p.cases=cd++cr/\m=cr.length/\c0<n'/\st=⟨[(3,.arr id),(5,.ref (x0,5) 0),(7,.sl ((done++p::rest).map Part.enc)),(8,.i .i64 (done++p::rest).length),(9,.i .i64 done.length),(23,.i .i64 p.cases.length),(24,.i .i64 cd.length)],[((c0,19),.arr TCs 2 (p.cases.map Case.enc)),((x0,5),.box (.agg [.i .i64 p.kind,.s p.text,.s p.name,.s p.style,.arr (c0,19),.sl (p.parts.map Part.enc)])),(id,.arr TPt 6 (done.map Part.enc))],n'⟩) ⟨_,StLe.refl,[],p.cases,_,rfl,rfl,hn3,rfl⟩ ?_
  clear hre hcl
  rintro m _ ⟨cd,cr,n',hcz,rfl,hn',rfl⟩
  cases cr with
  | nil=>
   have hlt0:decide ((cd.length:Int)<(p.cases.length:Int))=false:=by rw [hcz];simp
   simp only [push_cast,seval,reduceEqDiff,hlt0]
   intros
   refine wkW_i (frz_boxM (e:=TCs) (sz:=2) (rid:=(x0,5)) (kid:=(c0,19)) (A:=[.i .i64 p.kind,.s p.text,.s p.name,.s p.style]) (B:=[.sl (p.parts.map Part.enc)]) (es:=p.cases.map Case.enc) (τ:=[(id,.arr TPt 6 (done.map Part.enc))]) (by simp) (by simp [lk]) (by simp [lk]) (fun i e' h=>?_) (by simp [lk,gix]) (okCe _) (fun s=>.inl rfl) (Nat.le_refl _)) ?_
   ·simp only [lk] at h
    split at h
    ·rename_i he;subst he;cases h
     exact ⟨by simp [lk,gci,gxi],fun h=>of_eq_false gic h⟩
    ·cases h
   have hps:((done++[p]).map Part.enc)=done.map Part.enc++[.agg [.i .i64 p.kind,.s p.text,.s p.name,.s p.style,.sl (p.cases.map Case.enc),.sl (p.parts.map Part.enc)]]:=by simp [Part.enc_eq]
   have gxi2:=gxi
   simp only [push_cast,seval,reduceEqDiff,List.cons_append,List.nil_append,gxi,gix,eq_true hll,List.length_map,<-hps,TPt,wrap_zip p (done:=done) (by omega)]
   intros
   exact ⟨_,_,Nat.lt_succ_self _,StLe.drop (fun i e h=>lk_app_left (τ:=[_]) h) (Nat.le_refl _),done++[p],rest,_,_,by simp,rfl,by (try simp);omega,rfl⟩
  | cons c cr=>
   have hlt0:decide ((cd.length:Int)<(p.cases.length:Int))=true:=by rw [hcz];simp;omega
   have hcb:=zip_bd hcz
   have hcw:=wtCs_mem (cs:=p.cases) (c:=c) (by rw [hcz];simp)
   have hrc:=ih c.2 (by omega) (by omega)
   have hget:(p.cases.map Case.enc)[cd.length]? = some (.agg [.s c.1,.sl (c.2.map Part.enc)]):=by
    rw [hcz,List.getElem?_map,List.getElem?_append_right (by simp)];simp [Case.enc_eq]
   have hset:(p.cases.map Case.enc).set cd.length (.agg [.s c.1,.sl (c.2.map Part.enc)])=p.cases.map Case.enc:=by
    rw [hcz];simp [List.set_append,Case.enc_eq]
   simp only [push_cast,seval,reduceEqDiff,hlt0,hget,hset,if_pos hcb,wrap_zip c (done:=cd) (by omega),List.length_map,TCs]
   repeat' (first|(((first|apply condU_s|apply gdU_t|apply gdU_f)<;>intro _h)<;>simp only [push_cast,seval,reduceEqDiff,_h,hlt0,hget,hset,if_pos hcb,wrap_zip c (done:=cd) (by omega),List.length_map,TCs])|(refine c_call (by exact hrc) ?_;simp only [push_cast,seval,reduceEqDiff,hlt0,hget,hset,if_pos hcb,wrap_zip c (done:=cd) (by omega),List.length_map,TCs])|intro _)
   exact ⟨_,_,Nat.lt_succ_self _,StLe.refl,cd++[c],cr,_,by rw [hcz];simp,rfl,by omega,rfl⟩
theorem c_cloned (N:Nat) (ps:List Part) (h:wtPs ps<N) (hw:wtPs ps<=2^24):RetS Tryz.prog W0 115 [.sl (ps.map Part.enc)] [] (.sl (ps.map Part.enc)) []:=retS_of_retN (c_clonedN W0 N ps h hw) (okPt _)

end Go.Ir
section
namespace Go.Ir
open Go.RowKit Go.Proofs.YtjhgnkpcldnmdaaGreatDoor
def mkEl (ag:Bool) (c:List V):V:=if ag then .agg c else c.headD .any
inductive WtV (P:Program):TypeId->List V->Prop where
 | bool (t:TypeId) (b:Bool) (h:P.underlying t=some .bool):WtV P t [.b b]
 | int (t:TypeId) (k:IntKind) (n:Int) (h:P.underlying t=some (.int k)) (hw:(Lit.int k n).wf=true):WtV P t [.i k n]
 | str (t:TypeId) (l:List UInt8) (h:P.underlying t=some .string):WtV P t [.s l]
 | sl (t e:TypeId) (es:List V) (h:P.underlying t=some (.slice e)) (he:∀el∈es,∃c,el=mkEl ((aggT P e).getD false) c/\cells el=c) (hc:∀el∈es,(cells el).length=P.cellsOf e) (hw:∀el∈es,WtV P e (cells el)):WtV P t [.sl es]
 | st (t:TypeId) (fs:Array Field) (vs:List V) (h:P.underlying t=some (.struct fs)) (hl:vs.length=P.cellsOf t) (hf:∀f∈fs.toList,WtV P f.type ((vs.drop f.offset).take (P.cellsOf f.type))):WtV P t vs
mutual
def bulkV:V->Nat
 | .s l=>l.length+1
 | .sl es=>bulkVs es+1
 | .agg cs=>bulkVs cs
 | _=>1
def bulkVs:List V->Nat
 | []=>0
 | v::vs=>bulkV v+bulkVs vs
end
theorem bulkVs_append (a b:List V):bulkVs (a++b)=bulkVs a+bulkVs b:=by
 induction a with
 | nil=>simp [bulkVs]
 | cons x a ih=>simp [bulkVs,ih];omega
def layB (P:Program):List Field->Nat->Option Nat
 | [],off=>some off
 | f::fs,off=>if f.offset=off then layB P fs (off+P.cellsOf f.type) else none
def plnB (P:Program) (T:List TypeId):Bool:=T.all fun t=>match P.underlying t with
 | some .bool|some (.int _)|some .string=>P.cellsOf t == 1
 | some (.slice e)=>P.cellsOf t == 1&&T.contains e&&decide (0<P.cellsOf e)
 | some (.struct fs)=>fs.toList.all (fun f=>T.contains f.type)&&layB P fs.toList 0 == some (P.cellsOf t)
 | _=>false
section
variable {H : Type} {enc : TypeId × Value → H} {P : Program} {w : World} {base : Nat} {spare : Nat → Bool} {held : Bool} {T : List TypeId}
theorem bulkAll_mem {d:DataW H} {ds:List (DataW H)} (h:d∈ds):Rows.uptoBulk d<=Rows.uptoBulkAll ds:=by
 induction ds with
 | nil=>cases h
 | cons x ds ih=>
  simp only [Rows.uptoBulkAll]
  rcases List.mem_cons.1 h with rfl|h
  ·omega
  ·have:=ih h;omega
theorem read_fields {μ:Id->Option Value} {Hc:Addr->Option Value} {cs:List Value} :
  ∀(fs:List Field) (off tot:Nat) (ds:List (DataW H)),layB P fs off=some tot->cs.length=tot->ds.length=fs.length->
   (∀(i:Nat) (f:Field) (d:DataW H),fs[i]? = some f->ds[i]? = some d->∃vs,CRel μ Hc vs ((cs.drop f.offset).take (P.cellsOf f.type))/\WtV P f.type vs/\bulkVs vs<=Rows.uptoBulk d)->
   off<=tot/\∃vs,CRel μ Hc vs (cs.drop off)/\(∀pre:List V,pre.length=off->∀f∈fs,WtV P f.type (((pre++vs).drop f.offset).take (P.cellsOf f.type)))/\bulkVs vs<=Rows.uptoBulkAll ds
 | [],off,tot,ds,hlay,hcs,hds,h=>by
  simp only [layB,Option.some.injEq] at hlay
  subst hlay
  refine ⟨Nat.le_refl _,[],?_,fun _ _ f hf=>(by cases hf),by simp [bulkVs]⟩
  rw [List.drop_of_length_le (by omega)]
  exact CRel.nil_
 | f::fs,off,tot,ds,hlay,hcs,hds,h=>by
  simp only [layB] at hlay
  split at hlay
  ·rename_i ho
   cases ds with
   | nil=>simp at hds
   | cons d ds=>
    obtain ⟨hle,vs,h1,h2,h3⟩:=read_fields fs _ tot ds hlay hcs (by simpa using hds) (fun i f' d' hf hd=>h (i+1) f' d' (by simpa using hf) (by simpa using hd))
    obtain ⟨us,g1,g2,g3⟩:=h 0 f d rfl rfl
    rw [ho] at g1
    have hul:us.length=P.cellsOf f.type:=by
     have:=g1.len
     rw [List.length_take,List.length_drop] at this
     omega
    refine ⟨by omega,us++vs,?_,?_,?_⟩
    ·have:=g1.append h1
     rw [<-List.drop_drop,List.take_append_drop] at this
     exact this
    ·intro pre hpre f' hf'
     rcases List.mem_cons.1 hf' with rfl|hf'
     ·rw [ho,<-hpre,List.drop_left,<-hul,List.take_left]
      exact g2
     ·have:=h2 (pre++us) (by simp [hpre,hul]) f' hf'
      rwa [List.append_assoc] at this
    ·rw [bulkVs_append]
     simp only [Rows.uptoBulkAll]
     omega
  ·cases hlay
theorem mkEl_cells {t:TypeId} {vs:List V} {ag:Bool} (hag:aggT P t=some ag) (h:WtV P t vs):cells (mkEl ag vs)=vs:=by
 cases ag with
 | true=>rfl
 | false=>
  cases h with
  | st t fs vs h hl hf=>simp [aggT,h,aggD] at hag
  | _=>rfl
theorem mkEl_bulk {t:TypeId} {vs:List V} {ag:Bool} (hag:aggT P t=some ag) (h:WtV P t vs):bulkV (mkEl ag vs)=bulkVs vs:=by
 cases ag with
 | true=>simp [mkEl,bulkV]
 | false=>
  cases h with
  | st t fs vs h hl hf=>simp [aggT,h,aggD] at hag
  | _=>simp [mkEl,bulkVs]
theorem read_plain {μ:Id->Option Value} (hT:plnB P T=true):∀(n:Nat) (t:TypeId) (cs:List Value) (x:DataW H × List MemPlace),t∈T->DataW.trod enc P w base spare held n t cs=some x->Rows.uptoBulk x.1<=1048576->
  ∃vs,CRel μ (fun ad=>w.cell? ad) vs cs/\WtV P t vs/\bulkVs vs<=Rows.uptoBulk x.1:=by
 intro n
 induction n with
 | zero=>intro t cs x _ h;simp [DataW.trod] at h
 | succ n ih=>
  intro t cs x ht h hb
  have hpl:=List.all_eq_true.1 hT t ht
  have one:∀{c:V} {v:Value},VRel μ (fun ad=>w.cell? ad) c v->v.oneCell'=true->CRel μ (fun ad=>w.cell? ad) [c] [v]:=fun hv h1=>
   ⟨VRels.cons hv VRels.nil_,fun v' hv'=>by rw [List.mem_singleton.1 hv'];exact h1⟩
  cases hu:P.underlying t with
  | none=>simp [hu] at hpl
  | some d=>
   cases d<;>simp only [hu] at hpl<;>(try (cases hpl;done))
   case bool=>
    unfold DataW.trod at h
    rw [hu] at h
    match cs,h with
    | [.bool b],h=>cases h;exact ⟨[.b b],one (.b b) rfl,.bool t b hu,by simp [bulkVs,bulkV,Rows.uptoBulk]⟩
   case int k=>
    unfold DataW.trod at h
    rw [hu] at h
    match cs,h with
    | [.int k' m],h=>
     simp only at h
     split at h
     ·rename_i hk
      obtain ⟨rfl,hw⟩:=hk
      cases h
      exact ⟨[.i k' m],one (.i k' m) rfl,.int t k' m hu hw,by simp [bulkVs,bulkV,Rows.uptoBulk]⟩
     ·cases h
   case string=>
    unfold DataW.trod at h
    rw [hu] at h
    match cs,h with
    | [.string s],h=>
     simp only at h
     split at h
     ·rename_i hs
      cases h
      simp only [Rows.uptoBulk] at hb
      refine ⟨[.s s.data.toList],one ?_ rfl,.str t _ hu,by simp [bulkVs,bulkV,Rows.uptoBulk]⟩
      have:=VRel.s (μ:=μ) (H:=fun ad=>w.cell? ad) s.data.toList (by unfold SLim;omega)
      simpa using this
     ·cases h
   case slice e=>
    simp only [Bool.and_eq_true,beq_iff_eq,List.contains_eq_mem,decide_eq_true_eq] at hpl
    obtain ⟨⟨hc1,heT⟩,hpos⟩:=hpl
    rcases DataW.trod_slice hu h with ⟨rfl,rfl⟩|⟨a,len,cap,elems,rest,m,hm,rfl,rfl,hbase,hlc,hcm,hel,helem,_,_⟩
    ·exact ⟨[.sl []],one (.slE none 0) rfl,.sl t e [] hu (fun _ h=>by cases h) (fun _ h=>by cases h) (fun _ h=>by cases h),by simp [bulkVs,bulkV,Rows.uptoBulk]⟩
    ·cases hm
     simp only [Rows.uptoBulk] at hb
     have hepl:=List.all_eq_true.1 hT e heT
     obtain ⟨ag,hag⟩:∃ag,aggT P e=some ag:=by
      unfold aggT
      cases hue:P.underlying e with
      | none=>simp [hue] at hepl
      | some d=>exact ⟨_,rfl⟩
     have each:∀i,i<len->∃(vs:List V) (seg:List Value) (y:DataW H × List MemPlace),elems[i]? = some y/\seg.length=P.cellsOf e/\(∀k,k<P.cellsOf e->w.cell? (a.add (i*P.cellsOf e+k))=seg[k]?)/\CRel μ (fun ad=>w.cell? ad) vs seg/\WtV P e vs/\bulkVs vs<=Rows.uptoBulk y.1:=by
      intro i hi
      have h1:=helem i hi
      have hlt:i<elems.length:=by omega
      rw [List.getElem?_eq_getElem hlt] at h1
      cases hcs:w.cells? base (a.add (i*P.cellsOf e)) (P.cellsOf e) with
      | none=>rw [hcs] at h1;cases h1
      | some seg=>
       rw [hcs] at h1
       obtain ⟨_,hl,hcell⟩:=World.cells?_some hcs
       have hmem:elems[i].1∈elems.map (·.1):=List.mem_map.2 ⟨_,List.getElem_mem hlt,rfl⟩
       have:=bulkAll_mem hmem
       obtain ⟨vs,r1,r2,r3⟩:=ih e seg elems[i] heT h1 (by omega)
       refine ⟨vs,seg,elems[i],List.getElem?_eq_getElem hlt,hl,fun k hk=>?_,r1,r2,r3⟩
       have:=hcell k hk
       rwa [show (a.add (i*P.cellsOf e)).add k=a.add (i*P.cellsOf e+k) from by
        unfold Addr.add
        by_cases hi:i*P.cellsOf e=0<;>by_cases hj:k=0<;>simp [hi,hj,Nat.add_assoc]] at this
     have all:∀j,j<=len->∃(es:List V) (vals:List Value),es.length=j/\vals.length=j*P.cellsOf e/\(∀el∈es,(∃c,el=mkEl ag c/\cells el=c)/\(cells el).length=P.cellsOf e/\WtV P e (cells el))/\CRel μ (fun ad=>w.cell? ad) (flat es) vals/\
       (∀(k:Nat) (v:Value),vals[k]? = some v->w.cell? (a.add k)=some v)/\bulkVs es<=Rows.uptoBulkAll ((elems.map (·.1)).take j):=by
      intro j
      induction j with
      | zero=>intro _;exact ⟨[],[],rfl,by simp,fun _ h=>(by cases h),CRel.nil_,fun k v h=>(by simp at h),by simp [bulkVs]⟩
      | succ j ihj=>
       intro hj
       obtain ⟨es,vals,g1,g2,g3,g4,g5,g6⟩:=ihj (by omega)
       obtain ⟨vs,seg,y,e1,e2,e3,e4,e5,e6⟩:=each j (by omega)
       have hcl:cells (mkEl ag vs)=vs:=mkEl_cells hag e5
       refine ⟨es++[mkEl ag vs],vals++seg,by simp [g1],by rw [List.length_append,g2,e2,Nat.succ_mul],?_,?_,?_,?_⟩
       ·intro el hel'
        rcases List.mem_append.1 hel' with h'|h'
        ·exact g3 el h'
        ·rw [List.mem_singleton.1 h',hcl]
         exact ⟨⟨vs,rfl,rfl⟩,by rw [e4.len,e2],e5⟩
       ·rw [flat_append]
        refine g4.append ?_
        have:flat [mkEl ag vs]=vs:=by simp [flat,hcl]
        rw [this];exact e4
       ·intro k v hk
        rcases Nat.lt_or_ge k vals.length with hlt|hge
        ·rw [List.getElem?_append_left hlt] at hk;exact g5 k v hk
        ·rw [List.getElem?_append_right hge] at hk
         have hklt:k-vals.length<seg.length:=(List.getElem?_eq_some_iff.1 hk).1
         have:=e3 (k-vals.length) (by omega)
         rw [hk,g2,show j*P.cellsOf e+(k-j*P.cellsOf e)=k by omega] at this
         exact this
       ·rw [bulkVs_append]
        have ht:(elems.map (·.1)).take (j+1)=(elems.map (·.1)).take j++[y.1]:=by
         rw [List.take_add_one,List.getElem?_map,e1];rfl
        have hba:∀(a b:List (DataW H)),Rows.uptoBulkAll (a++b)=Rows.uptoBulkAll a+Rows.uptoBulkAll b:=by
         intro a b
         induction a with
         | nil=>simp [Rows.uptoBulkAll]
         | cons x a ih=>simp [Rows.uptoBulkAll,ih];omega
        rw [ht,hba]
        have:=mkEl_bulk hag e5
        simp only [bulkVs,Rows.uptoBulkAll]
        omega
     obtain ⟨es,vals,g1,g2,g3,g4,g5,g6⟩:=all len (Nat.le_refl _)
     have hlen:∀(ds:List (DataW H)),ds.length<=Rows.uptoBulkAll ds:=by
      intro ds
      induction ds with
      | nil=>simp [Rows.uptoBulkAll]
      | cons d ds ih=>
       have:1<=Rows.uptoBulk d:=by
        cases d<;>(try simp only [Rows.uptoBulk])<;>(try omega)
        rename_i l;cases l<;>simp [Rows.uptoBulk]
       simp only [Rows.uptoBulkAll,List.length_cons]
       omega
     have hl1:=hlen (elems.map (·.1))
     rw [List.length_map,hel] at hl1
     refine ⟨[.sl es],one ?_ rfl,.sl t e es hu (by rw [hag];exact fun el h=>(g3 el h).1) (fun el h=>(g3 el h).2.1) (fun el h=>(g3 el h).2.2),?_⟩
     ·have:=VRel.slC (μ:=μ) (H:=fun ad=>w.cell? ad) es a cap (P.cellsOf e) vals (by omega) (by unfold LLim;omega) (fun el hel'=>(g3 el hel').2.1) g4.len g4.one g5 g4.at_
      rw [g1] at this
      exact this
     ·rw [List.take_of_length_le (by simp;omega)] at g6
      simp only [bulkVs,bulkV,Rows.uptoBulk]
      omega
   case struct fs=>
    simp only [Bool.and_eq_true,beq_iff_eq] at hpl
    obtain ⟨hfT,hlay⟩:=hpl
    obtain ⟨xs,m,hm,rfl,hcs,hxl,hf⟩:=DataW.trod_struct hu h
    cases hm
    simp only [Rows.uptoBulk] at hb
    obtain ⟨_,vs,r1,r2,r3⟩:=read_fields (P:=P) (μ:=μ) (Hc:=fun ad=>w.cell? ad) (cs:=cs) fs.toList 0 (P.cellsOf t) (xs.map (·.1)) hlay hcs (by simp [hxl]) (fun i f d hfi hdi=>by
     have hfi':fs[i]? = some f:=by rw [<-Array.getElem?_toList];exact hfi
     have h1:=hf i f hfi'
     rw [List.getElem?_map] at hdi
     cases hx:xs[i]? with
     | none=>rw [hx] at hdi;cases hdi
     | some y=>
      rw [hx] at hdi h1
      cases hdi
      have hmem:y.1∈xs.map (·.1):=List.mem_map.2 ⟨y,List.mem_of_getElem? hx,rfl⟩
      have:=bulkAll_mem hmem
      have hft:f.type∈T:=by
       have:=List.all_eq_true.1 hfT f (List.mem_of_getElem? hfi)
       simpa using this
      exact ih f.type _ y hft h1 (by omega))
    rw [List.drop_zero] at r1
    refine ⟨vs,r1,.st t fs vs hu (by rw [r1.len,hcs]) (fun f hf'=>by simpa using r2 [] rfl f hf'),?_⟩
    simp only [Rows.uptoBulk]
    omega
end
end Go.Ir
end
section
namespace Go.Ir
open Go.RowKit Go.ChangeShapes Go.WideShapes
section
variable {H : Type} {enc : TypeId × Value → H} {P : Program} {W W' : World}
theorem trodAll_stays (hl:laidOutB P=true) (hb:Below W.heap.size W W') {sp:Nat->Bool}:∀(ts:List TypeId) (vs:List Value) (ds:List (DataW H)) (ps:List MemPlace),(∀t∈ts,P.readableRec t=true/\t<P.types.size)->
  DataW.TrodAll enc P W 0 (fun _=>true) true ts vs ds ps->(∀x∈ps,x.block<W.heap.size)->(∀x∈ps,sp x.block=true)->DataW.TrodAll enc P W' 0 sp true ts vs ds ps
 | [],vs,ds,ps,_,h,_,_=>by
  obtain ⟨rfl,rfl,rfl⟩:=trodAll_nil h
  exact trodAll_mk0
 | t::ts,vs,ds,ps,hts,h,hlt,hsp=>by
  obtain ⟨v,vs',d,ds',p,q,rfl,rfl,rfl,h1,h2⟩:=trodAll_cons h
  obtain ⟨hr,hrow⟩:=hts t (by simp)
  refine trodAll_cons_mk (WideElems.Trod_stays hl hr hrow h1 (fun x hx=>hb.same (hlt x (by simp [hx]))) (fun x hx=>hsp x (by simp [hx]))) (trodAll_stays hl hb ts vs' ds' q (fun t' ht'=>hts t' (by simp [ht'])) h2 (fun x hx=>hlt x (by simp [hx])) (fun x hx=>hsp x (by simp [hx])))
theorem post_true {f:Func} {s:ChangeSpec} {apart fresh handsOn again:Bool} {args:Array Value} {ds gs:List (DataW H)} {before:List MemPlace} {tb:TypeId}
  (hl:laidOutB P=true) (hts:∀t∈f.params.toList,P.readableRec t=true/\t<P.types.size) (hrt:f.resultTypes = #[tb]) (htb:P.underlying tb=some .bool) (hv:s.vars=[])
  (hfn:s.fn H (ds++gs)={ results:=[.lit (.bool true)],args:=ds })
  (hW:DataW.Whole enc P f.params.toList s.vars apart W args.toList ds gs before) (hb:Below W.heap.size W W'):s.post enc P f apart fresh handsOn again W args (.bool true) W':=by
 have hlt:∀p∈before,p.block<W.heap.size:=fun p hp=>hW.lt p hp
 have hW':=hW
 obtain ⟨p,q,hA,hV,rfl,hz,hn⟩:=hW
 rw [hv] at hV
 obtain ⟨rfl,rfl⟩:=trodVars_none hV
 simp only [List.append_nil] at *
 have hold:∀x∈p,(fun b=>decide (b<W.heap.size)) x.block=true:=fun x hx=>by simpa using hlt x hx
 have hargs:∀sp:Nat->Bool,(∀x∈p,sp x.block=true)->DataW.TrodAll enc P W' 0 sp true f.params.toList args.toList ds p:=fun sp hsp=>trodAll_stays hl hb _ _ _ _ hts hA hlt hsp
 have hres:∀(b:Nat) (sp:Nat->Bool) (hd:Bool),DataW.TrodAll enc P W' b sp hd f.resultTypes.toList ((Value.bool true).resultList f.resultTypes.size) [.lit (.bool true)] []:=by
  intro b sp hd
  rw [hrt]
  exact trodAll_cons_mk (p:=[]) (p':=[]) (shut_bool htb _) trodAll_mk0
 refine ⟨ds,[],p,[],p,[],hW',?_,?_,?_,World.keptBut_mono (fun x hx=>⟨hx,.inr (.inl hx)⟩) (hb.frame _),fun _=>?_⟩
 ·rw [List.append_nil,hfn];exact hres _ _ _
 ·rw [List.append_nil,hfn];exact hargs _ hold
 ·rw [hv,List.append_nil,hfn];rfl
 ·refine ⟨ok_one hrt rfl (okWide_bool_mk htb _),.lit (.bool true)::ds,[],p,⟨p,[],?_,by rw [hv];rfl,by simp,?_,?_⟩,fun x hx _=>hx⟩
  ·rw [hrt]
   exact trodAll_cons_mk (p:=[]) (shut_bool htb _) (hargs _ (fun _ _=>rfl))
  ·intro b off hp
   have:=hlt _ hp
   have hfz:=hb.frozen (p:=⟨b,off,none⟩) this
   rw [hfz]
   exact hz b off (by simpa using hp)
  ·intro ha;exact hn ha
theorem Hp.start (W:World) (n:Nat):Hp W [] n (fun _=>none) (fun ad=>W.cell? ad) W where
 base:=Below.refl _ _
 pins _ _ h:=h
 ents _ _ h:=by simp [lk] at h
 unp bk ho:=by obtain ⟨id,e,h,_⟩:=ho;simp [lk] at h
 sep _ _ _ _ _ h:=by simp [lk] at h
 bd _ _:=rfl
theorem calls_true {f:FuncId} {args:List V} {vals:List Value} (h:RetS P W f args [] (.b true) []) (hv:VRels (fun _=>none) (fun ad=>W.cell? ad) args vals) :
  Calls P f vals.toArray W fun e W'=>e = .returned (.bool true)/\Below W.heap.size W W':=
 (h.run 0 W _ _ vals (Hp.start W 0) hv).mono fun e W' ⟨val,μ',H',n',he,hr,hp,_⟩=>⟨by rw [he,hr.b_inv],hp.base⟩
end
end Go.Ir
end
section
namespace Go.Ir
open Go.Proofs
section
variable {P : Program}
theorem WtV.int_inv {t:TypeId} {k:IntKind} {v:V} (h:WtV P t [v]) (ht:P.underlying t=some (.int k)):∃n,v = .i k n/\(Lit.int k n).wf=true:=by
 cases h with
 | int _ k' n h hw=>rw [ht] at h;cases h;exact ⟨n,rfl,hw⟩
 | bool _ b h=>rw [ht] at h;cases h
 | str _ l h=>rw [ht] at h;cases h
 | sl _ e es h _ _ _=>rw [ht] at h;cases h
 | st _ fs vs h _ _=>rw [ht] at h;cases h
theorem WtV.str_inv {t:TypeId} {v:V} (h:WtV P t [v]) (ht:P.underlying t=some .string):∃l,v = .s l:=by
 cases h with
 | int _ k' n h hw=>rw [ht] at h;cases h
 | bool _ b h=>rw [ht] at h;cases h
 | str _ l h=>exact ⟨l,rfl⟩
 | sl _ e es h _ _ _=>rw [ht] at h;cases h
 | st _ fs vs h _ _=>rw [ht] at h;cases h
theorem WtV.sl_inv {t e:TypeId} {v:V} (h:WtV P t [v]) (ht:P.underlying t=some (.slice e)):∃es,v = .sl es/\(∀el∈es,∃c,el=mkEl ((aggT P e).getD false) c/\cells el=c)/\(∀el∈es,(cells el).length=P.cellsOf e)/\(∀el∈es,WtV P e (cells el)):=by
 cases h with
 | int _ k' n h hw=>rw [ht] at h;cases h
 | bool _ b h=>rw [ht] at h;cases h
 | str _ l h=>rw [ht] at h;cases h
 | sl _ e' es h h1 h2 h3=>rw [ht] at h;cases h;exact ⟨es,rfl,h1,h2,h3⟩
 | st _ fs vs h _ _=>rw [ht] at h;cases h
theorem WtV.st_inv {t:TypeId} {fs:Array Field} {vs:List V} (h:WtV P t vs) (ht:P.underlying t=some (.struct fs)):vs.length=P.cellsOf t/\∀f∈fs.toList,WtV P f.type ((vs.drop f.offset).take (P.cellsOf f.type)):=by
 cases h with
 | int _ k' n h hw=>rw [ht] at h;cases h
 | bool _ b h=>rw [ht] at h;cases h
 | str _ l h=>rw [ht] at h;cases h
 | sl _ e' es h h1 h2 h3=>rw [ht] at h;cases h
 | st _ fs' vs h h1 h2=>rw [ht] at h;cases h;exact ⟨h1,h2⟩
end
theorem len2 {l:List V} (h:l.length=2):∃a b,l=[a,b]:=by
 match l,h with
 | [a,b],_=>exact ⟨a,b,rfl⟩
theorem len6 {l:List V} (h:l.length=6):∃a b c d e f,l=[a,b,c,d,e,f]:=by
 match l,h with
 | [a,b,c,d,e,f],_=>exact ⟨a,b,c,d,e,f,rfl⟩
theorem c9:Tryz.prog.cellsOf 9=1:=by kernel_rfl
theorem c3:Tryz.prog.cellsOf 3=1:=by kernel_rfl
theorem c31:Tryz.prog.cellsOf 31=1:=by kernel_rfl
theorem c50:Tryz.prog.cellsOf 73=1:=by kernel_rfl
theorem c52:Tryz.prog.cellsOf 75=6:=by kernel_rfl
theorem c54:Tryz.prog.cellsOf 77=2:=by kernel_rfl
theorem a52:aggT Tryz.prog 75=some true:=by kernel_rfl
theorem a54:aggT Tryz.prog 77=some true:=by kernel_rfl
theorem parts_of:∀(N:Nat) (v:V),bulkV v<=N->WtV Tryz.prog 31 [v]->∃ps,v = .sl (encPs ps)/\wtPs ps<=bulkV v:=by
 intro N
 induction N with
 | zero=>intro v h;cases v<;>simp [bulkV] at h<;>intro hw<;>obtain ⟨es,he,_⟩:=hw.sl_inv Tryz.underlying31<;>cases he
 | succ N ih=>
  intro v hN hw
  obtain ⟨es,rfl,h1,h2,h3⟩:=hw.sl_inv Tryz.underlying31
  rw [a52] at h1
  simp only [Option.getD_some] at h1
  simp only [bulkV] at hN⊢
  have hcs:∀v:V,bulkV v<=N->WtV Tryz.prog 73 [v]->∃cs,v = .sl (encCs cs)/\wtCs cs<=bulkV v:=by
   intro v hv hw
   obtain ⟨es,rfl,h1,h2,h3⟩:=hw.sl_inv Tryz.underlying73
   rw [a54] at h1
   simp only [Option.getD_some] at h1
   simp only [bulkV] at hv⊢
   have:∃cs,es=encCs cs/\wtCs cs<=bulkVs es:=by
    clear hw
    induction es with
    | nil=>exact ⟨[],by simp [encCs],by simp [wtCs]⟩
    | cons el es ihe=>
     simp only [bulkVs] at hv⊢
     obtain ⟨cs,hcs,hcw⟩:=ihe (by omega) (fun x hx=>h1 x (List.mem_cons_of_mem _ hx)) (fun x hx=>h2 x (List.mem_cons_of_mem _ hx)) (fun x hx=>h3 x (List.mem_cons_of_mem _ hx))
     obtain ⟨c,rfl,_⟩:=h1 el (by simp)
     have hst:=h3 (mkEl true c) (by simp)
     have hc:cells (mkEl true c)=c:=rfl
     rw [hc] at hst
     obtain ⟨hl,hf⟩:=hst.st_inv Tryz.underlying77
     rw [c54] at hl
     obtain ⟨x0,x1,rfl⟩:=len2 hl
     have f0:=hf _ (by exact List.mem_cons_self)
     have f1:=hf _ (by exact List.mem_cons_of_mem _ List.mem_cons_self)
     simp only [c9,c31,List.drop_zero,List.drop_succ_cons,List.take_succ_cons,List.take_zero] at f0 f1
     obtain ⟨k,rfl⟩:=f0.str_inv Tryz.underlying9
     have hb:bulkV (mkEl true [.s k,x1])=k.length+1+bulkV x1:=by simp [mkEl,bulkV,bulkVs]
     rw [hb] at hv⊢
     obtain ⟨ps,rfl,hpw⟩:=ih x1 (by omega) f1
     refine ⟨(k,ps)::cs,by rw [hcs];simp [encCs,mkEl],?_⟩
     rw [wtCs_cons]
     simp only
     omega
   obtain ⟨cs,rfl,hw⟩:=this
   exact ⟨cs,rfl,by omega⟩
  have:∃ps,es=encPs ps/\wtPs ps<=bulkVs es:=by
   clear hw
   induction es with
   | nil=>exact ⟨[],by simp [encPs],by simp [wtPs]⟩
   | cons el es ihe=>
    simp only [bulkVs] at hN⊢
    obtain ⟨ps,hps,hpw⟩:=ihe (by omega) (fun x hx=>h1 x (List.mem_cons_of_mem _ hx)) (fun x hx=>h2 x (List.mem_cons_of_mem _ hx)) (fun x hx=>h3 x (List.mem_cons_of_mem _ hx))
    obtain ⟨c,rfl,_⟩:=h1 el (by simp)
    have hst:=h3 (mkEl true c) (by simp)
    have hc:cells (mkEl true c)=c:=rfl
    rw [hc] at hst
    obtain ⟨hl,hf⟩:=hst.st_inv Tryz.underlying75
    rw [c52] at hl
    obtain ⟨x0,x1,x2,x3,x4,x5,rfl⟩:=len6 hl
    have f0:=hf _ (by exact List.mem_cons_self)
    have f1:=hf _ (by exact List.mem_cons_of_mem _ List.mem_cons_self)
    have f2:=hf _ (by exact List.mem_cons_of_mem _ (List.mem_cons_of_mem _ List.mem_cons_self))
    have f3:=hf _ (by exact List.mem_cons_of_mem _ (List.mem_cons_of_mem _ (List.mem_cons_of_mem _ List.mem_cons_self)))
    have f4:=hf _ (by exact List.mem_cons_of_mem _ (List.mem_cons_of_mem _ (List.mem_cons_of_mem _ (List.mem_cons_of_mem _ List.mem_cons_self))))
    have f5:=hf _ (by exact List.mem_cons_of_mem _ (List.mem_cons_of_mem _ (List.mem_cons_of_mem _ (List.mem_cons_of_mem _ (List.mem_cons_of_mem _ List.mem_cons_self)))))
    simp only [c9,c31,c3,c50,List.drop_zero,List.drop_succ_cons,List.take_succ_cons,List.take_zero] at f0 f1 f2 f3 f4 f5
    obtain ⟨k,rfl,hk⟩:=f0.int_inv Tryz.underlying3
    obtain ⟨t,rfl⟩:=f1.str_inv Tryz.underlying9
    obtain ⟨n,rfl⟩:=f2.str_inv Tryz.underlying9
    obtain ⟨s,rfl⟩:=f3.str_inv Tryz.underlying9
    have hb:bulkV (mkEl true [.i .i64 k,.s t,.s n,.s s,x4,x5])=1+(t.length+1)+(n.length+1)+(s.length+1)+bulkV x4+bulkV x5:=by simp [mkEl,bulkV,bulkVs];omega
    rw [hb] at hN⊢
    obtain ⟨cs,rfl,hcw⟩:=hcs x4 (by omega) f4
    obtain ⟨qs,rfl,hqw⟩:=ih x5 (by omega) f5
    refine ⟨⟨k,t,n,s,cs,qs⟩::ps,by rw [hps];simp [encPs,Part.enc,mkEl],?_⟩
    rw [wtPs_cons,Part.wt_eq]
    simp only
    omega
  obtain ⟨ps,rfl,hw'⟩:=this
  exact ⟨ps,rfl,by omega⟩
end Go.Ir
end
section
namespace Go.Ir
open Go.Proofs
def sumW {α:Type} (w:α->Nat):List α->Nat
 | []=>0
 | x::xs=>w x+sumW w xs
theorem list_of {α:Type} {G:V->Prop} (enc:α->V) (w:α->Nat) (hel:∀el,G el->∃x,el=enc x/\w x<=bulkV el):∀es,(∀el∈es,G el)->∃xs,es=xs.map enc/\sumW w xs<=bulkVs es:=by
 intro es
 induction es with
 | nil=>intro _;exact ⟨[],rfl,by simp [sumW]⟩
 | cons e es ih=>
  intro h
  obtain ⟨xs,h1,h2⟩:=ih fun x hx=>h x (by simp [hx])
  obtain ⟨x,h3,h4⟩:=hel e (h e (by simp))
  exact ⟨x::xs,by rw [h1,h3];rfl,by simp only [sumW,bulkVs];omega⟩
section
variable {P : Program}
theorem slice_of {α:Type} {t e:TypeId} {v:V} (h:WtV P t [v]) (ht:P.underlying t=some (.slice e)) (ha:aggT P e=some true) (enc:α->V) (w:α->Nat) (hel:∀c,WtV P e c->∃x,V.agg c=enc x/\w x<=bulkVs c) :
  ∃xs:List α,v = .sl (xs.map enc)/\sumW w xs+1<=bulkV v:=by
 obtain ⟨es,rfl,h1,h2,h3⟩:=h.sl_inv ht
 rw [ha] at h1
 obtain ⟨xs,hx,hw⟩:=list_of (G:=fun el=>∃c,el=V.agg c/\WtV P e c) enc w (fun el ⟨c,hc,hwt⟩=>by
  subst hc
  obtain ⟨x,hx,hwx⟩:=hel c hwt
  exact ⟨x,hx,by simpa [bulkV] using hwx⟩) es fun el hm=>by
  obtain ⟨c,hc,hcc⟩:=h1 el hm
  have:=h3 el hm
  rw [hcc] at this
  exact ⟨c,hc,this⟩
 exact ⟨xs,by rw [hx],by simp only [bulkV];omega⟩
end
end Go.Ir
end
namespace Go.Ir
open Go.Proofs
variable (W0 : World)
theorem eqPs_self:∀(N:Nat),(∀ps,wtPs ps<N->eqPs ps ps=true)/\(∀cs,wtCs cs<N->eqCs cs cs=true):=by
 intro N
 induction N with
 | zero=>exact ⟨fun _ h=>by omega,fun _ h=>by omega⟩
 | succ N ih=>
  have h1:∀ps,wtPs ps<N+1->eqPs ps ps=true:=by
   intro ps
   induction ps with
   | nil=>intro _;simp [eqPs]
   | cons p ps ih2=>
    intro h;rw [wtPs_cons] at h
    have hp:=p.wt_eq
    rw [eqPs_cons,p.eqB_eq,ih2 (by omega),ih.1 p.parts (by omega),ih.2 p.cases (by omega)];simp
  refine ⟨h1,fun cs=>?_⟩
  induction cs with
  | nil=>intro _;simp [eqCs]
  | cons c cs ih2=>
   intro h;rw [wtCs_cons] at h
   rw [eqCs_cons,h1 c.2 (by omega),ih2 (by omega)];simp
def TRs:Nat:=100
def sS (lo:Option Id) (L:List Sel):Sto:=match lo with
 | none=>[]
 | some id=>[(id,.arr TRs 3 (L.map Sel.enc))]
theorem eqPs_refl (ps:List Part):eqPs ps ps=true:=(eqPs_self _).1 ps (Nat.lt_succ_self _)
end Go.Ir
section
namespace Go.Ir
open Go.Proofs
variable (W0 : World)
theorem retN_nil {P:Program} {W0:World} {f:FuncId} {args:List V} {x:Ent} {e sz:Nat} (h:∀id,RetN P W0 f (.arr id::args) [(id,.arr e sz [])] x []):RetN P W0 f (.nil::args) [] x [] where
 callable:=(h (0,0)).callable
 dom:=fun id h=>by simp [lk] at h
 run:=by
  intro n w μ H vals hp hv
  have hnone:μ (n,0)=none:=hp.bd _ (Nat.le_refl _)
  have hmono:=setμ_mono (v:=.slice none 0 0) hnone
  have hnew:=(hp.more (Nat.le_succ n)).new_ (n':=n+1) (w':=w) (R:=fun _=>False) ⟨rfl,rfl,rfl,Nat.le_refl _,fun _ _ _=>rfl⟩ (fun _ h=>h.elim) (σ1:=[]) (fun id e h=>⟨h,fun _ _ h=>h⟩) (id:=(n,0)) (e:=.arr e sz []) (val:=.slice none 0 0) hnone (Nat.lt_succ_self _) (Nat.le_refl _) (fun bk hb=>by simp [blk] at hb)
   ⟨.slice none 0 0,[],setμ_self _ _ _,rfl,World.ownsRow_nil w _ e sz,Nat.zero_le _,(fun x hx=>by cases hx),CRel.nil_⟩
  obtain ⟨v0,vs,rfl⟩:∃v0 vs,vals=v0::vs:=by
   cases vals with
   | nil=>have:=hv.len;simp at this
   | cons a b=>exact ⟨a,b,rfl⟩
  have h0:=hv.at_ 0 _ _ rfl rfl
  have hv':VRels (setμ μ (n,0) (.slice none 0 0)) H (.arr (n,0)::args) (v0::vs):=by
   refine VRels.cons ?_ ⟨by have:=hv.len;simpa using this,fun k c v h1 h2=>(hv.at_ (k+1) c v (by simpa using h1) (by simpa using h2)).mono hmono (fun _ _ h=>h)⟩
   rw [h0.nil_inv]
   exact .arr _ _ (setμ_self _ _ _) rfl
  refine Calls.mono ((h (n,0)).run (n+1) w _ H _ hnew.1 hv') ?_
  rintro e' w' ⟨val,μ',H',n',id,h1,h2,h3,h4,h5,h6,h7,h8,h9⟩
  refine ⟨val,μ',H',n',id,h1,h2,h3,?_,h5,h6,by omega,hnew.2.trans h8,fun i hi h0=>h9 i (by omega) ?_⟩
  ·cases hm:μ id with
   | none=>rfl
   | some y=>have:=hmono id y hm;rw [h4] at this;cases this
  ·rw [setμ_ne _ _ (by rintro rfl;simp at hi)];exact h0
theorem c_solid (p:Part) (hw:p.wt<=2^24):RetS Tryz.prog W0 50 [p.v] [] (.b p.solid) []:=by
 have hp:=p.wt_eq
 have hlc:=len_wtCs p.cases
 have case1:∀(c:Case),wtPs c.2<=2^24->RetS Tryz.prog W0 95 [Case.v c] [] (.b (!plainPs c.2)) []:=by
  intro c h2
  have:=c_plain W0 _ c.2 (Nat.lt_succ_self _) h2
  unfold Case.v
  refine fn_retW (vs:=[.b (!plainPs c.2)]) f95ok (by simp) (by simp) fun n0 hn0=>?_
  clear hn0
  simp only [push_cast,seval,reduceEqDiff]
  repeat' (first|(((first|apply condU_s|apply gdU_t|apply gdU_f)<;>intro _h)<;>simp only [push_cast,seval,reduceEqDiff,_h])|(refine c_call (by exact this) ?_;simp only [push_cast,seval,reduceEqDiff])|intro _)
  all_goals (first|(refine finW_ret ?_;simp [get]<;>(intros;omega);done)|(refine finW_rets ?_;simp [push_cast,get];done)|skip)
 have hany:RetS Tryz.prog W0 94 [.sl (p.cases.map Case.enc),.fn 95 [] []] [] (.b (p.cases.any fun c=>!plainPs c.2)) []:=
  anyCase W0 (by omega) (fun c hc=>by have:=wtCs_mem hc;exact case1 c (by omega))
 have hpl:=c_plain W0 _ p.parts (Nat.lt_succ_self _) (by omega)
 rw [Part.solid_eq,<-plainCs_any]
 generalize hS:(!selB p.kind&&plainPs p.parts&&!p.cases.any fun c=>!plainPs c.2)=S
 unfold Part.v
 refine fn_retW (vs:=[.b S]) f50ok (by simp) (by simp) fun n0 hn0=>?_
 clear hn0
 simp only [push_cast,seval,reduceEqDiff]
 repeat' (first|(((first|apply condU_s|apply gdU_t|apply gdU_f)<;>intro _h)<;>(simp only [push_cast,seval,reduceEqDiff,_h];try (have _g:=_h;simp at _g)))|((first|refine c_call (by exact c_sSel W0 _) ?_|refine c_call (by exact hpl) ?_);simp only [push_cast,seval,reduceEqDiff])|intro _)
 all_goals (try (refine c_callsq hany ?_;simp only [push_cast,seval,reduceEqDiff]))
 repeat' (first|(((first|apply condU_s|apply gdU_t|apply gdU_f)<;>intro _h)<;>(simp only [push_cast,seval,reduceEqDiff,_h];try (have _g:=_h;simp at _g)))|intro _)
 all_goals (first|(refine finW_ret ?_;simp [get,<-hS, *]<;>(intros;omega);done)|(refine finW_rets ?_;simp [push_cast,get,<-hS, *];done)|skip)
abbrev Leaf:=Bytes × List Part
def leafV (l:Leaf):V:=.agg [.s l.1,.sl (l.2.map Part.enc)]
theorem leafV_eq (l:Leaf):leafV l = .agg [.s l.1,.sl (l.2.map Part.enc)]:=rfl
def decN (n:Nat):Bytes:=Lib.decDigits n
mutual
def Part.lvs:Part->Bytes->List Leaf
 | ⟨k,_,_,_,cs,ps⟩,pa=>if selB k then lvsCs cs pa else lvsPs ps pa 0 []
def lvsPs:List Part->Bytes->Nat->List Part->List Leaf
 | [],pa,n,run=>[(pa++decN n,run)]
 | p::ps,pa,n,run=>if p.solid then lvsPs ps pa n (run++[p]) else (pa++decN n,run)::(p.lvs (pa++decN (n+1)++[47])++lvsPs ps pa (n+1) [])
def lvsCs:List (Bytes × List Part)->Bytes->List Leaf
 | [],_=>[]
 | (key,ps)::cs,pa=>lvsPs ps (pa++key++[47]) 0 []++lvsCs cs pa
end
theorem Part.lvs_eq (p:Part) (pa:Bytes):p.lvs pa=if selB p.kind then lvsCs p.cases pa else lvsPs p.parts pa 0 []:=by cases p;simp only [Part.lvs]
theorem lvsPs_nil (pa:Bytes) (n:Nat) (run:List Part):lvsPs [] pa n run=[(pa++decN n,run)]:=by simp only [lvsPs]
theorem lvsPs_cons (p:Part) (ps:List Part) (pa:Bytes) (n:Nat) (run:List Part):lvsPs (p::ps) pa n run=if p.solid then lvsPs ps pa n (run++[p]) else (pa++decN n,run)::(p.lvs (pa++decN (n+1)++[47])++lvsPs ps pa (n+1) []):=by simp only [lvsPs]
theorem lvsCs_cons (c:Case) (cs:List Case) (pa:Bytes):lvsCs (c::cs) pa=lvsPs c.2 (pa++c.1++[47]) 0 []++lvsCs cs pa:=by obtain ⟨k,q⟩:=c;simp only [lvsCs]
theorem lvs_len:∀(N:Nat) (ps:List Part),wtPs ps<N->∀pa n run,(lvsPs ps pa n run).length<=1+2*wtPs ps:=by
 intro N
 induction N with
 | zero=>intro ps h;omega
 | succ N ih=>
  have hcs:∀cs:List Case,wtCs cs<N->∀pa,(lvsCs cs pa).length<=2*wtCs cs:=by
   intro cs
   induction cs with
   | nil=>intro _ pa;simp [lvsCs]
   | cons c cs ih2=>
    intro h pa;rw [wtCs_cons] at h;rw [lvsCs_cons,wtCs_cons,List.length_append]
    have h1:=ih c.2 (by omega) (pa++c.1++[47]) 0 [];have h2:=ih2 (by omega) pa;omega
  intro ps
  induction ps with
  | nil=>intro _ pa n run;simp [lvsPs]
  | cons p ps ih2=>
   intro h pa n run;rw [wtPs_cons] at h;rw [lvsPs_cons,wtPs_cons]
   have hw:=p.wt_eq
   split
   ·have:=ih2 (by omega) pa n (run++[p]);omega
   ·have h3:=ih2 (by omega) pa (n+1) []
    have h4:(p.lvs (pa++decN (n+1)++[47])).length+1<=2*p.wt:=by
     rw [p.lvs_eq]
     split
     ·have:=hcs p.cases (by omega) (pa++decN (n+1)++[47]);omega
     ·have:=ih p.parts (by omega) (pa++decN (n+1)++[47]) 0 [];omega
    rw [List.length_cons,List.length_append];omega
theorem lvsPs_len (ps:List Part) (pa:Bytes) (n:Nat) (run:List Part):(lvsPs ps pa n run).length<=1+2*wtPs ps:=lvs_len _ ps (Nat.lt_succ_self _) pa n run
def TL:Nat:=68
def LvR (bid lid:Id) (o:List Leaf) (n n':Nat) (v:V) (σ':Sto):Prop:=v = .tup []/\∃id:Id,(id=lid\/n<=id.1)/\id.1<n'/\σ'=[(id,.arr TL 2 (o.map leafV)),(bid,.box (.arr id))]
theorem c_leavesFn (q:List Part) (pa:Bytes) (o:List Leaf) (bid lid:Id) (hne:lid≠bid)
  (h:RetN Tryz.prog W0 69 [.arr lid,.sl (q.map Part.enc),.s pa] [(lid,.arr TL 2 (o.map leafV))] (.arr TL 2 ((o++lvsPs q pa 0 []).map leafV)) []) :
  RetE Tryz.prog W0 117 [.sl (q.map Part.enc),.s pa,.ref bid 0] [(lid,.arr TL 2 (o.map leafV)),(bid,.box (.arr lid))] (LvR bid lid (o++lvsPs q pa 0 [])):=by
 refine fn_retEW f117ok (by simp) fun n0 hn0=>?_
 have hb:bid.1<n0:=hn0 bid (.box (.arr lid)) (by simp [lk,hne])
 clear hn0
 have h1:(lid=bid)=False:=eq_false hne
 have h3:∀j:Nat,((n0,j)=bid)=False:=fun j=>ne_idx hb
 have h4:∀a b:Id,(isA (V.arr a)=isA (V.arr b))=True:=fun _ _=>eq_true rfl
 have hov:over [(lid,Ent.arr TL 2 (o.map leafV))] [] [(lid,.arr TL 2 (o.map leafV)),(bid,.box (.arr lid))]=[(bid,.box (.arr lid))]:=by
  simp [over,lk,h1,List.filter]
 simp only [push_cast,seval,reduceEqDiff,h1,h3,h4]
 refine c_calln h (fun i e h=>lk_app_left (τ:=[_]) h) ?_
 rw [hov]
 simp only [push_cast,seval,reduceEqDiff,h1,h3,h4]
 intros
 exact ⟨_,StLe.refl,[],_,trivial,fun _ _ h=>h,rfl,_,.inr (Nat.le_refl _),by simp only;omega,rfl⟩
theorem over_x2 {x a b:Id} {X A B:Ent} {σo:Sto} (h1:x≠a) (h2:x≠b):over [(a,A),(b,B)] σo [(x,X),(a,A),(b,B)]=σo++[(x,X)]:=by
 by_cases hab:a=b
 ·subst hab;simp [over,lk,List.filter,h1,Ne.symm h1]
 ·simp [over,lk,List.filter,h1,h2,Ne.symm h1,Ne.symm h2,hab]
theorem lk_x2 {x a b:Id} {A B:Ent} (h1:x≠a) (h2:x≠b):lk [(a,A),(b,B)] x=none:=by
 simp [lk,Ne.symm h1,Ne.symm h2]
set_option maxHeartbeats 4000000 in
theorem c_lists (p:Part) (pa:Bytes) (bid:Id) (hw:p.wt<=2^24) (hpa:pa.length+32*p.wt<=2^32+32) (M:Nat)
  (hcl:∀(q:List Part) (pa':Bytes) (o:List Leaf) (lid:Id),wtPs q<p.wt->pa'.length+32*wtPs q<=2^32->lid≠bid->o.length+2*wtPs q+1<=M->
   RetE Tryz.prog W0 117 [.sl (q.map Part.enc),.s pa',.ref bid 0] [(lid,.arr TL 2 (o.map leafV)),(bid,.box (.arr lid))] (LvR bid lid (o++lvsPs q pa' 0 [])))
  (o:List Leaf) (lid:Id) (hne:lid≠bid) (ho:o.length+2*p.wt<=M) :
  RetE Tryz.prog W0 116 [p.v,.s pa,.fn 117 [] [.ref bid 0]] [(lid,.arr TL 2 (o.map leafV)),(bid,.box (.arr lid))] (LvR bid lid (o++p.lvs pa)):=by
 have hpw:=p.wt_eq
 have hlc:=len_wtCs p.cases
 have hsel:=c_sSel W0 p.kind
 generalize hS:o++p.lvs pa=S
 rw [p.lvs_eq] at hS
 unfold Part.v
 refine fn_retEW f116ok (by simp) fun n0 hn0=>?_
 have hb:bid.1<n0:=hn0 bid (.box (.arr lid)) (by simp [lk,hne])
 have hl:lid.1<n0:=hn0 lid (.arr TL 2 (o.map leafV)) (by simp [lk])
 clear hn0
 have h1:(lid=bid)=False:=eq_false hne
 have h2:∀j:Nat,((n0,j)=bid)=False:=fun j=>ne_idx hb
 have h3:∀j:Nat,((n0,j)=lid)=False:=fun j=>ne_idx hl
 cases hs:selB p.kind with
 | false=>
  rw [hs] at hsel hS
  simp only [bq,if_true,if_false,Int.reduceBEq,reduceCtorEq] at hS
  subst hS
  simp only [push_cast,seval,reduceEqDiff,h1,h2,h3]
  repeat' (first|(((first|apply condU_s|apply gdU_t|apply gdU_f)<;>intro _h)<;>simp only [push_cast,seval,reduceEqDiff,_h,h1,h2,h3])|(refine c_call (by exact hsel) ?_;simp only [push_cast,seval,reduceEqDiff,h1,h2,h3])|intro _)
  refine c_callx (hcl p.parts pa o lid (by omega) (by omega) hne (by omega)) (lk_drop1 (lk_x2 (fun he=>of_eq_false (h3 _) he) (fun he=>of_eq_false (h2 _) he))) (fun n2 v σo hle hR=>?_)
  obtain ⟨rfl,id,hi1,hi2,rfl⟩:=hR
  rw [over_x2 (fun he=>of_eq_false (h3 _) he) (fun he=>of_eq_false (h2 _) he)]
  simp only [push_cast,seval,reduceEqDiff,h1,h2,h3]
  intros
  exact ⟨_,StLe.refl,[],_,trivial,fun i e h=>lk_app_left (τ:=[_]) h,rfl,id,by rcases hi1 with h|h;exact .inl h;exact .inr (by omega),by simp only;omega,rfl⟩
 | true=>
  rw [hs] at hsel hS
  simp only [bq,if_true,if_false,Int.reduceBEq,reduceCtorEq] at hS
  simp only [push_cast,seval,reduceEqDiff,h1,h2,h3,List.length_map]
  repeat' (first|(((first|apply condU_s|apply gdU_t|apply gdU_f)<;>intro _h)<;>simp only [push_cast,seval,reduceEqDiff,_h,h1,h2,h3,List.length_map])|(refine c_call (by exact hsel) ?_;simp only [push_cast,seval,reduceEqDiff,h1,h2,h3,List.length_map])|intro _)
  refine aWP_loopW p.cases.length (Inv:=fun m st=>∃cd cr n lid' o',p.cases=cd++cr/\m=cr.length/\o'++lvsCs cr pa=S/\o'.length+2*wtCs cr<=M/\(lid'=lid\/n0<=lid'.1)/\lid'.1<n/\n0<=n/\st=⟨[(1,.s pa),(2,.fn 117 [] [.ref bid 0]),(18,.sl (p.cases.map Case.enc)),(19,.i .i64 p.cases.length),(20,.i .i64 cd.length)],[(lid',.arr TL 2 (o'.map leafV)),(bid,.box (.arr lid'))],n⟩) ⟨_,StLe.drop (lk_drop1 (lk_x2 (fun he=>of_eq_false (h3 _) he) (fun he=>of_eq_false (h2 _) he))) (Nat.le_refl _),[],p.cases,_,lid,o,rfl,rfl,hS,by omega,.inl rfl,by (try simp only);omega,by (try simp only);omega,rfl⟩ ?_
  clear hS
  rintro m _ ⟨cd,cr,n,lid',o',hcz,rfl,hd,hM,hl1,hl2,hn,rfl⟩
  have hne':lid'≠bid:=by
   rcases hl1 with rfl|h
   ·exact hne
   ·rintro rfl;omega
  cases cr with
  | nil=>
   have hlt0:decide ((cd.length:Int)<(p.cases.length:Int))=false:=by rw [hcz];simp
   simp only [lvsCs,List.append_nil] at hd
   subst hd
   simp only [push_cast,seval,reduceEqDiff,hlt0]
   intros
   exact ⟨_,StLe.refl,[],_,trivial,fun _ _ h=>h,rfl,lid',hl1,by simp only;omega,rfl⟩
  | cons c cr=>
   have hlt0:decide ((cd.length:Int)<(p.cases.length:Int))=true:=by rw [hcz];simp;omega
   have hcb:=zip_bd hcz
   have hcw:=wtCs_mem (cs:=p.cases) (c:=c) (by rw [hcz];simp)
   have hget:(p.cases.map Case.enc)[cd.length]? = some (.agg [.s c.1,.sl (c.2.map Part.enc)]):=by
    rw [hcz,List.getElem?_map,List.getElem?_append_right (by simp)];simp [Case.enc_eq]
   rw [lvsCs_cons] at hd
   rw [wtCs_cons] at hM
   have hlv:=lvsPs_len c.2 (pa++c.1++[47]) 0 []
   have g1:(lid'=bid)=False:=eq_false hne'
   have g2:∀k j:Nat,((n+1+k,j)=bid)=False:=fun k j=>ne_idx (by omega)
   have g3:∀k j:Nat,((n+1+k,j)=lid')=False:=fun k j=>ne_idx (by omega)
   simp only [push_cast,seval,reduceEqDiff,hlt0,hget,if_pos hcb,wrap_zip c (done:=cd) (by omega),List.length_map,g1,g2,g3]
   repeat' (first|(((first|apply condU_s|apply gdU_t|apply gdU_f)<;>intro _h)<;>simp only [push_cast,seval,reduceEqDiff,_h,hlt0,hget,if_pos hcb,wrap_zip c (done:=cd) (by omega),List.length_map,g1,g2,g3])|(refine jp_i (by simp only [List.length_append,List.length_cons,List.length_nil,SLim]<;>omega) ?_;simp only [push_cast,seval,reduceEqDiff,hlt0,hget,if_pos hcb,wrap_zip c (done:=cd) (by omega),List.length_map,g1,g2,g3])|intro _)
   refine c_callx (hcl c.2 (pa++c.1++[47]) o' lid' (by omega) (by simp only [List.length_append,List.length_cons,List.length_nil];omega) hne' (by omega)) (lk_drop1 (lk_x2 (fun he=>of_eq_false (g3 _ _) he) (fun he=>of_eq_false (g2 _ _) he))) (fun n2 v σo hle hR=>?_)
   obtain ⟨rfl,id,hi1,hi2,rfl⟩:=hR
   rw [over_x2 (fun he=>of_eq_false (g3 _ _) he) (fun he=>of_eq_false (g2 _ _) he)]
   rw [<-List.append_assoc] at hd
   simp only [push_cast,seval,reduceEqDiff,hlt0,hget,if_pos hcb,wrap_zip c (done:=cd) (by omega),List.length_map,g1,g2,g3]
   intros
   refine ⟨_,_,Nat.lt_succ_self _,StLe.drop (fun i e h=>lk_app_left (τ:=[_]) h) (Nat.le_refl _),cd++[c],cr,_,id,_,by rw [hcz];simp,rfl,hd,?_,?_,?_,?_,rfl⟩
   ·rw [List.length_append];omega
   ·rcases hi1 with rfl|h
    ·exact hl1
    ·exact .inr (by omega)
   ·rcases hi1 with rfl|h<;>omega
   ·omega
end Go.Ir
end
namespace Go.Ir
open Go.Proofs
variable (W0 : World)
theorem lvsCs_len (cs:List Case) (pa:Bytes):(lvsCs cs pa).length<=2*wtCs cs:=by
 induction cs with
 | nil=>simp [lvsCs]
 | cons c cs ih=>rw [lvsCs_cons,wtCs_cons,List.length_append];have:=lvsPs_len c.2 (pa++c.1++[47]) 0 [];omega
theorem lvs_part (p:Part) (pa:Bytes):(p.lvs pa).length+1<=2*p.wt:=by
 rw [p.lvs_eq,p.wt_eq]
 split
 ·have:=lvsCs_len p.cases pa;omega
 ·have:=lvsPs_len p.parts pa 0 [];omega
theorem frz_slot {W0:World} {nt n n' s e sz:Nat} {env:Env} {σ τ:Sto} {rid:Id} {es:List V} (hs:get env s = .arr rid) (hr:lk σ rid=some (.arr e sz es)) (hτ:∀i e',lk τ i=some e'->lk σ i=some e'/\i≠rid) (hok:∀y∈es,y.ok=true) (hn:n<=n') :
  StLe W0 nt ⟨env,σ,n⟩ ⟨(s,.sl es)::env,τ,n'⟩:=by
 refine StLe.weak (fun i=>if i=rid then some es else none) (fun i es' h=>?_) (fun t=>?_) (fun i e' h=>⟨e',(hτ i e' h).1,.refl _⟩) hn
 ·split at h
  ·rename_i hi;subst hi;cases h
   refine ⟨⟨e,sz,hr⟩,?_⟩
   cases hl:lk τ i with
   | none=>rfl
   | some x=>exact absurd rfl (hτ i x hl).2
  ·cases h
 ·by_cases ht:s=t
  ·subst ht
   rw [hs]
   simp only [get,if_true]
   refine .arr rid es es (by simp) rfl (fun k c c' h1 h2=>?_) (fun k c c' h1 h2=>?_)
   ·rw [h1] at h2;cases h2;exact .refl _
   ·rw [h1] at h2;cases h2
    have:=hok c (List.mem_of_getElem? h1)
    exact ⟨rfl,this,this⟩
  ·simp only [get,if_neg ht];exact .refl _
theorem over_m2 {x a b:Id} {X A B:Ent} {σo:Sto} (h1:x≠a) (h2:x≠b):over [(a,A),(b,B)] σo [(a,A),(x,X),(b,B)]=σo++[(x,X)]:=by
 by_cases hab:a=b
 ·subst hab;simp [over,lk,List.filter,h1,Ne.symm h1]
 ·simp [over,lk,List.filter,h1,h2,Ne.symm h1,Ne.symm h2,hab]
theorem lk_m2 {x a b:Id} {X A B:Ent} (h1:x≠a) (h2:x≠b):∀i e,lk [(a,A),(b,B)] i=some e->lk [(a,A),(x,X),(b,B)] i=some e:=by
 intro i e h
 simp only [lk] at h⊢
 split at h
 ·rename_i ha;rw [if_pos ha];exact h
 ·rename_i ha
  rw [if_neg ha]
  split at h
  ·rename_i hb;subst hb;rw [if_neg h2,if_pos rfl];exact h
  ·cases h
set_option maxHeartbeats 4000000 in
theorem c_leavesA (K:Nat) (hI:∀i:Nat,i<=K->RetS Tryz.prog W0 114 [.i .i64 i] [] (.s (decN i)) []/\(decN i).length<=20) :
  ∀(N:Nat) (ps:List Part) (pa:Bytes) (o:List Leaf) (lid:Id),wtPs ps<N->wtPs ps<=2^24->wtPs ps<=K->pa.length+32*wtPs ps<=2^32->o.length+2*wtPs ps+1<=2^30->
  RetN Tryz.prog W0 69 [.arr lid,.sl (ps.map Part.enc),.s pa] [(lid,.arr TL 2 (o.map leafV))] (.arr TL 2 ((o++lvsPs ps pa 0 []).map leafV)) []:=by
 intro N
 induction N with
 | zero=>intro ps pa o lid h;omega
 | succ N ih=>
 intro ps pa o0 lid0 hN hw0 hK0 hpa hM
 have hlen:=len_wtPs ps
 generalize hS:o0++lvsPs ps pa 0 []=S
 refine fn_newW (s:=6) f69ok (by simp) (by simp [lk]) fun n0 hn0=>?_
 have hl0:lid0.1<n0:=hn0 lid0 (.arr TL 2 (o0.map leafV)) (by simp [lk])
 clear hn0
 simp only [push_cast,seval,reduceEqDiff]
 intros
 rename_i a1 a2 a3 a4
 have hn1:n0<n0+1+a1+1+a2+1+a3+1+a4:=by omega
 generalize n0+1+a1+1+a2+1+a3+1+a4=n1 at *
 refine aWP_loopW ps.length (Inv:=fun m st=>∃done rest n lid rid o run k,ps=done++rest/\m=rest.length/\o++lvsPs rest pa k run=S/\o.length+2*wtPs rest+1<=2^30/\k<=done.length/\run.length<=done.length/\wtPs run+wtPs rest<=wtPs ps/\n0<n/\lid.1<n/\rid.1<n/\lid≠(n0,3)/\rid≠(n0,3)/\rid≠lid/\st=⟨[(2,.s pa),(3,.ref (n0,3) 0),(7,.arr rid),(8,.i .i64 k),(11,.sl (ps.map Part.enc)),(12,.i .i64 ps.length),(13,.i .i64 done.length)],[(rid,.arr TPt 6 (run.map Part.enc)),(lid,.arr TL 2 (o.map leafV)),((n0,3),.box (.arr lid))],n⟩) ⟨_,(StLe.own (s:=7) (e:=TPt) (sz:=6) (k:=99) rfl).trans ((StLe.envD (fun t=>?_) (Nat.le_refl _)).trans (StLe.sub (σ':=[((n1,99),.arr TPt 6 []),(lid0,.arr TL 2 (o0.map leafV)),((n0,3),.box (.arr lid0))]) ?_ ?_ (Nat.le_refl _))),[],ps,_,lid0,(n1,99),o0,[],0,rfl,rfl,hS,hM,by simp,by simp,by simp [wtPs_nil],?_,?_,?_,?_,?_,?_,rfl⟩ ?_
 ·left
  by_cases h3:7=t
  ·subst h3;rfl
  ·simp [get,h3]
 ·have e1:((n1,99):Id)≠lid0:=fun he=>by rw [<-he] at hl0;simp at hl0;omega
  have e2:lid0≠((n0,3):Id):=fun he=>by rw [he] at hl0;simp at hl0
  have e3:((n1,99):Id)≠(n0,3):=fun he=>by injection he with h1 h2;omega
  simp [e1,e2,Ne.symm e1,Ne.symm e2]
 ·intro p hp
  simp at hp⊢
  rcases hp with h|h|h<;>simp [h]
 ·(try simp only);omega
 ·(try simp only);omega
 ·(try simp only);omega
 ·intro he;rw [he] at hl0;simp at hl0
 ·intro he;injection he with h1 h2;omega
 ·intro he;rw [<-he] at hl0;simp at hl0;omega
 clear hS
 rintro m _ ⟨done,rest,n,lid,rid,o,run,k,hz,rfl,hd,hM,hk,hrl,hrw,hn,hl,hr,hlb,hrb,hrl2,rfl⟩
 have d1:∀i j:Nat,((n+1+i,j)=lid)=False:=fun i j=>ne_idx (by omega)
 have d1':∀i j:Nat,(lid=(n+1+i,j))=False:=fun i j=>eq_false fun he=>of_eq_false (d1 i j) he.symm
 have d2:∀i j:Nat,((n+1+i,j)=rid)=False:=fun i j=>ne_idx (by omega)
 have d2':∀i j:Nat,(rid=(n+1+i,j))=False:=fun i j=>eq_false fun he=>of_eq_false (d2 i j) he.symm
 have d3:∀i j q:Nat,((n+1+i,j)=(n0,q))=False:=fun i j q=>eq_false fun he=>by injection he with h1 h2;omega
 have d3':∀i j q:Nat,((n0,q)=(n+1+i,j))=False:=fun i j q=>eq_false fun he=>of_eq_false (d3 i j q) he.symm
 have c1:(lid=(n0,3))=False:=eq_false hlb
 have c1':((n0,3)=lid)=False:=eq_false (Ne.symm hlb)
 have c2:(rid=(n0,3))=False:=eq_false hrb
 have c2':((n0,3)=rid)=False:=eq_false (Ne.symm hrb)
 have c3:(rid=lid)=False:=eq_false hrl2
 have c3':(lid=rid)=False:=eq_false (Ne.symm hrl2)
 have hia:∀a b:Id,(isA (V.arr a)=isA (V.arr b))=True:=fun _ _=>eq_true rfl
 cases rest with
 | nil=>
  have hlt0:decide ((done.length:Int)<(ps.length:Int))=false:=by rw [hz];simp
  have hpl:ps.length=done.length:=by rw [hz];simp
  rw [lvsPs_nil] at hd
  subst hd
  obtain ⟨hIk,hIl⟩:=hI k (by omega)
  have hcl:=c_cloned W0 _ run (Nat.lt_succ_self _) (by omega)
  generalize hdk:decN k=DK at *
  have hap:List.map leafV o++[.agg [.s (pa++DK),.sl (run.map Part.enc)]]=(o++[(pa++DK,run)]).map leafV:=by simp [leafV]
  have hll:o.length+1<=LLim:=by unfold LLim;omega
  simp only [push_cast,seval,reduceEqDiff,hlt0]
  intro k1
  refine wkW_i (frz_slot (s:=7) (rid:=rid) (e:=TPt) (sz:=6) (es:=run.map Part.enc) (τ:=[(lid,.arr TL 2 (o.map leafV)),((n0,3),.box (.arr lid))]) rfl (by simp [lk]) (fun i e' h=>?_) (okPt _) (Nat.le_refl _)) ?_
  ·refine ⟨lk_drop1 (by simp [lk,c3',c2']) i e' h,?_⟩
   rintro rfl
   simp [lk,c3',c2'] at h
  simp only [push_cast,seval,reduceEqDiff,c1,c1',c2,c2',c3,c3',d1,d1',hia,TL,hap,eq_true hll,List.length_map]
  repeat' (first|(((first|apply condU_s|apply gdU_t|apply gdU_f)<;>intro _h)<;>simp only [push_cast,seval,reduceEqDiff,_h,c1,c1',c2,c2',c3,c3',d1,d1',hia,TL,hap,eq_true hll,List.length_map])|((first|refine c_call (by exact hIk) ?_|refine c_call (by exact hcl) ?_|refine jp_i (by simp only [List.length_append,List.length_cons,List.length_nil,SLim]<;>omega) ?_);simp only [push_cast,seval,reduceEqDiff,c1,c1',c2,c2',c3,c3',d1,d1',hia,TL,hap,eq_true hll,List.length_map])|intro _)
  exact finNW_i rfl (by simp [lk])
 | cons p rest=>
  have hbd:=zip_bd hz
  have hwp:=wtPs_mem (ps:=ps) (p:=p) (by rw [hz];simp)
  have hpl:ps.length=done.length+(rest.length+1):=by rw [hz];simp
  have hlt0:decide ((done.length:Int)<(ps.length:Int))=true:=by simp;omega
  have hget:(ps.map Part.enc)[done.length]? = some p.enc:=by rw [hz,List.getElem?_map,List.getElem?_append_right (by simp)];simp
  rw [lvsPs_cons] at hd
  rw [wtPs_cons] at hM hrw
  have hso:=c_solid W0 p (by omega)
  unfold Part.v at hso
  cases hsl:p.solid with
  | true=>
   rw [hsl] at hso hd
   simp only [bq,if_true,if_false,Int.reduceBEq,reduceCtorEq] at hd
   have hll:run.length+1<=LLim:=by unfold LLim;omega
   have hap:List.map Part.enc run++[.agg [.i .i64 p.kind,.s p.text,.s p.name,.s p.style,.sl (p.cases.map Case.enc),.sl (p.parts.map Part.enc)]]=(run++[p]).map Part.enc:=by simp [Part.enc_eq]
   simp only [push_cast,seval,reduceEqDiff,hlt0,hget,if_pos hbd,wrap_zip p (done:=done) (by omega),List.length_map,c1,c1',c2,c2',c3,c3',d1,d1',d2,d2',d3,d3',TPt,hap,eq_true hll]
   repeat' (first|(((first|apply condU_s|apply gdU_t|apply gdU_f)<;>intro _h)<;>simp only [push_cast,seval,reduceEqDiff,_h,hlt0,hget,if_pos hbd,wrap_zip p (done:=done) (by omega),List.length_map,c1,c1',c2,c2',c3,c3',d1,d1',d2,d2',d3,d3',TPt,hap,eq_true hll])|(refine c_call (by exact hso) ?_;simp only [push_cast,seval,reduceEqDiff,hlt0,hget,if_pos hbd,wrap_zip p (done:=done) (by omega),List.length_map,c1,c1',c2,c2',c3,c3',d1,d1',d2,d2',d3,d3',TPt,hap,eq_true hll])|intro _)
   rename_i b1 b2 b3 b4 b5
   refine ⟨_,_,Nat.lt_succ_self _,StLe.dropM (by simp [lk,d1',d3']) (Nat.le_refl _),done++[p],rest,_,lid,_,o,run++[p],k,by rw [hz];simp,rfl,hd,by omega,by simp;omega,by simp;omega,?_,?_,?_,?_,hlb,?_,?_,rfl⟩
   ·rw [wtPs_app,wtPs_cons,wtPs_nil];omega
   ·omega
   ·omega
   ·simp only;omega
   ·intro he;injection he with h1 h2;omega
   ·intro he;rw [<-he] at hl;simp at hl;omega
  | false=>
   rw [hsl] at hso hd
   simp only [bq,if_true,if_false,Int.reduceBEq,reduceCtorEq] at hd
   simp only [push_cast,seval,reduceEqDiff,hlt0,hget,if_pos hbd,wrap_zip p (done:=done) (by omega),List.length_map,c1,c1',c2,c2',c3,c3',d1,d1',d2,d2',d3,d3']
   repeat' (first|(((first|apply condU_s|apply gdU_t|apply gdU_f)<;>intro _h)<;>simp only [push_cast,seval,reduceEqDiff,_h,hlt0,hget,if_pos hbd,wrap_zip p (done:=done) (by omega),List.length_map,c1,c1',c2,c2',c3,c3',d1,d1',d2,d2',d3,d3'])|(refine c_call (by exact hso) ?_;simp only [push_cast,seval,reduceEqDiff,hlt0,hget,if_pos hbd,wrap_zip p (done:=done) (by omega),List.length_map,c1,c1',c2,c2',c3,c3',d1,d1',d2,d2',d3,d3'])|intro _)
   rename_i b1 b2 b3
   have hx:n<n+1+b1/\n+1+b1<n+1+b1+1+b2+1+b3:=by omega
   generalize n+1+b1+1+b2+1+b3=n2 at *
   have g1:∀j:Nat,((n+1+b1,j)=lid)=False:=fun j=>d1 b1 j
   have g1':∀j:Nat,(lid=(n+1+b1,j))=False:=fun j=>d1' b1 j
   have g2:∀j:Nat,((n+1+b1,j)=rid)=False:=fun j=>d2 b1 j
   have g3:∀j q:Nat,((n+1+b1,j)=(n0,q))=False:=fun j q=>d3 b1 j q
   have g3':∀j q:Nat,((n0,q)=(n+1+b1,j))=False:=fun j q=>d3' b1 j q
   generalize n+1+b1=x0 at *
   obtain ⟨hx1,hx2⟩:=hx
   have e1:∀i j:Nat,((n2+1+i,j)=lid)=False:=fun i j=>ne_idx (by omega)
   have e1':∀i j:Nat,(lid=(n2+1+i,j))=False:=fun i j=>eq_false fun he=>of_eq_false (e1 i j) he.symm
   have e3:∀i j q:Nat,((n2+1+i,j)=(n0,q))=False:=fun i j q=>eq_false fun he=>by injection he with h1 h2;omega
   have e3':∀i j q:Nat,((n0,q)=(n2+1+i,j))=False:=fun i j q=>eq_false fun he=>of_eq_false (e3 i j q) he.symm
   have e4:∀i j q:Nat,((n2+1+i,j)=(x0,q))=False:=fun i j q=>eq_false fun he=>by injection he with h1 h2;omega
   have e4':∀i j q:Nat,((x0,q)=(n2+1+i,j))=False:=fun i j q=>eq_false fun he=>of_eq_false (e4 i j q) he.symm
   have f1:∀j:Nat,((n2,j)=lid)=False:=fun j=>ne_idx (by omega)
   have f3:∀j q:Nat,((n2,j)=(n0,q))=False:=fun j q=>eq_false fun he=>by injection he with h1 h2;omega
   have f3':∀j q:Nat,((n0,q)=(n2,j))=False:=fun j q=>eq_false fun he=>of_eq_false (f3 j q) he.symm
   have f4:∀j q:Nat,((n2,j)=(x0,q))=False:=fun j q=>eq_false fun he=>by injection he with h1 h2;omega
   have f4':∀j q:Nat,((x0,q)=(n2,j))=False:=fun j q=>eq_false fun he=>of_eq_false (f4 j q) he.symm
   obtain ⟨hIk,hIl⟩:=hI k (by omega)
   obtain ⟨hIk2',hIl2⟩:=hI (k+1) (by omega)
   have hIk2:RetS Tryz.prog W0 114 [.i .i64 ((k:Int)+1)] [] (.s (decN (k+1))) []:=hIk2'
   have hcl:=c_cloned W0 _ run (Nat.lt_succ_self _) (by omega)
   generalize decN k=DK at *
   generalize decN (k+1)=DL at *
   have hap:List.map leafV o++[.agg [.s (pa++DK),.sl (run.map Part.enc)]]=(o++[(pa++DK,run)]).map leafV:=by simp [leafV]
   have hll:o.length+1<=LLim:=by unfold LLim;omega
   have hwk:IntKind.i64.wrap ((k:Int)+1)=((k+1:Nat):Int):=by rw [wrap64 (by omega) (by omega)];simp
   refine wkW_i (frz_slot (s:=7) (rid:=rid) (e:=TPt) (sz:=6) (es:=run.map Part.enc) (τ:=[((x0,10),.box (.agg [.i .i64 p.kind,.s p.text,.s p.name,.s p.style,.sl (p.cases.map Case.enc),.sl (p.parts.map Part.enc)])),(lid,.arr TL 2 (o.map leafV)),((n0,3),.box (.arr lid))]) rfl (by simp [lk,g2]) (fun i e' h=>?_) (okPt _) (Nat.le_refl _)) ?_
   ·have hne:i≠rid:=by
     rintro rfl
     simp [lk,g2,c3',c2'] at h
    refine ⟨?_,hne⟩
    simp only [lk] at h⊢
    by_cases hx:(x0,10)=i
    ·rw [if_pos hx] at h⊢;exact h
    ·rw [if_neg hx] at h⊢;rw [if_neg (Ne.symm hne)];exact h
   simp only [push_cast,seval,reduceEqDiff,c1,c1',c2,c2',c3,c3',g1,g1',g3,g3',e1,e1',e3,e3',e4,e4',f1,f3,f3',f4,f4',hia,TL,hap,eq_true hll,List.length_map,hwk,wrap_zip p (done:=done) (by omega)]
   repeat' (first|(((first|apply condU_s|apply gdU_t|apply gdU_f)<;>intro _h)<;>simp only [push_cast,seval,reduceEqDiff,_h,c1,c1',c2,c2',c3,c3',g1,g1',g3,g3',e1,e1',e3,e3',e4,e4',f1,f3,f3',f4,f4',hia,TL,hap,eq_true hll,List.length_map,hwk,wrap_zip p (done:=done) (by omega)])|((first|refine c_call (by exact hIk) ?_|refine c_call (by exact hcl) ?_|refine c_call (by exact hIk2) ?_|refine jp_i (by simp only [List.length_append,List.length_cons,List.length_nil,SLim]<;>omega) ?_);simp only [push_cast,seval,reduceEqDiff,c1,c1',c2,c2',c3,c3',g1,g1',g3,g3',e1,e1',e3,e3',e4,e4',f1,f3,f3',f4,f4',hia,TL,hap,eq_true hll,List.length_map,hwk,wrap_zip p (done:=done) (by omega)])|intro _)
   have hli:=c_lists W0 p (pa++DL++[47]) (n0,3) (by omega) (by simp only [List.length_append,List.length_cons,List.length_nil];omega) (2^30)
    (fun q pa' o' lid' h1 h2 h3 h4=>c_leavesFn W0 q pa' o' (n0,3) lid' h3 (ih q pa' o' lid' (by omega) (by omega) (by omega) h2 (by omega))) (o++[(pa++DK,run)]) (n2,32) (fun he=>of_eq_false (f3 _ _) he) (by simp only [List.length_append,List.length_cons,List.length_nil];omega)
   unfold Part.v at hli
   refine c_callx hli (lk_m2 (fun he=>of_eq_false (f4' _ _) he) (fun he=>of_eq_false (g3 _ _) he)) (fun n5 v σo hle hR=>?_)
   obtain ⟨rfl,id,hi1,hi2,rfl⟩:=hR
   have hlp:=lvs_part p (pa++DL++[47])
   simp only [TL]
   rw [over_m2 (fun he=>of_eq_false (f4' _ _) he) (fun he=>of_eq_false (g3 _ _) he)]
   generalize p.lvs (pa++DL++[47])=LV at *
   rw [show o++(pa++DK,run)::(LV++lvsPs rest pa (k+1) [])=(o++[(pa++DK,run)]++LV)++lvsPs rest pa (k+1) [] by simp] at hd
   simp only [push_cast,seval,reduceEqDiff,c1,c1',c2,c2',c3,c3',g1,g1',g3,g3',e1,e1',e3,e3',e4,e4',f1,f3,f3',f4,f4',hia,TL,hap,eq_true hll,List.length_map,hwk,wrap_zip p (done:=done) (by omega)]
   intros
   rename_i b4 b5
   have hx3:n5<n5+1+b4+1+b5:=by omega
   generalize n5+1+b4+1+b5=n6 at *
   have hid:id.1<n6:=by omega
   have hid2:id=(n2,32)\/n0<id.1:=by
    rcases hi1 with h|h
    ·exact .inl h
    ·exact .inr (by omega)
   refine ⟨_,⟨[(2,.s pa),(3,.ref (n0,3) 0),(7,.arr (n6,99)),(8,.i .i64 ((k+1:Nat):Int)),(11,.sl (ps.map Part.enc)),(12,.i .i64 ps.length),(13,.i .i64 (done++[p]).length)],[((n6,99),.arr TPt 6 []),(id,.arr TL 2 ((o++[(pa++DK,run)]++LV).map leafV)),((n0,3),.box (.arr id))],n6+1⟩,Nat.lt_succ_self _,(StLe.own (s:=7) (e:=TPt) (sz:=6) (k:=99) rfl).trans ((StLe.envD (fun t=>?_) (Nat.le_refl _)).trans (StLe.drop (fun i e h=>lk_app_left (τ:=[_]) h) (Nat.le_refl _))),done++[p],rest,_,id,(n6,99),_,[],k+1,by rw [hz];simp,rfl,hd,?_,?_,?_,?_,?_,?_,?_,?_,?_,?_,rfl⟩
   ·left
    by_cases h3:7=t
    ·subst h3;rfl
    ·simp [get,h3]
   ·simp only [List.length_append,List.length_cons,List.length_nil];omega
   ·simp;omega
   ·simp
   ·rw [wtPs_nil];omega
   ·omega
   ·omega
   ·simp only;omega
   ·rcases hid2 with rfl|h
    ·exact fun he=>of_eq_false (f3 _ _) he
    ·rintro rfl;simp at h
   ·intro he;injection he with h1 h2;omega
   ·rintro rfl;simp at hid
theorem c_Leaves (K:Nat) (hI:∀i:Nat,i<=K->RetS Tryz.prog W0 114 [.i .i64 i] [] (.s (decN i)) []/\(decN i).length<=20) (ps:List Part) (hw:wtPs ps<=2^24) (hK:wtPs ps<=K) (hv:validP ps=true) :
  RetS Tryz.prog W0 30 [.sl (ps.map Part.enc)] [] (.tup [.sl ((lvsPs ps [] 0 []).map leafV),.i .i64 0]) []:=by
 have hva:=c_Valid W0 ps hw
 rw [hv] at hva
 have hle:=retN_nil (e:=TL) (sz:=2) (fun id=>c_leavesA W0 K hI _ ps [] [] id (Nat.lt_succ_self _) hw hK (by simp;omega) (by simp;omega))
 rw [List.nil_append] at hle
 refine fn_retW (vs:=[.sl ((lvsPs ps [] 0 []).map leafV),.i .i64 0]) f30ok (by simp) (by simp) fun n0 hn0=>?_
 clear hn0
 simp only [push_cast,seval,reduceEqDiff]
 repeat' (first|(((first|apply condU_s|apply gdU_t|apply gdU_f)<;>intro _h)<;>simp only [push_cast,seval,reduceEqDiff,_h])|(refine c_call (by exact hva) ?_;simp only [push_cast,seval,reduceEqDiff])|intro _)
 refine c_calln hle (fun i e h=>by simp [lk] at h) ?_
 rw [over_nil]
 simp only [push_cast,seval,reduceEqDiff]
 intros
 exact ⟨⟨_,[],_⟩,frz_slot (s:=2) (e:=TL) (sz:=2) (es:=(lvsPs ps [] 0 []).map leafV) rfl (by simp [lk]) (fun _ _ h=>by cases h) (fun y hy=>by obtain ⟨x,_,rfl⟩:=List.mem_map.1 hy;rfl) (Nat.le_refl _),⟨by simp [ResOk,get],by simp [ResOk,get],trivial⟩,fun _ _ h=>by cases h⟩
def nodupK:List Bytes->List Bytes->Bool
 | _,[]=>true
 | d,k::r=>!d.contains k&&nodupK (d++[k]) r
def lastOther (l:List Bytes):Bool:=match l.getLast? with
 | none=>false
 | some k=>k == kOtherS
def headS (s:Sel):Bool:=selB s.kind&&(nameB s.name&&lastOther s.keys)
def soundGo:List Sel->List Sel->Bool
 | _,[]=>true
 | d,s::r=>headS s&&(nodupK [] s.keys&&(!d.any (selIs s.kind s.name)&&soundGo (d++[s]) r))
def soundP (f:FormP):Bool:=soundGo [] f.1&&(decide ((combP 1 f.1:Int)<=400)&&((f.2.length:Int) == (combP 1 f.1:Int)))
theorem elSel (s:Sel):ElOk true 3 s.enc:=elOk_agg rfl
theorem ifSel:okFn Tryz.prog 87 19 (gIF_0 86 3 true) gIFR=true:=by kernel_rfl
theorem cfSel:okFn Tryz.prog 46 9 (gCF_0 87) gCFR=true:=by kernel_rfl
theorem anySel {l:List Sel} {g:FuncId} {first caps:List V} {σ:Sto} {p:Sel->Bool} (hl:l.length<2^62) (hg:∀x∈l,RetS Tryz.prog W0 g (first++[x.enc]++caps) σ (.b (p x)) σ) :
  RetS Tryz.prog W0 46 [.sl (l.map Sel.enc),.fn g first caps] σ (.b (l.any p)) σ:=by
 rw [<-idxI_ge]
 exact containsFunc_ret W0 cfSel _ _ _ _ (indexFunc_ret W0 ifSel Sel.enc l p g first caps σ (fun x _=>elSel x) hg hl)
theorem c_sound1 (t s:Sel) (sid:Id) (σ:Sto) (hs:lk σ sid=some (.box (.agg [.i .i64 s.kind,.s s.name,.sl (s.keys.map V.s)]))):RetS Tryz.prog W0 47 [t.enc,.ref sid 0] σ (.b (selIs s.kind s.name t)) σ:=by
 generalize hS:selIs s.kind s.name t=S
 unfold selIs at hS
 refine fn_retW (vs:=[.b S]) f47ok (by simp) (fun _ h=>h) fun n0 hn0=>?_
 have h1:∀j,((n0,j)=sid)=False:=fun j=>ne_idx (hn0 _ _ hs)
 simp only [push_cast,seval,reduceEqDiff,h1,hs]
 repeat' (first|(((first|apply condU_s|apply gdU_t|apply gdU_f)<;>intro _h)<;>simp only [push_cast,seval,reduceEqDiff,_h,h1,hs])|intro _)
 all_goals subst hS
 all_goals (refine finW_retS (by simp [get, *]) (fun i e h=>lk_fresh (hn0 i e h) h))
theorem last_cases (l:List Bytes):(l=[]/\lastOther l=false)\/∃d k,l=d++[k]/\lastOther l=(k == kOtherS):=by
 rcases List.eq_nil_or_concat l with h|⟨d,k,h⟩
 ·left;subst h;exact ⟨rfl,rfl⟩
 ·right;refine ⟨d,k,by rw [h,List.concat_eq_append],?_⟩
  subst h;rw [List.concat_eq_append];simp [lastOther]
set_option maxHeartbeats 4000000 in
theorem c_Sound (f:FormP) (h1:f.1.length<=2^26) (hk:∀s∈f.1,s.keys.length<=2^26/\s.name.length<=2^30):RetS Tryz.prog W0 12 [formV f] [] (.b (soundP f)) []:=by
 obtain ⟨L,VS⟩:=f
 simp only at h1 hk
 have hco:=c_comb W0 L (by omega) (fun s hs=>by have:=(hk s hs).1;omega)
 unfold soundP formV
 simp only
 generalize combP 1 L=CB at *
 generalize hT:(decide ((CB:Int)<=400)&&((VS.length:Int) == (CB:Int)))=T
 generalize hS:(soundGo [] L&&T)=S
 refine fn_retW (vs:=[.b S]) f12ok (by simp) (by simp) fun n0 hn0=>?_
 clear hn0
 simp only [push_cast,seval,reduceEqDiff,List.length_map]
 intros
 refine aWP_loopW L.length (Inv:=fun m st=>∃done rest n,L=done++rest/\m=rest.length/\(soundGo done rest&&T)=S/\n0<n/\st=⟨[(1,.ref (n0,1) 0),(9,.sl (L.map Sel.enc)),(10,.i .i64 L.length),(11,.i .i64 done.length)],[((n0,1),.box (.agg [.sl (L.map Sel.enc),.sl (VS.map vEnc)]))],n⟩) ⟨_,StLe.refl,[],L,_,rfl,rfl,hS,by (try simp only);omega,rfl⟩ ?_
 clear hS
 rintro m _ ⟨done,rest,n,hz,rfl,hd,hn,rfl⟩
 cases rest with
 | nil=>
  have hlt0:decide ((done.length:Int)<(L.length:Int))=false:=by rw [hz];simp
  rw [soundGo,Bool.true_and] at hd
  subst hd
  simp only [push_cast,seval,reduceEqDiff,hlt0,List.length_map]
  repeat' (first|(((first|apply condU_s|apply gdU_t|apply gdU_f)<;>intro _h)<;>simp only [push_cast,seval,reduceEqDiff,_h,hlt0,List.length_map])|(refine c_call (by exact hco) ?_;simp only [push_cast,seval,reduceEqDiff,hlt0,List.length_map])|intro _)
  all_goals (refine finW_ret ?_;simp only [<-hT];simp [get, *])
 | cons s rest=>
  have hlt0:decide ((done.length:Int)<(L.length:Int))=true:=by rw [hz];simp;omega
  have hbd:=zip_bd hz
  obtain ⟨hks,hns⟩:=hk s (by rw [hz];simp)
  have hget:(L.map Sel.enc)[done.length]? = some s.enc:=by rw [hz,List.getElem?_map,List.getElem?_append_right (by simp)];simp
  have hsel:=c_sSel W0 s.kind
  have hnm:=c_tName W0 s.name (by unfold SLim;omega)
  rw [soundGo] at hd
  unfold headS at hd
  have f1:∀k j q:Nat,((n+1+k,j)=(n0,q))=False:=fun k j q=>eq_false fun he=>by injection he with h1 h2;omega
  have f1':∀k j q:Nat,((n0,q)=(n+1+k,j))=False:=fun k j q=>eq_false fun he=>of_eq_false (f1 k j q) he.symm
  cases hs:selB s.kind with
  | false=>
   rw [hs] at hd hsel
   simp only [Bool.false_and] at hd
   subst hd
   simp only [push_cast,seval,reduceEqDiff,hlt0,hget,if_pos hbd,f1,f1',List.length_map]
   repeat' (first|(((first|apply condU_s|apply gdU_t|apply gdU_f)<;>intro _h)<;>simp only [push_cast,seval,reduceEqDiff,_h,hlt0,hget,if_pos hbd,f1,f1',List.length_map])|(refine c_call (by exact hsel) ?_;simp only [push_cast,seval,reduceEqDiff,hlt0,hget,if_pos hbd,f1,f1',List.length_map])|intro _)
   exact finW_ret (by simp [get])
  | true=>
  cases hm:nameB s.name with
  | false=>
   rw [hs] at hd hsel
   rw [hm] at hd hnm
   simp only [Bool.false_and,Bool.true_and] at hd
   subst hd
   simp only [push_cast,seval,reduceEqDiff,hlt0,hget,if_pos hbd,f1,f1',List.length_map]
   repeat' (first|(((first|apply condU_s|apply gdU_t|apply gdU_f)<;>intro _h)<;>simp only [push_cast,seval,reduceEqDiff,_h,hlt0,hget,if_pos hbd,f1,f1',List.length_map])|((first|refine c_call (by exact hsel) ?_|refine c_call (by exact hnm) ?_);simp only [push_cast,seval,reduceEqDiff,hlt0,hget,if_pos hbd,f1,f1',List.length_map])|intro _)
   exact finW_ret (by simp [get])
  | true=>
  rw [hs] at hd hsel
  rw [hm] at hd hnm
  rcases last_cases s.keys with ⟨hk0,hlo⟩|⟨kd0,kl,hk0,hlo⟩
  ·rw [hlo] at hd
   simp only [Bool.false_and,Bool.true_and] at hd
   subst hd
   simp only [push_cast,seval,reduceEqDiff,hlt0,hget,if_pos hbd,f1,f1',List.length_map,hk0,List.map_nil,List.length_nil]
   repeat' (first|(((first|apply condU_s|apply gdU_t|apply gdU_f)<;>intro _h)<;>simp only [push_cast,seval,reduceEqDiff,_h,hlt0,hget,if_pos hbd,f1,f1',List.length_map,hk0,List.map_nil,List.length_nil])|((first|refine c_call (by exact hsel) ?_|refine c_call (by exact hnm) ?_);simp only [push_cast,seval,reduceEqDiff,hlt0,hget,if_pos hbd,f1,f1',List.length_map,hk0,List.map_nil,List.length_nil])|intro _)
   exact finW_ret (by simp [get])
  ·have hkl:s.keys.length=kd0.length+1:=by rw [hk0];simp
   have hne:((s.keys.length:Int) == 0)=false:=by rw [hkl];simp;omega
   have hw1:IntKind.i64.wrap ((s.keys.length:Int)-1)=(kd0.length:Int):=by rw [wrap64 (by omega) (by omega)];omega
   have hgl:(s.keys.map V.s)[kd0.length]? = some (.s kl):=by rw [hk0,List.getElem?_map];simp
   have hltk:kd0.length<s.keys.length:=by omega
   cases hlk:(kl == kOtherS) with
   | false=>
    have hbk:(kl == [111,116,104,101,114])=false:=hlk
    rw [hlo,hlk] at hd
    simp only [Bool.false_and,Bool.true_and] at hd
    subst hd
    simp only [push_cast,seval,reduceEqDiff,hlt0,hget,if_pos hbd,f1,f1',List.length_map,hne,hw1,hgl,if_pos hltk,hbk]
    repeat' (first|(((first|apply condU_s|apply gdU_t|apply gdU_f)<;>intro _h)<;>simp only [push_cast,seval,reduceEqDiff,_h,hlt0,hget,if_pos hbd,f1,f1',List.length_map,hne,hw1,hgl,if_pos hltk,hbk])|((first|refine c_call (by exact hsel) ?_|refine c_call (by exact hnm) ?_);simp only [push_cast,seval,reduceEqDiff,hlt0,hget,if_pos hbd,f1,f1',List.length_map,hne,hw1,hgl,if_pos hltk,hbk])|intro _)
    exact finW_ret (by simp [get])
   | true=>
    have hbk:(kl == [111,116,104,101,114])=true:=hlk
    rw [hlo,hlk] at hd
    simp only [Bool.true_and] at hd
    simp only [push_cast,seval,reduceEqDiff,hlt0,hget,if_pos hbd,f1,f1',List.length_map,hne,hw1,hgl,if_pos hltk,hbk]
    repeat' (first|(((first|apply condU_s|apply gdU_t|apply gdU_f)<;>intro _h)<;>simp only [push_cast,seval,reduceEqDiff,_h,hlt0,hget,if_pos hbd,f1,f1',List.length_map,hne,hw1,hgl,if_pos hltk,hbk])|((first|refine c_call (by exact hsel) ?_|refine c_call (by exact hnm) ?_);simp only [push_cast,seval,reduceEqDiff,hlt0,hget,if_pos hbd,f1,f1',List.length_map,hne,hw1,hgl,if_pos hltk,hbk])|intro _)
    rename_i b1 b2 b3 b4
    have hx:n<n+1+b1/\n+1+b1<n+1+b1+1+b2+1+b3+1+b4:=by omega
    generalize n+1+b1+1+b2+1+b3+1+b4=n2 at *
    generalize n+1+b1=x0 at *
    obtain ⟨hx1,hx2⟩:=hx
    have g1:∀j q:Nat,((x0,j)=(n0,q))=False:=fun j q=>eq_false fun he=>by injection he with h1 h2;omega
    have g1':∀j q:Nat,((n0,q)=(x0,j))=False:=fun j q=>eq_false fun he=>of_eq_false (g1 j q) he.symm
    clear hk0 hlo hkl hne hw1 hgl hltk hbk hlk hsel hnm f1 f1'
    refine aWP_loopW s.keys.length (Inv:=fun m st=>∃kd kr n,s.keys=kd++kr/\m=kr.length/\(nodupK kd kr&&(!done.any (selIs s.kind s.name)&&soundGo (done++[s]) rest)&&T)=S/\x0<n/\st=⟨[(1,.ref (n0,1) 0),(3,.i .i64 done.length),(4,.ref (x0,4) 0),(9,.sl (L.map Sel.enc)),(10,.i .i64 L.length),(11,.i .i64 done.length),(44,.sl (s.keys.map V.s)),(45,.i .i64 s.keys.length),(46,.i .i64 kd.length)],[((x0,4),.box (.agg [.i .i64 s.kind,.s s.name,.sl (s.keys.map V.s)])),((n0,1),.box (.agg [.sl (L.map Sel.enc),.sl (VS.map vEnc)]))],n⟩) ⟨_,StLe.refl,[],s.keys,_,rfl,rfl,hd,hx2,rfl⟩ ?_
    clear hd
    rintro m _ ⟨kd,kr,n3,hkz,rfl,hd,hn3,rfl⟩
    cases kr with
    | nil=>
     have hlt1:decide ((kd.length:Int)<(s.keys.length:Int))=false:=by rw [hkz];simp
     rw [nodupK,Bool.true_and] at hd
     have han:=anySel W0 (l:=done) (p:=selIs s.kind s.name) (σ:=[((x0,4),.box (.agg [.i .i64 s.kind,.s s.name,.sl (s.keys.map V.s)]))]) (first:=[]) (caps:=[.ref (x0,4) 0]) (by omega) (fun t _=>c_sound1 W0 t s (x0,4) _ (by simp [lk]))
     have htk:(if 0<=done.length/\done.length<=L.length then some (V.sl (List.take done.length (L.map Sel.enc))) else none)=some (V.sl (done.map Sel.enc)):=by
      rw [if_pos ⟨Nat.zero_le _,by omega⟩,hz];simp
     have hcel:∀y∈L.map Sel.enc,(cells y).length=3:=fun y hy=>by obtain ⟨x,_,rfl⟩:=List.mem_map.1 hy;rfl
     generalize hAN:done.any (selIs s.kind s.name)=AN at *
     cases AN with
     | true=>
      simp only [bq,if_true,if_false,Int.reduceBEq,reduceCtorEq] at hd
      subst hd
      simp only [push_cast,seval,reduceEqDiff,hlt1,List.length_map,g1,g1',htk,eq_true hcel]
      intros
      refine c_callr han (fun i e h=>lk_app_left (τ:=[_]) h) ?_
      simp only [push_cast,seval,reduceEqDiff,hlt1,List.length_map,g1,g1',htk,eq_true hcel]
      intros
      exact finW_ret (by simp [get])
     | false=>
      simp only [bq,if_true,if_false,Int.reduceBEq,reduceCtorEq] at hd
      simp only [push_cast,seval,reduceEqDiff,hlt1,List.length_map,g1,g1',htk,eq_true hcel,wrap_zip s (done:=done) (by omega)]
      intros
      refine c_callr han (fun i e h=>lk_app_left (τ:=[_]) h) ?_
      simp only [push_cast,seval,reduceEqDiff,hlt1,List.length_map,g1,g1',htk,eq_true hcel,wrap_zip s (done:=done) (by omega)]
      intros
      exact ⟨_,_,Nat.lt_succ_self _,StLe.drop1 (by simp [lk,g1']) (Nat.le_refl _),done++[s],rest,_,by rw [hz];simp,rfl,hd,by omega,rfl⟩
    | cons key kr=>
     have hlt1:decide ((kd.length:Int)<(s.keys.length:Int))=true:=by rw [hkz];simp;omega
     have hkb:=zip_bd hkz
     rw [nodupK] at hd
     have hgk:(s.keys.map V.s)[kd.length]? = some (.s key):=by rw [hkz,List.getElem?_map,List.getElem?_append_right (by simp)];simp
     have htk:(if 0<=kd.length/\kd.length<=s.keys.length then some (V.sl (List.take kd.length (s.keys.map V.s))) else none)=some (V.sl (kd.map V.s)):=by
      rw [if_pos ⟨Nat.zero_le _,by omega⟩,hkz];simp
     have hcel:∀y∈s.keys.map V.s,(cells y).length=1:=fun y hy=>by obtain ⟨x,_,rfl⟩:=List.mem_map.1 hy;rfl
     have hin:=c_containsS W0 kd key (by omega)
     cases hc:kd.contains key with
     | true=>
      rw [hc] at hd hin
      simp only [bq,if_true,if_false,Int.reduceBEq,reduceCtorEq] at hd
      subst hd
      simp only [push_cast,seval,reduceEqDiff,hlt1,List.length_map,g1,g1',htk,hgk,if_pos hkb,eq_true hcel]
      repeat' (first|(((first|apply condU_s|apply gdU_t|apply gdU_f)<;>intro _h)<;>simp only [push_cast,seval,reduceEqDiff,_h,hlt1,List.length_map,g1,g1',htk,hgk,if_pos hkb,eq_true hcel])|(refine c_call (by exact hin) ?_;simp only [push_cast,seval,reduceEqDiff,hlt1,List.length_map,g1,g1',htk,hgk,if_pos hkb,eq_true hcel])|intro _)
      exact finW_ret (by simp [get])
     | false=>
      rw [hc] at hd hin
      simp only [bq,if_true,if_false,Int.reduceBEq,reduceCtorEq] at hd
      simp only [push_cast,seval,reduceEqDiff,hlt1,List.length_map,g1,g1',htk,hgk,if_pos hkb,eq_true hcel,wrap_zip key (done:=kd) (by omega)]
      repeat' (first|(((first|apply condU_s|apply gdU_t|apply gdU_f)<;>intro _h)<;>simp only [push_cast,seval,reduceEqDiff,_h,hlt1,List.length_map,g1,g1',htk,hgk,if_pos hkb,eq_true hcel,wrap_zip key (done:=kd) (by omega)])|(refine c_call (by exact hin) ?_;simp only [push_cast,seval,reduceEqDiff,hlt1,List.length_map,g1,g1',htk,hgk,if_pos hkb,eq_true hcel,wrap_zip key (done:=kd) (by omega)])|intro _)
      exact ⟨_,_,Nat.lt_succ_self _,StLe.refl,kd++[key],kr,_,by rw [hkz];simp,rfl,hd,by omega,rfl⟩
theorem retS_weak {P:Program} {W0:World} {f:FuncId} {args args':List V} {σ σ':Sto} {v:V} (h:RetS P W0 f args' σ v σ') (hl:args.length=args'.length)
  (ha:∀(k:Nat) (a a':V),args[k]? = some a->args'[k]? = some a'->VLe (fun _=>none) a a'):RetS P W0 f args σ v σ' where
 callable:=h.callable
 dom:=h.dom
 run:=fun n w μ H vals hp hv=>h.run n w μ H vals hp ⟨by rw [<-hl];exact hv.len,fun k c x hc hx=>by
  have hk:k<args.length:=by rw [hl];exact (List.getElem?_eq_some_iff.1 hc).1
  have hg:args[k]? = some args[k]:=List.getElem?_eq_getElem hk
  exact VRel.le (fun _ _ h=>h) (fun _ _ h=>by cases h) (ha k _ _ hg hc) (hv.at_ k _ x hg hx)⟩
def VLs (φ:Id->Option (List V)):List V->List V->Prop
 | [],[]=>True
 | a::xs,b::ys=>(VLe φ a b/\(cells b).length=(cells a).length/\a.ok=true/\b.ok=true)/\VLs φ xs ys
 | _,_=>False
theorem VLs.at_ {φ:Id->Option (List V)}:∀{xs ys:List V},VLs φ xs ys->xs.length=ys.length/\∀(k:Nat) (c c':V),xs[k]? = some c->ys[k]? = some c'->VLe φ c c'/\(cells c').length=(cells c).length/\c.ok=true/\c'.ok=true
 | [],[],_=>⟨rfl,fun k c c' h=>by simp at h⟩
 | a::xs,b::ys,h=>by
  obtain ⟨h1,h2⟩:=h
  obtain ⟨h3,h4⟩:=VLs.at_ h2
  refine ⟨by simp [h3],fun k c c' hc hc'=>?_⟩
  cases k with
  | zero=>simp at hc hc';subst hc hc';exact h1
  | succ k=>exact h4 k c c' (by simpa using hc) (by simpa using hc')
theorem vle_slL {φ:Id->Option (List V)} {xs ys:List V} (h:VLs φ xs ys):VLe φ (.sl xs) (.sl ys):=.sl _ _ h.at_.1 (fun k c c' h1 h2=>(h.at_.2 k c c' h1 h2).1) (fun k c c' h1 h2=>(h.at_.2 k c c' h1 h2).2)
theorem vle_agL {φ:Id->Option (List V)} {xs ys:List V} (h:VLs φ xs ys):VLe φ (.agg xs) (.agg ys):=.agg _ _ h.at_.1 (fun k c c' h1 h2=>(h.at_.2 k c c' h1 h2).1)
def tA:Part:=⟨1,[97],[],[],[],[]⟩
def tX:Part:=⟨1,[120],[],[],[],[]⟩
def tC:Part:=⟨10,[],[],[],[],[]⟩
def awakeP:List Part:=[tA,⟨7,[],[110],[],[([111,110,101],[tX]),([111,116,104,101,114],[tC])],[]⟩]
def litT (k:Int) (t:Bytes):V:=.agg [.i .i64 k,.s t,.s [],.s [],.nil,.nil]
def awakeV:V:=.sl [litT 1 [97],.agg [.i .i64 7,.s [],.s [110],.s [],.sl [.agg [.s [111,110,101],.sl [litT 1 [120]]],.agg [.s [111,116,104,101,114],.sl [litT 10 []]]],.nil]]
theorem vle_lit (φ:Id->Option (List V)) (k:Int) (t:Bytes):VLe φ (litT k t) (Part.enc ⟨k,t,[],[],[],[]⟩):=by
 rw [Part.enc_eq]
 exact vle_agL ⟨⟨.refl _,rfl,rfl,rfl⟩,⟨.refl _,rfl,rfl,rfl⟩,⟨.refl _,rfl,rfl,rfl⟩,⟨.refl _,rfl,rfl,rfl⟩,⟨.nil,rfl,rfl,rfl⟩,⟨.nil,rfl,rfl,rfl⟩,trivial⟩
theorem vle_awake (φ:Id->Option (List V)):VLe φ awakeV (.sl (awakeP.map Part.enc)):=by
 have l1:∀k t,VLe φ (.sl [litT k t]) (.sl [Part.enc ⟨k,t,[],[],[],[]⟩]):=fun k t=>vle_slL ⟨⟨vle_lit φ k t,rfl,rfl,rfl⟩,trivial⟩
 refine vle_slL ⟨⟨vle_lit φ 1 [97],rfl,rfl,rfl⟩,⟨?_,rfl,rfl,rfl⟩,trivial⟩
 rw [Part.enc_eq]
 refine vle_agL ⟨⟨.refl _,rfl,rfl,rfl⟩,⟨.refl _,rfl,rfl,rfl⟩,⟨.refl _,rfl,rfl,rfl⟩,⟨.refl _,rfl,rfl,rfl⟩,⟨?_,rfl,rfl,rfl⟩,⟨.nil,rfl,rfl,rfl⟩,trivial⟩
 exact vle_slL ⟨⟨vle_agL ⟨⟨.refl _,rfl,rfl,rfl⟩,⟨l1 1 [120],rfl,rfl,rfl⟩,trivial⟩,rfl,rfl,rfl⟩,⟨vle_agL ⟨⟨.refl _,rfl,rfl,rfl⟩,⟨l1 10 [],rfl,rfl,rfl⟩,trivial⟩,rfl,rfl,rfl⟩,trivial⟩
theorem dec01:decN 0=[48]/\decN 1=[49]:=by constructor<;>(unfold decN Lib.decDigits;rfl)
def tP:Part:=⟨7,[],[110],[],[([111,110,101],[tX]),([111,116,104,101,114],[tC])],[]⟩
theorem awake_lvs:lvsPs awakeP [] 0 []=[([48],[tA]),([49,47,111,110,101,47,48],[tX]),([49,47,111,116,104,101,114,47,48],[tC]),([49],[])]:=by
 have s1:tA.solid=true:=rfl
 have s2:tP.solid=false:=rfl
 have s3:tX.solid=true:=rfl
 have s4:tC.solid=true:=rfl
 have l2:∀pa,tP.lvs pa=lvsCs [([111,110,101],[tX]),([111,116,104,101,114],[tC])] pa:=fun pa=>by rw [Part.lvs_eq];rfl
 show lvsPs [tA,tP] [] 0 []=_
 simp only [lvsPs_cons,s1,s2,s3,s4,if_true,if_false,Bool.false_eq_true,lvsPs_nil,l2,lvsCs_cons,lvsCs,Nat.zero_add,dec01.1,dec01.2]
 rfl
def loc0:Loc:=⟨[],[],[],[],[],[.s [],.s [],.s [],.s [],.i .i64 0,.i .i64 0,.nil,.nil,.nil,.nil,.nil]⟩
theorem awake_valid:validP awakeP=true:=by decide
theorem awake_flat:flatP loc0 awakeP=(([⟨7,[110],[[111,110,101],[111,116,104,101,114]]⟩],[[⟨1,[97,120],[],[],[],[]⟩],[tA,⟨3,[],[110],[],[],[]⟩]]),0):=by rfl
theorem c_FlatG (l:Loc) (ps:List Part) (hrl:l.rest.length=11) (hb:wtRules l.card+wtRules l.ord<=2^24) (hw:wtPs ps<=2^20) :
  RetS Tryz.prog W0 11 [l.enc,.sl (ps.map Part.enc)] [] (.tup [formV (flatP l ps).1,.i .i64 (flatP l ps).2]) []:=
 c_Flat W0 l ps rfl hrl hb (by omega) (by have:=sels_len ps;omega) (fun s hs=>by have:=sels_keys ps s hs;exact ⟨this.1,by omega⟩) (fun s hs k hk=>by have:=sels_klen ps s hs k hk;omega)
  (fun hv=>valid_ok (valid_wf (by rw [<-valid_same];exact hv)))
theorem c_awake:RetS Tryz.prog W0 8 [] [] (.b true) []:=by
 have hI:∀i:Nat,i<=99->RetS Tryz.prog W0 114 [.i .i64 i] [] (.s (decN i)) []/\(decN i).length<=20:=fun i hi=>by
  refine ⟨c_itoa W0 i (by omega),?_⟩
  unfold decN Lib.decDigits
  split
  ·simp
  ·unfold Lib.decDigits
   rw [dif_pos (by omega)]
   simp
 have hwt:wtPs awakeP<=99:=by decide
 have hlv:=c_Leaves W0 99 hI awakeP (by omega) (by omega) awake_valid
 rw [awake_lvs] at hlv
 have hlv2:RetS Tryz.prog W0 30 [awakeV] [] _ []:=retS_weak hlv rfl (fun k a a' h1 h2=>by
  match k with
  | 0=>simp at h1 h2;subst h1 h2;exact vle_awake _
  | k+1=>simp at h1)
 have hfl:=c_FlatG W0 loc0 awakeP rfl (by decide) (by omega)
 rw [awake_flat] at hfl
 have hfl2:RetS Tryz.prog W0 11 [.agg [.s [],.s [],.s [],.nil,.nil,.s [],.s [],.s [],.s [],.i .i64 0,.i .i64 0,.nil,.nil,.nil,.nil,.nil],awakeV] [] _ []:=retS_weak hfl rfl (fun k a a' h1 h2=>by
  match k with
  | 0=>
   simp only [List.getElem?_cons_zero,Option.some.injEq] at h1 h2;subst h1 h2
   exact vle_agL ⟨⟨.refl _,rfl,rfl,rfl⟩,⟨.refl _,rfl,rfl,rfl⟩,⟨.refl _,rfl,rfl,rfl⟩,⟨.nil,rfl,rfl,rfl⟩,⟨.nil,rfl,rfl,rfl⟩,⟨.refl _,rfl,rfl,rfl⟩,⟨.refl _,rfl,rfl,rfl⟩,⟨.refl _,rfl,rfl,rfl⟩,⟨.refl _,rfl,rfl,rfl⟩,⟨.refl _,rfl,rfl,rfl⟩,⟨.refl _,rfl,rfl,rfl⟩,⟨.refl _,rfl,rfl,rfl⟩,⟨.refl _,rfl,rfl,rfl⟩,⟨.refl _,rfl,rfl,rfl⟩,⟨.refl _,rfl,rfl,rfl⟩,⟨.refl _,rfl,rfl,rfl⟩,trivial⟩
  | 1=>simp only [List.getElem?_cons_zero,List.getElem?_cons_succ,Option.some.injEq] at h1 h2;subst h1 h2;exact vle_awake _
  | k+2=>simp at h1)
 have hso:=c_Sound W0 ([⟨7,[110],[[111,110,101],[111,116,104,101,114]]⟩],[[⟨1,[97,120],[],[],[],[]⟩],[tA,⟨3,[],[110],[],[],[]⟩]]) (by decide) (fun s hs=>by simp at hs;subst hs;decide)
 rw [show soundP ([⟨7,[110],[[111,110,101],[111,116,104,101,114]]⟩],[[⟨1,[97,120],[],[],[],[]⟩],[tA,⟨3,[],[110],[],[],[]⟩]])=true from rfl] at hso
 have hpl:=c_plain W0 _ [tA,⟨3,[],[110],[],[],[]⟩] (Nat.lt_succ_self _) (by decide)
 rw [show plainPs [tA,⟨3,[],[110],[],[],[]⟩]=true from rfl] at hpl
 have heq:=c_rEqual W0 _ [⟨1,[97,120],[],[],[],[]⟩] [⟨1,[97,120],[],[],[],[]⟩] (Nat.lt_succ_self _) (by decide)
 rw [eqPs_refl] at heq
 have heq2:RetS Tryz.prog W0 28 [.sl ([(⟨1,[97,120],[],[],[],[]⟩:Part)].map Part.enc),.sl [litT 1 [97,120]]] [] _ []:=retS_weak heq rfl (fun k a a' h1 h2=>by
  match k with
  | 0=>simp only [List.getElem?_cons_zero,Option.some.injEq] at h1 h2;subst h1 h2;exact .refl _
  | 1=>simp only [List.getElem?_cons_zero,List.getElem?_cons_succ,Option.some.injEq] at h1 h2;subst h1 h2;exact vle_slL ⟨⟨vle_lit _ _ _,rfl,rfl,rfl⟩,trivial⟩
  | k+2=>simp at h1)
 unfold formV at hfl2 hso
 simp only [List.map_cons,List.map_nil] at hlv2 hfl2 hso hpl heq2
 simp only [vEnc,List.map_cons,List.map_nil] at hfl2 hso
 generalize [Part.enc ⟨1,[97,120],[],[],[],[]⟩]=V0 at *
 generalize [tA.enc,Part.enc ⟨3,[],[110],[],[],[]⟩]=V1 at *
 generalize V.sl [Sel.enc ⟨7,[110],[[111,110,101],[111,116,104,101,114]]⟩]=SL at *
 rw [leafV_eq ([49,47,111,110,101,47,48],[tX])] at hlv2
 generalize leafV ([48],[tA])=L0 at *
 generalize leafV ([49,47,111,116,104,101,114,47,48],[tC])=L2 at *
 generalize leafV ([49],[])=L3 at *
 generalize V.sl (List.map Part.enc [tX])=LX at *
 unfold awakeV litT at hlv2 hfl2
 unfold litT at heq2
 clear hlv hfl heq hI hwt
 refine fn_retW (vs:=[.b true]) f8ok (by simp) (by simp) fun n0 hn0=>?_
 clear hn0
 simp only [push_cast,seval,reduceEqDiff,show (([49,47,111,110,101,47,48]:Bytes) == [49,47,111,110,101,47,48])=true from rfl]
 repeat' (first|(((first|apply condU_s|apply gdU_t|apply gdU_f)<;>intro _h)<;>simp only [push_cast,seval,reduceEqDiff,_h,show (([49,47,111,110,101,47,48]:Bytes) == [49,47,111,110,101,47,48])=true from rfl])|((first|refine c_call (by exact hlv2) ?_|refine c_call (by exact hfl2) ?_|refine c_call (by exact heq2) ?_|refine c_call (by exact hso) ?_|refine c_call (by exact hpl) ?_);simp only [push_cast,seval,reduceEqDiff,show (([49,47,111,110,101,47,48]:Bytes) == [49,47,111,110,101,47,48])=true from rfl])|intro _)
 all_goals (first|(refine finW_ret ?_;simp [get]<;>(intros;omega);done)|(refine finW_rets ?_;simp [push_cast,get];done)|skip)
end Go.Ir
namespace Go.Ir
structure Bare (p:Part):Prop where
 sel:selB p.kind=false
 ten:(p.kind == 10)=false
 cs:p.cases=[]
end Go.Ir
section
namespace Go.Ir
mutual
def Part.shp:Part->Part
 | ⟨k,t,n,s,cs,ps⟩=>if selB k then ⟨k,t,n,s,shpCs cs,ps⟩ else ⟨k,t,n,s,cs,shpPs ps⟩
def shpPs:List Part->List Part
 | []=>[]
 | p::ps=>if p.solid then shpPs ps else p.shp::shpPs ps
def shpCs:List (Bytes × List Part)->List (Bytes × List Part)
 | []=>[]
 | (k,ps)::cs=>(k,shpPs ps)::shpCs cs
end
theorem Part.shp_eq (p:Part):p.shp=if selB p.kind then ⟨p.kind,p.text,p.name,p.style,shpCs p.cases,p.parts⟩ else ⟨p.kind,p.text,p.name,p.style,p.cases,shpPs p.parts⟩:=by cases p;simp only [Part.shp]
theorem shpPs_nil:shpPs []=[]:=by simp only [shpPs]
theorem shpPs_cons (p:Part) (ps:List Part):shpPs (p::ps)=if p.solid then shpPs ps else p.shp::shpPs ps:=by simp only [shpPs]
theorem shpCs_nil:shpCs []=[]:=by simp only [shpCs]
theorem shpCs_cons (c:Case) (cs:List Case):shpCs (c::cs)=(c.1,shpPs c.2)::shpCs cs:=by obtain ⟨k,q⟩:=c;simp only [shpCs]
abbrev Left:=List (List Part)
mutual
def Part.bld:Part->Left->Part × Left
 | ⟨k,t,n,s,cs,ps⟩,l=>if selB k then (⟨k,t,n,s,(bldCs cs l).1,ps⟩,(bldCs cs l).2) else (⟨k,t,n,s,cs,l.headD []++(bldR ps l.tail).1⟩,(bldR ps l.tail).2)
def bldR:List Part->Left->List Part × Left
 | [],l=>([],l)
 | p::ps,l=>((p.bld l).1::((p.bld l).2.headD []++(bldR ps (p.bld l).2.tail).1),(bldR ps (p.bld l).2.tail).2)
def bldCs:List (Bytes × List Part)->Left->List (Bytes × List Part) × Left
 | [],l=>([],l)
 | (k,ps)::cs,l=>((k,l.headD []++(bldR ps l.tail).1)::(bldCs cs (bldR ps l.tail).2).1,(bldCs cs (bldR ps l.tail).2).2)
end
def bldL (ps:List Part) (l:Left):List Part × Left:=(l.headD []++(bldR ps l.tail).1,(bldR ps l.tail).2)
theorem Part.bld_eq (p:Part) (l:Left):p.bld l=if selB p.kind then (⟨p.kind,p.text,p.name,p.style,(bldCs p.cases l).1,p.parts⟩,(bldCs p.cases l).2) else (⟨p.kind,p.text,p.name,p.style,p.cases,(bldL p.parts l).1⟩,(bldL p.parts l).2):=by cases p;simp only [Part.bld,bldL]
theorem bldR_nil (l:Left):bldR [] l=([],l):=by simp only [bldR]
theorem bldR_cons (p:Part) (ps:List Part) (l:Left):bldR (p::ps) l=((p.bld l).1::(bldL ps (p.bld l).2).1,(bldL ps (p.bld l).2).2):=by simp only [bldR,bldL]
theorem bldCs_nil (l:Left):bldCs [] l=([],l):=by simp only [bldCs]
theorem bldCs_cons (c:Case) (cs:List Case) (l:Left):bldCs (c::cs) l=((c.1,(bldL c.2 l).1)::(bldCs cs (bldL c.2 l).2).1,(bldCs cs (bldL c.2 l).2).2):=by obtain ⟨k,q⟩:=c;simp only [bldCs,bldL]
theorem shp_kind (p:Part):p.shp.kind=p.kind/\p.shp.text=p.text/\p.shp.name=p.name/\p.shp.style=p.style:=by rw [p.shp_eq];split<;>exact ⟨rfl,rfl,rfl,rfl⟩
end Go.Ir
end
namespace Go.Ir
theorem eqPs_iff (ps:List Part):∀qs,eqPs ps qs=true↔ps=qs:=by
 refine tree_Q (P:=fun p=>∀q,p.eqB q=true↔p=q) (Q:=fun ps=>∀qs,eqPs ps qs=true↔ps=qs) (R:=fun cs=>∀ds,eqCs cs ds=true↔cs=ds) ?_ ?_ ?_ ?_ ?_ ps
 ·intro p hr hq q
  rw [p.eqB_eq]
  obtain ⟨k,t,n,s,cs,ps⟩:=p
  obtain ⟨k',t',n',s',cs',ps'⟩:=q
  simp only at hr hq⊢
  simp only [Bool.and_eq_true,beq_iff_eq,hq,hr,Part.mk.injEq]
  constructor
  ·rintro ⟨⟨⟨⟨⟨h1,h2⟩,h3⟩,h4⟩,h5⟩,h6⟩;exact ⟨h1,h2,h3,h4,h6,h5⟩
  ·rintro ⟨h1,h2,h3,h4,h6,h5⟩;exact ⟨⟨⟨⟨⟨h1,h2⟩,h3⟩,h4⟩,h5⟩,h6⟩
 ·intro qs;cases qs<;>simp [eqPs]
 ·intro p ps hp hq qs
  cases qs with
  | nil=>simp [eqPs]
  | cons q qs=>rw [eqPs_cons,Bool.and_eq_true,hp,hq];simp
 ·intro ds;cases ds<;>simp [eqCs]
 ·intro c cs hq hr ds
  cases ds with
  | nil=>obtain ⟨a,b⟩:=c;simp [eqCs]
  | cons d ds=>
   rw [eqCs_cons,Bool.and_eq_true,Bool.and_eq_true,hq,hr]
   obtain ⟨a,b⟩:=c;obtain ⟨a',b'⟩:=d
   simp
theorem solid_plain {p:Part} (h:p.all WfP) (hs:p.solid=false):p.kind=11\/selB p.kind=true:=by
 have hw:=((Part.all_eq _ _).1 h).1
 cases hk:selB p.kind with
 | true=>exact .inr rfl
 | false=>
  left
  by_cases h11:p.kind=11
  ·exact h11
  ·have:(p.kind == 11)=false:=by simpa using h11
   rw [Part.solid_eq,hk,hw.cases0 hk,hw.parts0 this] at hs
   simp [plainPs,plainCs] at hs
theorem wt_shp (ps:List Part):wtPs (shpPs ps)<=wtPs ps:=by
 refine tree_Q (P:=fun p=>p.shp.wt<=p.wt) (Q:=fun ps=>wtPs (shpPs ps)<=wtPs ps) (R:=fun cs=>wtCs (shpCs cs)<=wtCs cs) ?_ ?_ ?_ ?_ ?_ ps
 ·intro p hr hq
  rw [Part.wt_eq,(shp_kind p).2.1,(shp_kind p).2.2.1,(shp_kind p).2.2.2,p.wt_eq,p.shp_eq]
  split<;>simp only<;>omega
 ·rw [shpPs_nil];exact Nat.le_refl _
 ·intro p ps hp hq
  rw [shpPs_cons,wtPs_cons]
  split
  ·omega
  ·rw [wtPs_cons];omega
 ·rw [shpCs_nil];exact Nat.le_refl _
 ·intro c cs hq hr
  rw [shpCs_cons,wtCs_cons,wtCs_cons]
  simp only
  omega
end Go.Ir
section
namespace Go.Ir
structure WfK (p:Part):Prop where
 bare:selB p.kind=true->p.text=[]/\p.style=[]
 nodup:selB p.kind=true->(p.cases.map (·.1)).Nodup
theorem formed_wfk (ps:List Part):∀d c prev,formedPs ps d c prev=true->allPs WfK ps:=by
 refine tree_Q (P:=fun p=>∀d c,p.formedB d c=true->p.all WfK)
  (Q:=fun ps=>∀d c prev,formedPs ps d c prev=true->allPs WfK ps)
  (R:=fun cs=>∀k d c keys,formedCs cs k d c keys=true->allCs WfK cs/\(cs.map (·.1)).Nodup/\∀x∈cs.map (·.1),x ∉ keys) ?_ ?_ ?_ ?_ ?_ ps
 ·intro p hr hq d c h
  rw [p.formedB_eq] at h
  rw [p.all_eq]
  cases h11:p.kind == 11 with
  | true=>
   have hs:selB p.kind=false:=by
    have:p.kind=11:=by simpa using h11
    rw [this];rfl
   rw [h11,if_pos rfl,Bool.and_eq_true] at h
   obtain ⟨h1,h2⟩:=h
   unfold elHead at h1
   simp at h1
   have hc:p.cases=[]:=by simpa using h1.2
   refine ⟨⟨fun hh=>(by rw [hs] at hh;cases hh),fun hh=>(by rw [hs] at hh;cases hh)⟩,?_,hq _ _ _ h2⟩
   rw [hc];simp only [allCs]
  | false=>
   rw [h11,if_neg (by simp)] at h
   cases hs:selB p.kind with
   | true=>
    rw [hs,if_pos rfl,Bool.and_eq_true] at h
    obtain ⟨h1,h2⟩:=h
    unfold selHead at h1
    simp at h1
    have hp:p.parts=[]:=by simpa using h1.1.1.2
    obtain ⟨a1,a2,_⟩:=hr _ _ _ _ h2
    refine ⟨⟨fun _=>⟨h1.1.1.1.1.2,h1.1.1.1.2⟩,fun _=>a2⟩,a1,?_⟩
    rw [hp];simp only [allPs]
   | false=>
    rw [hs,if_neg (by simp)] at h
    obtain ⟨f1,f2,f3⟩:=fields_cases (plain_fields h11 hs h)
    refine ⟨⟨fun hh=>(by rw [hs] at hh;cases hh),fun hh=>(by rw [hs] at hh;cases hh)⟩,?_,?_⟩
    ·rw [f1 hs];simp only [allCs]
    ·rw [f2 h11];simp only [allPs]
 ·intro d c prev _;simp only [allPs]
 ·intro p ps hp hq d c prev h
  rw [formedPs_cons,Bool.and_eq_true,Bool.and_eq_true] at h
  rw [allPs_cons]
  exact ⟨hp _ _ h.2.1,hq _ _ _ h.2.2⟩
 ·intro k d c keys h
  exact ⟨by simp only [allCs],List.nodup_nil,fun x hx=>(by cases hx)⟩
 ·intro x cs hq hr k d c keys h
  rw [formedCs_cons,Bool.and_eq_true,Bool.and_eq_true] at h
  obtain ⟨h0,h1,h2⟩:=h
  obtain ⟨a1,a2,a3⟩:=hr _ _ _ _ h2
  have hk:keys.contains x.1=false:=by
   cases hh:keys.contains x.1 with
   | false=>rfl
   | true=>rw [hh] at h0;simp at h0
  have hk2:x.1 ∉ keys:=by
   intro hm
   rw [List.contains_iff_mem.2 hm] at hk;cases hk
  rw [allCs_cons]
  refine ⟨⟨hq _ _ _ h1,a1⟩,?_,fun y hy=>?_⟩
  ·rw [List.map_cons,List.nodup_cons]
   refine ⟨fun hm=>a3 _ hm (by simp),a2⟩
  ·rw [List.map_cons] at hy
   rcases List.mem_cons.1 hy with rfl|hy
   ·exact hk2
   ·intro hm;exact a3 _ hy (by simp [hm])
theorem valid_wfk {ps:List Part} (h:validB ps=true):allPs WfK ps:=by
 unfold validB at h
 rw [Bool.and_eq_true,Bool.and_eq_true] at h
 exact formed_wfk ps _ _ _ h.1.1
theorem allB_mem {f:Int->Bool} {s:Bytes} (h:allB f s=true):∀c∈s,f c.toNat=true:=by
 induction s with
 | nil=>intro c hc;cases hc
 | cons x s ih=>
  rw [allB,Bool.and_eq_true] at h
  intro c hc
  rcases List.mem_cons.1 hc with rfl|hc
  ·exact h.1
  ·exact ih h.2 c hc
theorem nameB_ns {s:Bytes} (h:nameB s=true):(47:UInt8) ∉ s:=by
 cases s with
 | nil=>intro hm;cases hm
 | cons c r=>
  unfold nameB at h
  rw [Bool.and_eq_true] at h
  intro hm
  have:=allB_mem h.2 _ hm
  revert this;decide
theorem digits_ns {s:Bytes} (h:digitsB s=true):(47:UInt8) ∉ s:=by
 intro hm
 have:=List.all_eq_true.1 h _ hm
 revert this;decide
theorem numB_ns {s:Bytes} (h:numB s=true):(47:UInt8) ∉ s:=by
 unfold numB at h
 simp only [Bool.and_eq_true,Bool.not_eq_true',Bool.or_eq_false_iff,Bool.not_eq_false'] at h
 obtain ⟨⟨h1,h2⟩,_⟩:=h
 have hw:=digits_ns h1.1.2
 have hf:=digits_ns h2.2
 have hr:(47:UInt8) ∉ nRest s:=by
  rw [nRest_eq]
  intro hm
  rcases List.mem_append.1 hm with hm|hm
  ·exact hw hm
  ·unfold nFrac at hf
   cases hn:nRem s with
   | nil=>rw [hn] at hm;cases hm
   | cons c r=>
    rw [hn] at hm hf
    have hc:(c != 46)=false:=dropWhile_head (l:=nRest s) (t:=r) (p:=(· != 46)) hn
    have hc:c=46:=by simpa using hc
    rcases List.mem_cons.1 hm with hm|hm
    ·rw [hc] at hm;revert hm;decide
    ·exact hf hm
 unfold nRest at hr
 split at hr
 ·rename_i hneg
  cases s with
  | nil=>intro hm;cases hm
  | cons c r=>
   have hc:c=45:=by
    unfold nNeg at hneg
    split at hneg
    ·rename_i h;injection h
    ·cases hneg
   intro hm
   rcases List.mem_cons.1 hm with hm|hm
   ·rw [hc] at hm;revert hm;decide
   ·exact hr hm
 ·exact hr
theorem keyB_ns {k:Int} {s:Bytes} (h:keyB k s=true):(47:UInt8) ∉ s:=by
 unfold keyB at h
 split at h
 ·exact nameB_ns h
 ·rw [Bool.or_eq_true] at h
  rcases h with h|h
  ·unfold classB at h
   simp only [Bool.or_eq_true,beq_iff_eq] at h
   rcases h with ((((h|h)|h)|h)|h)|h<;>(subst h;decide)
  ·cases s with
   | nil=>intro hm;cases hm
   | cons c t=>
    rw [keyN,Bool.and_eq_true] at h
    have h1:(c.toNat:Int)=61:=by simpa using h.1
    intro hm
    rcases List.mem_cons.1 hm with hm|hm
    ·rw [<-hm] at h1;revert h1;decide
    ·exact numB_ns h.2 hm
theorem decN_eq (n:Nat):decN n=if n<10 then [UInt8.ofNat (48+n)] else decN (n / 10)++[UInt8.ofNat (48+n % 10)]:=by
 unfold decN
 rw [Lib.decDigits]
 split<;>rfl
theorem ofNat_toNat {n:Nat} (h:n<256):(UInt8.ofNat n).toNat=n:=by
 rw [UInt8.toNat_ofNat'];exact Nat.mod_eq_of_lt h
theorem decN_ns (n:Nat):(47:UInt8) ∉ decN n:=by
 induction n using Nat.strongRecOn with
 | ind n ih=>
  rw [decN_eq]
  have hd:∀m,m<10->(47:UInt8)≠UInt8.ofNat (48+m):=by
   intro m hm he
   have:=congrArg UInt8.toNat he
   rw [ofNat_toNat (by omega)] at this
   have h47:(47:UInt8).toNat=47:=rfl
   omega
  split
  ·rename_i h
   intro hm
   exact hd n h (List.mem_singleton.1 hm)
  ·rename_i h
   intro hm
   rcases List.mem_append.1 hm with hm|hm
   ·exact ih _ (by omega) hm
   ·exact hd _ (Nat.mod_lt _ (by decide)) (List.mem_singleton.1 hm)
theorem valN_snoc (s:Bytes) (c:UInt8) (d:Nat):valN d (s++[c])=10*valN d s+(c.toNat-48):=by
 unfold valN
 rw [List.foldl_append];rfl
theorem decN_val (n:Nat):valN 0 (decN n)=n:=by
 induction n using Nat.strongRecOn with
 | ind n ih=>
  rw [decN_eq]
  split
  ·rw [valN_cons,valN_nil,ofNat_toNat (by omega)];omega
  ·rw [valN_snoc,ih _ (by omega),ofNat_toNat (by omega)];omega
theorem decN_inj {a b:Nat} (h:decN a=decN b):a=b:=by rw [<-decN_val a,h,decN_val]
theorem cut47 {a c:Bytes} (ha:(47:UInt8) ∉ a) (hc:(47:UInt8) ∉ c) {b d:Bytes} (h:a++47::b=c++47::d):a=c:=by
 induction a generalizing c with
 | nil=>
  cases c with
  | nil=>rfl
  | cons x c=>injection h with h1 h2;exact absurd (by rw [h1];simp) hc
 | cons y a ih=>
  cases c with
  | nil=>injection h with h1 h2;exact absurd (by rw [h1];simp) ha
  | cons x c=>
   injection h with h1 h2
   rw [h1,ih (fun hm=>ha (by simp [hm])) (fun hm=>hc (by simp [hm])) h2]
theorem not47 {a c:Bytes} (ha:(47:UInt8) ∉ a) {d:Bytes}:a≠c++47::d:=fun h=>ha (by rw [h];simp)
def Tail (m n:Nat) (t:Bytes):Prop:=(t=[]/\n<=m)\/(∃r,t=47::r)/\n+1<=m
theorem paths_nodup (ps:List Part):allPs WfP ps->allPs WfK ps->∀pa n run,((lvsPs ps pa n run).map Prod.fst).Nodup/\∀x∈(lvsPs ps pa n run).map Prod.fst,∃m t,x=pa++(decN m++t)/\Tail m n t:=by
 refine tree_Q (P:=fun p=>p.all WfP->p.all WfK->∀pa,((p.lvs pa).map Prod.fst).Nodup/\∀x∈(p.lvs pa).map Prod.fst,∃t,x=pa++t)
  (Q:=fun ps=>allPs WfP ps->allPs WfK ps->∀pa n run,((lvsPs ps pa n run).map Prod.fst).Nodup/\∀x∈(lvsPs ps pa n run).map Prod.fst,∃m t,x=pa++(decN m++t)/\Tail m n t)
  (R:=fun cs=>allCs WfP cs->allCs WfK cs->(∀c∈cs,(47:UInt8) ∉ c.1)->(cs.map (·.1)).Nodup->∀pa,((lvsCs cs pa).map Prod.fst).Nodup/\∀x∈(lvsCs cs pa).map Prod.fst,∃k t,x=pa++(k++47::t)/\k∈cs.map (·.1)) ?_ ?_ ?_ ?_ ?_ ps
 ·intro p hr hq h1 h2 pa
  obtain ⟨w,hc,hp⟩:=(Part.all_eq _ _).1 h1
  obtain ⟨w',hc',hp'⟩:=(Part.all_eq _ _).1 h2
  rw [p.lvs_eq]
  cases hs:selB p.kind with
  | true=>
   simp only [if_true]
   obtain ⟨a1,a2⟩:=hr hc hc' (fun c hc=>keyB_ns (w.keys hs c hc)) (w'.nodup hs) pa
   exact ⟨a1,fun x hx=>by obtain ⟨k,t,h,_⟩:=a2 x hx;exact ⟨_,h⟩⟩
  | false=>
   simp only [Bool.false_eq_true,if_false]
   obtain ⟨a1,a2⟩:=hq hp hp' pa 0 []
   exact ⟨a1,fun x hx=>by obtain ⟨k,t,h,_⟩:=a2 x hx;exact ⟨_,h⟩⟩
 ·intro _ _ pa n run
  rw [lvsPs_nil]
  refine ⟨by simp,fun x hx=>?_⟩
  simp only [List.map_cons,List.map_nil,List.mem_singleton] at hx
  exact ⟨n,[],by rw [hx,List.append_nil],.inl ⟨rfl,Nat.le_refl _⟩⟩
 ·intro p ps hp hq h1 h2 pa n run
  rw [allPs_cons] at h1 h2
  rw [lvsPs_cons]
  split
  ·exact hq h1.2 h2.2 _ _ _
  ·obtain ⟨a1,a2⟩:=hp h1.1 h2.1 (pa++decN (n+1)++[47])
   obtain ⟨b1,b2⟩:=hq h1.2 h2.2 pa (n+1) []
   rw [List.map_cons,List.map_append]
   refine ⟨?_,fun x hx=>?_⟩
   ·rw [List.nodup_cons]
    refine ⟨fun hm=>?_,?_⟩
    ·rcases List.mem_append.1 hm with hm|hm
     ·obtain ⟨t,ht⟩:=a2 _ hm
      rw [List.append_assoc,List.append_assoc] at ht
      have ht:=List.append_cancel_left ht
      exact not47 (decN_ns n) (by simpa using ht)
     ·obtain ⟨m,t,ht,hT⟩:=b2 _ hm
      have ht:=List.append_cancel_left ht
      rcases hT with ⟨rfl,hT⟩|⟨⟨r,rfl⟩,hT⟩
      ·rw [List.append_nil] at ht
       have:=decN_inj ht;omega
      ·exact not47 (decN_ns n) ht
    ·rw [List.nodup_append]
     refine ⟨a1,b1,fun x hx y hy he=>?_⟩
     subst he
     obtain ⟨t,ht⟩:=a2 _ hx
     obtain ⟨m,t',ht',hT⟩:=b2 _ hy
     rw [ht,List.append_assoc,List.append_assoc] at ht'
     have ht':=List.append_cancel_left ht'
     rcases hT with ⟨rfl,hT⟩|⟨⟨r,rfl⟩,hT⟩
     ·rw [List.append_nil] at ht'
      exact not47 (decN_ns m) (by simpa using ht'.symm)
     ·have:=decN_inj (cut47 (decN_ns _) (decN_ns _) (by simpa using ht'));omega
   ·rcases List.mem_cons.1 hx with hx|hx
    ·exact ⟨n,[],by rw [hx,List.append_nil],.inl ⟨rfl,Nat.le_refl _⟩⟩
    ·rcases List.mem_append.1 hx with hx|hx
     ·obtain ⟨t,ht⟩:=a2 _ hx
      exact ⟨n+1,47::t,by rw [ht];simp,.inr ⟨⟨t,rfl⟩,Nat.le_refl _⟩⟩
     ·obtain ⟨m,t,ht,hT⟩:=b2 _ hx
      refine ⟨m,t,ht,?_⟩
      rcases hT with ⟨h,hT⟩|⟨h,hT⟩
      ·exact .inl ⟨h,by omega⟩
      ·exact .inr ⟨h,by omega⟩
 ·intro _ _ _ _ pa
  simp [lvsCs]
 ·intro c cs hq hr h1 h2 h3 h4 pa
  rw [allCs_cons] at h1 h2
  rw [List.map_cons,List.nodup_cons] at h4
  obtain ⟨a1,a2⟩:=hq h1.1 h2.1 (pa++c.1++[47]) 0 []
  obtain ⟨b1,b2⟩:=hr h1.2 h2.2 (fun x hx=>h3 x (by simp [hx])) h4.2 pa
  have hc:=h3 c (by simp)
  have ha:∀x∈(lvsPs c.2 (pa++c.1++[47]) 0 []).map Prod.fst,∃t,x=pa++(c.1++47::t):=fun x hx=>by
   obtain ⟨m,t,ht,_⟩:=a2 x hx
   exact ⟨decN m++t,by rw [ht];simp⟩
  rw [lvsCs_cons,List.map_append]
  refine ⟨?_,fun x hx=>?_⟩
  ·rw [List.nodup_append]
   refine ⟨a1,b1,fun x hx y hy he=>?_⟩
   subst he
   obtain ⟨t,ht⟩:=ha _ hx
   obtain ⟨k,t',ht',hk⟩:=b2 _ hy
   rw [ht] at ht'
   have ht':=List.append_cancel_left ht'
   obtain ⟨y,hy,rfl⟩:=List.mem_map.1 hk
   have:=cut47 hc (h3 y (by simp [hy])) ht'
   rw [this] at h4
   exact h4.1 hk
  ·rcases List.mem_append.1 hx with hx|hx
   ·obtain ⟨t,ht⟩:=ha _ hx
    exact ⟨c.1,t,ht,by simp⟩
   ·obtain ⟨k,t,ht,hk⟩:=b2 _ hx
    exact ⟨k,t,ht,by simp [hk]⟩
mutual
def Part.rshp:Part->Part
 | ⟨k,_,n,_,cs,ps⟩=>⟨k,[],n,[],rshpCs cs,rshpPs ps⟩
def rshpPs:List Part->List Part
 | []=>[]
 | p::ps=>if p.solid then rshpPs ps else p.rshp::rshpPs ps
def rshpCs:List (Bytes × List Part)->List (Bytes × List Part)
 | []=>[]
 | (k,ps)::cs=>(k,rshpPs ps)::rshpCs cs
end
theorem Part.rshp_eq (p:Part):p.rshp=⟨p.kind,[],p.name,[],rshpCs p.cases,rshpPs p.parts⟩:=by cases p;simp only [Part.rshp]
theorem rshpPs_nil:rshpPs []=[]:=by simp only [rshpPs]
theorem rshpPs_cons (p:Part) (ps:List Part):rshpPs (p::ps)=if p.solid then rshpPs ps else p.rshp::rshpPs ps:=by simp only [rshpPs]
theorem rshpCs_nil:rshpCs []=[]:=by simp only [rshpCs]
theorem rshpCs_cons (c:Case) (cs:List Case):rshpCs (c::cs)=(c.1,rshpPs c.2)::rshpCs cs:=by obtain ⟨k,q⟩:=c;simp only [rshpCs]
theorem ns_kind {p:Part} (h:p.all WfP) (h':p.all WfK) (hs:p.solid=false):p.text=[]/\p.style=[]/\((selB p.kind=true/\p.parts=[])\/(selB p.kind=false/\(p.kind == 11)=true/\p.cases=[])):=by
 have hw:=((Part.all_eq _ _).1 h).1
 have hk:=((Part.all_eq _ _).1 h').1
 rcases solid_plain h hs with h11|hsel
 ·have e1:(p.kind == 11)=true:=by simpa using h11
  have e2:selB p.kind=false:=by rw [h11];rfl
  exact ⟨(hw.elem e1).1,(hw.elem e1).2,.inr ⟨e2,e1,hw.cases0 e2⟩⟩
 ·have e1:(p.kind == 11)=false:=by
   rcases (selB_iff _).1 hsel with h|h|h<;>rw [h]<;>rfl
  exact ⟨(hk.bare hsel).1,(hk.bare hsel).2,.inl ⟨hsel,hw.parts0 e1⟩⟩
theorem shp_same (ps:List Part):allPs WfP ps->allPs WfK ps->rshpPs ps=shpPs ps:=by
 refine tree_Q (P:=fun p=>p.all WfP->p.all WfK->p.solid=false->p.rshp=p.shp) (Q:=fun ps=>allPs WfP ps->allPs WfK ps->rshpPs ps=shpPs ps)
  (R:=fun cs=>allCs WfP cs->allCs WfK cs->rshpCs cs=shpCs cs) ?_ ?_ ?_ ?_ ?_ ps
 ·intro p hr hq h h' hs
  obtain ⟨_,hc,hp⟩:=(Part.all_eq _ _).1 h
  obtain ⟨_,hc',hp'⟩:=(Part.all_eq _ _).1 h'
  obtain ⟨t1,t2,t3⟩:=ns_kind h h' hs
  rw [p.rshp_eq,p.shp_eq,t1,t2]
  rcases t3 with ⟨e,e2⟩|⟨e,_,e2⟩
  ·rw [if_pos e,e2,rshpPs_nil,hr hc hc']
  ·rw [if_neg (by rw [e];simp),e2,rshpCs_nil,hq hp hp']
 ·intro _ _;rw [rshpPs_nil,shpPs_nil]
 ·intro p ps hp hq h h'
  rw [allPs_cons] at h h'
  rw [rshpPs_cons,shpPs_cons,hq h.2 h'.2]
  cases hs:p.solid with
  | true=>rfl
  | false=>simp only [Bool.false_eq_true,if_false];rw [hp h.1 h'.1 hs]
 ·intro _ _;rw [rshpCs_nil,shpCs_nil]
 ·intro c cs hq hr h h'
  rw [allCs_cons] at h h'
  rw [rshpCs_cons,shpCs_cons,hq h.1 h'.1,hr h.2 h'.2]
mutual
def Part.rlvs:Part->Bytes->List Leaf
 | ⟨k,_,_,_,cs,ps⟩,pa=>(if k == 11 then rlvsPs ps pa 0 [] else [])++rlvsCs cs pa
def rlvsPs:List Part->Bytes->Nat->List Part->List Leaf
 | [],pa,n,run=>[(pa++decN n,run)]
 | p::ps,pa,n,run=>if p.solid then rlvsPs ps pa n (run++[p]) else (pa++decN n,run)::(p.rlvs (pa++decN (n+1)++[47])++rlvsPs ps pa (n+1) [])
def rlvsCs:List (Bytes × List Part)->Bytes->List Leaf
 | [],_=>[]
 | (key,ps)::cs,pa=>rlvsPs ps (pa++key++[47]) 0 []++rlvsCs cs pa
end
theorem Part.rlvs_eq (p:Part) (pa:Bytes):p.rlvs pa=(if p.kind == 11 then rlvsPs p.parts pa 0 [] else [])++rlvsCs p.cases pa:=by cases p;simp only [Part.rlvs]
theorem rlvsPs_nil (pa:Bytes) (n:Nat) (run:List Part):rlvsPs [] pa n run=[(pa++decN n,run)]:=by simp only [rlvsPs]
theorem rlvsPs_cons (p:Part) (ps:List Part) (pa:Bytes) (n:Nat) (run:List Part):rlvsPs (p::ps) pa n run=if p.solid then rlvsPs ps pa n (run++[p]) else (pa++decN n,run)::(p.rlvs (pa++decN (n+1)++[47])++rlvsPs ps pa (n+1) []):=by simp only [rlvsPs]
theorem rlvsCs_nil (pa:Bytes):rlvsCs [] pa=[]:=by simp only [rlvsCs]
theorem rlvsCs_cons (c:Case) (cs:List Case) (pa:Bytes):rlvsCs (c::cs) pa=rlvsPs c.2 (pa++c.1++[47]) 0 []++rlvsCs cs pa:=by obtain ⟨k,q⟩:=c;simp only [rlvsCs]
theorem lvs_same (ps:List Part):allPs WfP ps->allPs WfK ps->∀pa n run,rlvsPs ps pa n run=lvsPs ps pa n run:=by
 refine tree_Q (P:=fun p=>p.all WfP->p.all WfK->p.solid=false->∀pa,p.rlvs pa=p.lvs pa) (Q:=fun ps=>allPs WfP ps->allPs WfK ps->∀pa n run,rlvsPs ps pa n run=lvsPs ps pa n run)
  (R:=fun cs=>allCs WfP cs->allCs WfK cs->∀pa,rlvsCs cs pa=lvsCs cs pa) ?_ ?_ ?_ ?_ ?_ ps
 ·intro p hr hq h h' hs pa
  obtain ⟨_,hc,hp⟩:=(Part.all_eq _ _).1 h
  obtain ⟨_,hc',hp'⟩:=(Part.all_eq _ _).1 h'
  obtain ⟨_,_,t3⟩:=ns_kind h h' hs
  rw [p.rlvs_eq,p.lvs_eq]
  rcases t3 with ⟨e,e2⟩|⟨e,e1,e2⟩
  ·have e1:(p.kind == 11)=false:=by
    rcases (selB_iff _).1 e with h|h|h<;>rw [h]<;>rfl
   rw [if_pos e,e1,hr hc hc'];simp
  ·rw [if_neg (c:=selB p.kind=true) (by rw [e];simp),if_pos e1,e2,rlvsCs_nil,hq hp hp',List.append_nil]
 ·intro _ _ pa n run;rw [rlvsPs_nil,lvsPs_nil]
 ·intro p ps hp hq h h' pa n run
  rw [allPs_cons] at h h'
  rw [rlvsPs_cons,lvsPs_cons,hq h.2 h'.2,hq h.2 h'.2]
  cases hs:p.solid with
  | true=>rfl
  | false=>simp only [Bool.false_eq_true,if_false];rw [hp h.1 h'.1 hs]
 ·intro _ _ pa;rw [rlvsCs_nil];simp only [lvsCs]
 ·intro c cs hq hr h h' pa
  rw [allCs_cons] at h h'
  rw [rlvsCs_cons,lvsCs_cons,hq h.1 h'.1,hr h.2 h'.2]
mutual
def Part.fil (A:Bytes->List Part):Part->Bytes->Part
 | ⟨k,_,n,_,cs,ps⟩,here=>⟨k,[],n,[],filCs A cs here,if k == 11 then A (here++[47]++decN 0)++filR A ps (here++[47]) 0 else []⟩
def filR (A:Bytes->List Part):List Part->Bytes->Nat->List Part
 | [],_,_=>[]
 | p::ps,pa,n=>p.fil A (pa++decN (n+1))::(A (pa++decN (n+1))++filR A ps pa (n+1))
def filCs (A:Bytes->List Part):List (Bytes × List Part)->Bytes->List (Bytes × List Part)
 | [],_=>[]
 | (k,ps)::cs,here=>(k,A (here++[47]++k++[47]++decN 0)++filR A ps (here++[47]++k++[47]) 0)::filCs A cs here
end
def filL (A:Bytes->List Part) (ps:List Part) (pa:Bytes):List Part:=A (pa++decN 0)++filR A ps pa 0
theorem Part.fil_eq (A:Bytes->List Part) (p:Part) (here:Bytes):p.fil A here=⟨p.kind,[],p.name,[],filCs A p.cases here,if p.kind == 11 then filL A p.parts (here++[47]) else []⟩:=by cases p;simp only [Part.fil,filL]
theorem filR_nil (A:Bytes->List Part) (pa:Bytes) (n:Nat):filR A [] pa n=[]:=by simp only [filR]
theorem filR_cons (A:Bytes->List Part) (p:Part) (ps:List Part) (pa:Bytes) (n:Nat):filR A (p::ps) pa n=p.fil A (pa++decN (n+1))::(A (pa++decN (n+1))++filR A ps pa (n+1)):=by simp only [filR]
theorem filCs_nil (A:Bytes->List Part) (pa:Bytes):filCs A [] pa=[]:=by simp only [filCs]
theorem filCs_cons (A:Bytes->List Part) (c:Case) (cs:List Case) (here:Bytes):filCs A (c::cs) here=(c.1,filL A c.2 (here++[47]++c.1++[47]))::filCs A cs here:=by obtain ⟨k,q⟩:=c;simp only [filCs,filL]
theorem shp_len (ps:List Part):(shpPs ps).length<=ps.length:=by
 induction ps with
 | nil=>rw [shpPs_nil];exact Nat.le_refl _
 | cons p ps ih=>rw [shpPs_cons];split<;>simp only [List.length_cons]<;>omega
theorem shp_fix {p:Part} {ps:List Part} (h:shpPs (p::ps)=p::ps):p.solid=false/\p.shp=p/\shpPs ps=ps:=by
 rw [shpPs_cons] at h
 cases hs:p.solid with
 | true=>
  rw [hs,if_pos rfl] at h
  have:=shp_len ps
  rw [h,List.length_cons] at this;omega
 | false=>
  rw [hs,if_neg (by simp)] at h
  injection h with h1 h2
  exact ⟨rfl,h1,h2⟩
theorem fil_bld (A:Bytes->List Part) (ps:List Part):allPs WfP ps->allPs WfK ps->shpPs ps=ps->∀pa n (block:List Leaf) rest,block.map Prod.fst=(lvsPs ps pa n []).map Prod.fst->(∀x∈block,A x.1=x.2)->
  bldL ps (block.map Prod.snd++rest)=(A (pa++decN n)++filR A ps pa n,rest):=by
 refine tree_Q (P:=fun p=>p.all WfP->p.all WfK->p.solid=false->p.shp=p->∀here (block:List Leaf) rest,block.map Prod.fst=(p.lvs (here++[47])).map Prod.fst->(∀x∈block,A x.1=x.2)->p.bld (block.map Prod.snd++rest)=(p.fil A here,rest))
  (Q:=fun ps=>allPs WfP ps->allPs WfK ps->shpPs ps=ps->∀pa n (block:List Leaf) rest,block.map Prod.fst=(lvsPs ps pa n []).map Prod.fst->(∀x∈block,A x.1=x.2)->bldL ps (block.map Prod.snd++rest)=(A (pa++decN n)++filR A ps pa n,rest))
  (R:=fun cs=>allCs WfP cs->allCs WfK cs->shpCs cs=cs->∀here (block:List Leaf) rest,block.map Prod.fst=(lvsCs cs (here++[47])).map Prod.fst->(∀x∈block,A x.1=x.2)->bldCs cs (block.map Prod.snd++rest)=(filCs A cs here,rest)) ?_ ?_ ?_ ?_ ?_ ps
 ·intro p hr hq h h' hs hf here block rest hb hA
  obtain ⟨_,hc,hp⟩:=(Part.all_eq _ _).1 h
  obtain ⟨_,hc',hp'⟩:=(Part.all_eq _ _).1 h'
  obtain ⟨t1,t2,t3⟩:=ns_kind h h' hs
  rw [p.bld_eq,p.fil_eq]
  rw [p.lvs_eq] at hb
  rw [p.shp_eq] at hf
  rcases t3 with ⟨e,e2⟩|⟨e,e1,e2⟩
  ·have e1:(p.kind == 11)=false:=by
    rcases (selB_iff _).1 e with h|h|h<;>rw [h]<;>rfl
   rw [if_pos e] at hb hf
   have hf2:shpCs p.cases=p.cases:=by
    have:=congrArg Part.cases hf
    exact this
   rw [if_pos e,hr hc hc' hf2 here block rest hb hA,t1,t2,e1,e2]
   rfl
  ·rw [if_neg (by rw [e];simp)] at hb hf
   have hf2:shpPs p.parts=p.parts:=by
    have:=congrArg Part.parts hf
    exact this
   rw [if_neg (by rw [e];simp),hq hp hp' hf2 (here++[47]) 0 block rest hb hA,t1,t2,if_pos e1,e2,filCs_nil]
   rfl
 ·intro _ _ _ pa n block rest hb hA
  rw [lvsPs_nil] at hb
  rcases block with _|⟨x,_|⟨y,r⟩⟩
  ·cases hb
  ·have h1:x.1=pa++decN n:=by simpa using hb
   have:=hA x (by simp)
   rw [h1] at this
   simp [bldL,bldR_nil,filR_nil,this]
  ·simp at hb
 ·intro p ps hp hq h h' hf pa n block rest hb hA
  rw [allPs_cons] at h h'
  obtain ⟨f1,f2,f3⟩:=shp_fix hf
  rw [lvsPs_cons,f1] at hb
  simp only [Bool.false_eq_true,if_false,List.map_cons,List.map_append] at hb
  rcases block with _|⟨x,block⟩
  ·cases hb
  ·rw [List.map_cons] at hb
   injection hb with h1 hb
   have hlen:=congrArg List.length hb
   rw [List.length_append,List.length_map,List.length_map] at hlen
   obtain ⟨b1,b2,rfl,hb1⟩:∃b1 b2,block=b1++b2/\b1.length=((p.lvs (pa++decN (n+1)++[47])).map Prod.fst).length:=
    ⟨block.take (p.lvs (pa++decN (n+1)++[47])).length,block.drop (p.lvs (pa++decN (n+1)++[47])).length,(List.take_append_drop _ _).symm,by rw [List.length_take,List.length_map];omega⟩
   rw [List.map_append] at hb
   obtain ⟨g1,g2⟩:=List.append_inj hb (by rw [List.length_map,hb1])
   have hx:=hA x (by simp)
   rw [h1] at hx
   have e1:=hp h.1 h'.1 f1 f2 (pa++decN (n+1)) b1 (b2.map Prod.snd++rest) g1 (fun y hy=>hA y (by simp [hy]))
   have e2:=hq h.2 h'.2 f3 pa (n+1) b2 rest g2 (fun y hy=>hA y (by simp [hy]))
   rw [filR_cons,hx]
   unfold bldL
   simp only [List.map_cons,List.map_append,List.cons_append,List.headD_cons,List.tail_cons,List.append_assoc]
   rw [bldR_cons,e1,e2]
 ·intro _ _ _ here block rest hb hA
  simp only [lvsCs,List.map_nil,List.map_eq_nil_iff] at hb
  subst hb
  rw [bldCs_nil,filCs_nil];rfl
 ·intro c cs hq hr h h' hf here block rest hb hA
  rw [allCs_cons] at h h'
  rw [shpCs_cons] at hf
  injection hf with hf1 hf2
  have hf1:shpPs c.2=c.2:=congrArg Prod.snd hf1
  rw [lvsCs_cons,List.map_append] at hb
  have hlen:=congrArg List.length hb
  rw [List.length_append,List.length_map,List.length_map] at hlen
  obtain ⟨b1,b2,rfl,hb1⟩:∃b1 b2,block=b1++b2/\b1.length=((lvsPs c.2 (here++[47]++c.1++[47]) 0 []).map Prod.fst).length:=
   ⟨block.take (lvsPs c.2 (here++[47]++c.1++[47]) 0 []).length,block.drop (lvsPs c.2 (here++[47]++c.1++[47]) 0 []).length,(List.take_append_drop _ _).symm,by rw [List.length_take,List.length_map];omega⟩
  rw [List.map_append] at hb
  obtain ⟨g1,g2⟩:=List.append_inj hb (by rw [List.length_map,hb1])
  rw [bldCs_cons,filCs_cons,List.map_append,List.append_assoc,hq h.1 h'.1 hf1 _ _ b1 (b2.map Prod.snd++rest) g1 (fun y hy=>hA y (by simp [hy]))]
  rw [hr h.2 h'.2 hf2 here b2 rest g2 (fun y hy=>hA y (by simp [hy]))]
  rfl
def atP:List Leaf->Bytes->List Part
 | [],_=>[]
 | x::l,pa=>if x.1 == pa then x.2 else atP l pa
theorem atP_mem {l:List Leaf} (h:(l.map Prod.fst).Nodup):∀x∈l,atP l x.1=x.2:=by
 induction l with
 | nil=>intro x hx;cases hx
 | cons y l ih=>
  intro x hx
  rw [List.map_cons,List.nodup_cons] at h
  rw [atP]
  rcases List.mem_cons.1 hx with rfl|hx
  ·simp
  ·have:(y.1 == x.1)=false:=by
    rw [beq_eq_false_iff_ne]
    intro he
    exact h.1 (by rw [he];exact List.mem_map_of_mem hx)
   rw [this,if_neg (by simp)]
   exact ih h.2 x hx
theorem fil_same {ps:List Part} (hv:validB ps=true) (hf:shpPs ps=ps) (l:List Leaf) (hl:l.map Prod.fst=(lvsPs ps [] 0 []).map Prod.fst):filL (atP l) ps []=(bldL ps (l.map Prod.snd)).1:=by
 have hn:(l.map Prod.fst).Nodup:=by rw [hl];exact (paths_nodup ps (valid_wf hv) (valid_wfk hv) [] 0 []).1
 have:=fil_bld (atP l) ps (valid_wf hv) (valid_wfk hv) hf [] 0 l [] hl (atP_mem hn)
 rw [List.append_nil] at this
 rw [this]
 rfl
end Go.Ir
end
section
namespace Go.Ir
mutual
def Part.cnt:Part->Nat
 | ⟨k,_,_,_,cs,ps⟩=>if selB k then cntCs cs else 1+cntR ps
def cntR:List Part->Nat
 | []=>0
 | p::ps=>p.cnt+(1+cntR ps)
def cntCs:List (Bytes × List Part)->Nat
 | []=>0
 | (_,ps)::cs=>1+cntR ps+cntCs cs
end
def cntL (ps:List Part):Nat:=1+cntR ps
theorem Part.cnt_eq (p:Part):p.cnt=if selB p.kind then cntCs p.cases else cntL p.parts:=by cases p;simp only [Part.cnt,cntL]
theorem cntR_nil:cntR []=0:=by simp only [cntR]
theorem cntR_cons (p:Part) (ps:List Part):cntR (p::ps)=p.cnt+cntL ps:=by simp only [cntR,cntL]
theorem cntCs_nil:cntCs []=0:=by simp only [cntCs]
theorem cntCs_cons (c:Case) (cs:List Case):cntCs (c::cs)=cntL c.2+cntCs cs:=by obtain ⟨k,q⟩:=c;simp only [cntCs,cntL]
theorem bld_rest (ps:List Part):∀l,(bldL ps l).2=l.drop (cntL ps):=by
 refine tree_Q (P:=fun p=>∀l,(p.bld l).2=l.drop p.cnt) (Q:=fun ps=>∀l,(bldL ps l).2=l.drop (cntL ps)) (R:=fun cs=>∀l,(bldCs cs l).2=l.drop (cntCs cs)) ?_ ?_ ?_ ?_ ?_ ps
 ·intro p hr hq l
  rw [p.bld_eq,p.cnt_eq]
  split
  ·exact hr l
  ·exact hq l
 ·intro l;simp [bldL,bldR_nil,cntL,cntR_nil]
 ·intro p ps hp hq l
  unfold bldL
  rw [bldR_cons]
  simp only
  rw [hq,hp,List.drop_drop]
  unfold cntL
  rw [cntR_cons,<-List.drop_one,List.drop_drop]
  rfl
 ·intro l;rw [bldCs_nil,cntCs_nil];rfl
 ·intro c cs hq hr l
  rw [bldCs_cons,cntCs_cons]
  simp only
  rw [hr,hq,List.drop_drop]
theorem bldP_rest (p:Part) (l:Left):(p.bld l).2=l.drop p.cnt:=by
 rw [p.bld_eq,p.cnt_eq]
 split
 ·simp only
  induction p.cases generalizing l with
  | nil=>rw [bldCs_nil,cntCs_nil];rfl
  | cons c cs ih=>rw [bldCs_cons,cntCs_cons];simp only;rw [ih,bld_rest,List.drop_drop]
 ·exact bld_rest _ _
theorem cnt_lvs (ps:List Part):shpPs ps=ps->∀pa n,(lvsPs ps pa n []).length=cntL ps:=by
 refine tree_Q (P:=fun p=>p.shp=p->∀pa,(p.lvs pa).length=p.cnt) (Q:=fun ps=>shpPs ps=ps->∀pa n,(lvsPs ps pa n []).length=cntL ps) (R:=fun cs=>shpCs cs=cs->∀pa,(lvsCs cs pa).length=cntCs cs) ?_ ?_ ?_ ?_ ?_ ps
 ·intro p hr hq h pa
  rw [p.lvs_eq,p.cnt_eq]
  rw [p.shp_eq] at h
  split
  ·rename_i hs
   rw [if_pos hs] at h
   exact hr (congrArg Part.cases h) _
  ·rename_i hs
   rw [if_neg hs] at h
   exact hq (congrArg Part.parts h) _ _
 ·intro _ pa n;rw [lvsPs_nil];simp [cntL,cntR_nil]
 ·intro p ps hp hq h pa n
  obtain ⟨f1,f2,f3⟩:=shp_fix h
  rw [lvsPs_cons,f1]
  simp only [Bool.false_eq_true,if_false,List.length_cons,List.length_append]
  rw [hp f2,hq f3]
  unfold cntL
  rw [cntR_cons];unfold cntL;omega
 ·intro _ pa;simp [lvsCs,cntCs_nil]
 ·intro c cs hq hr h pa
  rw [shpCs_cons] at h
  injection h with h1 h2
  rw [lvsCs_cons,cntCs_cons,List.length_append,hq (congrArg Prod.snd h1),hr h2]
def wtLf (l:Left):Nat:=(l.map wtPs).sum
theorem wtLf_cons (x:List Part) (l:Left):wtLf (x::l)=wtPs x+wtLf l:=by simp [wtLf]
theorem wtLf_hd (l:Left):wtPs (l.headD [])+wtLf l.tail=wtLf l:=by
 cases l with
 | nil=>simp [wtLf,wtPs_nil]
 | cons x l=>simp [wtLf]
theorem bld_wt (ps:List Part):∀l,wtPs (bldL ps l).1+wtLf (bldL ps l).2<=wtPs ps+wtLf l:=by
 refine tree_Q (P:=fun p=>∀l,(p.bld l).1.wt+wtLf (p.bld l).2<=p.wt+wtLf l) (Q:=fun ps=>∀l,wtPs (bldL ps l).1+wtLf (bldL ps l).2<=wtPs ps+wtLf l) (R:=fun cs=>∀l,wtCs (bldCs cs l).1+wtLf (bldCs cs l).2<=wtCs cs+wtLf l) ?_ ?_ ?_ ?_ ?_ ps
 ·intro p hr hq l
  rw [p.bld_eq]
  split
  ·have:=hr l
   rw [Part.wt_eq,p.wt_eq];simp only;omega
  ·have:=hq l
   rw [Part.wt_eq,p.wt_eq];simp only;omega
 ·intro l
  have:=wtLf_hd l
  simp only [bldL,bldR_nil,List.append_nil,wtPs_nil]
  omega
 ·intro p ps hp hq l
  have h1:=wtLf_hd l
  have h2:=hp l.tail
  have h3:=hq (p.bld l.tail).2
  unfold bldL
  rw [bldR_cons]
  simp only
  rw [wtPs_app,wtPs_cons,wtPs_cons]
  omega
 ·intro l;rw [bldCs_nil];exact Nat.le_refl _
 ·intro c cs hq hr l
  have h1:=hq l
  have h2:=hr (bldL c.2 l).2
  rw [bldCs_cons,wtCs_cons,wtCs_cons]
  simp only
  omega
theorem bldP_wt (p:Part) (l:Left):(p.bld l).1.wt+wtLf (p.bld l).2<=p.wt+wtLf l:=by
 rw [p.bld_eq]
 split
 ·rw [Part.wt_eq,p.wt_eq]
  simp only
  have:∀(cs:List Case) l,wtCs (bldCs cs l).1+wtLf (bldCs cs l).2<=wtCs cs+wtLf l:=by
   intro cs
   induction cs with
   | nil=>intro l;rw [bldCs_nil];exact Nat.le_refl _
   | cons c cs ih=>
    intro l
    have h1:=bld_wt c.2 l
    have h2:=ih (bldL c.2 l).2
    rw [bldCs_cons,wtCs_cons,wtCs_cons]
    simp only
    omega
  have:=this p.cases l
  omega
 ·have:=bld_wt p.parts l
  rw [Part.wt_eq,p.wt_eq];simp only;omega
def eqLf (a b:List Leaf):Bool:=eqBy (fun x y=>x.1 == y.1&&eqPs x.2 y.2) a b
def eqPa (a b:List Leaf):Bool:=eqBy (fun x y=>x.1 == y.1) a b
theorem eqPa_iff (a:List Leaf):∀b,eqPa a b=true↔a.map Prod.fst=b.map Prod.fst:=by
 unfold eqPa
 induction a with
 | nil=>intro b;cases b<;>simp [eqBy]
 | cons x a ih=>intro b;cases b<;>simp [eqBy,ih]
def bldOk1 (ps:List Part) (l:List Leaf):Bool:=validP ps&&(eqPs (shpPs ps) ps&&eqPa (lvsPs ps [] 0 []) l)
def bldOut (ps:List Part) (l:List Leaf):List Part:=(bldL ps (l.map Prod.snd)).1
def bldOk2 (ps:List Part) (l:List Leaf):Bool:=validP (bldOut ps l)&&(eqPs (shpPs (bldOut ps l)) ps&&eqLf (lvsPs (bldOut ps l) [] 0 []) l)
def bldB (ps:List Part) (l:List Leaf):Bool:=bldOk1 ps l&&bldOk2 ps l
def bldV (ps:List Part) (l:List Leaf):List Part:=if bldB ps l then bldOut ps l else []
def bldE (ps:List Part) (l:List Leaf):Int:=if bldB ps l then 0 else 1
end Go.Ir
end
namespace Go.Ir
open Go.Proofs
variable {P : Program} {W0 : World} {nt n : Nat} {Q : Exit → St → Prop} {env : Env} {σ : Sto}
def f113_6:IC:=.seq (.ops [m1 10 1,o1 11 (.faddr (.t 2) 5),o1 12 (.load (.t 11) 1 false),o1 13 (.callvs (.t 10) [.t 12]),o1 14 (.faddr (.t 2) 5),o0 (.store (.t 14) (.t 13) 1)] [2,4] []) (.seq (.ops [o1 15 (.load (.t 2) 6 true),o0 (.store (.t 4) (.t 15) 6)] [4] []) .ret)
def f113_25:IC:=.ops [o1 26 (.faddr (.t 2) 4),o1 27 (.load (.t 26) 1 false),m1 28 5,m1 29 1,o1 30 (.faddr (.t 2) 4),o1 31 (.load (.t 30) 1 false),m1 32 5,o1 33 (.iaddr (.t 31) (.t 32) 77 2),o1 34 (.faddr (.t 33) 1),o1 35 (.load (.t 34) 1 false),⟨some 36,.callvs (.t 29) [.t 35],none,[.t 26]⟩,o1 37 (.iaddr (.t 27) (.t 28) 77 2),o1 38 (.faddr (.t 37) 1),o0 (.store (.t 38) (.t 36) 1)] [1,2,4,22,23] [[0,1],[4,5],[5,7],[6,7],[7,8],[8,9],[3,10],[5,7,8,9,10],[7,8,9,10],[9,10],[1,11],[2,11],[10,11],[11,12],[1,13],[5,13],[7,13],[9,13],[10,13],[11,12,13],[12,13]]
def f113_21:IC:=.seq (.block 1 (.seq (.ops [m1 25 23,m1 5 25] [1,2,4,5,22,23] []) f113_25)) (.ops [o1 39 (.bin .add (.t 23) (ci 1)),m1 23 39] [1,2,4,22,23] [])
def f113_17:IC:=.seq (.ops [o1 24 (.bin .lss (.t 23) (.t 22))] [1,2,4,22,23,24] []) (.seq (.cond (.t 24) .skip (.exit 0)) f113_21)
def f113_29:IC:=.ops [o1 40 (.load (.t 2) 6 true),o0 (.store (.t 4) (.t 40) 6)] [4] []
def f113_12:IC:=.seq (.seq (.ops [o1 20 (.faddr (.t 2) 4),o1 21 (.load (.t 20) 1 false),o1 22 (.lenL (.t 21)),o1 23 (.mv (ci 0))] [1,2,4,22,23] []) (.block 0 (.loop f113_17))) (.seq (.wk f113_29) .ret)
def f113_10:IC:=.seq (.ops [o1 16 (.faddr (.t 2) 4),o1 17 (.load (.t 16) 1 false),o1 18 (.calln 145 [.t 17]),o1 19 (.faddr (.t 2) 4),o0 (.store (.t 19) (.t 18) 1)] [1,2,4] []) f113_12
def f113_2:IC:=.seq (.seq (.ops [o1 6 (.faddr (.t 2) 0),o1 7 (.load (.t 6) 1 false),o1 8 (.call 43 [.t 7]),o1 9 (.not (.t 8))] [1,2,4,9] []) (.cond (.t 9) f113_6 .skip)) f113_10
def f113_0:IC:=.seq (.ops [o1 2 (.box (.t 0)),o1 4 (.alloc (.agg [(.i .i64 0),(.s []),(.s []),(.s []),.nil,.nil]))] [1,2,4] []) f113_2
@[push_cast]def f113R:List R:=[.c 4 6 true]
@[push_cast]def f113e:=aWv f113_6.eq_1<|aWv f113_25.eq_1<|aWv f113_21.eq_1<|aWv f113_17.eq_1<|aWv f113_29.eq_1<|aWv f113_12.eq_1<|aWv f113_10.eq_1<|aWv f113_2.eq_1<|aWu f113_0.eq_1
theorem f113ok:okFn Tryz.prog 113 41 f113_0 f113R=true:=by kernel_rfl
def f68_20:IC:=.ops [m1 15 3,o1 16 (.load (.t 5) 6 true),o1 17 (.calls 113 [.t 16,(.c (.fn 68 [] []))]),o1 18 (.msl false 75 6 [.t 17]),o1 19 (.app (.t 15) (.t 18) 75 6),m1 3 19] [3,6,7,8] []
def f68_17:IC:=.seq (.ops [o1 12 (.load (.t 5) 6 true),o1 13 (.call 50 [.t 12]),o1 14 (.not (.t 13))] [3,5,6,7,8,14] []) (.cond (.t 14) f68_20 .skip)
def f68_13:IC:=.seq (.block 1 (.seq (.ops [o1 10 (.iaddr (.t 6) (.t 8) 75 6),o1 11 (.load (.t 10) 6 true),o1 5 (.alloc (.agg [(.i .i64 0),(.s []),(.s []),(.s []),.nil,.nil])),o0 (.store (.t 5) (.t 11) 6)] [3,5,6,7,8] []) f68_17)) (.ops [o1 20 (.bin .add (.t 8) (ci 1)),m1 8 20] [3,6,7,8] [])
def f68_9:IC:=.seq (.ops [o1 9 (.bin .lss (.t 8) (.t 7))] [3,6,7,8,9] []) (.seq (.cond (.t 9) .skip (.exit 0)) f68_13)
def f68_4:IC:=.seq (.seq (.ops [m1 6 0,o1 7 (.lenL (.t 6)),o1 8 (.mv (ci 0))] [3,6,7,8] []) (.block 0 (.loop f68_9))) (.seq (.ops [m1 21 3,m1 2 21] [2] []) .ret)
def f68_0:IC:=.seq (.ops [o1 2 (.mv (.c .nil))] [0] []) (.seq (.ops [o1 3 (.mv (.c .nil))] [0,3] []) f68_4)
@[push_cast]def f68R:List R:=[.t 2]
@[push_cast]def f68e:=aWv f68_20.eq_1<|aWv f68_17.eq_1<|aWv f68_13.eq_1<|aWv f68_9.eq_1<|aWv f68_4.eq_1<|aWu f68_0.eq_1
theorem f68ok:okFn Tryz.prog 68 22 f68_0 f68R=true:=by kernel_rfl
def f73_2:IC:=.seq (.ops [o1 5 (.faddr (.t 2) 0),o1 6 (.load (.t 5) 1 false),o1 7 (.faddr (.t 3) 0),o1 8 (.load (.t 7) 1 false),o1 9 (.bin .eql (.t 6) (.t 8)),m1 10 9,⟨some 11,.faddr (.t 2) 1,some (10,true),[]⟩,⟨some 12,.load (.t 11) 1 false,some (10,true),[]⟩,⟨some 13,.faddr (.t 3) 1,some (10,true),[]⟩,⟨some 14,.load (.t 13) 1 false,some (10,true),[]⟩,⟨some 15,.call 16 [.t 12,.t 14],some (10,true),[]⟩,o1 16 (.pick (.t 10) (.t 15) (.c (.b false))),m1 4 16] [4] []) .ret
def f73_0:IC:=.seq (.ops [o1 2 (.box (.t 0)),o1 3 (.box (.t 1)),o1 4 (.mv (.c (.b false)))] [2,3] []) f73_2
@[push_cast]def f73R:List R:=[.t 4]
@[push_cast]def f73e:=aWv f73_2.eq_1<|aWu f73_0.eq_1
theorem f73ok:okFn Tryz.prog 73 17 f73_0 f73R=true:=by kernel_rfl
def f71_2:IC:=.seq (.ops [o1 5 (.faddr (.t 2) 0),o1 6 (.load (.t 5) 1 false),o1 7 (.faddr (.t 3) 0),o1 8 (.load (.t 7) 1 false),o1 9 (.bin .eql (.t 6) (.t 8)),m1 4 9] [4] []) .ret
def f71_0:IC:=.seq (.ops [o1 2 (.box (.t 0)),o1 3 (.box (.t 1)),o1 4 (.mv (.c (.b false)))] [2,3] []) f71_2
@[push_cast]def f71R:List R:=[.t 4]
@[push_cast]def f71e:=aWv f71_2.eq_1<|aWu f71_0.eq_1
theorem f71ok:okFn Tryz.prog 71 10 f71_0 f71R=true:=by kernel_rfl
def f25_20:IC:=.seq (.seq (.ops [m1 31 8,o1 32 (.call 15 [.t 31]),o1 33 (.not (.t 32)),m1 34 33,⟨some 35,.mv (.t 8),some (34,false),[]⟩,⟨some 36,.call 68 [.t 35],some (34,false),[]⟩,⟨some 37,.mv (.t 0),some (34,false),[]⟩,⟨some 38,.call 16 [.t 36,.t 37],some (34,false),[]⟩,⟨some 39,.not (.t 38),some (34,false),[]⟩,o1 40 (.pick (.t 34) (.c (.b true)) (.t 39)),m1 41 40,⟨some 42,.mv (.t 8),some (41,false),[]⟩,⟨some 43,.call 69 [(.c .nil),.t 42,(.c (.s []))],some (41,false),[]⟩,⟨some 44,.mv (.t 1),some (41,false),[]⟩,⟨some 45,.calls 70 [.t 43,.t 44,(.c (.fn 73 [] []))],some (41,false),[]⟩,⟨some 46,.not (.t 45),some (41,false),[]⟩,o1 47 (.pick (.t 41) (.c (.b true)) (.t 46))] [8,47] []) (.cond (.t 47) (.seq (.ops [o1 4 (.mv (.c .nil)),o1 5 (.mv (ci 1))] [4,5] []) .ret) .skip)) (.seq (.ops [m1 48 8,m1 4 48,o1 5 (.mv (ci 0))] [4,5] []) .ret)
def f25_16:IC:=.seq (.ops [m1 25 1,o1 26 (.build [.nil] [(0,1,(.t 25))]),o1 27 (.box (.t 26)),m1 7 27] [0,1,7] []) (.seq (.ops [m1 28 7,m1 29 0,o1 30 (.calls 72 [.t 28,.t 29]),m1 8 30] [0,1,8] []) f25_20)
def f25_10:IC:=.seq (.seq (.ops [m1 21 6,m1 22 1,o1 23 (.calls 70 [.t 21,.t 22,(.c (.fn 71 [] []))]),o1 24 (.not (.t 23))] [0,1,24] []) (.cond (.t 24) (.seq (.ops [o1 4 (.mv (.c .nil)),o1 5 (.mv (ci 1))] [4,5] []) .ret) .skip)) f25_16
def f25_8:IC:=.seq (.ops [m1 19 0,o1 20 (.call 69 [(.c .nil),.t 19,(.c (.s []))]),m1 6 20] [0,1,6] []) f25_10
def f25_2:IC:=.seq (.seq (.ops [m1 9 0,o1 10 (.call 15 [.t 9]),o1 11 (.not (.t 10)),m1 12 11,⟨some 13,.mv (.t 0),some (12,false),[]⟩,⟨some 14,.call 68 [.t 13],some (12,false),[]⟩,⟨some 15,.mv (.t 0),some (12,false),[]⟩,⟨some 16,.call 16 [.t 14,.t 15],some (12,false),[]⟩,⟨some 17,.not (.t 16),some (12,false),[]⟩,o1 18 (.pick (.t 12) (.c (.b true)) (.t 17))] [0,1,18] []) (.cond (.t 18) (.seq (.ops [o1 4 (.mv (.c .nil)),o1 5 (.mv (ci 1))] [4,5] []) .ret) .skip)) f25_8
def f25_0:IC:=.seq (.ops [o1 4 (.mv (.c .nil)),o1 5 (.mv (ci 0))] [0,1] []) f25_2
@[push_cast]def f25R:List R:=[.t 4,.t 5]
@[push_cast]def f25e:=aWv f25_20.eq_1<|aWv f25_16.eq_1<|aWv f25_10.eq_1<|aWv f25_8.eq_1<|aWv f25_2.eq_1<|aWu f25_0.eq_1
theorem f25ok:okFn Tryz.prog 25 49 f25_0 f25R=true:=by kernel_rfl
def f24_21:IC:=.ops [m1 27 3,m1 28 0,m1 29 4,o1 30 (.iaddr (.t 28) (.t 29) 112 2),o1 31 (.faddr (.t 30) 1),o1 32 (.load (.t 31) 1 false),o1 33 (.call 37 [.t 32]),o1 34 (.bin .add (ci 1) (.t 33)),o1 35 (.bin .add (.t 27) (.t 34)),m1 3 35] [0,3,4] []
def f24_13:IC:=.seq (.block 1 (.seq (.seq (.ops [m1 11 0,m1 12 4,o1 13 (.iaddr (.t 11) (.t 12) 112 2),o1 14 (.faddr (.t 13) 0),o1 15 (.load (.t 14) 1 false),o1 16 (.lenS (.t 15)),o1 17 (.bin .gtr (.t 16) (ci 200)),m1 18 17,⟨some 19,.mv (.t 0),some (18,false),[]⟩,⟨some 20,.mv (.t 4),some (18,false),[]⟩,⟨some 21,.iaddr (.t 19) (.t 20) 112 2,some (18,false),[]⟩,⟨some 22,.faddr (.t 21) 1,some (18,false),[]⟩,⟨some 23,.load (.t 22) 1 false,some (18,false),[]⟩,⟨some 24,.call 10 [.t 23],some (18,false),[]⟩,⟨some 25,.not (.t 24),some (18,false),[]⟩,o1 26 (.pick (.t 18) (.c (.b true)) (.t 25))] [0,3,4,26] []) (.cond (.t 26) (.seq (.ops [o1 2 (.mv (.c (.b false)))] [2] []) .ret) .skip)) f24_21)) (.ops [m1 9 4,o1 10 (.bin .add (.t 9) (ci 1)),m1 4 10] [0,3,4] [])
def f24_9:IC:=.seq (.seq (.ops [m1 5 4,m1 6 0,o1 7 (.lenL (.t 6)),o1 8 (.bin .lss (.t 5) (.t 7))] [0,3,4,8] []) (.cond (.t 8) .skip (.exit 0))) f24_13
def f24_4:IC:=.seq (.seq (.ops [o1 4 (.mv (ci 0))] [0,3,4] []) (.block 0 (.loop f24_9))) (.seq (.ops [m1 36 3,o1 37 (.bin .leq (.t 36) (ci 300)),m1 2 37] [2] []) .ret)
def f24_0:IC:=.seq (.ops [o1 2 (.mv (.c (.b false)))] [0] []) (.seq (.ops [o1 3 (.mv (ci 0))] [0,3] []) f24_4)
@[push_cast]def f24R:List R:=[.t 2]
@[push_cast]def f24e:=aWv f24_21.eq_1<|aWv f24_13.eq_1<|aWv f24_9.eq_1<|aWv f24_4.eq_1<|aWu f24_0.eq_1
theorem f24ok:okFn Tryz.prog 24 38 f24_0 f24R=true:=by kernel_rfl
def f26_13:IC:=.seq (.block 1 (.ops [m1 11 3,m1 12 0,m1 13 4,o1 14 (.iaddr (.t 12) (.t 13) 112 2),o1 15 (.load (.t 14) 2 true),o1 16 (.msl false 68 2 [.t 15]),o1 17 (.app (.t 11) (.t 16) 68 2),m1 3 17] [0,3,4] [])) (.ops [m1 9 4,o1 10 (.bin .add (.t 9) (ci 1)),m1 4 10] [0,3,4] [])
def f26_9:IC:=.seq (.seq (.ops [m1 5 4,m1 6 0,o1 7 (.lenL (.t 6)),o1 8 (.bin .lss (.t 5) (.t 7))] [0,3,4,8] []) (.cond (.t 8) .skip (.exit 0))) f26_13
def f26_4:IC:=.seq (.seq (.ops [o1 4 (.mv (ci 0))] [0,3,4] []) (.block 0 (.loop f26_9))) (.seq (.ops [m1 18 3,m1 2 18] [2] []) .ret)
def f26_0:IC:=.seq (.ops [o1 2 (.mv (.c .nil))] [0] []) (.seq (.ops [o1 3 (.mv (.c .nil))] [0,3] []) f26_4)
@[push_cast]def f26R:List R:=[.t 2]
@[push_cast]def f26e:=aWv f26_13.eq_1<|aWv f26_9.eq_1<|aWv f26_4.eq_1<|aWu f26_0.eq_1
theorem f26ok:okFn Tryz.prog 26 19 f26_0 f26R=true:=by kernel_rfl
def f74_32:IC:=.seq (.block 3 (.ops [o1 39 (.faddr (.t 6) 4),o1 40 (.load (.t 39) 1 false),o1 41 (.faddr (.t 5) 4),o1 42 (.load (.t 41) 1 false),m1 43 7,o1 44 (.iaddr (.t 42) (.t 43) 77 2),o1 45 (.faddr (.t 44) 0),o1 46 (.load (.t 45) 1 false),o1 47 (.faddr (.t 5) 4),o1 48 (.load (.t 47) 1 false),m1 49 7,o1 50 (.iaddr (.t 48) (.t 49) 77 2),o1 51 (.faddr (.t 50) 1),o1 52 (.load (.t 51) 1 false),o1 53 (.call 74 [.t 52]),o1 54 (.build [(.s []),.nil] [(0,1,(.t 46)),(1,1,(.t 53))]),o1 55 (.msl false 77 2 [.t 54]),o1 56 (.app (.t 40) (.t 55) 77 2),o1 57 (.faddr (.t 6) 4),o0 (.store (.t 57) (.t 56) 1)] [0,3,4,5,6,7] [[0,1],[2,3],[3,5],[4,5],[5,6],[6,7],[8,9],[9,11],[10,11],[11,12],[12,13],[13,14],[7,15],[14,15],[15,16],[1,17],[3,5,6,7,15,16,17],[5,6,7,15,16,17],[7,15,16,17],[9,11,12,13,14,17],[11,12,13,14,17],[13,14,17],[16,17],[1,19],[3,19],[5,19],[7,19],[9,19],[11,19],[13,19],[17,19],[18,19]])) (.ops [m1 37 7,o1 38 (.bin .add (.t 37) (ci 1)),m1 7 38] [0,3,4,5,6,7] [])
def f74_28:IC:=.seq (.seq (.ops [m1 32 7,o1 33 (.faddr (.t 5) 4),o1 34 (.load (.t 33) 1 false),o1 35 (.lenL (.t 34)),o1 36 (.bin .lss (.t 32) (.t 35))] [0,3,4,5,6,7,36] []) (.cond (.t 36) .skip (.exit 2))) f74_32
def f74_37:IC:=.ops [m1 58 3,o1 59 (.load (.t 6) 6 true),o1 60 (.msl false 75 6 [.t 59]),o1 61 (.app (.t 58) (.t 60) 75 6),m1 3 61] [0,3,4] []
def f74_23:IC:=.seq (.seq (.ops [o1 7 (.mv (ci 0))] [0,3,4,5,6,7] []) (.block 2 (.loop f74_28))) (.wk f74_37)
def f74_21:IC:=.seq (.ops [o1 24 (.faddr (.t 5) 0),o1 25 (.load (.t 24) 1 false),o1 26 (.faddr (.t 5) 2),o1 27 (.load (.t 26) 1 false),o1 28 (.faddr (.t 5) 5),o1 29 (.load (.t 28) 1 false),o1 30 (.call 74 [.t 29]),o1 31 (.build [(.i .i64 0),(.s []),(.s []),(.s []),.nil,.nil] [(0,1,(.t 25)),(2,1,(.t 27)),(5,1,(.t 30))]),o1 6 (.alloc (.agg [(.i .i64 0),(.s []),(.s []),(.s []),.nil,.nil])),o0 (.store (.t 6) (.t 31) 6)] [0,3,4,5,6] [[0,1],[2,3],[4,5],[5,6],[1,7],[3,7],[6,7],[1,9],[3,9],[5,9],[7,9],[8,9]]) f74_23
def f74_17:IC:=.seq (.seq (.ops [m1 18 0,m1 19 4,m1 20 4,o1 21 (.bin .add (.t 20) (ci 1)),o1 22 (.slL (.t 18) (some (.t 19)) (some (.t 21)) 6),o1 23 (.call 17 [.t 22])] [0,3,4,5,23] []) (.cond (.t 23) (.exit 1) .skip)) f74_21
def f74_13:IC:=.seq (.block 1 (.seq (.ops [m1 14 0,m1 15 4,o1 16 (.iaddr (.t 14) (.t 15) 75 6),o1 17 (.load (.t 16) 6 true),o1 5 (.alloc (.agg [(.i .i64 0),(.s []),(.s []),(.s []),.nil,.nil])),o0 (.store (.t 5) (.t 17) 6)] [0,3,4,5] []) f74_17)) (.ops [m1 12 4,o1 13 (.bin .add (.t 12) (ci 1)),m1 4 13] [0,3,4] [])
def f74_9:IC:=.seq (.seq (.ops [m1 8 4,m1 9 0,o1 10 (.lenL (.t 9)),o1 11 (.bin .lss (.t 8) (.t 10))] [0,3,4,11] []) (.cond (.t 11) .skip (.exit 0))) f74_13
def f74_4:IC:=.seq (.seq (.ops [o1 4 (.mv (ci 0))] [0,3,4] []) (.block 0 (.loop f74_9))) (.seq (.ops [m1 62 3,m1 2 62] [2] []) .ret)
def f74_0:IC:=.seq (.ops [o1 2 (.mv (.c .nil))] [0] []) (.seq (.ops [o1 3 (.mv (.c .nil))] [0,3] []) f74_4)
@[push_cast]def f74R:List R:=[.t 2]
@[push_cast]def f74e:=aWv f74_32.eq_1<|aWv f74_28.eq_1<|aWv f74_37.eq_1<|aWv f74_23.eq_1<|aWv f74_21.eq_1<|aWv f74_17.eq_1<|aWv f74_13.eq_1<|aWv f74_9.eq_1<|aWv f74_4.eq_1<|aWu f74_0.eq_1
theorem f74ok:okFn Tryz.prog 74 63 f74_0 f74R=true:=by kernel_rfl
def f119_6:IC:=.seq (.ops [m1 5 0,o1 6 (.bin .add (ci 48) (.t 5)),o1 7 (.cvi .i32 (.t 6)),o1 8 (.pu .itos [.t 7]),m1 2 8] [2] []) .ret
def f119_8:IC:=.seq (.ops [m1 9 0,o1 10 (.bin .quo (.t 9) (ci 10)),o1 11 (.call 119 [.t 10]),m1 12 0,o1 13 (.bin .rem (.t 12) (ci 10)),o1 14 (.bin .add (ci 48) (.t 13)),o1 15 (.cvi .i32 (.t 14)),o1 16 (.pu .itos [.t 15]),o1 17 (.bin .add (.t 11) (.t 16)),m1 2 17] [2] []) .ret
def f119_2:IC:=.seq (.seq (.ops [m1 3 0,o1 4 (.bin .lss (.t 3) (ci 10))] [0,4] []) (.cond (.t 4) f119_6 .skip)) f119_8
def f119_0:IC:=.seq (.ops [o1 2 (.mv (.c (.s [])))] [0] []) f119_2
@[push_cast]def f119R:List R:=[.t 2]
@[push_cast]def f119e:=aWv f119_6.eq_1<|aWv f119_8.eq_1<|aWv f119_2.eq_1<|aWu f119_0.eq_1
theorem f119ok:okFn Tryz.prog 119 18 f119_0 f119R=true:=by kernel_rfl
def f75_25:IC:=.seq (.ops [m1 28 6,o1 29 (.load (.t 9) 6 true),o1 30 (.msl false 75 6 [.t 29]),o1 31 (.app (.t 28) (.t 30) 75 6),m1 6 31] [0,1,5,6,7,8] []) (.exit 1)
def f75_29:IC:=.ops [m1 32 5,m1 33 1,m1 34 7,o1 35 (.call 119 [.t 34]),o1 36 (.bin .add (.t 33) (.t 35)),m1 37 6,o1 38 (.build [(.s []),.nil] [(0,1,(.t 36)),(1,1,(.t 37))]),o1 39 (.msl false 112 2 [.t 38]),o1 40 (.app (.t 32) (.t 39) 112 2),m1 5 40] [0,1,5,7,8,9] []
def f75_40:IC:=.ops [m1 51 5,o1 52 (.faddr (.t 9) 5),o1 53 (.load (.t 52) 1 false),m1 54 10,o1 55 (.call 75 [.t 53,.t 54]),o1 56 (.app (.t 51) (.t 55) 112 2),m1 5 56] [0,1,5,6,7,8,9,10] []
def f75_49:IC:=.seq (.block 3 (.ops [m1 64 5,o1 65 (.faddr (.t 9) 4),o1 66 (.load (.t 65) 1 false),m1 67 11,o1 68 (.iaddr (.t 66) (.t 67) 77 2),o1 69 (.faddr (.t 68) 1),o1 70 (.load (.t 69) 1 false),m1 71 10,o1 72 (.faddr (.t 9) 4),o1 73 (.load (.t 72) 1 false),m1 74 11,o1 75 (.iaddr (.t 73) (.t 74) 77 2),o1 76 (.faddr (.t 75) 0),o1 77 (.load (.t 76) 1 false),o1 78 (.bin .add (.t 71) (.t 77)),o1 79 (.bin .add (.t 78) (.c (.s [47]))),o1 80 (.call 75 [.t 70,.t 79]),o1 81 (.app (.t 64) (.t 80) 112 2),m1 5 81] [0,1,5,6,7,8,9,10,11] [[1,2],[2,4],[3,4],[4,5],[5,6],[8,9],[9,11],[10,11],[11,12],[12,13],[7,14],[13,14],[14,15],[6,16],[15,16],[0,17],[2,4,5,6,16,17],[4,5,6,16,17],[6,16,17],[9,11,12,13,14,15,16,17],[11,12,13,14,15,16,17],[13,14,15,16,17],[16,17],[0,18],[17,18]])) (.ops [m1 62 11,o1 63 (.bin .add (.t 62) (ci 1)),m1 11 63] [0,1,5,6,7,8,9,10,11] [])
def f75_45:IC:=.seq (.seq (.ops [m1 57 11,o1 58 (.faddr (.t 9) 4),o1 59 (.load (.t 58) 1 false),o1 60 (.lenL (.t 59)),o1 61 (.bin .lss (.t 57) (.t 60))] [0,1,5,6,7,8,9,10,11,61] []) (.cond (.t 61) .skip (.exit 2))) f75_49
def f75_36:IC:=.seq (.seq (.ops [o1 48 (.faddr (.t 9) 0),o1 49 (.load (.t 48) 1 false),o1 50 (.bin .eql (.t 49) (ci 11))] [0,1,5,6,7,8,9,10,50] []) (.cond (.t 50) f75_40 .skip)) (.seq (.ops [o1 11 (.mv (ci 0))] [0,1,5,6,7,8,9,10,11] []) (.block 2 (.loop f75_45)))
def f75_34:IC:=.seq (.ops [m1 43 1,m1 44 7,o1 45 (.call 119 [.t 44]),o1 46 (.bin .add (.t 43) (.t 45)),o1 47 (.bin .add (.t 46) (.c (.s [47]))),m1 10 47] [0,1,5,6,7,8,9,10] []) f75_36
def f75_30:IC:=.seq (.ops [o1 6 (.mv (.c .nil))] [0,1,5,6,7,8,9] []) (.seq (.ops [m1 41 7,o1 42 (.bin .add (.t 41) (ci 1)),m1 7 42] [0,1,5,6,7,8,9] []) f75_34)
def f75_21:IC:=.seq (.seq (.ops [m1 22 0,m1 23 8,m1 24 8,o1 25 (.bin .add (.t 24) (ci 1)),o1 26 (.slL (.t 22) (some (.t 23)) (some (.t 25)) 6),o1 27 (.call 17 [.t 26])] [0,1,5,6,7,8,9,27] []) (.cond (.t 27) f75_25 .skip)) (.seq (.wk f75_29) f75_30)
def f75_17:IC:=.seq (.block 1 (.seq (.ops [m1 18 0,m1 19 8,o1 20 (.iaddr (.t 18) (.t 19) 75 6),o1 21 (.load (.t 20) 6 true),o1 9 (.alloc (.agg [(.i .i64 0),(.s []),(.s []),(.s []),.nil,.nil])),o0 (.store (.t 9) (.t 21) 6)] [0,1,5,6,7,8,9] []) f75_21)) (.ops [m1 16 8,o1 17 (.bin .add (.t 16) (ci 1)),m1 8 17] [0,1,5,6,7,8] [])
def f75_13:IC:=.seq (.seq (.ops [m1 12 8,m1 13 0,o1 14 (.lenL (.t 13)),o1 15 (.bin .lss (.t 12) (.t 14))] [0,1,5,6,7,8,15] []) (.cond (.t 15) .skip (.exit 0))) f75_17
def f75_56:IC:=.ops [m1 82 5,m1 83 1,m1 84 7,o1 85 (.call 119 [.t 84]),o1 86 (.bin .add (.t 83) (.t 85)),m1 87 6,o1 88 (.build [(.s []),.nil] [(0,1,(.t 86)),(1,1,(.t 87))]),o1 89 (.msl false 112 2 [.t 88]),o1 90 (.app (.t 82) (.t 89) 112 2),m1 4 90] [4] []
def f75_8:IC:=.seq (.seq (.ops [o1 8 (.mv (ci 0))] [0,1,5,6,7,8] []) (.block 0 (.loop f75_13))) (.seq (.wk f75_56) .ret)
def f75_4:IC:=.seq (.ops [o1 6 (.mv (.c .nil))] [0,1,5,6] []) (.seq (.ops [o1 7 (.mv (ci 0))] [0,1,5,6,7] []) f75_8)
def f75_0:IC:=.seq (.ops [o1 4 (.mv (.c .nil))] [0,1] []) (.seq (.ops [o1 5 (.mv (.c .nil))] [0,1,5] []) f75_4)
@[push_cast]def f75R:List R:=[.t 4]
@[push_cast]def f75e:=aWv f75_25.eq_1<|aWv f75_29.eq_1<|aWv f75_40.eq_1<|aWv f75_49.eq_1<|aWv f75_45.eq_1<|aWv f75_36.eq_1<|aWv f75_34.eq_1<|aWv f75_30.eq_1<|aWv f75_21.eq_1<|aWv f75_17.eq_1<|aWv f75_13.eq_1<|aWv f75_56.eq_1<|aWv f75_8.eq_1<|aWv f75_4.eq_1<|aWu f75_0.eq_1
theorem f75ok:okFn Tryz.prog 75 91 f75_0 f75R=true:=by kernel_rfl
def f32_16:IC:=.seq (.ops [m1 19 0,m1 20 5,o1 21 (.iaddr (.t 19) (.t 20) 112 2),o1 22 (.faddr (.t 21) 1),o1 23 (.load (.t 22) 1 false),m1 4 23] [4] []) .ret
def f32_11:IC:=.seq (.block 1 (.seq (.ops [m1 12 0,m1 13 5,o1 14 (.iaddr (.t 12) (.t 13) 112 2),o1 15 (.faddr (.t 14) 0),o1 16 (.load (.t 15) 1 false),m1 17 1,o1 18 (.bin .eql (.t 16) (.t 17))] [0,1,5,18] []) (.cond (.t 18) f32_16 .skip))) (.ops [m1 10 5,o1 11 (.bin .add (.t 10) (ci 1)),m1 5 11] [0,1,5] [])
def f32_7:IC:=.seq (.seq (.ops [m1 6 5,m1 7 0,o1 8 (.lenL (.t 7)),o1 9 (.bin .lss (.t 6) (.t 8))] [0,1,5,9] []) (.cond (.t 9) .skip (.exit 0))) f32_11
def f32_2:IC:=.seq (.seq (.ops [o1 5 (.mv (ci 0))] [0,1,5] []) (.block 0 (.loop f32_7))) (.seq (.ops [o1 4 (.mv (.c .nil))] [4] []) .ret)
def f32_0:IC:=.seq (.ops [o1 4 (.mv (.c .nil))] [0,1] []) f32_2
@[push_cast]def f32R:List R:=[.t 4]
@[push_cast]def f32e:=aWv f32_16.eq_1<|aWv f32_11.eq_1<|aWv f32_7.eq_1<|aWv f32_2.eq_1<|aWu f32_0.eq_1
theorem f32ok:okFn Tryz.prog 32 24 f32_0 f32R=true:=by kernel_rfl
def f76_25:IC:=.ops [o1 42 (.faddr (.t 9) 5),o1 43 (.load (.t 42) 1 false),m1 44 1,m1 45 10,o1 46 (.bin .add (.t 45) (.c (.s [47]))),o1 47 (.call 76 [.t 43,.t 44,.t 46]),o1 48 (.faddr (.t 11) 5),o0 (.store (.t 48) (.t 47) 1)] [0,1,2,7,8,9,10,11] []
def f76_35:IC:=.seq (.block 3 (.ops [o1 56 (.faddr (.t 11) 4),o1 57 (.load (.t 56) 1 false),o1 58 (.faddr (.t 9) 4),o1 59 (.load (.t 58) 1 false),m1 60 12,o1 61 (.iaddr (.t 59) (.t 60) 77 2),o1 62 (.faddr (.t 61) 0),o1 63 (.load (.t 62) 1 false),o1 64 (.faddr (.t 9) 4),o1 65 (.load (.t 64) 1 false),m1 66 12,o1 67 (.iaddr (.t 65) (.t 66) 77 2),o1 68 (.faddr (.t 67) 1),o1 69 (.load (.t 68) 1 false),m1 70 1,m1 71 10,o1 72 (.bin .add (.t 71) (.c (.s [47]))),o1 73 (.faddr (.t 9) 4),o1 74 (.load (.t 73) 1 false),m1 75 12,o1 76 (.iaddr (.t 74) (.t 75) 77 2),o1 77 (.faddr (.t 76) 0),o1 78 (.load (.t 77) 1 false),o1 79 (.bin .add (.t 72) (.t 78)),o1 80 (.bin .add (.t 79) (.c (.s [47]))),o1 81 (.call 76 [.t 69,.t 70,.t 80]),o1 82 (.build [(.s []),.nil] [(0,1,(.t 63)),(1,1,(.t 81))]),o1 83 (.msl false 77 2 [.t 82]),o1 84 (.app (.t 57) (.t 83) 77 2),o1 85 (.faddr (.t 11) 4),o0 (.store (.t 85) (.t 84) 1)] [0,1,2,7,8,9,10,11,12] [[0,1],[2,3],[3,5],[4,5],[5,6],[6,7],[8,9],[9,11],[10,11],[11,12],[12,13],[15,16],[17,18],[18,20],[19,20],[20,21],[21,22],[16,23],[22,23],[23,24],[13,25],[14,25],[24,25],[7,26],[25,26],[26,27],[1,28],[3,5,6,7,26,27,28],[5,6,7,26,27,28],[7,26,27,28],[9,11,12,13,25,28],[11,12,13,25,28],[13,25,28],[18,20,21,22,23,24,25,28],[20,21,22,23,24,25,28],[22,23,24,25,28],[27,28],[1,30],[3,30],[5,30],[7,30],[9,30],[11,30],[13,30],[18,30],[20,30],[22,30],[28,30],[29,30]])) (.ops [m1 54 12,o1 55 (.bin .add (.t 54) (ci 1)),m1 12 55] [0,1,2,7,8,9,10,11,12] [])
def f76_31:IC:=.seq (.seq (.ops [m1 49 12,o1 50 (.faddr (.t 9) 4),o1 51 (.load (.t 50) 1 false),o1 52 (.lenL (.t 51)),o1 53 (.bin .lss (.t 49) (.t 52))] [0,1,2,7,8,9,10,11,12,53] []) (.cond (.t 53) .skip (.exit 2))) f76_35
def f76_40:IC:=.ops [m1 86 7,o1 87 (.load (.t 11) 6 true),o1 88 (.msl false 75 6 [.t 87]),o1 89 (.app (.t 86) (.t 88) 75 6),m1 90 1,m1 91 10,o1 92 (.call 32 [.t 90,.t 91]),o1 93 (.app (.t 89) (.t 92) 75 6),m1 7 93] [0,1,2,7,8] []
def f76_26:IC:=.seq (.seq (.ops [o1 12 (.mv (ci 0))] [0,1,2,7,8,9,10,11,12] []) (.block 2 (.loop f76_31))) (.wk f76_40)
def f76_21:IC:=.seq (.seq (.ops [o1 39 (.faddr (.t 9) 0),o1 40 (.load (.t 39) 1 false),o1 41 (.bin .eql (.t 40) (ci 11))] [0,1,2,7,8,9,10,11,41] []) (.cond (.t 41) f76_25 .skip)) f76_26
def f76_19:IC:=.seq (.ops [o1 34 (.faddr (.t 9) 0),o1 35 (.load (.t 34) 1 false),o1 36 (.faddr (.t 9) 2),o1 37 (.load (.t 36) 1 false),o1 38 (.build [(.i .i64 0),(.s []),(.s []),(.s []),.nil,.nil] [(0,1,(.t 35)),(2,1,(.t 37))]),o1 11 (.alloc (.agg [(.i .i64 0),(.s []),(.s []),(.s []),.nil,.nil])),o0 (.store (.t 11) (.t 38) 6)] [0,1,2,7,8,9,10,11] []) f76_21
def f76_17:IC:=.seq (.ops [m1 29 2,m1 30 8,o1 31 (.bin .add (.t 30) (ci 1)),o1 32 (.call 119 [.t 31]),o1 33 (.bin .add (.t 29) (.t 32)),m1 10 33] [0,1,2,7,8,9,10] []) f76_19
def f76_13:IC:=.seq (.block 1 (.seq (.ops [m1 25 0,m1 26 8,o1 27 (.iaddr (.t 25) (.t 26) 75 6),o1 28 (.load (.t 27) 6 true),o1 9 (.alloc (.agg [(.i .i64 0),(.s []),(.s []),(.s []),.nil,.nil])),o0 (.store (.t 9) (.t 28) 6)] [0,1,2,7,8,9] []) f76_17)) (.ops [m1 23 8,o1 24 (.bin .add (.t 23) (ci 1)),m1 8 24] [0,1,2,7,8] [])
def f76_9:IC:=.seq (.seq (.ops [m1 19 8,m1 20 0,o1 21 (.lenL (.t 20)),o1 22 (.bin .lss (.t 19) (.t 21))] [0,1,2,7,8,22] []) (.cond (.t 22) .skip (.exit 0))) f76_13
def f76_4:IC:=.seq (.seq (.ops [o1 8 (.mv (ci 0))] [0,1,2,7,8] []) (.block 0 (.loop f76_9))) (.seq (.ops [m1 94 7,m1 6 94] [6] []) .ret)
def f76_2:IC:=.seq (.ops [o1 13 (.msl true 75 6 []),m1 14 1,m1 15 2,o1 16 (.bin .add (.t 15) (.c (.s [48]))),o1 17 (.call 32 [.t 14,.t 16]),o1 18 (.app (.t 13) (.t 17) 75 6),m1 7 18] [0,1,2,7] []) f76_4
def f76_0:IC:=.seq (.ops [o1 6 (.mv (.c .nil))] [0,1,2] []) f76_2
@[push_cast]def f76R:List R:=[.t 6]
@[push_cast]def f76e:=aWv f76_25.eq_1<|aWv f76_35.eq_1<|aWv f76_31.eq_1<|aWv f76_40.eq_1<|aWv f76_26.eq_1<|aWv f76_21.eq_1<|aWv f76_19.eq_1<|aWv f76_17.eq_1<|aWv f76_13.eq_1<|aWv f76_9.eq_1<|aWv f76_4.eq_1<|aWv f76_2.eq_1<|aWu f76_0.eq_1
theorem f76ok:okFn Tryz.prog 76 95 f76_0 f76R=true:=by kernel_rfl
def f34_17:IC:=.seq (.block 1 (.seq (.ops [m1 17 0,m1 18 5,o1 19 (.iaddr (.t 17) (.t 18) 112 2),o1 20 (.faddr (.t 19) 0),o1 21 (.load (.t 20) 1 false),m1 22 1,m1 23 5,o1 24 (.iaddr (.t 22) (.t 23) 112 2),o1 25 (.faddr (.t 24) 0),o1 26 (.load (.t 25) 1 false),o1 27 (.bin .neq (.t 21) (.t 26)),m1 28 27,⟨some 29,.mv (.t 0),some (28,false),[]⟩,⟨some 30,.mv (.t 5),some (28,false),[]⟩,⟨some 31,.iaddr (.t 29) (.t 30) 112 2,some (28,false),[]⟩,⟨some 32,.faddr (.t 31) 1,some (28,false),[]⟩,⟨some 33,.load (.t 32) 1 false,some (28,false),[]⟩,⟨some 34,.mv (.t 1),some (28,false),[]⟩,⟨some 35,.mv (.t 5),some (28,false),[]⟩,⟨some 36,.iaddr (.t 34) (.t 35) 112 2,some (28,false),[]⟩,⟨some 37,.faddr (.t 36) 1,some (28,false),[]⟩,⟨some 38,.load (.t 37) 1 false,some (28,false),[]⟩,⟨some 39,.call 28 [.t 33,.t 38],some (28,false),[]⟩,⟨some 40,.not (.t 39),some (28,false),[]⟩,o1 41 (.pick (.t 28) (.c (.b true)) (.t 40))] [0,1,5,41] [[0,2],[1,2],[2,3],[3,4],[5,7],[6,7],[7,8],[8,9],[4,10],[9,10],[10,11],[11,12],[11,13],[11,14],[12,14],[13,14],[11,15],[14,15],[11,16],[15,16],[11,17],[11,18],[11,19],[17,19],[18,19],[11,20],[19,20],[11,21],[20,21],[11,22],[16,22],[21,22],[11,23],[22,23],[11,24],[23,24]]) (.cond (.t 41) (.seq (.ops [o1 4 (.mv (.c (.b false)))] [4] []) .ret) .skip))) (.ops [m1 15 5,o1 16 (.bin .add (.t 15) (ci 1)),m1 5 16] [0,1,5] [])
def f34_13:IC:=.seq (.seq (.ops [m1 11 5,m1 12 0,o1 13 (.lenL (.t 12)),o1 14 (.bin .lss (.t 11) (.t 13))] [0,1,5,14] []) (.cond (.t 14) .skip (.exit 0))) f34_17
def f34_8:IC:=.seq (.seq (.ops [o1 5 (.mv (ci 0))] [0,1,5] []) (.block 0 (.loop f34_13))) (.seq (.ops [o1 4 (.mv (.c (.b true)))] [4] []) .ret)
def f34_2:IC:=.seq (.seq (.ops [m1 6 0,o1 7 (.lenL (.t 6)),m1 8 1,o1 9 (.lenL (.t 8)),o1 10 (.bin .neq (.t 7) (.t 9))] [0,1,10] []) (.cond (.t 10) (.seq (.ops [o1 4 (.mv (.c (.b false)))] [4] []) .ret) .skip)) f34_8
def f34_0:IC:=.seq (.ops [o1 4 (.mv (.c (.b false)))] [0,1] []) f34_2
@[push_cast]def f34R:List R:=[.t 4]
@[push_cast]def f34e:=aWv f34_17.eq_1<|aWv f34_13.eq_1<|aWv f34_8.eq_1<|aWv f34_2.eq_1<|aWu f34_0.eq_1
theorem f34ok:okFn Tryz.prog 34 42 f34_0 f34R=true:=by kernel_rfl
def f27_25:IC:=.seq (.block 1 (.seq (.ops [m1 32 1,m1 33 7,o1 34 (.iaddr (.t 32) (.t 33) 112 2),o1 35 (.faddr (.t 34) 0),o1 36 (.load (.t 35) 1 false),m1 37 6,m1 38 7,o1 39 (.iaddr (.t 37) (.t 38) 112 2),o1 40 (.faddr (.t 39) 0),o1 41 (.load (.t 40) 1 false),o1 42 (.bin .neq (.t 36) (.t 41))] [0,1,6,7,42] [[0,2],[1,2],[2,3],[3,4],[5,7],[6,7],[7,8],[8,9],[4,10],[9,10]]) (.cond (.t 42) (.seq (.ops [o1 4 (.mv (.c .nil)),o1 5 (.mv (ci 1))] [4,5] []) .ret) .skip))) (.ops [m1 30 7,o1 31 (.bin .add (.t 30) (ci 1)),m1 7 31] [0,1,6,7] [])
def f27_21:IC:=.seq (.seq (.ops [m1 26 7,m1 27 1,o1 28 (.lenL (.t 27)),o1 29 (.bin .lss (.t 26) (.t 28))] [0,1,6,7,29] []) (.cond (.t 29) .skip (.exit 0))) f27_25
def f27_35:IC:=.seq (.seq (.ops [m1 46 8,o1 47 (.call 29 [.t 46]),o1 48 (.not (.t 47)),m1 49 48,⟨some 50,.mv (.t 8),some (49,false),[]⟩,⟨some 51,.call 74 [.t 50],some (49,false),[]⟩,⟨some 52,.mv (.t 0),some (49,false),[]⟩,⟨some 53,.call 28 [.t 51,.t 52],some (49,false),[]⟩,⟨some 54,.not (.t 53),some (49,false),[]⟩,o1 55 (.pick (.t 49) (.c (.b true)) (.t 54)),m1 56 55,⟨some 57,.mv (.t 8),some (56,false),[]⟩,⟨some 58,.call 75 [.t 57,(.c (.s []))],some (56,false),[]⟩,⟨some 59,.mv (.t 1),some (56,false),[]⟩,⟨some 60,.call 34 [.t 58,.t 59],some (56,false),[]⟩,⟨some 61,.not (.t 60),some (56,false),[]⟩,o1 62 (.pick (.t 56) (.c (.b true)) (.t 61))] [8,62] []) (.cond (.t 62) (.seq (.ops [o1 4 (.mv (.c .nil)),o1 5 (.mv (ci 1))] [4,5] []) .ret) .skip)) (.seq (.ops [m1 63 8,m1 4 63,o1 5 (.mv (ci 0))] [4,5] []) .ret)
def f27_33:IC:=.seq (.ops [m1 43 0,m1 44 1,o1 45 (.call 76 [.t 43,.t 44,(.c (.s []))]),m1 8 45] [0,1,8] []) f27_35
def f27_10:IC:=.seq (.seq (.ops [m1 21 6,o1 22 (.lenL (.t 21)),m1 23 1,o1 24 (.lenL (.t 23)),o1 25 (.bin .neq (.t 22) (.t 24))] [0,1,6,25] []) (.cond (.t 25) (.seq (.ops [o1 4 (.mv (.c .nil)),o1 5 (.mv (ci 1))] [4,5] []) .ret) .skip)) (.seq (.seq (.ops [o1 7 (.mv (ci 0))] [0,1,6,7] []) (.block 0 (.loop f27_21))) f27_33)
def f27_2:IC:=.seq (.seq (.ops [m1 9 0,o1 10 (.call 29 [.t 9]),o1 11 (.not (.t 10)),m1 12 11,⟨some 13,.mv (.t 0),some (12,false),[]⟩,⟨some 14,.call 74 [.t 13],some (12,false),[]⟩,⟨some 15,.mv (.t 0),some (12,false),[]⟩,⟨some 16,.call 28 [.t 14,.t 15],some (12,false),[]⟩,⟨some 17,.not (.t 16),some (12,false),[]⟩,o1 18 (.pick (.t 12) (.c (.b true)) (.t 17))] [0,1,18] []) (.cond (.t 18) (.seq (.ops [o1 4 (.mv (.c .nil)),o1 5 (.mv (ci 1))] [4,5] []) .ret) .skip)) (.seq (.ops [m1 19 0,o1 20 (.call 75 [.t 19,(.c (.s []))]),m1 6 20] [0,1,6] []) f27_10)
def f27_0:IC:=.seq (.ops [o1 4 (.mv (.c .nil)),o1 5 (.mv (ci 0))] [0,1] []) f27_2
@[push_cast]def f27R:List R:=[.t 4,.t 5]
@[push_cast]def f27e:=aWv f27_25.eq_1<|aWv f27_21.eq_1<|aWv f27_35.eq_1<|aWv f27_33.eq_1<|aWv f27_10.eq_1<|aWv f27_2.eq_1<|aWu f27_0.eq_1
theorem f27ok:okFn Tryz.prog 27 64 f27_0 f27R=true:=by kernel_rfl
def f5_18:IC:=.seq (.ops [m1 32 6,m1 33 8,o1 34 (.bin .eql (.t 32) (.t 33)),m1 35 34,⟨some 36,.mv (.t 5),some (35,true),[]⟩,⟨some 37,.mv (.t 7),some (35,true),[]⟩,⟨some 38,.call 28 [.t 36,.t 37],some (35,true),[]⟩,o1 39 (.pick (.t 35) (.t 38) (.c (.b false))),m1 4 39] [4] []) .ret
def f5_16:IC:=.seq (.ops [m1 27 0,m1 28 1,o1 29 (.call 27 [.t 27,.t 28]),m1 26 29,o1 30 (.ext (.t 26) 0),o1 31 (.ext (.t 26) 1),m1 7 30,m1 8 31] [5,6,7,8] []) f5_18
def f5_14:IC:=.seq (.ops [m1 20 0,m1 21 1,o1 22 (.call 26 [.t 21]),o1 23 (.call 25 [.t 20,.t 22]),m1 19 23,o1 24 (.ext (.t 19) 0),o1 25 (.ext (.t 19) 1),m1 5 24,m1 6 25] [0,1,5,6] []) f5_16
def f5_8:IC:=.seq (.seq (.ops [m1 11 0,o1 12 (.call 10 [.t 11]),o1 13 (.not (.t 12)),m1 14 13,⟨some 15,.mv (.t 1),some (14,false),[]⟩,⟨some 16,.call 24 [.t 15],some (14,false),[]⟩,⟨some 17,.not (.t 16),some (14,false),[]⟩,o1 18 (.pick (.t 14) (.c (.b true)) (.t 17))] [0,1,18] []) (.cond (.t 18) (.seq (.ops [o1 4 (.mv (.c (.b true)))] [4] []) .ret) .skip)) f5_14
def f5_2:IC:=.seq (.seq (.ops [o1 9 (.call 8 []),o1 10 (.not (.t 9))] [0,1,10] []) (.cond (.t 10) (.seq (.ops [o1 4 (.mv (.c (.b false)))] [4] []) .ret) .skip)) f5_8
def f5_0:IC:=.seq (.ops [o1 4 (.mv (.c (.b false)))] [0,1] []) f5_2
@[push_cast]def f5R:List R:=[.t 4]
@[push_cast]def f5e:=aWv f5_18.eq_1<|aWv f5_16.eq_1<|aWv f5_14.eq_1<|aWv f5_8.eq_1<|aWv f5_2.eq_1<|aWu f5_0.eq_1
theorem f5ok:okFn Tryz.prog 5 40 f5_0 f5R=true:=by kernel_rfl
def f118_6:IC:=.seq (.ops [o1 18 (.faddr (.t 3) 1),o1 19 (.load (.t 18) 1 false),o1 20 (.calln 115 [.t 19]),m1 2 20] [2] []) .ret
def f118_4:IC:=.seq (.ops [m1 10 0,m1 11 0,o1 12 (.nilck (.t 11)),o1 13 (.faddr (.t 12) 0),o1 14 (.load (.t 13) 1 false),o1 15 (.slL (.t 14) (some (ci 1)) none 2),o1 16 (.nilck (.t 10)),o1 17 (.faddr (.t 16) 0),o0 (.store (.t 17) (.t 15) 1)] [3] []) f118_6
def f118_2:IC:=.seq (.ops [m1 4 0,o1 5 (.nilck (.t 4)),o1 6 (.faddr (.t 5) 0),o1 7 (.load (.t 6) 1 false),o1 8 (.iaddr (.t 7) (ci 0) 68 2),o1 9 (.load (.t 8) 2 true),o1 3 (.alloc (.agg [(.s []),.nil])),o0 (.store (.t 3) (.t 9) 2)] [0,3] []) f118_4
def f118_0:IC:=.seq (.ops [o1 2 (.mv (.c .nil))] [0] []) f118_2
@[push_cast]def f118R:List R:=[.t 2]
@[push_cast]def f118e:=aWv f118_6.eq_1<|aWv f118_4.eq_1<|aWv f118_2.eq_1<|aWu f118_0.eq_1
theorem f118ok:okFn Tryz.prog 118 21 f118_0 f118R=true:=by kernel_rfl
def f72_19:IC:=.ops [m1 23 5,m1 24 0,o1 25 (.calls 118 [.t 24]),o1 26 (.app (.t 23) (.t 25) 75 6),m1 5 26] [0,5,10,11,12] []
def f72_17:IC:=.seq (.ops [m1 16 5,o1 17 (.load (.t 7) 6 true),m1 18 0,o1 19 (.mkfn 72 [.t 18] []),o1 20 (.calls 113 [.t 17,.t 19]),o1 21 (.msl false 75 6 [.t 20]),o1 22 (.app (.t 16) (.t 21) 75 6),m1 5 22] [0,5,10,11,12] []) f72_19
def f72_13:IC:=.seq (.block 1 (.seq (.ops [o1 14 (.iaddr (.t 10) (.t 12) 75 6),o1 15 (.load (.t 14) 6 true),o1 7 (.alloc (.agg [(.i .i64 0),(.s []),(.s []),(.s []),.nil,.nil])),o0 (.store (.t 7) (.t 15) 6)] [0,5,7,10,11,12] []) f72_17)) (.ops [o1 27 (.bin .add (.t 12) (ci 1)),m1 12 27] [0,5,10,11,12] [])
def f72_9:IC:=.seq (.ops [o1 13 (.bin .lss (.t 12) (.t 11))] [0,5,10,11,12,13] []) (.seq (.cond (.t 13) .skip (.exit 0)) f72_13)
def f72_4:IC:=.seq (.seq (.ops [m1 10 1,o1 11 (.lenL (.t 10)),o1 12 (.mv (ci 0))] [0,5,10,11,12] []) (.block 0 (.loop f72_9))) (.seq (.ops [m1 28 5,m1 4 28] [4] []) .ret)
def f72_0:IC:=.seq (.ops [o1 4 (.mv (.c .nil))] [0,1] []) (.seq (.ops [m1 8 0,o1 9 (.calln 118 [.t 8]),m1 5 9] [0,1,5] []) f72_4)
@[push_cast]def f72R:List R:=[.t 4]
@[push_cast]def f72e:=aWv f72_19.eq_1<|aWv f72_17.eq_1<|aWv f72_13.eq_1<|aWv f72_9.eq_1<|aWv f72_4.eq_1<|aWu f72_0.eq_1
theorem f72ok:okFn Tryz.prog 72 29 f72_0 f72R=true:=by kernel_rfl
end Go.Ir
namespace Go.Ir
open Go.Proofs
variable (W0 : World)
theorem over_one {x:Id} {X:Ent} {σo σ:Sto} (h:∀p∈σ,p.1≠x):over [(x,X)] σo ((x,X)::σ)=σo++σ:=by
 have:List.filter (fun p:Id × Ent=>(lk [(x,X)] p.1).isNone) σ=σ:=by
  rw [List.filter_eq_self]
  intro p hp
  simp [lk,Ne.symm (h p hp)]
 unfold over
 rw [List.filter_cons_of_neg (by simp [lk]),this]
set_option maxHeartbeats 4000000 in
theorem c_withinS (p:Part) (hw:p.wt<=2^24) (hf:∀q,wtPs q<p.wt->RetS Tryz.prog W0 68 [.sl (q.map Part.enc)] [] (.sl ((shpPs q).map Part.enc)) []) :
  RetS Tryz.prog W0 113 [p.v,.fn 68 [] []] [] p.shp.v []:=by
 have hpw:=p.wt_eq
 have hsel:=c_sSel W0 p.kind
 have hlc:=len_wtCs p.cases
 have hcl:=c_cloneC W0 p.cases (by omega)
 have hpp:=hf p.parts (by omega)
 generalize hS:p.shp.v=S
 rw [p.shp_eq] at hS
 unfold Part.v at *
 refine fn_retW (vs:=[S]) f113ok (by simp) (by simp) fun n0 hn0=>?_
 clear hn0
 cases hs:selB p.kind with
 | false=>
  rw [hs] at hsel hS
  simp only [bq,if_true,if_false,Int.reduceBEq,reduceCtorEq] at hS
  subst hS
  simp only [push_cast,seval,reduceEqDiff]
  repeat' (first|(((first|apply condU_s|apply gdU_t|apply gdU_f)<;>intro _h)<;>simp only [push_cast,seval,reduceEqDiff,_h])|(refine c_call (by exact hsel) ?_;simp only [push_cast,seval,reduceEqDiff])|intro _)
  refine c_callsq hpp ?_
  simp only [push_cast,seval,reduceEqDiff]
  intros
  refine finW_rets ?_
  simp [push_cast,get]
 | true=>
  rw [hs] at hsel hS
  simp only [bq,if_true,if_false,Int.reduceBEq,reduceCtorEq] at hS
  have hTC:TCs=77:=rfl
  simp only [push_cast,seval,reduceEqDiff,List.length_map]
  repeat' (first|(((first|apply condU_s|apply gdU_t|apply gdU_f)<;>intro _h)<;>simp only [push_cast,seval,reduceEqDiff,_h,List.length_map])|(refine c_call (by exact hsel) ?_;simp only [push_cast,seval,reduceEqDiff,List.length_map])|intro _)
  refine c_calln hcl (fun i e h=>by simp [lk] at h) ?_
  rw [over_nil]
  simp only [push_cast,seval,reduceEqDiff,List.length_map]
  intro k1 k2
  rename_i b1 b2
  have hlt:n0<n0+1+b1+1+b2/\n0+1+b1+1+b2<n0+1+b1+1+b2+1+k1+1+k2:=by omega
  generalize n0+1+b1+1+b2+1+k1+1+k2=n1 at *
  generalize n0+1+b1+1+b2=c0 at *
  obtain ⟨hc0,hn1⟩:=hlt
  have e1:∀q j:Nat,((c0,j)=(n0,q))=False:=fun q j=>eq_false fun he=>by injection he with h1 h2;omega
  have e1':∀q j:Nat,((n0,q)=(c0,j))=False:=fun q j=>eq_false fun he=>of_eq_false (e1 q j) he.symm
  refine aWP_loopW p.cases.length (Inv:=fun m st=>∃dl cr n,dl++shpCs cr=shpCs p.cases/\m=cr.length/\dl.length+cr.length=p.cases.length/\(∀c∈cr,c∈p.cases)/\st=⟨[(1,.fn 68 [] []),(2,.ref (n0,2) 0),(4,.ref (n0,4) 0),(22,.i .i64 p.cases.length),(23,.i .i64 dl.length)],[((c0,18),.arr TCs 2 ((dl++cr).map Case.enc)),((n0,4),.box (.agg [.i .i64 0,.s [],.s [],.s [],.nil,.nil])),((n0,2),.box (.agg [.i .i64 p.kind,.s p.text,.s p.name,.s p.style,.arr (c0,18),.sl (p.parts.map Part.enc)]))],n⟩) ⟨_,StLe.refl,[],p.cases,_,rfl,rfl,by simp,fun _ h=>h,rfl⟩ ?_
  rintro m _ ⟨dl,cr,n,hz,rfl,hll,hmem,rfl⟩
  cases cr with
  | nil=>
   have hlt0:decide ((dl.length:Int)<(p.cases.length:Int))=false:=by rw [<-hll];simp
   rw [shpCs_nil,List.append_nil] at hz
   subst hz
   rw [List.append_nil]
   simp only [push_cast,seval,reduceEqDiff,hlt0,e1,e1']
   intros
   refine wkW_i (frz_boxM (e:=TCs) (sz:=2) (rid:=(n0,2)) (kid:=(c0,18)) (A:=[.i .i64 p.kind,.s p.text,.s p.name,.s p.style]) (B:=[.sl (p.parts.map Part.enc)]) (es:=(shpCs p.cases).map Case.enc) (τ:=[((n0,4),.box (.agg [.i .i64 0,.s [],.s [],.s [],.nil,.nil]))]) (fun he=>of_eq_false (e1' _ _) he) (by simp [lk,e1]) (by simp [lk]) (fun i e' h=>?_) (by simp [lk]) (okCe _) (fun s=>.inl rfl) (Nat.le_refl _)) ?_
   ·simp only [lk] at h
    split at h
    ·rename_i he;subst he;cases h
     exact ⟨by simp [lk,e1],fun h=>of_eq_false (e1' _ _) h⟩
    ·cases h
   subst hS
   simp only [push_cast,seval,reduceEqDiff,List.cons_append,List.nil_append]
   intros
   refine finW_rets ?_
   simp [push_cast,get]
  | cons c cr=>
   have hlt0:decide ((dl.length:Int)<(p.cases.length:Int))=true:=by rw [<-hll];simp;omega
   have hcb:dl.length<(dl++c::cr).length:=by simp
   have hcw:=wtCs_mem (hmem c (by simp))
   have hrc:=hf c.2 (by omega)
   have hget:((dl++c::cr).map Case.enc)[dl.length]? = some (.agg [.s c.1,.sl (c.2.map Part.enc)]):=by
    rw [List.getElem?_map,List.getElem?_append_right (by simp)];simp [Case.enc_eq]
   have hset:((dl++c::cr).map Case.enc).set dl.length (.agg [.s c.1,.sl ((shpPs c.2).map Part.enc)])=((dl++[(c.1,shpPs c.2)])++cr).map Case.enc:=by
    simp [List.set_append,Case.enc_eq]
   rw [shpCs_cons] at hz
   simp only [push_cast,seval,reduceEqDiff,hlt0,hget,hset,if_pos hcb,wrap_zip (c.1,shpPs c.2) (done:=dl) (by omega),List.length_map,TCs,e1,e1']
   intros
   refine c_callsAq hrc ?_
   simp only [push_cast,seval,reduceEqDiff,hlt0,hget,hset,if_pos hcb,wrap_zip (c.1,shpPs c.2) (done:=dl) (by omega),List.length_map,TCs,e1,e1']
   intros
   exact ⟨_,_,Nat.lt_succ_self _,StLe.refl,dl++[(c.1,shpPs c.2)],cr,_,by rw [<-hz];simp,rfl,by rw [<-hll];simp;omega,fun x hx=>hmem x (by simp [hx]),rfl⟩
set_option maxHeartbeats 4000000 in
theorem c_shape:∀(N:Nat) (ps:List Part),wtPs ps<N->wtPs ps<=2^24->RetS Tryz.prog W0 68 [.sl (ps.map Part.enc)] [] (.sl ((shpPs ps).map Part.enc)) []:=by
 intro N
 induction N with
 | zero=>intro ps h;omega
 | succ N ih=>
 intro ps hN hw0
 have hlen:=len_wtPs ps
 generalize hS:shpPs ps=S
 refine fn_retW (vs:=[.sl (S.map Part.enc)]) f68ok (by simp) (by simp) fun n0 hn0=>?_
 clear hn0
 simp only [push_cast,seval,reduceEqDiff]
 intro k1 k2 k3
 refine aWP_loopW ps.length (Inv:=fun m st=>∃done rest n id o,ps=done++rest/\m=rest.length/\o++shpPs rest=S/\o.length<=done.length/\id.1<n/\st=⟨[(3,.arr id),(6,.sl (ps.map Part.enc)),(7,.i .i64 ps.length),(8,.i .i64 done.length)],[(id,.arr TPt 6 (o.map Part.enc))],n⟩) ⟨_,(StLe.own (s:=3) (e:=TPt) (sz:=6) (k:=99) rfl).trans (StLe.envD (fun t=>?_) (Nat.le_refl _)),[],ps,_,_,[],rfl,rfl,hS,by simp,?_,rfl⟩ ?_
 ·left
  by_cases h3:3=t
  ·subst h3;rfl
  ·simp [get,h3]
 ·simp
 clear hS
 rintro m _ ⟨done,rest,n,id,o,hz,rfl,hd,hol,hin,rfl⟩
 cases rest with
 | nil=>
  simp only [List.append_nil] at hz
  subst hz
  rw [shpPs_nil,List.append_nil] at hd
  subst hd
  simp only [push_cast,seval,reduceEqDiff]
  intros
  exact finW_frz (e:=TPt) (sz:=6) rfl (okPt _) (by simp [lk])
 | cons p rest=>
  have hbd:=zip_bd hz
  have hwp:=wtPs_mem (ps:=ps) (p:=p) (by rw [hz];simp)
  have hso:=c_solid W0 p (by omega)
  have hwi:=c_withinS W0 p (by omega) (fun q hq=>ih q (by omega) (by omega))
  have fxi:∀k j,((n+1+k,j)=id)=False:=fun k j=>eq_false fun he=>by rw [<-he] at hin;simp at hin;omega
  have fix:∀k j,(id=(n+1+k,j))=False:=fun k j=>eq_false fun he=>of_eq_false (fxi k j) he.symm
  have hll:o.length+1<=LLim:=by unfold LLim;omega
  rw [shpPs_cons] at hd
  unfold Part.v at hso hwi
  cases hs:p.solid with
  | true=>
   rw [hs] at hso hd
   simp only [bq,if_true,if_false,Int.reduceBEq,reduceCtorEq] at hd
   simp only [push_cast,seval,reduceEqDiff,hz,wrap_zip p (done:=done) (by omega),fix,fxi,List.length_map]
   repeat' (first|(((first|apply condU_s|apply gdU_t|apply gdU_f)<;>intro _h)<;>simp only [push_cast,seval,reduceEqDiff,_h,hz,wrap_zip p (done:=done) (by omega),fix,fxi,List.length_map])|(refine c_call (by exact hso) ?_;simp only [push_cast,seval,reduceEqDiff,hz,wrap_zip p (done:=done) (by omega),fix,fxi,List.length_map])|intro _)
   exact ⟨_,_,Nat.lt_succ_self _,StLe.drop1 (by simp [lk,fxi,fix]) (Nat.le_refl _),done++[p],rest,_,id,o,by simp,rfl,hd,by simp;omega,by omega,rfl⟩
  | false=>
   rw [hs] at hso hd
   simp only [bq,if_true,if_false,Int.reduceBEq,reduceCtorEq] at hd
   have hps:((o++[p.shp]).map Part.enc)=o.map Part.enc++[.agg [.i .i64 p.shp.kind,.s p.shp.text,.s p.shp.name,.s p.shp.style,.sl (p.shp.cases.map Case.enc),.sl (p.shp.parts.map Part.enc)]]:=by simp [Part.enc_eq]
   generalize p.shp=P' at *
   simp only [push_cast,seval,reduceEqDiff,hz,wrap_zip p (done:=done) (by omega),fix,fxi,List.length_map]
   repeat' (first|(((first|apply condU_s|apply gdU_t|apply gdU_f)<;>intro _h)<;>simp only [push_cast,seval,reduceEqDiff,_h,hz,wrap_zip p (done:=done) (by omega),fix,fxi,List.length_map])|(refine c_call (by exact hso) ?_;simp only [push_cast,seval,reduceEqDiff,hz,wrap_zip p (done:=done) (by omega),fix,fxi,List.length_map])|intro _)
   refine c_callsq hwi ?_
   simp only [push_cast,seval,reduceEqDiff,hz,wrap_zip p (done:=done) (by omega),fix,fxi,List.length_map,<-hps,eq_true hll,TPt]
   intros
   exact ⟨_,_,Nat.lt_succ_self _,StLe.drop (fun i e h=>lk_app_left (τ:=[_]) h) (Nat.le_refl _),done++[p],rest,_,_,o++[P'],by simp,rfl,by rw [<-hd];simp,by simp;omega,by (try simp);omega,rfl⟩
def bx (l:List Leaf):Ent:=.box (.agg [.sl (l.map leafV)])
theorem finW_retsS {W0:World} {nt n:Nat} {rs:List R} {vs:List V} {env:Env} {σ σ':Sto} (h:ResOks ⟨env,σ,n⟩ rs vs) (hs:∀i e,lk σ' i=some e->lk σ i=some e):FinW W0 nt rs vs σ' .ret ⟨env,σ,n⟩:=
 ⟨_,StLe.refl,h,hs⟩
theorem finNW_S {W0:World} {nt n s:Nat} {env:Env} {σ σ':Sto} {id:Id} {x:Ent} (hs:get env s = .arr id) (hl:lk σ id=some x) (h':lk σ' id=none) (hσ:∀i e,lk σ' i=some e->lk σ i=some e):FinNW W0 nt s x σ' .ret ⟨env,σ,n⟩:=
 ⟨_,StLe.refl,id,hs,hl,h',hσ⟩
theorem lk_sing {b:Id} {E e:Ent} {i:Id} (h:lk [(b,E)] i=some e):i=b/\e=E:=by
 simp only [lk] at h
 split at h
 ·rename_i hh;cases h;exact ⟨hh.symm,rfl⟩
 ·cases h
theorem c_nextN (x:Leaf) (lf:List Leaf) (bid:Id) (hw:wtPs x.2<=2^24):RetN Tryz.prog W0 118 [.ref bid 0] [(bid,bx (x::lf))] (.arr TPt 6 (x.2.map Part.enc)) [(bid,bx lf)]:=by
 have hcl:=c_clonedN W0 _ x.2 (Nat.lt_succ_self _) hw
 unfold bx
 refine fn_newW (s:=2) f118ok (by simp) dom1 fun n0 hn0=>?_
 have hb:bid.1<n0:=hn0 bid (bx (x::lf)) (by simp [lk,bx])
 clear hn0
 have h1:∀j:Nat,((n0,j)=bid)=False:=fun j=>ne_idx hb
 have h2:∀k j:Nat,((n0+1+k,j)=bid)=False:=fun k j=>ne_idx (by omega)
 have h2':∀k j:Nat,(bid=(n0+1+k,j))=False:=fun k j=>eq_false fun he=>of_eq_false (h2 k j) he.symm
 have hsl:(if lf.length<=lf.length then some (V.sl (List.take lf.length (lf.map leafV))) else none)=some (V.sl (lf.map leafV)):=by
  rw [if_pos (Nat.le_refl _),List.take_of_length_le (by simp)]
 have hcel:∀y∈lf.map leafV,(cells y).length=2:=fun y hy=>by obtain ⟨x,_,rfl⟩:=List.mem_map.1 hy;rfl
 have h5:∀l:List V,(true=isA (V.sl l))=False:=fun l=>by simp [isA]
 simp only [push_cast,seval,reduceEqDiff,h1,h2,h2',leafV_eq x,List.length_map,hsl,eq_true hcel,h5]
 intros
 refine c_calln hcl (fun i e h=>by simp [lk] at h) ?_
 rw [over_nil]
 simp only [push_cast,seval,reduceEqDiff,h1,h2,h2',leafV_eq x,List.length_map,hsl,eq_true hcel,h5]
 intros
 rename_i q1 q2 q3 q4
 have g:∀j:Nat,((n0+1+q1+1+q2+1+q3,j)=bid)=False:=fun j=>ne_idx (by omega)
 have g':∀j:Nat,(bid=(n0+1+q1+1+q2+1+q3,j))=False:=fun j=>eq_false fun he=>of_eq_false (g j) he.symm
 refine finNW_S rfl (by simp [lk]) (by simp [lk,g']) (fun i e h=>?_)
 obtain ⟨rfl,rfl⟩:=lk_sing h
 simp [lk,g,h2]
theorem c_nextS (x:Leaf) (lf:List Leaf) (bid:Id) (hw:wtPs x.2<=2^24):RetS Tryz.prog W0 118 [.ref bid 0] [(bid,bx (x::lf))] (.sl (x.2.map Part.enc)) [(bid,bx lf)]:=retS_of_retN (c_nextN W0 x lf bid hw) (okPt _)
set_option maxHeartbeats 4000000 in
theorem c_withinB (p:Part) (l:List Leaf) (bid:Id) (hw:p.wt+wtLf (l.map Prod.snd)<=2^24) (hn:p.cnt<=l.length)
  (hf:∀(q:List Part) (l':List Leaf),wtPs q<p.wt->wtPs q+wtLf (l'.map Prod.snd)<=2^24->cntL q<=l'.length->RetS Tryz.prog W0 72 [.ref bid 0,.sl (q.map Part.enc)] [(bid,bx l')] (.sl ((bldL q (l'.map Prod.snd)).1.map Part.enc)) [(bid,bx (l'.drop (cntL q)))]) :
  RetS Tryz.prog W0 113 [p.v,.fn 72 [.ref bid 0] []] [(bid,bx l)] (p.bld (l.map Prod.snd)).1.v [(bid,bx (l.drop p.cnt))]:=by
 have hpw:=p.wt_eq
 have hsel:=c_sSel W0 p.kind
 have hlc:=len_wtCs p.cases
 have hcl:=c_cloneC W0 p.cases (by omega)
 have hpp:=hf p.parts l (by omega) (by omega)
 generalize hS:(p.bld (l.map Prod.snd)).1.v=S
 generalize hT:l.drop p.cnt=T
 rw [p.bld_eq] at hS
 rw [p.cnt_eq] at hT hn
 unfold Part.v at *
 refine fn_retW (vs:=[S]) f113ok (by simp) dom1 fun n0 hn0=>?_
 have hb:bid.1<n0:=hn0 bid (bx l) (by simp [lk])
 clear hn0
 have h1:∀j:Nat,((n0,j)=bid)=False:=fun j=>ne_idx hb
 have h1':∀j:Nat,(bid=(n0,j))=False:=fun j=>eq_false fun he=>of_eq_false (h1 j) he.symm
 cases hs:selB p.kind with
 | false=>
  rw [hs] at hsel hS hT hn
  simp only [bq,if_true,if_false,Int.reduceBEq,reduceCtorEq] at hS hT hn
  subst hS hT
  simp only [push_cast,seval,reduceEqDiff,h1,h1']
  repeat' (first|(((first|apply condU_s|apply gdU_t|apply gdU_f)<;>intro _h)<;>simp only [push_cast,seval,reduceEqDiff,_h,h1,h1'])|(refine c_call (by exact hsel) ?_;simp only [push_cast,seval,reduceEqDiff,h1,h1'])|intro _)
  refine c_calls (hpp hn) (fun i e h=>by obtain ⟨rfl,rfl⟩:=lk_sing h;simp [lk,h1]) ?_
  rw [show ∀a b c:Id × Ent,[a,b,c]=[a,b]++[c] from fun _ _ _=>rfl,over_pre (fun p hp q hq=>?_)]
  ·simp only [List.cons_append,List.nil_append]
   simp only [push_cast,seval,reduceEqDiff,h1,h1']
   intros
   refine finW_retsS ?_ (fun i e h=>?_)
   ·simp [push_cast,get,h1']
   ·obtain ⟨rfl,rfl⟩:=lk_sing h;simp [lk]
  ·simp only [List.mem_cons,List.not_mem_nil,or_false] at hp hq
   subst hq
   rcases hp with rfl|rfl<;>exact fun he=>of_eq_false (h1 _) he
 | true=>
  rw [hs] at hsel hS hT hn
  simp only [bq,if_true,if_false,Int.reduceBEq,reduceCtorEq] at hS hT hn
  simp only [push_cast,seval,reduceEqDiff,List.length_map,h1,h1']
  repeat' (first|(((first|apply condU_s|apply gdU_t|apply gdU_f)<;>intro _h)<;>simp only [push_cast,seval,reduceEqDiff,_h,List.length_map,h1,h1'])|(refine c_call (by exact hsel) ?_;simp only [push_cast,seval,reduceEqDiff,List.length_map,h1,h1'])|intro _)
  refine c_calln hcl (fun i e h=>by simp [lk] at h) ?_
  rw [over_nil]
  simp only [push_cast,seval,reduceEqDiff,List.length_map,h1,h1']
  intro k1 k2
  rename_i b1 b2
  have hlt:n0<n0+1+b1+1+b2/\n0+1+b1+1+b2<n0+1+b1+1+b2+1+k1+1+k2:=by omega
  generalize n0+1+b1+1+b2+1+k1+1+k2=n1 at *
  generalize n0+1+b1+1+b2=c0 at *
  obtain ⟨hc0,hn1⟩:=hlt
  have e1:∀q j:Nat,((c0,j)=(n0,q))=False:=fun q j=>eq_false fun he=>by injection he with h1 h2;omega
  have e1':∀q j:Nat,((n0,q)=(c0,j))=False:=fun q j=>eq_false fun he=>of_eq_false (e1 q j) he.symm
  have h2:∀j:Nat,((c0,j)=bid)=False:=fun j=>ne_idx (by omega)
  have h2':∀j:Nat,(bid=(c0,j))=False:=fun j=>eq_false fun he=>of_eq_false (h2 j) he.symm
  refine aWP_loopW p.cases.length (Inv:=fun m st=>∃dl cr n l2,dl++(bldCs cr (l2.map Prod.snd)).1=(bldCs p.cases (l.map Prod.snd)).1/\m=cr.length/\dl.length+cr.length=p.cases.length/\(∀c∈cr,c∈p.cases)/\l2.drop (cntCs cr)=T/\cntCs cr<=l2.length/\wtCs cr+wtLf (l2.map Prod.snd)<=2^24/\st=⟨[(1,.fn 72 [.ref bid 0] []),(2,.ref (n0,2) 0),(4,.ref (n0,4) 0),(22,.i .i64 p.cases.length),(23,.i .i64 dl.length)],[(bid,bx l2),((c0,18),.arr TCs 2 ((dl++cr).map Case.enc)),((n0,4),.box (.agg [.i .i64 0,.s [],.s [],.s [],.nil,.nil])),((n0,2),.box (.agg [.i .i64 p.kind,.s p.text,.s p.name,.s p.style,.arr (c0,18),.sl (p.parts.map Part.enc)]))],n⟩)
   ⟨_,StLe.drop (lk_rot (a:=(bid,bx l)) (σ:=[((c0,18),.arr TCs 2 (p.cases.map Case.enc)),((n0,4),.box (.agg [.i .i64 0,.s [],.s [],.s [],.nil,.nil])),((n0,2),.box (.agg [.i .i64 p.kind,.s p.text,.s p.name,.s p.style,.arr (c0,18),.sl (p.parts.map Part.enc)]))]) (fun q hq=>?_)) (Nat.le_refl _),[],p.cases,_,l,rfl,rfl,by simp,fun _ h=>h,hT,hn,by omega,rfl⟩ ?_
  ·simp only [List.mem_cons,List.not_mem_nil,or_false] at hq
   rcases hq with rfl|rfl|rfl
   ·exact fun he=>of_eq_false (h2 _) he
   ·exact fun he=>of_eq_false (h1 _) he
   ·exact fun he=>of_eq_false (h1 _) he
  clear hT hn
  rintro m _ ⟨dl,cr,n,l2,hz,rfl,hll,hmem,hT,hn,hwl,rfl⟩
  cases cr with
  | nil=>
   have hlt0:decide ((dl.length:Int)<(p.cases.length:Int))=false:=by rw [<-hll];simp
   rw [bldCs_nil,List.append_nil] at hz
   rw [cntCs_nil,List.drop_zero] at hT
   subst hz hT
   rw [List.append_nil]
   simp only [push_cast,seval,reduceEqDiff,hlt0,e1,e1',h1,h1',h2,h2']
   intros
   refine wkW_i (frz_boxM (e:=TCs) (sz:=2) (rid:=(n0,2)) (kid:=(c0,18)) (A:=[.i .i64 p.kind,.s p.text,.s p.name,.s p.style]) (B:=[.sl (p.parts.map Part.enc)]) (es:=((bldCs p.cases (l.map Prod.snd)).1).map Case.enc) (τ:=[(bid,bx l2),((n0,4),.box (.agg [.i .i64 0,.s [],.s [],.s [],.nil,.nil]))]) (fun he=>of_eq_false (e1' _ _) he) (by simp [lk,e1,h1']) (by simp [lk,h2']) (fun i e' h=>?_) (by simp [lk,h1']) (okCe _) (fun s=>.inl rfl) (Nat.le_refl _)) ?_
   ·simp only [lk] at h
    split at h
    ·rename_i he;subst he;cases h
     exact ⟨by simp [lk],fun h=>of_eq_false (h2' _) h⟩
    ·split at h
     ·rename_i he;subst he;cases h
      exact ⟨by simp [lk,e1,h1'],fun h=>of_eq_false (e1' _ _) h⟩
     ·cases h
   subst hS
   simp only [push_cast,seval,reduceEqDiff,List.cons_append,List.nil_append,h1,h1']
   intros
   refine finW_retsS ?_ (fun i e h=>?_)
   ·simp [push_cast,get,h1']
   ·obtain ⟨rfl,rfl⟩:=lk_sing h;simp [lk,h1]
  | cons c cr=>
   have hlt0:decide ((dl.length:Int)<(p.cases.length:Int))=true:=by rw [<-hll];simp;omega
   have hcb:dl.length<(dl++c::cr).length:=by simp
   have hcw:=wtCs_mem (hmem c (by simp))
   rw [wtCs_cons] at hwl
   rw [cntCs_cons] at hT hn
   have hrc:=hf c.2 l2 (by omega) (by omega) (by omega)
   have hrest:=bld_rest c.2 (l2.map Prod.snd)
   have hbw:=bld_wt c.2 (l2.map Prod.snd)
   rw [bldCs_cons,hrest,<-List.map_drop] at hz
   rw [hrest,<-List.map_drop] at hbw
   rw [<-List.drop_drop] at hT
   generalize bldL c.2 (l2.map Prod.snd)=BL at *
   have hget:((dl++c::cr).map Case.enc)[dl.length]? = some (.agg [.s c.1,.sl (c.2.map Part.enc)]):=by
    rw [List.getElem?_map,List.getElem?_append_right (by simp)];simp [Case.enc_eq]
   have hset:((dl++c::cr).map Case.enc).set dl.length (.agg [.s c.1,.sl (BL.1.map Part.enc)])=((dl++[(c.1,BL.1)])++cr).map Case.enc:=by
    simp [List.set_append,Case.enc_eq]
   simp only [push_cast,seval,reduceEqDiff,hlt0,hget,hset,if_pos hcb,wrap_zip (c.1,BL.1) (done:=dl) (by omega),List.length_map,TCs,e1,e1',h1,h1',h2,h2']
   intros
   refine c_callsA hrc (fun i e h=>by obtain ⟨rfl,rfl⟩:=lk_sing h;simp [lk]) (fun y hy id hid hne=>?_) ?_
   ·simp only [List.mem_cons,List.not_mem_nil,or_false] at hy
    subst hy
    simp only [refId_ref,Option.some.injEq] at hid
    subst hid
    rw [lk_over]
    simp [lk,h1']
   rw [over_one (fun q hq=>?_)]
   ·simp only [List.cons_append,List.nil_append]
    simp only [push_cast,seval,reduceEqDiff,hlt0,hget,hset,if_pos hcb,wrap_zip (c.1,BL.1) (done:=dl) (by omega),List.length_map,TCs,e1,e1',h1,h1',h2,h2']
    intros
    exact ⟨_,_,Nat.lt_succ_self _,StLe.refl,dl++[(c.1,BL.1)],cr,_,_,by rw [<-hz];simp,rfl,by rw [<-hll];simp;omega,fun x hx=>hmem x (by simp [hx]),hT,by rw [List.length_drop];omega,by omega,rfl⟩
   ·simp only [List.mem_cons,List.not_mem_nil,or_false] at hq
    rcases hq with rfl|rfl|rfl
    ·exact fun he=>of_eq_false (h2 _) he
    ·exact fun he=>of_eq_false (h1 _) he
    ·exact fun he=>of_eq_false (h1 _) he
set_option maxHeartbeats 4000000 in
theorem c_build (bid:Id):∀(N:Nat) (ps:List Part) (l:List Leaf),wtPs ps<N->wtPs ps+wtLf (l.map Prod.snd)<=2^24->cntL ps<=l.length->
  RetS Tryz.prog W0 72 [.ref bid 0,.sl (ps.map Part.enc)] [(bid,bx l)] (.sl ((bldL ps (l.map Prod.snd)).1.map Part.enc)) [(bid,bx (l.drop (cntL ps)))]:=by
 intro N
 induction N with
 | zero=>intro ps l h;omega
 | succ N ih=>
 intro ps l hN hw hn
 have hlen:=len_wtPs ps
 obtain ⟨x,l1,rfl⟩:∃x l1,l=x::l1:=by
  cases l with
  | nil=>simp [cntL] at hn
  | cons x l=>exact ⟨x,l,rfl⟩
 rw [List.map_cons,wtLf_cons] at hw
 have hn1:=c_nextN W0 x l1 bid (by omega)
 have hps24:wtPs ps<=2^24:=by omega
 generalize hT:(x::l1).drop (cntL ps)=T
 generalize hS:(bldL ps ((x::l1).map Prod.snd)).1=S
 have hS:x.2++(bldR ps (l1.map Prod.snd)).1=S:=hS
 rw [cntL,Nat.add_comm,List.drop_succ_cons] at hT
 rw [cntL,List.length_cons] at hn
 refine fn_retW (vs:=[.sl (S.map Part.enc)]) f72ok (by simp) dom1 fun n0 hn0=>?_
 have hb:bid.1<n0:=hn0 bid (bx (x::l1)) (by simp [lk])
 clear hn0
 have h1:∀j:Nat,((n0,j)=bid)=False:=fun j=>ne_idx hb
 have h1':∀j:Nat,(bid=(n0,j))=False:=fun j=>eq_false fun he=>of_eq_false (h1 j) he.symm
 simp only [push_cast,seval,reduceEqDiff]
 intros
 refine c_calln hn1 (fun i e h=>h) ?_
 rw [over_one (fun p hp=>by cases hp)]
 simp only [List.append_nil]
 simp only [push_cast,seval,reduceEqDiff]
 intro k1 k2
 rename_i b1
 refine aWP_loopW ps.length (Inv:=fun m st=>∃done rest n id o l2,ps=done++rest/\m=rest.length/\o++(bldR rest (l2.map Prod.snd)).1=S/\l2.drop (cntR rest)=T/\cntR rest<=l2.length/\wtPs o+wtPs rest+wtLf (l2.map Prod.snd)<=2^24/\n0<=id.1/\id.1<n/\st=⟨[(0,.ref bid 0),(5,.arr id),(10,.sl (ps.map Part.enc)),(11,.i .i64 ps.length),(12,.i .i64 done.length)],[(id,.arr TPt 6 (o.map Part.enc)),(bid,bx l2)],n⟩)
  ⟨_,StLe.refl,[],ps,_,(n0+1+b1,9),x.2,l1,rfl,rfl,hS,hT,by omega,by omega,by simp only;omega,by simp only;omega,rfl⟩ ?_
 clear hS hT hn hn1 hw
 rintro m _ ⟨done,rest,n,id,o,l2,hz,rfl,hS,hT,hn,hw,hi0,hin,rfl⟩
 have hib:(id=bid)=False:=eq_false fun he=>by rw [he] at hi0;omega
 have hib':(bid=id)=False:=eq_false fun he=>of_eq_false hib he.symm
 cases rest with
 | nil=>
  simp only [List.append_nil] at hz
  subst hz
  rw [bldR_nil,List.append_nil] at hS
  rw [cntR_nil,List.drop_zero] at hT
  subst hS hT
  simp only [push_cast,seval,reduceEqDiff]
  intros
  exact finW_frzS (e:=TPt) (sz:=6) rfl (okPt _) (by simp [lk]) (fun i e h=>by
   obtain ⟨rfl,rfl⟩:=lk_sing h
   exact ⟨by simp [lk,hib],fun he=>of_eq_false hib' he⟩)
 | cons p rest=>
  have hbd:=zip_bd hz
  have hwp:=wtPs_mem (ps:=ps) (p:=p) (by rw [hz];simp)
  rw [wtPs_cons] at hw
  rw [cntR_cons] at hn hT
  have hwi:=c_withinB W0 p l2 bid (by omega) (by omega) (fun q l' h1 h2 h3=>ih q l' (by omega) h2 h3)
  have hrest:=bldP_rest p (l2.map Prod.snd)
  have hbw:=bldP_wt p (l2.map Prod.snd)
  rw [bldR_cons,hrest,<-List.map_drop] at hS
  rw [hrest,<-List.map_drop] at hbw
  rw [<-List.drop_drop] at hT
  obtain ⟨y,l4,hy⟩:∃y l4,l2.drop p.cnt=y::l4:=by
   cases hd:l2.drop p.cnt with
   | nil=>
    have:=congrArg List.length hd
    rw [List.length_drop] at this
    simp [cntL] at hn this;omega
   | cons y l=>exact ⟨y,l,rfl⟩
  have hl4:l4.length+1=l2.length-p.cnt:=by
   have:=congrArg List.length hy
   rw [List.length_drop] at this
   simp at this;omega
  rw [hy] at hwi hS hT hbw
  rw [List.map_cons,wtLf_cons] at hbw
  have hne:=c_nextS W0 y l4 bid (by omega)
  rw [cntL,Nat.add_comm,List.drop_succ_cons] at hT
  have hS:o++(p.bld (l2.map Prod.snd)).1::(y.2++(bldR rest (l4.map Prod.snd)).1)=S:=hS
  have hol:=len_wtPs o
  have hyl:=len_wtPs y.2
  have fxi:∀k j,((n+1+k,j)=id)=False:=fun k j=>eq_false fun he=>by rw [<-he] at hin;simp at hin;omega
  have fix:∀k j,(id=(n+1+k,j))=False:=fun k j=>eq_false fun he=>of_eq_false (fxi k j) he.symm
  have fxb:∀k j,((n+1+k,j)=bid)=False:=fun k j=>ne_idx (by omega)
  have fxb':∀k j,(bid=(n+1+k,j))=False:=fun k j=>eq_false fun he=>of_eq_false (fxb k j) he.symm
  generalize (p.bld (l2.map Prod.snd)).1=B at *
  have hll1:o.length+1<=LLim:=by unfold LLim;omega
  have hps1:o.map Part.enc++[.agg [.i .i64 B.kind,.s B.text,.s B.name,.s B.style,.sl (B.cases.map Case.enc),.sl (B.parts.map Part.enc)]]=(o++[B]).map Part.enc:=by simp [Part.enc_eq]
  have hps2:(o++[B]).map Part.enc++y.2.map Part.enc=(o++[B]++y.2).map Part.enc:=by simp
  have hll2:(o++[B]).length+y.2.length<=LLim:=by simp [LLim];omega
  have hwt:wtPs (o++[B]++y.2)+wtPs rest+wtLf (l4.map Prod.snd)<=2^24:=by
   rw [wtPs_app,wtPs_app,wtPs_cons,wtPs_nil];omega
  have hl0:=hbd
  unfold Part.v at hwi
  simp only [push_cast,seval,reduceEqDiff,hz,wrap_zip p (done:=done) (by omega),fix,fxi,fxb,fxb',hib,hib',List.length_map]
  intros
  refine c_calls hwi (fun i e h=>by obtain ⟨rfl,rfl⟩:=lk_sing h;simp [lk,hib,fxb]) ?_
  rw [show ∀a b c:Id × Ent,[a,b,c]=[a,b]++[c] from fun _ _ _=>rfl,over_pre (fun p hp q hq=>?_)]
  ·simp only [List.cons_append,List.nil_append]
   simp only [push_cast,seval,reduceEqDiff,hz,wrap_zip p (done:=done) (by omega),fix,fxi,fxb,fxb',hib,hib',List.length_map,eq_true hll1,eq_true hll2,hps1,hps2,TPt]
   intros
   rename_i q1 q2 q3
   have e1:∀k j,((n+1+q1+1+q2+1+k,j)=bid)=False:=fun k j=>ne_idx (by omega)
   have e1':∀k j,(bid=(n+1+q1+1+q2+1+k,j))=False:=fun k j=>eq_false fun he=>of_eq_false (e1 k j) he.symm
   have e2:∀j,((n+1+q1+1+q2,j)=bid)=False:=fun j=>ne_idx (by omega)
   have e2':∀j,(bid=(n+1+q1+1+q2,j))=False:=fun j=>eq_false fun he=>of_eq_false (e2 j) he.symm
   refine c_calls hne (fun i e h=>by obtain ⟨rfl,rfl⟩:=lk_sing h;simp [lk,e2]) ?_
   rw [show ∀a b c:Id × Ent,[a,b,c]=[a]++[b]++[c] from fun _ _ _=>rfl,over_mid (fun p hp q hq=>?_) (fun p hp q hq=>?_)]
   ·simp only [List.cons_append,List.nil_append]
    have hcy:∀z∈y.2.map Part.enc,(cells z).length=6:=fun z hz=>by obtain ⟨q,_,rfl⟩:=List.mem_map.1 hz;rw [cells_enc];rfl
    simp only [push_cast,seval,reduceEqDiff,hz,wrap_zip p (done:=done) (by omega),fix,fxi,fxb,fxb',eq_true hcy,e1,e1',e2,e2',List.length_map,eq_true hll2,hps2,TPt]
    intros
    refine ⟨_,_,Nat.lt_succ_self _,StLe.drop (fun i e h=>lk_app_left (τ:=[_]) h) (Nat.le_refl _),done++[p],rest,_,_,o++[B]++y.2,l4,by simp,rfl,by rw [<-hS];simp,hT,?_,hwt,?_,?_,rfl⟩
    ·simp only [cntL] at hn;omega
    ·simp only;omega
    ·simp only;omega
   ·simp only [List.mem_cons,List.not_mem_nil,or_false] at hp hq
    subst hp hq
    exact fun he=>of_eq_false (e2 _) he
   ·simp only [List.mem_cons,List.not_mem_nil,or_false] at hp hq
    subst hp hq
    exact fun he=>of_eq_false (fxb _ _) he
  ·simp only [List.mem_cons,List.not_mem_nil,or_false] at hp hq
   subst hq
   rcases hp with rfl|rfl
   ·exact fun he=>of_eq_false (fxb _ _) he
   ·exact fun he=>of_eq_false hib he
theorem StLe.ownBox {W0:World} {nt n:Nat} {env:Env} {τ:Sto} {rid:Id} {A B:List V} (e sz k:Nat):StLe W0 nt ⟨env,(rid,.box (.agg (A ++ .nil::B)))::τ,n⟩ ⟨env,((n,k),.arr e sz [])::(rid,.box (.agg (A ++ .arr (n,k)::B)))::τ,n+1⟩:=by
 intro B' a w hat
 obtain ⟨μ,H,hr,hp,hf,hold,hbn⟩:=hat
 have hnone:μ (n,k)=none:=hp.bd _ (Nat.le_refl _)
 have hmono:=setμ_mono (v:=.slice none 0 0) hnone
 have hl0:lk ((rid,Ent.box (.agg (A ++ .nil::B)))::τ) rid=some (.box (.agg (A ++ .nil::B))):=by simp [lk]
 have hne:((n,k):Id)≠rid:=by
  rintro rfl
  obtain ⟨_,hm⟩:=(hp.ents _ _ hl0).named
  rw [hnone] at hm;cases hm
 have hnew:=(hp.more (Nat.le_succ n)).new_ (n':=n+1) (w':=w) (R:=fun _=>False) ⟨rfl,rfl,rfl,Nat.le_refl _,fun _ _ _=>rfl⟩ (fun _ h=>h.elim) (σ1:=(rid,.box (.agg (A ++ .nil::B)))::τ) (fun id e h=>⟨h,fun _ _ h=>h⟩) (id:=(n,k)) (e:=.arr e sz []) (val:=.slice none 0 0) hnone (Nat.lt_succ_self _) (Nat.le_refl _) (fun bk hb=>by simp [blk] at hb)
  ⟨.slice none 0 0,[],setμ_self _ _ _,rfl,World.ownsRow_nil w _ e sz,Nat.zero_le _,(fun x hx=>by cases hx),CRel.nil_⟩
 have hl1:lk (((n,k),Ent.arr e sz [])::(rid,.box (.agg (A ++ .nil::B)))::τ) rid=some (.box (.agg (A ++ .nil::B))):=by simp [lk,hne]
 have hset:=hnew.1.set_ hl1 (w':=w) (e:=.box (.agg (A ++ .arr (n,k)::B))) ⟨rfl,rfl,rfl,Nat.le_refl _,fun _ _ _=>rfl⟩ (by
  obtain ⟨bk,vals,t,h1,h2,h3,h4⟩:=hnew.1.ents _ _ hl1
  refine ⟨bk,vals,t,h1,h2,h3,⟨⟨by have:=h4.len;simpa [cells] using this,fun j c v hc hv=>?_⟩,h4.one⟩⟩
  simp only [cells] at hc
  by_cases hj:j<A.length
  ·rw [List.getElem?_append_left hj] at hc
   exact h4.at_ j c v (by simp only [cells];rw [List.getElem?_append_left hj];exact hc) hv
  ·rw [List.getElem?_append_right (by omega)] at hc
   cases hq:j-A.length with
   | zero=>
    rw [hq] at hc
    simp only [List.getElem?_cons_zero,Option.some.injEq] at hc
    subst hc
    have:=h4.at_ j .nil v (by simp only [cells];rw [List.getElem?_append_right (by omega),hq];rfl) hv
    rw [this.nil_inv]
    exact .arr _ _ (setμ_self _ _ _) rfl
   | succ q=>
    rw [hq] at hc
    simp only [List.getElem?_cons_succ] at hc
    exact h4.at_ j c v (by simp only [cells];rw [List.getElem?_append_right (by omega),hq];exact hc) hv)
 have hu:upd (((n,k),Ent.arr e sz [])::(rid,.box (.agg (A ++ .nil::B)))::τ) rid (.box (.agg (A ++ .arr (n,k)::B)))=((n,k),.arr e sz [])::(rid,.box (.agg (A ++ .arr (n,k)::B)))::τ:=by simp [upd,hne]
 rw [hu] at hset
 refine ⟨_,H,⟨hr.size,hr.defers,fun s'=>(hr.at_ s').mono hmono (fun _ _ h=>h)⟩,hset.1,hf.trans (hnew.2.trans hset.2),fun id hid h0=>?_,Nat.le_trans hbn (Nat.le_succ _)⟩
 simp only at hbn
 rw [setμ_ne _ _ (by rintro rfl;simp at hid;omega)]
 exact hold id hid h0
theorem enc_dig {n:Nat} (h:n<10):(Utf8.encode (48+(n:Int))).data.toList=[UInt8.ofNat (48+n)]:=by
 have:∀m:_root_.Fin 10,(Utf8.encode (48+((m.1:Nat):Int))).data.toList=[UInt8.ofNat (48+m.1)]:=by decide
 have h2:=this ⟨n,h⟩
 simp only at h2
 exact h2
theorem wrap32 {n:Int} (h1:0<=n) (h2:n<2147483648):IntKind.i32.wrap n=n:=by
 simp only [IntKind.wrap,IntKind.bits,IntKind.signed]
 simp
 omega
theorem decN_len20 (n:Nat) (h:n<2^40):(decN n).length<=20:=by
 unfold decN
 rw [Lib.decDigits_length]
 exact Lib.nDigits_le20 _ (by omega)
set_option maxHeartbeats 4000000 in
theorem c_rnumber:∀(n:Nat),n<2^40->RetS Tryz.prog W0 119 [.i .i64 n] [] (.s (decN n)) []:=by
 intro n
 induction n using Nat.strongRecOn with
 | ind n ih=>
 intro hn
 have hd:=decN_eq n
 have hw1:IntKind.i64.wrap (48+(n:Int))=48+(n:Int):=wrap64 (by omega) (by omega)
 generalize hS:decN n=S
 rw [hS] at hd
 by_cases hlt:n<10
 ·rw [if_pos hlt] at hd
  have hlt':decide ((n:Int)<10)=true:=by simp;omega
  have hw2:IntKind.i32.wrap (48+(n:Int))=48+(n:Int):=wrap32 (by omega) (by omega)
  have he:=enc_dig hlt
  rw [<-hd] at he
  refine fn_retW (vs:=[.s S]) f119ok (by simp) (by simp) fun n0 hn0=>?_
  clear hn0
  simp only [push_cast,seval,reduceEqDiff,hlt',hw1,hw2,he]
  intros
  exact finW_ret (by simp [get,he])
 ·rw [if_neg hlt] at hd
  have hlt':decide ((n:Int)<10)=false:=by simp;omega
  have hih:=ih (n / 10) (by omega) (by omega)
  have hq:(n:Int).tdiv 10=((n / 10:Nat):Int):=rfl
  have hm:(n:Int).tmod 10=((n % 10:Nat):Int):=rfl
  have hr:n % 10<10:=Nat.mod_lt _ (by decide)
  have hq2:n / 10<2^40:=by omega
  have hql:=decN_len20 _ hq2
  generalize n % 10=r at *
  generalize n / 10=q at *
  have hw0:IntKind.i64.wrap (q:Int)=(q:Int):=wrap64 (by omega) (by omega)
  have hwr:IntKind.i64.wrap (r:Int)=(r:Int):=wrap64 (by omega) (by omega)
  have hw1:IntKind.i64.wrap (48+(r:Int))=48+(r:Int):=wrap64 (by omega) (by omega)
  have hw2:IntKind.i32.wrap (48+(r:Int))=48+(r:Int):=wrap32 (by omega) (by omega)
  have he:=enc_dig hr
  generalize decN q=D at *
  refine fn_retW (vs:=[.s S]) f119ok (by simp) (by simp) fun n0 hn0=>?_
  clear hn0
  simp only [push_cast,seval,reduceEqDiff,hlt',hw0,hwr,hw1,hw2,he,hq,hm,hd]
  repeat' (first|(((first|apply condU_s|apply gdU_t|apply gdU_f)<;>intro _h)<;>simp only [push_cast,seval,reduceEqDiff,_h,hlt',hw0,hwr,hw1,hw2,he,hq,hm,hd])|((first|refine c_call (by exact hih) ?_|refine jp_i (by simp only [List.length_append,List.length_cons,List.length_nil,SLim]<;>omega) ?_);simp only [push_cast,seval,reduceEqDiff,hlt',hw0,hwr,hw1,hw2,he,hq,hm,hd])|intro _)
  exact finW_ret (by simp [get,hd])
theorem cut1 {ps done rest:List Part} {p:Part} (hz:ps=done++p::rest):(if done.length<=(done++[p]).length/\(done++[p]).length<=ps.length then some (V.sl (List.drop done.length (List.take (done++[p]).length (ps.map Part.enc)))) else none)=some (V.sl [p.enc]):=by
 rw [if_pos ⟨by simp,by rw [hz];simp⟩,hz,show done++p::rest=(done++[p])++rest by simp,List.map_append,List.take_append_of_le_length (by simp),List.take_of_length_le (by simp),List.map_append,List.drop_append_of_le_length (by simp)]
 simp
theorem c_rsolid (p:Part) (hw:p.wt<=2^24):RetS Tryz.prog W0 17 [.sl [p.v]] [] (.b p.solid) []:=by
 have:=c_rPlain W0 _ [p] (Nat.lt_succ_self _) (by rw [wtPs_cons,wtPs_nil];omega)
 simp only [List.map_cons,List.map_nil,Part.enc_eq,plainPs_cons,plainPs_nil,Bool.and_true] at this
 exact this
set_option maxHeartbeats 4000000 in
theorem c_rshape:∀(N:Nat) (ps:List Part),wtPs ps<N->wtPs ps<=2^24->RetS Tryz.prog W0 74 [.sl (ps.map Part.enc)] [] (.sl ((rshpPs ps).map Part.enc)) []:=by
 intro N
 induction N with
 | zero=>intro ps h;omega
 | succ N ih=>
 intro ps hN hw0
 have hlen:=len_wtPs ps
 generalize hS:rshpPs ps=S
 refine fn_retW (vs:=[.sl (S.map Part.enc)]) f74ok (by simp) (by simp) fun n0 hn0=>?_
 clear hn0
 simp only [push_cast,seval,reduceEqDiff]
 intro k1 k2 k3
 refine aWP_loopW ps.length (Inv:=fun m st=>∃done rest n id o,ps=done++rest/\m=rest.length/\o++rshpPs rest=S/\o.length<=done.length/\id.1<n/\st=⟨[(0,.sl (ps.map Part.enc)),(3,.arr id),(4,.i .i64 done.length)],[(id,.arr TPt 6 (o.map Part.enc))],n⟩) ⟨_,(StLe.own (s:=3) (e:=TPt) (sz:=6) (k:=99) rfl).trans (StLe.envD (fun t=>?_) (Nat.le_refl _)),[],ps,_,_,[],rfl,rfl,hS,by simp,?_,rfl⟩ ?_
 ·left
  by_cases h3:3=t
  ·subst h3;rfl
  ·simp [get,h3]
 ·simp
 clear hS
 rintro m _ ⟨done,rest,n,id,o,hz,rfl,hd,hol,hin,rfl⟩
 cases rest with
 | nil=>
  simp only [List.append_nil] at hz
  subst hz
  rw [rshpPs_nil,List.append_nil] at hd
  subst hd
  simp only [push_cast,seval,reduceEqDiff]
  intros
  exact finW_frz (e:=TPt) (sz:=6) rfl (okPt _) (by simp [lk])
 | cons p rest=>
  have hbd:=zip_bd hz
  have hwp:=wtPs_mem (ps:=ps) (p:=p) (by rw [hz];simp)
  have hpw:=p.wt_eq
  have hpl:=c_rsolid W0 p (by omega)
  unfold Part.v at hpl
  have hget:(ps.map Part.enc)[done.length]? = some p.enc:=by rw [hz,List.getElem?_map,List.getElem?_append_right (by simp)];simp
  have hlt0:decide ((done.length:Int)<(ps.length:Int))=true:=by rw [hz];simp;omega
  have hcut:=cut1 hz
  have hcel:=celPt ps
  have fxi:∀k j,((n+1+k,j)=id)=False:=fun k j=>eq_false fun he=>by rw [<-he] at hin;simp at hin;omega
  have fix:∀k j,(id=(n+1+k,j))=False:=fun k j=>eq_false fun he=>of_eq_false (fxi k j) he.symm
  rw [rshpPs_cons] at hd
  cases hs:p.solid with
  | true=>
   rw [hs] at hpl hd
   simp only [bq,if_true,if_false,Int.reduceBEq,reduceCtorEq] at hd
   simp only [push_cast,seval,reduceEqDiff,hlt0,hget,if_pos hbd,wrap_zip p (done:=done) (by omega),fix,fxi,List.length_map,hcut,eq_true hcel]
   repeat' (first|(((first|apply condU_s|apply gdU_t|apply gdU_f)<;>intro _h)<;>simp only [push_cast,seval,reduceEqDiff,_h,hlt0,hget,if_pos hbd,wrap_zip p (done:=done) (by omega),fix,fxi,List.length_map,hcut,eq_true hcel])|(refine c_call (by exact hpl) ?_;simp only [push_cast,seval,reduceEqDiff,hlt0,hget,if_pos hbd,wrap_zip p (done:=done) (by omega),fix,fxi,List.length_map,hcut,eq_true hcel])|intro _)
   exact ⟨_,_,Nat.lt_succ_self _,StLe.drop1 (by simp [lk,fxi,fix]) (Nat.le_refl _),done++[p],rest,_,id,o,by rw [hz];simp,rfl,hd,by simp;omega,by omega,rfl⟩
  | false=>
   rw [hs] at hpl hd
   simp only [bq,if_true,if_false,Int.reduceBEq,reduceCtorEq] at hd
   rw [p.rshp_eq] at hd
   have hih:=ih p.parts (by omega) (by omega)
   have hlc:=len_wtCs p.cases
   generalize rshpPs p.parts=RP at *
   simp only [push_cast,seval,reduceEqDiff,hlt0,hget,if_pos hbd,wrap_zip p (done:=done) (by omega),fix,fxi,List.length_map,hcut,eq_true hcel]
   repeat' (first|(((first|apply condU_s|apply gdU_t|apply gdU_f)<;>intro _h)<;>simp only [push_cast,seval,reduceEqDiff,_h,hlt0,hget,if_pos hbd,wrap_zip p (done:=done) (by omega),fix,fxi,List.length_map,hcut,eq_true hcel])|((first|refine c_call (by exact hpl) ?_|refine c_call (by exact hih) ?_);simp only [push_cast,seval,reduceEqDiff,hlt0,hget,if_pos hbd,wrap_zip p (done:=done) (by omega),fix,fxi,List.length_map,hcut,eq_true hcel])|intro _)
   rename_i b1 b2 b3 b4 b5
   have hx:id.1<n+1+b1/\n+1+b1<n+1+b1+1+b2+1+b3/\n+1+b1+1+b2+1+b3<n+1+b1+1+b2+1+b3+1+b4+1+b5:=by omega
   generalize n+1+b1+1+b2+1+b3+1+b4+1+b5=n2 at *
   generalize n+1+b1+1+b2+1+b3=y0 at *
   generalize n+1+b1=x0 at *
   obtain ⟨hx1,hx2,hx3⟩:=hx
   have c1:∀j:Nat,((x0,j)=id)=False:=fun j=>eq_false fun he=>(by have:=congrArg Prod.fst he;(try simp only at this);omega)
   have c1':∀j:Nat,(id=(x0,j))=False:=fun j=>eq_false fun he=>of_eq_false (c1 j) he.symm
   have c2:∀j:Nat,((y0,j)=id)=False:=fun j=>eq_false fun he=>(by have:=congrArg Prod.fst he;(try simp only at this);omega)
   have c2':∀j:Nat,(id=(y0,j))=False:=fun j=>eq_false fun he=>of_eq_false (c2 j) he.symm
   have c3:∀j q:Nat,((x0,j)=(y0,q))=False:=fun j q=>eq_false fun he=>(by have:=congrArg Prod.fst he;(try simp only at this);omega)
   have c3':∀j q:Nat,((y0,q)=(x0,j))=False:=fun j q=>eq_false fun he=>of_eq_false (c3 j q) he.symm
   refine aWP_loopW p.cases.length (Inv:=fun m st=>∃cd cr n yid dl,p.cases=cd++cr/\m=cr.length/\dl++rshpCs cr=rshpCs p.cases/\dl.length=cd.length/\y0<yid.1/\yid.1<n/\st=⟨[(0,.sl (ps.map Part.enc)),(3,.arr id),(4,.i .i64 done.length),(5,.ref (x0,5) 0),(6,.ref (y0,6) 0),(7,.i .i64 cd.length)],[(yid,.arr TCs 2 (dl.map Case.enc)),((y0,6),.box (.agg ([.i .i64 p.kind,.s [],.s p.name,.s []] ++ .arr yid::[.sl (RP.map Part.enc)]))),((x0,5),.box (.agg [.i .i64 p.kind,.s p.text,.s p.name,.s p.style,.sl (p.cases.map Case.enc),.sl (p.parts.map Part.enc)])),(id,.arr TPt 6 (o.map Part.enc))],n⟩)
    ⟨_,StLe.ownBox (A:=[.i .i64 p.kind,.s [],.s p.name,.s []]) TCs 2 99,[],p.cases,_,(n2,99),[],rfl,rfl,rfl,rfl,by simp only;omega,by simp only;omega,rfl⟩ ?_
   rintro m _ ⟨cd,cr,n3,yid,dl,hcz,rfl,hdl,hll,hy1,hy2,rfl⟩
   have d1:∀j:Nat,((x0,j)=yid)=False:=fun j=>eq_false fun he=>(by have:=congrArg Prod.fst he;(try simp only at this);omega)
   have d1':∀j:Nat,(yid=(x0,j))=False:=fun j=>eq_false fun he=>of_eq_false (d1 j) he.symm
   have d2:∀j:Nat,((y0,j)=yid)=False:=fun j=>eq_false fun he=>(by have:=congrArg Prod.fst he;(try simp only at this);omega)
   have d2':∀j:Nat,(yid=(y0,j))=False:=fun j=>eq_false fun he=>of_eq_false (d2 j) he.symm
   have d3:(id=yid)=False:=eq_false fun he=>(by have:=congrArg Prod.fst he;(try simp only at this);omega)
   have d3':(yid=id)=False:=eq_false fun he=>of_eq_false (d3) he.symm
   cases cr with
   | nil=>
    have hlt1:decide ((cd.length:Int)<(p.cases.length:Int))=false:=by rw [hcz];simp
    rw [rshpCs_nil,List.append_nil] at hdl
    subst hdl
    simp only [push_cast,seval,reduceEqDiff,hlt1,List.length_map,List.cons_append,List.nil_append,c1,c1',c2,c2',c3,c3',d1,d1',d2,d2',d3,d3']
    intros
    refine wkW_i (frz_boxM (e:=TCs) (sz:=2) (rid:=(y0,6)) (kid:=yid) (A:=[.i .i64 p.kind,.s [],.s p.name,.s []]) (B:=[.sl (RP.map Part.enc)]) (es:=(rshpCs p.cases).map Case.enc) (τ:=[((x0,5),.box (.agg [.i .i64 p.kind,.s p.text,.s p.name,.s p.style,.sl (p.cases.map Case.enc),.sl (p.parts.map Part.enc)])),(id,.arr TPt 6 (o.map Part.enc))]) (fun he=>of_eq_false (d2 _) he) (by simp [lk,d2']) (by simp [lk]) (fun i e' h=>?_) (by simp [lk,c3,c2']) (okCe _) (fun s=>.inl rfl) (Nat.le_refl _)) ?_
    ·simp only [lk] at h
     split at h
     ·rename_i he;subst he;cases h
      exact ⟨by simp [lk,d1',c3'],fun h=>of_eq_false (d1 _) h⟩
     ·split at h
      ·rename_i he;subst he;cases h
       exact ⟨by simp [lk,d3',c1,c2],fun h=>of_eq_false d3 h⟩
      ·cases h
    have hps:o.map Part.enc++[.agg [.i .i64 p.kind,.s [],.s p.name,.s [],.sl ((rshpCs p.cases).map Case.enc),.sl (RP.map Part.enc)]]=(o++[(⟨p.kind,[],p.name,[],rshpCs p.cases,RP⟩:Part)]).map Part.enc:=by simp [Part.enc_eq]
    have hll1:o.length+1<=LLim:=by unfold LLim;omega
    simp only [push_cast,seval,reduceEqDiff,List.length_map,List.cons_append,List.nil_append,c1,c1',c2,c2',c3,c3',eq_true hll1,hps,TPt,wrap_zip p (done:=done) (by omega)]
    intros
    exact ⟨_,_,Nat.lt_succ_self _,StLe.drop (fun i e h=>lk_app_left (τ:=[_,_]) h) (Nat.le_refl _),done++[p],rest,_,_,_,by rw [hz];simp,rfl,by rw [<-hd];simp,by simp;omega,by (try simp only);omega,rfl⟩
   | cons c cr=>
    have hlt1:decide ((cd.length:Int)<(p.cases.length:Int))=true:=by rw [hcz];simp;omega
    have hcb:=zip_bd hcz
    have hcw:=wtCs_mem (cs:=p.cases) (c:=c) (by rw [hcz];simp)
    have hrc:=ih c.2 (by omega) (by omega)
    have hgc:(p.cases.map Case.enc)[cd.length]? = some (.agg [.s c.1,.sl (c.2.map Part.enc)]):=by
     rw [hcz,List.getElem?_map,List.getElem?_append_right (by simp)];simp [Case.enc_eq]
    rw [rshpCs_cons] at hdl
    generalize rshpPs c.2=RC at *
    have hdc:dl.map Case.enc++[.agg [.s c.1,.sl (RC.map Part.enc)]]=(dl++[(c.1,RC)]).map Case.enc:=by simp [Case.enc_eq]
    have hll1:dl.length+1<=LLim:=by unfold LLim;omega
    have e1:∀k j q:Nat,((n3+1+k,j)=(y0,q))=False:=fun k j q=>eq_false fun he=>(by have:=congrArg Prod.fst he;(try simp only at this);omega)
    have e1':∀k j q:Nat,((y0,q)=(n3+1+k,j))=False:=fun k j q=>eq_false fun he=>of_eq_false (e1 k j q) he.symm
    have e2:∀k j:Nat,((n3+1+k,j)=yid)=False:=fun k j=>eq_false fun he=>(by have:=congrArg Prod.fst he;(try simp only at this);omega)
    have e2':∀k j:Nat,(yid=(n3+1+k,j))=False:=fun k j=>eq_false fun he=>of_eq_false (e2 k j) he.symm
    simp only [push_cast,seval,reduceEqDiff,hlt1,hgc,if_pos hcb,List.length_map,List.cons_append,List.nil_append,c1,c1',c2,c2',c3,c3',d1,d1',d2,d2',d3,d3',e1,e1',e2,e2',hdc,eq_true hll1,TCs,wrap_zip c (done:=cd) (by omega)]
    repeat' (first|(((first|apply condU_s|apply gdU_t|apply gdU_f)<;>intro _h)<;>simp only [push_cast,seval,reduceEqDiff,_h,hlt1,hgc,if_pos hcb,List.length_map,List.cons_append,List.nil_append,c1,c1',c2,c2',c3,c3',d1,d1',d2,d2',d3,d3',e1,e1',e2,e2',hdc,eq_true hll1,TCs,wrap_zip c (done:=cd) (by omega)])|(refine c_call (by exact hrc) ?_;simp only [push_cast,seval,reduceEqDiff,hlt1,hgc,if_pos hcb,List.length_map,List.cons_append,List.nil_append,c1,c1',c2,c2',c3,c3',d1,d1',d2,d2',d3,d3',e1,e1',e2,e2',hdc,eq_true hll1,TCs,wrap_zip c (done:=cd) (by omega)])|intro _)
    exact ⟨_,_,Nat.lt_succ_self _,StLe.refl,cd++[c],cr,_,_,dl++[(c.1,RC)],by rw [hcz];simp,rfl,by rw [<-hdl];simp,by simp [hll],by (try simp only);omega,by (try simp only);omega,rfl⟩
def TRL:Nat:=112
theorem okLf (l:List Leaf):∀y∈l.map leafV,y.ok=true:=by
 intro y hy;obtain ⟨x,_,rfl⟩:=List.mem_map.1 hy;rfl
theorem celLf (l:List Leaf):∀y∈l.map leafV,(cells y).length=2:=by
 intro y hy;obtain ⟨x,_,rfl⟩:=List.mem_map.1 hy;rfl
theorem rlvs_len:∀(N:Nat) (ps:List Part),wtPs ps<N->∀pa n run,(rlvsPs ps pa n run).length<=1+2*wtPs ps:=by
 intro N
 induction N with
 | zero=>intro ps h;omega
 | succ N ih=>
  have hcs:∀cs:List Case,wtCs cs<N->∀pa,(rlvsCs cs pa).length<=2*wtCs cs:=by
   intro cs
   induction cs with
   | nil=>intro _ pa;simp [rlvsCs_nil]
   | cons c cs ih2=>
    intro h pa;rw [wtCs_cons] at h;rw [rlvsCs_cons,wtCs_cons,List.length_append]
    have h1:=ih c.2 (by omega) (pa++c.1++[47]) 0 [];have h2:=ih2 (by omega) pa;omega
  intro ps
  induction ps with
  | nil=>intro _ pa n run;simp [rlvsPs_nil]
  | cons p ps ih2=>
   intro h pa n run;rw [wtPs_cons] at h;rw [rlvsPs_cons,wtPs_cons]
   have hw:=p.wt_eq
   split
   ·have:=ih2 (by omega) pa n (run++[p]);omega
   ·have h3:=ih2 (by omega) pa (n+1) []
    have h4:(p.rlvs (pa++decN (n+1)++[47])).length+1<=2*p.wt:=by
     rw [p.rlvs_eq,List.length_append]
     have h5:=hcs p.cases (by omega) (pa++decN (n+1)++[47])
     have h6:=ih p.parts (by omega) (pa++decN (n+1)++[47]) 0 []
     split
     ·omega
     ·simp only [List.length_nil];omega
    rw [List.length_cons,List.length_append];omega
theorem rlvsPs_len (ps:List Part) (pa:Bytes) (n:Nat) (run:List Part):(rlvsPs ps pa n run).length<=1+2*wtPs ps:=rlvs_len _ ps (Nat.lt_succ_self _) pa n run
theorem rlvsCs_lenB (cs:List Case) (pa:Bytes):(rlvsCs cs pa).length<=2*wtCs cs:=by
 induction cs with
 | nil=>simp [rlvsCs_nil]
 | cons c cs ih=>rw [rlvsCs_cons,wtCs_cons,List.length_append];have:=rlvsPs_len c.2 (pa++c.1++[47]) 0 [];omega
set_option maxHeartbeats 4000000 in
theorem rleaves_loop (p:Part) (inner:Bytes) (a0 a1 a7 a8:V) (x0:Nat) (oid0:Id) (o0:List Leaf) (m0:Nat) (hi0:x0<oid0.1) (hi1:oid0.1<m0) (hpw:wtCs p.cases<=2^24) (ho:o0.length+2*wtCs p.cases<=2^26) (hin:inner.length<=2^32)
  (hcall:∀c∈p.cases,RetS Tryz.prog W0 75 [.sl (c.2.map Part.enc),.s (inner++c.1++[47])] [] (.sl ((rlvsPs c.2 (inner++c.1++[47]) 0 []).map leafV)) []) (Q:Exit->St->Prop)
  (hQ:∀oid n,x0<oid.1->oid.1<n->Q (.exit 2) ⟨[(0,a0),(1,a1),(5,.arr oid),(6,.nil),(7,a7),(8,a8),(9,.ref (x0,9) 0),(10,.s inner),(11,.i .i64 p.cases.length),(61,.b false)],[(oid,.arr TRL 2 ((o0++rlvsCs p.cases inner).map leafV)),((x0,9),.box p.v)],n⟩) :
  LoopW Tryz.prog W0 91 f75_45 Q ⟨[(0,a0),(1,a1),(5,.arr oid0),(6,.nil),(7,a7),(8,a8),(9,.ref (x0,9) 0),(10,.s inner),(11,.i .i64 0)],[(oid0,.arr TRL 2 (o0.map leafV)),((x0,9),.box p.v)],m0⟩:=by
 generalize hS:o0++rlvsCs p.cases inner=S at hQ
 have hlc:=len_wtCs p.cases
 unfold Part.v at *
 refine aWP_loopW p.cases.length (Inv:=fun m st=>∃cd cr n oid o,p.cases=cd++cr/\m=cr.length/\o++rlvsCs cr inner=S/\o.length+2*wtCs cr<=2^26/\x0<oid.1/\oid.1<n/\st=⟨[(0,a0),(1,a1),(5,.arr oid),(6,.nil),(7,a7),(8,a8),(9,.ref (x0,9) 0),(10,.s inner),(11,.i .i64 cd.length)],[(oid,.arr TRL 2 (o.map leafV)),((x0,9),.box (.agg [.i .i64 p.kind,.s p.text,.s p.name,.s p.style,.sl (p.cases.map Case.enc),.sl (p.parts.map Part.enc)]))],n⟩) ⟨_,StLe.refl,[],p.cases,_,oid0,o0,rfl,rfl,hS,ho,hi0,hi1,rfl⟩ ?_
 clear hS ho hi0 hi1
 rintro m _ ⟨cd,cr,n,oid,o,hcz,rfl,hd,ho,hi0,hi1,rfl⟩
 have d1:∀j:Nat,((x0,j)=oid)=False:=fun j=>eq_false fun he=>(by have:=congrArg Prod.fst he;(try simp only at this);omega)
 have d1':∀j:Nat,(oid=(x0,j))=False:=fun j=>eq_false fun he=>of_eq_false (d1 j) he.symm
 cases cr with
 | nil=>
  have hlt1:decide ((cd.length:Int)<(p.cases.length:Int))=false:=by rw [hcz];simp
  have hcl:cd.length=p.cases.length:=by rw [hcz];simp
  rw [rlvsCs_nil,List.append_nil] at hd
  subst hd
  simp only [push_cast,seval,reduceEqDiff,hlt1,List.length_map,d1,d1']
  intros
  rw [hcl]
  exact hQ _ _ hi0 (by omega)
 | cons c cr=>
  have hlt1:decide ((cd.length:Int)<(p.cases.length:Int))=true:=by rw [hcz];simp;omega
  have hcb:=zip_bd hcz
  have hcw:=wtCs_mem (cs:=p.cases) (c:=c) (by rw [hcz];simp)
  have hrc:=hcall c (by rw [hcz];simp)
  have hgc:(p.cases.map Case.enc)[cd.length]? = some (.agg [.s c.1,.sl (c.2.map Part.enc)]):=by
   rw [hcz,List.getElem?_map,List.getElem?_append_right (by simp)];simp [Case.enc_eq]
  rw [rlvsCs_cons] at hd
  rw [wtCs_cons] at ho
  have hrl:=rlvsPs_len c.2 (inner++c.1++[47]) 0 []
  generalize rlvsPs c.2 (inner++c.1++[47]) 0 []=RL at *
  have hll1:o.length+RL.length<=LLim:=by unfold LLim;omega
  have hcel:=celLf RL
  have e1:∀k j q:Nat,((n+1+k,j)=(x0,q))=False:=fun k j q=>eq_false fun he=>(by have:=congrArg Prod.fst he;(try simp only at this);omega)
  have e1':∀k j q:Nat,((x0,q)=(n+1+k,j))=False:=fun k j q=>eq_false fun he=>of_eq_false (e1 k j q) he.symm
  have e2:∀k j:Nat,((n+1+k,j)=oid)=False:=fun k j=>eq_false fun he=>(by have:=congrArg Prod.fst he;(try simp only at this);omega)
  have e2':∀k j:Nat,(oid=(n+1+k,j))=False:=fun k j=>eq_false fun he=>of_eq_false (e2 k j) he.symm
  simp only [push_cast,seval,reduceEqDiff,hlt1,hgc,if_pos hcb,List.length_map,d1,d1',e1,e1',e2,e2',eq_true hll1,eq_true hcel,<-List.map_append,TRL,wrap_zip c (done:=cd) (by omega)]
  repeat' (first|(((first|apply condU_s|apply gdU_t|apply gdU_f)<;>intro _h)<;>simp only [push_cast,seval,reduceEqDiff,_h,hlt1,hgc,if_pos hcb,List.length_map,d1,d1',e1,e1',e2,e2',eq_true hll1,eq_true hcel,<-List.map_append,TRL,wrap_zip c (done:=cd) (by omega)])|((first|refine c_call (by exact hrc) ?_|refine jp_i (by simp only [List.length_append,List.length_cons,List.length_nil,SLim]<;>omega) ?_);simp only [push_cast,seval,reduceEqDiff,hlt1,hgc,if_pos hcb,List.length_map,d1,d1',e1,e1',e2,e2',eq_true hll1,eq_true hcel,<-List.map_append,TRL,wrap_zip c (done:=cd) (by omega)])|intro _)
  exact ⟨_,_,Nat.lt_succ_self _,StLe.refl,cd++[c],cr,_,_,o++RL,by rw [hcz];simp,rfl,by rw [<-hd];simp,by rw [List.length_append];omega,by (try simp only);omega,by (try simp only);omega,rfl⟩
set_option maxHeartbeats 4000000 in
theorem c_rleaves:∀(N:Nat) (ps:List Part) (pa:Bytes),wtPs ps<N->wtPs ps<=2^24->pa.length+32*wtPs ps<=2^32->
  RetS Tryz.prog W0 75 [.sl (ps.map Part.enc),.s pa] [] (.sl ((rlvsPs ps pa 0 []).map leafV)) []:=by
 intro N
 induction N with
 | zero=>intro ps pa h;omega
 | succ N ih=>
 intro ps pa hN hw0 hpa
 have hlen:=len_wtPs ps
 generalize hS:rlvsPs ps pa 0 []=S
 refine fn_retW (vs:=[.sl (S.map leafV)]) f75ok (by simp) (by simp) fun n0 hn0=>?_
 clear hn0
 simp only [push_cast,seval,reduceEqDiff]
 intro k1 k2 k3 k4 k5
 generalize n0+1+k1+1+k2+1+k3+1+k4+1+k5=n1
 refine aWP_loopW ps.length (Inv:=fun m st=>∃done rest n rid oid run o j,ps=done++rest/\m=rest.length/\o++rlvsPs rest pa j run=S/\wtPs run+wtPs rest<=wtPs ps/\o.length+2*wtPs rest<=2*wtPs ps/\j<=done.length/\rid.1<n/\oid.1<n/\oid≠rid/\st=⟨[(0,.sl (ps.map Part.enc)),(1,.s pa),(5,.arr oid),(6,.arr rid),(7,.i .i64 j),(8,.i .i64 done.length)],[(rid,.arr TPt 6 (run.map Part.enc)),(oid,.arr TRL 2 (o.map leafV))],n⟩)
  ⟨_,(StLe.own (s:=5) (e:=TRL) (sz:=2) (k:=99) rfl).trans ((StLe.own (s:=6) (e:=TPt) (sz:=6) (k:=99) rfl).trans (StLe.envD (fun t=>?_) (Nat.le_refl _))),[],ps,_,_,_,[],[],0,rfl,rfl,hS,by rw [wtPs_nil];omega,by simp,by simp,?_,?_,?_,rfl⟩ ?_
 ·left
  by_cases h5:5=t
  ·subst h5;rfl
  by_cases h6:6=t
  ·subst h6;rfl
  ·simp [get,h5,h6]
 ·simp only;omega
 ·simp only;omega
 ·simp
 clear hS
 rintro m _ ⟨done,rest,n,rid,oid,run,o,j,hz,rfl,hd,hrw,how,hj,hin,hio,hne,rfl⟩
 have q1:(oid=rid)=False:=eq_false hne
 have q1':(rid=oid)=False:=eq_false (Ne.symm hne)
 cases rest with
 | nil=>
  have hlt0:decide ((done.length:Int)<(ps.length:Int))=false:=by rw [hz];simp
  rw [rlvsPs_nil] at hd
  have hnum:=c_rnumber W0 j (by have:done.length<=ps.length:=by (rw [hz];simp)
                                omega)
  have hl1:=decN_len20 j (by have:done.length<=ps.length:=by (rw [hz];simp)
                             omega)
  generalize decN j=DJ at *
  have hps:o.map leafV++[.agg [.s (pa++DJ),.sl (run.map Part.enc)]]=(o++[(pa++DJ,run)]).map leafV:=by simp [leafV]
  have hll1:o.length+1<=LLim:=by unfold LLim;omega
  simp only [push_cast,seval,reduceEqDiff,hlt0,q1,q1',List.length_map]
  intros
  refine wkW_i (frz_slot (s:=6) (rid:=rid) (e:=TPt) (sz:=6) (es:=run.map Part.enc) (τ:=[(oid,.arr TRL 2 (o.map leafV))]) rfl (by simp [lk]) (fun i e' h=>?_) (okPt _) (Nat.le_refl _)) ?_
  ·obtain ⟨rfl,rfl⟩:=lk_sing h
   exact ⟨by simp [lk,q1'],hne⟩
  subst hd
  simp only [push_cast,seval,reduceEqDiff,q1,q1',List.length_map,hps,eq_true hll1,TRL]
  repeat' (first|(((first|apply condU_s|apply gdU_t|apply gdU_f)<;>intro _h)<;>simp only [push_cast,seval,reduceEqDiff,_h,q1,q1',List.length_map,hps,eq_true hll1,TRL])|((first|refine c_call (by exact hnum) ?_|refine jp_i (by simp only [List.length_append,List.length_cons,List.length_nil,SLim]<;>omega) ?_);simp only [push_cast,seval,reduceEqDiff,q1,q1',List.length_map,hps,eq_true hll1,TRL])|intro _)
  exact finW_frz (e:=TRL) (sz:=2) rfl (okLf _) (by simp [lk,TRL])
 | cons p rest=>
  have hbd:=zip_bd hz
  have hwp:=wtPs_mem (ps:=ps) (p:=p) (by rw [hz];simp)
  have hpw:=p.wt_eq
  have hpl:=c_rsolid W0 p (by omega)
  unfold Part.v at hpl
  have hget:(ps.map Part.enc)[done.length]? = some p.enc:=by rw [hz,List.getElem?_map,List.getElem?_append_right (by simp)];simp
  have hlt0:decide ((done.length:Int)<(ps.length:Int))=true:=by rw [hz];simp;omega
  have hcut:=cut1 hz
  have hcel:=celPt ps
  have fxr:∀k j:Nat,((n+1+k,j)=rid)=False:=fun k j=>eq_false fun he=>(by have:=congrArg Prod.fst he;(try simp only at this);omega)
  have fxr':∀k j:Nat,(rid=(n+1+k,j))=False:=fun k j=>eq_false fun he=>of_eq_false (fxr k j) he.symm
  have fxo:∀k j:Nat,((n+1+k,j)=oid)=False:=fun k j=>eq_false fun he=>(by have:=congrArg Prod.fst he;(try simp only at this);omega)
  have fxo':∀k j:Nat,(oid=(n+1+k,j))=False:=fun k j=>eq_false fun he=>of_eq_false (fxo k j) he.symm
  rw [rlvsPs_cons] at hd
  rw [wtPs_cons] at hrw how
  cases hs:p.solid with
  | true=>
   rw [hs] at hpl hd
   simp only [bq,if_true,if_false,Int.reduceBEq,reduceCtorEq] at hd
   have hrl:=len_wtPs run
   have hps:run.map Part.enc++[.agg [.i .i64 p.kind,.s p.text,.s p.name,.s p.style,.sl (p.cases.map Case.enc),.sl (p.parts.map Part.enc)]]=(run++[p]).map Part.enc:=by simp [Part.enc_eq]
   have hll1:run.length+1<=LLim:=by unfold LLim;omega
   simp only [push_cast,seval,reduceEqDiff,hlt0,hget,if_pos hbd,wrap_zip p (done:=done) (by omega),q1,q1',fxr,fxr',fxo,fxo',List.length_map,hcut,eq_true hcel,hps,eq_true hll1,TPt]
   repeat' (first|(((first|apply condU_s|apply gdU_t|apply gdU_f)<;>intro _h)<;>simp only [push_cast,seval,reduceEqDiff,_h,hlt0,hget,if_pos hbd,wrap_zip p (done:=done) (by omega),q1,q1',fxr,fxr',fxo,fxo',List.length_map,hcut,eq_true hcel,hps,eq_true hll1,TPt])|(refine c_call (by exact hpl) ?_;simp only [push_cast,seval,reduceEqDiff,hlt0,hget,if_pos hbd,wrap_zip p (done:=done) (by omega),q1,q1',fxr,fxr',fxo,fxo',List.length_map,hcut,eq_true hcel,hps,eq_true hll1,TPt])|intro _)
   refine ⟨_,_,Nat.lt_succ_self _,StLe.dropM (by simp [lk,fxo']) (Nat.le_refl _),done++[p],rest,_,_,oid,run++[p],o,j,by rw [hz];simp,rfl,hd,by rw [wtPs_app,wtPs_cons,wtPs_nil];omega,by omega,by simp;omega,?_,?_,?_,rfl⟩
   ·simp only;omega
   ·omega
   ·rintro rfl;simp at hio;omega
  | false=>
   rw [hs] at hpl hd
   simp only [bq,if_true,if_false,Int.reduceBEq,reduceCtorEq] at hd
   rw [p.rlvs_eq] at hd
   simp only [push_cast,seval,reduceEqDiff,hlt0,hget,if_pos hbd,wrap_zip p (done:=done) (by omega),q1,q1',fxr,fxr',fxo,fxo',List.length_map,hcut,eq_true hcel]
   repeat' (first|(((first|apply condU_s|apply gdU_t|apply gdU_f)<;>intro _h)<;>simp only [push_cast,seval,reduceEqDiff,_h,hlt0,hget,if_pos hbd,wrap_zip p (done:=done) (by omega),q1,q1',fxr,fxr',fxo,fxo',List.length_map,hcut,eq_true hcel])|(refine c_call (by exact hpl) ?_;simp only [push_cast,seval,reduceEqDiff,hlt0,hget,if_pos hbd,wrap_zip p (done:=done) (by omega),q1,q1',fxr,fxr',fxo,fxo',List.length_map,hcut,eq_true hcel])|intro _)
   rename_i b1 b2 b3
   have hx:n<n+1+b1/\n+1+b1<n+1+b1+1+b2+1+b3:=by omega
   generalize n+1+b1+1+b2+1+b3=n2 at *
   generalize n+1+b1=x0 at *
   obtain ⟨hx1,hx2⟩:=hx
   have c1:∀j:Nat,((x0,j)=rid)=False:=fun j=>eq_false fun he=>(by have:=congrArg Prod.fst he;(try simp only at this);omega)
   have c1':∀j:Nat,(rid=(x0,j))=False:=fun j=>eq_false fun he=>of_eq_false (c1 j) he.symm
   have c2:∀j:Nat,((x0,j)=oid)=False:=fun j=>eq_false fun he=>(by have:=congrArg Prod.fst he;(try simp only at this);omega)
   have c2':∀j:Nat,(oid=(x0,j))=False:=fun j=>eq_false fun he=>of_eq_false (c2 j) he.symm
   refine wkW_i (frz_slot (s:=6) (rid:=rid) (e:=TPt) (sz:=6) (es:=run.map Part.enc) (τ:=[((x0,9),.box (.agg [.i .i64 p.kind,.s p.text,.s p.name,.s p.style,.sl (p.cases.map Case.enc),.sl (p.parts.map Part.enc)])),(oid,.arr TRL 2 (o.map leafV))]) rfl (by simp [lk,c1]) (fun i e' h=>?_) (okPt _) (Nat.le_refl _)) ?_
   ·simp only [lk] at h
    split at h
    ·rename_i he;subst he;cases h
     exact ⟨by simp [lk],fun h=>of_eq_false (c1 _) h⟩
    ·split at h
     ·rename_i he;subst he;cases h
      exact ⟨by simp [lk,q1',c2],hne⟩
     ·cases h
   have hnum:=c_rnumber W0 j (by omega)
   have hnum2:=c_rnumber W0 (j+1) (by omega)
   have hl1:=decN_len20 j (by omega)
   have hl2:=decN_len20 (j+1) (by omega)
   have hwj:IntKind.i64.wrap ((j:Int)+1)=((j+1:Nat):Int):=by rw [wrap64 (by omega) (by omega)];simp
   have hnum2':RetS Tryz.prog W0 119 [.i .i64 ((j:Int)+1)] [] (.s (decN (j+1))) []:=hnum2
   generalize hin1:pa++decN (j+1)++[47]=inner at *
   generalize decN j=DJ at *
   generalize hDL:decN (j+1)=DL at *
   have hps:o.map leafV++[.agg [.s (pa++DJ),.sl (run.map Part.enc)]]=(o++[(pa++DJ,run)]).map leafV:=by simp [leafV]
   have hll1:o.length+1<=LLim:=by unfold LLim;omega
   simp only [push_cast,seval,reduceEqDiff,q1,q1',c1,c1',c2,c2',List.length_map,hps,eq_true hll1,hwj,TRL]
   repeat' (first|(((first|apply condU_s|apply gdU_t|apply gdU_f)<;>intro _h)<;>simp only [push_cast,seval,reduceEqDiff,_h,q1,q1',c1,c1',c2,c2',List.length_map,hps,eq_true hll1,hwj,TRL])|((first|refine c_call (by exact hnum) ?_|refine c_call (by exact hnum2') ?_|refine jp_i (by simp only [List.length_append,List.length_cons,List.length_nil,SLim]<;>omega) ?_);simp only [push_cast,seval,reduceEqDiff,q1,q1',c1,c1',c2,c2',List.length_map,hps,eq_true hll1,hwj,TRL])|intro _)
   all_goals
    have hcall:∀c∈p.cases,RetS Tryz.prog W0 75 [.sl (c.2.map Part.enc),.s (inner++c.1++[47])] [] (.sl ((rlvsPs c.2 (inner++c.1++[47]) 0 []).map leafV)) []:=fun c hc=>by
     have:=wtCs_mem hc
     exact ih c.2 _ (by omega) (by omega) (by rw [<-hin1];simp only [List.length_append,List.length_cons,List.length_nil];omega)
    have hil:inner.length<=2^32:=by rw [<-hin1];simp only [List.length_append,List.length_cons,List.length_nil];omega
    have hih:=ih p.parts inner (by omega) (by omega) (by rw [<-hin1];simp only [List.length_append,List.length_cons,List.length_nil];omega)
    have hrl:=rlvsPs_len p.parts inner 0 []
    generalize rlvsPs p.parts inner 0 []=RL at *
    have hll2:(o++[(pa++DJ,run)]).length+RL.length<=LLim:=by simp only [List.length_append,List.length_cons,List.length_nil];unfold LLim;omega
    have hcl2:=celLf RL
    have hcs:=rlvsCs_lenB p.cases inner
   ·have hk:=_h
    rw [hk,if_pos rfl] at hd
    simp only [hin1]
    repeat' (first|(((first|apply condU_s|apply gdU_t|apply gdU_f)<;>intro _h)<;>simp only [push_cast,seval,reduceEqDiff,_h,q1,q1',c1,c1',c2,c2',hin1,List.length_map,eq_true hll2,eq_true hcl2,<-List.map_append,TRL])|((first|refine c_call (by exact hih) ?_|refine jp_i (by simp only [List.length_append,List.length_cons,List.length_nil,SLim]<;>omega) ?_);simp only [push_cast,seval,reduceEqDiff,q1,q1',c1,c1',c2,c2',hin1,List.length_map,eq_true hll2,eq_true hcl2,<-List.map_append,TRL])|intro _)
    refine rleaves_loop W0 p inner _ _ _ _ x0 _ (o++[(pa++DJ,run)]++RL) _ ?_ ?_ (by omega) ?_ hil hcall _ (fun oid' n' g1 g2=>?_)
    ·simp only;omega
    ·simp only;omega
    ·simp only [List.length_append,List.length_cons,List.length_nil];omega
    simp only [push_cast,seval,reduceEqDiff,c1,c1',wrap_zip p (done:=done) (by omega)]
    intros
    refine ⟨_,⟨[(0,.sl (ps.map Part.enc)),(1,.s pa),(5,.arr oid'),(6,.arr (_,99)),(7,.i .i64 ((j+1:Nat):Int)),(8,.i .i64 (done++[p]).length)],_,_⟩,Nat.lt_succ_self _,(StLe.own (s:=6) (e:=TPt) (sz:=6) (k:=99) rfl).trans ((StLe.envD (fun t=>?_) (Nat.le_refl _)).trans (StLe.drop (fun i e h=>lk_app_left (τ:=[_]) h) (Nat.le_refl _))),done++[p],rest,_,_,oid',[],o++[(pa++DJ,run)]++RL++rlvsCs p.cases inner,j+1,by rw [hz];simp,rfl,by rw [<-hd];simp,by rw [wtPs_nil];omega,?_,?_,?_,?_,?_,rfl⟩
    ·left
     by_cases h6:6=t
     ·subst h6;rfl
     ·simp [get,h6]
    ·simp only [List.length_append,List.length_cons,List.length_nil];omega
    ·simp only [List.length_append,List.length_cons,List.length_nil];omega
    ·simp only;omega
    ·omega
    ·rintro rfl;simp at g2;omega
   ·have hk:=_h
    rw [hk,if_neg (by simp),List.nil_append] at hd
    simp only [hin1]
    refine rleaves_loop W0 p inner _ _ _ _ x0 _ (o++[(pa++DJ,run)]) _ ?_ ?_ (by omega) ?_ hil hcall _ (fun oid' n' g1 g2=>?_)
    ·simp only;omega
    ·simp only;omega
    ·simp only [List.length_append,List.length_cons,List.length_nil];omega
    simp only [push_cast,seval,reduceEqDiff,c1,c1',wrap_zip p (done:=done) (by omega)]
    intros
    refine ⟨_,⟨[(0,.sl (ps.map Part.enc)),(1,.s pa),(5,.arr oid'),(6,.arr (_,99)),(7,.i .i64 ((j+1:Nat):Int)),(8,.i .i64 (done++[p]).length)],_,_⟩,Nat.lt_succ_self _,(StLe.own (s:=6) (e:=TPt) (sz:=6) (k:=99) rfl).trans ((StLe.envD (fun t=>?_) (Nat.le_refl _)).trans (StLe.drop (fun i e h=>lk_app_left (τ:=[_]) h) (Nat.le_refl _))),done++[p],rest,_,_,oid',[],o++[(pa++DJ,run)]++rlvsCs p.cases inner,j+1,by rw [hz];simp,rfl,by rw [<-hd];simp,by rw [wtPs_nil];omega,?_,?_,?_,?_,?_,rfl⟩
    ·left
     by_cases h6:6=t
     ·subst h6;rfl
     ·simp [get,h6]
    ·simp only [List.length_append,List.length_cons,List.length_nil];omega
    ·simp only [List.length_append,List.length_cons,List.length_nil];omega
    ·simp only;omega
    ·omega
    ·rintro rfl;simp at g2;omega
end Go.Ir
